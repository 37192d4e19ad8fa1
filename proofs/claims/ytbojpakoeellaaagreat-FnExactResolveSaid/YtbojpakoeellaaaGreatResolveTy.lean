/- The structures of the program, as mathematical records. Conditions: none. -/
import Derived.Test.YtbojpakoeellaaaGreatResolveDd
set_option linter.all false
noncomputable section
namespace Go.DM
structure bB where
 aX:aC
 cz:Int
structure aM where
 aX:List Int
 cz:Int
def bB.enc (x:bB):List L:=[.sl x.aX,.int x.cz]
def bB.dec (r:List L):bB:=⟨((aA 0 r).headD .hole).aS,((aA 1 r).headD .hole).toInt⟩
instance :RT bB:=⟨bB.enc,bB.dec,2,fun _ _=>rfl,fun _ _=>rfl⟩
def bB.at (xs:aC)(i:Nat):bB:=bB.dec (List.getD xs i [])
def aM.r (x:aM):bB:=⟨(x.aX.map aZ),x.cz⟩
def aM.row (x:aM):List L:=bB.enc x.r
def aM.zero:aM:=⟨[],0⟩
def aM.dA {a b:aM}(h:a.r=b.r):a=b:=by
 cases a;cases b
 simp only [aM.r,bB.mk.injEq] at h
 obtain ⟨h0,h1⟩:=h
 simp only [aM.mk.injEq]
 exact ⟨(map_inj lE h0),h1⟩
def aM.cY {a b:aM}(h:aM.row a=aM.row b):a=b:=aM.dA (congrArg bB.dec h)
def aM.dI {xs:List aM}{i:Nat}:bB.at (xs.map aM.row) i=(xs.getD i aM.zero).r:=eV (r:=fun x=>aM.r x) (fun _=>rfl) rfl
def aM.zc (x:aM):(aM.r x).aX=(x.aX.map aZ):=Eq.trans rfl rfl
def aM.zq (x:aM):(aM.r x).cz=x.cz:=Eq.trans rfl rfl
instance :Row aM:=⟨aM.row,aM.cY⟩
instance :Im aM bB:=⟨aM.r,aM.dA⟩
def aM.rs:(∀(xs:List aM) (i:Nat),bB.at (xs.map aM.row) i=(xs.getD i aM.zero).r)/\(∀x:aM,(aM.r x).aX=(x.aX.map aZ))/\(∀x:aM,(aM.r x).cz=x.cz):=⟨fun _ _=>aM.dI,aM.zc,aM.zq⟩
def aM.Sm (n:Nat)(x:aM):Prop:=bM n (fun y:Int=>True) x.aX
def aM.size (x:aM):Nat:=dP (fun y:Int=>0) x.aX
def aM.dc {n m:Nat}(hn:n<=m){x:aM}(h:aM.Sm n x):aM.Sm m x:=h.mono hn (fun x hx=>trivial)
def aM.gq {n:Nat}{x:aM}(h:x.size<=n):aM.Sm n x:=by
 unfold aM.size at h
 have g0:dP (fun y:Int=>0) x.aX<=n:=by omega
 exact jf g0 (fun x hx=>trivial)
structure bX where
 bD:Int
 cD:Int
 bJ:Int
 cA:Int
 cu:Int
 ck:Int
 cQ:Int
 dw:Int
 bO:bB
 bA:bB
 cT:Int
 bt:bB
 bC:Bool
structure aE where
 bD:Int
 cD:Int
 bJ:Int
 cA:Int
 cu:Int
 ck:Int
 cQ:Int
 dw:Int
 bO:aM
 bA:aM
 cT:Int
 bt:aM
 bC:Bool
def bX.enc (x:bX):List L:=[.int x.bD,.int x.cD,.int x.bJ,.int x.cA,.int x.cu,.int x.ck,.int x.cQ,.int x.dw,.sl x.bO.aX,.int x.bO.cz,.sl x.bA.aX,.int x.bA.cz,.int x.cT,.sl x.bt.aX,.int x.bt.cz,.bool x.bC]
def bX.dec (r:List L):bX:=⟨((aA 0 r).headD .hole).toInt,((aA 1 r).headD .hole).toInt,((aA 2 r).headD .hole).toInt,((aA 3 r).headD .hole).toInt,((aA 4 r).headD .hole).toInt,((aA 5 r).headD .hole).toInt,((aA 6 r).headD .hole).toInt,((aA 7 r).headD .hole).toInt,⟨((aA 8 r).headD .hole).aS,((aA 9 r).headD .hole).toInt⟩,⟨((aA 10 r).headD .hole).aS,((aA 11 r).headD .hole).toInt⟩,((aA 12 r).headD .hole).toInt,⟨((aA 13 r).headD .hole).aS,((aA 14 r).headD .hole).toInt⟩,((aA 15 r).headD .hole).toBool⟩
instance :RT bX:=⟨bX.enc,bX.dec,16,fun _ _=>rfl,fun _ _=>rfl⟩
def bX.at (xs:aC)(i:Nat):bX:=bX.dec (List.getD xs i [])
def aE.r (x:aE):bX:=⟨x.bD,x.cD,x.bJ,x.cA,x.cu,x.ck,x.cQ,x.dw,(aM.r x.bO),(aM.r x.bA),x.cT,(aM.r x.bt),x.bC⟩
def aE.row (x:aE):List L:=bX.enc x.r
def aE.zero:aE:=⟨0,0,0,0,0,0,0,0,aM.zero,aM.zero,0,aM.zero,false⟩
def aE.dA {a b:aE}(h:a.r=b.r):a=b:=by
 cases a;cases b
 simp only [aE.r,bX.mk.injEq] at h
 obtain ⟨h0,h1,h2,h3,h4,h5,h6,h7,h8,h9,h10,h11,h12⟩:=h
 simp only [aE.mk.injEq]
 exact ⟨h0,h1,h2,h3,h4,h5,h6,h7,(aM.dA h8),(aM.dA h9),h10,(aM.dA h11),h12⟩
def aE.cY {a b:aE}(h:aE.row a=aE.row b):a=b:=aE.dA (congrArg bX.dec h)
def aE.dI {xs:List aE}{i:Nat}:bX.at (xs.map aE.row) i=(xs.getD i aE.zero).r:=eV (r:=fun x=>aE.r x) (fun _=>rfl) rfl
def aE.yU (x:aE):(aE.r x).bD=x.bD:=Eq.trans rfl rfl
def aE.xL (x:aE):(aE.r x).cD=x.cD:=Eq.trans rfl rfl
def aE.sO (x:aE):(aE.r x).bJ=x.bJ:=Eq.trans rfl rfl
def aE.zA (x:aE):(aE.r x).cA=x.cA:=Eq.trans rfl rfl
def aE.yj (x:aE):(aE.r x).cu=x.cu:=Eq.trans rfl rfl
def aE.xq (x:aE):(aE.r x).ck=x.ck:=Eq.trans rfl rfl
def aE.zC (x:aE):(aE.r x).cQ=x.cQ:=Eq.trans rfl rfl
def aE.yZ (x:aE):(aE.r x).dw=x.dw:=Eq.trans rfl rfl
def aE.zl (x:aE):(aE.r x).bO=(aM.r x.bO):=Eq.trans rfl rfl
def aE.yp (x:aE):(aE.r x).bA=(aM.r x.bA):=Eq.trans rfl rfl
def aE.zO (x:aE):(aE.r x).cT=x.cT:=Eq.trans rfl rfl
def aE.xQ (x:aE):(aE.r x).bt=(aM.r x.bt):=Eq.trans rfl rfl
def aE.xg (x:aE):(aE.r x).bC=x.bC:=Eq.trans rfl rfl
instance :Row aE:=⟨aE.row,aE.cY⟩
instance :Im aE bX:=⟨aE.r,aE.dA⟩
def aE.rs:(∀(xs:List aE) (i:Nat),bX.at (xs.map aE.row) i=(xs.getD i aE.zero).r)/\(∀x:aE,(aE.r x).bD=x.bD)/\(∀x:aE,(aE.r x).cD=x.cD)/\(∀x:aE,(aE.r x).bJ=x.bJ)/\(∀x:aE,(aE.r x).cA=x.cA)/\(∀x:aE,(aE.r x).cu=x.cu)/\(∀x:aE,(aE.r x).ck=x.ck)/\(∀x:aE,(aE.r x).cQ=x.cQ)/\(∀x:aE,(aE.r x).dw=x.dw)/\(∀x:aE,(aE.r x).bO=(aM.r x.bO))/\(∀x:aE,(aE.r x).bA=(aM.r x.bA))/\(∀x:aE,(aE.r x).cT=x.cT)/\(∀x:aE,(aE.r x).bt=(aM.r x.bt))/\(∀x:aE,(aE.r x).bC=x.bC):=⟨fun _ _=>aE.dI,aE.yU,aE.xL,aE.sO,aE.zA,aE.yj,aE.xq,aE.zC,aE.yZ,aE.zl,aE.yp,aE.zO,aE.xQ,aE.xg⟩
def aE.Sm (n:Nat)(x:aE):Prop:=aM.Sm n x.bO/\aM.Sm n x.bA/\aM.Sm n x.bt
def aE.size (x:aE):Nat:=aM.size x.bO+aM.size x.bA+aM.size x.bt
def aE.dc {n m:Nat}(hn:n<=m){x:aE}(h:aE.Sm n x):aE.Sm m x:=⟨aM.dc hn h.1,aM.dc hn h.2.1,aM.dc hn h.2.2⟩
def aE.gq {n:Nat}{x:aE}(h:x.size<=n):aE.Sm n x:=by
 unfold aE.size at h
 have g0:aM.size x.bO<=n:=by omega
 have g1:aM.size x.bA<=n:=by omega
 have g2:aM.size x.bt<=n:=by omega
 exact ⟨aM.gq g0,aM.gq g1,aM.gq g2⟩
structure bk where
 gI:Int
 jc:Int
def bk.enc (x:bk):List L:=[.int x.gI,.int x.jc]
def bk.dec (r:List L):bk:=⟨((aA 0 r).headD .hole).toInt,((aA 1 r).headD .hole).toInt⟩
instance :RT bk:=⟨bk.enc,bk.dec,2,fun _ _=>rfl,fun _ _=>rfl⟩
def bk.at (xs:aC)(i:Nat):bk:=bk.dec (List.getD xs i [])
def bk.row (x:bk):List L:=bk.enc x
def bk.zero:bk:=⟨0,0⟩
def bk.cY {a b:bk}(h:bk.row a=bk.row b):a=b:=congrArg bk.dec h
def bk.eD {xs:List bk}{i:Nat}(h:i<xs.length):bk.at (xs.map bk.row) i=xs[i]:=by unfold bk.at;rw [getD_map h];rfl
def bk.dI {xs:List bk}{i:Nat}:bk.at (xs.map bk.row) i=xs.getD i bk.zero:=eV (r:=fun x=>x) (fun _=>rfl) rfl
def bk.eqc (a b:bk):(dV a.gI b.gI&&(dV a.jc b.jc&&true))=dV a b:=by
 cases a;cases b
 rw [Bool.eq_iff_iff]
 simp only [cZ,Bool.and_eq_true,bk.mk.injEq,and_true]
instance :Row bk:=⟨bk.row,bk.cY⟩
instance :Im bk bk:=⟨fun x=>x,fun h=>h⟩
def bk.rs:(∀(xs:List bk) (i:Nat),bk.at (xs.map bk.row) i=xs.getD i bk.zero):=fun _ _=>bk.dI
def bk.Sm (n:Nat)(x:bk):Prop:=True
def bk.size (x:bk):Nat:=0
def bk.dc {n m:Nat}(_:n<=m){x:bk}(_:bk.Sm n x):bk.Sm m x:=trivial
def bk.gq {n:Nat}{x:bk}(_:x.size<=n):bk.Sm n x:=trivial
structure aP where
 an:bX
 bY:aC
structure aa where
 an:aE
 bY:List bk
def aP.enc (x:aP):List L:=[.int x.an.bD,.int x.an.cD,.int x.an.bJ,.int x.an.cA,.int x.an.cu,.int x.an.ck,.int x.an.cQ,.int x.an.dw,.sl x.an.bO.aX,.int x.an.bO.cz,.sl x.an.bA.aX,.int x.an.bA.cz,.int x.an.cT,.sl x.an.bt.aX,.int x.an.bt.cz,.bool x.an.bC,.sl x.bY]
def aP.dec (r:List L):aP:=⟨⟨((aA 0 r).headD .hole).toInt,((aA 1 r).headD .hole).toInt,((aA 2 r).headD .hole).toInt,((aA 3 r).headD .hole).toInt,((aA 4 r).headD .hole).toInt,((aA 5 r).headD .hole).toInt,((aA 6 r).headD .hole).toInt,((aA 7 r).headD .hole).toInt,⟨((aA 8 r).headD .hole).aS,((aA 9 r).headD .hole).toInt⟩,⟨((aA 10 r).headD .hole).aS,((aA 11 r).headD .hole).toInt⟩,((aA 12 r).headD .hole).toInt,⟨((aA 13 r).headD .hole).aS,((aA 14 r).headD .hole).toInt⟩,((aA 15 r).headD .hole).toBool⟩,((aA 16 r).headD .hole).aS⟩
instance :RT aP:=⟨aP.enc,aP.dec,17,fun _ _=>rfl,fun _ _=>rfl⟩
def aP.at (xs:aC)(i:Nat):aP:=aP.dec (List.getD xs i [])
def aa.r (x:aa):aP:=⟨(aE.r x.an),(x.bY.map bk.row)⟩
def aa.row (x:aa):List L:=aP.enc x.r
def aa.zero:aa:=⟨aE.zero,[]⟩
def aa.dA {a b:aa}(h:a.r=b.r):a=b:=by
 cases a;cases b
 simp only [aa.r,aP.mk.injEq] at h
 obtain ⟨h0,h1⟩:=h
 simp only [aa.mk.injEq]
 exact ⟨(aE.dA h0),(map_inj bk.cY h1)⟩
def aa.cY {a b:aa}(h:aa.row a=aa.row b):a=b:=aa.dA (congrArg aP.dec h)
def aa.eD {xs:List aa}{i:Nat}(h:i<xs.length):aP.at (xs.map aa.row) i=(xs[i]).r:=by unfold aP.at;rw [getD_map h];rfl
def aa.dI {xs:List aa}{i:Nat}:aP.at (xs.map aa.row) i=(xs.getD i aa.zero).r:=eV (r:=fun x=>aa.r x) (fun _=>rfl) rfl
def aa.za (x:aa):(aa.r x).an=(aE.r x.an):=Eq.trans rfl rfl
def aa.zE (x:aa):(aa.r x).bY=(x.bY.map bk.row):=Eq.trans rfl rfl
instance :Row aa:=⟨aa.row,aa.cY⟩
instance :Im aa aP:=⟨aa.r,aa.dA⟩
def aa.rs:(∀(xs:List aa) (i:Nat),aP.at (xs.map aa.row) i=(xs.getD i aa.zero).r)/\(∀x:aa,(aa.r x).an=(aE.r x.an))/\(∀x:aa,(aa.r x).bY=(x.bY.map bk.row)):=⟨fun _ _=>aa.dI,aa.za,aa.zE⟩
def aa.Sm (n:Nat)(x:aa):Prop:=aE.Sm n x.an/\bM n (fun y:bk=>bk.Sm n y) x.bY
def aa.size (x:aa):Nat:=aE.size x.an+dP (fun y:bk=>bk.size y) x.bY
def aa.dc {n m:Nat}(hn:n<=m){x:aa}(h:aa.Sm n x):aa.Sm m x:=⟨aE.dc hn h.1,h.2.mono hn (fun x hx=>bk.dc hn hx)⟩
def aa.gq {n:Nat}{x:aa}(h:x.size<=n):aa.Sm n x:=by
 unfold aa.size at h
 have g0:aE.size x.an<=n:=by omega
 have g1:dP (fun y:bk=>bk.size y) x.bY<=n:=by omega
 exact ⟨aE.gq g0,jf g1 (fun x hx=>bk.gq hx)⟩
structure bF where
 aQ:aP
 fA:aP
 fB:aP
structure az where
 aQ:aa
 fA:aa
 fB:aa
def bF.enc (x:bF):List L:=[.int x.aQ.an.bD,.int x.aQ.an.cD,.int x.aQ.an.bJ,.int x.aQ.an.cA,.int x.aQ.an.cu,.int x.aQ.an.ck,.int x.aQ.an.cQ,.int x.aQ.an.dw,.sl x.aQ.an.bO.aX,.int x.aQ.an.bO.cz,.sl x.aQ.an.bA.aX,.int x.aQ.an.bA.cz,.int x.aQ.an.cT,.sl x.aQ.an.bt.aX,.int x.aQ.an.bt.cz,.bool x.aQ.an.bC,.sl x.aQ.bY,.int x.fA.an.bD,.int x.fA.an.cD,.int x.fA.an.bJ,.int x.fA.an.cA,.int x.fA.an.cu,.int x.fA.an.ck,.int x.fA.an.cQ,.int x.fA.an.dw,.sl x.fA.an.bO.aX,.int x.fA.an.bO.cz,.sl x.fA.an.bA.aX,.int x.fA.an.bA.cz,.int x.fA.an.cT,.sl x.fA.an.bt.aX,.int x.fA.an.bt.cz,.bool x.fA.an.bC,.sl x.fA.bY,.int x.fB.an.bD,.int x.fB.an.cD,.int x.fB.an.bJ,.int x.fB.an.cA,.int x.fB.an.cu,.int x.fB.an.ck,.int x.fB.an.cQ,.int x.fB.an.dw,.sl x.fB.an.bO.aX,.int x.fB.an.bO.cz,.sl x.fB.an.bA.aX,.int x.fB.an.bA.cz,.int x.fB.an.cT,.sl x.fB.an.bt.aX,.int x.fB.an.bt.cz,.bool x.fB.an.bC,.sl x.fB.bY]
def bF.dec (r:List L):bF:=⟨⟨⟨((aA 0 r).headD .hole).toInt,((aA 1 r).headD .hole).toInt,((aA 2 r).headD .hole).toInt,((aA 3 r).headD .hole).toInt,((aA 4 r).headD .hole).toInt,((aA 5 r).headD .hole).toInt,((aA 6 r).headD .hole).toInt,((aA 7 r).headD .hole).toInt,⟨((aA 8 r).headD .hole).aS,((aA 9 r).headD .hole).toInt⟩,⟨((aA 10 r).headD .hole).aS,((aA 11 r).headD .hole).toInt⟩,((aA 12 r).headD .hole).toInt,⟨((aA 13 r).headD .hole).aS,((aA 14 r).headD .hole).toInt⟩,((aA 15 r).headD .hole).toBool⟩,((aA 16 r).headD .hole).aS⟩,⟨⟨((aA 17 r).headD .hole).toInt,((aA 18 r).headD .hole).toInt,((aA 19 r).headD .hole).toInt,((aA 20 r).headD .hole).toInt,((aA 21 r).headD .hole).toInt,((aA 22 r).headD .hole).toInt,((aA 23 r).headD .hole).toInt,((aA 24 r).headD .hole).toInt,⟨((aA 25 r).headD .hole).aS,((aA 26 r).headD .hole).toInt⟩,⟨((aA 27 r).headD .hole).aS,((aA 28 r).headD .hole).toInt⟩,((aA 29 r).headD .hole).toInt,⟨((aA 30 r).headD .hole).aS,((aA 31 r).headD .hole).toInt⟩,((aA 32 r).headD .hole).toBool⟩,((aA 33 r).headD .hole).aS⟩,⟨⟨((aA 34 r).headD .hole).toInt,((aA 35 r).headD .hole).toInt,((aA 36 r).headD .hole).toInt,((aA 37 r).headD .hole).toInt,((aA 38 r).headD .hole).toInt,((aA 39 r).headD .hole).toInt,((aA 40 r).headD .hole).toInt,((aA 41 r).headD .hole).toInt,⟨((aA 42 r).headD .hole).aS,((aA 43 r).headD .hole).toInt⟩,⟨((aA 44 r).headD .hole).aS,((aA 45 r).headD .hole).toInt⟩,((aA 46 r).headD .hole).toInt,⟨((aA 47 r).headD .hole).aS,((aA 48 r).headD .hole).toInt⟩,((aA 49 r).headD .hole).toBool⟩,((aA 50 r).headD .hole).aS⟩⟩
instance :RT bF:=⟨bF.enc,bF.dec,51,fun _ _=>rfl,fun _ _=>rfl⟩
def bF.at (xs:aC)(i:Nat):bF:=bF.dec (List.getD xs i [])
def az.r (x:az):bF:=⟨(aa.r x.aQ),(aa.r x.fA),(aa.r x.fB)⟩
def az.row (x:az):List L:=bF.enc x.r
def az.zero:az:=⟨aa.zero,aa.zero,aa.zero⟩
def az.dA {a b:az}(h:a.r=b.r):a=b:=by
 cases a;cases b
 simp only [az.r,bF.mk.injEq] at h
 obtain ⟨h0,h1,h2⟩:=h
 simp only [az.mk.injEq]
 exact ⟨(aa.dA h0),(aa.dA h1),(aa.dA h2)⟩
def az.cY {a b:az}(h:az.row a=az.row b):a=b:=az.dA (congrArg bF.dec h)
def az.eD {xs:List az}{i:Nat}(h:i<xs.length):bF.at (xs.map az.row) i=(xs[i]).r:=by unfold bF.at;rw [getD_map h];rfl
def az.dI {xs:List az}{i:Nat}:bF.at (xs.map az.row) i=(xs.getD i az.zero).r:=eV (r:=fun x=>az.r x) (fun _=>rfl) rfl
def az.nY (x:az):(az.r x).aQ=(aa.r x.aQ):=Eq.trans rfl rfl
def az.BE (x:az):(az.r x).fA=(aa.r x.fA):=Eq.trans rfl rfl
def az.Bu (x:az):(az.r x).fB=(aa.r x.fB):=Eq.trans rfl rfl
instance :Row az:=⟨az.row,az.cY⟩
instance :Im az bF:=⟨az.r,az.dA⟩
def az.rs:(∀(xs:List az) (i:Nat),bF.at (xs.map az.row) i=(xs.getD i az.zero).r)/\(∀x:az,(az.r x).aQ=(aa.r x.aQ))/\(∀x:az,(az.r x).fA=(aa.r x.fA))/\(∀x:az,(az.r x).fB=(aa.r x.fB)):=⟨fun _ _=>az.dI,az.nY,az.BE,az.Bu⟩
def az.Sm (n:Nat)(x:az):Prop:=aa.Sm n x.aQ/\aa.Sm n x.fA/\aa.Sm n x.fB
def az.size (x:az):Nat:=aa.size x.aQ+aa.size x.fA+aa.size x.fB
def az.dc {n m:Nat}(hn:n<=m){x:az}(h:az.Sm n x):az.Sm m x:=⟨aa.dc hn h.1,aa.dc hn h.2.1,aa.dc hn h.2.2⟩
def az.gq {n:Nat}{x:az}(h:x.size<=n):az.Sm n x:=by
 unfold az.size at h
 have g0:aa.size x.aQ<=n:=by omega
 have g1:aa.size x.fA<=n:=by omega
 have g2:aa.size x.fB<=n:=by omega
 exact ⟨aa.gq g0,aa.gq g1,aa.gq g2⟩
structure bu where
 aI:aC
 bn:aC
structure aq where
 aI:List (List aa)
 bn:List az
def bu.enc (x:bu):List L:=[.sl x.aI,.sl x.bn]
def bu.dec (r:List L):bu:=⟨((aA 0 r).headD .hole).aS,((aA 1 r).headD .hole).aS⟩
instance :RT bu:=⟨bu.enc,bu.dec,2,fun _ _=>rfl,fun _ _=>rfl⟩
def bu.at (xs:aC)(i:Nat):bu:=bu.dec (List.getD xs i [])
def aq.r (x:aq):bu:=⟨(x.aI.map (dF aa.row)),(x.bn.map az.row)⟩
def aq.row (x:aq):List L:=bu.enc x.r
def aq.zero:aq:=⟨[],[]⟩
def aq.dA {a b:aq}(h:a.r=b.r):a=b:=by
 cases a;cases b
 simp only [aq.r,bu.mk.injEq] at h
 obtain ⟨h0,h1⟩:=h
 simp only [aq.mk.injEq]
 exact ⟨(map_inj (uM aa.cY) h0),(map_inj az.cY h1)⟩
def aq.cY {a b:aq}(h:aq.row a=aq.row b):a=b:=aq.dA (congrArg bu.dec h)
def aq.dI {xs:List aq}{i:Nat}:bu.at (xs.map aq.row) i=(xs.getD i aq.zero).r:=eV (r:=fun x=>aq.r x) (fun _=>rfl) rfl
def aq.wL (x:aq):(aq.r x).aI=(x.aI.map (dF aa.row)):=Eq.trans rfl rfl
def aq.yc (x:aq):(aq.r x).bn=(x.bn.map az.row):=Eq.trans rfl rfl
instance :Row aq:=⟨aq.row,aq.cY⟩
instance :Im aq bu:=⟨aq.r,aq.dA⟩
def aq.rs:(∀(xs:List aq) (i:Nat),bu.at (xs.map aq.row) i=(xs.getD i aq.zero).r)/\(∀x:aq,(aq.r x).aI=(x.aI.map (dF aa.row)))/\(∀x:aq,(aq.r x).bn=(x.bn.map az.row)):=⟨fun _ _=>aq.dI,aq.wL,aq.yc⟩
def aq.Sm (n:Nat)(x:aq):Prop:=bM n (fun y:List aa=>bM n (fun y:aa=>aa.Sm n y) y) x.aI/\bM n (fun y:az=>az.Sm n y) x.bn
def aq.size (x:aq):Nat:=dP (fun y:List aa=>dP (fun y:aa=>aa.size y) y) x.aI+dP (fun y:az=>az.size y) x.bn
def aq.dc {n m:Nat}(hn:n<=m){x:aq}(h:aq.Sm n x):aq.Sm m x:=⟨h.1.mono hn (fun x hx=>hx.mono hn (fun x hx=>aa.dc hn hx)),h.2.mono hn (fun x hx=>az.dc hn hx)⟩
def aq.gq {n:Nat}{x:aq}(h:x.size<=n):aq.Sm n x:=by
 unfold aq.size at h
 have g0:dP (fun y:List aa=>dP (fun y:aa=>aa.size y) y) x.aI<=n:=by omega
 have g1:dP (fun y:az=>az.size y) x.bn<=n:=by omega
 exact ⟨jf g0 (fun x hx=>jf hx (fun x hx=>aa.gq hx)),jf g1 (fun x hx=>az.gq hx)⟩
structure aU where
 bf:aD
 bJ:Int
 bV:Int
 bH:aC
structure ah where
 bf:aD
 bJ:Int
 bV:Int
 bH:List aD
def aU.enc (x:aU):List L:=[.str x.bf,.int x.bJ,.int x.bV,.sl x.bH]
def aU.dec (r:List L):aU:=⟨((aA 0 r).headD .hole).toStr,((aA 1 r).headD .hole).toInt,((aA 2 r).headD .hole).toInt,((aA 3 r).headD .hole).aS⟩
instance :RT aU:=⟨aU.enc,aU.dec,4,fun _ _=>rfl,fun _ _=>rfl⟩
def aU.at (xs:aC)(i:Nat):aU:=aU.dec (List.getD xs i [])
def ah.r (x:ah):aU:=⟨x.bf,x.bJ,x.bV,(x.bH.map cC)⟩
def ah.row (x:ah):List L:=aU.enc x.r
def ah.zero:ah:=⟨⟨#[]⟩,0,0,[]⟩
def ah.dA {a b:ah}(h:a.r=b.r):a=b:=by
 cases a;cases b
 simp only [ah.r,aU.mk.injEq] at h
 obtain ⟨h0,h1,h2,h3⟩:=h
 simp only [ah.mk.injEq]
 exact ⟨h0,h1,h2,(map_inj tY h3)⟩
def ah.cY {a b:ah}(h:ah.row a=ah.row b):a=b:=ah.dA (congrArg aU.dec h)
def ah.eD {xs:List ah}{i:Nat}(h:i<xs.length):aU.at (xs.map ah.row) i=(xs[i]).r:=by unfold aU.at;rw [getD_map h];rfl
def ah.dI {xs:List ah}{i:Nat}:aU.at (xs.map ah.row) i=(xs.getD i ah.zero).r:=eV (r:=fun x=>ah.r x) (fun _=>rfl) rfl
def ah.xH (x:ah):(ah.r x).bf=x.bf:=Eq.trans rfl rfl
def ah.sO (x:ah):(ah.r x).bJ=x.bJ:=Eq.trans rfl rfl
def ah.yA (x:ah):(ah.r x).bV=x.bV:=Eq.trans rfl rfl
def ah.sF (x:ah):(ah.r x).bH=(x.bH.map cC):=Eq.trans rfl rfl
instance :Row ah:=⟨ah.row,ah.cY⟩
instance :Im ah aU:=⟨ah.r,ah.dA⟩
def ah.rs:(∀(xs:List ah) (i:Nat),aU.at (xs.map ah.row) i=(xs.getD i ah.zero).r)/\(∀x:ah,(ah.r x).bf=x.bf)/\(∀x:ah,(ah.r x).bJ=x.bJ)/\(∀x:ah,(ah.r x).bV=x.bV)/\(∀x:ah,(ah.r x).bH=(x.bH.map cC)):=⟨fun _ _=>ah.dI,ah.xH,ah.sO,ah.yA,ah.sF⟩
def ah.Sm (n:Nat)(x:ah):Prop:=(x.bf).size<=n/\bM n (fun y:aD=>(y).size<=n) x.bH
def ah.size (x:ah):Nat:=(x.bf).size+dP (fun y:aD=>(y).size) x.bH
def ah.dc {n m:Nat}(hn:n<=m){x:ah}(h:ah.Sm n x):ah.Sm m x:=⟨Nat.le_trans h.1 hn,h.2.mono hn (fun x hx=>Nat.le_trans hx hn)⟩
def ah.gq {n:Nat}{x:ah}(h:x.size<=n):ah.Sm n x:=by
 unfold ah.size at h
 have g0:(x.bf).size<=n:=by omega
 have g1:dP (fun y:aD=>(y).size) x.bH<=n:=by omega
 exact ⟨g0,jf g1 (fun x hx=>hx)⟩
structure cX where
 bW:bu
 gn:Int
 aT:aU
 bG:aC
 eX:Int
structure bE where
 bW:aq
 gn:Int
 aT:ah
 bG:List Int
 eX:Int
def cX.enc (x:cX):List L:=[.sl x.bW.aI,.sl x.bW.bn,.int x.gn,.str x.aT.bf,.int x.aT.bJ,.int x.aT.bV,.sl x.aT.bH,.sl x.bG,.int x.eX]
def cX.dec (r:List L):cX:=⟨⟨((aA 0 r).headD .hole).aS,((aA 1 r).headD .hole).aS⟩,((aA 2 r).headD .hole).toInt,⟨((aA 3 r).headD .hole).toStr,((aA 4 r).headD .hole).toInt,((aA 5 r).headD .hole).toInt,((aA 6 r).headD .hole).aS⟩,((aA 7 r).headD .hole).aS,((aA 8 r).headD .hole).toInt⟩
instance :RT cX:=⟨cX.enc,cX.dec,9,fun _ _=>rfl,fun _ _=>rfl⟩
def cX.at (xs:aC)(i:Nat):cX:=cX.dec (List.getD xs i [])
def bE.r (x:bE):cX:=⟨(aq.r x.bW),x.gn,(ah.r x.aT),(x.bG.map aZ),x.eX⟩
def bE.row (x:bE):List L:=cX.enc x.r
def bE.zero:bE:=⟨aq.zero,0,ah.zero,[],0⟩
def bE.dA {a b:bE}(h:a.r=b.r):a=b:=by
 cases a;cases b
 simp only [bE.r,cX.mk.injEq] at h
 obtain ⟨h0,h1,h2,h3,h4⟩:=h
 simp only [bE.mk.injEq]
 exact ⟨(aq.dA h0),h1,(ah.dA h2),(map_inj lE h3),h4⟩
def bE.cY {a b:bE}(h:bE.row a=bE.row b):a=b:=bE.dA (congrArg cX.dec h)
def bE.dI {xs:List bE}{i:Nat}:cX.at (xs.map bE.row) i=(xs.getD i bE.zero).r:=eV (r:=fun x=>bE.r x) (fun _=>rfl) rfl
def bE.qF (x:bE):(bE.r x).bW=(aq.r x.bW):=Eq.trans rfl rfl
def bE.yV (x:bE):(bE.r x).gn=x.gn:=Eq.trans rfl rfl
def bE.kY (x:bE):(bE.r x).aT=(ah.r x.aT):=Eq.trans rfl rfl
def bE.qy (x:bE):(bE.r x).bG=(x.bG.map aZ):=Eq.trans rfl rfl
def bE.yB (x:bE):(bE.r x).eX=x.eX:=Eq.trans rfl rfl
instance :Row bE:=⟨bE.row,bE.cY⟩
instance :Im bE cX:=⟨bE.r,bE.dA⟩
def bE.rs:(∀(xs:List bE) (i:Nat),cX.at (xs.map bE.row) i=(xs.getD i bE.zero).r)/\(∀x:bE,(bE.r x).bW=(aq.r x.bW))/\(∀x:bE,(bE.r x).gn=x.gn)/\(∀x:bE,(bE.r x).aT=(ah.r x.aT))/\(∀x:bE,(bE.r x).bG=(x.bG.map aZ))/\(∀x:bE,(bE.r x).eX=x.eX):=⟨fun _ _=>bE.dI,bE.qF,bE.yV,bE.kY,bE.qy,bE.yB⟩
def bE.size (x:bE):Nat:=aq.size x.bW+ah.size x.aT+dP (fun y:Int=>0) x.bG
structure dJ where
 aR:aC
 bK:aC
structure aK where
 aR:List aa
 bK:List ah
def dJ.enc (x:dJ):List L:=[.sl x.aR,.sl x.bK]
def dJ.dec (r:List L):dJ:=⟨((aA 0 r).headD .hole).aS,((aA 1 r).headD .hole).aS⟩
instance :RT dJ:=⟨dJ.enc,dJ.dec,2,fun _ _=>rfl,fun _ _=>rfl⟩
def dJ.at (xs:aC)(i:Nat):dJ:=dJ.dec (List.getD xs i [])
def aK.r (x:aK):dJ:=⟨(x.aR.map aa.row),(x.bK.map ah.row)⟩
def aK.row (x:aK):List L:=dJ.enc x.r
def aK.zero:aK:=⟨[],[]⟩
def aK.dA {a b:aK}(h:a.r=b.r):a=b:=by
 cases a;cases b
 simp only [aK.r,dJ.mk.injEq] at h
 obtain ⟨h0,h1⟩:=h
 simp only [aK.mk.injEq]
 exact ⟨(map_inj aa.cY h0),(map_inj ah.cY h1)⟩
def aK.cY {a b:aK}(h:aK.row a=aK.row b):a=b:=aK.dA (congrArg dJ.dec h)
def aK.eD {xs:List aK}{i:Nat}(h:i<xs.length):dJ.at (xs.map aK.row) i=(xs[i]).r:=by unfold dJ.at;rw [getD_map h];rfl
def aK.dI {xs:List aK}{i:Nat}:dJ.at (xs.map aK.row) i=(xs.getD i aK.zero).r:=eV (r:=fun x=>aK.r x) (fun _=>rfl) rfl
def aK.qB (x:aK):(aK.r x).aR=(x.aR.map aa.row):=Eq.trans rfl rfl
def aK.vE (x:aK):(aK.r x).bK=(x.bK.map ah.row):=Eq.trans rfl rfl
instance :Row aK:=⟨aK.row,aK.cY⟩
instance :Im aK dJ:=⟨aK.r,aK.dA⟩
def aK.rs:(∀(xs:List aK) (i:Nat),dJ.at (xs.map aK.row) i=(xs.getD i aK.zero).r)/\(∀x:aK,(aK.r x).aR=(x.aR.map aa.row))/\(∀x:aK,(aK.r x).bK=(x.bK.map ah.row)):=⟨fun _ _=>aK.dI,aK.qB,aK.vE⟩
def aK.Sm (n:Nat)(x:aK):Prop:=bM n (fun y:aa=>aa.Sm n y) x.aR/\bM n (fun y:ah=>ah.Sm n y) x.bK
def aK.size (x:aK):Nat:=dP (fun y:aa=>aa.size y) x.aR+dP (fun y:ah=>ah.size y) x.bK
def aK.dc {n m:Nat}(hn:n<=m){x:aK}(h:aK.Sm n x):aK.Sm m x:=⟨h.1.mono hn (fun x hx=>aa.dc hn hx),h.2.mono hn (fun x hx=>ah.dc hn hx)⟩
def aK.gq {n:Nat}{x:aK}(h:x.size<=n):aK.Sm n x:=by
 unfold aK.size at h
 have g0:dP (fun y:aa=>aa.size y) x.aR<=n:=by omega
 have g1:dP (fun y:ah=>ah.size y) x.bK<=n:=by omega
 exact ⟨jf g0 (fun x hx=>aa.gq hx),jf g1 (fun x hx=>ah.gq hx)⟩
structure cI where
 bG:aC
 gF:Int
structure ay where
 bG:List aK
 gF:Int
def cI.enc (x:cI):List L:=[.sl x.bG,.int x.gF]
def cI.dec (r:List L):cI:=⟨((aA 0 r).headD .hole).aS,((aA 1 r).headD .hole).toInt⟩
instance :RT cI:=⟨cI.enc,cI.dec,2,fun _ _=>rfl,fun _ _=>rfl⟩
def cI.at (xs:aC)(i:Nat):cI:=cI.dec (List.getD xs i [])
def ay.r (x:ay):cI:=⟨(x.bG.map aK.row),x.gF⟩
def ay.row (x:ay):List L:=cI.enc x.r
def ay.zero:ay:=⟨[],0⟩
def ay.dA {a b:ay}(h:a.r=b.r):a=b:=by
 cases a;cases b
 simp only [ay.r,cI.mk.injEq] at h
 obtain ⟨h0,h1⟩:=h
 simp only [ay.mk.injEq]
 exact ⟨(map_inj aK.cY h0),h1⟩
def ay.cY {a b:ay}(h:ay.row a=ay.row b):a=b:=ay.dA (congrArg cI.dec h)
def ay.eD {xs:List ay}{i:Nat}(h:i<xs.length):cI.at (xs.map ay.row) i=(xs[i]).r:=by unfold cI.at;rw [getD_map h];rfl
def ay.dI {xs:List ay}{i:Nat}:cI.at (xs.map ay.row) i=(xs.getD i ay.zero).r:=eV (r:=fun x=>ay.r x) (fun _=>rfl) rfl
def ay.qy (x:ay):(ay.r x).bG=(x.bG.map aK.row):=Eq.trans rfl rfl
def ay.Af (x:ay):(ay.r x).gF=x.gF:=Eq.trans rfl rfl
instance :Row ay:=⟨ay.row,ay.cY⟩
instance :Im ay cI:=⟨ay.r,ay.dA⟩
def ay.rs:(∀(xs:List ay) (i:Nat),cI.at (xs.map ay.row) i=(xs.getD i ay.zero).r)/\(∀x:ay,(ay.r x).bG=(x.bG.map aK.row))/\(∀x:ay,(ay.r x).gF=x.gF):=⟨fun _ _=>ay.dI,ay.qy,ay.Af⟩
def ay.Sm (n:Nat)(x:ay):Prop:=bM n (fun y:aK=>aK.Sm n y) x.bG
def ay.size (x:ay):Nat:=dP (fun y:aK=>aK.size y) x.bG
def ay.dc {n m:Nat}(hn:n<=m){x:ay}(h:ay.Sm n x):ay.Sm m x:=h.mono hn (fun x hx=>aK.dc hn hx)
def ay.gq {n:Nat}{x:ay}(h:x.size<=n):ay.Sm n x:=by
 unfold ay.size at h
 have g0:dP (fun y:aK=>aK.size y) x.bG<=n:=by omega
 exact jf g0 (fun x hx=>aK.gq hx)
structure eG where
 fName:aD
 bD:Int
def eG.enc (x:eG):List L:=[.str x.fName,.int x.bD]
def eG.dec (r:List L):eG:=⟨((aA 0 r).headD .hole).toStr,((aA 1 r).headD .hole).toInt⟩
instance :RT eG:=⟨eG.enc,eG.dec,2,fun _ _=>rfl,fun _ _=>rfl⟩
def eG.at (xs:aC)(i:Nat):eG:=eG.dec (List.getD xs i [])
def eG.row (x:eG):List L:=eG.enc x
def eG.zero:eG:=⟨⟨#[]⟩,0⟩
def eG.cY {a b:eG}(h:eG.row a=eG.row b):a=b:=congrArg eG.dec h
def eG.dI {xs:List eG}{i:Nat}:eG.at (xs.map eG.row) i=xs.getD i eG.zero:=eV (r:=fun x=>x) (fun _=>rfl) rfl
instance :Row eG:=⟨eG.row,eG.cY⟩
instance :Im eG eG:=⟨fun x=>x,fun h=>h⟩
def eG.rs:(∀(xs:List eG) (i:Nat),eG.at (xs.map eG.row) i=xs.getD i eG.zero):=fun _ _=>eG.dI
structure cV where
 bW:bu
 cq:Bool
 aT:aU
 jY:Bool
 kC:aC
structure bS where
 bW:aq
 cq:Bool
 aT:ah
 jY:Bool
 kC:List Int
def cV.enc (x:cV):List L:=[.sl x.bW.aI,.sl x.bW.bn,.bool x.cq,.str x.aT.bf,.int x.aT.bJ,.int x.aT.bV,.sl x.aT.bH,.bool x.jY,.sl x.kC]
def cV.dec (r:List L):cV:=⟨⟨((aA 0 r).headD .hole).aS,((aA 1 r).headD .hole).aS⟩,((aA 2 r).headD .hole).toBool,⟨((aA 3 r).headD .hole).toStr,((aA 4 r).headD .hole).toInt,((aA 5 r).headD .hole).toInt,((aA 6 r).headD .hole).aS⟩,((aA 7 r).headD .hole).toBool,((aA 8 r).headD .hole).aS⟩
instance :RT cV:=⟨cV.enc,cV.dec,9,fun _ _=>rfl,fun _ _=>rfl⟩
def cV.at (xs:aC)(i:Nat):cV:=cV.dec (List.getD xs i [])
def bS.r (x:bS):cV:=⟨(aq.r x.bW),x.cq,(ah.r x.aT),x.jY,(x.kC.map aZ)⟩
def bS.row (x:bS):List L:=cV.enc x.r
def bS.zero:bS:=⟨aq.zero,false,ah.zero,false,[]⟩
def bS.dA {a b:bS}(h:a.r=b.r):a=b:=by
 cases a;cases b
 simp only [bS.r,cV.mk.injEq] at h
 obtain ⟨h0,h1,h2,h3,h4⟩:=h
 simp only [bS.mk.injEq]
 exact ⟨(aq.dA h0),h1,(ah.dA h2),h3,(map_inj lE h4)⟩
def bS.cY {a b:bS}(h:bS.row a=bS.row b):a=b:=bS.dA (congrArg cV.dec h)
def bS.dI {xs:List bS}{i:Nat}:cV.at (xs.map bS.row) i=(xs.getD i bS.zero).r:=eV (r:=fun x=>bS.r x) (fun _=>rfl) rfl
def bS.qF (x:bS):(bS.r x).bW=(aq.r x.bW):=Eq.trans rfl rfl
def bS.qu (x:bS):(bS.r x).cq=x.cq:=Eq.trans rfl rfl
def bS.kY (x:bS):(bS.r x).aT=(ah.r x.aT):=Eq.trans rfl rfl
def bS.zJ (x:bS):(bS.r x).jY=x.jY:=Eq.trans rfl rfl
def bS.xM (x:bS):(bS.r x).kC=(x.kC.map aZ):=Eq.trans rfl rfl
instance :Row bS:=⟨bS.row,bS.cY⟩
instance :Im bS cV:=⟨bS.r,bS.dA⟩
def bS.rs:(∀(xs:List bS) (i:Nat),cV.at (xs.map bS.row) i=(xs.getD i bS.zero).r)/\(∀x:bS,(bS.r x).bW=(aq.r x.bW))/\(∀x:bS,(bS.r x).cq=x.cq)/\(∀x:bS,(bS.r x).aT=(ah.r x.aT))/\(∀x:bS,(bS.r x).jY=x.jY)/\(∀x:bS,(bS.r x).kC=(x.kC.map aZ)):=⟨fun _ _=>bS.dI,bS.qF,bS.qu,bS.kY,bS.zJ,bS.xM⟩
def bS.Sm (n:Nat)(x:bS):Prop:=aq.Sm n x.bW/\ah.Sm n x.aT/\bM n (fun y:Int=>True) x.kC
structure gh where
 fName:aD
 bD:Int
def gh.enc (x:gh):List L:=[.str x.fName,.int x.bD]
def gh.dec (r:List L):gh:=⟨((aA 0 r).headD .hole).toStr,((aA 1 r).headD .hole).toInt⟩
instance :RT gh:=⟨gh.enc,gh.dec,2,fun _ _=>rfl,fun _ _=>rfl⟩
def gh.at (xs:aC)(i:Nat):gh:=gh.dec (List.getD xs i [])
def gh.row (x:gh):List L:=gh.enc x
def gh.zero:gh:=⟨⟨#[]⟩,0⟩
def gh.cY {a b:gh}(h:gh.row a=gh.row b):a=b:=congrArg gh.dec h
def gh.dI {xs:List gh}{i:Nat}:gh.at (xs.map gh.row) i=xs.getD i gh.zero:=eV (r:=fun x=>x) (fun _=>rfl) rfl
instance :Row gh:=⟨gh.row,gh.cY⟩
instance :Im gh gh:=⟨fun x=>x,fun h=>h⟩
def gh.rs:(∀(xs:List gh) (i:Nat),gh.at (xs.map gh.row) i=xs.getD i gh.zero):=fun _ _=>gh.dI
structure bR where
 eo:Int
 bH:aC
structure aL where
 eo:Int
 bH:List Int
def bR.enc (x:bR):List L:=[.int x.eo,.sl x.bH]
def bR.dec (r:List L):bR:=⟨((aA 0 r).headD .hole).toInt,((aA 1 r).headD .hole).aS⟩
instance :RT bR:=⟨bR.enc,bR.dec,2,fun _ _=>rfl,fun _ _=>rfl⟩
def bR.at (xs:aC)(i:Nat):bR:=bR.dec (List.getD xs i [])
def aL.r (x:aL):bR:=⟨x.eo,(x.bH.map aZ)⟩
def aL.row (x:aL):List L:=bR.enc x.r
def aL.zero:aL:=⟨0,[]⟩
def aL.dA {a b:aL}(h:a.r=b.r):a=b:=by
 cases a;cases b
 simp only [aL.r,bR.mk.injEq] at h
 obtain ⟨h0,h1⟩:=h
 simp only [aL.mk.injEq]
 exact ⟨h0,(map_inj lE h1)⟩
def aL.cY {a b:aL}(h:aL.row a=aL.row b):a=b:=aL.dA (congrArg bR.dec h)
def aL.dI {xs:List aL}{i:Nat}:bR.at (xs.map aL.row) i=(xs.getD i aL.zero).r:=eV (r:=fun x=>aL.r x) (fun _=>rfl) rfl
def aL.ym (x:aL):(aL.r x).eo=x.eo:=Eq.trans rfl rfl
def aL.sF (x:aL):(aL.r x).bH=(x.bH.map aZ):=Eq.trans rfl rfl
instance :Row aL:=⟨aL.row,aL.cY⟩
instance :Im aL bR:=⟨aL.r,aL.dA⟩
def aL.rs:(∀(xs:List aL) (i:Nat),bR.at (xs.map aL.row) i=(xs.getD i aL.zero).r)/\(∀x:aL,(aL.r x).eo=x.eo)/\(∀x:aL,(aL.r x).bH=(x.bH.map aZ)):=⟨fun _ _=>aL.dI,aL.ym,aL.sF⟩
def aL.Sm (n:Nat)(x:aL):Prop:=bM n (fun y:Int=>True) x.bH
def aL.size (x:aL):Nat:=dP (fun y:Int=>0) x.bH
structure dK where
 eo:Int
 aQ:aU
 cF:aU
 eu:bR
 cS:bR
structure bT where
 eo:Int
 aQ:ah
 cF:ah
 eu:aL
 cS:aL
def dK.enc (x:dK):List L:=[.int x.eo,.str x.aQ.bf,.int x.aQ.bJ,.int x.aQ.bV,.sl x.aQ.bH,.str x.cF.bf,.int x.cF.bJ,.int x.cF.bV,.sl x.cF.bH,.int x.eu.eo,.sl x.eu.bH,.int x.cS.eo,.sl x.cS.bH]
def dK.dec (r:List L):dK:=⟨((aA 0 r).headD .hole).toInt,⟨((aA 1 r).headD .hole).toStr,((aA 2 r).headD .hole).toInt,((aA 3 r).headD .hole).toInt,((aA 4 r).headD .hole).aS⟩,⟨((aA 5 r).headD .hole).toStr,((aA 6 r).headD .hole).toInt,((aA 7 r).headD .hole).toInt,((aA 8 r).headD .hole).aS⟩,⟨((aA 9 r).headD .hole).toInt,((aA 10 r).headD .hole).aS⟩,⟨((aA 11 r).headD .hole).toInt,((aA 12 r).headD .hole).aS⟩⟩
instance :RT dK:=⟨dK.enc,dK.dec,13,fun _ _=>rfl,fun _ _=>rfl⟩
def dK.at (xs:aC)(i:Nat):dK:=dK.dec (List.getD xs i [])
def bT.r (x:bT):dK:=⟨x.eo,(ah.r x.aQ),(ah.r x.cF),(aL.r x.eu),(aL.r x.cS)⟩
def bT.row (x:bT):List L:=dK.enc x.r
def bT.zero:bT:=⟨0,ah.zero,ah.zero,aL.zero,aL.zero⟩
def bT.dA {a b:bT}(h:a.r=b.r):a=b:=by
 cases a;cases b
 simp only [bT.r,dK.mk.injEq] at h
 obtain ⟨h0,h1,h2,h3,h4⟩:=h
 simp only [bT.mk.injEq]
 exact ⟨h0,(ah.dA h1),(ah.dA h2),(aL.dA h3),(aL.dA h4)⟩
def bT.cY {a b:bT}(h:bT.row a=bT.row b):a=b:=bT.dA (congrArg dK.dec h)
def bT.dI {xs:List bT}{i:Nat}:dK.at (xs.map bT.row) i=(xs.getD i bT.zero).r:=eV (r:=fun x=>bT.r x) (fun _=>rfl) rfl
def bT.ym (x:bT):(bT.r x).eo=x.eo:=Eq.trans rfl rfl
def bT.nY (x:bT):(bT.r x).aQ=(ah.r x.aQ):=Eq.trans rfl rfl
def bT.yD (x:bT):(bT.r x).cF=(ah.r x.cF):=Eq.trans rfl rfl
def bT.zG (x:bT):(bT.r x).eu=(aL.r x.eu):=Eq.trans rfl rfl
def bT.yG (x:bT):(bT.r x).cS=(aL.r x.cS):=Eq.trans rfl rfl
instance :Row bT:=⟨bT.row,bT.cY⟩
instance :Im bT dK:=⟨bT.r,bT.dA⟩
def bT.rs:(∀(xs:List bT) (i:Nat),dK.at (xs.map bT.row) i=(xs.getD i bT.zero).r)/\(∀x:bT,(bT.r x).eo=x.eo)/\(∀x:bT,(bT.r x).aQ=(ah.r x.aQ))/\(∀x:bT,(bT.r x).cF=(ah.r x.cF))/\(∀x:bT,(bT.r x).eu=(aL.r x.eu))/\(∀x:bT,(bT.r x).cS=(aL.r x.cS)):=⟨fun _ _=>bT.dI,bT.ym,bT.nY,bT.yD,bT.zG,bT.yG⟩
def bT.Sm (n:Nat)(x:bT):Prop:=ah.Sm n x.aQ/\ah.Sm n x.cF/\aL.Sm n x.eu/\aL.Sm n x.cS
def bT.size (x:bT):Nat:=ah.size x.aQ+ah.size x.cF+aL.size x.eu+aL.size x.cS
structure aY where
 aR:aC
 cq:Bool
 aT:aU
 ep:bR
 fR:dK
structure av where
 aR:List aa
 cq:Bool
 aT:ah
 ep:aL
 fR:bT
def aY.enc (x:aY):List L:=[.sl x.aR,.bool x.cq,.str x.aT.bf,.int x.aT.bJ,.int x.aT.bV,.sl x.aT.bH,.int x.ep.eo,.sl x.ep.bH,.int x.fR.eo,.str x.fR.aQ.bf,.int x.fR.aQ.bJ,.int x.fR.aQ.bV,.sl x.fR.aQ.bH,.str x.fR.cF.bf,.int x.fR.cF.bJ,.int x.fR.cF.bV,.sl x.fR.cF.bH,.int x.fR.eu.eo,.sl x.fR.eu.bH,.int x.fR.cS.eo,.sl x.fR.cS.bH]
def aY.dec (r:List L):aY:=⟨((aA 0 r).headD .hole).aS,((aA 1 r).headD .hole).toBool,⟨((aA 2 r).headD .hole).toStr,((aA 3 r).headD .hole).toInt,((aA 4 r).headD .hole).toInt,((aA 5 r).headD .hole).aS⟩,⟨((aA 6 r).headD .hole).toInt,((aA 7 r).headD .hole).aS⟩,⟨((aA 8 r).headD .hole).toInt,⟨((aA 9 r).headD .hole).toStr,((aA 10 r).headD .hole).toInt,((aA 11 r).headD .hole).toInt,((aA 12 r).headD .hole).aS⟩,⟨((aA 13 r).headD .hole).toStr,((aA 14 r).headD .hole).toInt,((aA 15 r).headD .hole).toInt,((aA 16 r).headD .hole).aS⟩,⟨((aA 17 r).headD .hole).toInt,((aA 18 r).headD .hole).aS⟩,⟨((aA 19 r).headD .hole).toInt,((aA 20 r).headD .hole).aS⟩⟩⟩
instance :RT aY:=⟨aY.enc,aY.dec,21,fun _ _=>rfl,fun _ _=>rfl⟩
def aY.at (xs:aC)(i:Nat):aY:=aY.dec (List.getD xs i [])
def av.r (x:av):aY:=⟨(x.aR.map aa.row),x.cq,(ah.r x.aT),(aL.r x.ep),(bT.r x.fR)⟩
def av.row (x:av):List L:=aY.enc x.r
def av.zero:av:=⟨[],false,ah.zero,aL.zero,bT.zero⟩
def av.dA {a b:av}(h:a.r=b.r):a=b:=by
 cases a;cases b
 simp only [av.r,aY.mk.injEq] at h
 obtain ⟨h0,h1,h2,h3,h4⟩:=h
 simp only [av.mk.injEq]
 exact ⟨(map_inj aa.cY h0),h1,(ah.dA h2),(aL.dA h3),(bT.dA h4)⟩
def av.cY {a b:av}(h:av.row a=av.row b):a=b:=av.dA (congrArg aY.dec h)
def av.dI {xs:List av}{i:Nat}:aY.at (xs.map av.row) i=(xs.getD i av.zero).r:=eV (r:=fun x=>av.r x) (fun _=>rfl) rfl
def av.qB (x:av):(av.r x).aR=(x.aR.map aa.row):=Eq.trans rfl rfl
def av.qu (x:av):(av.r x).cq=x.cq:=Eq.trans rfl rfl
def av.kY (x:av):(av.r x).aT=(ah.r x.aT):=Eq.trans rfl rfl
def av.xz (x:av):(av.r x).ep=(aL.r x.ep):=Eq.trans rfl rfl
def av.AJ (x:av):(av.r x).fR=(bT.r x.fR):=Eq.trans rfl rfl
instance :Row av:=⟨av.row,av.cY⟩
instance :Im av aY:=⟨av.r,av.dA⟩
def av.rs:(∀(xs:List av) (i:Nat),aY.at (xs.map av.row) i=(xs.getD i av.zero).r)/\(∀x:av,(av.r x).aR=(x.aR.map aa.row))/\(∀x:av,(av.r x).cq=x.cq)/\(∀x:av,(av.r x).aT=(ah.r x.aT))/\(∀x:av,(av.r x).ep=(aL.r x.ep))/\(∀x:av,(av.r x).fR=(bT.r x.fR)):=⟨fun _ _=>av.dI,av.qB,av.qu,av.kY,av.xz,av.AJ⟩
def av.Sm (n:Nat)(x:av):Prop:=bM n (fun y:aa=>aa.Sm n y) x.aR/\ah.Sm n x.aT/\aL.Sm n x.ep/\bT.Sm n x.fR
def av.size (x:av):Nat:=dP (fun y:aa=>aa.size y) x.aR+ah.size x.aT+aL.size x.ep+bT.size x.fR
def SS:=And.intro (And.intro S0 MM) (And.intro aM.rs (And.intro aE.rs (And.intro bk.rs (And.intro aa.rs (And.intro az.rs (And.intro aq.rs (And.intro ah.rs (And.intro bE.rs (And.intro aK.rs (And.intro ay.rs (And.intro eG.rs (And.intro bS.rs (And.intro gh.rs (And.intro aL.rs (And.intro bT.rs (And.intro av.rs trivial))))))))))))))))
def fz {p:Prop}(h:p:=by first | rfl | (simp only [SS];done) | (simp only [MP];rfl) | (simp only [SS,MP];first | done | rfl) | (simp only [aM.r,aE.r,aa.r,az.r,aq.r,ah.r,bE.r,aK.r,ay.r,bS.r,aL.r,bT.r,av.r,SS,MP];first | done | rfl) | (simp only [SS,MP,List.length_take,List.length_drop];first | done | rfl)):p:=h
def rq {p q:Prop}(h:p)(k:p->q:=by intro R_;first | exact R_ | (simp only [MP,SS] at R_ ⊢;first | exact R_ | (rw [<-R_];rfl))):q:=k h
end Go.DM

end
