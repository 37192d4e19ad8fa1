/- The structures of the program, as mathematical records. Conditions: none. -/
import Derived.Test.YtbojpakoeellaaaGreatResolveAllDd
set_option linter.all false
noncomputable section
namespace Go.DM
structure bE where
 aX:aB
 cE:Int
structure aO where
 aX:List Int
 cE:Int
def bE.enc (x:bE):List L:=[.sl x.aX,.int x.cE]
def bE.dec (r:List L):bE:=⟨((aA 0 r).headD .hole).aQ,((aA 1 r).headD .hole).toInt⟩
instance :RT bE:=⟨bE.enc,bE.dec,2,fun _ _=>rfl,fun _ _=>rfl⟩
def bE.at (xs:aB)(i:Nat):bE:=bE.dec (List.getD xs i [])
def aO.r (x:aO):bE:=⟨(x.aX.map bq),x.cE⟩
def aO.row (x:aO):List L:=bE.enc x.r
def aO.zero:aO:=⟨[],0⟩
def aO.dA {a b:aO}(h:a.r=b.r):a=b:=by
 cases a;cases b
 simp only [aO.r,bE.mk.injEq] at h
 obtain ⟨h0,h1⟩:=h
 simp only [aO.mk.injEq]
 exact ⟨(map_inj lu h0),h1⟩
def aO.dn {a b:aO}(h:aO.row a=aO.row b):a=b:=aO.dA (congrArg bE.dec h)
def aO.dL {xs:List aO}{i:Nat}:bE.at (xs.map aO.row) i=(xs.getD i aO.zero).r:=eX (r:=fun x=>aO.r x) (fun _=>rfl) rfl
def aO.zO (x:aO):(aO.r x).aX=(x.aX.map bq):=Eq.trans rfl rfl
def aO.zm (x:aO):(aO.r x).cE=x.cE:=Eq.trans rfl rfl
instance :Row aO:=⟨aO.row,aO.dn⟩
instance :Im aO bE:=⟨aO.r,aO.dA⟩
def aO.rs:(∀(xs:List aO) (i:Nat),bE.at (xs.map aO.row) i=(xs.getD i aO.zero).r)/\(∀x:aO,(aO.r x).aX=(x.aX.map bq))/\(∀x:aO,(aO.r x).cE=x.cE):=⟨fun _ _=>aO.dL,aO.zO,aO.zm⟩
def aO.Sm (n:Nat)(x:aO):Prop:=bM n (fun y:Int=>True) x.aX
def aO.size (x:aO):Nat:=dJ (fun y:Int=>0) x.aX
def aO.cQ {n m:Nat}(hn:n<=m){x:aO}(h:aO.Sm n x):aO.Sm m x:=h.mono hn (fun x hx=>trivial)
def aO.fZ {n:Nat}{x:aO}(h:x.size<=n):aO.Sm n x:=by
 unfold aO.size at h
 have g0:dJ (fun y:Int=>0) x.aX<=n:=by omega
 exact iQ g0 (fun x hx=>trivial)
structure cg where
 bz:Int
 cI:Int
 bQ:Int
 cF:Int
 cC:Int
 cu:Int
 cW:Int
 dy:Int
 bR:bE
 bD:bE
 cY:Int
 bB:bE
 bF:Bool
structure aF where
 bz:Int
 cI:Int
 bQ:Int
 cF:Int
 cC:Int
 cu:Int
 cW:Int
 dy:Int
 bR:aO
 bD:aO
 cY:Int
 bB:aO
 bF:Bool
def cg.enc (x:cg):List L:=[.int x.bz,.int x.cI,.int x.bQ,.int x.cF,.int x.cC,.int x.cu,.int x.cW,.int x.dy,.sl x.bR.aX,.int x.bR.cE,.sl x.bD.aX,.int x.bD.cE,.int x.cY,.sl x.bB.aX,.int x.bB.cE,.bool x.bF]
def cg.dec (r:List L):cg:=⟨((aA 0 r).headD .hole).toInt,((aA 1 r).headD .hole).toInt,((aA 2 r).headD .hole).toInt,((aA 3 r).headD .hole).toInt,((aA 4 r).headD .hole).toInt,((aA 5 r).headD .hole).toInt,((aA 6 r).headD .hole).toInt,((aA 7 r).headD .hole).toInt,⟨((aA 8 r).headD .hole).aQ,((aA 9 r).headD .hole).toInt⟩,⟨((aA 10 r).headD .hole).aQ,((aA 11 r).headD .hole).toInt⟩,((aA 12 r).headD .hole).toInt,⟨((aA 13 r).headD .hole).aQ,((aA 14 r).headD .hole).toInt⟩,((aA 15 r).headD .hole).toBool⟩
instance :RT cg:=⟨cg.enc,cg.dec,16,fun _ _=>rfl,fun _ _=>rfl⟩
def cg.at (xs:aB)(i:Nat):cg:=cg.dec (List.getD xs i [])
def aF.r (x:aF):cg:=⟨x.bz,x.cI,x.bQ,x.cF,x.cC,x.cu,x.cW,x.dy,(aO.r x.bR),(aO.r x.bD),x.cY,(aO.r x.bB),x.bF⟩
def aF.row (x:aF):List L:=cg.enc x.r
def aF.zero:aF:=⟨0,0,0,0,0,0,0,0,aO.zero,aO.zero,0,aO.zero,false⟩
def aF.dA {a b:aF}(h:a.r=b.r):a=b:=by
 cases a;cases b
 simp only [aF.r,cg.mk.injEq] at h
 obtain ⟨h0,h1,h2,h3,h4,h5,h6,h7,h8,h9,h10,h11,h12⟩:=h
 simp only [aF.mk.injEq]
 exact ⟨h0,h1,h2,h3,h4,h5,h6,h7,(aO.dA h8),(aO.dA h9),h10,(aO.dA h11),h12⟩
def aF.dn {a b:aF}(h:aF.row a=aF.row b):a=b:=aF.dA (congrArg cg.dec h)
def aF.dL {xs:List aF}{i:Nat}:cg.at (xs.map aF.row) i=(xs.getD i aF.zero).r:=eX (r:=fun x=>aF.r x) (fun _=>rfl) rfl
def aF.zw (x:aF):(aF.r x).bz=x.bz:=Eq.trans rfl rfl
def aF.yt (x:aF):(aF.r x).cI=x.cI:=Eq.trans rfl rfl
def aF.tc (x:aF):(aF.r x).bQ=x.bQ:=Eq.trans rfl rfl
def aF.zP (x:aF):(aF.r x).cF=x.cF:=Eq.trans rfl rfl
def aF.yP (x:aF):(aF.r x).cC=x.cC:=Eq.trans rfl rfl
def aF.xS (x:aF):(aF.r x).cu=x.cu:=Eq.trans rfl rfl
def aF.zD (x:aF):(aF.r x).cW=x.cW:=Eq.trans rfl rfl
def aF.ze (x:aF):(aF.r x).dy=x.dy:=Eq.trans rfl rfl
def aF.za (x:aF):(aF.r x).bR=(aO.r x.bR):=Eq.trans rfl rfl
def aF.yB (x:aF):(aF.r x).bD=(aO.r x.bD):=Eq.trans rfl rfl
def aF.zG (x:aF):(aF.r x).cY=x.cY:=Eq.trans rfl rfl
def aF.xZ (x:aF):(aF.r x).bB=(aO.r x.bB):=Eq.trans rfl rfl
def aF.xk (x:aF):(aF.r x).bF=x.bF:=Eq.trans rfl rfl
instance :Row aF:=⟨aF.row,aF.dn⟩
instance :Im aF cg:=⟨aF.r,aF.dA⟩
def aF.rs:(∀(xs:List aF) (i:Nat),cg.at (xs.map aF.row) i=(xs.getD i aF.zero).r)/\(∀x:aF,(aF.r x).bz=x.bz)/\(∀x:aF,(aF.r x).cI=x.cI)/\(∀x:aF,(aF.r x).bQ=x.bQ)/\(∀x:aF,(aF.r x).cF=x.cF)/\(∀x:aF,(aF.r x).cC=x.cC)/\(∀x:aF,(aF.r x).cu=x.cu)/\(∀x:aF,(aF.r x).cW=x.cW)/\(∀x:aF,(aF.r x).dy=x.dy)/\(∀x:aF,(aF.r x).bR=(aO.r x.bR))/\(∀x:aF,(aF.r x).bD=(aO.r x.bD))/\(∀x:aF,(aF.r x).cY=x.cY)/\(∀x:aF,(aF.r x).bB=(aO.r x.bB))/\(∀x:aF,(aF.r x).bF=x.bF):=⟨fun _ _=>aF.dL,aF.zw,aF.yt,aF.tc,aF.zP,aF.yP,aF.xS,aF.zD,aF.ze,aF.za,aF.yB,aF.zG,aF.xZ,aF.xk⟩
def aF.Sm (n:Nat)(x:aF):Prop:=aO.Sm n x.bR/\aO.Sm n x.bD/\aO.Sm n x.bB
def aF.size (x:aF):Nat:=aO.size x.bR+aO.size x.bD+aO.size x.bB
def aF.cQ {n m:Nat}(hn:n<=m){x:aF}(h:aF.Sm n x):aF.Sm m x:=⟨aO.cQ hn h.1,aO.cQ hn h.2.1,aO.cQ hn h.2.2⟩
def aF.fZ {n:Nat}{x:aF}(h:x.size<=n):aF.Sm n x:=by
 unfold aF.size at h
 have g0:aO.size x.bR<=n:=by omega
 have g1:aO.size x.bD<=n:=by omega
 have g2:aO.size x.bB<=n:=by omega
 exact ⟨aO.fZ g0,aO.fZ g1,aO.fZ g2⟩
structure bt where
 gM:Int
 ju:Int
def bt.enc (x:bt):List L:=[.int x.gM,.int x.ju]
def bt.dec (r:List L):bt:=⟨((aA 0 r).headD .hole).toInt,((aA 1 r).headD .hole).toInt⟩
instance :RT bt:=⟨bt.enc,bt.dec,2,fun _ _=>rfl,fun _ _=>rfl⟩
def bt.at (xs:aB)(i:Nat):bt:=bt.dec (List.getD xs i [])
def bt.row (x:bt):List L:=bt.enc x
def bt.zero:bt:=⟨0,0⟩
def bt.dn {a b:bt}(h:bt.row a=bt.row b):a=b:=congrArg bt.dec h
def bt.dV {xs:List bt}{i:Nat}(h:i<xs.length):bt.at (xs.map bt.row) i=xs[i]:=by unfold bt.at;rw [getD_map h];rfl
def bt.dL {xs:List bt}{i:Nat}:bt.at (xs.map bt.row) i=xs.getD i bt.zero:=eX (r:=fun x=>x) (fun _=>rfl) rfl
def bt.eqc (a b:bt):(dY a.gM b.gM&&(dY a.ju b.ju&&true))=dY a b:=by
 cases a;cases b
 rw [Bool.eq_iff_iff]
 simp only [dh,Bool.and_eq_true,bt.mk.injEq,and_true]
instance :Row bt:=⟨bt.row,bt.dn⟩
instance :Im bt bt:=⟨fun x=>x,fun h=>h⟩
def bt.rs:(∀(xs:List bt) (i:Nat),bt.at (xs.map bt.row) i=xs.getD i bt.zero):=fun _ _=>bt.dL
def bt.Sm (n:Nat)(x:bt):Prop:=True
def bt.size (x:bt):Nat:=0
def bt.cQ {n m:Nat}(_:n<=m){x:bt}(_:bt.Sm n x):bt.Sm m x:=trivial
def bt.fZ {n:Nat}{x:bt}(_:x.size<=n):bt.Sm n x:=trivial
structure aR where
 aq:cg
 cm:aB
structure aa where
 aq:aF
 cm:List bt
def aR.enc (x:aR):List L:=[.int x.aq.bz,.int x.aq.cI,.int x.aq.bQ,.int x.aq.cF,.int x.aq.cC,.int x.aq.cu,.int x.aq.cW,.int x.aq.dy,.sl x.aq.bR.aX,.int x.aq.bR.cE,.sl x.aq.bD.aX,.int x.aq.bD.cE,.int x.aq.cY,.sl x.aq.bB.aX,.int x.aq.bB.cE,.bool x.aq.bF,.sl x.cm]
def aR.dec (r:List L):aR:=⟨⟨((aA 0 r).headD .hole).toInt,((aA 1 r).headD .hole).toInt,((aA 2 r).headD .hole).toInt,((aA 3 r).headD .hole).toInt,((aA 4 r).headD .hole).toInt,((aA 5 r).headD .hole).toInt,((aA 6 r).headD .hole).toInt,((aA 7 r).headD .hole).toInt,⟨((aA 8 r).headD .hole).aQ,((aA 9 r).headD .hole).toInt⟩,⟨((aA 10 r).headD .hole).aQ,((aA 11 r).headD .hole).toInt⟩,((aA 12 r).headD .hole).toInt,⟨((aA 13 r).headD .hole).aQ,((aA 14 r).headD .hole).toInt⟩,((aA 15 r).headD .hole).toBool⟩,((aA 16 r).headD .hole).aQ⟩
instance :RT aR:=⟨aR.enc,aR.dec,17,fun _ _=>rfl,fun _ _=>rfl⟩
def aR.at (xs:aB)(i:Nat):aR:=aR.dec (List.getD xs i [])
def aa.r (x:aa):aR:=⟨(aF.r x.aq),(x.cm.map bt.row)⟩
def aa.row (x:aa):List L:=aR.enc x.r
def aa.zero:aa:=⟨aF.zero,[]⟩
def aa.dA {a b:aa}(h:a.r=b.r):a=b:=by
 cases a;cases b
 simp only [aa.r,aR.mk.injEq] at h
 obtain ⟨h0,h1⟩:=h
 simp only [aa.mk.injEq]
 exact ⟨(aF.dA h0),(map_inj bt.dn h1)⟩
def aa.dn {a b:aa}(h:aa.row a=aa.row b):a=b:=aa.dA (congrArg aR.dec h)
def aa.dV {xs:List aa}{i:Nat}(h:i<xs.length):aR.at (xs.map aa.row) i=(xs[i]).r:=by unfold aR.at;rw [getD_map h];rfl
def aa.dL {xs:List aa}{i:Nat}:aR.at (xs.map aa.row) i=(xs.getD i aa.zero).r:=eX (r:=fun x=>aa.r x) (fun _=>rfl) rfl
def aa.zn (x:aa):(aa.r x).aq=(aF.r x.aq):=Eq.trans rfl rfl
def aa.yZ (x:aa):(aa.r x).cm=(x.cm.map bt.row):=Eq.trans rfl rfl
instance :Row aa:=⟨aa.row,aa.dn⟩
instance :Im aa aR:=⟨aa.r,aa.dA⟩
def aa.rs:(∀(xs:List aa) (i:Nat),aR.at (xs.map aa.row) i=(xs.getD i aa.zero).r)/\(∀x:aa,(aa.r x).aq=(aF.r x.aq))/\(∀x:aa,(aa.r x).cm=(x.cm.map bt.row)):=⟨fun _ _=>aa.dL,aa.zn,aa.yZ⟩
def aa.Sm (n:Nat)(x:aa):Prop:=aF.Sm n x.aq/\bM n (fun y:bt=>bt.Sm n y) x.cm
def aa.size (x:aa):Nat:=aF.size x.aq+dJ (fun y:bt=>bt.size y) x.cm
def aa.cQ {n m:Nat}(hn:n<=m){x:aa}(h:aa.Sm n x):aa.Sm m x:=⟨aF.cQ hn h.1,h.2.mono hn (fun x hx=>bt.cQ hn hx)⟩
def aa.fZ {n:Nat}{x:aa}(h:x.size<=n):aa.Sm n x:=by
 unfold aa.size at h
 have g0:aF.size x.aq<=n:=by omega
 have g1:dJ (fun y:bt=>bt.size y) x.cm<=n:=by omega
 exact ⟨aF.fZ g0,iQ g1 (fun x hx=>bt.fZ hx)⟩
structure bJ where
 aS:aR
 fA:aR
 fB:aR
structure az where
 aS:aa
 fA:aa
 fB:aa
def bJ.enc (x:bJ):List L:=[.int x.aS.aq.bz,.int x.aS.aq.cI,.int x.aS.aq.bQ,.int x.aS.aq.cF,.int x.aS.aq.cC,.int x.aS.aq.cu,.int x.aS.aq.cW,.int x.aS.aq.dy,.sl x.aS.aq.bR.aX,.int x.aS.aq.bR.cE,.sl x.aS.aq.bD.aX,.int x.aS.aq.bD.cE,.int x.aS.aq.cY,.sl x.aS.aq.bB.aX,.int x.aS.aq.bB.cE,.bool x.aS.aq.bF,.sl x.aS.cm,.int x.fA.aq.bz,.int x.fA.aq.cI,.int x.fA.aq.bQ,.int x.fA.aq.cF,.int x.fA.aq.cC,.int x.fA.aq.cu,.int x.fA.aq.cW,.int x.fA.aq.dy,.sl x.fA.aq.bR.aX,.int x.fA.aq.bR.cE,.sl x.fA.aq.bD.aX,.int x.fA.aq.bD.cE,.int x.fA.aq.cY,.sl x.fA.aq.bB.aX,.int x.fA.aq.bB.cE,.bool x.fA.aq.bF,.sl x.fA.cm,.int x.fB.aq.bz,.int x.fB.aq.cI,.int x.fB.aq.bQ,.int x.fB.aq.cF,.int x.fB.aq.cC,.int x.fB.aq.cu,.int x.fB.aq.cW,.int x.fB.aq.dy,.sl x.fB.aq.bR.aX,.int x.fB.aq.bR.cE,.sl x.fB.aq.bD.aX,.int x.fB.aq.bD.cE,.int x.fB.aq.cY,.sl x.fB.aq.bB.aX,.int x.fB.aq.bB.cE,.bool x.fB.aq.bF,.sl x.fB.cm]
def bJ.dec (r:List L):bJ:=⟨⟨⟨((aA 0 r).headD .hole).toInt,((aA 1 r).headD .hole).toInt,((aA 2 r).headD .hole).toInt,((aA 3 r).headD .hole).toInt,((aA 4 r).headD .hole).toInt,((aA 5 r).headD .hole).toInt,((aA 6 r).headD .hole).toInt,((aA 7 r).headD .hole).toInt,⟨((aA 8 r).headD .hole).aQ,((aA 9 r).headD .hole).toInt⟩,⟨((aA 10 r).headD .hole).aQ,((aA 11 r).headD .hole).toInt⟩,((aA 12 r).headD .hole).toInt,⟨((aA 13 r).headD .hole).aQ,((aA 14 r).headD .hole).toInt⟩,((aA 15 r).headD .hole).toBool⟩,((aA 16 r).headD .hole).aQ⟩,⟨⟨((aA 17 r).headD .hole).toInt,((aA 18 r).headD .hole).toInt,((aA 19 r).headD .hole).toInt,((aA 20 r).headD .hole).toInt,((aA 21 r).headD .hole).toInt,((aA 22 r).headD .hole).toInt,((aA 23 r).headD .hole).toInt,((aA 24 r).headD .hole).toInt,⟨((aA 25 r).headD .hole).aQ,((aA 26 r).headD .hole).toInt⟩,⟨((aA 27 r).headD .hole).aQ,((aA 28 r).headD .hole).toInt⟩,((aA 29 r).headD .hole).toInt,⟨((aA 30 r).headD .hole).aQ,((aA 31 r).headD .hole).toInt⟩,((aA 32 r).headD .hole).toBool⟩,((aA 33 r).headD .hole).aQ⟩,⟨⟨((aA 34 r).headD .hole).toInt,((aA 35 r).headD .hole).toInt,((aA 36 r).headD .hole).toInt,((aA 37 r).headD .hole).toInt,((aA 38 r).headD .hole).toInt,((aA 39 r).headD .hole).toInt,((aA 40 r).headD .hole).toInt,((aA 41 r).headD .hole).toInt,⟨((aA 42 r).headD .hole).aQ,((aA 43 r).headD .hole).toInt⟩,⟨((aA 44 r).headD .hole).aQ,((aA 45 r).headD .hole).toInt⟩,((aA 46 r).headD .hole).toInt,⟨((aA 47 r).headD .hole).aQ,((aA 48 r).headD .hole).toInt⟩,((aA 49 r).headD .hole).toBool⟩,((aA 50 r).headD .hole).aQ⟩⟩
instance :RT bJ:=⟨bJ.enc,bJ.dec,51,fun _ _=>rfl,fun _ _=>rfl⟩
def bJ.at (xs:aB)(i:Nat):bJ:=bJ.dec (List.getD xs i [])
def az.r (x:az):bJ:=⟨(aa.r x.aS),(aa.r x.fA),(aa.r x.fB)⟩
def az.row (x:az):List L:=bJ.enc x.r
def az.zero:az:=⟨aa.zero,aa.zero,aa.zero⟩
def az.dA {a b:az}(h:a.r=b.r):a=b:=by
 cases a;cases b
 simp only [az.r,bJ.mk.injEq] at h
 obtain ⟨h0,h1,h2⟩:=h
 simp only [az.mk.injEq]
 exact ⟨(aa.dA h0),(aa.dA h1),(aa.dA h2)⟩
def az.dn {a b:az}(h:az.row a=az.row b):a=b:=az.dA (congrArg bJ.dec h)
def az.dV {xs:List az}{i:Nat}(h:i<xs.length):bJ.at (xs.map az.row) i=(xs[i]).r:=by unfold bJ.at;rw [getD_map h];rfl
def az.dL {xs:List az}{i:Nat}:bJ.at (xs.map az.row) i=(xs.getD i az.zero).r:=eX (r:=fun x=>az.r x) (fun _=>rfl) rfl
def az.ow (x:az):(az.r x).aS=(aa.r x.aS):=Eq.trans rfl rfl
def az.BU (x:az):(az.r x).fA=(aa.r x.fA):=Eq.trans rfl rfl
def az.BE (x:az):(az.r x).fB=(aa.r x.fB):=Eq.trans rfl rfl
instance :Row az:=⟨az.row,az.dn⟩
instance :Im az bJ:=⟨az.r,az.dA⟩
def az.rs:(∀(xs:List az) (i:Nat),bJ.at (xs.map az.row) i=(xs.getD i az.zero).r)/\(∀x:az,(az.r x).aS=(aa.r x.aS))/\(∀x:az,(az.r x).fA=(aa.r x.fA))/\(∀x:az,(az.r x).fB=(aa.r x.fB)):=⟨fun _ _=>az.dL,az.ow,az.BU,az.BE⟩
def az.Sm (n:Nat)(x:az):Prop:=aa.Sm n x.aS/\aa.Sm n x.fA/\aa.Sm n x.fB
def az.size (x:az):Nat:=aa.size x.aS+aa.size x.fA+aa.size x.fB
def az.cQ {n m:Nat}(hn:n<=m){x:az}(h:az.Sm n x):az.Sm m x:=⟨aa.cQ hn h.1,aa.cQ hn h.2.1,aa.cQ hn h.2.2⟩
def az.fZ {n:Nat}{x:az}(h:x.size<=n):az.Sm n x:=by
 unfold az.size at h
 have g0:aa.size x.aS<=n:=by omega
 have g1:aa.size x.fA<=n:=by omega
 have g2:aa.size x.fB<=n:=by omega
 exact ⟨aa.fZ g0,aa.fZ g1,aa.fZ g2⟩
structure bn where
 aG:aB
 aW:aB
structure aj where
 aG:List (List aa)
 aW:List az
def bn.enc (x:bn):List L:=[.sl x.aG,.sl x.aW]
def bn.dec (r:List L):bn:=⟨((aA 0 r).headD .hole).aQ,((aA 1 r).headD .hole).aQ⟩
instance :RT bn:=⟨bn.enc,bn.dec,2,fun _ _=>rfl,fun _ _=>rfl⟩
def bn.at (xs:aB)(i:Nat):bn:=bn.dec (List.getD xs i [])
def aj.r (x:aj):bn:=⟨(x.aG.map (dI aa.row)),(x.aW.map az.row)⟩
def aj.row (x:aj):List L:=bn.enc x.r
def aj.zero:aj:=⟨[],[]⟩
def aj.dA {a b:aj}(h:a.r=b.r):a=b:=by
 cases a;cases b
 simp only [aj.r,bn.mk.injEq] at h
 obtain ⟨h0,h1⟩:=h
 simp only [aj.mk.injEq]
 exact ⟨(map_inj (uL aa.dn) h0),(map_inj az.dn h1)⟩
def aj.dn {a b:aj}(h:aj.row a=aj.row b):a=b:=aj.dA (congrArg bn.dec h)
def aj.dL {xs:List aj}{i:Nat}:bn.at (xs.map aj.row) i=(xs.getD i aj.zero).r:=eX (r:=fun x=>aj.r x) (fun _=>rfl) rfl
def aj.wS (x:aj):(aj.r x).aG=(x.aG.map (dI aa.row)):=Eq.trans rfl rfl
def aj.ya (x:aj):(aj.r x).aW=(x.aW.map az.row):=Eq.trans rfl rfl
instance :Row aj:=⟨aj.row,aj.dn⟩
instance :Im aj bn:=⟨aj.r,aj.dA⟩
def aj.rs:(∀(xs:List aj) (i:Nat),bn.at (xs.map aj.row) i=(xs.getD i aj.zero).r)/\(∀x:aj,(aj.r x).aG=(x.aG.map (dI aa.row)))/\(∀x:aj,(aj.r x).aW=(x.aW.map az.row)):=⟨fun _ _=>aj.dL,aj.wS,aj.ya⟩
def aj.Sm (n:Nat)(x:aj):Prop:=bM n (fun y:List aa=>bM n (fun y:aa=>aa.Sm n y) y) x.aG/\bM n (fun y:az=>az.Sm n y) x.aW
def aj.size (x:aj):Nat:=dJ (fun y:List aa=>dJ (fun y:aa=>aa.size y) y) x.aG+dJ (fun y:az=>az.size y) x.aW
def aj.cQ {n m:Nat}(hn:n<=m){x:aj}(h:aj.Sm n x):aj.Sm m x:=⟨h.1.mono hn (fun x hx=>hx.mono hn (fun x hx=>aa.cQ hn hx)),h.2.mono hn (fun x hx=>az.cQ hn hx)⟩
def aj.fZ {n:Nat}{x:aj}(h:x.size<=n):aj.Sm n x:=by
 unfold aj.size at h
 have g0:dJ (fun y:List aa=>dJ (fun y:aa=>aa.size y) y) x.aG<=n:=by omega
 have g1:dJ (fun y:az=>az.size y) x.aW<=n:=by omega
 exact ⟨iQ g0 (fun x hx=>iQ hx (fun x hx=>aa.fZ hx)),iQ g1 (fun x hx=>az.fZ hx)⟩
structure aY where
 bw:aD
 bQ:Int
 cw:Int
 bK:aB
structure ah where
 bw:aD
 bQ:Int
 cw:Int
 bK:List aD
def aY.enc (x:aY):List L:=[.str x.bw,.int x.bQ,.int x.cw,.sl x.bK]
def aY.dec (r:List L):aY:=⟨((aA 0 r).headD .hole).toStr,((aA 1 r).headD .hole).toInt,((aA 2 r).headD .hole).toInt,((aA 3 r).headD .hole).aQ⟩
instance :RT aY:=⟨aY.enc,aY.dec,4,fun _ _=>rfl,fun _ _=>rfl⟩
def aY.at (xs:aB)(i:Nat):aY:=aY.dec (List.getD xs i [])
def ah.r (x:ah):aY:=⟨x.bw,x.bQ,x.cw,(x.bK.map cG)⟩
def ah.row (x:ah):List L:=aY.enc x.r
def ah.zero:ah:=⟨⟨#[]⟩,0,0,[]⟩
def ah.dA {a b:ah}(h:a.r=b.r):a=b:=by
 cases a;cases b
 simp only [ah.r,aY.mk.injEq] at h
 obtain ⟨h0,h1,h2,h3⟩:=h
 simp only [ah.mk.injEq]
 exact ⟨h0,h1,h2,(map_inj uj h3)⟩
def ah.dn {a b:ah}(h:ah.row a=ah.row b):a=b:=ah.dA (congrArg aY.dec h)
def ah.dV {xs:List ah}{i:Nat}(h:i<xs.length):aY.at (xs.map ah.row) i=(xs[i]).r:=by unfold aY.at;rw [getD_map h];rfl
def ah.dL {xs:List ah}{i:Nat}:aY.at (xs.map ah.row) i=(xs.getD i ah.zero).r:=eX (r:=fun x=>ah.r x) (fun _=>rfl) rfl
def ah.xy (x:ah):(ah.r x).bw=x.bw:=Eq.trans rfl rfl
def ah.tc (x:ah):(ah.r x).bQ=x.bQ:=Eq.trans rfl rfl
def ah.yG (x:ah):(ah.r x).cw=x.cw:=Eq.trans rfl rfl
def ah.sN (x:ah):(ah.r x).bK=(x.bK.map cG):=Eq.trans rfl rfl
instance :Row ah:=⟨ah.row,ah.dn⟩
instance :Im ah aY:=⟨ah.r,ah.dA⟩
def ah.rs:(∀(xs:List ah) (i:Nat),aY.at (xs.map ah.row) i=(xs.getD i ah.zero).r)/\(∀x:ah,(ah.r x).bw=x.bw)/\(∀x:ah,(ah.r x).bQ=x.bQ)/\(∀x:ah,(ah.r x).cw=x.cw)/\(∀x:ah,(ah.r x).bK=(x.bK.map cG)):=⟨fun _ _=>ah.dL,ah.xy,ah.tc,ah.yG,ah.sN⟩
def ah.Sm (n:Nat)(x:ah):Prop:=(x.bw).size<=n/\bM n (fun y:aD=>(y).size<=n) x.bK
def ah.size (x:ah):Nat:=(x.bw).size+dJ (fun y:aD=>(y).size) x.bK
def ah.cQ {n m:Nat}(hn:n<=m){x:ah}(h:ah.Sm n x):ah.Sm m x:=⟨Nat.le_trans h.1 hn,h.2.mono hn (fun x hx=>Nat.le_trans hx hn)⟩
def ah.fZ {n:Nat}{x:ah}(h:x.size<=n):ah.Sm n x:=by
 unfold ah.size at h
 have g0:(x.bw).size<=n:=by omega
 have g1:dJ (fun y:aD=>(y).size) x.bK<=n:=by omega
 exact ⟨g0,iQ g1 (fun x hx=>hx)⟩
structure cK where
 bP:bn
 jw:Int
 bp:aY
 bI:aB
 gP:Int
structure aL where
 bP:aj
 jw:Int
 bp:ah
 bI:List Int
 gP:Int
def cK.enc (x:cK):List L:=[.sl x.bP.aG,.sl x.bP.aW,.int x.jw,.str x.bp.bw,.int x.bp.bQ,.int x.bp.cw,.sl x.bp.bK,.sl x.bI,.int x.gP]
def cK.dec (r:List L):cK:=⟨⟨((aA 0 r).headD .hole).aQ,((aA 1 r).headD .hole).aQ⟩,((aA 2 r).headD .hole).toInt,⟨((aA 3 r).headD .hole).toStr,((aA 4 r).headD .hole).toInt,((aA 5 r).headD .hole).toInt,((aA 6 r).headD .hole).aQ⟩,((aA 7 r).headD .hole).aQ,((aA 8 r).headD .hole).toInt⟩
instance :RT cK:=⟨cK.enc,cK.dec,9,fun _ _=>rfl,fun _ _=>rfl⟩
def cK.at (xs:aB)(i:Nat):cK:=cK.dec (List.getD xs i [])
def aL.r (x:aL):cK:=⟨(aj.r x.bP),x.jw,(ah.r x.bp),(x.bI.map bq),x.gP⟩
def aL.row (x:aL):List L:=cK.enc x.r
def aL.zero:aL:=⟨aj.zero,0,ah.zero,[],0⟩
def aL.dA {a b:aL}(h:a.r=b.r):a=b:=by
 cases a;cases b
 simp only [aL.r,cK.mk.injEq] at h
 obtain ⟨h0,h1,h2,h3,h4⟩:=h
 simp only [aL.mk.injEq]
 exact ⟨(aj.dA h0),h1,(ah.dA h2),(map_inj lu h3),h4⟩
def aL.dn {a b:aL}(h:aL.row a=aL.row b):a=b:=aL.dA (congrArg cK.dec h)
def aL.dV {xs:List aL}{i:Nat}(h:i<xs.length):cK.at (xs.map aL.row) i=(xs[i]).r:=by unfold cK.at;rw [getD_map h];rfl
def aL.dL {xs:List aL}{i:Nat}:cK.at (xs.map aL.row) i=(xs.getD i aL.zero).r:=eX (r:=fun x=>aL.r x) (fun _=>rfl) rfl
def aL.qI (x:aL):(aL.r x).bP=(aj.r x.bP):=Eq.trans rfl rfl
def aL.zu (x:aL):(aL.r x).jw=x.jw:=Eq.trans rfl rfl
def aL.kY (x:aL):(aL.r x).bp=(ah.r x.bp):=Eq.trans rfl rfl
def aL.qz (x:aL):(aL.r x).bI=(x.bI.map bq):=Eq.trans rfl rfl
def aL.xI (x:aL):(aL.r x).gP=x.gP:=Eq.trans rfl rfl
instance :Row aL:=⟨aL.row,aL.dn⟩
instance :Im aL cK:=⟨aL.r,aL.dA⟩
def aL.rs:(∀(xs:List aL) (i:Nat),cK.at (xs.map aL.row) i=(xs.getD i aL.zero).r)/\(∀x:aL,(aL.r x).bP=(aj.r x.bP))/\(∀x:aL,(aL.r x).jw=x.jw)/\(∀x:aL,(aL.r x).bp=(ah.r x.bp))/\(∀x:aL,(aL.r x).bI=(x.bI.map bq))/\(∀x:aL,(aL.r x).gP=x.gP):=⟨fun _ _=>aL.dL,aL.qI,aL.zu,aL.kY,aL.qz,aL.xI⟩
def aL.Sm (n:Nat)(x:aL):Prop:=aj.Sm n x.bP/\ah.Sm n x.bp/\bM n (fun y:Int=>True) x.bI
def aL.size (x:aL):Nat:=aj.size x.bP+ah.size x.bp+dJ (fun y:Int=>0) x.bI
structure dN where
 aT:aB
 bN:aB
structure aM where
 aT:List aa
 bN:List ah
def dN.enc (x:dN):List L:=[.sl x.aT,.sl x.bN]
def dN.dec (r:List L):dN:=⟨((aA 0 r).headD .hole).aQ,((aA 1 r).headD .hole).aQ⟩
instance :RT dN:=⟨dN.enc,dN.dec,2,fun _ _=>rfl,fun _ _=>rfl⟩
def dN.at (xs:aB)(i:Nat):dN:=dN.dec (List.getD xs i [])
def aM.r (x:aM):dN:=⟨(x.aT.map aa.row),(x.bN.map ah.row)⟩
def aM.row (x:aM):List L:=dN.enc x.r
def aM.zero:aM:=⟨[],[]⟩
def aM.dA {a b:aM}(h:a.r=b.r):a=b:=by
 cases a;cases b
 simp only [aM.r,dN.mk.injEq] at h
 obtain ⟨h0,h1⟩:=h
 simp only [aM.mk.injEq]
 exact ⟨(map_inj aa.dn h0),(map_inj ah.dn h1)⟩
def aM.dn {a b:aM}(h:aM.row a=aM.row b):a=b:=aM.dA (congrArg dN.dec h)
def aM.dV {xs:List aM}{i:Nat}(h:i<xs.length):dN.at (xs.map aM.row) i=(xs[i]).r:=by unfold dN.at;rw [getD_map h];rfl
def aM.dL {xs:List aM}{i:Nat}:dN.at (xs.map aM.row) i=(xs.getD i aM.zero).r:=eX (r:=fun x=>aM.r x) (fun _=>rfl) rfl
def aM.qn (x:aM):(aM.r x).aT=(x.aT.map aa.row):=Eq.trans rfl rfl
def aM.vP (x:aM):(aM.r x).bN=(x.bN.map ah.row):=Eq.trans rfl rfl
instance :Row aM:=⟨aM.row,aM.dn⟩
instance :Im aM dN:=⟨aM.r,aM.dA⟩
def aM.rs:(∀(xs:List aM) (i:Nat),dN.at (xs.map aM.row) i=(xs.getD i aM.zero).r)/\(∀x:aM,(aM.r x).aT=(x.aT.map aa.row))/\(∀x:aM,(aM.r x).bN=(x.bN.map ah.row)):=⟨fun _ _=>aM.dL,aM.qn,aM.vP⟩
def aM.Sm (n:Nat)(x:aM):Prop:=bM n (fun y:aa=>aa.Sm n y) x.aT/\bM n (fun y:ah=>ah.Sm n y) x.bN
def aM.size (x:aM):Nat:=dJ (fun y:aa=>aa.size y) x.aT+dJ (fun y:ah=>ah.size y) x.bN
def aM.cQ {n m:Nat}(hn:n<=m){x:aM}(h:aM.Sm n x):aM.Sm m x:=⟨h.1.mono hn (fun x hx=>aa.cQ hn hx),h.2.mono hn (fun x hx=>ah.cQ hn hx)⟩
def aM.fZ {n:Nat}{x:aM}(h:x.size<=n):aM.Sm n x:=by
 unfold aM.size at h
 have g0:dJ (fun y:aa=>aa.size y) x.aT<=n:=by omega
 have g1:dJ (fun y:ah=>ah.size y) x.bN<=n:=by omega
 exact ⟨iQ g0 (fun x hx=>aa.fZ hx),iQ g1 (fun x hx=>ah.fZ hx)⟩
structure cM where
 bI:aB
 gH:Int
structure au where
 bI:List aM
 gH:Int
def cM.enc (x:cM):List L:=[.sl x.bI,.int x.gH]
def cM.dec (r:List L):cM:=⟨((aA 0 r).headD .hole).aQ,((aA 1 r).headD .hole).toInt⟩
instance :RT cM:=⟨cM.enc,cM.dec,2,fun _ _=>rfl,fun _ _=>rfl⟩
def cM.at (xs:aB)(i:Nat):cM:=cM.dec (List.getD xs i [])
def au.r (x:au):cM:=⟨(x.bI.map aM.row),x.gH⟩
def au.row (x:au):List L:=cM.enc x.r
def au.zero:au:=⟨[],0⟩
def au.dA {a b:au}(h:a.r=b.r):a=b:=by
 cases a;cases b
 simp only [au.r,cM.mk.injEq] at h
 obtain ⟨h0,h1⟩:=h
 simp only [au.mk.injEq]
 exact ⟨(map_inj aM.dn h0),h1⟩
def au.dn {a b:au}(h:au.row a=au.row b):a=b:=au.dA (congrArg cM.dec h)
def au.dV {xs:List au}{i:Nat}(h:i<xs.length):cM.at (xs.map au.row) i=(xs[i]).r:=by unfold cM.at;rw [getD_map h];rfl
def au.dL {xs:List au}{i:Nat}:cM.at (xs.map au.row) i=(xs.getD i au.zero).r:=eX (r:=fun x=>au.r x) (fun _=>rfl) rfl
def au.qz (x:au):(au.r x).bI=(x.bI.map aM.row):=Eq.trans rfl rfl
def au.Aq (x:au):(au.r x).gH=x.gH:=Eq.trans rfl rfl
instance :Row au:=⟨au.row,au.dn⟩
instance :Im au cM:=⟨au.r,au.dA⟩
def au.rs:(∀(xs:List au) (i:Nat),cM.at (xs.map au.row) i=(xs.getD i au.zero).r)/\(∀x:au,(au.r x).bI=(x.bI.map aM.row))/\(∀x:au,(au.r x).gH=x.gH):=⟨fun _ _=>au.dL,au.qz,au.Aq⟩
def au.Sm (n:Nat)(x:au):Prop:=bM n (fun y:aM=>aM.Sm n y) x.bI
def au.size (x:au):Nat:=dJ (fun y:aM=>aM.size y) x.bI
def au.cQ {n m:Nat}(hn:n<=m){x:au}(h:au.Sm n x):au.Sm m x:=h.mono hn (fun x hx=>aM.cQ hn hx)
def au.fZ {n:Nat}{x:au}(h:x.size<=n):au.Sm n x:=by
 unfold au.size at h
 have g0:dJ (fun y:aM=>aM.size y) x.bI<=n:=by omega
 exact iQ g0 (fun x hx=>aM.fZ hx)
structure bg where
 fName:aD
 bz:Int
def bg.enc (x:bg):List L:=[.str x.fName,.int x.bz]
def bg.dec (r:List L):bg:=⟨((aA 0 r).headD .hole).toStr,((aA 1 r).headD .hole).toInt⟩
instance :RT bg:=⟨bg.enc,bg.dec,2,fun _ _=>rfl,fun _ _=>rfl⟩
def bg.at (xs:aB)(i:Nat):bg:=bg.dec (List.getD xs i [])
def bg.row (x:bg):List L:=bg.enc x
def bg.zero:bg:=⟨⟨#[]⟩,0⟩
def bg.dn {a b:bg}(h:bg.row a=bg.row b):a=b:=congrArg bg.dec h
def bg.dV {xs:List bg}{i:Nat}(h:i<xs.length):bg.at (xs.map bg.row) i=xs[i]:=by unfold bg.at;rw [getD_map h];rfl
def bg.dL {xs:List bg}{i:Nat}:bg.at (xs.map bg.row) i=xs.getD i bg.zero:=eX (r:=fun x=>x) (fun _=>rfl) rfl
instance :Row bg:=⟨bg.row,bg.dn⟩
instance :Im bg bg:=⟨fun x=>x,fun h=>h⟩
def bg.rs:(∀(xs:List bg) (i:Nat),bg.at (xs.map bg.row) i=xs.getD i bg.zero):=fun _ _=>bg.dL
def bg.Sm (n:Nat)(x:bg):Prop:=(x.fName).size<=n
def bg.size (x:bg):Nat:=(x.fName).size
def bg.cQ {n m:Nat}(hn:n<=m){x:bg}(h:bg.Sm n x):bg.Sm m x:=Nat.le_trans h hn
def bg.fZ {n:Nat}{x:bg}(h:x.size<=n):bg.Sm n x:=by
 unfold bg.size at h
 have g0:(x.fName).size<=n:=by omega
 exact g0
structure cZ where
 bP:bn
 cy:Bool
 bp:aY
 jW:Bool
 kF:aB
structure bU where
 bP:aj
 cy:Bool
 bp:ah
 jW:Bool
 kF:List Int
def cZ.enc (x:cZ):List L:=[.sl x.bP.aG,.sl x.bP.aW,.bool x.cy,.str x.bp.bw,.int x.bp.bQ,.int x.bp.cw,.sl x.bp.bK,.bool x.jW,.sl x.kF]
def cZ.dec (r:List L):cZ:=⟨⟨((aA 0 r).headD .hole).aQ,((aA 1 r).headD .hole).aQ⟩,((aA 2 r).headD .hole).toBool,⟨((aA 3 r).headD .hole).toStr,((aA 4 r).headD .hole).toInt,((aA 5 r).headD .hole).toInt,((aA 6 r).headD .hole).aQ⟩,((aA 7 r).headD .hole).toBool,((aA 8 r).headD .hole).aQ⟩
instance :RT cZ:=⟨cZ.enc,cZ.dec,9,fun _ _=>rfl,fun _ _=>rfl⟩
def cZ.at (xs:aB)(i:Nat):cZ:=cZ.dec (List.getD xs i [])
def bU.r (x:bU):cZ:=⟨(aj.r x.bP),x.cy,(ah.r x.bp),x.jW,(x.kF.map bq)⟩
def bU.row (x:bU):List L:=cZ.enc x.r
def bU.zero:bU:=⟨aj.zero,false,ah.zero,false,[]⟩
def bU.dA {a b:bU}(h:a.r=b.r):a=b:=by
 cases a;cases b
 simp only [bU.r,cZ.mk.injEq] at h
 obtain ⟨h0,h1,h2,h3,h4⟩:=h
 simp only [bU.mk.injEq]
 exact ⟨(aj.dA h0),h1,(ah.dA h2),h3,(map_inj lu h4)⟩
def bU.dn {a b:bU}(h:bU.row a=bU.row b):a=b:=bU.dA (congrArg cZ.dec h)
def bU.dL {xs:List bU}{i:Nat}:cZ.at (xs.map bU.row) i=(xs.getD i bU.zero).r:=eX (r:=fun x=>bU.r x) (fun _=>rfl) rfl
def bU.qI (x:bU):(bU.r x).bP=(aj.r x.bP):=Eq.trans rfl rfl
def bU.qg (x:bU):(bU.r x).cy=x.cy:=Eq.trans rfl rfl
def bU.kY (x:bU):(bU.r x).bp=(ah.r x.bp):=Eq.trans rfl rfl
def bU.zq (x:bU):(bU.r x).jW=x.jW:=Eq.trans rfl rfl
def bU.xB (x:bU):(bU.r x).kF=(x.kF.map bq):=Eq.trans rfl rfl
instance :Row bU:=⟨bU.row,bU.dn⟩
instance :Im bU cZ:=⟨bU.r,bU.dA⟩
def bU.rs:(∀(xs:List bU) (i:Nat),cZ.at (xs.map bU.row) i=(xs.getD i bU.zero).r)/\(∀x:bU,(bU.r x).bP=(aj.r x.bP))/\(∀x:bU,(bU.r x).cy=x.cy)/\(∀x:bU,(bU.r x).bp=(ah.r x.bp))/\(∀x:bU,(bU.r x).jW=x.jW)/\(∀x:bU,(bU.r x).kF=(x.kF.map bq)):=⟨fun _ _=>bU.dL,bU.qI,bU.qg,bU.kY,bU.zq,bU.xB⟩
def bU.Sm (n:Nat)(x:bU):Prop:=aj.Sm n x.bP/\ah.Sm n x.bp/\bM n (fun y:Int=>True) x.kF
structure gj where
 fName:aD
 bz:Int
def gj.enc (x:gj):List L:=[.str x.fName,.int x.bz]
def gj.dec (r:List L):gj:=⟨((aA 0 r).headD .hole).toStr,((aA 1 r).headD .hole).toInt⟩
instance :RT gj:=⟨gj.enc,gj.dec,2,fun _ _=>rfl,fun _ _=>rfl⟩
def gj.at (xs:aB)(i:Nat):gj:=gj.dec (List.getD xs i [])
def gj.row (x:gj):List L:=gj.enc x
def gj.zero:gj:=⟨⟨#[]⟩,0⟩
def gj.dn {a b:gj}(h:gj.row a=gj.row b):a=b:=congrArg gj.dec h
def gj.dL {xs:List gj}{i:Nat}:gj.at (xs.map gj.row) i=xs.getD i gj.zero:=eX (r:=fun x=>x) (fun _=>rfl) rfl
instance :Row gj:=⟨gj.row,gj.dn⟩
instance :Im gj gj:=⟨fun x=>x,fun h=>h⟩
def gj.rs:(∀(xs:List gj) (i:Nat),gj.at (xs.map gj.row) i=xs.getD i gj.zero):=fun _ _=>gj.dL
structure bT where
 eB:Int
 bK:aB
structure aN where
 eB:Int
 bK:List Int
def bT.enc (x:bT):List L:=[.int x.eB,.sl x.bK]
def bT.dec (r:List L):bT:=⟨((aA 0 r).headD .hole).toInt,((aA 1 r).headD .hole).aQ⟩
instance :RT bT:=⟨bT.enc,bT.dec,2,fun _ _=>rfl,fun _ _=>rfl⟩
def bT.at (xs:aB)(i:Nat):bT:=bT.dec (List.getD xs i [])
def aN.r (x:aN):bT:=⟨x.eB,(x.bK.map bq)⟩
def aN.row (x:aN):List L:=bT.enc x.r
def aN.zero:aN:=⟨0,[]⟩
def aN.dA {a b:aN}(h:a.r=b.r):a=b:=by
 cases a;cases b
 simp only [aN.r,bT.mk.injEq] at h
 obtain ⟨h0,h1⟩:=h
 simp only [aN.mk.injEq]
 exact ⟨h0,(map_inj lu h1)⟩
def aN.dn {a b:aN}(h:aN.row a=aN.row b):a=b:=aN.dA (congrArg bT.dec h)
def aN.dL {xs:List aN}{i:Nat}:bT.at (xs.map aN.row) i=(xs.getD i aN.zero).r:=eX (r:=fun x=>aN.r x) (fun _=>rfl) rfl
def aN.yI (x:aN):(aN.r x).eB=x.eB:=Eq.trans rfl rfl
def aN.sN (x:aN):(aN.r x).bK=(x.bK.map bq):=Eq.trans rfl rfl
instance :Row aN:=⟨aN.row,aN.dn⟩
instance :Im aN bT:=⟨aN.r,aN.dA⟩
def aN.rs:(∀(xs:List aN) (i:Nat),bT.at (xs.map aN.row) i=(xs.getD i aN.zero).r)/\(∀x:aN,(aN.r x).eB=x.eB)/\(∀x:aN,(aN.r x).bK=(x.bK.map bq)):=⟨fun _ _=>aN.dL,aN.yI,aN.sN⟩
def aN.Sm (n:Nat)(x:aN):Prop:=bM n (fun y:Int=>True) x.bK
def aN.size (x:aN):Nat:=dJ (fun y:Int=>0) x.bK
structure dO where
 eB:Int
 aS:aY
 cJ:aY
 eC:bT
 cX:bT
structure bV where
 eB:Int
 aS:ah
 cJ:ah
 eC:aN
 cX:aN
def dO.enc (x:dO):List L:=[.int x.eB,.str x.aS.bw,.int x.aS.bQ,.int x.aS.cw,.sl x.aS.bK,.str x.cJ.bw,.int x.cJ.bQ,.int x.cJ.cw,.sl x.cJ.bK,.int x.eC.eB,.sl x.eC.bK,.int x.cX.eB,.sl x.cX.bK]
def dO.dec (r:List L):dO:=⟨((aA 0 r).headD .hole).toInt,⟨((aA 1 r).headD .hole).toStr,((aA 2 r).headD .hole).toInt,((aA 3 r).headD .hole).toInt,((aA 4 r).headD .hole).aQ⟩,⟨((aA 5 r).headD .hole).toStr,((aA 6 r).headD .hole).toInt,((aA 7 r).headD .hole).toInt,((aA 8 r).headD .hole).aQ⟩,⟨((aA 9 r).headD .hole).toInt,((aA 10 r).headD .hole).aQ⟩,⟨((aA 11 r).headD .hole).toInt,((aA 12 r).headD .hole).aQ⟩⟩
instance :RT dO:=⟨dO.enc,dO.dec,13,fun _ _=>rfl,fun _ _=>rfl⟩
def dO.at (xs:aB)(i:Nat):dO:=dO.dec (List.getD xs i [])
def bV.r (x:bV):dO:=⟨x.eB,(ah.r x.aS),(ah.r x.cJ),(aN.r x.eC),(aN.r x.cX)⟩
def bV.row (x:bV):List L:=dO.enc x.r
def bV.zero:bV:=⟨0,ah.zero,ah.zero,aN.zero,aN.zero⟩
def bV.dA {a b:bV}(h:a.r=b.r):a=b:=by
 cases a;cases b
 simp only [bV.r,dO.mk.injEq] at h
 obtain ⟨h0,h1,h2,h3,h4⟩:=h
 simp only [bV.mk.injEq]
 exact ⟨h0,(ah.dA h1),(ah.dA h2),(aN.dA h3),(aN.dA h4)⟩
def bV.dn {a b:bV}(h:bV.row a=bV.row b):a=b:=bV.dA (congrArg dO.dec h)
def bV.dL {xs:List bV}{i:Nat}:dO.at (xs.map bV.row) i=(xs.getD i bV.zero).r:=eX (r:=fun x=>bV.r x) (fun _=>rfl) rfl
def bV.yI (x:bV):(bV.r x).eB=x.eB:=Eq.trans rfl rfl
def bV.ow (x:bV):(bV.r x).aS=(ah.r x.aS):=Eq.trans rfl rfl
def bV.xL (x:bV):(bV.r x).cJ=(ah.r x.cJ):=Eq.trans rfl rfl
def bV.zp (x:bV):(bV.r x).eC=(aN.r x.eC):=Eq.trans rfl rfl
def bV.xV (x:bV):(bV.r x).cX=(aN.r x.cX):=Eq.trans rfl rfl
instance :Row bV:=⟨bV.row,bV.dn⟩
instance :Im bV dO:=⟨bV.r,bV.dA⟩
def bV.rs:(∀(xs:List bV) (i:Nat),dO.at (xs.map bV.row) i=(xs.getD i bV.zero).r)/\(∀x:bV,(bV.r x).eB=x.eB)/\(∀x:bV,(bV.r x).aS=(ah.r x.aS))/\(∀x:bV,(bV.r x).cJ=(ah.r x.cJ))/\(∀x:bV,(bV.r x).eC=(aN.r x.eC))/\(∀x:bV,(bV.r x).cX=(aN.r x.cX)):=⟨fun _ _=>bV.dL,bV.yI,bV.ow,bV.xL,bV.zp,bV.xV⟩
def bV.Sm (n:Nat)(x:bV):Prop:=ah.Sm n x.aS/\ah.Sm n x.cJ/\aN.Sm n x.eC/\aN.Sm n x.cX
def bV.size (x:bV):Nat:=ah.size x.aS+ah.size x.cJ+aN.size x.eC+aN.size x.cX
structure bk where
 aT:aB
 cy:Bool
 bp:aY
 eE:bT
 fU:dO
structure ay where
 aT:List aa
 cy:Bool
 bp:ah
 eE:aN
 fU:bV
def bk.enc (x:bk):List L:=[.sl x.aT,.bool x.cy,.str x.bp.bw,.int x.bp.bQ,.int x.bp.cw,.sl x.bp.bK,.int x.eE.eB,.sl x.eE.bK,.int x.fU.eB,.str x.fU.aS.bw,.int x.fU.aS.bQ,.int x.fU.aS.cw,.sl x.fU.aS.bK,.str x.fU.cJ.bw,.int x.fU.cJ.bQ,.int x.fU.cJ.cw,.sl x.fU.cJ.bK,.int x.fU.eC.eB,.sl x.fU.eC.bK,.int x.fU.cX.eB,.sl x.fU.cX.bK]
def bk.dec (r:List L):bk:=⟨((aA 0 r).headD .hole).aQ,((aA 1 r).headD .hole).toBool,⟨((aA 2 r).headD .hole).toStr,((aA 3 r).headD .hole).toInt,((aA 4 r).headD .hole).toInt,((aA 5 r).headD .hole).aQ⟩,⟨((aA 6 r).headD .hole).toInt,((aA 7 r).headD .hole).aQ⟩,⟨((aA 8 r).headD .hole).toInt,⟨((aA 9 r).headD .hole).toStr,((aA 10 r).headD .hole).toInt,((aA 11 r).headD .hole).toInt,((aA 12 r).headD .hole).aQ⟩,⟨((aA 13 r).headD .hole).toStr,((aA 14 r).headD .hole).toInt,((aA 15 r).headD .hole).toInt,((aA 16 r).headD .hole).aQ⟩,⟨((aA 17 r).headD .hole).toInt,((aA 18 r).headD .hole).aQ⟩,⟨((aA 19 r).headD .hole).toInt,((aA 20 r).headD .hole).aQ⟩⟩⟩
instance :RT bk:=⟨bk.enc,bk.dec,21,fun _ _=>rfl,fun _ _=>rfl⟩
def bk.at (xs:aB)(i:Nat):bk:=bk.dec (List.getD xs i [])
def ay.r (x:ay):bk:=⟨(x.aT.map aa.row),x.cy,(ah.r x.bp),(aN.r x.eE),(bV.r x.fU)⟩
def ay.row (x:ay):List L:=bk.enc x.r
def ay.zero:ay:=⟨[],false,ah.zero,aN.zero,bV.zero⟩
def ay.dA {a b:ay}(h:a.r=b.r):a=b:=by
 cases a;cases b
 simp only [ay.r,bk.mk.injEq] at h
 obtain ⟨h0,h1,h2,h3,h4⟩:=h
 simp only [ay.mk.injEq]
 exact ⟨(map_inj aa.dn h0),h1,(ah.dA h2),(aN.dA h3),(bV.dA h4)⟩
def ay.dn {a b:ay}(h:ay.row a=ay.row b):a=b:=ay.dA (congrArg bk.dec h)
def ay.dL {xs:List ay}{i:Nat}:bk.at (xs.map ay.row) i=(xs.getD i ay.zero).r:=eX (r:=fun x=>ay.r x) (fun _=>rfl) rfl
def ay.qn (x:ay):(ay.r x).aT=(x.aT.map aa.row):=Eq.trans rfl rfl
def ay.qg (x:ay):(ay.r x).cy=x.cy:=Eq.trans rfl rfl
def ay.kY (x:ay):(ay.r x).bp=(ah.r x.bp):=Eq.trans rfl rfl
def ay.yT (x:ay):(ay.r x).eE=(aN.r x.eE):=Eq.trans rfl rfl
def ay.Ao (x:ay):(ay.r x).fU=(bV.r x.fU):=Eq.trans rfl rfl
instance :Row ay:=⟨ay.row,ay.dn⟩
instance :Im ay bk:=⟨ay.r,ay.dA⟩
def ay.rs:(∀(xs:List ay) (i:Nat),bk.at (xs.map ay.row) i=(xs.getD i ay.zero).r)/\(∀x:ay,(ay.r x).aT=(x.aT.map aa.row))/\(∀x:ay,(ay.r x).cy=x.cy)/\(∀x:ay,(ay.r x).bp=(ah.r x.bp))/\(∀x:ay,(ay.r x).eE=(aN.r x.eE))/\(∀x:ay,(ay.r x).fU=(bV.r x.fU)):=⟨fun _ _=>ay.dL,ay.qn,ay.qg,ay.kY,ay.yT,ay.Ao⟩
def ay.Sm (n:Nat)(x:ay):Prop:=bM n (fun y:aa=>aa.Sm n y) x.aT/\ah.Sm n x.bp/\aN.Sm n x.eE/\bV.Sm n x.fU
def ay.size (x:ay):Nat:=dJ (fun y:aa=>aa.size y) x.aT+ah.size x.bp+aN.size x.eE+bV.size x.fU
def SS:=And.intro (And.intro S0 MM) (And.intro aO.rs (And.intro aF.rs (And.intro bt.rs (And.intro aa.rs (And.intro az.rs (And.intro aj.rs (And.intro ah.rs (And.intro aL.rs (And.intro aM.rs (And.intro au.rs (And.intro bg.rs (And.intro bU.rs (And.intro gj.rs (And.intro aN.rs (And.intro bV.rs (And.intro ay.rs trivial))))))))))))))))
def fz {p:Prop}(h:p:=by first | rfl | (simp only [SS];done) | (simp only [MP];rfl) | (simp only [SS,MP];first | done | rfl) | (simp only [aO.r,aF.r,aa.r,az.r,aj.r,ah.r,aL.r,aM.r,au.r,bU.r,aN.r,bV.r,ay.r,SS,MP];first | done | rfl) | (simp only [SS,MP,List.length_take,List.length_drop];first | done | rfl)):p:=h
def rq {p q:Prop}(h:p)(k:p->q:=by intro R_;first | exact R_ | (simp only [MP,SS] at R_ ⊢;first | exact R_ | (rw [<-R_];rfl))):q:=k h
end Go.DM

end
