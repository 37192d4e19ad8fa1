/- The structures of the program, as mathematical records. Conditions: none. -/
import Derived.Test.YtknikjmcpjaggaaGreatResolveDd
set_option linter.all false
noncomputable section
namespace Go.DM
structure bu where
 aT:List (List L)
 cu:Int
structure aJ where
 aT:List Int
 cu:Int
def bu.enc (x:bu):List L:=[.sl x.aT,.int x.cu]
def bu.dec (r:List L):bu:=⟨((aA 0 r).headD .hole).aR,((aA 1 r).headD .hole).toInt⟩
instance :RT bu:=⟨bu.enc,bu.dec,2,fun _ _=>rfl,fun _ _=>rfl⟩
def bu.at (xs:List (List L))(i:Nat):bu:=bu.dec (List.getD xs i [])
def aJ.r (x:aJ):bu:=⟨(x.aT.map aZ),x.cu⟩
def aJ.row (x:aJ):List L:=bu.enc x.r
def aJ.zero:aJ:=⟨[],0⟩
theorem aJ.cI {a b:aJ}(h:a.r=b.r):a=b:=by
 cases a;cases b
 simp only [aJ.r,bu.mk.injEq] at h
 obtain ⟨h0,h1⟩:=h
 simp only [aJ.mk.injEq]
 exact ⟨(map_inj lB h0),h1⟩
theorem aJ.cC {a b:aJ}(h:aJ.row a=aJ.row b):a=b:=aJ.cI (congrArg bu.dec h)
theorem aJ.cP {xs:List aJ}{i:Nat}:bu.at (xs.map aJ.row) i=(xs.getD i aJ.zero).r:=dW (r:=fun x=>aJ.r x) (fun _=>rfl) rfl
theorem aJ.sJ (x:aJ):(aJ.r x).aT=(x.aT.map aZ):=Eq.trans rfl rfl
theorem aJ.zL (x:aJ):(aJ.r x).cu=x.cu:=Eq.trans rfl rfl
instance :Row aJ:=⟨aJ.row,aJ.cC⟩
instance :Im aJ bu:=⟨aJ.r,aJ.cI⟩
theorem aJ.rs:(∀(xs:List aJ) (i:Nat),bu.at (xs.map aJ.row) i=(xs.getD i aJ.zero).r)∧(∀x:aJ,(aJ.r x).aT=(x.aT.map aZ))∧(∀x:aJ,(aJ.r x).cu=x.cu):=⟨fun _ _=>aJ.cP,aJ.sJ,aJ.zL⟩
def aJ.Sm (n:Nat)(x:aJ):Prop:=bK n (fun y:Int=>True) x.aT
def aJ.size (x:aJ):Nat:=dP (fun y:Int=>0) x.aT
theorem aJ.dc {n m:Nat}(hn:n≤m){x:aJ}(h:aJ.Sm n x):aJ.Sm m x:=h.mono hn (fun x hx=>trivial)
theorem aJ.gw {n:Nat}{x:aJ}(h:x.size≤n):aJ.Sm n x:=by
 unfold aJ.size at h
 have g0:dP (fun y:Int=>0) x.aT≤n:=by omega
 exact jy g0 (fun x hx=>trivial)
structure bU where
 bA:Int
 cD:Int
 bD:Int
 cA:Int
 cq:Int
 cg:Int
 cR:Int
 dz:Int
 bJ:bu
 bw:bu
 cV:Int
 bp:bu
 bB:Bool
structure aC where
 bA:Int
 cD:Int
 bD:Int
 cA:Int
 cq:Int
 cg:Int
 cR:Int
 dz:Int
 bJ:aJ
 bw:aJ
 cV:Int
 bp:aJ
 bB:Bool
def bU.enc (x:bU):List L:=[.int x.bA,.int x.cD,.int x.bD,.int x.cA,.int x.cq,.int x.cg,.int x.cR,.int x.dz,.sl x.bJ.aT,.int x.bJ.cu,.sl x.bw.aT,.int x.bw.cu,.int x.cV,.sl x.bp.aT,.int x.bp.cu,.bool x.bB]
def bU.dec (r:List L):bU:=⟨((aA 0 r).headD .hole).toInt,((aA 1 r).headD .hole).toInt,((aA 2 r).headD .hole).toInt,((aA 3 r).headD .hole).toInt,((aA 4 r).headD .hole).toInt,((aA 5 r).headD .hole).toInt,((aA 6 r).headD .hole).toInt,((aA 7 r).headD .hole).toInt,⟨((aA 8 r).headD .hole).aR,((aA 9 r).headD .hole).toInt⟩,⟨((aA 10 r).headD .hole).aR,((aA 11 r).headD .hole).toInt⟩,((aA 12 r).headD .hole).toInt,⟨((aA 13 r).headD .hole).aR,((aA 14 r).headD .hole).toInt⟩,((aA 15 r).headD .hole).toBool⟩
instance :RT bU:=⟨bU.enc,bU.dec,16,fun _ _=>rfl,fun _ _=>rfl⟩
def bU.at (xs:List (List L))(i:Nat):bU:=bU.dec (List.getD xs i [])
def aC.r (x:aC):bU:=⟨x.bA,x.cD,x.bD,x.cA,x.cq,x.cg,x.cR,x.dz,(aJ.r x.bJ),(aJ.r x.bw),x.cV,(aJ.r x.bp),x.bB⟩
def aC.row (x:aC):List L:=bU.enc x.r
def aC.zero:aC:=⟨0,0,0,0,0,0,0,0,aJ.zero,aJ.zero,0,aJ.zero,false⟩
theorem aC.cI {a b:aC}(h:a.r=b.r):a=b:=by
 cases a;cases b
 simp only [aC.r,bU.mk.injEq] at h
 obtain ⟨h0,h1,h2,h3,h4,h5,h6,h7,h8,h9,h10,h11,h12⟩:=h
 simp only [aC.mk.injEq]
 exact ⟨h0,h1,h2,h3,h4,h5,h6,h7,(aJ.cI h8),(aJ.cI h9),h10,(aJ.cI h11),h12⟩
theorem aC.cC {a b:aC}(h:aC.row a=aC.row b):a=b:=aC.cI (congrArg bU.dec h)
theorem aC.cP {xs:List aC}{i:Nat}:bU.at (xs.map aC.row) i=(xs.getD i aC.zero).r:=dW (r:=fun x=>aC.r x) (fun _=>rfl) rfl
theorem aC.tv (x:aC):(aC.r x).bA=x.bA:=Eq.trans rfl rfl
theorem aC.yB (x:aC):(aC.r x).cD=x.cD:=Eq.trans rfl rfl
theorem aC.nR (x:aC):(aC.r x).bD=x.bD:=Eq.trans rfl rfl
theorem aC.zh (x:aC):(aC.r x).cA=x.cA:=Eq.trans rfl rfl
theorem aC.yV (x:aC):(aC.r x).cq=x.cq:=Eq.trans rfl rfl
theorem aC.xC (x:aC):(aC.r x).cg=x.cg:=Eq.trans rfl rfl
theorem aC.yZ (x:aC):(aC.r x).cR=x.cR:=Eq.trans rfl rfl
theorem aC.zG (x:aC):(aC.r x).dz=x.dz:=Eq.trans rfl rfl
theorem aC.sH (x:aC):(aC.r x).bJ=(aJ.r x.bJ):=Eq.trans rfl rfl
theorem aC.ym (x:aC):(aC.r x).bw=(aJ.r x.bw):=Eq.trans rfl rfl
theorem aC.zo (x:aC):(aC.r x).cV=x.cV:=Eq.trans rfl rfl
theorem aC.xQ (x:aC):(aC.r x).bp=(aJ.r x.bp):=Eq.trans rfl rfl
theorem aC.xd (x:aC):(aC.r x).bB=x.bB:=Eq.trans rfl rfl
instance :Row aC:=⟨aC.row,aC.cC⟩
instance :Im aC bU:=⟨aC.r,aC.cI⟩
theorem aC.rs:(∀(xs:List aC) (i:Nat),bU.at (xs.map aC.row) i=(xs.getD i aC.zero).r)∧(∀x:aC,(aC.r x).bA=x.bA)∧(∀x:aC,(aC.r x).cD=x.cD)∧(∀x:aC,(aC.r x).bD=x.bD)∧(∀x:aC,(aC.r x).cA=x.cA)∧(∀x:aC,(aC.r x).cq=x.cq)∧(∀x:aC,(aC.r x).cg=x.cg)∧(∀x:aC,(aC.r x).cR=x.cR)∧(∀x:aC,(aC.r x).dz=x.dz)∧(∀x:aC,(aC.r x).bJ=(aJ.r x.bJ))∧(∀x:aC,(aC.r x).bw=(aJ.r x.bw))∧(∀x:aC,(aC.r x).cV=x.cV)∧(∀x:aC,(aC.r x).bp=(aJ.r x.bp))∧(∀x:aC,(aC.r x).bB=x.bB):=⟨fun _ _=>aC.cP,aC.tv,aC.yB,aC.nR,aC.zh,aC.yV,aC.xC,aC.yZ,aC.zG,aC.sH,aC.ym,aC.zo,aC.xQ,aC.xd⟩
def aC.Sm (n:Nat)(x:aC):Prop:=aJ.Sm n x.bJ∧aJ.Sm n x.bw∧aJ.Sm n x.bp
def aC.size (x:aC):Nat:=aJ.size x.bJ+aJ.size x.bw+aJ.size x.bp
theorem aC.dc {n m:Nat}(hn:n≤m){x:aC}(h:aC.Sm n x):aC.Sm m x:=⟨aJ.dc hn h.1,aJ.dc hn h.2.1,aJ.dc hn h.2.2⟩
theorem aC.gw {n:Nat}{x:aC}(h:x.size≤n):aC.Sm n x:=by
 unfold aC.size at h
 have g0:aJ.size x.bJ≤n:=by omega
 have g1:aJ.size x.bw≤n:=by omega
 have g2:aJ.size x.bp≤n:=by omega
 exact ⟨aJ.gw g0,aJ.gw g1,aJ.gw g2⟩
structure aY where
 gK:Int
 jx:Int
def aY.enc (x:aY):List L:=[.int x.gK,.int x.jx]
def aY.dec (r:List L):aY:=⟨((aA 0 r).headD .hole).toInt,((aA 1 r).headD .hole).toInt⟩
instance :RT aY:=⟨aY.enc,aY.dec,2,fun _ _=>rfl,fun _ _=>rfl⟩
def aY.at (xs:List (List L))(i:Nat):aY:=aY.dec (List.getD xs i [])
def aY.row (x:aY):List L:=aY.enc x
def aY.zero:aY:=⟨0,0⟩
theorem aY.cC {a b:aY}(h:aY.row a=aY.row b):a=b:=congrArg aY.dec h
theorem aY.eF {xs:List aY}{i:Nat}(h:i<xs.length):aY.at (xs.map aY.row) i=xs[i]:=by unfold aY.at;rw [getD_map h];rfl
theorem aY.cP {xs:List aY}{i:Nat}:aY.at (xs.map aY.row) i=xs.getD i aY.zero:=dW (r:=fun x=>x) (fun _=>rfl) rfl
theorem aY.eqc (a b:aY):(dY a.gK b.gK&&(dY a.jx b.jx&&true))=dY a b:=by
 cases a;cases b
 rw [Bool.eq_iff_iff]
 simp only [dh,Bool.and_eq_true,aY.mk.injEq,and_true]
instance :Row aY:=⟨aY.row,aY.cC⟩
instance :Im aY aY:=⟨fun x=>x,fun h=>h⟩
theorem aY.rs:(∀(xs:List aY) (i:Nat),aY.at (xs.map aY.row) i=xs.getD i aY.zero):=fun _ _=>aY.cP
def aY.Sm (n:Nat)(x:aY):Prop:=True
def aY.size (x:aY):Nat:=0
theorem aY.dc {n m:Nat}(_:n≤m){x:aY}(_:aY.Sm n x):aY.Sm m x:=trivial
theorem aY.gw {n:Nat}{x:aY}(_:x.size≤n):aY.Sm n x:=trivial
structure aO where
 aq:bU
 bW:List (List L)
structure aa where
 aq:aC
 bW:List aY
def aO.enc (x:aO):List L:=[.int x.aq.bA,.int x.aq.cD,.int x.aq.bD,.int x.aq.cA,.int x.aq.cq,.int x.aq.cg,.int x.aq.cR,.int x.aq.dz,.sl x.aq.bJ.aT,.int x.aq.bJ.cu,.sl x.aq.bw.aT,.int x.aq.bw.cu,.int x.aq.cV,.sl x.aq.bp.aT,.int x.aq.bp.cu,.bool x.aq.bB,.sl x.bW]
def aO.dec (r:List L):aO:=⟨⟨((aA 0 r).headD .hole).toInt,((aA 1 r).headD .hole).toInt,((aA 2 r).headD .hole).toInt,((aA 3 r).headD .hole).toInt,((aA 4 r).headD .hole).toInt,((aA 5 r).headD .hole).toInt,((aA 6 r).headD .hole).toInt,((aA 7 r).headD .hole).toInt,⟨((aA 8 r).headD .hole).aR,((aA 9 r).headD .hole).toInt⟩,⟨((aA 10 r).headD .hole).aR,((aA 11 r).headD .hole).toInt⟩,((aA 12 r).headD .hole).toInt,⟨((aA 13 r).headD .hole).aR,((aA 14 r).headD .hole).toInt⟩,((aA 15 r).headD .hole).toBool⟩,((aA 16 r).headD .hole).aR⟩
instance :RT aO:=⟨aO.enc,aO.dec,17,fun _ _=>rfl,fun _ _=>rfl⟩
def aO.at (xs:List (List L))(i:Nat):aO:=aO.dec (List.getD xs i [])
def aa.r (x:aa):aO:=⟨(aC.r x.aq),(x.bW.map aY.row)⟩
def aa.row (x:aa):List L:=aO.enc x.r
def aa.zero:aa:=⟨aC.zero,[]⟩
theorem aa.cI {a b:aa}(h:a.r=b.r):a=b:=by
 cases a;cases b
 simp only [aa.r,aO.mk.injEq] at h
 obtain ⟨h0,h1⟩:=h
 simp only [aa.mk.injEq]
 exact ⟨(aC.cI h0),(map_inj aY.cC h1)⟩
theorem aa.cC {a b:aa}(h:aa.row a=aa.row b):a=b:=aa.cI (congrArg aO.dec h)
theorem aa.eF {xs:List aa}{i:Nat}(h:i<xs.length):aO.at (xs.map aa.row) i=(xs[i]).r:=by unfold aO.at;rw [getD_map h];rfl
theorem aa.cP {xs:List aa}{i:Nat}:aO.at (xs.map aa.row) i=(xs.getD i aa.zero).r:=dW (r:=fun x=>aa.r x) (fun _=>rfl) rfl
theorem aa.zx (x:aa):(aa.r x).aq=(aC.r x.aq):=Eq.trans rfl rfl
theorem aa.zA (x:aa):(aa.r x).bW=(x.bW.map aY.row):=Eq.trans rfl rfl
instance :Row aa:=⟨aa.row,aa.cC⟩
instance :Im aa aO:=⟨aa.r,aa.cI⟩
theorem aa.rs:(∀(xs:List aa) (i:Nat),aO.at (xs.map aa.row) i=(xs.getD i aa.zero).r)∧(∀x:aa,(aa.r x).aq=(aC.r x.aq))∧(∀x:aa,(aa.r x).bW=(x.bW.map aY.row)):=⟨fun _ _=>aa.cP,aa.zx,aa.zA⟩
def aa.Sm (n:Nat)(x:aa):Prop:=aC.Sm n x.aq∧bK n (fun y:aY=>aY.Sm n y) x.bW
def aa.size (x:aa):Nat:=aC.size x.aq+dP (fun y:aY=>aY.size y) x.bW
theorem aa.dc {n m:Nat}(hn:n≤m){x:aa}(h:aa.Sm n x):aa.Sm m x:=⟨aC.dc hn h.1,h.2.mono hn (fun x hx=>aY.dc hn hx)⟩
theorem aa.gw {n:Nat}{x:aa}(h:x.size≤n):aa.Sm n x:=by
 unfold aa.size at h
 have g0:aC.size x.aq≤n:=by omega
 have g1:dP (fun y:aY=>aY.size y) x.bW≤n:=by omega
 exact ⟨aC.gw g0,jy g1 (fun x hx=>aY.gw hx)⟩
structure bF where
 aP:aO
 fA:aO
 fB:aO
structure aB where
 aP:aa
 fA:aa
 fB:aa
def bF.enc (x:bF):List L:=[.int x.aP.aq.bA,.int x.aP.aq.cD,.int x.aP.aq.bD,.int x.aP.aq.cA,.int x.aP.aq.cq,.int x.aP.aq.cg,.int x.aP.aq.cR,.int x.aP.aq.dz,.sl x.aP.aq.bJ.aT,.int x.aP.aq.bJ.cu,.sl x.aP.aq.bw.aT,.int x.aP.aq.bw.cu,.int x.aP.aq.cV,.sl x.aP.aq.bp.aT,.int x.aP.aq.bp.cu,.bool x.aP.aq.bB,.sl x.aP.bW,.int x.fA.aq.bA,.int x.fA.aq.cD,.int x.fA.aq.bD,.int x.fA.aq.cA,.int x.fA.aq.cq,.int x.fA.aq.cg,.int x.fA.aq.cR,.int x.fA.aq.dz,.sl x.fA.aq.bJ.aT,.int x.fA.aq.bJ.cu,.sl x.fA.aq.bw.aT,.int x.fA.aq.bw.cu,.int x.fA.aq.cV,.sl x.fA.aq.bp.aT,.int x.fA.aq.bp.cu,.bool x.fA.aq.bB,.sl x.fA.bW,.int x.fB.aq.bA,.int x.fB.aq.cD,.int x.fB.aq.bD,.int x.fB.aq.cA,.int x.fB.aq.cq,.int x.fB.aq.cg,.int x.fB.aq.cR,.int x.fB.aq.dz,.sl x.fB.aq.bJ.aT,.int x.fB.aq.bJ.cu,.sl x.fB.aq.bw.aT,.int x.fB.aq.bw.cu,.int x.fB.aq.cV,.sl x.fB.aq.bp.aT,.int x.fB.aq.bp.cu,.bool x.fB.aq.bB,.sl x.fB.bW]
def bF.dec (r:List L):bF:=⟨⟨⟨((aA 0 r).headD .hole).toInt,((aA 1 r).headD .hole).toInt,((aA 2 r).headD .hole).toInt,((aA 3 r).headD .hole).toInt,((aA 4 r).headD .hole).toInt,((aA 5 r).headD .hole).toInt,((aA 6 r).headD .hole).toInt,((aA 7 r).headD .hole).toInt,⟨((aA 8 r).headD .hole).aR,((aA 9 r).headD .hole).toInt⟩,⟨((aA 10 r).headD .hole).aR,((aA 11 r).headD .hole).toInt⟩,((aA 12 r).headD .hole).toInt,⟨((aA 13 r).headD .hole).aR,((aA 14 r).headD .hole).toInt⟩,((aA 15 r).headD .hole).toBool⟩,((aA 16 r).headD .hole).aR⟩,⟨⟨((aA 17 r).headD .hole).toInt,((aA 18 r).headD .hole).toInt,((aA 19 r).headD .hole).toInt,((aA 20 r).headD .hole).toInt,((aA 21 r).headD .hole).toInt,((aA 22 r).headD .hole).toInt,((aA 23 r).headD .hole).toInt,((aA 24 r).headD .hole).toInt,⟨((aA 25 r).headD .hole).aR,((aA 26 r).headD .hole).toInt⟩,⟨((aA 27 r).headD .hole).aR,((aA 28 r).headD .hole).toInt⟩,((aA 29 r).headD .hole).toInt,⟨((aA 30 r).headD .hole).aR,((aA 31 r).headD .hole).toInt⟩,((aA 32 r).headD .hole).toBool⟩,((aA 33 r).headD .hole).aR⟩,⟨⟨((aA 34 r).headD .hole).toInt,((aA 35 r).headD .hole).toInt,((aA 36 r).headD .hole).toInt,((aA 37 r).headD .hole).toInt,((aA 38 r).headD .hole).toInt,((aA 39 r).headD .hole).toInt,((aA 40 r).headD .hole).toInt,((aA 41 r).headD .hole).toInt,⟨((aA 42 r).headD .hole).aR,((aA 43 r).headD .hole).toInt⟩,⟨((aA 44 r).headD .hole).aR,((aA 45 r).headD .hole).toInt⟩,((aA 46 r).headD .hole).toInt,⟨((aA 47 r).headD .hole).aR,((aA 48 r).headD .hole).toInt⟩,((aA 49 r).headD .hole).toBool⟩,((aA 50 r).headD .hole).aR⟩⟩
instance :RT bF:=⟨bF.enc,bF.dec,51,fun _ _=>rfl,fun _ _=>rfl⟩
def bF.at (xs:List (List L))(i:Nat):bF:=bF.dec (List.getD xs i [])
def aB.r (x:aB):bF:=⟨(aa.r x.aP),(aa.r x.fA),(aa.r x.fB)⟩
def aB.row (x:aB):List L:=bF.enc x.r
def aB.zero:aB:=⟨aa.zero,aa.zero,aa.zero⟩
theorem aB.cI {a b:aB}(h:a.r=b.r):a=b:=by
 cases a;cases b
 simp only [aB.r,bF.mk.injEq] at h
 obtain ⟨h0,h1,h2⟩:=h
 simp only [aB.mk.injEq]
 exact ⟨(aa.cI h0),(aa.cI h1),(aa.cI h2)⟩
theorem aB.cC {a b:aB}(h:aB.row a=aB.row b):a=b:=aB.cI (congrArg bF.dec h)
theorem aB.eF {xs:List aB}{i:Nat}(h:i<xs.length):bF.at (xs.map aB.row) i=(xs[i]).r:=by unfold bF.at;rw [getD_map h];rfl
theorem aB.cP {xs:List aB}{i:Nat}:bF.at (xs.map aB.row) i=(xs.getD i aB.zero).r:=dW (r:=fun x=>aB.r x) (fun _=>rfl) rfl
theorem aB.oC (x:aB):(aB.r x).aP=(aa.r x.aP):=Eq.trans rfl rfl
theorem aB.Bp (x:aB):(aB.r x).fA=(aa.r x.fA):=Eq.trans rfl rfl
theorem aB.BP (x:aB):(aB.r x).fB=(aa.r x.fB):=Eq.trans rfl rfl
instance :Row aB:=⟨aB.row,aB.cC⟩
instance :Im aB bF:=⟨aB.r,aB.cI⟩
theorem aB.rs:(∀(xs:List aB) (i:Nat),bF.at (xs.map aB.row) i=(xs.getD i aB.zero).r)∧(∀x:aB,(aB.r x).aP=(aa.r x.aP))∧(∀x:aB,(aB.r x).fA=(aa.r x.fA))∧(∀x:aB,(aB.r x).fB=(aa.r x.fB)):=⟨fun _ _=>aB.cP,aB.oC,aB.Bp,aB.BP⟩
def aB.Sm (n:Nat)(x:aB):Prop:=aa.Sm n x.aP∧aa.Sm n x.fA∧aa.Sm n x.fB
def aB.size (x:aB):Nat:=aa.size x.aP+aa.size x.fA+aa.size x.fB
theorem aB.dc {n m:Nat}(hn:n≤m){x:aB}(h:aB.Sm n x):aB.Sm m x:=⟨aa.dc hn h.1,aa.dc hn h.2.1,aa.dc hn h.2.2⟩
theorem aB.gw {n:Nat}{x:aB}(h:x.size≤n):aB.Sm n x:=by
 unfold aB.size at h
 have g0:aa.size x.aP≤n:=by omega
 have g1:aa.size x.fA≤n:=by omega
 have g2:aa.size x.fB≤n:=by omega
 exact ⟨aa.gw g0,aa.gw g1,aa.gw g2⟩
structure bn where
 aF:List (List L)
 bg:List (List L)
structure au where
 aF:List (List aa)
 bg:List aB
def bn.enc (x:bn):List L:=[.sl x.aF,.sl x.bg]
def bn.dec (r:List L):bn:=⟨((aA 0 r).headD .hole).aR,((aA 1 r).headD .hole).aR⟩
instance :RT bn:=⟨bn.enc,bn.dec,2,fun _ _=>rfl,fun _ _=>rfl⟩
def bn.at (xs:List (List L))(i:Nat):bn:=bn.dec (List.getD xs i [])
def au.r (x:au):bn:=⟨(x.aF.map (dI aa.row)),(x.bg.map aB.row)⟩
def au.row (x:au):List L:=bn.enc x.r
def au.zero:au:=⟨[],[]⟩
theorem au.cI {a b:au}(h:a.r=b.r):a=b:=by
 cases a;cases b
 simp only [au.r,bn.mk.injEq] at h
 obtain ⟨h0,h1⟩:=h
 simp only [au.mk.injEq]
 exact ⟨(map_inj (ud aa.cC) h0),(map_inj aB.cC h1)⟩
theorem au.cC {a b:au}(h:au.row a=au.row b):a=b:=au.cI (congrArg bn.dec h)
theorem au.cP {xs:List au}{i:Nat}:bn.at (xs.map au.row) i=(xs.getD i au.zero).r:=dW (r:=fun x=>au.r x) (fun _=>rfl) rfl
theorem au.wE (x:au):(au.r x).aF=(x.aF.map (dI aa.row)):=Eq.trans rfl rfl
theorem au.xq (x:au):(au.r x).bg=(x.bg.map aB.row):=Eq.trans rfl rfl
instance :Row au:=⟨au.row,au.cC⟩
instance :Im au bn:=⟨au.r,au.cI⟩
theorem au.rs:(∀(xs:List au) (i:Nat),bn.at (xs.map au.row) i=(xs.getD i au.zero).r)∧(∀x:au,(au.r x).aF=(x.aF.map (dI aa.row)))∧(∀x:au,(au.r x).bg=(x.bg.map aB.row)):=⟨fun _ _=>au.cP,au.wE,au.xq⟩
def au.Sm (n:Nat)(x:au):Prop:=bK n (fun y:List aa=>bK n (fun y:aa=>aa.Sm n y) y) x.aF∧bK n (fun y:aB=>aB.Sm n y) x.bg
def au.size (x:au):Nat:=dP (fun y:List aa=>dP (fun y:aa=>aa.size y) y) x.aF+dP (fun y:aB=>aB.size y) x.bg
theorem au.dc {n m:Nat}(hn:n≤m){x:au}(h:au.Sm n x):au.Sm m x:=⟨h.1.mono hn (fun x hx=>hx.mono hn (fun x hx=>aa.dc hn hx)),h.2.mono hn (fun x hx=>aB.dc hn hx)⟩
theorem au.gw {n:Nat}{x:au}(h:x.size≤n):au.Sm n x:=by
 unfold au.size at h
 have g0:dP (fun y:List aa=>dP (fun y:aa=>aa.size y) y) x.aF≤n:=by omega
 have g1:dP (fun y:aB=>aB.size y) x.bg≤n:=by omega
 exact ⟨jy g0 (fun x hx=>jy hx (fun x hx=>aa.gw hx)),jy g1 (fun x hx=>aB.gw hx)⟩
structure aS where
 aW:ByteArray
 bD:Int
 bS:Int
 bC:List (List L)
structure ah where
 aW:ByteArray
 bD:Int
 bS:Int
 bC:List ByteArray
def aS.enc (x:aS):List L:=[.str x.aW,.int x.bD,.int x.bS,.sl x.bC]
def aS.dec (r:List L):aS:=⟨((aA 0 r).headD .hole).toStr,((aA 1 r).headD .hole).toInt,((aA 2 r).headD .hole).toInt,((aA 3 r).headD .hole).aR⟩
instance :RT aS:=⟨aS.enc,aS.dec,4,fun _ _=>rfl,fun _ _=>rfl⟩
def aS.at (xs:List (List L))(i:Nat):aS:=aS.dec (List.getD xs i [])
def ah.r (x:ah):aS:=⟨x.aW,x.bD,x.bS,(x.bC.map cz)⟩
def ah.row (x:ah):List L:=aS.enc x.r
def ah.zero:ah:=⟨⟨#[]⟩,0,0,[]⟩
theorem ah.cI {a b:ah}(h:a.r=b.r):a=b:=by
 cases a;cases b
 simp only [ah.r,aS.mk.injEq] at h
 obtain ⟨h0,h1,h2,h3⟩:=h
 simp only [ah.mk.injEq]
 exact ⟨h0,h1,h2,(map_inj qh h3)⟩
theorem ah.cC {a b:ah}(h:ah.row a=ah.row b):a=b:=ah.cI (congrArg aS.dec h)
theorem ah.eF {xs:List ah}{i:Nat}(h:i<xs.length):aS.at (xs.map ah.row) i=(xs[i]).r:=by unfold aS.at;rw [getD_map h];rfl
theorem ah.cP {xs:List ah}{i:Nat}:aS.at (xs.map ah.row) i=(xs.getD i ah.zero).r:=dW (r:=fun x=>ah.r x) (fun _=>rfl) rfl
theorem ah.qA (x:ah):(ah.r x).aW=x.aW:=Eq.trans rfl rfl
theorem ah.nR (x:ah):(ah.r x).bD=x.bD:=Eq.trans rfl rfl
theorem ah.yx (x:ah):(ah.r x).bS=x.bS:=Eq.trans rfl rfl
theorem ah.nH (x:ah):(ah.r x).bC=(x.bC.map cz):=Eq.trans rfl rfl
instance :Row ah:=⟨ah.row,ah.cC⟩
instance :Im ah aS:=⟨ah.r,ah.cI⟩
theorem ah.rs:(∀(xs:List ah) (i:Nat),aS.at (xs.map ah.row) i=(xs.getD i ah.zero).r)∧(∀x:ah,(ah.r x).aW=x.aW)∧(∀x:ah,(ah.r x).bD=x.bD)∧(∀x:ah,(ah.r x).bS=x.bS)∧(∀x:ah,(ah.r x).bC=(x.bC.map cz)):=⟨fun _ _=>ah.cP,ah.qA,ah.nR,ah.yx,ah.nH⟩
def ah.Sm (n:Nat)(x:ah):Prop:=(x.aW).size≤n∧bK n (fun y:ByteArray=>(y).size≤n) x.bC
def ah.size (x:ah):Nat:=(x.aW).size+dP (fun y:ByteArray=>(y).size) x.bC
theorem ah.dc {n m:Nat}(hn:n≤m){x:ah}(h:ah.Sm n x):ah.Sm m x:=⟨Nat.le_trans h.1 hn,h.2.mono hn (fun x hx=>Nat.le_trans hx hn)⟩
theorem ah.gw {n:Nat}{x:ah}(h:x.size≤n):ah.Sm n x:=by
 unfold ah.size at h
 have g0:(x.aW).size≤n:=by omega
 have g1:dP (fun y:ByteArray=>(y).size) x.bC≤n:=by omega
 exact ⟨g0,jy g1 (fun x hx=>hx)⟩
structure bN where
 eA:Int
 bC:List (List L)
structure aK where
 eA:Int
 bC:List Int
def bN.enc (x:bN):List L:=[.int x.eA,.sl x.bC]
def bN.dec (r:List L):bN:=⟨((aA 0 r).headD .hole).toInt,((aA 1 r).headD .hole).aR⟩
instance :RT bN:=⟨bN.enc,bN.dec,2,fun _ _=>rfl,fun _ _=>rfl⟩
def bN.at (xs:List (List L))(i:Nat):bN:=bN.dec (List.getD xs i [])
def aK.r (x:aK):bN:=⟨x.eA,(x.bC.map aZ)⟩
def aK.row (x:aK):List L:=bN.enc x.r
def aK.zero:aK:=⟨0,[]⟩
theorem aK.cI {a b:aK}(h:a.r=b.r):a=b:=by
 cases a;cases b
 simp only [aK.r,bN.mk.injEq] at h
 obtain ⟨h0,h1⟩:=h
 simp only [aK.mk.injEq]
 exact ⟨h0,(map_inj lB h1)⟩
theorem aK.cC {a b:aK}(h:aK.row a=aK.row b):a=b:=aK.cI (congrArg bN.dec h)
theorem aK.cP {xs:List aK}{i:Nat}:bN.at (xs.map aK.row) i=(xs.getD i aK.zero).r:=dW (r:=fun x=>aK.r x) (fun _=>rfl) rfl
theorem aK.xE (x:aK):(aK.r x).eA=x.eA:=Eq.trans rfl rfl
theorem aK.nH (x:aK):(aK.r x).bC=(x.bC.map aZ):=Eq.trans rfl rfl
instance :Row aK:=⟨aK.row,aK.cC⟩
instance :Im aK bN:=⟨aK.r,aK.cI⟩
theorem aK.rs:(∀(xs:List aK) (i:Nat),bN.at (xs.map aK.row) i=(xs.getD i aK.zero).r)∧(∀x:aK,(aK.r x).eA=x.eA)∧(∀x:aK,(aK.r x).bC=(x.bC.map aZ)):=⟨fun _ _=>aK.cP,aK.xE,aK.nH⟩
def aK.Sm (n:Nat)(x:aK):Prop:=bK n (fun y:Int=>True) x.bC
def aK.size (x:aK):Nat:=dP (fun y:Int=>0) x.bC
structure dK where
 eA:Int
 aP:aS
 cy:aS
 eu:bN
 cQ:bN
structure bO where
 eA:Int
 aP:ah
 cy:ah
 eu:aK
 cQ:aK
def dK.enc (x:dK):List L:=[.int x.eA,.str x.aP.aW,.int x.aP.bD,.int x.aP.bS,.sl x.aP.bC,.str x.cy.aW,.int x.cy.bD,.int x.cy.bS,.sl x.cy.bC,.int x.eu.eA,.sl x.eu.bC,.int x.cQ.eA,.sl x.cQ.bC]
def dK.dec (r:List L):dK:=⟨((aA 0 r).headD .hole).toInt,⟨((aA 1 r).headD .hole).toStr,((aA 2 r).headD .hole).toInt,((aA 3 r).headD .hole).toInt,((aA 4 r).headD .hole).aR⟩,⟨((aA 5 r).headD .hole).toStr,((aA 6 r).headD .hole).toInt,((aA 7 r).headD .hole).toInt,((aA 8 r).headD .hole).aR⟩,⟨((aA 9 r).headD .hole).toInt,((aA 10 r).headD .hole).aR⟩,⟨((aA 11 r).headD .hole).toInt,((aA 12 r).headD .hole).aR⟩⟩
instance :RT dK:=⟨dK.enc,dK.dec,13,fun _ _=>rfl,fun _ _=>rfl⟩
def dK.at (xs:List (List L))(i:Nat):dK:=dK.dec (List.getD xs i [])
def bO.r (x:bO):dK:=⟨x.eA,(ah.r x.aP),(ah.r x.cy),(aK.r x.eu),(aK.r x.cQ)⟩
def bO.row (x:bO):List L:=dK.enc x.r
def bO.zero:bO:=⟨0,ah.zero,ah.zero,aK.zero,aK.zero⟩
theorem bO.cI {a b:bO}(h:a.r=b.r):a=b:=by
 cases a;cases b
 simp only [bO.r,dK.mk.injEq] at h
 obtain ⟨h0,h1,h2,h3,h4⟩:=h
 simp only [bO.mk.injEq]
 exact ⟨h0,(ah.cI h1),(ah.cI h2),(aK.cI h3),(aK.cI h4)⟩
theorem bO.cC {a b:bO}(h:bO.row a=bO.row b):a=b:=bO.cI (congrArg dK.dec h)
theorem bO.cP {xs:List bO}{i:Nat}:dK.at (xs.map bO.row) i=(xs.getD i bO.zero).r:=dW (r:=fun x=>bO.r x) (fun _=>rfl) rfl
theorem bO.xE (x:bO):(bO.r x).eA=x.eA:=Eq.trans rfl rfl
theorem bO.oC (x:bO):(bO.r x).aP=(ah.r x.aP):=Eq.trans rfl rfl
theorem bO.yl (x:bO):(bO.r x).cy=(ah.r x.cy):=Eq.trans rfl rfl
theorem bO.zO (x:bO):(bO.r x).eu=(aK.r x.eu):=Eq.trans rfl rfl
theorem bO.yT (x:bO):(bO.r x).cQ=(aK.r x.cQ):=Eq.trans rfl rfl
instance :Row bO:=⟨bO.row,bO.cC⟩
instance :Im bO dK:=⟨bO.r,bO.cI⟩
theorem bO.rs:(∀(xs:List bO) (i:Nat),dK.at (xs.map bO.row) i=(xs.getD i bO.zero).r)∧(∀x:bO,(bO.r x).eA=x.eA)∧(∀x:bO,(bO.r x).aP=(ah.r x.aP))∧(∀x:bO,(bO.r x).cy=(ah.r x.cy))∧(∀x:bO,(bO.r x).eu=(aK.r x.eu))∧(∀x:bO,(bO.r x).cQ=(aK.r x.cQ)):=⟨fun _ _=>bO.cP,bO.xE,bO.oC,bO.yl,bO.zO,bO.yT⟩
def bO.Sm (n:Nat)(x:bO):Prop:=ah.Sm n x.aP∧ah.Sm n x.cy∧aK.Sm n x.eu∧aK.Sm n x.cQ
def bO.size (x:bO):Nat:=ah.size x.aP+ah.size x.cy+aK.size x.eu+aK.size x.cQ
structure aX where
 aQ:List (List L)
 cj:Bool
 aN:aS
 eg:bN
 eO:dK
structure ay where
 aQ:List aa
 cj:Bool
 aN:ah
 eg:aK
 eO:bO
def aX.enc (x:aX):List L:=[.sl x.aQ,.bool x.cj,.str x.aN.aW,.int x.aN.bD,.int x.aN.bS,.sl x.aN.bC,.int x.eg.eA,.sl x.eg.bC,.int x.eO.eA,.str x.eO.aP.aW,.int x.eO.aP.bD,.int x.eO.aP.bS,.sl x.eO.aP.bC,.str x.eO.cy.aW,.int x.eO.cy.bD,.int x.eO.cy.bS,.sl x.eO.cy.bC,.int x.eO.eu.eA,.sl x.eO.eu.bC,.int x.eO.cQ.eA,.sl x.eO.cQ.bC]
def aX.dec (r:List L):aX:=⟨((aA 0 r).headD .hole).aR,((aA 1 r).headD .hole).toBool,⟨((aA 2 r).headD .hole).toStr,((aA 3 r).headD .hole).toInt,((aA 4 r).headD .hole).toInt,((aA 5 r).headD .hole).aR⟩,⟨((aA 6 r).headD .hole).toInt,((aA 7 r).headD .hole).aR⟩,⟨((aA 8 r).headD .hole).toInt,⟨((aA 9 r).headD .hole).toStr,((aA 10 r).headD .hole).toInt,((aA 11 r).headD .hole).toInt,((aA 12 r).headD .hole).aR⟩,⟨((aA 13 r).headD .hole).toStr,((aA 14 r).headD .hole).toInt,((aA 15 r).headD .hole).toInt,((aA 16 r).headD .hole).aR⟩,⟨((aA 17 r).headD .hole).toInt,((aA 18 r).headD .hole).aR⟩,⟨((aA 19 r).headD .hole).toInt,((aA 20 r).headD .hole).aR⟩⟩⟩
instance :RT aX:=⟨aX.enc,aX.dec,21,fun _ _=>rfl,fun _ _=>rfl⟩
def aX.at (xs:List (List L))(i:Nat):aX:=aX.dec (List.getD xs i [])
def ay.r (x:ay):aX:=⟨(x.aQ.map aa.row),x.cj,(ah.r x.aN),(aK.r x.eg),(bO.r x.eO)⟩
def ay.row (x:ay):List L:=aX.enc x.r
def ay.zero:ay:=⟨[],false,ah.zero,aK.zero,bO.zero⟩
theorem ay.cI {a b:ay}(h:a.r=b.r):a=b:=by
 cases a;cases b
 simp only [ay.r,aX.mk.injEq] at h
 obtain ⟨h0,h1,h2,h3,h4⟩:=h
 simp only [ay.mk.injEq]
 exact ⟨(map_inj aa.cC h0),h1,(ah.cI h2),(aK.cI h3),(bO.cI h4)⟩
theorem ay.cC {a b:ay}(h:ay.row a=ay.row b):a=b:=ay.cI (congrArg aX.dec h)
theorem ay.cP {xs:List ay}{i:Nat}:aX.at (xs.map ay.row) i=(xs.getD i ay.zero).r:=dW (r:=fun x=>ay.r x) (fun _=>rfl) rfl
theorem ay.qU (x:ay):(ay.r x).aQ=(x.aQ.map aa.row):=Eq.trans rfl rfl
theorem ay.qP (x:ay):(ay.r x).cj=x.cj:=Eq.trans rfl rfl
theorem ay.hO (x:ay):(ay.r x).aN=(ah.r x.aN):=Eq.trans rfl rfl
theorem ay.xH (x:ay):(ay.r x).eg=(aK.r x.eg):=Eq.trans rfl rfl
theorem ay.Ah (x:ay):(ay.r x).eO=(bO.r x.eO):=Eq.trans rfl rfl
instance :Row ay:=⟨ay.row,ay.cC⟩
instance :Im ay aX:=⟨ay.r,ay.cI⟩
theorem ay.rs:(∀(xs:List ay) (i:Nat),aX.at (xs.map ay.row) i=(xs.getD i ay.zero).r)∧(∀x:ay,(ay.r x).aQ=(x.aQ.map aa.row))∧(∀x:ay,(ay.r x).cj=x.cj)∧(∀x:ay,(ay.r x).aN=(ah.r x.aN))∧(∀x:ay,(ay.r x).eg=(aK.r x.eg))∧(∀x:ay,(ay.r x).eO=(bO.r x.eO)):=⟨fun _ _=>ay.cP,ay.qU,ay.qP,ay.hO,ay.xH,ay.Ah⟩
def ay.Sm (n:Nat)(x:ay):Prop:=bK n (fun y:aa=>aa.Sm n y) x.aQ∧ah.Sm n x.aN∧aK.Sm n x.eg∧bO.Sm n x.eO
def ay.size (x:ay):Nat:=dP (fun y:aa=>aa.size y) x.aQ+ah.size x.aN+aK.size x.eg+bO.size x.eO
structure fG where
 bA:Int
 aW:ByteArray
 dS:aX
structure cm where
 bA:Int
 aW:ByteArray
 dS:ay
def fG.enc (x:fG):List L:=[.int x.bA,.str x.aW,.sl x.dS.aQ,.bool x.dS.cj,.str x.dS.aN.aW,.int x.dS.aN.bD,.int x.dS.aN.bS,.sl x.dS.aN.bC,.int x.dS.eg.eA,.sl x.dS.eg.bC,.int x.dS.eO.eA,.str x.dS.eO.aP.aW,.int x.dS.eO.aP.bD,.int x.dS.eO.aP.bS,.sl x.dS.eO.aP.bC,.str x.dS.eO.cy.aW,.int x.dS.eO.cy.bD,.int x.dS.eO.cy.bS,.sl x.dS.eO.cy.bC,.int x.dS.eO.eu.eA,.sl x.dS.eO.eu.bC,.int x.dS.eO.cQ.eA,.sl x.dS.eO.cQ.bC]
def fG.dec (r:List L):fG:=⟨((aA 0 r).headD .hole).toInt,((aA 1 r).headD .hole).toStr,⟨((aA 2 r).headD .hole).aR,((aA 3 r).headD .hole).toBool,⟨((aA 4 r).headD .hole).toStr,((aA 5 r).headD .hole).toInt,((aA 6 r).headD .hole).toInt,((aA 7 r).headD .hole).aR⟩,⟨((aA 8 r).headD .hole).toInt,((aA 9 r).headD .hole).aR⟩,⟨((aA 10 r).headD .hole).toInt,⟨((aA 11 r).headD .hole).toStr,((aA 12 r).headD .hole).toInt,((aA 13 r).headD .hole).toInt,((aA 14 r).headD .hole).aR⟩,⟨((aA 15 r).headD .hole).toStr,((aA 16 r).headD .hole).toInt,((aA 17 r).headD .hole).toInt,((aA 18 r).headD .hole).aR⟩,⟨((aA 19 r).headD .hole).toInt,((aA 20 r).headD .hole).aR⟩,⟨((aA 21 r).headD .hole).toInt,((aA 22 r).headD .hole).aR⟩⟩⟩⟩
instance :RT fG:=⟨fG.enc,fG.dec,23,fun _ _=>rfl,fun _ _=>rfl⟩
def fG.at (xs:List (List L))(i:Nat):fG:=fG.dec (List.getD xs i [])
def cm.r (x:cm):fG:=⟨x.bA,x.aW,(ay.r x.dS)⟩
def cm.row (x:cm):List L:=fG.enc x.r
def cm.zero:cm:=⟨0,⟨#[]⟩,ay.zero⟩
theorem cm.cI {a b:cm}(h:a.r=b.r):a=b:=by
 cases a;cases b
 simp only [cm.r,fG.mk.injEq] at h
 obtain ⟨h0,h1,h2⟩:=h
 simp only [cm.mk.injEq]
 exact ⟨h0,h1,(ay.cI h2)⟩
theorem cm.cC {a b:cm}(h:cm.row a=cm.row b):a=b:=cm.cI (congrArg fG.dec h)
theorem cm.cP {xs:List cm}{i:Nat}:fG.at (xs.map cm.row) i=(xs.getD i cm.zero).r:=dW (r:=fun x=>cm.r x) (fun _=>rfl) rfl
theorem cm.tv (x:cm):(cm.r x).bA=x.bA:=Eq.trans rfl rfl
theorem cm.qA (x:cm):(cm.r x).aW=x.aW:=Eq.trans rfl rfl
theorem cm.wL (x:cm):(cm.r x).dS=(ay.r x.dS):=Eq.trans rfl rfl
instance :Row cm:=⟨cm.row,cm.cC⟩
instance :Im cm fG:=⟨cm.r,cm.cI⟩
theorem cm.rs:(∀(xs:List cm) (i:Nat),fG.at (xs.map cm.row) i=(xs.getD i cm.zero).r)∧(∀x:cm,(cm.r x).bA=x.bA)∧(∀x:cm,(cm.r x).aW=x.aW)∧(∀x:cm,(cm.r x).dS=(ay.r x.dS)):=⟨fun _ _=>cm.cP,cm.tv,cm.qA,cm.wL⟩
structure gj where
 aT:List (List L)
structure dn where
 aT:List cm
def gj.enc (x:gj):List L:=[.sl x.aT]
def gj.dec (r:List L):gj:=⟨((aA 0 r).headD .hole).aR⟩
instance :RT gj:=⟨gj.enc,gj.dec,1,fun _ _=>rfl,fun _ _=>rfl⟩
def gj.at (xs:List (List L))(i:Nat):gj:=gj.dec (List.getD xs i [])
def dn.r (x:dn):gj:=⟨(x.aT.map cm.row)⟩
def dn.row (x:dn):List L:=gj.enc x.r
def dn.zero:dn:=⟨[]⟩
theorem dn.cI {a b:dn}(h:a.r=b.r):a=b:=by
 cases a;cases b
 simp only [dn.r,gj.mk.injEq] at h
 have h0:=h
 simp only [dn.mk.injEq]
 exact (map_inj cm.cC h0)
theorem dn.cC {a b:dn}(h:dn.row a=dn.row b):a=b:=dn.cI (congrArg gj.dec h)
theorem dn.cP {xs:List dn}{i:Nat}:gj.at (xs.map dn.row) i=(xs.getD i dn.zero).r:=dW (r:=fun x=>dn.r x) (fun _=>rfl) rfl
theorem dn.sJ (x:dn):(dn.r x).aT=(x.aT.map cm.row):=Eq.trans rfl rfl
instance :Row dn:=⟨dn.row,dn.cC⟩
instance :Im dn gj:=⟨dn.r,dn.cI⟩
theorem dn.rs:(∀(xs:List dn) (i:Nat),gj.at (xs.map dn.row) i=(xs.getD i dn.zero).r)∧(∀x:dn,(dn.r x).aT=(x.aT.map cm.row)):=⟨fun _ _=>dn.cP,dn.sJ⟩
structure cT where
 bV:bn
 eY:Int
 aN:aS
 bE:List (List L)
 eU:Int
structure bz where
 bV:au
 eY:Int
 aN:ah
 bE:List Int
 eU:Int
def cT.enc (x:cT):List L:=[.sl x.bV.aF,.sl x.bV.bg,.int x.eY,.str x.aN.aW,.int x.aN.bD,.int x.aN.bS,.sl x.aN.bC,.sl x.bE,.int x.eU]
def cT.dec (r:List L):cT:=⟨⟨((aA 0 r).headD .hole).aR,((aA 1 r).headD .hole).aR⟩,((aA 2 r).headD .hole).toInt,⟨((aA 3 r).headD .hole).toStr,((aA 4 r).headD .hole).toInt,((aA 5 r).headD .hole).toInt,((aA 6 r).headD .hole).aR⟩,((aA 7 r).headD .hole).aR,((aA 8 r).headD .hole).toInt⟩
instance :RT cT:=⟨cT.enc,cT.dec,9,fun _ _=>rfl,fun _ _=>rfl⟩
def cT.at (xs:List (List L))(i:Nat):cT:=cT.dec (List.getD xs i [])
def bz.r (x:bz):cT:=⟨(au.r x.bV),x.eY,(ah.r x.aN),(x.bE.map aZ),x.eU⟩
def bz.row (x:bz):List L:=cT.enc x.r
def bz.zero:bz:=⟨au.zero,0,ah.zero,[],0⟩
theorem bz.cI {a b:bz}(h:a.r=b.r):a=b:=by
 cases a;cases b
 simp only [bz.r,cT.mk.injEq] at h
 obtain ⟨h0,h1,h2,h3,h4⟩:=h
 simp only [bz.mk.injEq]
 exact ⟨(au.cI h0),h1,(ah.cI h2),(map_inj lB h3),h4⟩
theorem bz.cC {a b:bz}(h:bz.row a=bz.row b):a=b:=bz.cI (congrArg cT.dec h)
theorem bz.cP {xs:List bz}{i:Nat}:cT.at (xs.map bz.row) i=(xs.getD i bz.zero).r:=dW (r:=fun x=>bz.r x) (fun _=>rfl) rfl
theorem bz.qJ (x:bz):(bz.r x).bV=(au.r x.bV):=Eq.trans rfl rfl
theorem bz.sF (x:bz):(bz.r x).eY=x.eY:=Eq.trans rfl rfl
theorem bz.hO (x:bz):(bz.r x).aN=(ah.r x.aN):=Eq.trans rfl rfl
theorem bz.qz (x:bz):(bz.r x).bE=(x.bE.map aZ):=Eq.trans rfl rfl
theorem bz.xJ (x:bz):(bz.r x).eU=x.eU:=Eq.trans rfl rfl
instance :Row bz:=⟨bz.row,bz.cC⟩
instance :Im bz cT:=⟨bz.r,bz.cI⟩
theorem bz.rs:(∀(xs:List bz) (i:Nat),cT.at (xs.map bz.row) i=(xs.getD i bz.zero).r)∧(∀x:bz,(bz.r x).bV=(au.r x.bV))∧(∀x:bz,(bz.r x).eY=x.eY)∧(∀x:bz,(bz.r x).aN=(ah.r x.aN))∧(∀x:bz,(bz.r x).bE=(x.bE.map aZ))∧(∀x:bz,(bz.r x).eU=x.eU):=⟨fun _ _=>bz.cP,bz.qJ,bz.sF,bz.hO,bz.qz,bz.xJ⟩
def bz.size (x:bz):Nat:=au.size x.bV+ah.size x.aN+dP (fun y:Int=>0) x.bE
structure iO where
 gT:cT
 mJ:gj
structure dV where
 gT:bz
 mJ:dn
def iO.enc (x:iO):List L:=[.sl x.gT.bV.aF,.sl x.gT.bV.bg,.int x.gT.eY,.str x.gT.aN.aW,.int x.gT.aN.bD,.int x.gT.aN.bS,.sl x.gT.aN.bC,.sl x.gT.bE,.int x.gT.eU,.sl x.mJ.aT]
def iO.dec (r:List L):iO:=⟨⟨⟨((aA 0 r).headD .hole).aR,((aA 1 r).headD .hole).aR⟩,((aA 2 r).headD .hole).toInt,⟨((aA 3 r).headD .hole).toStr,((aA 4 r).headD .hole).toInt,((aA 5 r).headD .hole).toInt,((aA 6 r).headD .hole).aR⟩,((aA 7 r).headD .hole).aR,((aA 8 r).headD .hole).toInt⟩,⟨((aA 9 r).headD .hole).aR⟩⟩
instance :RT iO:=⟨iO.enc,iO.dec,10,fun _ _=>rfl,fun _ _=>rfl⟩
def iO.at (xs:List (List L))(i:Nat):iO:=iO.dec (List.getD xs i [])
def dV.r (x:dV):iO:=⟨(bz.r x.gT),(dn.r x.mJ)⟩
def dV.row (x:dV):List L:=iO.enc x.r
def dV.zero:dV:=⟨bz.zero,dn.zero⟩
theorem dV.cI {a b:dV}(h:a.r=b.r):a=b:=by
 cases a;cases b
 simp only [dV.r,iO.mk.injEq] at h
 obtain ⟨h0,h1⟩:=h
 simp only [dV.mk.injEq]
 exact ⟨(bz.cI h0),(dn.cI h1)⟩
theorem dV.cC {a b:dV}(h:dV.row a=dV.row b):a=b:=dV.cI (congrArg iO.dec h)
theorem dV.cP {xs:List dV}{i:Nat}:iO.at (xs.map dV.row) i=(xs.getD i dV.zero).r:=dW (r:=fun x=>dV.r x) (fun _=>rfl) rfl
theorem dV.yS (x:dV):(dV.r x).gT=(bz.r x.gT):=Eq.trans rfl rfl
theorem dV.xS (x:dV):(dV.r x).mJ=(dn.r x.mJ):=Eq.trans rfl rfl
instance :Row dV:=⟨dV.row,dV.cC⟩
instance :Im dV iO:=⟨dV.r,dV.cI⟩
theorem dV.rs:(∀(xs:List dV) (i:Nat),iO.at (xs.map dV.row) i=(xs.getD i dV.zero).r)∧(∀x:dV,(dV.r x).gT=(bz.r x.gT))∧(∀x:dV,(dV.r x).mJ=(dn.r x.mJ)):=⟨fun _ _=>dV.cP,dV.yS,dV.xS⟩
structure iI where
 qG:Int
 bJ:bu
 bD:Int
structure dL where
 qG:Int
 bJ:aJ
 bD:Int
def iI.enc (x:iI):List L:=[.int x.qG,.sl x.bJ.aT,.int x.bJ.cu,.int x.bD]
def iI.dec (r:List L):iI:=⟨((aA 0 r).headD .hole).toInt,⟨((aA 1 r).headD .hole).aR,((aA 2 r).headD .hole).toInt⟩,((aA 3 r).headD .hole).toInt⟩
instance :RT iI:=⟨iI.enc,iI.dec,4,fun _ _=>rfl,fun _ _=>rfl⟩
def iI.at (xs:List (List L))(i:Nat):iI:=iI.dec (List.getD xs i [])
def dL.r (x:dL):iI:=⟨x.qG,(aJ.r x.bJ),x.bD⟩
def dL.row (x:dL):List L:=iI.enc x.r
def dL.zero:dL:=⟨0,aJ.zero,0⟩
theorem dL.cI {a b:dL}(h:a.r=b.r):a=b:=by
 cases a;cases b
 simp only [dL.r,iI.mk.injEq] at h
 obtain ⟨h0,h1,h2⟩:=h
 simp only [dL.mk.injEq]
 exact ⟨h0,(aJ.cI h1),h2⟩
theorem dL.cC {a b:dL}(h:dL.row a=dL.row b):a=b:=dL.cI (congrArg iI.dec h)
theorem dL.cP {xs:List dL}{i:Nat}:iI.at (xs.map dL.row) i=(xs.getD i dL.zero).r:=dW (r:=fun x=>dL.r x) (fun _=>rfl) rfl
theorem dL.za (x:dL):(dL.r x).qG=x.qG:=Eq.trans rfl rfl
theorem dL.sH (x:dL):(dL.r x).bJ=(aJ.r x.bJ):=Eq.trans rfl rfl
theorem dL.nR (x:dL):(dL.r x).bD=x.bD:=Eq.trans rfl rfl
instance :Row dL:=⟨dL.row,dL.cC⟩
instance :Im dL iI:=⟨dL.r,dL.cI⟩
theorem dL.rs:(∀(xs:List dL) (i:Nat),iI.at (xs.map dL.row) i=(xs.getD i dL.zero).r)∧(∀x:dL,(dL.r x).qG=x.qG)∧(∀x:dL,(dL.r x).bJ=(aJ.r x.bJ))∧(∀x:dL,(dL.r x).bD=x.bD):=⟨fun _ _=>dL.cP,dL.za,dL.sH,dL.nR⟩
structure ep where
 eY:Int
 aN:aS
 kO:List (List L)
structure bR where
 eY:Int
 aN:ah
 kO:List ah
def ep.enc (x:ep):List L:=[.int x.eY,.str x.aN.aW,.int x.aN.bD,.int x.aN.bS,.sl x.aN.bC,.sl x.kO]
def ep.dec (r:List L):ep:=⟨((aA 0 r).headD .hole).toInt,⟨((aA 1 r).headD .hole).toStr,((aA 2 r).headD .hole).toInt,((aA 3 r).headD .hole).toInt,((aA 4 r).headD .hole).aR⟩,((aA 5 r).headD .hole).aR⟩
instance :RT ep:=⟨ep.enc,ep.dec,6,fun _ _=>rfl,fun _ _=>rfl⟩
def ep.at (xs:List (List L))(i:Nat):ep:=ep.dec (List.getD xs i [])
def bR.r (x:bR):ep:=⟨x.eY,(ah.r x.aN),(x.kO.map ah.row)⟩
def bR.row (x:bR):List L:=ep.enc x.r
def bR.zero:bR:=⟨0,ah.zero,[]⟩
theorem bR.cI {a b:bR}(h:a.r=b.r):a=b:=by
 cases a;cases b
 simp only [bR.r,ep.mk.injEq] at h
 obtain ⟨h0,h1,h2⟩:=h
 simp only [bR.mk.injEq]
 exact ⟨h0,(ah.cI h1),(map_inj ah.cC h2)⟩
theorem bR.cC {a b:bR}(h:bR.row a=bR.row b):a=b:=bR.cI (congrArg ep.dec h)
theorem bR.cP {xs:List bR}{i:Nat}:ep.at (xs.map bR.row) i=(xs.getD i bR.zero).r:=dW (r:=fun x=>bR.r x) (fun _=>rfl) rfl
theorem bR.sF (x:bR):(bR.r x).eY=x.eY:=Eq.trans rfl rfl
theorem bR.hO (x:bR):(bR.r x).aN=(ah.r x.aN):=Eq.trans rfl rfl
theorem bR.xk (x:bR):(bR.r x).kO=(x.kO.map ah.row):=Eq.trans rfl rfl
instance :Row bR:=⟨bR.row,bR.cC⟩
instance :Im bR ep:=⟨bR.r,bR.cI⟩
theorem bR.rs:(∀(xs:List bR) (i:Nat),ep.at (xs.map bR.row) i=(xs.getD i bR.zero).r)∧(∀x:bR,(bR.r x).eY=x.eY)∧(∀x:bR,(bR.r x).aN=(ah.r x.aN))∧(∀x:bR,(bR.r x).kO=(x.kO.map ah.row)):=⟨fun _ _=>bR.cP,bR.sF,bR.hO,bR.xk⟩
structure cX where
 bV:bn
 cj:Bool
 aN:aS
 jZ:Bool
 kK:List (List L)
structure bQ where
 bV:au
 cj:Bool
 aN:ah
 jZ:Bool
 kK:List Int
def cX.enc (x:cX):List L:=[.sl x.bV.aF,.sl x.bV.bg,.bool x.cj,.str x.aN.aW,.int x.aN.bD,.int x.aN.bS,.sl x.aN.bC,.bool x.jZ,.sl x.kK]
def cX.dec (r:List L):cX:=⟨⟨((aA 0 r).headD .hole).aR,((aA 1 r).headD .hole).aR⟩,((aA 2 r).headD .hole).toBool,⟨((aA 3 r).headD .hole).toStr,((aA 4 r).headD .hole).toInt,((aA 5 r).headD .hole).toInt,((aA 6 r).headD .hole).aR⟩,((aA 7 r).headD .hole).toBool,((aA 8 r).headD .hole).aR⟩
instance :RT cX:=⟨cX.enc,cX.dec,9,fun _ _=>rfl,fun _ _=>rfl⟩
def cX.at (xs:List (List L))(i:Nat):cX:=cX.dec (List.getD xs i [])
def bQ.r (x:bQ):cX:=⟨(au.r x.bV),x.cj,(ah.r x.aN),x.jZ,(x.kK.map aZ)⟩
def bQ.row (x:bQ):List L:=cX.enc x.r
def bQ.zero:bQ:=⟨au.zero,false,ah.zero,false,[]⟩
theorem bQ.cI {a b:bQ}(h:a.r=b.r):a=b:=by
 cases a;cases b
 simp only [bQ.r,cX.mk.injEq] at h
 obtain ⟨h0,h1,h2,h3,h4⟩:=h
 simp only [bQ.mk.injEq]
 exact ⟨(au.cI h0),h1,(ah.cI h2),h3,(map_inj lB h4)⟩
theorem bQ.cC {a b:bQ}(h:bQ.row a=bQ.row b):a=b:=bQ.cI (congrArg cX.dec h)
theorem bQ.cP {xs:List bQ}{i:Nat}:cX.at (xs.map bQ.row) i=(xs.getD i bQ.zero).r:=dW (r:=fun x=>bQ.r x) (fun _=>rfl) rfl
theorem bQ.qJ (x:bQ):(bQ.r x).bV=(au.r x.bV):=Eq.trans rfl rfl
theorem bQ.qP (x:bQ):(bQ.r x).cj=x.cj:=Eq.trans rfl rfl
theorem bQ.hO (x:bQ):(bQ.r x).aN=(ah.r x.aN):=Eq.trans rfl rfl
theorem bQ.zb (x:bQ):(bQ.r x).jZ=x.jZ:=Eq.trans rfl rfl
theorem bQ.yC (x:bQ):(bQ.r x).kK=(x.kK.map aZ):=Eq.trans rfl rfl
instance :Row bQ:=⟨bQ.row,bQ.cC⟩
instance :Im bQ cX:=⟨bQ.r,bQ.cI⟩
theorem bQ.rs:(∀(xs:List bQ) (i:Nat),cX.at (xs.map bQ.row) i=(xs.getD i bQ.zero).r)∧(∀x:bQ,(bQ.r x).bV=(au.r x.bV))∧(∀x:bQ,(bQ.r x).cj=x.cj)∧(∀x:bQ,(bQ.r x).aN=(ah.r x.aN))∧(∀x:bQ,(bQ.r x).jZ=x.jZ)∧(∀x:bQ,(bQ.r x).kK=(x.kK.map aZ)):=⟨fun _ _=>bQ.cP,bQ.qJ,bQ.qP,bQ.hO,bQ.zb,bQ.yC⟩
def bQ.Sm (n:Nat)(x:bQ):Prop:=au.Sm n x.bV∧ah.Sm n x.aN∧bK n (fun y:Int=>True) x.kK
structure gm where
 fName:ByteArray
 bA:Int
def gm.enc (x:gm):List L:=[.str x.fName,.int x.bA]
def gm.dec (r:List L):gm:=⟨((aA 0 r).headD .hole).toStr,((aA 1 r).headD .hole).toInt⟩
instance :RT gm:=⟨gm.enc,gm.dec,2,fun _ _=>rfl,fun _ _=>rfl⟩
def gm.at (xs:List (List L))(i:Nat):gm:=gm.dec (List.getD xs i [])
def gm.row (x:gm):List L:=gm.enc x
def gm.zero:gm:=⟨⟨#[]⟩,0⟩
theorem gm.cC {a b:gm}(h:gm.row a=gm.row b):a=b:=congrArg gm.dec h
theorem gm.cP {xs:List gm}{i:Nat}:gm.at (xs.map gm.row) i=xs.getD i gm.zero:=dW (r:=fun x=>x) (fun _=>rfl) rfl
instance :Row gm:=⟨gm.row,gm.cC⟩
instance :Im gm gm:=⟨fun x=>x,fun h=>h⟩
theorem gm.rs:(∀(xs:List gm) (i:Nat),gm.at (xs.map gm.row) i=xs.getD i gm.zero):=fun _ _=>gm.cP
structure dG where
 aQ:List (List L)
 bH:List (List L)
structure aI where
 aQ:List aa
 bH:List ah
def dG.enc (x:dG):List L:=[.sl x.aQ,.sl x.bH]
def dG.dec (r:List L):dG:=⟨((aA 0 r).headD .hole).aR,((aA 1 r).headD .hole).aR⟩
instance :RT dG:=⟨dG.enc,dG.dec,2,fun _ _=>rfl,fun _ _=>rfl⟩
def dG.at (xs:List (List L))(i:Nat):dG:=dG.dec (List.getD xs i [])
def aI.r (x:aI):dG:=⟨(x.aQ.map aa.row),(x.bH.map ah.row)⟩
def aI.row (x:aI):List L:=dG.enc x.r
def aI.zero:aI:=⟨[],[]⟩
theorem aI.cI {a b:aI}(h:a.r=b.r):a=b:=by
 cases a;cases b
 simp only [aI.r,dG.mk.injEq] at h
 obtain ⟨h0,h1⟩:=h
 simp only [aI.mk.injEq]
 exact ⟨(map_inj aa.cC h0),(map_inj ah.cC h1)⟩
theorem aI.cC {a b:aI}(h:aI.row a=aI.row b):a=b:=aI.cI (congrArg dG.dec h)
theorem aI.eF {xs:List aI}{i:Nat}(h:i<xs.length):dG.at (xs.map aI.row) i=(xs[i]).r:=by unfold dG.at;rw [getD_map h];rfl
theorem aI.cP {xs:List aI}{i:Nat}:dG.at (xs.map aI.row) i=(xs.getD i aI.zero).r:=dW (r:=fun x=>aI.r x) (fun _=>rfl) rfl
theorem aI.qU (x:aI):(aI.r x).aQ=(x.aQ.map aa.row):=Eq.trans rfl rfl
theorem aI.vA (x:aI):(aI.r x).bH=(x.bH.map ah.row):=Eq.trans rfl rfl
instance :Row aI:=⟨aI.row,aI.cC⟩
instance :Im aI dG:=⟨aI.r,aI.cI⟩
theorem aI.rs:(∀(xs:List aI) (i:Nat),dG.at (xs.map aI.row) i=(xs.getD i aI.zero).r)∧(∀x:aI,(aI.r x).aQ=(x.aQ.map aa.row))∧(∀x:aI,(aI.r x).bH=(x.bH.map ah.row)):=⟨fun _ _=>aI.cP,aI.qU,aI.vA⟩
def aI.Sm (n:Nat)(x:aI):Prop:=bK n (fun y:aa=>aa.Sm n y) x.aQ∧bK n (fun y:ah=>ah.Sm n y) x.bH
def aI.size (x:aI):Nat:=dP (fun y:aa=>aa.size y) x.aQ+dP (fun y:ah=>ah.size y) x.bH
theorem aI.dc {n m:Nat}(hn:n≤m){x:aI}(h:aI.Sm n x):aI.Sm m x:=⟨h.1.mono hn (fun x hx=>aa.dc hn hx),h.2.mono hn (fun x hx=>ah.dc hn hx)⟩
theorem aI.gw {n:Nat}{x:aI}(h:x.size≤n):aI.Sm n x:=by
 unfold aI.size at h
 have g0:dP (fun y:aa=>aa.size y) x.aQ≤n:=by omega
 have g1:dP (fun y:ah=>ah.size y) x.bH≤n:=by omega
 exact ⟨jy g0 (fun x hx=>aa.gw hx),jy g1 (fun x hx=>ah.gw hx)⟩
structure cH where
 bE:List (List L)
 gN:Int
structure az where
 bE:List aI
 gN:Int
def cH.enc (x:cH):List L:=[.sl x.bE,.int x.gN]
def cH.dec (r:List L):cH:=⟨((aA 0 r).headD .hole).aR,((aA 1 r).headD .hole).toInt⟩
instance :RT cH:=⟨cH.enc,cH.dec,2,fun _ _=>rfl,fun _ _=>rfl⟩
def cH.at (xs:List (List L))(i:Nat):cH:=cH.dec (List.getD xs i [])
def az.r (x:az):cH:=⟨(x.bE.map aI.row),x.gN⟩
def az.row (x:az):List L:=cH.enc x.r
def az.zero:az:=⟨[],0⟩
theorem az.cI {a b:az}(h:a.r=b.r):a=b:=by
 cases a;cases b
 simp only [az.r,cH.mk.injEq] at h
 obtain ⟨h0,h1⟩:=h
 simp only [az.mk.injEq]
 exact ⟨(map_inj aI.cC h0),h1⟩
theorem az.cC {a b:az}(h:az.row a=az.row b):a=b:=az.cI (congrArg cH.dec h)
theorem az.eF {xs:List az}{i:Nat}(h:i<xs.length):cH.at (xs.map az.row) i=(xs[i]).r:=by unfold cH.at;rw [getD_map h];rfl
theorem az.cP {xs:List az}{i:Nat}:cH.at (xs.map az.row) i=(xs.getD i az.zero).r:=dW (r:=fun x=>az.r x) (fun _=>rfl) rfl
theorem az.qz (x:az):(az.r x).bE=(x.bE.map aI.row):=Eq.trans rfl rfl
theorem az.Ac (x:az):(az.r x).gN=x.gN:=Eq.trans rfl rfl
instance :Row az:=⟨az.row,az.cC⟩
instance :Im az cH:=⟨az.r,az.cI⟩
theorem az.rs:(∀(xs:List az) (i:Nat),cH.at (xs.map az.row) i=(xs.getD i az.zero).r)∧(∀x:az,(az.r x).bE=(x.bE.map aI.row))∧(∀x:az,(az.r x).gN=x.gN):=⟨fun _ _=>az.cP,az.qz,az.Ac⟩
def az.Sm (n:Nat)(x:az):Prop:=bK n (fun y:aI=>aI.Sm n y) x.bE
def az.size (x:az):Nat:=dP (fun y:aI=>aI.size y) x.bE
theorem az.dc {n m:Nat}(hn:n≤m){x:az}(h:az.Sm n x):az.Sm m x:=h.mono hn (fun x hx=>aI.dc hn hx)
theorem az.gw {n:Nat}{x:az}(h:x.size≤n):az.Sm n x:=by
 unfold az.size at h
 have g0:dP (fun y:aI=>aI.size y) x.bE≤n:=by omega
 exact jy g0 (fun x hx=>aI.gw hx)
structure eJ where
 fName:ByteArray
 bA:Int
def eJ.enc (x:eJ):List L:=[.str x.fName,.int x.bA]
def eJ.dec (r:List L):eJ:=⟨((aA 0 r).headD .hole).toStr,((aA 1 r).headD .hole).toInt⟩
instance :RT eJ:=⟨eJ.enc,eJ.dec,2,fun _ _=>rfl,fun _ _=>rfl⟩
def eJ.at (xs:List (List L))(i:Nat):eJ:=eJ.dec (List.getD xs i [])
def eJ.row (x:eJ):List L:=eJ.enc x
def eJ.zero:eJ:=⟨⟨#[]⟩,0⟩
theorem eJ.cC {a b:eJ}(h:eJ.row a=eJ.row b):a=b:=congrArg eJ.dec h
theorem eJ.cP {xs:List eJ}{i:Nat}:eJ.at (xs.map eJ.row) i=xs.getD i eJ.zero:=dW (r:=fun x=>x) (fun _=>rfl) rfl
instance :Row eJ:=⟨eJ.row,eJ.cC⟩
instance :Im eJ eJ:=⟨fun x=>x,fun h=>h⟩
theorem eJ.rs:(∀(xs:List eJ) (i:Nat),eJ.at (xs.map eJ.row) i=xs.getD i eJ.zero):=fun _ _=>eJ.cP
structure fF where
 bC:List (List L)
 aN:aS
structure cK where
 bC:List ByteArray
 aN:ah
def fF.enc (x:fF):List L:=[.sl x.bC,.str x.aN.aW,.int x.aN.bD,.int x.aN.bS,.sl x.aN.bC]
def fF.dec (r:List L):fF:=⟨((aA 0 r).headD .hole).aR,⟨((aA 1 r).headD .hole).toStr,((aA 2 r).headD .hole).toInt,((aA 3 r).headD .hole).toInt,((aA 4 r).headD .hole).aR⟩⟩
instance :RT fF:=⟨fF.enc,fF.dec,5,fun _ _=>rfl,fun _ _=>rfl⟩
def fF.at (xs:List (List L))(i:Nat):fF:=fF.dec (List.getD xs i [])
def cK.r (x:cK):fF:=⟨(x.bC.map cz),(ah.r x.aN)⟩
def cK.row (x:cK):List L:=fF.enc x.r
def cK.zero:cK:=⟨[],ah.zero⟩
theorem cK.cI {a b:cK}(h:a.r=b.r):a=b:=by
 cases a;cases b
 simp only [cK.r,fF.mk.injEq] at h
 obtain ⟨h0,h1⟩:=h
 simp only [cK.mk.injEq]
 exact ⟨(map_inj qh h0),(ah.cI h1)⟩
theorem cK.cC {a b:cK}(h:cK.row a=cK.row b):a=b:=cK.cI (congrArg fF.dec h)
theorem cK.cP {xs:List cK}{i:Nat}:fF.at (xs.map cK.row) i=(xs.getD i cK.zero).r:=dW (r:=fun x=>cK.r x) (fun _=>rfl) rfl
theorem cK.nH (x:cK):(cK.r x).bC=(x.bC.map cz):=Eq.trans rfl rfl
theorem cK.hO (x:cK):(cK.r x).aN=(ah.r x.aN):=Eq.trans rfl rfl
instance :Row cK:=⟨cK.row,cK.cC⟩
instance :Im cK fF:=⟨cK.r,cK.cI⟩
theorem cK.rs:(∀(xs:List cK) (i:Nat),fF.at (xs.map cK.row) i=(xs.getD i cK.zero).r)∧(∀x:cK,(cK.r x).bC=(x.bC.map cz))∧(∀x:cK,(cK.r x).aN=(ah.r x.aN)):=⟨fun _ _=>cK.cP,cK.nH,cK.hO⟩
def SS:=And.intro (And.intro S0 MM) (And.intro aJ.rs (And.intro aC.rs (And.intro aY.rs (And.intro aa.rs (And.intro aB.rs (And.intro au.rs (And.intro ah.rs (And.intro aK.rs (And.intro bO.rs (And.intro ay.rs (And.intro cm.rs (And.intro dn.rs (And.intro bz.rs (And.intro dV.rs (And.intro dL.rs (And.intro bR.rs (And.intro bQ.rs (And.intro gm.rs (And.intro aI.rs (And.intro az.rs (And.intro eJ.rs (And.intro cK.rs trivial))))))))))))))))))))))
theorem fz {p:Prop}(h:p:=by first | rfl | (simp only [SS];done) | (simp only [MP];rfl) | (simp only [SS,MP];first | done | rfl) | (simp only [aJ.r,aC.r,aa.r,aB.r,au.r,ah.r,aK.r,bO.r,ay.r,cm.r,dn.r,bz.r,dV.r,dL.r,bR.r,bQ.r,aI.r,az.r,cK.r,SS,MP];first | done | rfl) | (simp only [SS,MP,List.length_take,List.length_drop];first | done | rfl)):p:=h
theorem rq {p q:Prop}(h:p)(k:p→q:=by intro R_;first | exact R_ | (simp only [MP,SS] at R_ ⊢;first | exact R_ | (rw [←R_];rfl))):q:=k h
end Go.DM

end
