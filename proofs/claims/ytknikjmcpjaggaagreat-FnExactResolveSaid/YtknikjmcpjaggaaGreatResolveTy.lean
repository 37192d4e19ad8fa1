/- The structures of the program, as mathematical records. Conditions: none. -/
import Derived.Test.YtknikjmcpjaggaaGreatResolveDd
set_option linter.all false
noncomputable section
namespace Go.DM
structure bu where
 aT:List (List L)
 cu:Int
structure aJ where
 aT:List Int
 cu:Int
def bu.enc (x:bu):List L:=[.sl x.aT,.int x.cu]
def bu.dec (r:List L):bu:=⟨((aA 0 r).headD .hole).aR,((aA 1 r).headD .hole).toInt⟩
instance :RT bu:=⟨bu.enc,bu.dec,2,fun _ _=>rfl,fun _ _=>rfl⟩
def bu.at (xs:List (List L))(i:Nat):bu:=bu.dec (List.getD xs i [])
def aJ.r (x:aJ):bu:=⟨(x.aT.map aZ),x.cu⟩
def aJ.row (x:aJ):List L:=bu.enc x.r
def aJ.zero:aJ:=⟨[],0⟩
theorem aJ.cJ {a b:aJ}(h:a.r=b.r):a=b:=by
 cases a;cases b
 simp only [aJ.r,bu.mk.injEq] at h
 obtain ⟨h0,h1⟩:=h
 simp only [aJ.mk.injEq]
 exact ⟨(map_inj kU h0),h1⟩
theorem aJ.cD {a b:aJ}(h:aJ.row a=aJ.row b):a=b:=aJ.cJ (congrArg bu.dec h)
theorem aJ.cQ {xs:List aJ}{i:Nat}:bu.at (xs.map aJ.row) i=(xs.getD i aJ.zero).r:=dV (r:=fun x=>aJ.r x) (fun _=>rfl) rfl
theorem aJ.tB (x:aJ):(aJ.r x).aT=(x.aT.map aZ):=Eq.trans rfl rfl
theorem aJ.zH (x:aJ):(aJ.r x).cu=x.cu:=Eq.trans rfl rfl
instance :Row aJ:=⟨aJ.row,aJ.cD⟩
instance :Im aJ bu:=⟨aJ.r,aJ.cJ⟩
theorem aJ.rs:(∀(xs:List aJ) (i:Nat),bu.at (xs.map aJ.row) i=(xs.getD i aJ.zero).r)∧(∀x:aJ,(aJ.r x).aT=(x.aT.map aZ))∧(∀x:aJ,(aJ.r x).cu=x.cu):=⟨fun _ _=>aJ.cQ,aJ.tB,aJ.zH⟩
def aJ.Sm (n:Nat)(x:aJ):Prop:=bK n (fun y:Int=>True) x.aT
def aJ.size (x:aJ):Nat:=dQ (fun y:Int=>0) x.aT
theorem aJ.dh {n m:Nat}(hn:n≤m){x:aJ}(h:aJ.Sm n x):aJ.Sm m x:=h.mono hn (fun x hx=>trivial)
theorem aJ.gx {n:Nat}{x:aJ}(h:x.size≤n):aJ.Sm n x:=by
 unfold aJ.size at h
 have g0:dQ (fun y:Int=>0) x.aT≤n:=by omega
 exact ju g0 (fun x hx=>trivial)
structure bU where
 bA:Int
 cE:Int
 bD:Int
 cB:Int
 cq:Int
 cg:Int
 cS:Int
 dz:Int
 bJ:bu
 bw:bu
 cW:Int
 bp:bu
 bB:Bool
structure aC where
 bA:Int
 cE:Int
 bD:Int
 cB:Int
 cq:Int
 cg:Int
 cS:Int
 dz:Int
 bJ:aJ
 bw:aJ
 cW:Int
 bp:aJ
 bB:Bool
def bU.enc (x:bU):List L:=[.int x.bA,.int x.cE,.int x.bD,.int x.cB,.int x.cq,.int x.cg,.int x.cS,.int x.dz,.sl x.bJ.aT,.int x.bJ.cu,.sl x.bw.aT,.int x.bw.cu,.int x.cW,.sl x.bp.aT,.int x.bp.cu,.bool x.bB]
def bU.dec (r:List L):bU:=⟨((aA 0 r).headD .hole).toInt,((aA 1 r).headD .hole).toInt,((aA 2 r).headD .hole).toInt,((aA 3 r).headD .hole).toInt,((aA 4 r).headD .hole).toInt,((aA 5 r).headD .hole).toInt,((aA 6 r).headD .hole).toInt,((aA 7 r).headD .hole).toInt,⟨((aA 8 r).headD .hole).aR,((aA 9 r).headD .hole).toInt⟩,⟨((aA 10 r).headD .hole).aR,((aA 11 r).headD .hole).toInt⟩,((aA 12 r).headD .hole).toInt,⟨((aA 13 r).headD .hole).aR,((aA 14 r).headD .hole).toInt⟩,((aA 15 r).headD .hole).toBool⟩
instance :RT bU:=⟨bU.enc,bU.dec,16,fun _ _=>rfl,fun _ _=>rfl⟩
def bU.at (xs:List (List L))(i:Nat):bU:=bU.dec (List.getD xs i [])
def aC.r (x:aC):bU:=⟨x.bA,x.cE,x.bD,x.cB,x.cq,x.cg,x.cS,x.dz,(aJ.r x.bJ),(aJ.r x.bw),x.cW,(aJ.r x.bp),x.bB⟩
def aC.row (x:aC):List L:=bU.enc x.r
def aC.zero:aC:=⟨0,0,0,0,0,0,0,0,aJ.zero,aJ.zero,0,aJ.zero,false⟩
theorem aC.cJ {a b:aC}(h:a.r=b.r):a=b:=by
 cases a;cases b
 simp only [aC.r,bU.mk.injEq] at h
 obtain ⟨h0,h1,h2,h3,h4,h5,h6,h7,h8,h9,h10,h11,h12⟩:=h
 simp only [aC.mk.injEq]
 exact ⟨h0,h1,h2,h3,h4,h5,h6,h7,(aJ.cJ h8),(aJ.cJ h9),h10,(aJ.cJ h11),h12⟩
theorem aC.cD {a b:aC}(h:aC.row a=aC.row b):a=b:=aC.cJ (congrArg bU.dec h)
theorem aC.cQ {xs:List aC}{i:Nat}:bU.at (xs.map aC.row) i=(xs.getD i aC.zero).r:=dV (r:=fun x=>aC.r x) (fun _=>rfl) rfl
theorem aC.sV (x:aC):(aC.r x).bA=x.bA:=Eq.trans rfl rfl
theorem aC.yA (x:aC):(aC.r x).cE=x.cE:=Eq.trans rfl rfl
theorem aC.oa (x:aC):(aC.r x).bD=x.bD:=Eq.trans rfl rfl
theorem aC.zu (x:aC):(aC.r x).cB=x.cB:=Eq.trans rfl rfl
theorem aC.yg (x:aC):(aC.r x).cq=x.cq:=Eq.trans rfl rfl
theorem aC.xA (x:aC):(aC.r x).cg=x.cg:=Eq.trans rfl rfl
theorem aC.za (x:aC):(aC.r x).cS=x.cS:=Eq.trans rfl rfl
theorem aC.zL (x:aC):(aC.r x).dz=x.dz:=Eq.trans rfl rfl
theorem aC.sY (x:aC):(aC.r x).bJ=(aJ.r x.bJ):=Eq.trans rfl rfl
theorem aC.yt (x:aC):(aC.r x).bw=(aJ.r x.bw):=Eq.trans rfl rfl
theorem aC.zI (x:aC):(aC.r x).cW=x.cW:=Eq.trans rfl rfl
theorem aC.yp (x:aC):(aC.r x).bp=(aJ.r x.bp):=Eq.trans rfl rfl
theorem aC.wW (x:aC):(aC.r x).bB=x.bB:=Eq.trans rfl rfl
instance :Row aC:=⟨aC.row,aC.cD⟩
instance :Im aC bU:=⟨aC.r,aC.cJ⟩
theorem aC.rs:(∀(xs:List aC) (i:Nat),bU.at (xs.map aC.row) i=(xs.getD i aC.zero).r)∧(∀x:aC,(aC.r x).bA=x.bA)∧(∀x:aC,(aC.r x).cE=x.cE)∧(∀x:aC,(aC.r x).bD=x.bD)∧(∀x:aC,(aC.r x).cB=x.cB)∧(∀x:aC,(aC.r x).cq=x.cq)∧(∀x:aC,(aC.r x).cg=x.cg)∧(∀x:aC,(aC.r x).cS=x.cS)∧(∀x:aC,(aC.r x).dz=x.dz)∧(∀x:aC,(aC.r x).bJ=(aJ.r x.bJ))∧(∀x:aC,(aC.r x).bw=(aJ.r x.bw))∧(∀x:aC,(aC.r x).cW=x.cW)∧(∀x:aC,(aC.r x).bp=(aJ.r x.bp))∧(∀x:aC,(aC.r x).bB=x.bB):=⟨fun _ _=>aC.cQ,aC.sV,aC.yA,aC.oa,aC.zu,aC.yg,aC.xA,aC.za,aC.zL,aC.sY,aC.yt,aC.zI,aC.yp,aC.wW⟩
def aC.Sm (n:Nat)(x:aC):Prop:=aJ.Sm n x.bJ∧aJ.Sm n x.bw∧aJ.Sm n x.bp
def aC.size (x:aC):Nat:=aJ.size x.bJ+aJ.size x.bw+aJ.size x.bp
theorem aC.dh {n m:Nat}(hn:n≤m){x:aC}(h:aC.Sm n x):aC.Sm m x:=⟨aJ.dh hn h.1,aJ.dh hn h.2.1,aJ.dh hn h.2.2⟩
theorem aC.gx {n:Nat}{x:aC}(h:x.size≤n):aC.Sm n x:=by
 unfold aC.size at h
 have g0:aJ.size x.bJ≤n:=by omega
 have g1:aJ.size x.bw≤n:=by omega
 have g2:aJ.size x.bp≤n:=by omega
 exact ⟨aJ.gx g0,aJ.gx g1,aJ.gx g2⟩
structure aY where
 gN:Int
 jw:Int
def aY.enc (x:aY):List L:=[.int x.gN,.int x.jw]
def aY.dec (r:List L):aY:=⟨((aA 0 r).headD .hole).toInt,((aA 1 r).headD .hole).toInt⟩
instance :RT aY:=⟨aY.enc,aY.dec,2,fun _ _=>rfl,fun _ _=>rfl⟩
def aY.at (xs:List (List L))(i:Nat):aY:=aY.dec (List.getD xs i [])
def aY.row (x:aY):List L:=aY.enc x
def aY.zero:aY:=⟨0,0⟩
theorem aY.cD {a b:aY}(h:aY.row a=aY.row b):a=b:=congrArg aY.dec h
theorem aY.eH {xs:List aY}{i:Nat}(h:i<xs.length):aY.at (xs.map aY.row) i=xs[i]:=by unfold aY.at;rw [getD_map h];rfl
theorem aY.cQ {xs:List aY}{i:Nat}:aY.at (xs.map aY.row) i=xs.getD i aY.zero:=dV (r:=fun x=>x) (fun _=>rfl) rfl
theorem aY.eqc (a b:aY):(dZ a.gN b.gN&&(dZ a.jw b.jw&&true))=dZ a b:=by
 cases a;cases b
 rw [Bool.eq_iff_iff]
 simp only [dm,Bool.and_eq_true,aY.mk.injEq,and_true]
instance :Row aY:=⟨aY.row,aY.cD⟩
instance :Im aY aY:=⟨fun x=>x,fun h=>h⟩
theorem aY.rs:(∀(xs:List aY) (i:Nat),aY.at (xs.map aY.row) i=xs.getD i aY.zero):=fun _ _=>aY.cQ
def aY.Sm (n:Nat)(x:aY):Prop:=True
def aY.size (x:aY):Nat:=0
theorem aY.dh {n m:Nat}(_:n≤m){x:aY}(_:aY.Sm n x):aY.Sm m x:=trivial
theorem aY.gx {n:Nat}{x:aY}(_:x.size≤n):aY.Sm n x:=trivial
structure aO where
 aq:bU
 bW:List (List L)
structure aa where
 aq:aC
 bW:List aY
def aO.enc (x:aO):List L:=[.int x.aq.bA,.int x.aq.cE,.int x.aq.bD,.int x.aq.cB,.int x.aq.cq,.int x.aq.cg,.int x.aq.cS,.int x.aq.dz,.sl x.aq.bJ.aT,.int x.aq.bJ.cu,.sl x.aq.bw.aT,.int x.aq.bw.cu,.int x.aq.cW,.sl x.aq.bp.aT,.int x.aq.bp.cu,.bool x.aq.bB,.sl x.bW]
def aO.dec (r:List L):aO:=⟨⟨((aA 0 r).headD .hole).toInt,((aA 1 r).headD .hole).toInt,((aA 2 r).headD .hole).toInt,((aA 3 r).headD .hole).toInt,((aA 4 r).headD .hole).toInt,((aA 5 r).headD .hole).toInt,((aA 6 r).headD .hole).toInt,((aA 7 r).headD .hole).toInt,⟨((aA 8 r).headD .hole).aR,((aA 9 r).headD .hole).toInt⟩,⟨((aA 10 r).headD .hole).aR,((aA 11 r).headD .hole).toInt⟩,((aA 12 r).headD .hole).toInt,⟨((aA 13 r).headD .hole).aR,((aA 14 r).headD .hole).toInt⟩,((aA 15 r).headD .hole).toBool⟩,((aA 16 r).headD .hole).aR⟩
instance :RT aO:=⟨aO.enc,aO.dec,17,fun _ _=>rfl,fun _ _=>rfl⟩
def aO.at (xs:List (List L))(i:Nat):aO:=aO.dec (List.getD xs i [])
def aa.r (x:aa):aO:=⟨(aC.r x.aq),(x.bW.map aY.row)⟩
def aa.row (x:aa):List L:=aO.enc x.r
def aa.zero:aa:=⟨aC.zero,[]⟩
theorem aa.cJ {a b:aa}(h:a.r=b.r):a=b:=by
 cases a;cases b
 simp only [aa.r,aO.mk.injEq] at h
 obtain ⟨h0,h1⟩:=h
 simp only [aa.mk.injEq]
 exact ⟨(aC.cJ h0),(map_inj aY.cD h1)⟩
theorem aa.cD {a b:aa}(h:aa.row a=aa.row b):a=b:=aa.cJ (congrArg aO.dec h)
theorem aa.eH {xs:List aa}{i:Nat}(h:i<xs.length):aO.at (xs.map aa.row) i=(xs[i]).r:=by unfold aO.at;rw [getD_map h];rfl
theorem aa.cQ {xs:List aa}{i:Nat}:aO.at (xs.map aa.row) i=(xs.getD i aa.zero).r:=dV (r:=fun x=>aa.r x) (fun _=>rfl) rfl
theorem aa.zD (x:aa):(aa.r x).aq=(aC.r x.aq):=Eq.trans rfl rfl
theorem aa.zP (x:aa):(aa.r x).bW=(x.bW.map aY.row):=Eq.trans rfl rfl
instance :Row aa:=⟨aa.row,aa.cD⟩
instance :Im aa aO:=⟨aa.r,aa.cJ⟩
theorem aa.rs:(∀(xs:List aa) (i:Nat),aO.at (xs.map aa.row) i=(xs.getD i aa.zero).r)∧(∀x:aa,(aa.r x).aq=(aC.r x.aq))∧(∀x:aa,(aa.r x).bW=(x.bW.map aY.row)):=⟨fun _ _=>aa.cQ,aa.zD,aa.zP⟩
def aa.Sm (n:Nat)(x:aa):Prop:=aC.Sm n x.aq∧bK n (fun y:aY=>aY.Sm n y) x.bW
def aa.size (x:aa):Nat:=aC.size x.aq+dQ (fun y:aY=>aY.size y) x.bW
theorem aa.dh {n m:Nat}(hn:n≤m){x:aa}(h:aa.Sm n x):aa.Sm m x:=⟨aC.dh hn h.1,h.2.mono hn (fun x hx=>aY.dh hn hx)⟩
theorem aa.gx {n:Nat}{x:aa}(h:x.size≤n):aa.Sm n x:=by
 unfold aa.size at h
 have g0:aC.size x.aq≤n:=by omega
 have g1:dQ (fun y:aY=>aY.size y) x.bW≤n:=by omega
 exact ⟨aC.gx g0,ju g1 (fun x hx=>aY.gx hx)⟩
structure bF where
 aP:aO
 fA:aO
 fB:aO
structure aB where
 aP:aa
 fA:aa
 fB:aa
def bF.enc (x:bF):List L:=[.int x.aP.aq.bA,.int x.aP.aq.cE,.int x.aP.aq.bD,.int x.aP.aq.cB,.int x.aP.aq.cq,.int x.aP.aq.cg,.int x.aP.aq.cS,.int x.aP.aq.dz,.sl x.aP.aq.bJ.aT,.int x.aP.aq.bJ.cu,.sl x.aP.aq.bw.aT,.int x.aP.aq.bw.cu,.int x.aP.aq.cW,.sl x.aP.aq.bp.aT,.int x.aP.aq.bp.cu,.bool x.aP.aq.bB,.sl x.aP.bW,.int x.fA.aq.bA,.int x.fA.aq.cE,.int x.fA.aq.bD,.int x.fA.aq.cB,.int x.fA.aq.cq,.int x.fA.aq.cg,.int x.fA.aq.cS,.int x.fA.aq.dz,.sl x.fA.aq.bJ.aT,.int x.fA.aq.bJ.cu,.sl x.fA.aq.bw.aT,.int x.fA.aq.bw.cu,.int x.fA.aq.cW,.sl x.fA.aq.bp.aT,.int x.fA.aq.bp.cu,.bool x.fA.aq.bB,.sl x.fA.bW,.int x.fB.aq.bA,.int x.fB.aq.cE,.int x.fB.aq.bD,.int x.fB.aq.cB,.int x.fB.aq.cq,.int x.fB.aq.cg,.int x.fB.aq.cS,.int x.fB.aq.dz,.sl x.fB.aq.bJ.aT,.int x.fB.aq.bJ.cu,.sl x.fB.aq.bw.aT,.int x.fB.aq.bw.cu,.int x.fB.aq.cW,.sl x.fB.aq.bp.aT,.int x.fB.aq.bp.cu,.bool x.fB.aq.bB,.sl x.fB.bW]
def bF.dec (r:List L):bF:=⟨⟨⟨((aA 0 r).headD .hole).toInt,((aA 1 r).headD .hole).toInt,((aA 2 r).headD .hole).toInt,((aA 3 r).headD .hole).toInt,((aA 4 r).headD .hole).toInt,((aA 5 r).headD .hole).toInt,((aA 6 r).headD .hole).toInt,((aA 7 r).headD .hole).toInt,⟨((aA 8 r).headD .hole).aR,((aA 9 r).headD .hole).toInt⟩,⟨((aA 10 r).headD .hole).aR,((aA 11 r).headD .hole).toInt⟩,((aA 12 r).headD .hole).toInt,⟨((aA 13 r).headD .hole).aR,((aA 14 r).headD .hole).toInt⟩,((aA 15 r).headD .hole).toBool⟩,((aA 16 r).headD .hole).aR⟩,⟨⟨((aA 17 r).headD .hole).toInt,((aA 18 r).headD .hole).toInt,((aA 19 r).headD .hole).toInt,((aA 20 r).headD .hole).toInt,((aA 21 r).headD .hole).toInt,((aA 22 r).headD .hole).toInt,((aA 23 r).headD .hole).toInt,((aA 24 r).headD .hole).toInt,⟨((aA 25 r).headD .hole).aR,((aA 26 r).headD .hole).toInt⟩,⟨((aA 27 r).headD .hole).aR,((aA 28 r).headD .hole).toInt⟩,((aA 29 r).headD .hole).toInt,⟨((aA 30 r).headD .hole).aR,((aA 31 r).headD .hole).toInt⟩,((aA 32 r).headD .hole).toBool⟩,((aA 33 r).headD .hole).aR⟩,⟨⟨((aA 34 r).headD .hole).toInt,((aA 35 r).headD .hole).toInt,((aA 36 r).headD .hole).toInt,((aA 37 r).headD .hole).toInt,((aA 38 r).headD .hole).toInt,((aA 39 r).headD .hole).toInt,((aA 40 r).headD .hole).toInt,((aA 41 r).headD .hole).toInt,⟨((aA 42 r).headD .hole).aR,((aA 43 r).headD .hole).toInt⟩,⟨((aA 44 r).headD .hole).aR,((aA 45 r).headD .hole).toInt⟩,((aA 46 r).headD .hole).toInt,⟨((aA 47 r).headD .hole).aR,((aA 48 r).headD .hole).toInt⟩,((aA 49 r).headD .hole).toBool⟩,((aA 50 r).headD .hole).aR⟩⟩
instance :RT bF:=⟨bF.enc,bF.dec,51,fun _ _=>rfl,fun _ _=>rfl⟩
def bF.at (xs:List (List L))(i:Nat):bF:=bF.dec (List.getD xs i [])
def aB.r (x:aB):bF:=⟨(aa.r x.aP),(aa.r x.fA),(aa.r x.fB)⟩
def aB.row (x:aB):List L:=bF.enc x.r
def aB.zero:aB:=⟨aa.zero,aa.zero,aa.zero⟩
theorem aB.cJ {a b:aB}(h:a.r=b.r):a=b:=by
 cases a;cases b
 simp only [aB.r,bF.mk.injEq] at h
 obtain ⟨h0,h1,h2⟩:=h
 simp only [aB.mk.injEq]
 exact ⟨(aa.cJ h0),(aa.cJ h1),(aa.cJ h2)⟩
theorem aB.cD {a b:aB}(h:aB.row a=aB.row b):a=b:=aB.cJ (congrArg bF.dec h)
theorem aB.eH {xs:List aB}{i:Nat}(h:i<xs.length):bF.at (xs.map aB.row) i=(xs[i]).r:=by unfold bF.at;rw [getD_map h];rfl
theorem aB.cQ {xs:List aB}{i:Nat}:bF.at (xs.map aB.row) i=(xs.getD i aB.zero).r:=dV (r:=fun x=>aB.r x) (fun _=>rfl) rfl
theorem aB.oH (x:aB):(aB.r x).aP=(aa.r x.aP):=Eq.trans rfl rfl
theorem aB.BK (x:aB):(aB.r x).fA=(aa.r x.fA):=Eq.trans rfl rfl
theorem aB.B0 (x:aB):(aB.r x).fB=(aa.r x.fB):=Eq.trans rfl rfl
instance :Row aB:=⟨aB.row,aB.cD⟩
instance :Im aB bF:=⟨aB.r,aB.cJ⟩
theorem aB.rs:(∀(xs:List aB) (i:Nat),bF.at (xs.map aB.row) i=(xs.getD i aB.zero).r)∧(∀x:aB,(aB.r x).aP=(aa.r x.aP))∧(∀x:aB,(aB.r x).fA=(aa.r x.fA))∧(∀x:aB,(aB.r x).fB=(aa.r x.fB)):=⟨fun _ _=>aB.cQ,aB.oH,aB.BK,aB.B0⟩
def aB.Sm (n:Nat)(x:aB):Prop:=aa.Sm n x.aP∧aa.Sm n x.fA∧aa.Sm n x.fB
def aB.size (x:aB):Nat:=aa.size x.aP+aa.size x.fA+aa.size x.fB
theorem aB.dh {n m:Nat}(hn:n≤m){x:aB}(h:aB.Sm n x):aB.Sm m x:=⟨aa.dh hn h.1,aa.dh hn h.2.1,aa.dh hn h.2.2⟩
theorem aB.gx {n:Nat}{x:aB}(h:x.size≤n):aB.Sm n x:=by
 unfold aB.size at h
 have g0:aa.size x.aP≤n:=by omega
 have g1:aa.size x.fA≤n:=by omega
 have g2:aa.size x.fB≤n:=by omega
 exact ⟨aa.gx g0,aa.gx g1,aa.gx g2⟩
structure bn where
 aF:List (List L)
 bg:List (List L)
structure au where
 aF:List (List aa)
 bg:List aB
def bn.enc (x:bn):List L:=[.sl x.aF,.sl x.bg]
def bn.dec (r:List L):bn:=⟨((aA 0 r).headD .hole).aR,((aA 1 r).headD .hole).aR⟩
instance :RT bn:=⟨bn.enc,bn.dec,2,fun _ _=>rfl,fun _ _=>rfl⟩
def bn.at (xs:List (List L))(i:Nat):bn:=bn.dec (List.getD xs i [])
def au.r (x:au):bn:=⟨(x.aF.map (dK aa.row)),(x.bg.map aB.row)⟩
def au.row (x:au):List L:=bn.enc x.r
def au.zero:au:=⟨[],[]⟩
theorem au.cJ {a b:au}(h:a.r=b.r):a=b:=by
 cases a;cases b
 simp only [au.r,bn.mk.injEq] at h
 obtain ⟨h0,h1⟩:=h
 simp only [au.mk.injEq]
 exact ⟨(map_inj (uD aa.cD) h0),(map_inj aB.cD h1)⟩
theorem au.cD {a b:au}(h:au.row a=au.row b):a=b:=au.cJ (congrArg bn.dec h)
theorem au.cQ {xs:List au}{i:Nat}:bn.at (xs.map au.row) i=(xs.getD i au.zero).r:=dV (r:=fun x=>au.r x) (fun _=>rfl) rfl
theorem au.wH (x:au):(au.r x).aF=(x.aF.map (dK aa.row)):=Eq.trans rfl rfl
theorem au.yQ (x:au):(au.r x).bg=(x.bg.map aB.row):=Eq.trans rfl rfl
instance :Row au:=⟨au.row,au.cD⟩
instance :Im au bn:=⟨au.r,au.cJ⟩
theorem au.rs:(∀(xs:List au) (i:Nat),bn.at (xs.map au.row) i=(xs.getD i au.zero).r)∧(∀x:au,(au.r x).aF=(x.aF.map (dK aa.row)))∧(∀x:au,(au.r x).bg=(x.bg.map aB.row)):=⟨fun _ _=>au.cQ,au.wH,au.yQ⟩
def au.Sm (n:Nat)(x:au):Prop:=bK n (fun y:List aa=>bK n (fun y:aa=>aa.Sm n y) y) x.aF∧bK n (fun y:aB=>aB.Sm n y) x.bg
def au.size (x:au):Nat:=dQ (fun y:List aa=>dQ (fun y:aa=>aa.size y) y) x.aF+dQ (fun y:aB=>aB.size y) x.bg
theorem au.dh {n m:Nat}(hn:n≤m){x:au}(h:au.Sm n x):au.Sm m x:=⟨h.1.mono hn (fun x hx=>hx.mono hn (fun x hx=>aa.dh hn hx)),h.2.mono hn (fun x hx=>aB.dh hn hx)⟩
theorem au.gx {n:Nat}{x:au}(h:x.size≤n):au.Sm n x:=by
 unfold au.size at h
 have g0:dQ (fun y:List aa=>dQ (fun y:aa=>aa.size y) y) x.aF≤n:=by omega
 have g1:dQ (fun y:aB=>aB.size y) x.bg≤n:=by omega
 exact ⟨ju g0 (fun x hx=>ju hx (fun x hx=>aa.gx hx)),ju g1 (fun x hx=>aB.gx hx)⟩
structure aS where
 aW:ByteArray
 bD:Int
 bS:Int
 bC:List (List L)
structure ah where
 aW:ByteArray
 bD:Int
 bS:Int
 bC:List ByteArray
def aS.enc (x:aS):List L:=[.str x.aW,.int x.bD,.int x.bS,.sl x.bC]
def aS.dec (r:List L):aS:=⟨((aA 0 r).headD .hole).toStr,((aA 1 r).headD .hole).toInt,((aA 2 r).headD .hole).toInt,((aA 3 r).headD .hole).aR⟩
instance :RT aS:=⟨aS.enc,aS.dec,4,fun _ _=>rfl,fun _ _=>rfl⟩
def aS.at (xs:List (List L))(i:Nat):aS:=aS.dec (List.getD xs i [])
def ah.r (x:ah):aS:=⟨x.aW,x.bD,x.bS,(x.bC.map cA)⟩
def ah.row (x:ah):List L:=aS.enc x.r
def ah.zero:ah:=⟨⟨#[]⟩,0,0,[]⟩
theorem ah.cJ {a b:ah}(h:a.r=b.r):a=b:=by
 cases a;cases b
 simp only [ah.r,aS.mk.injEq] at h
 obtain ⟨h0,h1,h2,h3⟩:=h
 simp only [ah.mk.injEq]
 exact ⟨h0,h1,h2,(map_inj qi h3)⟩
theorem ah.cD {a b:ah}(h:ah.row a=ah.row b):a=b:=ah.cJ (congrArg aS.dec h)
theorem ah.eH {xs:List ah}{i:Nat}(h:i<xs.length):aS.at (xs.map ah.row) i=(xs[i]).r:=by unfold aS.at;rw [getD_map h];rfl
theorem ah.cQ {xs:List ah}{i:Nat}:aS.at (xs.map ah.row) i=(xs.getD i ah.zero).r:=dV (r:=fun x=>ah.r x) (fun _=>rfl) rfl
theorem ah.qW (x:ah):(ah.r x).aW=x.aW:=Eq.trans rfl rfl
theorem ah.oa (x:ah):(ah.r x).bD=x.bD:=Eq.trans rfl rfl
theorem ah.yG (x:ah):(ah.r x).bS=x.bS:=Eq.trans rfl rfl
theorem ah.nq (x:ah):(ah.r x).bC=(x.bC.map cA):=Eq.trans rfl rfl
instance :Row ah:=⟨ah.row,ah.cD⟩
instance :Im ah aS:=⟨ah.r,ah.cJ⟩
theorem ah.rs:(∀(xs:List ah) (i:Nat),aS.at (xs.map ah.row) i=(xs.getD i ah.zero).r)∧(∀x:ah,(ah.r x).aW=x.aW)∧(∀x:ah,(ah.r x).bD=x.bD)∧(∀x:ah,(ah.r x).bS=x.bS)∧(∀x:ah,(ah.r x).bC=(x.bC.map cA)):=⟨fun _ _=>ah.cQ,ah.qW,ah.oa,ah.yG,ah.nq⟩
def ah.Sm (n:Nat)(x:ah):Prop:=(x.aW).size≤n∧bK n (fun y:ByteArray=>(y).size≤n) x.bC
def ah.size (x:ah):Nat:=(x.aW).size+dQ (fun y:ByteArray=>(y).size) x.bC
theorem ah.dh {n m:Nat}(hn:n≤m){x:ah}(h:ah.Sm n x):ah.Sm m x:=⟨Nat.le_trans h.1 hn,h.2.mono hn (fun x hx=>Nat.le_trans hx hn)⟩
theorem ah.gx {n:Nat}{x:ah}(h:x.size≤n):ah.Sm n x:=by
 unfold ah.size at h
 have g0:(x.aW).size≤n:=by omega
 have g1:dQ (fun y:ByteArray=>(y).size) x.bC≤n:=by omega
 exact ⟨g0,ju g1 (fun x hx=>hx)⟩
structure bN where
 ep:Int
 bC:List (List L)
structure aK where
 ep:Int
 bC:List Int
def bN.enc (x:bN):List L:=[.int x.ep,.sl x.bC]
def bN.dec (r:List L):bN:=⟨((aA 0 r).headD .hole).toInt,((aA 1 r).headD .hole).aR⟩
instance :RT bN:=⟨bN.enc,bN.dec,2,fun _ _=>rfl,fun _ _=>rfl⟩
def bN.at (xs:List (List L))(i:Nat):bN:=bN.dec (List.getD xs i [])
def aK.r (x:aK):bN:=⟨x.ep,(x.bC.map aZ)⟩
def aK.row (x:aK):List L:=bN.enc x.r
def aK.zero:aK:=⟨0,[]⟩
theorem aK.cJ {a b:aK}(h:a.r=b.r):a=b:=by
 cases a;cases b
 simp only [aK.r,bN.mk.injEq] at h
 obtain ⟨h0,h1⟩:=h
 simp only [aK.mk.injEq]
 exact ⟨h0,(map_inj kU h1)⟩
theorem aK.cD {a b:aK}(h:aK.row a=aK.row b):a=b:=aK.cJ (congrArg bN.dec h)
theorem aK.cQ {xs:List aK}{i:Nat}:bN.at (xs.map aK.row) i=(xs.getD i aK.zero).r:=dV (r:=fun x=>aK.r x) (fun _=>rfl) rfl
theorem aK.yB (x:aK):(aK.r x).ep=x.ep:=Eq.trans rfl rfl
theorem aK.nq (x:aK):(aK.r x).bC=(x.bC.map aZ):=Eq.trans rfl rfl
instance :Row aK:=⟨aK.row,aK.cD⟩
instance :Im aK bN:=⟨aK.r,aK.cJ⟩
theorem aK.rs:(∀(xs:List aK) (i:Nat),bN.at (xs.map aK.row) i=(xs.getD i aK.zero).r)∧(∀x:aK,(aK.r x).ep=x.ep)∧(∀x:aK,(aK.r x).bC=(x.bC.map aZ)):=⟨fun _ _=>aK.cQ,aK.yB,aK.nq⟩
def aK.Sm (n:Nat)(x:aK):Prop:=bK n (fun y:Int=>True) x.bC
def aK.size (x:aK):Nat:=dQ (fun y:Int=>0) x.bC
structure dL where
 ep:Int
 aP:aS
 cz:aS
 eB:bN
 cR:bN
structure bP where
 ep:Int
 aP:ah
 cz:ah
 eB:aK
 cR:aK
def dL.enc (x:dL):List L:=[.int x.ep,.str x.aP.aW,.int x.aP.bD,.int x.aP.bS,.sl x.aP.bC,.str x.cz.aW,.int x.cz.bD,.int x.cz.bS,.sl x.cz.bC,.int x.eB.ep,.sl x.eB.bC,.int x.cR.ep,.sl x.cR.bC]
def dL.dec (r:List L):dL:=⟨((aA 0 r).headD .hole).toInt,⟨((aA 1 r).headD .hole).toStr,((aA 2 r).headD .hole).toInt,((aA 3 r).headD .hole).toInt,((aA 4 r).headD .hole).aR⟩,⟨((aA 5 r).headD .hole).toStr,((aA 6 r).headD .hole).toInt,((aA 7 r).headD .hole).toInt,((aA 8 r).headD .hole).aR⟩,⟨((aA 9 r).headD .hole).toInt,((aA 10 r).headD .hole).aR⟩,⟨((aA 11 r).headD .hole).toInt,((aA 12 r).headD .hole).aR⟩⟩
instance :RT dL:=⟨dL.enc,dL.dec,13,fun _ _=>rfl,fun _ _=>rfl⟩
def dL.at (xs:List (List L))(i:Nat):dL:=dL.dec (List.getD xs i [])
def bP.r (x:bP):dL:=⟨x.ep,(ah.r x.aP),(ah.r x.cz),(aK.r x.eB),(aK.r x.cR)⟩
def bP.row (x:bP):List L:=dL.enc x.r
def bP.zero:bP:=⟨0,ah.zero,ah.zero,aK.zero,aK.zero⟩
theorem bP.cJ {a b:bP}(h:a.r=b.r):a=b:=by
 cases a;cases b
 simp only [bP.r,dL.mk.injEq] at h
 obtain ⟨h0,h1,h2,h3,h4⟩:=h
 simp only [bP.mk.injEq]
 exact ⟨h0,(ah.cJ h1),(ah.cJ h2),(aK.cJ h3),(aK.cJ h4)⟩
theorem bP.cD {a b:bP}(h:bP.row a=bP.row b):a=b:=bP.cJ (congrArg dL.dec h)
theorem bP.cQ {xs:List bP}{i:Nat}:dL.at (xs.map bP.row) i=(xs.getD i bP.zero).r:=dV (r:=fun x=>bP.r x) (fun _=>rfl) rfl
theorem bP.yB (x:bP):(bP.r x).ep=x.ep:=Eq.trans rfl rfl
theorem bP.oH (x:bP):(bP.r x).aP=(ah.r x.aP):=Eq.trans rfl rfl
theorem bP.yc (x:bP):(bP.r x).cz=(ah.r x.cz):=Eq.trans rfl rfl
theorem bP.zB (x:bP):(bP.r x).eB=(aK.r x.eB):=Eq.trans rfl rfl
theorem bP.xD (x:bP):(bP.r x).cR=(aK.r x.cR):=Eq.trans rfl rfl
instance :Row bP:=⟨bP.row,bP.cD⟩
instance :Im bP dL:=⟨bP.r,bP.cJ⟩
theorem bP.rs:(∀(xs:List bP) (i:Nat),dL.at (xs.map bP.row) i=(xs.getD i bP.zero).r)∧(∀x:bP,(bP.r x).ep=x.ep)∧(∀x:bP,(bP.r x).aP=(ah.r x.aP))∧(∀x:bP,(bP.r x).cz=(ah.r x.cz))∧(∀x:bP,(bP.r x).eB=(aK.r x.eB))∧(∀x:bP,(bP.r x).cR=(aK.r x.cR)):=⟨fun _ _=>bP.cQ,bP.yB,bP.oH,bP.yc,bP.zB,bP.xD⟩
def bP.Sm (n:Nat)(x:bP):Prop:=ah.Sm n x.aP∧ah.Sm n x.cz∧aK.Sm n x.eB∧aK.Sm n x.cR
def bP.size (x:bP):Nat:=ah.size x.aP+ah.size x.cz+aK.size x.eB+aK.size x.cR
structure aX where
 aQ:List (List L)
 cj:Bool
 aN:aS
 eo:bN
 eT:dL
structure ay where
 aQ:List aa
 cj:Bool
 aN:ah
 eo:aK
 eT:bP
def aX.enc (x:aX):List L:=[.sl x.aQ,.bool x.cj,.str x.aN.aW,.int x.aN.bD,.int x.aN.bS,.sl x.aN.bC,.int x.eo.ep,.sl x.eo.bC,.int x.eT.ep,.str x.eT.aP.aW,.int x.eT.aP.bD,.int x.eT.aP.bS,.sl x.eT.aP.bC,.str x.eT.cz.aW,.int x.eT.cz.bD,.int x.eT.cz.bS,.sl x.eT.cz.bC,.int x.eT.eB.ep,.sl x.eT.eB.bC,.int x.eT.cR.ep,.sl x.eT.cR.bC]
def aX.dec (r:List L):aX:=⟨((aA 0 r).headD .hole).aR,((aA 1 r).headD .hole).toBool,⟨((aA 2 r).headD .hole).toStr,((aA 3 r).headD .hole).toInt,((aA 4 r).headD .hole).toInt,((aA 5 r).headD .hole).aR⟩,⟨((aA 6 r).headD .hole).toInt,((aA 7 r).headD .hole).aR⟩,⟨((aA 8 r).headD .hole).toInt,⟨((aA 9 r).headD .hole).toStr,((aA 10 r).headD .hole).toInt,((aA 11 r).headD .hole).toInt,((aA 12 r).headD .hole).aR⟩,⟨((aA 13 r).headD .hole).toStr,((aA 14 r).headD .hole).toInt,((aA 15 r).headD .hole).toInt,((aA 16 r).headD .hole).aR⟩,⟨((aA 17 r).headD .hole).toInt,((aA 18 r).headD .hole).aR⟩,⟨((aA 19 r).headD .hole).toInt,((aA 20 r).headD .hole).aR⟩⟩⟩
instance :RT aX:=⟨aX.enc,aX.dec,21,fun _ _=>rfl,fun _ _=>rfl⟩
def aX.at (xs:List (List L))(i:Nat):aX:=aX.dec (List.getD xs i [])
def ay.r (x:ay):aX:=⟨(x.aQ.map aa.row),x.cj,(ah.r x.aN),(aK.r x.eo),(bP.r x.eT)⟩
def ay.row (x:ay):List L:=aX.enc x.r
def ay.zero:ay:=⟨[],false,ah.zero,aK.zero,bP.zero⟩
theorem ay.cJ {a b:ay}(h:a.r=b.r):a=b:=by
 cases a;cases b
 simp only [ay.r,aX.mk.injEq] at h
 obtain ⟨h0,h1,h2,h3,h4⟩:=h
 simp only [ay.mk.injEq]
 exact ⟨(map_inj aa.cD h0),h1,(ah.cJ h2),(aK.cJ h3),(bP.cJ h4)⟩
theorem ay.cD {a b:ay}(h:ay.row a=ay.row b):a=b:=ay.cJ (congrArg aX.dec h)
theorem ay.cQ {xs:List ay}{i:Nat}:aX.at (xs.map ay.row) i=(xs.getD i ay.zero).r:=dV (r:=fun x=>ay.r x) (fun _=>rfl) rfl
theorem ay.qD (x:ay):(ay.r x).aQ=(x.aQ.map aa.row):=Eq.trans rfl rfl
theorem ay.qJ (x:ay):(ay.r x).cj=x.cj:=Eq.trans rfl rfl
theorem ay.ia (x:ay):(ay.r x).aN=(ah.r x.aN):=Eq.trans rfl rfl
theorem ay.xT (x:ay):(ay.r x).eo=(aK.r x.eo):=Eq.trans rfl rfl
theorem ay.Ap (x:ay):(ay.r x).eT=(bP.r x.eT):=Eq.trans rfl rfl
instance :Row ay:=⟨ay.row,ay.cD⟩
instance :Im ay aX:=⟨ay.r,ay.cJ⟩
theorem ay.rs:(∀(xs:List ay) (i:Nat),aX.at (xs.map ay.row) i=(xs.getD i ay.zero).r)∧(∀x:ay,(ay.r x).aQ=(x.aQ.map aa.row))∧(∀x:ay,(ay.r x).cj=x.cj)∧(∀x:ay,(ay.r x).aN=(ah.r x.aN))∧(∀x:ay,(ay.r x).eo=(aK.r x.eo))∧(∀x:ay,(ay.r x).eT=(bP.r x.eT)):=⟨fun _ _=>ay.cQ,ay.qD,ay.qJ,ay.ia,ay.xT,ay.Ap⟩
def ay.Sm (n:Nat)(x:ay):Prop:=bK n (fun y:aa=>aa.Sm n y) x.aQ∧ah.Sm n x.aN∧aK.Sm n x.eo∧bP.Sm n x.eT
def ay.size (x:ay):Nat:=dQ (fun y:aa=>aa.size y) x.aQ+ah.size x.aN+aK.size x.eo+bP.size x.eT
structure fE where
 bA:Int
 aW:ByteArray
 dU:aX
structure cm where
 bA:Int
 aW:ByteArray
 dU:ay
def fE.enc (x:fE):List L:=[.int x.bA,.str x.aW,.sl x.dU.aQ,.bool x.dU.cj,.str x.dU.aN.aW,.int x.dU.aN.bD,.int x.dU.aN.bS,.sl x.dU.aN.bC,.int x.dU.eo.ep,.sl x.dU.eo.bC,.int x.dU.eT.ep,.str x.dU.eT.aP.aW,.int x.dU.eT.aP.bD,.int x.dU.eT.aP.bS,.sl x.dU.eT.aP.bC,.str x.dU.eT.cz.aW,.int x.dU.eT.cz.bD,.int x.dU.eT.cz.bS,.sl x.dU.eT.cz.bC,.int x.dU.eT.eB.ep,.sl x.dU.eT.eB.bC,.int x.dU.eT.cR.ep,.sl x.dU.eT.cR.bC]
def fE.dec (r:List L):fE:=⟨((aA 0 r).headD .hole).toInt,((aA 1 r).headD .hole).toStr,⟨((aA 2 r).headD .hole).aR,((aA 3 r).headD .hole).toBool,⟨((aA 4 r).headD .hole).toStr,((aA 5 r).headD .hole).toInt,((aA 6 r).headD .hole).toInt,((aA 7 r).headD .hole).aR⟩,⟨((aA 8 r).headD .hole).toInt,((aA 9 r).headD .hole).aR⟩,⟨((aA 10 r).headD .hole).toInt,⟨((aA 11 r).headD .hole).toStr,((aA 12 r).headD .hole).toInt,((aA 13 r).headD .hole).toInt,((aA 14 r).headD .hole).aR⟩,⟨((aA 15 r).headD .hole).toStr,((aA 16 r).headD .hole).toInt,((aA 17 r).headD .hole).toInt,((aA 18 r).headD .hole).aR⟩,⟨((aA 19 r).headD .hole).toInt,((aA 20 r).headD .hole).aR⟩,⟨((aA 21 r).headD .hole).toInt,((aA 22 r).headD .hole).aR⟩⟩⟩⟩
instance :RT fE:=⟨fE.enc,fE.dec,23,fun _ _=>rfl,fun _ _=>rfl⟩
def fE.at (xs:List (List L))(i:Nat):fE:=fE.dec (List.getD xs i [])
def cm.r (x:cm):fE:=⟨x.bA,x.aW,(ay.r x.dU)⟩
def cm.row (x:cm):List L:=fE.enc x.r
def cm.zero:cm:=⟨0,⟨#[]⟩,ay.zero⟩
theorem cm.cJ {a b:cm}(h:a.r=b.r):a=b:=by
 cases a;cases b
 simp only [cm.r,fE.mk.injEq] at h
 obtain ⟨h0,h1,h2⟩:=h
 simp only [cm.mk.injEq]
 exact ⟨h0,h1,(ay.cJ h2)⟩
theorem cm.cD {a b:cm}(h:cm.row a=cm.row b):a=b:=cm.cJ (congrArg fE.dec h)
theorem cm.cQ {xs:List cm}{i:Nat}:fE.at (xs.map cm.row) i=(xs.getD i cm.zero).r:=dV (r:=fun x=>cm.r x) (fun _=>rfl) rfl
theorem cm.sV (x:cm):(cm.r x).bA=x.bA:=Eq.trans rfl rfl
theorem cm.qW (x:cm):(cm.r x).aW=x.aW:=Eq.trans rfl rfl
theorem cm.wR (x:cm):(cm.r x).dU=(ay.r x.dU):=Eq.trans rfl rfl
instance :Row cm:=⟨cm.row,cm.cD⟩
instance :Im cm fE:=⟨cm.r,cm.cJ⟩
theorem cm.rs:(∀(xs:List cm) (i:Nat),fE.at (xs.map cm.row) i=(xs.getD i cm.zero).r)∧(∀x:cm,(cm.r x).bA=x.bA)∧(∀x:cm,(cm.r x).aW=x.aW)∧(∀x:cm,(cm.r x).dU=(ay.r x.dU)):=⟨fun _ _=>cm.cQ,cm.sV,cm.qW,cm.wR⟩
structure gj where
 aT:List (List L)
structure dw where
 aT:List cm
def gj.enc (x:gj):List L:=[.sl x.aT]
def gj.dec (r:List L):gj:=⟨((aA 0 r).headD .hole).aR⟩
instance :RT gj:=⟨gj.enc,gj.dec,1,fun _ _=>rfl,fun _ _=>rfl⟩
def gj.at (xs:List (List L))(i:Nat):gj:=gj.dec (List.getD xs i [])
def dw.r (x:dw):gj:=⟨(x.aT.map cm.row)⟩
def dw.row (x:dw):List L:=gj.enc x.r
def dw.zero:dw:=⟨[]⟩
theorem dw.cJ {a b:dw}(h:a.r=b.r):a=b:=by
 cases a;cases b
 simp only [dw.r,gj.mk.injEq] at h
 have h0:=h
 simp only [dw.mk.injEq]
 exact (map_inj cm.cD h0)
theorem dw.cD {a b:dw}(h:dw.row a=dw.row b):a=b:=dw.cJ (congrArg gj.dec h)
theorem dw.cQ {xs:List dw}{i:Nat}:gj.at (xs.map dw.row) i=(xs.getD i dw.zero).r:=dV (r:=fun x=>dw.r x) (fun _=>rfl) rfl
theorem dw.tB (x:dw):(dw.r x).aT=(x.aT.map cm.row):=Eq.trans rfl rfl
instance :Row dw:=⟨dw.row,dw.cD⟩
instance :Im dw gj:=⟨dw.r,dw.cJ⟩
theorem dw.rs:(∀(xs:List dw) (i:Nat),gj.at (xs.map dw.row) i=(xs.getD i dw.zero).r)∧(∀x:dw,(dw.r x).aT=(x.aT.map cm.row)):=⟨fun _ _=>dw.cQ,dw.tB⟩
structure cV where
 bV:bn
 eZ:Int
 aN:aS
 bE:List (List L)
 eY:Int
structure bz where
 bV:au
 eZ:Int
 aN:ah
 bE:List Int
 eY:Int
def cV.enc (x:cV):List L:=[.sl x.bV.aF,.sl x.bV.bg,.int x.eZ,.str x.aN.aW,.int x.aN.bD,.int x.aN.bS,.sl x.aN.bC,.sl x.bE,.int x.eY]
def cV.dec (r:List L):cV:=⟨⟨((aA 0 r).headD .hole).aR,((aA 1 r).headD .hole).aR⟩,((aA 2 r).headD .hole).toInt,⟨((aA 3 r).headD .hole).toStr,((aA 4 r).headD .hole).toInt,((aA 5 r).headD .hole).toInt,((aA 6 r).headD .hole).aR⟩,((aA 7 r).headD .hole).aR,((aA 8 r).headD .hole).toInt⟩
instance :RT cV:=⟨cV.enc,cV.dec,9,fun _ _=>rfl,fun _ _=>rfl⟩
def cV.at (xs:List (List L))(i:Nat):cV:=cV.dec (List.getD xs i [])
def bz.r (x:bz):cV:=⟨(au.r x.bV),x.eZ,(ah.r x.aN),(x.bE.map aZ),x.eY⟩
def bz.row (x:bz):List L:=cV.enc x.r
def bz.zero:bz:=⟨au.zero,0,ah.zero,[],0⟩
theorem bz.cJ {a b:bz}(h:a.r=b.r):a=b:=by
 cases a;cases b
 simp only [bz.r,cV.mk.injEq] at h
 obtain ⟨h0,h1,h2,h3,h4⟩:=h
 simp only [bz.mk.injEq]
 exact ⟨(au.cJ h0),h1,(ah.cJ h2),(map_inj kU h3),h4⟩
theorem bz.cD {a b:bz}(h:bz.row a=bz.row b):a=b:=bz.cJ (congrArg cV.dec h)
theorem bz.cQ {xs:List bz}{i:Nat}:cV.at (xs.map bz.row) i=(xs.getD i bz.zero).r:=dV (r:=fun x=>bz.r x) (fun _=>rfl) rfl
theorem bz.qg (x:bz):(bz.r x).bV=(au.r x.bV):=Eq.trans rfl rfl
theorem bz.sJ (x:bz):(bz.r x).eZ=x.eZ:=Eq.trans rfl rfl
theorem bz.ia (x:bz):(bz.r x).aN=(ah.r x.aN):=Eq.trans rfl rfl
theorem bz.qS (x:bz):(bz.r x).bE=(x.bE.map aZ):=Eq.trans rfl rfl
theorem bz.yW (x:bz):(bz.r x).eY=x.eY:=Eq.trans rfl rfl
instance :Row bz:=⟨bz.row,bz.cD⟩
instance :Im bz cV:=⟨bz.r,bz.cJ⟩
theorem bz.rs:(∀(xs:List bz) (i:Nat),cV.at (xs.map bz.row) i=(xs.getD i bz.zero).r)∧(∀x:bz,(bz.r x).bV=(au.r x.bV))∧(∀x:bz,(bz.r x).eZ=x.eZ)∧(∀x:bz,(bz.r x).aN=(ah.r x.aN))∧(∀x:bz,(bz.r x).bE=(x.bE.map aZ))∧(∀x:bz,(bz.r x).eY=x.eY):=⟨fun _ _=>bz.cQ,bz.qg,bz.sJ,bz.ia,bz.qS,bz.yW⟩
def bz.size (x:bz):Nat:=au.size x.bV+ah.size x.aN+dQ (fun y:Int=>0) x.bE
structure iR where
 gY:cV
 mS:gj
structure dX where
 gY:bz
 mS:dw
def iR.enc (x:iR):List L:=[.sl x.gY.bV.aF,.sl x.gY.bV.bg,.int x.gY.eZ,.str x.gY.aN.aW,.int x.gY.aN.bD,.int x.gY.aN.bS,.sl x.gY.aN.bC,.sl x.gY.bE,.int x.gY.eY,.sl x.mS.aT]
def iR.dec (r:List L):iR:=⟨⟨⟨((aA 0 r).headD .hole).aR,((aA 1 r).headD .hole).aR⟩,((aA 2 r).headD .hole).toInt,⟨((aA 3 r).headD .hole).toStr,((aA 4 r).headD .hole).toInt,((aA 5 r).headD .hole).toInt,((aA 6 r).headD .hole).aR⟩,((aA 7 r).headD .hole).aR,((aA 8 r).headD .hole).toInt⟩,⟨((aA 9 r).headD .hole).aR⟩⟩
instance :RT iR:=⟨iR.enc,iR.dec,10,fun _ _=>rfl,fun _ _=>rfl⟩
def iR.at (xs:List (List L))(i:Nat):iR:=iR.dec (List.getD xs i [])
def dX.r (x:dX):iR:=⟨(bz.r x.gY),(dw.r x.mS)⟩
def dX.row (x:dX):List L:=iR.enc x.r
def dX.zero:dX:=⟨bz.zero,dw.zero⟩
theorem dX.cJ {a b:dX}(h:a.r=b.r):a=b:=by
 cases a;cases b
 simp only [dX.r,iR.mk.injEq] at h
 obtain ⟨h0,h1⟩:=h
 simp only [dX.mk.injEq]
 exact ⟨(bz.cJ h0),(dw.cJ h1)⟩
theorem dX.cD {a b:dX}(h:dX.row a=dX.row b):a=b:=dX.cJ (congrArg iR.dec h)
theorem dX.cQ {xs:List dX}{i:Nat}:iR.at (xs.map dX.row) i=(xs.getD i dX.zero).r:=dV (r:=fun x=>dX.r x) (fun _=>rfl) rfl
theorem dX.yP (x:dX):(dX.r x).gY=(bz.r x.gY):=Eq.trans rfl rfl
theorem dX.yJ (x:dX):(dX.r x).mS=(dw.r x.mS):=Eq.trans rfl rfl
instance :Row dX:=⟨dX.row,dX.cD⟩
instance :Im dX iR:=⟨dX.r,dX.cJ⟩
theorem dX.rs:(∀(xs:List dX) (i:Nat),iR.at (xs.map dX.row) i=(xs.getD i dX.zero).r)∧(∀x:dX,(dX.r x).gY=(bz.r x.gY))∧(∀x:dX,(dX.r x).mS=(dw.r x.mS)):=⟨fun _ _=>dX.cQ,dX.yP,dX.yJ⟩
structure iI where
 qp:Int
 bJ:bu
 bD:Int
structure dM where
 qp:Int
 bJ:aJ
 bD:Int
def iI.enc (x:iI):List L:=[.int x.qp,.sl x.bJ.aT,.int x.bJ.cu,.int x.bD]
def iI.dec (r:List L):iI:=⟨((aA 0 r).headD .hole).toInt,⟨((aA 1 r).headD .hole).aR,((aA 2 r).headD .hole).toInt⟩,((aA 3 r).headD .hole).toInt⟩
instance :RT iI:=⟨iI.enc,iI.dec,4,fun _ _=>rfl,fun _ _=>rfl⟩
def iI.at (xs:List (List L))(i:Nat):iI:=iI.dec (List.getD xs i [])
def dM.r (x:dM):iI:=⟨x.qp,(aJ.r x.bJ),x.bD⟩
def dM.row (x:dM):List L:=iI.enc x.r
def dM.zero:dM:=⟨0,aJ.zero,0⟩
theorem dM.cJ {a b:dM}(h:a.r=b.r):a=b:=by
 cases a;cases b
 simp only [dM.r,iI.mk.injEq] at h
 obtain ⟨h0,h1,h2⟩:=h
 simp only [dM.mk.injEq]
 exact ⟨h0,(aJ.cJ h1),h2⟩
theorem dM.cD {a b:dM}(h:dM.row a=dM.row b):a=b:=dM.cJ (congrArg iI.dec h)
theorem dM.cQ {xs:List dM}{i:Nat}:iI.at (xs.map dM.row) i=(xs.getD i dM.zero).r:=dV (r:=fun x=>dM.r x) (fun _=>rfl) rfl
theorem dM.zp (x:dM):(dM.r x).qp=x.qp:=Eq.trans rfl rfl
theorem dM.sY (x:dM):(dM.r x).bJ=(aJ.r x.bJ):=Eq.trans rfl rfl
theorem dM.oa (x:dM):(dM.r x).bD=x.bD:=Eq.trans rfl rfl
instance :Row dM:=⟨dM.row,dM.cD⟩
instance :Im dM iI:=⟨dM.r,dM.cJ⟩
theorem dM.rs:(∀(xs:List dM) (i:Nat),iI.at (xs.map dM.row) i=(xs.getD i dM.zero).r)∧(∀x:dM,(dM.r x).qp=x.qp)∧(∀x:dM,(dM.r x).bJ=(aJ.r x.bJ))∧(∀x:dM,(dM.r x).bD=x.bD):=⟨fun _ _=>dM.cQ,dM.zp,dM.sY,dM.oa⟩
structure eu where
 eZ:Int
 aN:aS
 kJ:List (List L)
structure bR where
 eZ:Int
 aN:ah
 kJ:List ah
def eu.enc (x:eu):List L:=[.int x.eZ,.str x.aN.aW,.int x.aN.bD,.int x.aN.bS,.sl x.aN.bC,.sl x.kJ]
def eu.dec (r:List L):eu:=⟨((aA 0 r).headD .hole).toInt,⟨((aA 1 r).headD .hole).toStr,((aA 2 r).headD .hole).toInt,((aA 3 r).headD .hole).toInt,((aA 4 r).headD .hole).aR⟩,((aA 5 r).headD .hole).aR⟩
instance :RT eu:=⟨eu.enc,eu.dec,6,fun _ _=>rfl,fun _ _=>rfl⟩
def eu.at (xs:List (List L))(i:Nat):eu:=eu.dec (List.getD xs i [])
def bR.r (x:bR):eu:=⟨x.eZ,(ah.r x.aN),(x.kJ.map ah.row)⟩
def bR.row (x:bR):List L:=eu.enc x.r
def bR.zero:bR:=⟨0,ah.zero,[]⟩
theorem bR.cJ {a b:bR}(h:a.r=b.r):a=b:=by
 cases a;cases b
 simp only [bR.r,eu.mk.injEq] at h
 obtain ⟨h0,h1,h2⟩:=h
 simp only [bR.mk.injEq]
 exact ⟨h0,(ah.cJ h1),(map_inj ah.cD h2)⟩
theorem bR.cD {a b:bR}(h:bR.row a=bR.row b):a=b:=bR.cJ (congrArg eu.dec h)
theorem bR.cQ {xs:List bR}{i:Nat}:eu.at (xs.map bR.row) i=(xs.getD i bR.zero).r:=dV (r:=fun x=>bR.r x) (fun _=>rfl) rfl
theorem bR.sJ (x:bR):(bR.r x).eZ=x.eZ:=Eq.trans rfl rfl
theorem bR.ia (x:bR):(bR.r x).aN=(ah.r x.aN):=Eq.trans rfl rfl
theorem bR.wM (x:bR):(bR.r x).kJ=(x.kJ.map ah.row):=Eq.trans rfl rfl
instance :Row bR:=⟨bR.row,bR.cD⟩
instance :Im bR eu:=⟨bR.r,bR.cJ⟩
theorem bR.rs:(∀(xs:List bR) (i:Nat),eu.at (xs.map bR.row) i=(xs.getD i bR.zero).r)∧(∀x:bR,(bR.r x).eZ=x.eZ)∧(∀x:bR,(bR.r x).aN=(ah.r x.aN))∧(∀x:bR,(bR.r x).kJ=(x.kJ.map ah.row)):=⟨fun _ _=>bR.cQ,bR.sJ,bR.ia,bR.wM⟩
structure cY where
 bV:bn
 cj:Bool
 aN:aS
 kf:Bool
 kO:List (List L)
structure bO where
 bV:au
 cj:Bool
 aN:ah
 kf:Bool
 kO:List Int
def cY.enc (x:cY):List L:=[.sl x.bV.aF,.sl x.bV.bg,.bool x.cj,.str x.aN.aW,.int x.aN.bD,.int x.aN.bS,.sl x.aN.bC,.bool x.kf,.sl x.kO]
def cY.dec (r:List L):cY:=⟨⟨((aA 0 r).headD .hole).aR,((aA 1 r).headD .hole).aR⟩,((aA 2 r).headD .hole).toBool,⟨((aA 3 r).headD .hole).toStr,((aA 4 r).headD .hole).toInt,((aA 5 r).headD .hole).toInt,((aA 6 r).headD .hole).aR⟩,((aA 7 r).headD .hole).toBool,((aA 8 r).headD .hole).aR⟩
instance :RT cY:=⟨cY.enc,cY.dec,9,fun _ _=>rfl,fun _ _=>rfl⟩
def cY.at (xs:List (List L))(i:Nat):cY:=cY.dec (List.getD xs i [])
def bO.r (x:bO):cY:=⟨(au.r x.bV),x.cj,(ah.r x.aN),x.kf,(x.kO.map aZ)⟩
def bO.row (x:bO):List L:=cY.enc x.r
def bO.zero:bO:=⟨au.zero,false,ah.zero,false,[]⟩
theorem bO.cJ {a b:bO}(h:a.r=b.r):a=b:=by
 cases a;cases b
 simp only [bO.r,cY.mk.injEq] at h
 obtain ⟨h0,h1,h2,h3,h4⟩:=h
 simp only [bO.mk.injEq]
 exact ⟨(au.cJ h0),h1,(ah.cJ h2),h3,(map_inj kU h4)⟩
theorem bO.cD {a b:bO}(h:bO.row a=bO.row b):a=b:=bO.cJ (congrArg cY.dec h)
theorem bO.cQ {xs:List bO}{i:Nat}:cY.at (xs.map bO.row) i=(xs.getD i bO.zero).r:=dV (r:=fun x=>bO.r x) (fun _=>rfl) rfl
theorem bO.qg (x:bO):(bO.r x).bV=(au.r x.bV):=Eq.trans rfl rfl
theorem bO.qJ (x:bO):(bO.r x).cj=x.cj:=Eq.trans rfl rfl
theorem bO.ia (x:bO):(bO.r x).aN=(ah.r x.aN):=Eq.trans rfl rfl
theorem bO.zG (x:bO):(bO.r x).kf=x.kf:=Eq.trans rfl rfl
theorem bO.xG (x:bO):(bO.r x).kO=(x.kO.map aZ):=Eq.trans rfl rfl
instance :Row bO:=⟨bO.row,bO.cD⟩
instance :Im bO cY:=⟨bO.r,bO.cJ⟩
theorem bO.rs:(∀(xs:List bO) (i:Nat),cY.at (xs.map bO.row) i=(xs.getD i bO.zero).r)∧(∀x:bO,(bO.r x).bV=(au.r x.bV))∧(∀x:bO,(bO.r x).cj=x.cj)∧(∀x:bO,(bO.r x).aN=(ah.r x.aN))∧(∀x:bO,(bO.r x).kf=x.kf)∧(∀x:bO,(bO.r x).kO=(x.kO.map aZ)):=⟨fun _ _=>bO.cQ,bO.qg,bO.qJ,bO.ia,bO.zG,bO.xG⟩
def bO.Sm (n:Nat)(x:bO):Prop:=au.Sm n x.bV∧ah.Sm n x.aN∧bK n (fun y:Int=>True) x.kO
structure gm where
 fName:ByteArray
 bA:Int
def gm.enc (x:gm):List L:=[.str x.fName,.int x.bA]
def gm.dec (r:List L):gm:=⟨((aA 0 r).headD .hole).toStr,((aA 1 r).headD .hole).toInt⟩
instance :RT gm:=⟨gm.enc,gm.dec,2,fun _ _=>rfl,fun _ _=>rfl⟩
def gm.at (xs:List (List L))(i:Nat):gm:=gm.dec (List.getD xs i [])
def gm.row (x:gm):List L:=gm.enc x
def gm.zero:gm:=⟨⟨#[]⟩,0⟩
theorem gm.cD {a b:gm}(h:gm.row a=gm.row b):a=b:=congrArg gm.dec h
theorem gm.cQ {xs:List gm}{i:Nat}:gm.at (xs.map gm.row) i=xs.getD i gm.zero:=dV (r:=fun x=>x) (fun _=>rfl) rfl
instance :Row gm:=⟨gm.row,gm.cD⟩
instance :Im gm gm:=⟨fun x=>x,fun h=>h⟩
theorem gm.rs:(∀(xs:List gm) (i:Nat),gm.at (xs.map gm.row) i=xs.getD i gm.zero):=fun _ _=>gm.cQ
structure dH where
 aQ:List (List L)
 bH:List (List L)
structure aI where
 aQ:List aa
 bH:List ah
def dH.enc (x:dH):List L:=[.sl x.aQ,.sl x.bH]
def dH.dec (r:List L):dH:=⟨((aA 0 r).headD .hole).aR,((aA 1 r).headD .hole).aR⟩
instance :RT dH:=⟨dH.enc,dH.dec,2,fun _ _=>rfl,fun _ _=>rfl⟩
def dH.at (xs:List (List L))(i:Nat):dH:=dH.dec (List.getD xs i [])
def aI.r (x:aI):dH:=⟨(x.aQ.map aa.row),(x.bH.map ah.row)⟩
def aI.row (x:aI):List L:=dH.enc x.r
def aI.zero:aI:=⟨[],[]⟩
theorem aI.cJ {a b:aI}(h:a.r=b.r):a=b:=by
 cases a;cases b
 simp only [aI.r,dH.mk.injEq] at h
 obtain ⟨h0,h1⟩:=h
 simp only [aI.mk.injEq]
 exact ⟨(map_inj aa.cD h0),(map_inj ah.cD h1)⟩
theorem aI.cD {a b:aI}(h:aI.row a=aI.row b):a=b:=aI.cJ (congrArg dH.dec h)
theorem aI.eH {xs:List aI}{i:Nat}(h:i<xs.length):dH.at (xs.map aI.row) i=(xs[i]).r:=by unfold dH.at;rw [getD_map h];rfl
theorem aI.cQ {xs:List aI}{i:Nat}:dH.at (xs.map aI.row) i=(xs.getD i aI.zero).r:=dV (r:=fun x=>aI.r x) (fun _=>rfl) rfl
theorem aI.qD (x:aI):(aI.r x).aQ=(x.aQ.map aa.row):=Eq.trans rfl rfl
theorem aI.vA (x:aI):(aI.r x).bH=(x.bH.map ah.row):=Eq.trans rfl rfl
instance :Row aI:=⟨aI.row,aI.cD⟩
instance :Im aI dH:=⟨aI.r,aI.cJ⟩
theorem aI.rs:(∀(xs:List aI) (i:Nat),dH.at (xs.map aI.row) i=(xs.getD i aI.zero).r)∧(∀x:aI,(aI.r x).aQ=(x.aQ.map aa.row))∧(∀x:aI,(aI.r x).bH=(x.bH.map ah.row)):=⟨fun _ _=>aI.cQ,aI.qD,aI.vA⟩
def aI.Sm (n:Nat)(x:aI):Prop:=bK n (fun y:aa=>aa.Sm n y) x.aQ∧bK n (fun y:ah=>ah.Sm n y) x.bH
def aI.size (x:aI):Nat:=dQ (fun y:aa=>aa.size y) x.aQ+dQ (fun y:ah=>ah.size y) x.bH
theorem aI.dh {n m:Nat}(hn:n≤m){x:aI}(h:aI.Sm n x):aI.Sm m x:=⟨h.1.mono hn (fun x hx=>aa.dh hn hx),h.2.mono hn (fun x hx=>ah.dh hn hx)⟩
theorem aI.gx {n:Nat}{x:aI}(h:x.size≤n):aI.Sm n x:=by
 unfold aI.size at h
 have g0:dQ (fun y:aa=>aa.size y) x.aQ≤n:=by omega
 have g1:dQ (fun y:ah=>ah.size y) x.bH≤n:=by omega
 exact ⟨ju g0 (fun x hx=>aa.gx hx),ju g1 (fun x hx=>ah.gx hx)⟩
structure cI where
 bE:List (List L)
 gP:Int
structure az where
 bE:List aI
 gP:Int
def cI.enc (x:cI):List L:=[.sl x.bE,.int x.gP]
def cI.dec (r:List L):cI:=⟨((aA 0 r).headD .hole).aR,((aA 1 r).headD .hole).toInt⟩
instance :RT cI:=⟨cI.enc,cI.dec,2,fun _ _=>rfl,fun _ _=>rfl⟩
def cI.at (xs:List (List L))(i:Nat):cI:=cI.dec (List.getD xs i [])
def az.r (x:az):cI:=⟨(x.bE.map aI.row),x.gP⟩
def az.row (x:az):List L:=cI.enc x.r
def az.zero:az:=⟨[],0⟩
theorem az.cJ {a b:az}(h:a.r=b.r):a=b:=by
 cases a;cases b
 simp only [az.r,cI.mk.injEq] at h
 obtain ⟨h0,h1⟩:=h
 simp only [az.mk.injEq]
 exact ⟨(map_inj aI.cD h0),h1⟩
theorem az.cD {a b:az}(h:az.row a=az.row b):a=b:=az.cJ (congrArg cI.dec h)
theorem az.eH {xs:List az}{i:Nat}(h:i<xs.length):cI.at (xs.map az.row) i=(xs[i]).r:=by unfold cI.at;rw [getD_map h];rfl
theorem az.cQ {xs:List az}{i:Nat}:cI.at (xs.map az.row) i=(xs.getD i az.zero).r:=dV (r:=fun x=>az.r x) (fun _=>rfl) rfl
theorem az.qS (x:az):(az.r x).bE=(x.bE.map aI.row):=Eq.trans rfl rfl
theorem az.Ax (x:az):(az.r x).gP=x.gP:=Eq.trans rfl rfl
instance :Row az:=⟨az.row,az.cD⟩
instance :Im az cI:=⟨az.r,az.cJ⟩
theorem az.rs:(∀(xs:List az) (i:Nat),cI.at (xs.map az.row) i=(xs.getD i az.zero).r)∧(∀x:az,(az.r x).bE=(x.bE.map aI.row))∧(∀x:az,(az.r x).gP=x.gP):=⟨fun _ _=>az.cQ,az.qS,az.Ax⟩
def az.Sm (n:Nat)(x:az):Prop:=bK n (fun y:aI=>aI.Sm n y) x.bE
def az.size (x:az):Nat:=dQ (fun y:aI=>aI.size y) x.bE
theorem az.dh {n m:Nat}(hn:n≤m){x:az}(h:az.Sm n x):az.Sm m x:=h.mono hn (fun x hx=>aI.dh hn hx)
theorem az.gx {n:Nat}{x:az}(h:x.size≤n):az.Sm n x:=by
 unfold az.size at h
 have g0:dQ (fun y:aI=>aI.size y) x.bE≤n:=by omega
 exact ju g0 (fun x hx=>aI.gx hx)
structure eL where
 fName:ByteArray
 bA:Int
def eL.enc (x:eL):List L:=[.str x.fName,.int x.bA]
def eL.dec (r:List L):eL:=⟨((aA 0 r).headD .hole).toStr,((aA 1 r).headD .hole).toInt⟩
instance :RT eL:=⟨eL.enc,eL.dec,2,fun _ _=>rfl,fun _ _=>rfl⟩
def eL.at (xs:List (List L))(i:Nat):eL:=eL.dec (List.getD xs i [])
def eL.row (x:eL):List L:=eL.enc x
def eL.zero:eL:=⟨⟨#[]⟩,0⟩
theorem eL.cD {a b:eL}(h:eL.row a=eL.row b):a=b:=congrArg eL.dec h
theorem eL.cQ {xs:List eL}{i:Nat}:eL.at (xs.map eL.row) i=xs.getD i eL.zero:=dV (r:=fun x=>x) (fun _=>rfl) rfl
instance :Row eL:=⟨eL.row,eL.cD⟩
instance :Im eL eL:=⟨fun x=>x,fun h=>h⟩
theorem eL.rs:(∀(xs:List eL) (i:Nat),eL.at (xs.map eL.row) i=xs.getD i eL.zero):=fun _ _=>eL.cQ
structure fD where
 bC:List (List L)
 aN:aS
structure cL where
 bC:List ByteArray
 aN:ah
def fD.enc (x:fD):List L:=[.sl x.bC,.str x.aN.aW,.int x.aN.bD,.int x.aN.bS,.sl x.aN.bC]
def fD.dec (r:List L):fD:=⟨((aA 0 r).headD .hole).aR,⟨((aA 1 r).headD .hole).toStr,((aA 2 r).headD .hole).toInt,((aA 3 r).headD .hole).toInt,((aA 4 r).headD .hole).aR⟩⟩
instance :RT fD:=⟨fD.enc,fD.dec,5,fun _ _=>rfl,fun _ _=>rfl⟩
def fD.at (xs:List (List L))(i:Nat):fD:=fD.dec (List.getD xs i [])
def cL.r (x:cL):fD:=⟨(x.bC.map cA),(ah.r x.aN)⟩
def cL.row (x:cL):List L:=fD.enc x.r
def cL.zero:cL:=⟨[],ah.zero⟩
theorem cL.cJ {a b:cL}(h:a.r=b.r):a=b:=by
 cases a;cases b
 simp only [cL.r,fD.mk.injEq] at h
 obtain ⟨h0,h1⟩:=h
 simp only [cL.mk.injEq]
 exact ⟨(map_inj qi h0),(ah.cJ h1)⟩
theorem cL.cD {a b:cL}(h:cL.row a=cL.row b):a=b:=cL.cJ (congrArg fD.dec h)
theorem cL.cQ {xs:List cL}{i:Nat}:fD.at (xs.map cL.row) i=(xs.getD i cL.zero).r:=dV (r:=fun x=>cL.r x) (fun _=>rfl) rfl
theorem cL.nq (x:cL):(cL.r x).bC=(x.bC.map cA):=Eq.trans rfl rfl
theorem cL.ia (x:cL):(cL.r x).aN=(ah.r x.aN):=Eq.trans rfl rfl
instance :Row cL:=⟨cL.row,cL.cD⟩
instance :Im cL fD:=⟨cL.r,cL.cJ⟩
theorem cL.rs:(∀(xs:List cL) (i:Nat),fD.at (xs.map cL.row) i=(xs.getD i cL.zero).r)∧(∀x:cL,(cL.r x).bC=(x.bC.map cA))∧(∀x:cL,(cL.r x).aN=(ah.r x.aN)):=⟨fun _ _=>cL.cQ,cL.nq,cL.ia⟩
def SS:=And.intro (And.intro S0 MM) (And.intro aJ.rs (And.intro aC.rs (And.intro aY.rs (And.intro aa.rs (And.intro aB.rs (And.intro au.rs (And.intro ah.rs (And.intro aK.rs (And.intro bP.rs (And.intro ay.rs (And.intro cm.rs (And.intro dw.rs (And.intro bz.rs (And.intro dX.rs (And.intro dM.rs (And.intro bR.rs (And.intro bO.rs (And.intro gm.rs (And.intro aI.rs (And.intro az.rs (And.intro eL.rs (And.intro cL.rs trivial))))))))))))))))))))))
theorem fz {p:Prop}(h:p:=by first | rfl | (simp only [SS];done) | (simp only [MP];rfl) | (simp only [SS,MP];first | done | rfl) | (simp only [aJ.r,aC.r,aa.r,aB.r,au.r,ah.r,aK.r,bP.r,ay.r,cm.r,dw.r,bz.r,dX.r,dM.r,bR.r,bO.r,aI.r,az.r,cL.r,SS,MP];first | done | rfl) | (simp only [SS,MP,List.length_take,List.length_drop];first | done | rfl)):p:=h
theorem rq {p q:Prop}(h:p)(k:p→q:=by intro R_;first | exact R_ | (simp only [MP,SS] at R_ ⊢;first | exact R_ | (rw [←R_];rfl))):q:=k h
end Go.DM

end
