/- The structures of the program, as mathematical records. Conditions: none. -/
import Derived.Test.YtknikjmcpjaggaaGreatResolvePetDd
set_option linter.all false
noncomputable section
namespace Go.DM
structure bE where
 aX:aE
 cF:Int
structure aM where
 aX:List Int
 cF:Int
def bE.enc (x:bE):List L:=[.sl x.aX,.int x.cF]
def bE.dec (r:List L):bE:=⟨((aA 0 r).headD .hole).aQ,((aA 1 r).headD .hole).toInt⟩
instance :RT bE:=⟨bE.enc,bE.dec,2,fun _ _=>rfl,fun _ _=>rfl⟩
def bE.at (xs:aE)(i:Nat):bE:=bE.dec (List.getD xs i [])
def aM.r (x:aM):bE:=⟨(x.aX.map bk),x.cF⟩
def aM.row (x:aM):List L:=bE.enc x.r
def aM.zero:aM:=⟨[],0⟩
def aM.cO {a b:aM}(h:a.r=b.r):a=b:=by
 cases a;cases b
 simp only [aM.r,bE.mk.injEq] at h
 obtain ⟨h0,h1⟩:=h
 simp only [aM.mk.injEq]
 exact ⟨(map_inj lq h0),h1⟩
def aM.cL {a b:aM}(h:aM.row a=aM.row b):a=b:=aM.cO (congrArg bE.dec h)
def aM.cZ {xs:List aM}{i:Nat}:bE.at (xs.map aM.row) i=(xs.getD i aM.zero).r:=eo (r:=fun x=>aM.r x) (fun _=>rfl) rfl
def aM.tu (x:aM):(aM.r x).aX=(x.aX.map bk):=Eq.trans rfl rfl
def aM.zS (x:aM):(aM.r x).cF=x.cF:=Eq.trans rfl rfl
instance :Row aM:=⟨aM.row,aM.cL⟩
instance :Im aM bE:=⟨aM.r,aM.cO⟩
def aM.rs:(∀(xs:List aM) (i:Nat),bE.at (xs.map aM.row) i=(xs.getD i aM.zero).r)/\(∀x:aM,(aM.r x).aX=(x.aX.map bk))/\(∀x:aM,(aM.r x).cF=x.cF):=⟨fun _ _=>aM.cZ,aM.tu,aM.zS⟩
def aM.Sm (n:Nat)(x:aM):Prop:=bM n (fun y:Int=>True) x.aX
def aM.size (x:aM):Nat:=dU (fun y:Int=>0) x.aX
def aM.cU {n m:Nat}(hn:n<=m){x:aM}(h:aM.Sm n x):aM.Sm m x:=h.mono hn (fun x hx=>trivial)
def aM.gm {n:Nat}{x:aM}(h:x.size<=n):aM.Sm n x:=by
 unfold aM.size at h
 have g0:dU (fun y:Int=>0) x.aX<=n:=by omega
 exact jh g0 (fun x hx=>trivial)
structure cg where
 bC:Int
 cN:Int
 bI:Int
 cK:Int
 cC:Int
 cy:Int
 dm:Int
 dH:Int
 bP:bE
 bD:bE
 dw:Int
 bA:bE
 bG:Bool
structure aG where
 bC:Int
 cN:Int
 bI:Int
 cK:Int
 cC:Int
 cy:Int
 dm:Int
 dH:Int
 bP:aM
 bD:aM
 dw:Int
 bA:aM
 bG:Bool
def cg.enc (x:cg):List L:=[.int x.bC,.int x.cN,.int x.bI,.int x.cK,.int x.cC,.int x.cy,.int x.dm,.int x.dH,.sl x.bP.aX,.int x.bP.cF,.sl x.bD.aX,.int x.bD.cF,.int x.dw,.sl x.bA.aX,.int x.bA.cF,.bool x.bG]
def cg.dec (r:List L):cg:=⟨((aA 0 r).headD .hole).toInt,((aA 1 r).headD .hole).toInt,((aA 2 r).headD .hole).toInt,((aA 3 r).headD .hole).toInt,((aA 4 r).headD .hole).toInt,((aA 5 r).headD .hole).toInt,((aA 6 r).headD .hole).toInt,((aA 7 r).headD .hole).toInt,⟨((aA 8 r).headD .hole).aQ,((aA 9 r).headD .hole).toInt⟩,⟨((aA 10 r).headD .hole).aQ,((aA 11 r).headD .hole).toInt⟩,((aA 12 r).headD .hole).toInt,⟨((aA 13 r).headD .hole).aQ,((aA 14 r).headD .hole).toInt⟩,((aA 15 r).headD .hole).toBool⟩
instance :RT cg:=⟨cg.enc,cg.dec,16,fun _ _=>rfl,fun _ _=>rfl⟩
def cg.at (xs:aE)(i:Nat):cg:=cg.dec (List.getD xs i [])
def aG.r (x:aG):cg:=⟨x.bC,x.cN,x.bI,x.cK,x.cC,x.cy,x.dm,x.dH,(aM.r x.bP),(aM.r x.bD),x.dw,(aM.r x.bA),x.bG⟩
def aG.row (x:aG):List L:=cg.enc x.r
def aG.zero:aG:=⟨0,0,0,0,0,0,0,0,aM.zero,aM.zero,0,aM.zero,false⟩
def aG.cO {a b:aG}(h:a.r=b.r):a=b:=by
 cases a;cases b
 simp only [aG.r,cg.mk.injEq] at h
 obtain ⟨h0,h1,h2,h3,h4,h5,h6,h7,h8,h9,h10,h11,h12⟩:=h
 simp only [aG.mk.injEq]
 exact ⟨h0,h1,h2,h3,h4,h5,h6,h7,(aM.cO h8),(aM.cO h9),h10,(aM.cO h11),h12⟩
def aG.cL {a b:aG}(h:aG.row a=aG.row b):a=b:=aG.cO (congrArg cg.dec h)
def aG.cZ {xs:List aG}{i:Nat}:cg.at (xs.map aG.row) i=(xs.getD i aG.zero).r:=eo (r:=fun x=>aG.r x) (fun _=>rfl) rfl
def aG.sM (x:aG):(aG.r x).bC=x.bC:=Eq.trans rfl rfl
def aG.yh (x:aG):(aG.r x).cN=x.cN:=Eq.trans rfl rfl
def aG.oq (x:aG):(aG.r x).bI=x.bI:=Eq.trans rfl rfl
def aG.zi (x:aG):(aG.r x).cK=x.cK:=Eq.trans rfl rfl
def aG.xL (x:aG):(aG.r x).cC=x.cC:=Eq.trans rfl rfl
def aG.xQ (x:aG):(aG.r x).cy=x.cy:=Eq.trans rfl rfl
def aG.zm (x:aG):(aG.r x).dm=x.dm:=Eq.trans rfl rfl
def aG.zv (x:aG):(aG.r x).dH=x.dH:=Eq.trans rfl rfl
def aG.tg (x:aG):(aG.r x).bP=(aM.r x.bP):=Eq.trans rfl rfl
def aG.xD (x:aG):(aG.r x).bD=(aM.r x.bD):=Eq.trans rfl rfl
def aG.zW (x:aG):(aG.r x).dw=x.dw:=Eq.trans rfl rfl
def aG.yI (x:aG):(aG.r x).bA=(aM.r x.bA):=Eq.trans rfl rfl
def aG.xq (x:aG):(aG.r x).bG=x.bG:=Eq.trans rfl rfl
instance :Row aG:=⟨aG.row,aG.cL⟩
instance :Im aG cg:=⟨aG.r,aG.cO⟩
def aG.rs:(∀(xs:List aG) (i:Nat),cg.at (xs.map aG.row) i=(xs.getD i aG.zero).r)/\(∀x:aG,(aG.r x).bC=x.bC)/\(∀x:aG,(aG.r x).cN=x.cN)/\(∀x:aG,(aG.r x).bI=x.bI)/\(∀x:aG,(aG.r x).cK=x.cK)/\(∀x:aG,(aG.r x).cC=x.cC)/\(∀x:aG,(aG.r x).cy=x.cy)/\(∀x:aG,(aG.r x).dm=x.dm)/\(∀x:aG,(aG.r x).dH=x.dH)/\(∀x:aG,(aG.r x).bP=(aM.r x.bP))/\(∀x:aG,(aG.r x).bD=(aM.r x.bD))/\(∀x:aG,(aG.r x).dw=x.dw)/\(∀x:aG,(aG.r x).bA=(aM.r x.bA))/\(∀x:aG,(aG.r x).bG=x.bG):=⟨fun _ _=>aG.cZ,aG.sM,aG.yh,aG.oq,aG.zi,aG.xL,aG.xQ,aG.zm,aG.zv,aG.tg,aG.xD,aG.zW,aG.yI,aG.xq⟩
def aG.Sm (n:Nat)(x:aG):Prop:=aM.Sm n x.bP/\aM.Sm n x.bD/\aM.Sm n x.bA
def aG.size (x:aG):Nat:=aM.size x.bP+aM.size x.bD+aM.size x.bA
def aG.cU {n m:Nat}(hn:n<=m){x:aG}(h:aG.Sm n x):aG.Sm m x:=⟨aM.cU hn h.1,aM.cU hn h.2.1,aM.cU hn h.2.2⟩
def aG.gm {n:Nat}{x:aG}(h:x.size<=n):aG.Sm n x:=by
 unfold aG.size at h
 have g0:aM.size x.bP<=n:=by omega
 have g1:aM.size x.bD<=n:=by omega
 have g2:aM.size x.bA<=n:=by omega
 exact ⟨aM.gm g0,aM.gm g1,aM.gm g2⟩
structure bp where
 gU:Int
 jz:Int
def bp.enc (x:bp):List L:=[.int x.gU,.int x.jz]
def bp.dec (r:List L):bp:=⟨((aA 0 r).headD .hole).toInt,((aA 1 r).headD .hole).toInt⟩
instance :RT bp:=⟨bp.enc,bp.dec,2,fun _ _=>rfl,fun _ _=>rfl⟩
def bp.at (xs:aE)(i:Nat):bp:=bp.dec (List.getD xs i [])
def bp.row (x:bp):List L:=bp.enc x
def bp.zero:bp:=⟨0,0⟩
def bp.cL {a b:bp}(h:bp.row a=bp.row b):a=b:=congrArg bp.dec h
def bp.eA {xs:List bp}{i:Nat}(h:i<xs.length):bp.at (xs.map bp.row) i=xs[i]:=by unfold bp.at;rw [getD_map h];rfl
def bp.cZ {xs:List bp}{i:Nat}:bp.at (xs.map bp.row) i=xs.getD i bp.zero:=eo (r:=fun x=>x) (fun _=>rfl) rfl
def bp.eqc (a b:bp):(eg a.gU b.gU&&(eg a.jz b.jz&&true))=eg a b:=by
 cases a;cases b
 rw [Bool.eq_iff_iff]
 simp only [dy,Bool.and_eq_true,bp.mk.injEq,and_true]
instance :Row bp:=⟨bp.row,bp.cL⟩
instance :Im bp bp:=⟨fun x=>x,fun h=>h⟩
def bp.rs:(∀(xs:List bp) (i:Nat),bp.at (xs.map bp.row) i=xs.getD i bp.zero):=fun _ _=>bp.cZ
def bp.Sm (n:Nat)(x:bp):Prop:=True
def bp.size (x:bp):Nat:=0
def bp.cU {n m:Nat}(_:n<=m){x:bp}(_:bp.Sm n x):bp.Sm m x:=trivial
def bp.gm {n:Nat}{x:bp}(_:x.size<=n):bp.Sm n x:=trivial
structure aT where
 aq:cg
 cu:aE
structure aa where
 aq:aG
 cu:List bp
def aT.enc (x:aT):List L:=[.int x.aq.bC,.int x.aq.cN,.int x.aq.bI,.int x.aq.cK,.int x.aq.cC,.int x.aq.cy,.int x.aq.dm,.int x.aq.dH,.sl x.aq.bP.aX,.int x.aq.bP.cF,.sl x.aq.bD.aX,.int x.aq.bD.cF,.int x.aq.dw,.sl x.aq.bA.aX,.int x.aq.bA.cF,.bool x.aq.bG,.sl x.cu]
def aT.dec (r:List L):aT:=⟨⟨((aA 0 r).headD .hole).toInt,((aA 1 r).headD .hole).toInt,((aA 2 r).headD .hole).toInt,((aA 3 r).headD .hole).toInt,((aA 4 r).headD .hole).toInt,((aA 5 r).headD .hole).toInt,((aA 6 r).headD .hole).toInt,((aA 7 r).headD .hole).toInt,⟨((aA 8 r).headD .hole).aQ,((aA 9 r).headD .hole).toInt⟩,⟨((aA 10 r).headD .hole).aQ,((aA 11 r).headD .hole).toInt⟩,((aA 12 r).headD .hole).toInt,⟨((aA 13 r).headD .hole).aQ,((aA 14 r).headD .hole).toInt⟩,((aA 15 r).headD .hole).toBool⟩,((aA 16 r).headD .hole).aQ⟩
instance :RT aT:=⟨aT.enc,aT.dec,17,fun _ _=>rfl,fun _ _=>rfl⟩
def aT.at (xs:aE)(i:Nat):aT:=aT.dec (List.getD xs i [])
def aa.r (x:aa):aT:=⟨(aG.r x.aq),(x.cu.map bp.row)⟩
def aa.row (x:aa):List L:=aT.enc x.r
def aa.zero:aa:=⟨aG.zero,[]⟩
def aa.cO {a b:aa}(h:a.r=b.r):a=b:=by
 cases a;cases b
 simp only [aa.r,aT.mk.injEq] at h
 obtain ⟨h0,h1⟩:=h
 simp only [aa.mk.injEq]
 exact ⟨(aG.cO h0),(map_inj bp.cL h1)⟩
def aa.cL {a b:aa}(h:aa.row a=aa.row b):a=b:=aa.cO (congrArg aT.dec h)
def aa.eA {xs:List aa}{i:Nat}(h:i<xs.length):aT.at (xs.map aa.row) i=(xs[i]).r:=by unfold aT.at;rw [getD_map h];rfl
def aa.cZ {xs:List aa}{i:Nat}:aT.at (xs.map aa.row) i=(xs.getD i aa.zero).r:=eo (r:=fun x=>aa.r x) (fun _=>rfl) rfl
def aa.zU (x:aa):(aa.r x).aq=(aG.r x.aq):=Eq.trans rfl rfl
def aa.zV (x:aa):(aa.r x).cu=(x.cu.map bp.row):=Eq.trans rfl rfl
instance :Row aa:=⟨aa.row,aa.cL⟩
instance :Im aa aT:=⟨aa.r,aa.cO⟩
def aa.rs:(∀(xs:List aa) (i:Nat),aT.at (xs.map aa.row) i=(xs.getD i aa.zero).r)/\(∀x:aa,(aa.r x).aq=(aG.r x.aq))/\(∀x:aa,(aa.r x).cu=(x.cu.map bp.row)):=⟨fun _ _=>aa.cZ,aa.zU,aa.zV⟩
def aa.Sm (n:Nat)(x:aa):Prop:=aG.Sm n x.aq/\bM n (fun y:bp=>bp.Sm n y) x.cu
def aa.size (x:aa):Nat:=aG.size x.aq+dU (fun y:bp=>bp.size y) x.cu
def aa.cU {n m:Nat}(hn:n<=m){x:aa}(h:aa.Sm n x):aa.Sm m x:=⟨aG.cU hn h.1,h.2.mono hn (fun x hx=>bp.cU hn hx)⟩
def aa.gm {n:Nat}{x:aa}(h:x.size<=n):aa.Sm n x:=by
 unfold aa.size at h
 have g0:aG.size x.aq<=n:=by omega
 have g1:dU (fun y:bp=>bp.size y) x.cu<=n:=by omega
 exact ⟨aG.gm g0,jh g1 (fun x hx=>bp.gm hx)⟩
structure bK where
 aS:aT
 fA:aT
 fB:aT
structure aC where
 aS:aa
 fA:aa
 fB:aa
def bK.enc (x:bK):List L:=[.int x.aS.aq.bC,.int x.aS.aq.cN,.int x.aS.aq.bI,.int x.aS.aq.cK,.int x.aS.aq.cC,.int x.aS.aq.cy,.int x.aS.aq.dm,.int x.aS.aq.dH,.sl x.aS.aq.bP.aX,.int x.aS.aq.bP.cF,.sl x.aS.aq.bD.aX,.int x.aS.aq.bD.cF,.int x.aS.aq.dw,.sl x.aS.aq.bA.aX,.int x.aS.aq.bA.cF,.bool x.aS.aq.bG,.sl x.aS.cu,.int x.fA.aq.bC,.int x.fA.aq.cN,.int x.fA.aq.bI,.int x.fA.aq.cK,.int x.fA.aq.cC,.int x.fA.aq.cy,.int x.fA.aq.dm,.int x.fA.aq.dH,.sl x.fA.aq.bP.aX,.int x.fA.aq.bP.cF,.sl x.fA.aq.bD.aX,.int x.fA.aq.bD.cF,.int x.fA.aq.dw,.sl x.fA.aq.bA.aX,.int x.fA.aq.bA.cF,.bool x.fA.aq.bG,.sl x.fA.cu,.int x.fB.aq.bC,.int x.fB.aq.cN,.int x.fB.aq.bI,.int x.fB.aq.cK,.int x.fB.aq.cC,.int x.fB.aq.cy,.int x.fB.aq.dm,.int x.fB.aq.dH,.sl x.fB.aq.bP.aX,.int x.fB.aq.bP.cF,.sl x.fB.aq.bD.aX,.int x.fB.aq.bD.cF,.int x.fB.aq.dw,.sl x.fB.aq.bA.aX,.int x.fB.aq.bA.cF,.bool x.fB.aq.bG,.sl x.fB.cu]
def bK.dec (r:List L):bK:=⟨⟨⟨((aA 0 r).headD .hole).toInt,((aA 1 r).headD .hole).toInt,((aA 2 r).headD .hole).toInt,((aA 3 r).headD .hole).toInt,((aA 4 r).headD .hole).toInt,((aA 5 r).headD .hole).toInt,((aA 6 r).headD .hole).toInt,((aA 7 r).headD .hole).toInt,⟨((aA 8 r).headD .hole).aQ,((aA 9 r).headD .hole).toInt⟩,⟨((aA 10 r).headD .hole).aQ,((aA 11 r).headD .hole).toInt⟩,((aA 12 r).headD .hole).toInt,⟨((aA 13 r).headD .hole).aQ,((aA 14 r).headD .hole).toInt⟩,((aA 15 r).headD .hole).toBool⟩,((aA 16 r).headD .hole).aQ⟩,⟨⟨((aA 17 r).headD .hole).toInt,((aA 18 r).headD .hole).toInt,((aA 19 r).headD .hole).toInt,((aA 20 r).headD .hole).toInt,((aA 21 r).headD .hole).toInt,((aA 22 r).headD .hole).toInt,((aA 23 r).headD .hole).toInt,((aA 24 r).headD .hole).toInt,⟨((aA 25 r).headD .hole).aQ,((aA 26 r).headD .hole).toInt⟩,⟨((aA 27 r).headD .hole).aQ,((aA 28 r).headD .hole).toInt⟩,((aA 29 r).headD .hole).toInt,⟨((aA 30 r).headD .hole).aQ,((aA 31 r).headD .hole).toInt⟩,((aA 32 r).headD .hole).toBool⟩,((aA 33 r).headD .hole).aQ⟩,⟨⟨((aA 34 r).headD .hole).toInt,((aA 35 r).headD .hole).toInt,((aA 36 r).headD .hole).toInt,((aA 37 r).headD .hole).toInt,((aA 38 r).headD .hole).toInt,((aA 39 r).headD .hole).toInt,((aA 40 r).headD .hole).toInt,((aA 41 r).headD .hole).toInt,⟨((aA 42 r).headD .hole).aQ,((aA 43 r).headD .hole).toInt⟩,⟨((aA 44 r).headD .hole).aQ,((aA 45 r).headD .hole).toInt⟩,((aA 46 r).headD .hole).toInt,⟨((aA 47 r).headD .hole).aQ,((aA 48 r).headD .hole).toInt⟩,((aA 49 r).headD .hole).toBool⟩,((aA 50 r).headD .hole).aQ⟩⟩
instance :RT bK:=⟨bK.enc,bK.dec,51,fun _ _=>rfl,fun _ _=>rfl⟩
def bK.at (xs:aE)(i:Nat):bK:=bK.dec (List.getD xs i [])
def aC.r (x:aC):bK:=⟨(aa.r x.aS),(aa.r x.fA),(aa.r x.fB)⟩
def aC.row (x:aC):List L:=bK.enc x.r
def aC.zero:aC:=⟨aa.zero,aa.zero,aa.zero⟩
def aC.cO {a b:aC}(h:a.r=b.r):a=b:=by
 cases a;cases b
 simp only [aC.r,bK.mk.injEq] at h
 obtain ⟨h0,h1,h2⟩:=h
 simp only [aC.mk.injEq]
 exact ⟨(aa.cO h0),(aa.cO h1),(aa.cO h2)⟩
def aC.cL {a b:aC}(h:aC.row a=aC.row b):a=b:=aC.cO (congrArg bK.dec h)
def aC.eA {xs:List aC}{i:Nat}(h:i<xs.length):bK.at (xs.map aC.row) i=(xs[i]).r:=by unfold bK.at;rw [getD_map h];rfl
def aC.cZ {xs:List aC}{i:Nat}:bK.at (xs.map aC.row) i=(xs.getD i aC.zero).r:=eo (r:=fun x=>aC.r x) (fun _=>rfl) rfl
def aC.oD (x:aC):(aC.r x).aS=(aa.r x.aS):=Eq.trans rfl rfl
def aC.BS (x:aC):(aC.r x).fA=(aa.r x.fA):=Eq.trans rfl rfl
def aC.BO (x:aC):(aC.r x).fB=(aa.r x.fB):=Eq.trans rfl rfl
instance :Row aC:=⟨aC.row,aC.cL⟩
instance :Im aC bK:=⟨aC.r,aC.cO⟩
def aC.rs:(∀(xs:List aC) (i:Nat),bK.at (xs.map aC.row) i=(xs.getD i aC.zero).r)/\(∀x:aC,(aC.r x).aS=(aa.r x.aS))/\(∀x:aC,(aC.r x).fA=(aa.r x.fA))/\(∀x:aC,(aC.r x).fB=(aa.r x.fB)):=⟨fun _ _=>aC.cZ,aC.oD,aC.BS,aC.BO⟩
def aC.Sm (n:Nat)(x:aC):Prop:=aa.Sm n x.aS/\aa.Sm n x.fA/\aa.Sm n x.fB
def aC.size (x:aC):Nat:=aa.size x.aS+aa.size x.fA+aa.size x.fB
def aC.cU {n m:Nat}(hn:n<=m){x:aC}(h:aC.Sm n x):aC.Sm m x:=⟨aa.cU hn h.1,aa.cU hn h.2.1,aa.cU hn h.2.2⟩
def aC.gm {n:Nat}{x:aC}(h:x.size<=n):aC.Sm n x:=by
 unfold aC.size at h
 have g0:aa.size x.aS<=n:=by omega
 have g1:aa.size x.fA<=n:=by omega
 have g2:aa.size x.fB<=n:=by omega
 exact ⟨aa.gm g0,aa.gm g1,aa.gm g2⟩
structure bw where
 aK:aE
 bn:aE
structure au where
 aK:List (List aa)
 bn:List aC
def bw.enc (x:bw):List L:=[.sl x.aK,.sl x.bn]
def bw.dec (r:List L):bw:=⟨((aA 0 r).headD .hole).aQ,((aA 1 r).headD .hole).aQ⟩
instance :RT bw:=⟨bw.enc,bw.dec,2,fun _ _=>rfl,fun _ _=>rfl⟩
def bw.at (xs:aE)(i:Nat):bw:=bw.dec (List.getD xs i [])
def au.r (x:au):bw:=⟨(x.aK.map (dO aa.row)),(x.bn.map aC.row)⟩
def au.row (x:au):List L:=bw.enc x.r
def au.zero:au:=⟨[],[]⟩
def au.cO {a b:au}(h:a.r=b.r):a=b:=by
 cases a;cases b
 simp only [au.r,bw.mk.injEq] at h
 obtain ⟨h0,h1⟩:=h
 simp only [au.mk.injEq]
 exact ⟨(map_inj (uE aa.cL) h0),(map_inj aC.cL h1)⟩
def au.cL {a b:au}(h:au.row a=au.row b):a=b:=au.cO (congrArg bw.dec h)
def au.cZ {xs:List au}{i:Nat}:bw.at (xs.map au.row) i=(xs.getD i au.zero).r:=eo (r:=fun x=>au.r x) (fun _=>rfl) rfl
def au.xx (x:au):(au.r x).aK=(x.aK.map (dO aa.row)):=Eq.trans rfl rfl
def au.yH (x:au):(au.r x).bn=(x.bn.map aC.row):=Eq.trans rfl rfl
instance :Row au:=⟨au.row,au.cL⟩
instance :Im au bw:=⟨au.r,au.cO⟩
def au.rs:(∀(xs:List au) (i:Nat),bw.at (xs.map au.row) i=(xs.getD i au.zero).r)/\(∀x:au,(au.r x).aK=(x.aK.map (dO aa.row)))/\(∀x:au,(au.r x).bn=(x.bn.map aC.row)):=⟨fun _ _=>au.cZ,au.xx,au.yH⟩
def au.Sm (n:Nat)(x:au):Prop:=bM n (fun y:List aa=>bM n (fun y:aa=>aa.Sm n y) y) x.aK/\bM n (fun y:aC=>aC.Sm n y) x.bn
def au.size (x:au):Nat:=dU (fun y:List aa=>dU (fun y:aa=>aa.size y) y) x.aK+dU (fun y:aC=>aC.size y) x.bn
def au.cU {n m:Nat}(hn:n<=m){x:au}(h:au.Sm n x):au.Sm m x:=⟨h.1.mono hn (fun x hx=>hx.mono hn (fun x hx=>aa.cU hn hx)),h.2.mono hn (fun x hx=>aC.cU hn hx)⟩
def au.gm {n:Nat}{x:au}(h:x.size<=n):au.Sm n x:=by
 unfold au.size at h
 have g0:dU (fun y:List aa=>dU (fun y:aa=>aa.size y) y) x.aK<=n:=by omega
 have g1:dU (fun y:aC=>aC.size y) x.bn<=n:=by omega
 exact ⟨jh g0 (fun x hx=>jh hx (fun x hx=>aa.gm hx)),jh g1 (fun x hx=>aC.gm hx)⟩
structure aV where
 aZ:aD
 bI:Int
 bX:Int
 bH:aE
structure ah where
 aZ:aD
 bI:Int
 bX:Int
 bH:List aD
def aV.enc (x:aV):List L:=[.str x.aZ,.int x.bI,.int x.bX,.sl x.bH]
def aV.dec (r:List L):aV:=⟨((aA 0 r).headD .hole).toStr,((aA 1 r).headD .hole).toInt,((aA 2 r).headD .hole).toInt,((aA 3 r).headD .hole).aQ⟩
instance :RT aV:=⟨aV.enc,aV.dec,4,fun _ _=>rfl,fun _ _=>rfl⟩
def aV.at (xs:aE)(i:Nat):aV:=aV.dec (List.getD xs i [])
def ah.r (x:ah):aV:=⟨x.aZ,x.bI,x.bX,(x.bH.map cG)⟩
def ah.row (x:ah):List L:=aV.enc x.r
def ah.zero:ah:=⟨⟨#[]⟩,0,0,[]⟩
def ah.cO {a b:ah}(h:a.r=b.r):a=b:=by
 cases a;cases b
 simp only [ah.r,aV.mk.injEq] at h
 obtain ⟨h0,h1,h2,h3⟩:=h
 simp only [ah.mk.injEq]
 exact ⟨h0,h1,h2,(map_inj qn h3)⟩
def ah.cL {a b:ah}(h:ah.row a=ah.row b):a=b:=ah.cO (congrArg aV.dec h)
def ah.eA {xs:List ah}{i:Nat}(h:i<xs.length):aV.at (xs.map ah.row) i=(xs[i]).r:=by unfold aV.at;rw [getD_map h];rfl
def ah.cZ {xs:List ah}{i:Nat}:aV.at (xs.map ah.row) i=(xs.getD i ah.zero).r:=eo (r:=fun x=>ah.r x) (fun _=>rfl) rfl
def ah.qW (x:ah):(ah.r x).aZ=x.aZ:=Eq.trans rfl rfl
def ah.oq (x:ah):(ah.r x).bI=x.bI:=Eq.trans rfl rfl
def ah.xM (x:ah):(ah.r x).bX=x.bX:=Eq.trans rfl rfl
def ah.oc (x:ah):(ah.r x).bH=(x.bH.map cG):=Eq.trans rfl rfl
instance :Row ah:=⟨ah.row,ah.cL⟩
instance :Im ah aV:=⟨ah.r,ah.cO⟩
def ah.rs:(∀(xs:List ah) (i:Nat),aV.at (xs.map ah.row) i=(xs.getD i ah.zero).r)/\(∀x:ah,(ah.r x).aZ=x.aZ)/\(∀x:ah,(ah.r x).bI=x.bI)/\(∀x:ah,(ah.r x).bX=x.bX)/\(∀x:ah,(ah.r x).bH=(x.bH.map cG)):=⟨fun _ _=>ah.cZ,ah.qW,ah.oq,ah.xM,ah.oc⟩
def ah.Sm (n:Nat)(x:ah):Prop:=(x.aZ).size<=n/\bM n (fun y:aD=>(y).size<=n) x.bH
def ah.size (x:ah):Nat:=(x.aZ).size+dU (fun y:aD=>(y).size) x.bH
def ah.cU {n m:Nat}(hn:n<=m){x:ah}(h:ah.Sm n x):ah.Sm m x:=⟨Nat.le_trans h.1 hn,h.2.mono hn (fun x hx=>Nat.le_trans hx hn)⟩
def ah.gm {n:Nat}{x:ah}(h:x.size<=n):ah.Sm n x:=by
 unfold ah.size at h
 have g0:(x.aZ).size<=n:=by omega
 have g1:dU (fun y:aD=>(y).size) x.bH<=n:=by omega
 exact ⟨g0,jh g1 (fun x hx=>hx)⟩
structure bS where
 eF:Int
 bH:aE
structure aN where
 eF:Int
 bH:List Int
def bS.enc (x:bS):List L:=[.int x.eF,.sl x.bH]
def bS.dec (r:List L):bS:=⟨((aA 0 r).headD .hole).toInt,((aA 1 r).headD .hole).aQ⟩
instance :RT bS:=⟨bS.enc,bS.dec,2,fun _ _=>rfl,fun _ _=>rfl⟩
def bS.at (xs:aE)(i:Nat):bS:=bS.dec (List.getD xs i [])
def aN.r (x:aN):bS:=⟨x.eF,(x.bH.map bk)⟩
def aN.row (x:aN):List L:=bS.enc x.r
def aN.zero:aN:=⟨0,[]⟩
def aN.cO {a b:aN}(h:a.r=b.r):a=b:=by
 cases a;cases b
 simp only [aN.r,bS.mk.injEq] at h
 obtain ⟨h0,h1⟩:=h
 simp only [aN.mk.injEq]
 exact ⟨h0,(map_inj lq h1)⟩
def aN.cL {a b:aN}(h:aN.row a=aN.row b):a=b:=aN.cO (congrArg bS.dec h)
def aN.cZ {xs:List aN}{i:Nat}:bS.at (xs.map aN.row) i=(xs.getD i aN.zero).r:=eo (r:=fun x=>aN.r x) (fun _=>rfl) rfl
def aN.yQ (x:aN):(aN.r x).eF=x.eF:=Eq.trans rfl rfl
def aN.oc (x:aN):(aN.r x).bH=(x.bH.map bk):=Eq.trans rfl rfl
instance :Row aN:=⟨aN.row,aN.cL⟩
instance :Im aN bS:=⟨aN.r,aN.cO⟩
def aN.rs:(∀(xs:List aN) (i:Nat),bS.at (xs.map aN.row) i=(xs.getD i aN.zero).r)/\(∀x:aN,(aN.r x).eF=x.eF)/\(∀x:aN,(aN.r x).bH=(x.bH.map bk)):=⟨fun _ _=>aN.cZ,aN.yQ,aN.oc⟩
def aN.Sm (n:Nat)(x:aN):Prop:=bM n (fun y:Int=>True) x.bH
def aN.size (x:aN):Nat:=dU (fun y:Int=>0) x.bH
structure dS where
 eF:Int
 aS:aV
 cJ:aV
 eH:bS
 dh:bS
structure bV where
 eF:Int
 aS:ah
 cJ:ah
 eH:aN
 dh:aN
def dS.enc (x:dS):List L:=[.int x.eF,.str x.aS.aZ,.int x.aS.bI,.int x.aS.bX,.sl x.aS.bH,.str x.cJ.aZ,.int x.cJ.bI,.int x.cJ.bX,.sl x.cJ.bH,.int x.eH.eF,.sl x.eH.bH,.int x.dh.eF,.sl x.dh.bH]
def dS.dec (r:List L):dS:=⟨((aA 0 r).headD .hole).toInt,⟨((aA 1 r).headD .hole).toStr,((aA 2 r).headD .hole).toInt,((aA 3 r).headD .hole).toInt,((aA 4 r).headD .hole).aQ⟩,⟨((aA 5 r).headD .hole).toStr,((aA 6 r).headD .hole).toInt,((aA 7 r).headD .hole).toInt,((aA 8 r).headD .hole).aQ⟩,⟨((aA 9 r).headD .hole).toInt,((aA 10 r).headD .hole).aQ⟩,⟨((aA 11 r).headD .hole).toInt,((aA 12 r).headD .hole).aQ⟩⟩
instance :RT dS:=⟨dS.enc,dS.dec,13,fun _ _=>rfl,fun _ _=>rfl⟩
def dS.at (xs:aE)(i:Nat):dS:=dS.dec (List.getD xs i [])
def bV.r (x:bV):dS:=⟨x.eF,(ah.r x.aS),(ah.r x.cJ),(aN.r x.eH),(aN.r x.dh)⟩
def bV.row (x:bV):List L:=dS.enc x.r
def bV.zero:bV:=⟨0,ah.zero,ah.zero,aN.zero,aN.zero⟩
def bV.cO {a b:bV}(h:a.r=b.r):a=b:=by
 cases a;cases b
 simp only [bV.r,dS.mk.injEq] at h
 obtain ⟨h0,h1,h2,h3,h4⟩:=h
 simp only [bV.mk.injEq]
 exact ⟨h0,(ah.cO h1),(ah.cO h2),(aN.cO h3),(aN.cO h4)⟩
def bV.cL {a b:bV}(h:bV.row a=bV.row b):a=b:=bV.cO (congrArg dS.dec h)
def bV.cZ {xs:List bV}{i:Nat}:dS.at (xs.map bV.row) i=(xs.getD i bV.zero).r:=eo (r:=fun x=>bV.r x) (fun _=>rfl) rfl
def bV.yQ (x:bV):(bV.r x).eF=x.eF:=Eq.trans rfl rfl
def bV.oD (x:bV):(bV.r x).aS=(ah.r x.aS):=Eq.trans rfl rfl
def bV.yL (x:bV):(bV.r x).cJ=(ah.r x.cJ):=Eq.trans rfl rfl
def bV.zN (x:bV):(bV.r x).eH=(aN.r x.eH):=Eq.trans rfl rfl
def bV.yp (x:bV):(bV.r x).dh=(aN.r x.dh):=Eq.trans rfl rfl
instance :Row bV:=⟨bV.row,bV.cL⟩
instance :Im bV dS:=⟨bV.r,bV.cO⟩
def bV.rs:(∀(xs:List bV) (i:Nat),dS.at (xs.map bV.row) i=(xs.getD i bV.zero).r)/\(∀x:bV,(bV.r x).eF=x.eF)/\(∀x:bV,(bV.r x).aS=(ah.r x.aS))/\(∀x:bV,(bV.r x).cJ=(ah.r x.cJ))/\(∀x:bV,(bV.r x).eH=(aN.r x.eH))/\(∀x:bV,(bV.r x).dh=(aN.r x.dh)):=⟨fun _ _=>bV.cZ,bV.yQ,bV.oD,bV.yL,bV.zN,bV.yp⟩
def bV.Sm (n:Nat)(x:bV):Prop:=ah.Sm n x.aS/\ah.Sm n x.cJ/\aN.Sm n x.eH/\aN.Sm n x.dh
def bV.size (x:bV):Nat:=ah.size x.aS+ah.size x.cJ+aN.size x.eH+aN.size x.dh
structure bf where
 aU:aE
 cw:Bool
 aR:aV
 eE:bS
 eX:dS
structure az where
 aU:List aa
 cw:Bool
 aR:ah
 eE:aN
 eX:bV
def bf.enc (x:bf):List L:=[.sl x.aU,.bool x.cw,.str x.aR.aZ,.int x.aR.bI,.int x.aR.bX,.sl x.aR.bH,.int x.eE.eF,.sl x.eE.bH,.int x.eX.eF,.str x.eX.aS.aZ,.int x.eX.aS.bI,.int x.eX.aS.bX,.sl x.eX.aS.bH,.str x.eX.cJ.aZ,.int x.eX.cJ.bI,.int x.eX.cJ.bX,.sl x.eX.cJ.bH,.int x.eX.eH.eF,.sl x.eX.eH.bH,.int x.eX.dh.eF,.sl x.eX.dh.bH]
def bf.dec (r:List L):bf:=⟨((aA 0 r).headD .hole).aQ,((aA 1 r).headD .hole).toBool,⟨((aA 2 r).headD .hole).toStr,((aA 3 r).headD .hole).toInt,((aA 4 r).headD .hole).toInt,((aA 5 r).headD .hole).aQ⟩,⟨((aA 6 r).headD .hole).toInt,((aA 7 r).headD .hole).aQ⟩,⟨((aA 8 r).headD .hole).toInt,⟨((aA 9 r).headD .hole).toStr,((aA 10 r).headD .hole).toInt,((aA 11 r).headD .hole).toInt,((aA 12 r).headD .hole).aQ⟩,⟨((aA 13 r).headD .hole).toStr,((aA 14 r).headD .hole).toInt,((aA 15 r).headD .hole).toInt,((aA 16 r).headD .hole).aQ⟩,⟨((aA 17 r).headD .hole).toInt,((aA 18 r).headD .hole).aQ⟩,⟨((aA 19 r).headD .hole).toInt,((aA 20 r).headD .hole).aQ⟩⟩⟩
instance :RT bf:=⟨bf.enc,bf.dec,21,fun _ _=>rfl,fun _ _=>rfl⟩
def bf.at (xs:aE)(i:Nat):bf:=bf.dec (List.getD xs i [])
def az.r (x:az):bf:=⟨(x.aU.map aa.row),x.cw,(ah.r x.aR),(aN.r x.eE),(bV.r x.eX)⟩
def az.row (x:az):List L:=bf.enc x.r
def az.zero:az:=⟨[],false,ah.zero,aN.zero,bV.zero⟩
def az.cO {a b:az}(h:a.r=b.r):a=b:=by
 cases a;cases b
 simp only [az.r,bf.mk.injEq] at h
 obtain ⟨h0,h1,h2,h3,h4⟩:=h
 simp only [az.mk.injEq]
 exact ⟨(map_inj aa.cL h0),h1,(ah.cO h2),(aN.cO h3),(bV.cO h4)⟩
def az.cL {a b:az}(h:az.row a=az.row b):a=b:=az.cO (congrArg bf.dec h)
def az.cZ {xs:List az}{i:Nat}:bf.at (xs.map az.row) i=(xs.getD i az.zero).r:=eo (r:=fun x=>az.r x) (fun _=>rfl) rfl
def az.qJ (x:az):(az.r x).aU=(x.aU.map aa.row):=Eq.trans rfl rfl
def az.ru (x:az):(az.r x).cw=x.cw:=Eq.trans rfl rfl
def az.iC (x:az):(az.r x).aR=(ah.r x.aR):=Eq.trans rfl rfl
def az.xE (x:az):(az.r x).eE=(aN.r x.eE):=Eq.trans rfl rfl
def az.AJ (x:az):(az.r x).eX=(bV.r x.eX):=Eq.trans rfl rfl
instance :Row az:=⟨az.row,az.cL⟩
instance :Im az bf:=⟨az.r,az.cO⟩
def az.rs:(∀(xs:List az) (i:Nat),bf.at (xs.map az.row) i=(xs.getD i az.zero).r)/\(∀x:az,(az.r x).aU=(x.aU.map aa.row))/\(∀x:az,(az.r x).cw=x.cw)/\(∀x:az,(az.r x).aR=(ah.r x.aR))/\(∀x:az,(az.r x).eE=(aN.r x.eE))/\(∀x:az,(az.r x).eX=(bV.r x.eX)):=⟨fun _ _=>az.cZ,az.qJ,az.ru,az.iC,az.xE,az.AJ⟩
def az.Sm (n:Nat)(x:az):Prop:=bM n (fun y:aa=>aa.Sm n y) x.aU/\ah.Sm n x.aR/\aN.Sm n x.eE/\bV.Sm n x.eX
def az.size (x:az):Nat:=dU (fun y:aa=>aa.size y) x.aU+ah.size x.aR+aN.size x.eE+bV.size x.eX
structure fL where
 bC:Int
 aZ:aD
 ef:bf
structure cB where
 bC:Int
 aZ:aD
 ef:az
def fL.enc (x:fL):List L:=[.int x.bC,.str x.aZ,.sl x.ef.aU,.bool x.ef.cw,.str x.ef.aR.aZ,.int x.ef.aR.bI,.int x.ef.aR.bX,.sl x.ef.aR.bH,.int x.ef.eE.eF,.sl x.ef.eE.bH,.int x.ef.eX.eF,.str x.ef.eX.aS.aZ,.int x.ef.eX.aS.bI,.int x.ef.eX.aS.bX,.sl x.ef.eX.aS.bH,.str x.ef.eX.cJ.aZ,.int x.ef.eX.cJ.bI,.int x.ef.eX.cJ.bX,.sl x.ef.eX.cJ.bH,.int x.ef.eX.eH.eF,.sl x.ef.eX.eH.bH,.int x.ef.eX.dh.eF,.sl x.ef.eX.dh.bH]
def fL.dec (r:List L):fL:=⟨((aA 0 r).headD .hole).toInt,((aA 1 r).headD .hole).toStr,⟨((aA 2 r).headD .hole).aQ,((aA 3 r).headD .hole).toBool,⟨((aA 4 r).headD .hole).toStr,((aA 5 r).headD .hole).toInt,((aA 6 r).headD .hole).toInt,((aA 7 r).headD .hole).aQ⟩,⟨((aA 8 r).headD .hole).toInt,((aA 9 r).headD .hole).aQ⟩,⟨((aA 10 r).headD .hole).toInt,⟨((aA 11 r).headD .hole).toStr,((aA 12 r).headD .hole).toInt,((aA 13 r).headD .hole).toInt,((aA 14 r).headD .hole).aQ⟩,⟨((aA 15 r).headD .hole).toStr,((aA 16 r).headD .hole).toInt,((aA 17 r).headD .hole).toInt,((aA 18 r).headD .hole).aQ⟩,⟨((aA 19 r).headD .hole).toInt,((aA 20 r).headD .hole).aQ⟩,⟨((aA 21 r).headD .hole).toInt,((aA 22 r).headD .hole).aQ⟩⟩⟩⟩
instance :RT fL:=⟨fL.enc,fL.dec,23,fun _ _=>rfl,fun _ _=>rfl⟩
def fL.at (xs:aE)(i:Nat):fL:=fL.dec (List.getD xs i [])
def cB.r (x:cB):fL:=⟨x.bC,x.aZ,(az.r x.ef)⟩
def cB.row (x:cB):List L:=fL.enc x.r
def cB.zero:cB:=⟨0,⟨#[]⟩,az.zero⟩
def cB.cO {a b:cB}(h:a.r=b.r):a=b:=by
 cases a;cases b
 simp only [cB.r,fL.mk.injEq] at h
 obtain ⟨h0,h1,h2⟩:=h
 simp only [cB.mk.injEq]
 exact ⟨h0,h1,(az.cO h2)⟩
def cB.cL {a b:cB}(h:cB.row a=cB.row b):a=b:=cB.cO (congrArg fL.dec h)
def cB.cZ {xs:List cB}{i:Nat}:fL.at (xs.map cB.row) i=(xs.getD i cB.zero).r:=eo (r:=fun x=>cB.r x) (fun _=>rfl) rfl
def cB.sM (x:cB):(cB.r x).bC=x.bC:=Eq.trans rfl rfl
def cB.qW (x:cB):(cB.r x).aZ=x.aZ:=Eq.trans rfl rfl
def cB.xz (x:cB):(cB.r x).ef=(az.r x.ef):=Eq.trans rfl rfl
instance :Row cB:=⟨cB.row,cB.cL⟩
instance :Im cB fL:=⟨cB.r,cB.cO⟩
def cB.rs:(∀(xs:List cB) (i:Nat),fL.at (xs.map cB.row) i=(xs.getD i cB.zero).r)/\(∀x:cB,(cB.r x).bC=x.bC)/\(∀x:cB,(cB.r x).aZ=x.aZ)/\(∀x:cB,(cB.r x).ef=(az.r x.ef)):=⟨fun _ _=>cB.cZ,cB.sM,cB.qW,cB.xz⟩
structure gB where
 aX:aE
structure dG where
 aX:List cB
def gB.enc (x:gB):List L:=[.sl x.aX]
def gB.dec (r:List L):gB:=⟨((aA 0 r).headD .hole).aQ⟩
instance :RT gB:=⟨gB.enc,gB.dec,1,fun _ _=>rfl,fun _ _=>rfl⟩
def gB.at (xs:aE)(i:Nat):gB:=gB.dec (List.getD xs i [])
def dG.r (x:dG):gB:=⟨(x.aX.map cB.row)⟩
def dG.row (x:dG):List L:=gB.enc x.r
def dG.zero:dG:=⟨[]⟩
def dG.cO {a b:dG}(h:a.r=b.r):a=b:=by
 cases a;cases b
 simp only [dG.r,gB.mk.injEq] at h
 have h0:=h
 simp only [dG.mk.injEq]
 exact (map_inj cB.cL h0)
def dG.cL {a b:dG}(h:dG.row a=dG.row b):a=b:=dG.cO (congrArg gB.dec h)
def dG.cZ {xs:List dG}{i:Nat}:gB.at (xs.map dG.row) i=(xs.getD i dG.zero).r:=eo (r:=fun x=>dG.r x) (fun _=>rfl) rfl
def dG.tu (x:dG):(dG.r x).aX=(x.aX.map cB.row):=Eq.trans rfl rfl
instance :Row dG:=⟨dG.row,dG.cL⟩
instance :Im dG gB:=⟨dG.r,dG.cO⟩
def dG.rs:(∀(xs:List dG) (i:Nat),gB.at (xs.map dG.row) i=(xs.getD i dG.zero).r)/\(∀x:dG,(dG.r x).aX=(x.aX.map cB.row)):=⟨fun _ _=>dG.cZ,dG.tu⟩
structure cS where
 bZ:bw
 fq:Int
 aR:aV
 bJ:aE
 fo:Int
structure bu where
 bZ:au
 fq:Int
 aR:ah
 bJ:List Int
 fo:Int
def cS.enc (x:cS):List L:=[.sl x.bZ.aK,.sl x.bZ.bn,.int x.fq,.str x.aR.aZ,.int x.aR.bI,.int x.aR.bX,.sl x.aR.bH,.sl x.bJ,.int x.fo]
def cS.dec (r:List L):cS:=⟨⟨((aA 0 r).headD .hole).aQ,((aA 1 r).headD .hole).aQ⟩,((aA 2 r).headD .hole).toInt,⟨((aA 3 r).headD .hole).toStr,((aA 4 r).headD .hole).toInt,((aA 5 r).headD .hole).toInt,((aA 6 r).headD .hole).aQ⟩,((aA 7 r).headD .hole).aQ,((aA 8 r).headD .hole).toInt⟩
instance :RT cS:=⟨cS.enc,cS.dec,9,fun _ _=>rfl,fun _ _=>rfl⟩
def cS.at (xs:aE)(i:Nat):cS:=cS.dec (List.getD xs i [])
def bu.r (x:bu):cS:=⟨(au.r x.bZ),x.fq,(ah.r x.aR),(x.bJ.map bk),x.fo⟩
def bu.row (x:bu):List L:=cS.enc x.r
def bu.zero:bu:=⟨au.zero,0,ah.zero,[],0⟩
def bu.cO {a b:bu}(h:a.r=b.r):a=b:=by
 cases a;cases b
 simp only [bu.r,cS.mk.injEq] at h
 obtain ⟨h0,h1,h2,h3,h4⟩:=h
 simp only [bu.mk.injEq]
 exact ⟨(au.cO h0),h1,(ah.cO h2),(map_inj lq h3),h4⟩
def bu.cL {a b:bu}(h:bu.row a=bu.row b):a=b:=bu.cO (congrArg cS.dec h)
def bu.cZ {xs:List bu}{i:Nat}:cS.at (xs.map bu.row) i=(xs.getD i bu.zero).r:=eo (r:=fun x=>bu.r x) (fun _=>rfl) rfl
def bu.qX (x:bu):(bu.r x).bZ=(au.r x.bZ):=Eq.trans rfl rfl
def bu.sX (x:bu):(bu.r x).fq=x.fq:=Eq.trans rfl rfl
def bu.iC (x:bu):(bu.r x).aR=(ah.r x.aR):=Eq.trans rfl rfl
def bu.qy (x:bu):(bu.r x).bJ=(x.bJ.map bk):=Eq.trans rfl rfl
def bu.yY (x:bu):(bu.r x).fo=x.fo:=Eq.trans rfl rfl
instance :Row bu:=⟨bu.row,bu.cL⟩
instance :Im bu cS:=⟨bu.r,bu.cO⟩
def bu.rs:(∀(xs:List bu) (i:Nat),cS.at (xs.map bu.row) i=(xs.getD i bu.zero).r)/\(∀x:bu,(bu.r x).bZ=(au.r x.bZ))/\(∀x:bu,(bu.r x).fq=x.fq)/\(∀x:bu,(bu.r x).aR=(ah.r x.aR))/\(∀x:bu,(bu.r x).bJ=(x.bJ.map bk))/\(∀x:bu,(bu.r x).fo=x.fo):=⟨fun _ _=>bu.cZ,bu.qX,bu.sX,bu.iC,bu.qy,bu.yY⟩
def bu.size (x:bu):Nat:=au.size x.bZ+ah.size x.aR+dU (fun y:Int=>0) x.bJ
structure iR where
 ig:cS
 mJ:gB
structure eu where
 ig:bu
 mJ:dG
def iR.enc (x:iR):List L:=[.sl x.ig.bZ.aK,.sl x.ig.bZ.bn,.int x.ig.fq,.str x.ig.aR.aZ,.int x.ig.aR.bI,.int x.ig.aR.bX,.sl x.ig.aR.bH,.sl x.ig.bJ,.int x.ig.fo,.sl x.mJ.aX]
def iR.dec (r:List L):iR:=⟨⟨⟨((aA 0 r).headD .hole).aQ,((aA 1 r).headD .hole).aQ⟩,((aA 2 r).headD .hole).toInt,⟨((aA 3 r).headD .hole).toStr,((aA 4 r).headD .hole).toInt,((aA 5 r).headD .hole).toInt,((aA 6 r).headD .hole).aQ⟩,((aA 7 r).headD .hole).aQ,((aA 8 r).headD .hole).toInt⟩,⟨((aA 9 r).headD .hole).aQ⟩⟩
instance :RT iR:=⟨iR.enc,iR.dec,10,fun _ _=>rfl,fun _ _=>rfl⟩
def iR.at (xs:aE)(i:Nat):iR:=iR.dec (List.getD xs i [])
def eu.r (x:eu):iR:=⟨(bu.r x.ig),(dG.r x.mJ)⟩
def eu.row (x:eu):List L:=iR.enc x.r
def eu.zero:eu:=⟨bu.zero,dG.zero⟩
def eu.cO {a b:eu}(h:a.r=b.r):a=b:=by
 cases a;cases b
 simp only [eu.r,iR.mk.injEq] at h
 obtain ⟨h0,h1⟩:=h
 simp only [eu.mk.injEq]
 exact ⟨(bu.cO h0),(dG.cO h1)⟩
def eu.cL {a b:eu}(h:eu.row a=eu.row b):a=b:=eu.cO (congrArg iR.dec h)
def eu.cZ {xs:List eu}{i:Nat}:iR.at (xs.map eu.row) i=(xs.getD i eu.zero).r:=eo (r:=fun x=>eu.r x) (fun _=>rfl) rfl
def eu.yl (x:eu):(eu.r x).ig=(bu.r x.ig):=Eq.trans rfl rfl
def eu.yZ (x:eu):(eu.r x).mJ=(dG.r x.mJ):=Eq.trans rfl rfl
instance :Row eu:=⟨eu.row,eu.cL⟩
instance :Im eu iR:=⟨eu.r,eu.cO⟩
def eu.rs:(∀(xs:List eu) (i:Nat),iR.at (xs.map eu.row) i=(xs.getD i eu.zero).r)/\(∀x:eu,(eu.r x).ig=(bu.r x.ig))/\(∀x:eu,(eu.r x).mJ=(dG.r x.mJ)):=⟨fun _ _=>eu.cZ,eu.yl,eu.yZ⟩
structure iW where
 qF:Int
 bP:bE
 bI:Int
structure dR where
 qF:Int
 bP:aM
 bI:Int
def iW.enc (x:iW):List L:=[.int x.qF,.sl x.bP.aX,.int x.bP.cF,.int x.bI]
def iW.dec (r:List L):iW:=⟨((aA 0 r).headD .hole).toInt,⟨((aA 1 r).headD .hole).aQ,((aA 2 r).headD .hole).toInt⟩,((aA 3 r).headD .hole).toInt⟩
instance :RT iW:=⟨iW.enc,iW.dec,4,fun _ _=>rfl,fun _ _=>rfl⟩
def iW.at (xs:aE)(i:Nat):iW:=iW.dec (List.getD xs i [])
def dR.r (x:dR):iW:=⟨x.qF,(aM.r x.bP),x.bI⟩
def dR.row (x:dR):List L:=iW.enc x.r
def dR.zero:dR:=⟨0,aM.zero,0⟩
def dR.cO {a b:dR}(h:a.r=b.r):a=b:=by
 cases a;cases b
 simp only [dR.r,iW.mk.injEq] at h
 obtain ⟨h0,h1,h2⟩:=h
 simp only [dR.mk.injEq]
 exact ⟨h0,(aM.cO h1),h2⟩
def dR.cL {a b:dR}(h:dR.row a=dR.row b):a=b:=dR.cO (congrArg iW.dec h)
def dR.cZ {xs:List dR}{i:Nat}:iW.at (xs.map dR.row) i=(xs.getD i dR.zero).r:=eo (r:=fun x=>dR.r x) (fun _=>rfl) rfl
def dR.zJ (x:dR):(dR.r x).qF=x.qF:=Eq.trans rfl rfl
def dR.tg (x:dR):(dR.r x).bP=(aM.r x.bP):=Eq.trans rfl rfl
def dR.oq (x:dR):(dR.r x).bI=x.bI:=Eq.trans rfl rfl
instance :Row dR:=⟨dR.row,dR.cL⟩
instance :Im dR iW:=⟨dR.r,dR.cO⟩
def dR.rs:(∀(xs:List dR) (i:Nat),iW.at (xs.map dR.row) i=(xs.getD i dR.zero).r)/\(∀x:dR,(dR.r x).qF=x.qF)/\(∀x:dR,(dR.r x).bP=(aM.r x.bP))/\(∀x:dR,(dR.r x).bI=x.bI):=⟨fun _ _=>dR.cZ,dR.zJ,dR.tg,dR.oq⟩
structure eG where
 fq:Int
 aR:aV
 kO:aE
structure bW where
 fq:Int
 aR:ah
 kO:List ah
def eG.enc (x:eG):List L:=[.int x.fq,.str x.aR.aZ,.int x.aR.bI,.int x.aR.bX,.sl x.aR.bH,.sl x.kO]
def eG.dec (r:List L):eG:=⟨((aA 0 r).headD .hole).toInt,⟨((aA 1 r).headD .hole).toStr,((aA 2 r).headD .hole).toInt,((aA 3 r).headD .hole).toInt,((aA 4 r).headD .hole).aQ⟩,((aA 5 r).headD .hole).aQ⟩
instance :RT eG:=⟨eG.enc,eG.dec,6,fun _ _=>rfl,fun _ _=>rfl⟩
def eG.at (xs:aE)(i:Nat):eG:=eG.dec (List.getD xs i [])
def bW.r (x:bW):eG:=⟨x.fq,(ah.r x.aR),(x.kO.map ah.row)⟩
def bW.row (x:bW):List L:=eG.enc x.r
def bW.zero:bW:=⟨0,ah.zero,[]⟩
def bW.cO {a b:bW}(h:a.r=b.r):a=b:=by
 cases a;cases b
 simp only [bW.r,eG.mk.injEq] at h
 obtain ⟨h0,h1,h2⟩:=h
 simp only [bW.mk.injEq]
 exact ⟨h0,(ah.cO h1),(map_inj ah.cL h2)⟩
def bW.cL {a b:bW}(h:bW.row a=bW.row b):a=b:=bW.cO (congrArg eG.dec h)
def bW.cZ {xs:List bW}{i:Nat}:eG.at (xs.map bW.row) i=(xs.getD i bW.zero).r:=eo (r:=fun x=>bW.r x) (fun _=>rfl) rfl
def bW.sX (x:bW):(bW.r x).fq=x.fq:=Eq.trans rfl rfl
def bW.iC (x:bW):(bW.r x).aR=(ah.r x.aR):=Eq.trans rfl rfl
def bW.wR (x:bW):(bW.r x).kO=(x.kO.map ah.row):=Eq.trans rfl rfl
instance :Row bW:=⟨bW.row,bW.cL⟩
instance :Im bW eG:=⟨bW.r,bW.cO⟩
def bW.rs:(∀(xs:List bW) (i:Nat),eG.at (xs.map bW.row) i=(xs.getD i bW.zero).r)/\(∀x:bW,(bW.r x).fq=x.fq)/\(∀x:bW,(bW.r x).aR=(ah.r x.aR))/\(∀x:bW,(bW.r x).kO=(x.kO.map ah.row)):=⟨fun _ _=>bW.cZ,bW.sX,bW.iC,bW.wR⟩
structure dx where
 bZ:bw
 cw:Bool
 aR:aV
 kr:Bool
 kQ:aE
structure bT where
 bZ:au
 cw:Bool
 aR:ah
 kr:Bool
 kQ:List Int
def dx.enc (x:dx):List L:=[.sl x.bZ.aK,.sl x.bZ.bn,.bool x.cw,.str x.aR.aZ,.int x.aR.bI,.int x.aR.bX,.sl x.aR.bH,.bool x.kr,.sl x.kQ]
def dx.dec (r:List L):dx:=⟨⟨((aA 0 r).headD .hole).aQ,((aA 1 r).headD .hole).aQ⟩,((aA 2 r).headD .hole).toBool,⟨((aA 3 r).headD .hole).toStr,((aA 4 r).headD .hole).toInt,((aA 5 r).headD .hole).toInt,((aA 6 r).headD .hole).aQ⟩,((aA 7 r).headD .hole).toBool,((aA 8 r).headD .hole).aQ⟩
instance :RT dx:=⟨dx.enc,dx.dec,9,fun _ _=>rfl,fun _ _=>rfl⟩
def dx.at (xs:aE)(i:Nat):dx:=dx.dec (List.getD xs i [])
def bT.r (x:bT):dx:=⟨(au.r x.bZ),x.cw,(ah.r x.aR),x.kr,(x.kQ.map bk)⟩
def bT.row (x:bT):List L:=dx.enc x.r
def bT.zero:bT:=⟨au.zero,false,ah.zero,false,[]⟩
def bT.cO {a b:bT}(h:a.r=b.r):a=b:=by
 cases a;cases b
 simp only [bT.r,dx.mk.injEq] at h
 obtain ⟨h0,h1,h2,h3,h4⟩:=h
 simp only [bT.mk.injEq]
 exact ⟨(au.cO h0),h1,(ah.cO h2),h3,(map_inj lq h4)⟩
def bT.cL {a b:bT}(h:bT.row a=bT.row b):a=b:=bT.cO (congrArg dx.dec h)
def bT.cZ {xs:List bT}{i:Nat}:dx.at (xs.map bT.row) i=(xs.getD i bT.zero).r:=eo (r:=fun x=>bT.r x) (fun _=>rfl) rfl
def bT.qX (x:bT):(bT.r x).bZ=(au.r x.bZ):=Eq.trans rfl rfl
def bT.ru (x:bT):(bT.r x).cw=x.cw:=Eq.trans rfl rfl
def bT.iC (x:bT):(bT.r x).aR=(ah.r x.aR):=Eq.trans rfl rfl
def bT.zA (x:bT):(bT.r x).kr=x.kr:=Eq.trans rfl rfl
def bT.yA (x:bT):(bT.r x).kQ=(x.kQ.map bk):=Eq.trans rfl rfl
instance :Row bT:=⟨bT.row,bT.cL⟩
instance :Im bT dx:=⟨bT.r,bT.cO⟩
def bT.rs:(∀(xs:List bT) (i:Nat),dx.at (xs.map bT.row) i=(xs.getD i bT.zero).r)/\(∀x:bT,(bT.r x).bZ=(au.r x.bZ))/\(∀x:bT,(bT.r x).cw=x.cw)/\(∀x:bT,(bT.r x).aR=(ah.r x.aR))/\(∀x:bT,(bT.r x).kr=x.kr)/\(∀x:bT,(bT.r x).kQ=(x.kQ.map bk)):=⟨fun _ _=>bT.cZ,bT.qX,bT.ru,bT.iC,bT.zA,bT.yA⟩
def bT.Sm (n:Nat)(x:bT):Prop:=au.Sm n x.bZ/\ah.Sm n x.aR/\bM n (fun y:Int=>True) x.kQ
structure bF where
 fName:aD
 bC:Int
def bF.enc (x:bF):List L:=[.str x.fName,.int x.bC]
def bF.dec (r:List L):bF:=⟨((aA 0 r).headD .hole).toStr,((aA 1 r).headD .hole).toInt⟩
instance :RT bF:=⟨bF.enc,bF.dec,2,fun _ _=>rfl,fun _ _=>rfl⟩
def bF.at (xs:aE)(i:Nat):bF:=bF.dec (List.getD xs i [])
def bF.row (x:bF):List L:=bF.enc x
def bF.zero:bF:=⟨⟨#[]⟩,0⟩
def bF.cL {a b:bF}(h:bF.row a=bF.row b):a=b:=congrArg bF.dec h
def bF.eA {xs:List bF}{i:Nat}(h:i<xs.length):bF.at (xs.map bF.row) i=xs[i]:=by unfold bF.at;rw [getD_map h];rfl
def bF.cZ {xs:List bF}{i:Nat}:bF.at (xs.map bF.row) i=xs.getD i bF.zero:=eo (r:=fun x=>x) (fun _=>rfl) rfl
instance :Row bF:=⟨bF.row,bF.cL⟩
instance :Im bF bF:=⟨fun x=>x,fun h=>h⟩
def bF.rs:(∀(xs:List bF) (i:Nat),bF.at (xs.map bF.row) i=xs.getD i bF.zero):=fun _ _=>bF.cZ
def bF.Sm (n:Nat)(x:bF):Prop:=(x.fName).size<=n
def bF.size (x:bF):Nat:=(x.fName).size
def bF.cU {n m:Nat}(hn:n<=m){x:bF}(h:bF.Sm n x):bF.Sm m x:=Nat.le_trans h hn
def bF.gm {n:Nat}{x:bF}(h:x.size<=n):bF.Sm n x:=by
 unfold bF.size at h
 have g0:(x.fName).size<=n:=by omega
 exact g0
structure dQ where
 aU:aE
 bO:aE
structure aL where
 aU:List aa
 bO:List ah
def dQ.enc (x:dQ):List L:=[.sl x.aU,.sl x.bO]
def dQ.dec (r:List L):dQ:=⟨((aA 0 r).headD .hole).aQ,((aA 1 r).headD .hole).aQ⟩
instance :RT dQ:=⟨dQ.enc,dQ.dec,2,fun _ _=>rfl,fun _ _=>rfl⟩
def dQ.at (xs:aE)(i:Nat):dQ:=dQ.dec (List.getD xs i [])
def aL.r (x:aL):dQ:=⟨(x.aU.map aa.row),(x.bO.map ah.row)⟩
def aL.row (x:aL):List L:=dQ.enc x.r
def aL.zero:aL:=⟨[],[]⟩
def aL.cO {a b:aL}(h:a.r=b.r):a=b:=by
 cases a;cases b
 simp only [aL.r,dQ.mk.injEq] at h
 obtain ⟨h0,h1⟩:=h
 simp only [aL.mk.injEq]
 exact ⟨(map_inj aa.cL h0),(map_inj ah.cL h1)⟩
def aL.cL {a b:aL}(h:aL.row a=aL.row b):a=b:=aL.cO (congrArg dQ.dec h)
def aL.eA {xs:List aL}{i:Nat}(h:i<xs.length):dQ.at (xs.map aL.row) i=(xs[i]).r:=by unfold dQ.at;rw [getD_map h];rfl
def aL.cZ {xs:List aL}{i:Nat}:dQ.at (xs.map aL.row) i=(xs.getD i aL.zero).r:=eo (r:=fun x=>aL.r x) (fun _=>rfl) rfl
def aL.qJ (x:aL):(aL.r x).aU=(x.aU.map aa.row):=Eq.trans rfl rfl
def aL.vV (x:aL):(aL.r x).bO=(x.bO.map ah.row):=Eq.trans rfl rfl
instance :Row aL:=⟨aL.row,aL.cL⟩
instance :Im aL dQ:=⟨aL.r,aL.cO⟩
def aL.rs:(∀(xs:List aL) (i:Nat),dQ.at (xs.map aL.row) i=(xs.getD i aL.zero).r)/\(∀x:aL,(aL.r x).aU=(x.aU.map aa.row))/\(∀x:aL,(aL.r x).bO=(x.bO.map ah.row)):=⟨fun _ _=>aL.cZ,aL.qJ,aL.vV⟩
def aL.Sm (n:Nat)(x:aL):Prop:=bM n (fun y:aa=>aa.Sm n y) x.aU/\bM n (fun y:ah=>ah.Sm n y) x.bO
def aL.size (x:aL):Nat:=dU (fun y:aa=>aa.size y) x.aU+dU (fun y:ah=>ah.size y) x.bO
def aL.cU {n m:Nat}(hn:n<=m){x:aL}(h:aL.Sm n x):aL.Sm m x:=⟨h.1.mono hn (fun x hx=>aa.cU hn hx),h.2.mono hn (fun x hx=>ah.cU hn hx)⟩
def aL.gm {n:Nat}{x:aL}(h:x.size<=n):aL.Sm n x:=by
 unfold aL.size at h
 have g0:dU (fun y:aa=>aa.size y) x.aU<=n:=by omega
 have g1:dU (fun y:ah=>ah.size y) x.bO<=n:=by omega
 exact ⟨jh g0 (fun x hx=>aa.gm hx),jh g1 (fun x hx=>ah.gm hx)⟩
structure cP where
 bJ:aE
 gW:Int
structure ay where
 bJ:List aL
 gW:Int
def cP.enc (x:cP):List L:=[.sl x.bJ,.int x.gW]
def cP.dec (r:List L):cP:=⟨((aA 0 r).headD .hole).aQ,((aA 1 r).headD .hole).toInt⟩
instance :RT cP:=⟨cP.enc,cP.dec,2,fun _ _=>rfl,fun _ _=>rfl⟩
def cP.at (xs:aE)(i:Nat):cP:=cP.dec (List.getD xs i [])
def ay.r (x:ay):cP:=⟨(x.bJ.map aL.row),x.gW⟩
def ay.row (x:ay):List L:=cP.enc x.r
def ay.zero:ay:=⟨[],0⟩
def ay.cO {a b:ay}(h:a.r=b.r):a=b:=by
 cases a;cases b
 simp only [ay.r,cP.mk.injEq] at h
 obtain ⟨h0,h1⟩:=h
 simp only [ay.mk.injEq]
 exact ⟨(map_inj aL.cL h0),h1⟩
def ay.cL {a b:ay}(h:ay.row a=ay.row b):a=b:=ay.cO (congrArg cP.dec h)
def ay.eA {xs:List ay}{i:Nat}(h:i<xs.length):cP.at (xs.map ay.row) i=(xs[i]).r:=by unfold cP.at;rw [getD_map h];rfl
def ay.cZ {xs:List ay}{i:Nat}:cP.at (xs.map ay.row) i=(xs.getD i ay.zero).r:=eo (r:=fun x=>ay.r x) (fun _=>rfl) rfl
def ay.qy (x:ay):(ay.r x).bJ=(x.bJ.map aL.row):=Eq.trans rfl rfl
def ay.Am (x:ay):(ay.r x).gW=x.gW:=Eq.trans rfl rfl
instance :Row ay:=⟨ay.row,ay.cL⟩
instance :Im ay cP:=⟨ay.r,ay.cO⟩
def ay.rs:(∀(xs:List ay) (i:Nat),cP.at (xs.map ay.row) i=(xs.getD i ay.zero).r)/\(∀x:ay,(ay.r x).bJ=(x.bJ.map aL.row))/\(∀x:ay,(ay.r x).gW=x.gW):=⟨fun _ _=>ay.cZ,ay.qy,ay.Am⟩
def ay.Sm (n:Nat)(x:ay):Prop:=bM n (fun y:aL=>aL.Sm n y) x.bJ
def ay.size (x:ay):Nat:=dU (fun y:aL=>aL.size y) x.bJ
def ay.cU {n m:Nat}(hn:n<=m){x:ay}(h:ay.Sm n x):ay.Sm m x:=h.mono hn (fun x hx=>aL.cU hn hx)
def ay.gm {n:Nat}{x:ay}(h:x.size<=n):ay.Sm n x:=by
 unfold ay.size at h
 have g0:dU (fun y:aL=>aL.size y) x.bJ<=n:=by omega
 exact jh g0 (fun x hx=>aL.gm hx)
structure eT where
 fName:aD
 bC:Int
def eT.enc (x:eT):List L:=[.str x.fName,.int x.bC]
def eT.dec (r:List L):eT:=⟨((aA 0 r).headD .hole).toStr,((aA 1 r).headD .hole).toInt⟩
instance :RT eT:=⟨eT.enc,eT.dec,2,fun _ _=>rfl,fun _ _=>rfl⟩
def eT.at (xs:aE)(i:Nat):eT:=eT.dec (List.getD xs i [])
def eT.row (x:eT):List L:=eT.enc x
def eT.zero:eT:=⟨⟨#[]⟩,0⟩
def eT.cL {a b:eT}(h:eT.row a=eT.row b):a=b:=congrArg eT.dec h
def eT.cZ {xs:List eT}{i:Nat}:eT.at (xs.map eT.row) i=xs.getD i eT.zero:=eo (r:=fun x=>x) (fun _=>rfl) rfl
instance :Row eT:=⟨eT.row,eT.cL⟩
instance :Im eT eT:=⟨fun x=>x,fun h=>h⟩
def eT.rs:(∀(xs:List eT) (i:Nat),eT.at (xs.map eT.row) i=xs.getD i eT.zero):=fun _ _=>eT.cZ
structure fQ where
 bH:aE
 aR:aV
structure cV where
 bH:List aD
 aR:ah
def fQ.enc (x:fQ):List L:=[.sl x.bH,.str x.aR.aZ,.int x.aR.bI,.int x.aR.bX,.sl x.aR.bH]
def fQ.dec (r:List L):fQ:=⟨((aA 0 r).headD .hole).aQ,⟨((aA 1 r).headD .hole).toStr,((aA 2 r).headD .hole).toInt,((aA 3 r).headD .hole).toInt,((aA 4 r).headD .hole).aQ⟩⟩
instance :RT fQ:=⟨fQ.enc,fQ.dec,5,fun _ _=>rfl,fun _ _=>rfl⟩
def fQ.at (xs:aE)(i:Nat):fQ:=fQ.dec (List.getD xs i [])
def cV.r (x:cV):fQ:=⟨(x.bH.map cG),(ah.r x.aR)⟩
def cV.row (x:cV):List L:=fQ.enc x.r
def cV.zero:cV:=⟨[],ah.zero⟩
def cV.cO {a b:cV}(h:a.r=b.r):a=b:=by
 cases a;cases b
 simp only [cV.r,fQ.mk.injEq] at h
 obtain ⟨h0,h1⟩:=h
 simp only [cV.mk.injEq]
 exact ⟨(map_inj qn h0),(ah.cO h1)⟩
def cV.cL {a b:cV}(h:cV.row a=cV.row b):a=b:=cV.cO (congrArg fQ.dec h)
def cV.cZ {xs:List cV}{i:Nat}:fQ.at (xs.map cV.row) i=(xs.getD i cV.zero).r:=eo (r:=fun x=>cV.r x) (fun _=>rfl) rfl
def cV.oc (x:cV):(cV.r x).bH=(x.bH.map cG):=Eq.trans rfl rfl
def cV.iC (x:cV):(cV.r x).aR=(ah.r x.aR):=Eq.trans rfl rfl
instance :Row cV:=⟨cV.row,cV.cL⟩
instance :Im cV fQ:=⟨cV.r,cV.cO⟩
def cV.rs:(∀(xs:List cV) (i:Nat),fQ.at (xs.map cV.row) i=(xs.getD i cV.zero).r)/\(∀x:cV,(cV.r x).bH=(x.bH.map cG))/\(∀x:cV,(cV.r x).aR=(ah.r x.aR)):=⟨fun _ _=>cV.cZ,cV.oc,cV.iC⟩
def SS:=And.intro (And.intro S0 MM) (And.intro aM.rs (And.intro aG.rs (And.intro bp.rs (And.intro aa.rs (And.intro aC.rs (And.intro au.rs (And.intro ah.rs (And.intro aN.rs (And.intro bV.rs (And.intro az.rs (And.intro cB.rs (And.intro dG.rs (And.intro bu.rs (And.intro eu.rs (And.intro dR.rs (And.intro bW.rs (And.intro bT.rs (And.intro bF.rs (And.intro aL.rs (And.intro ay.rs (And.intro eT.rs (And.intro cV.rs trivial))))))))))))))))))))))
def fz {p:Prop}(h:p:=by first | rfl | (simp only [SS];done) | (simp only [MP];rfl) | (simp only [SS,MP];first | done | rfl) | (simp only [aM.r,aG.r,aa.r,aC.r,au.r,ah.r,aN.r,bV.r,az.r,cB.r,dG.r,bu.r,eu.r,dR.r,bW.r,bT.r,aL.r,ay.r,cV.r,SS,MP];first | done | rfl) | (simp only [SS,MP,List.length_take,List.length_drop];first | done | rfl)):p:=h
def rq {p q:Prop}(h:p)(k:p->q:=by intro R_;first | exact R_ | (simp only [MP,SS] at R_ ⊢;first | exact R_ | (rw [<-R_];rfl))):q:=k h
end Go.DM

end
