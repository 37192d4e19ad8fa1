/- The structures of the program, as mathematical records. Conditions: none. -/
import Derived.Test.YtojkbdgmandmpaaGreatLOwnersDd
set_option linter.all false
noncomputable section
namespace Go.DM
abbrev bU (i:Nat)(l:List L):Int:=((bt i l).headD .hole).toInt
abbrev hIq (l:List L):Int:=(l.headD .hole).toInt
abbrev gP (i:Nat)(l:List L):ak:=((bt i l).headD .hole).cy
abbrev eC (l:List L):ak:=(l.headD .hole).cy
abbrev BI (i:Nat)(l:List L):Bool:=((bt i l).headD .hole).toBool
abbrev hBq (l:List L):Bool:=(l.headD .hole).toBool
abbrev Ao (i:Nat)(l:List L):cE:=((bt i l).headD .hole).toStr
abbrev hTq (l:List L):cE:=(l.headD .hole).toStr
structure aX where
 aI:ak
 bS:Int
structure aq where
 aI:List Int
 bS:Int
def aX.enc (x:aX):List L:=[.sl x.aI,.int x.bS]
def aX.dec (r:List L):aX:=⟨(gP 0 r),(bU 1 r)⟩
instance :RT aX:=⟨aX.enc,aX.dec,2,fun _ _=>rfl,fun _ _=>rfl⟩
def aX.at (xs:ak)(i:Nat):aX:=aX.dec (List.getD xs i [])
def aq.r (x:aq):aX:=⟨(x.aI.map aQ),x.bS⟩
def aq.row (x:aq):List L:=aX.enc x.r
def aq.zero:aq:=⟨[],0⟩
def aq.bR {a b:aq}(h:a.r=b.r):a=b:=by
 cases a;cases b
 simp only [aq.r,aX.mk.injEq] at h
 obtain ⟨h0,h1⟩:=h
 simp only [aq.mk.injEq]
 exact ⟨(map_inj lY h0),h1⟩
def aq.bM {a b:aq}(h:aq.row a=aq.row b):a=b:=aq.bR (congrArg aX.dec h)
def aq.cu {xs:List aq}{i:Nat}:aX.at (xs.map aq.row) i=(xs.getD i aq.zero).r:=dH (r:=fun x=>aq.r x) (fun _=>rfl) rfl
def aq.AU (x:aq):(aq.r x).aI=(x.aI.map aQ):=Eq.trans rfl rfl
def aq.Bm (x:aq):(aq.r x).bS=x.bS:=Eq.trans rfl rfl
instance :Row aq:=⟨aq.row,aq.bM⟩
instance :Im aq aX:=⟨aq.r,aq.bR⟩
def aq.rs:(∀(xs:List aq) (i:Nat),aX.at (xs.map aq.row) i=(xs.getD i aq.zero).r)/\(∀x:aq,(aq.r x).aI=(x.aI.map aQ))/\(∀x:aq,(aq.r x).bS=x.bS):=⟨fun _ _=>aq.cu,aq.AU,aq.Bm⟩
def aq.Sm (n:Nat)(x:aq):Prop:=cw n (fun y:Int=>True) x.aI
def aq.aV {n m:Nat}(hn:n<=m){x:aq}(h:aq.Sm n x):aq.Sm m x:=h.mono hn (fun x hx=>trivial)
structure aR where
 bq:Int
 aY:Int
 aP:Int
 aO:Int
 aZ:Int
 bk:Int
 bE:Int
 bW:Int
 aE:aX
 aM:aX
 bu:Int
 aK:aX
 aH:Bool
structure aj where
 bq:Int
 aY:Int
 aP:Int
 aO:Int
 aZ:Int
 bk:Int
 bE:Int
 bW:Int
 aE:aq
 aM:aq
 bu:Int
 aK:aq
 aH:Bool
def aR.enc (x:aR):List L:=[.int x.bq,.int x.aY,.int x.aP,.int x.aO,.int x.aZ,.int x.bk,.int x.bE,.int x.bW,.sl x.aE.aI,.int x.aE.bS,.sl x.aM.aI,.int x.aM.bS,.int x.bu,.sl x.aK.aI,.int x.aK.bS,.bool x.aH]
def aR.dec (r:List L):aR:=⟨(bU 0 r),(bU 1 r),(bU 2 r),(bU 3 r),(bU 4 r),(bU 5 r),(bU 6 r),(bU 7 r),⟨(gP 8 r),(bU 9 r)⟩,⟨(gP 10 r),(bU 11 r)⟩,(bU 12 r),⟨(gP 13 r),(bU 14 r)⟩,(BI 15 r)⟩
instance :RT aR:=⟨aR.enc,aR.dec,16,fun _ _=>rfl,fun _ _=>rfl⟩
def aR.at (xs:ak)(i:Nat):aR:=aR.dec (List.getD xs i [])
def aj.r (x:aj):aR:=⟨x.bq,x.aY,x.aP,x.aO,x.aZ,x.bk,x.bE,x.bW,(aq.r x.aE),(aq.r x.aM),x.bu,(aq.r x.aK),x.aH⟩
def aj.row (x:aj):List L:=aR.enc x.r
def aj.zero:aj:=⟨0,0,0,0,0,0,0,0,aq.zero,aq.zero,0,aq.zero,false⟩
def aj.bR {a b:aj}(h:a.r=b.r):a=b:=by
 cases a;cases b
 simp only [aj.r,aR.mk.injEq] at h
 obtain ⟨h0,h1,h2,h3,h4,h5,h6,h7,h8,h9,h10,h11,h12⟩:=h
 simp only [aj.mk.injEq]
 exact ⟨h0,h1,h2,h3,h4,h5,h6,h7,(aq.bR h8),(aq.bR h9),h10,(aq.bR h11),h12⟩
def aj.bM {a b:aj}(h:aj.row a=aj.row b):a=b:=aj.bR (congrArg aR.dec h)
def aj.cu {xs:List aj}{i:Nat}:aR.at (xs.map aj.row) i=(xs.getD i aj.zero).r:=dH (r:=fun x=>aj.r x) (fun _=>rfl) rfl
def aj.Bc (x:aj):(aj.r x).bq=x.bq:=Eq.trans rfl rfl
def aj.AM (x:aj):(aj.r x).aY=x.aY:=Eq.trans rfl rfl
def aj.oy (x:aj):(aj.r x).aP=x.aP:=Eq.trans rfl rfl
def aj.BA (x:aj):(aj.r x).aO=x.aO:=Eq.trans rfl rfl
def aj.zY (x:aj):(aj.r x).aZ=x.aZ:=Eq.trans rfl rfl
def aj.zT (x:aj):(aj.r x).bk=x.bk:=Eq.trans rfl rfl
def aj.Bz (x:aj):(aj.r x).bE=x.bE:=Eq.trans rfl rfl
def aj.AW (x:aj):(aj.r x).bW=x.bW:=Eq.trans rfl rfl
def aj.ux (x:aj):(aj.r x).aE=(aq.r x.aE):=Eq.trans rfl rfl
def aj.zF (x:aj):(aj.r x).aM=(aq.r x.aM):=Eq.trans rfl rfl
def aj.By (x:aj):(aj.r x).bu=x.bu:=Eq.trans rfl rfl
def aj.zX (x:aj):(aj.r x).aK=(aq.r x.aK):=Eq.trans rfl rfl
def aj.yx (x:aj):(aj.r x).aH=x.aH:=Eq.trans rfl rfl
instance :Row aj:=⟨aj.row,aj.bM⟩
instance :Im aj aR:=⟨aj.r,aj.bR⟩
def aj.rs:(∀(xs:List aj) (i:Nat),aR.at (xs.map aj.row) i=(xs.getD i aj.zero).r)/\(∀x:aj,(aj.r x).bq=x.bq)/\(∀x:aj,(aj.r x).aY=x.aY)/\(∀x:aj,(aj.r x).aP=x.aP)/\(∀x:aj,(aj.r x).aO=x.aO)/\(∀x:aj,(aj.r x).aZ=x.aZ)/\(∀x:aj,(aj.r x).bk=x.bk)/\(∀x:aj,(aj.r x).bE=x.bE)/\(∀x:aj,(aj.r x).bW=x.bW)/\(∀x:aj,(aj.r x).aE=(aq.r x.aE))/\(∀x:aj,(aj.r x).aM=(aq.r x.aM))/\(∀x:aj,(aj.r x).bu=x.bu)/\(∀x:aj,(aj.r x).aK=(aq.r x.aK))/\(∀x:aj,(aj.r x).aH=x.aH):=⟨fun _ _=>aj.cu,aj.Bc,aj.AM,aj.oy,aj.BA,aj.zY,aj.zT,aj.Bz,aj.AW,aj.ux,aj.zF,aj.By,aj.zX,aj.yx⟩
def aj.Sm (n:Nat)(x:aj):Prop:=aq.Sm n x.aE/\aq.Sm n x.aM/\aq.Sm n x.aK
def aj.aV {n m:Nat}(hn:n<=m){x:aj}(h:aj.Sm n x):aj.Sm m x:=⟨aq.aV hn h.1,aq.aV hn h.2.1,aq.aV hn h.2.2⟩
structure ez where
 iP:Int
 aE:aX
 aP:Int
structure aS where
 iP:Int
 aE:aq
 aP:Int
def ez.enc (x:ez):List L:=[.int x.iP,.sl x.aE.aI,.int x.aE.bS,.int x.aP]
def ez.dec (r:List L):ez:=⟨(bU 0 r),⟨(gP 1 r),(bU 2 r)⟩,(bU 3 r)⟩
instance :RT ez:=⟨ez.enc,ez.dec,4,fun _ _=>rfl,fun _ _=>rfl⟩
def ez.at (xs:ak)(i:Nat):ez:=ez.dec (List.getD xs i [])
def aS.r (x:aS):ez:=⟨x.iP,(aq.r x.aE),x.aP⟩
def aS.row (x:aS):List L:=ez.enc x.r
def aS.zero:aS:=⟨0,aq.zero,0⟩
def aS.bR {a b:aS}(h:a.r=b.r):a=b:=by
 cases a;cases b
 simp only [aS.r,ez.mk.injEq] at h
 obtain ⟨h0,h1,h2⟩:=h
 simp only [aS.mk.injEq]
 exact ⟨h0,(aq.bR h1),h2⟩
def aS.bM {a b:aS}(h:aS.row a=aS.row b):a=b:=aS.bR (congrArg ez.dec h)
def aS.cu {xs:List aS}{i:Nat}:ez.at (xs.map aS.row) i=(xs.getD i aS.zero).r:=dH (r:=fun x=>aS.r x) (fun _=>rfl) rfl
def aS.A7 (x:aS):(aS.r x).iP=x.iP:=Eq.trans rfl rfl
def aS.ux (x:aS):(aS.r x).aE=(aq.r x.aE):=Eq.trans rfl rfl
def aS.oy (x:aS):(aS.r x).aP=x.aP:=Eq.trans rfl rfl
instance :Row aS:=⟨aS.row,aS.bM⟩
instance :Im aS ez:=⟨aS.r,aS.bR⟩
def aS.rs:(∀(xs:List aS) (i:Nat),ez.at (xs.map aS.row) i=(xs.getD i aS.zero).r)/\(∀x:aS,(aS.r x).iP=x.iP)/\(∀x:aS,(aS.r x).aE=(aq.r x.aE))/\(∀x:aS,(aS.r x).aP=x.aP):=⟨fun _ _=>aS.cu,aS.A7,aS.ux,aS.oy⟩
structure bl where
 cG:cE
 aP:Int
 dy:Int
 cm:ak
structure ah where
 cG:cE
 aP:Int
 dy:Int
 cm:List cE
def bl.enc (x:bl):List L:=[.str x.cG,.int x.aP,.int x.dy,.sl x.cm]
def bl.dec (r:List L):bl:=⟨(Ao 0 r),(bU 1 r),(bU 2 r),(gP 3 r)⟩
instance :RT bl:=⟨bl.enc,bl.dec,4,fun _ _=>rfl,fun _ _=>rfl⟩
def bl.at (xs:ak)(i:Nat):bl:=bl.dec (List.getD xs i [])
def ah.r (x:ah):bl:=⟨x.cG,x.aP,x.dy,(x.cm.map iB)⟩
def ah.row (x:ah):List L:=bl.enc x.r
def ah.zero:ah:=⟨⟨#[]⟩,0,0,[]⟩
def ah.bR {a b:ah}(h:a.r=b.r):a=b:=by
 cases a;cases b
 simp only [ah.r,bl.mk.injEq] at h
 obtain ⟨h0,h1,h2,h3⟩:=h
 simp only [ah.mk.injEq]
 exact ⟨h0,h1,h2,(map_inj sj h3)⟩
def ah.bM {a b:ah}(h:ah.row a=ah.row b):a=b:=ah.bR (congrArg bl.dec h)
def ah.CB {xs:List ah}{i:Nat}(h:i<xs.length):bl.at (xs.map ah.row) i=(xs[i]).r:=by unfold bl.at;rw [getD_map h];rfl
def ah.cu {xs:List ah}{i:Nat}:bl.at (xs.map ah.row) i=(xs.getD i ah.zero).r:=dH (r:=fun x=>ah.r x) (fun _=>rfl) rfl
def ah.Ab (x:ah):(ah.r x).cG=x.cG:=Eq.trans rfl rfl
def ah.oy (x:ah):(ah.r x).aP=x.aP:=Eq.trans rfl rfl
def ah.Au (x:ah):(ah.r x).dy=x.dy:=Eq.trans rfl rfl
def ah.ou (x:ah):(ah.r x).cm=(x.cm.map iB):=Eq.trans rfl rfl
instance :Row ah:=⟨ah.row,ah.bM⟩
instance :Im ah bl:=⟨ah.r,ah.bR⟩
def ah.rs:(∀(xs:List ah) (i:Nat),bl.at (xs.map ah.row) i=(xs.getD i ah.zero).r)/\(∀x:ah,(ah.r x).cG=x.cG)/\(∀x:ah,(ah.r x).aP=x.aP)/\(∀x:ah,(ah.r x).dy=x.dy)/\(∀x:ah,(ah.r x).cm=(x.cm.map iB)):=⟨fun _ _=>ah.cu,ah.Ab,ah.oy,ah.Au,ah.ou⟩
def ah.Sm (n:Nat)(x:ah):Prop:=(x.cG).size<=n/\cw n (fun y:cE=>(y).size<=n) x.cm
def ah.aV {n m:Nat}(hn:n<=m){x:ah}(h:ah.Sm n x):ah.Sm m x:=⟨Nat.le_trans h.1 hn,h.2.mono hn (fun x hx=>Nat.le_trans hx hn)⟩
structure dw where
 jh:Int
 bO:bl
 kC:ak
structure aW where
 jh:Int
 bO:ah
 kC:List ah
def dw.enc (x:dw):List L:=[.int x.jh,.str x.bO.cG,.int x.bO.aP,.int x.bO.dy,.sl x.bO.cm,.sl x.kC]
def dw.dec (r:List L):dw:=⟨(bU 0 r),⟨(Ao 1 r),(bU 2 r),(bU 3 r),(gP 4 r)⟩,(gP 5 r)⟩
instance :RT dw:=⟨dw.enc,dw.dec,6,fun _ _=>rfl,fun _ _=>rfl⟩
def dw.at (xs:ak)(i:Nat):dw:=dw.dec (List.getD xs i [])
def aW.r (x:aW):dw:=⟨x.jh,(ah.r x.bO),(x.kC.map ah.row)⟩
def aW.row (x:aW):List L:=dw.enc x.r
def aW.zero:aW:=⟨0,ah.zero,[]⟩
def aW.bR {a b:aW}(h:a.r=b.r):a=b:=by
 cases a;cases b
 simp only [aW.r,dw.mk.injEq] at h
 obtain ⟨h0,h1,h2⟩:=h
 simp only [aW.mk.injEq]
 exact ⟨h0,(ah.bR h1),(map_inj ah.bM h2)⟩
def aW.bM {a b:aW}(h:aW.row a=aW.row b):a=b:=aW.bR (congrArg dw.dec h)
def aW.cu {xs:List aW}{i:Nat}:dw.at (xs.map aW.row) i=(xs.getD i aW.zero).r:=dH (r:=fun x=>aW.r x) (fun _=>rfl) rfl
def aW.uf (x:aW):(aW.r x).jh=x.jh:=Eq.trans rfl rfl
def aW.gH (x:aW):(aW.r x).bO=(ah.r x.bO):=Eq.trans rfl rfl
def aW.yC (x:aW):(aW.r x).kC=(x.kC.map ah.row):=Eq.trans rfl rfl
instance :Row aW:=⟨aW.row,aW.bM⟩
instance :Im aW dw:=⟨aW.r,aW.bR⟩
def aW.rs:(∀(xs:List aW) (i:Nat),dw.at (xs.map aW.row) i=(xs.getD i aW.zero).r)/\(∀x:aW,(aW.r x).jh=x.jh)/\(∀x:aW,(aW.r x).bO=(ah.r x.bO))/\(∀x:aW,(aW.r x).kC=(x.kC.map ah.row)):=⟨fun _ _=>aW.cu,aW.uf,aW.gH,aW.yC⟩
structure bf where
 mI:Int
 wW:Int
def bf.enc (x:bf):List L:=[.int x.mI,.int x.wW]
def bf.dec (r:List L):bf:=⟨(bU 0 r),(bU 1 r)⟩
instance :RT bf:=⟨bf.enc,bf.dec,2,fun _ _=>rfl,fun _ _=>rfl⟩
def bf.at (xs:ak)(i:Nat):bf:=bf.dec (List.getD xs i [])
def bf.row (x:bf):List L:=bf.enc x
def bf.zero:bf:=⟨0,0⟩
def bf.bM {a b:bf}(h:bf.row a=bf.row b):a=b:=congrArg bf.dec h
def bf.cu {xs:List bf}{i:Nat}:bf.at (xs.map bf.row) i=xs.getD i bf.zero:=dH (r:=fun x=>x) (fun _=>rfl) rfl
instance :Row bf:=⟨bf.row,bf.bM⟩
instance :Im bf bf:=⟨fun x=>x,fun h=>h⟩
def bf.rs:(∀(xs:List bf) (i:Nat),bf.at (xs.map bf.row) i=xs.getD i bf.zero):=fun _ _=>bf.cu
def bf.Sm (n:Nat)(x:bf):Prop:=True
def bf.aV {n m:Nat}(_:n<=m){x:bf}(_:bf.Sm n x):bf.Sm m x:=trivial
structure aB where
 an:aR
 eB:ak
structure aa where
 an:aj
 eB:List bf
def aB.enc (x:aB):List L:=[.int x.an.bq,.int x.an.aY,.int x.an.aP,.int x.an.aO,.int x.an.aZ,.int x.an.bk,.int x.an.bE,.int x.an.bW,.sl x.an.aE.aI,.int x.an.aE.bS,.sl x.an.aM.aI,.int x.an.aM.bS,.int x.an.bu,.sl x.an.aK.aI,.int x.an.aK.bS,.bool x.an.aH,.sl x.eB]
def aB.dec (r:List L):aB:=⟨⟨(bU 0 r),(bU 1 r),(bU 2 r),(bU 3 r),(bU 4 r),(bU 5 r),(bU 6 r),(bU 7 r),⟨(gP 8 r),(bU 9 r)⟩,⟨(gP 10 r),(bU 11 r)⟩,(bU 12 r),⟨(gP 13 r),(bU 14 r)⟩,(BI 15 r)⟩,(gP 16 r)⟩
instance :RT aB:=⟨aB.enc,aB.dec,17,fun _ _=>rfl,fun _ _=>rfl⟩
def aB.at (xs:ak)(i:Nat):aB:=aB.dec (List.getD xs i [])
def aa.r (x:aa):aB:=⟨(aj.r x.an),(x.eB.map bf.row)⟩
def aa.row (x:aa):List L:=aB.enc x.r
def aa.zero:aa:=⟨aj.zero,[]⟩
def aa.bR {a b:aa}(h:a.r=b.r):a=b:=by
 cases a;cases b
 simp only [aa.r,aB.mk.injEq] at h
 obtain ⟨h0,h1⟩:=h
 simp only [aa.mk.injEq]
 exact ⟨(aj.bR h0),(map_inj bf.bM h1)⟩
def aa.bM {a b:aa}(h:aa.row a=aa.row b):a=b:=aa.bR (congrArg aB.dec h)
def aa.cu {xs:List aa}{i:Nat}:aB.at (xs.map aa.row) i=(xs.getD i aa.zero).r:=dH (r:=fun x=>aa.r x) (fun _=>rfl) rfl
def aa.Ba (x:aa):(aa.r x).an=(aj.r x.an):=Eq.trans rfl rfl
def aa.AV (x:aa):(aa.r x).eB=(x.eB.map bf.row):=Eq.trans rfl rfl
instance :Row aa:=⟨aa.row,aa.bM⟩
instance :Im aa aB:=⟨aa.r,aa.bR⟩
def aa.rs:(∀(xs:List aa) (i:Nat),aB.at (xs.map aa.row) i=(xs.getD i aa.zero).r)/\(∀x:aa,(aa.r x).an=(aj.r x.an))/\(∀x:aa,(aa.r x).eB=(x.eB.map bf.row)):=⟨fun _ _=>aa.cu,aa.Ba,aa.AV⟩
def aa.Sm (n:Nat)(x:aa):Prop:=aj.Sm n x.an/\cw n (fun y:bf=>bf.Sm n y) x.eB
def aa.aV {n m:Nat}(hn:n<=m){x:aa}(h:aa.Sm n x):aa.Sm m x:=⟨aj.aV hn h.1,h.2.mono hn (fun x hx=>bf.aV hn hx)⟩
structure ir where
 bX:aB
 fA:aB
 fB:aB
structure cC where
 bX:aa
 fA:aa
 fB:aa
def ir.enc (x:ir):List L:=[.int x.bX.an.bq,.int x.bX.an.aY,.int x.bX.an.aP,.int x.bX.an.aO,.int x.bX.an.aZ,.int x.bX.an.bk,.int x.bX.an.bE,.int x.bX.an.bW,.sl x.bX.an.aE.aI,.int x.bX.an.aE.bS,.sl x.bX.an.aM.aI,.int x.bX.an.aM.bS,.int x.bX.an.bu,.sl x.bX.an.aK.aI,.int x.bX.an.aK.bS,.bool x.bX.an.aH,.sl x.bX.eB,.int x.fA.an.bq,.int x.fA.an.aY,.int x.fA.an.aP,.int x.fA.an.aO,.int x.fA.an.aZ,.int x.fA.an.bk,.int x.fA.an.bE,.int x.fA.an.bW,.sl x.fA.an.aE.aI,.int x.fA.an.aE.bS,.sl x.fA.an.aM.aI,.int x.fA.an.aM.bS,.int x.fA.an.bu,.sl x.fA.an.aK.aI,.int x.fA.an.aK.bS,.bool x.fA.an.aH,.sl x.fA.eB,.int x.fB.an.bq,.int x.fB.an.aY,.int x.fB.an.aP,.int x.fB.an.aO,.int x.fB.an.aZ,.int x.fB.an.bk,.int x.fB.an.bE,.int x.fB.an.bW,.sl x.fB.an.aE.aI,.int x.fB.an.aE.bS,.sl x.fB.an.aM.aI,.int x.fB.an.aM.bS,.int x.fB.an.bu,.sl x.fB.an.aK.aI,.int x.fB.an.aK.bS,.bool x.fB.an.aH,.sl x.fB.eB]
def ir.dec (r:List L):ir:=⟨⟨⟨(bU 0 r),(bU 1 r),(bU 2 r),(bU 3 r),(bU 4 r),(bU 5 r),(bU 6 r),(bU 7 r),⟨(gP 8 r),(bU 9 r)⟩,⟨(gP 10 r),(bU 11 r)⟩,(bU 12 r),⟨(gP 13 r),(bU 14 r)⟩,(BI 15 r)⟩,(gP 16 r)⟩,⟨⟨(bU 17 r),(bU 18 r),(bU 19 r),(bU 20 r),(bU 21 r),(bU 22 r),(bU 23 r),(bU 24 r),⟨(gP 25 r),(bU 26 r)⟩,⟨(gP 27 r),(bU 28 r)⟩,(bU 29 r),⟨(gP 30 r),(bU 31 r)⟩,(BI 32 r)⟩,(gP 33 r)⟩,⟨⟨(bU 34 r),(bU 35 r),(bU 36 r),(bU 37 r),(bU 38 r),(bU 39 r),(bU 40 r),(bU 41 r),⟨(gP 42 r),(bU 43 r)⟩,⟨(gP 44 r),(bU 45 r)⟩,(bU 46 r),⟨(gP 47 r),(bU 48 r)⟩,(BI 49 r)⟩,(gP 50 r)⟩⟩
instance :RT ir:=⟨ir.enc,ir.dec,51,fun _ _=>rfl,fun _ _=>rfl⟩
def ir.at (xs:ak)(i:Nat):ir:=ir.dec (List.getD xs i [])
def cC.r (x:cC):ir:=⟨(aa.r x.bX),(aa.r x.fA),(aa.r x.fB)⟩
def cC.row (x:cC):List L:=ir.enc x.r
def cC.zero:cC:=⟨aa.zero,aa.zero,aa.zero⟩
def cC.bR {a b:cC}(h:a.r=b.r):a=b:=by
 cases a;cases b
 simp only [cC.r,ir.mk.injEq] at h
 obtain ⟨h0,h1,h2⟩:=h
 simp only [cC.mk.injEq]
 exact ⟨(aa.bR h0),(aa.bR h1),(aa.bR h2)⟩
def cC.bM {a b:cC}(h:cC.row a=cC.row b):a=b:=cC.bR (congrArg ir.dec h)
def cC.cu {xs:List cC}{i:Nat}:ir.at (xs.map cC.row) i=(xs.getD i cC.zero).r:=dH (r:=fun x=>cC.r x) (fun _=>rfl) rfl
def cC.oZ (x:cC):(cC.r x).bX=(aa.r x.bX):=Eq.trans rfl rfl
def cC.Du (x:cC):(cC.r x).fA=(aa.r x.fA):=Eq.trans rfl rfl
def cC.DP (x:cC):(cC.r x).fB=(aa.r x.fB):=Eq.trans rfl rfl
instance :Row cC:=⟨cC.row,cC.bM⟩
instance :Im cC ir:=⟨cC.r,cC.bR⟩
def cC.rs:(∀(xs:List cC) (i:Nat),ir.at (xs.map cC.row) i=(xs.getD i cC.zero).r)/\(∀x:cC,(cC.r x).bX=(aa.r x.bX))/\(∀x:cC,(cC.r x).fA=(aa.r x.fA))/\(∀x:cC,(cC.r x).fB=(aa.r x.fB)):=⟨fun _ _=>cC.cu,cC.oZ,cC.Du,cC.DP⟩
structure fF where
 iU:ak
 kL:ak
structure bF where
 iU:List (List aa)
 kL:List cC
def fF.enc (x:fF):List L:=[.sl x.iU,.sl x.kL]
def fF.dec (r:List L):fF:=⟨(gP 0 r),(gP 1 r)⟩
instance :RT fF:=⟨fF.enc,fF.dec,2,fun _ _=>rfl,fun _ _=>rfl⟩
def fF.at (xs:ak)(i:Nat):fF:=fF.dec (List.getD xs i [])
def bF.r (x:bF):fF:=⟨(x.iU.map (oD aa.row)),(x.kL.map cC.row)⟩
def bF.row (x:bF):List L:=fF.enc x.r
def bF.zero:bF:=⟨[],[]⟩
def bF.bR {a b:bF}(h:a.r=b.r):a=b:=by
 cases a;cases b
 simp only [bF.r,fF.mk.injEq] at h
 obtain ⟨h0,h1⟩:=h
 simp only [bF.mk.injEq]
 exact ⟨(map_inj (wF aa.bM) h0),(map_inj cC.bM h1)⟩
def bF.bM {a b:bF}(h:bF.row a=bF.row b):a=b:=bF.bR (congrArg fF.dec h)
def bF.cu {xs:List bF}{i:Nat}:fF.at (xs.map bF.row) i=(xs.getD i bF.zero).r:=dH (r:=fun x=>bF.r x) (fun _=>rfl) rfl
def bF.yH (x:bF):(bF.r x).iU=(x.iU.map (oD aa.row)):=Eq.trans rfl rfl
def bF.zx (x:bF):(bF.r x).kL=(x.kL.map cC.row):=Eq.trans rfl rfl
instance :Row bF:=⟨bF.row,bF.bM⟩
instance :Im bF fF:=⟨bF.r,bF.bR⟩
def bF.rs:(∀(xs:List bF) (i:Nat),fF.at (xs.map bF.row) i=(xs.getD i bF.zero).r)/\(∀x:bF,(bF.r x).iU=(x.iU.map (oD aa.row)))/\(∀x:bF,(bF.r x).kL=(x.kL.map cC.row)):=⟨fun _ _=>bF.cu,bF.yH,bF.zx⟩
structure fU where
 fR:fF
 jh:Int
 bO:bl
 gm:ak
 ny:Int
structure bA where
 fR:bF
 jh:Int
 bO:ah
 gm:List Int
 ny:Int
def fU.enc (x:fU):List L:=[.sl x.fR.iU,.sl x.fR.kL,.int x.jh,.str x.bO.cG,.int x.bO.aP,.int x.bO.dy,.sl x.bO.cm,.sl x.gm,.int x.ny]
def fU.dec (r:List L):fU:=⟨⟨(gP 0 r),(gP 1 r)⟩,(bU 2 r),⟨(Ao 3 r),(bU 4 r),(bU 5 r),(gP 6 r)⟩,(gP 7 r),(bU 8 r)⟩
instance :RT fU:=⟨fU.enc,fU.dec,9,fun _ _=>rfl,fun _ _=>rfl⟩
def fU.at (xs:ak)(i:Nat):fU:=fU.dec (List.getD xs i [])
def bA.r (x:bA):fU:=⟨(bF.r x.fR),x.jh,(ah.r x.bO),(x.gm.map aQ),x.ny⟩
def bA.row (x:bA):List L:=fU.enc x.r
def bA.zero:bA:=⟨bF.zero,0,ah.zero,[],0⟩
def bA.bR {a b:bA}(h:a.r=b.r):a=b:=by
 cases a;cases b
 simp only [bA.r,fU.mk.injEq] at h
 obtain ⟨h0,h1,h2,h3,h4⟩:=h
 simp only [bA.mk.injEq]
 exact ⟨(bF.bR h0),h1,(ah.bR h2),(map_inj lY h3),h4⟩
def bA.bM {a b:bA}(h:bA.row a=bA.row b):a=b:=bA.bR (congrArg fU.dec h)
def bA.cu {xs:List bA}{i:Nat}:fU.at (xs.map bA.row) i=(xs.getD i bA.zero).r:=dH (r:=fun x=>bA.r x) (fun _=>rfl) rfl
def bA.rz (x:bA):(bA.r x).fR=(bF.r x.fR):=Eq.trans rfl rfl
def bA.uf (x:bA):(bA.r x).jh=x.jh:=Eq.trans rfl rfl
def bA.gH (x:bA):(bA.r x).bO=(ah.r x.bO):=Eq.trans rfl rfl
def bA.rN (x:bA):(bA.r x).gm=(x.gm.map aQ):=Eq.trans rfl rfl
def bA.zu (x:bA):(bA.r x).ny=x.ny:=Eq.trans rfl rfl
instance :Row bA:=⟨bA.row,bA.bM⟩
instance :Im bA fU:=⟨bA.r,bA.bR⟩
def bA.rs:(∀(xs:List bA) (i:Nat),fU.at (xs.map bA.row) i=(xs.getD i bA.zero).r)/\(∀x:bA,(bA.r x).fR=(bF.r x.fR))/\(∀x:bA,(bA.r x).jh=x.jh)/\(∀x:bA,(bA.r x).bO=(ah.r x.bO))/\(∀x:bA,(bA.r x).gm=(x.gm.map aQ))/\(∀x:bA,(bA.r x).ny=x.ny):=⟨fun _ _=>bA.cu,bA.rz,bA.uf,bA.gH,bA.rN,bA.zu⟩
structure eG where
 cm:ak
 bO:bl
structure bH where
 cm:List cE
 bO:ah
def eG.enc (x:eG):List L:=[.sl x.cm,.str x.bO.cG,.int x.bO.aP,.int x.bO.dy,.sl x.bO.cm]
def eG.dec (r:List L):eG:=⟨(gP 0 r),⟨(Ao 1 r),(bU 2 r),(bU 3 r),(gP 4 r)⟩⟩
instance :RT eG:=⟨eG.enc,eG.dec,5,fun _ _=>rfl,fun _ _=>rfl⟩
def eG.at (xs:ak)(i:Nat):eG:=eG.dec (List.getD xs i [])
def bH.r (x:bH):eG:=⟨(x.cm.map iB),(ah.r x.bO)⟩
def bH.row (x:bH):List L:=eG.enc x.r
def bH.zero:bH:=⟨[],ah.zero⟩
def bH.bR {a b:bH}(h:a.r=b.r):a=b:=by
 cases a;cases b
 simp only [bH.r,eG.mk.injEq] at h
 obtain ⟨h0,h1⟩:=h
 simp only [bH.mk.injEq]
 exact ⟨(map_inj sj h0),(ah.bR h1)⟩
def bH.bM {a b:bH}(h:bH.row a=bH.row b):a=b:=bH.bR (congrArg eG.dec h)
def bH.cu {xs:List bH}{i:Nat}:eG.at (xs.map bH.row) i=(xs.getD i bH.zero).r:=dH (r:=fun x=>bH.r x) (fun _=>rfl) rfl
def bH.ou (x:bH):(bH.r x).cm=(x.cm.map iB):=Eq.trans rfl rfl
def bH.gH (x:bH):(bH.r x).bO=(ah.r x.bO):=Eq.trans rfl rfl
instance :Row bH:=⟨bH.row,bH.bM⟩
instance :Im bH eG:=⟨bH.r,bH.bR⟩
def bH.rs:(∀(xs:List bH) (i:Nat),eG.at (xs.map bH.row) i=(xs.getD i bH.zero).r)/\(∀x:bH,(bH.r x).cm=(x.cm.map iB))/\(∀x:bH,(bH.r x).bO=(ah.r x.bO)):=⟨fun _ _=>bH.cu,bH.ou,bH.gH⟩
structure iC where
 gk:ak
 jl:ak
structure cM where
 gk:List aa
 jl:List ah
def iC.enc (x:iC):List L:=[.sl x.gk,.sl x.jl]
def iC.dec (r:List L):iC:=⟨(gP 0 r),(gP 1 r)⟩
instance :RT iC:=⟨iC.enc,iC.dec,2,fun _ _=>rfl,fun _ _=>rfl⟩
def iC.at (xs:ak)(i:Nat):iC:=iC.dec (List.getD xs i [])
def cM.r (x:cM):iC:=⟨(x.gk.map aa.row),(x.jl.map ah.row)⟩
def cM.row (x:cM):List L:=iC.enc x.r
def cM.zero:cM:=⟨[],[]⟩
def cM.bR {a b:cM}(h:a.r=b.r):a=b:=by
 cases a;cases b
 simp only [cM.r,iC.mk.injEq] at h
 obtain ⟨h0,h1⟩:=h
 simp only [cM.mk.injEq]
 exact ⟨(map_inj aa.bM h0),(map_inj ah.bM h1)⟩
def cM.bM {a b:cM}(h:cM.row a=cM.row b):a=b:=cM.bR (congrArg iC.dec h)
def cM.cu {xs:List cM}{i:Nat}:iC.at (xs.map cM.row) i=(xs.getD i cM.zero).r:=dH (r:=fun x=>cM.r x) (fun _=>rfl) rfl
def cM.rM (x:cM):(cM.r x).gk=(x.gk.map aa.row):=Eq.trans rfl rfl
def cM.wO (x:cM):(cM.r x).jl=(x.jl.map ah.row):=Eq.trans rfl rfl
instance :Row cM:=⟨cM.row,cM.bM⟩
instance :Im cM iC:=⟨cM.r,cM.bR⟩
def cM.rs:(∀(xs:List cM) (i:Nat),iC.at (xs.map cM.row) i=(xs.getD i cM.zero).r)/\(∀x:cM,(cM.r x).gk=(x.gk.map aa.row))/\(∀x:cM,(cM.r x).jl=(x.jl.map ah.row)):=⟨fun _ _=>cM.cu,cM.rM,cM.wO⟩
structure dG where
 fName:cE
 bq:Int
def dG.enc (x:dG):List L:=[.str x.fName,.int x.bq]
def dG.dec (r:List L):dG:=⟨(Ao 0 r),(bU 1 r)⟩
instance :RT dG:=⟨dG.enc,dG.dec,2,fun _ _=>rfl,fun _ _=>rfl⟩
def dG.at (xs:ak)(i:Nat):dG:=dG.dec (List.getD xs i [])
def dG.row (x:dG):List L:=dG.enc x
def dG.zero:dG:=⟨⟨#[]⟩,0⟩
def dG.bM {a b:dG}(h:dG.row a=dG.row b):a=b:=congrArg dG.dec h
def dG.cu {xs:List dG}{i:Nat}:dG.at (xs.map dG.row) i=xs.getD i dG.zero:=dH (r:=fun x=>x) (fun _=>rfl) rfl
instance :Row dG:=⟨dG.row,dG.bM⟩
instance :Im dG dG:=⟨fun x=>x,fun h=>h⟩
def dG.rs:(∀(xs:List dG) (i:Nat),dG.at (xs.map dG.row) i=xs.getD i dG.zero):=fun _ _=>dG.cu
structure eH where
 gm:ak
 wT:Int
structure bG where
 gm:List cM
 wT:Int
def eH.enc (x:eH):List L:=[.sl x.gm,.int x.wT]
def eH.dec (r:List L):eH:=⟨(gP 0 r),(bU 1 r)⟩
instance :RT eH:=⟨eH.enc,eH.dec,2,fun _ _=>rfl,fun _ _=>rfl⟩
def eH.at (xs:ak)(i:Nat):eH:=eH.dec (List.getD xs i [])
def bG.r (x:bG):eH:=⟨(x.gm.map cM.row),x.wT⟩
def bG.row (x:bG):List L:=eH.enc x.r
def bG.zero:bG:=⟨[],0⟩
def bG.bR {a b:bG}(h:a.r=b.r):a=b:=by
 cases a;cases b
 simp only [bG.r,eH.mk.injEq] at h
 obtain ⟨h0,h1⟩:=h
 simp only [bG.mk.injEq]
 exact ⟨(map_inj cM.bM h0),h1⟩
def bG.bM {a b:bG}(h:bG.row a=bG.row b):a=b:=bG.bR (congrArg eH.dec h)
def bG.cu {xs:List bG}{i:Nat}:eH.at (xs.map bG.row) i=(xs.getD i bG.zero).r:=dH (r:=fun x=>bG.r x) (fun _=>rfl) rfl
def bG.rN (x:bG):(bG.r x).gm=(x.gm.map cM.row):=Eq.trans rfl rfl
def bG.Cw (x:bG):(bG.r x).wT=x.wT:=Eq.trans rfl rfl
instance :Row bG:=⟨bG.row,bG.bM⟩
instance :Im bG eH:=⟨bG.r,bG.bR⟩
def bG.rs:(∀(xs:List bG) (i:Nat),eH.at (xs.map bG.row) i=(xs.getD i bG.zero).r)/\(∀x:bG,(bG.r x).gm=(x.gm.map cM.row))/\(∀x:bG,(bG.r x).wT=x.wT):=⟨fun _ _=>bG.cu,bG.rN,bG.Cw⟩
structure iz where
 fR:fF
 gn:Bool
 bO:bl
 rU:Bool
 nB:ak
structure bY where
 fR:bF
 gn:Bool
 bO:ah
 rU:Bool
 nB:List Int
def iz.enc (x:iz):List L:=[.sl x.fR.iU,.sl x.fR.kL,.bool x.gn,.str x.bO.cG,.int x.bO.aP,.int x.bO.dy,.sl x.bO.cm,.bool x.rU,.sl x.nB]
def iz.dec (r:List L):iz:=⟨⟨(gP 0 r),(gP 1 r)⟩,(BI 2 r),⟨(Ao 3 r),(bU 4 r),(bU 5 r),(gP 6 r)⟩,(BI 7 r),(gP 8 r)⟩
instance :RT iz:=⟨iz.enc,iz.dec,9,fun _ _=>rfl,fun _ _=>rfl⟩
def iz.at (xs:ak)(i:Nat):iz:=iz.dec (List.getD xs i [])
def bY.r (x:bY):iz:=⟨(bF.r x.fR),x.gn,(ah.r x.bO),x.rU,(x.nB.map aQ)⟩
def bY.row (x:bY):List L:=iz.enc x.r
def bY.zero:bY:=⟨bF.zero,false,ah.zero,false,[]⟩
def bY.bR {a b:bY}(h:a.r=b.r):a=b:=by
 cases a;cases b
 simp only [bY.r,iz.mk.injEq] at h
 obtain ⟨h0,h1,h2,h3,h4⟩:=h
 simp only [bY.mk.injEq]
 exact ⟨(bF.bR h0),h1,(ah.bR h2),h3,(map_inj lY h4)⟩
def bY.bM {a b:bY}(h:bY.row a=bY.row b):a=b:=bY.bR (congrArg iz.dec h)
def bY.cu {xs:List bY}{i:Nat}:iz.at (xs.map bY.row) i=(xs.getD i bY.zero).r:=dH (r:=fun x=>bY.r x) (fun _=>rfl) rfl
def bY.rz (x:bY):(bY.r x).fR=(bF.r x.fR):=Eq.trans rfl rfl
def bY.qS (x:bY):(bY.r x).gn=x.gn:=Eq.trans rfl rfl
def bY.gH (x:bY):(bY.r x).bO=(ah.r x.bO):=Eq.trans rfl rfl
def bY.Bs (x:bY):(bY.r x).rU=x.rU:=Eq.trans rfl rfl
def bY.AR (x:bY):(bY.r x).nB=(x.nB.map aQ):=Eq.trans rfl rfl
instance :Row bY:=⟨bY.row,bY.bM⟩
instance :Im bY iz:=⟨bY.r,bY.bR⟩
def bY.rs:(∀(xs:List bY) (i:Nat),iz.at (xs.map bY.row) i=(xs.getD i bY.zero).r)/\(∀x:bY,(bY.r x).fR=(bF.r x.fR))/\(∀x:bY,(bY.r x).gn=x.gn)/\(∀x:bY,(bY.r x).bO=(ah.r x.bO))/\(∀x:bY,(bY.r x).rU=x.rU)/\(∀x:bY,(bY.r x).nB=(x.nB.map aQ)):=⟨fun _ _=>bY.cu,bY.rz,bY.qS,bY.gH,bY.Bs,bY.AR⟩
structure eX where
 sJ:Int
 cm:ak
structure bz where
 sJ:Int
 cm:List Int
def eX.enc (x:eX):List L:=[.int x.sJ,.sl x.cm]
def eX.dec (r:List L):eX:=⟨(bU 0 r),(gP 1 r)⟩
instance :RT eX:=⟨eX.enc,eX.dec,2,fun _ _=>rfl,fun _ _=>rfl⟩
def eX.at (xs:ak)(i:Nat):eX:=eX.dec (List.getD xs i [])
def bz.r (x:bz):eX:=⟨x.sJ,(x.cm.map aQ)⟩
def bz.row (x:bz):List L:=eX.enc x.r
def bz.zero:bz:=⟨0,[]⟩
def bz.bR {a b:bz}(h:a.r=b.r):a=b:=by
 cases a;cases b
 simp only [bz.r,eX.mk.injEq] at h
 obtain ⟨h0,h1⟩:=h
 simp only [bz.mk.injEq]
 exact ⟨h0,(map_inj lY h1)⟩
def bz.bM {a b:bz}(h:bz.row a=bz.row b):a=b:=bz.bR (congrArg eX.dec h)
def bz.cu {xs:List bz}{i:Nat}:eX.at (xs.map bz.row) i=(xs.getD i bz.zero).r:=dH (r:=fun x=>bz.r x) (fun _=>rfl) rfl
def bz.An (x:bz):(bz.r x).sJ=x.sJ:=Eq.trans rfl rfl
def bz.ou (x:bz):(bz.r x).cm=(x.cm.map aQ):=Eq.trans rfl rfl
instance :Row bz:=⟨bz.row,bz.bM⟩
instance :Im bz eX:=⟨bz.r,bz.bR⟩
def bz.rs:(∀(xs:List bz) (i:Nat),eX.at (xs.map bz.row) i=(xs.getD i bz.zero).r)/\(∀x:bz,(bz.r x).sJ=x.sJ)/\(∀x:bz,(bz.r x).cm=(x.cm.map aQ)):=⟨fun _ _=>bz.cu,bz.An,bz.ou⟩
structure lg where
 sJ:Int
 bX:bl
 gM:bl
 mL:eX
 jS:eX
structure cV where
 sJ:Int
 bX:ah
 gM:ah
 mL:bz
 jS:bz
def lg.enc (x:lg):List L:=[.int x.sJ,.str x.bX.cG,.int x.bX.aP,.int x.bX.dy,.sl x.bX.cm,.str x.gM.cG,.int x.gM.aP,.int x.gM.dy,.sl x.gM.cm,.int x.mL.sJ,.sl x.mL.cm,.int x.jS.sJ,.sl x.jS.cm]
def lg.dec (r:List L):lg:=⟨(bU 0 r),⟨(Ao 1 r),(bU 2 r),(bU 3 r),(gP 4 r)⟩,⟨(Ao 5 r),(bU 6 r),(bU 7 r),(gP 8 r)⟩,⟨(bU 9 r),(gP 10 r)⟩,⟨(bU 11 r),(gP 12 r)⟩⟩
instance :RT lg:=⟨lg.enc,lg.dec,13,fun _ _=>rfl,fun _ _=>rfl⟩
def lg.at (xs:ak)(i:Nat):lg:=lg.dec (List.getD xs i [])
def cV.r (x:cV):lg:=⟨x.sJ,(ah.r x.bX),(ah.r x.gM),(bz.r x.mL),(bz.r x.jS)⟩
def cV.row (x:cV):List L:=lg.enc x.r
def cV.zero:cV:=⟨0,ah.zero,ah.zero,bz.zero,bz.zero⟩
def cV.bR {a b:cV}(h:a.r=b.r):a=b:=by
 cases a;cases b
 simp only [cV.r,lg.mk.injEq] at h
 obtain ⟨h0,h1,h2,h3,h4⟩:=h
 simp only [cV.mk.injEq]
 exact ⟨h0,(ah.bR h1),(ah.bR h2),(bz.bR h3),(bz.bR h4)⟩
def cV.bM {a b:cV}(h:cV.row a=cV.row b):a=b:=cV.bR (congrArg lg.dec h)
def cV.cu {xs:List cV}{i:Nat}:lg.at (xs.map cV.row) i=(xs.getD i cV.zero).r:=dH (r:=fun x=>cV.r x) (fun _=>rfl) rfl
def cV.An (x:cV):(cV.r x).sJ=x.sJ:=Eq.trans rfl rfl
def cV.oZ (x:cV):(cV.r x).bX=(ah.r x.bX):=Eq.trans rfl rfl
def cV.Ac (x:cV):(cV.r x).gM=(ah.r x.gM):=Eq.trans rfl rfl
def cV.A4 (x:cV):(cV.r x).mL=(bz.r x.mL):=Eq.trans rfl rfl
def cV.Ar (x:cV):(cV.r x).jS=(bz.r x.jS):=Eq.trans rfl rfl
instance :Row cV:=⟨cV.row,cV.bM⟩
instance :Im cV lg:=⟨cV.r,cV.bR⟩
def cV.rs:(∀(xs:List cV) (i:Nat),lg.at (xs.map cV.row) i=(xs.getD i cV.zero).r)/\(∀x:cV,(cV.r x).sJ=x.sJ)/\(∀x:cV,(cV.r x).bX=(ah.r x.bX))/\(∀x:cV,(cV.r x).gM=(ah.r x.gM))/\(∀x:cV,(cV.r x).mL=(bz.r x.mL))/\(∀x:cV,(cV.r x).jS=(bz.r x.jS)):=⟨fun _ _=>cV.cu,cV.An,cV.oZ,cV.Ac,cV.A4,cV.Ar⟩
structure eF where
 gk:ak
 gn:Bool
 bO:bl
 lA:eX
 kR:lg
structure bh where
 gk:List aa
 gn:Bool
 bO:ah
 lA:bz
 kR:cV
def eF.enc (x:eF):List L:=[.sl x.gk,.bool x.gn,.str x.bO.cG,.int x.bO.aP,.int x.bO.dy,.sl x.bO.cm,.int x.lA.sJ,.sl x.lA.cm,.int x.kR.sJ,.str x.kR.bX.cG,.int x.kR.bX.aP,.int x.kR.bX.dy,.sl x.kR.bX.cm,.str x.kR.gM.cG,.int x.kR.gM.aP,.int x.kR.gM.dy,.sl x.kR.gM.cm,.int x.kR.mL.sJ,.sl x.kR.mL.cm,.int x.kR.jS.sJ,.sl x.kR.jS.cm]
def eF.dec (r:List L):eF:=⟨(gP 0 r),(BI 1 r),⟨(Ao 2 r),(bU 3 r),(bU 4 r),(gP 5 r)⟩,⟨(bU 6 r),(gP 7 r)⟩,⟨(bU 8 r),⟨(Ao 9 r),(bU 10 r),(bU 11 r),(gP 12 r)⟩,⟨(Ao 13 r),(bU 14 r),(bU 15 r),(gP 16 r)⟩,⟨(bU 17 r),(gP 18 r)⟩,⟨(bU 19 r),(gP 20 r)⟩⟩⟩
instance :RT eF:=⟨eF.enc,eF.dec,21,fun _ _=>rfl,fun _ _=>rfl⟩
def eF.at (xs:ak)(i:Nat):eF:=eF.dec (List.getD xs i [])
def bh.r (x:bh):eF:=⟨(x.gk.map aa.row),x.gn,(ah.r x.bO),(bz.r x.lA),(cV.r x.kR)⟩
def bh.row (x:bh):List L:=eF.enc x.r
def bh.zero:bh:=⟨[],false,ah.zero,bz.zero,cV.zero⟩
def bh.bR {a b:bh}(h:a.r=b.r):a=b:=by
 cases a;cases b
 simp only [bh.r,eF.mk.injEq] at h
 obtain ⟨h0,h1,h2,h3,h4⟩:=h
 simp only [bh.mk.injEq]
 exact ⟨(map_inj aa.bM h0),h1,(ah.bR h2),(bz.bR h3),(cV.bR h4)⟩
def bh.bM {a b:bh}(h:bh.row a=bh.row b):a=b:=bh.bR (congrArg eF.dec h)
def bh.cu {xs:List bh}{i:Nat}:eF.at (xs.map bh.row) i=(xs.getD i bh.zero).r:=dH (r:=fun x=>bh.r x) (fun _=>rfl) rfl
def bh.rM (x:bh):(bh.r x).gk=(x.gk.map aa.row):=Eq.trans rfl rfl
def bh.qS (x:bh):(bh.r x).gn=x.gn:=Eq.trans rfl rfl
def bh.gH (x:bh):(bh.r x).bO=(ah.r x.bO):=Eq.trans rfl rfl
def bh.Ae (x:bh):(bh.r x).lA=(bz.r x.lA):=Eq.trans rfl rfl
def bh.Cl (x:bh):(bh.r x).kR=(cV.r x.kR):=Eq.trans rfl rfl
instance :Row bh:=⟨bh.row,bh.bM⟩
instance :Im bh eF:=⟨bh.r,bh.bR⟩
def bh.rs:(∀(xs:List bh) (i:Nat),eF.at (xs.map bh.row) i=(xs.getD i bh.zero).r)/\(∀x:bh,(bh.r x).gk=(x.gk.map aa.row))/\(∀x:bh,(bh.r x).gn=x.gn)/\(∀x:bh,(bh.r x).bO=(ah.r x.bO))/\(∀x:bh,(bh.r x).lA=(bz.r x.lA))/\(∀x:bh,(bh.r x).kR=(cV.r x.kR)):=⟨fun _ _=>bh.cu,bh.rM,bh.qS,bh.gH,bh.Ae,bh.Cl⟩
def SS:=And.intro (And.intro S0 MM) (And.intro aq.rs (And.intro aj.rs (And.intro aS.rs (And.intro ah.rs (And.intro aW.rs (And.intro bf.rs (And.intro aa.rs (And.intro cC.rs (And.intro bF.rs (And.intro bA.rs (And.intro bH.rs (And.intro cM.rs (And.intro dG.rs (And.intro bG.rs (And.intro bY.rs (And.intro bz.rs (And.intro cV.rs (And.intro bh.rs trivial))))))))))))))))))
def fz {p:Prop}(h:p:=by first | rfl | (simp only [SS];done) | (simp only [MP];rfl) | (simp only [SS,MP];first | done | rfl) | (simp only [aq.r,aj.r,aS.r,ah.r,aW.r,aa.r,cC.r,bF.r,bA.r,bH.r,cM.r,bG.r,bY.r,bz.r,cV.r,bh.r,SS,MP];first | done | rfl) | (simp only [SS,MP,List.length_take,List.length_drop];first | done | rfl)):p:=h
def rq {p q:Prop}(h:p)(k:p->q:=by intro R_;first | exact R_ | (simp only [MP,SS] at R_ ⊢;first | exact R_ | (rw [<-R_];rfl))):q:=k h
end Go.DM

end
