/- The structures of the program, as mathematical records. Conditions: none. -/
import Derived.Test.YtcepeleohipibaaGreatLRootsDd
set_option linter.all false
noncomputable section
namespace Go.DM
abbrev cI (i:Nat)(l:List L):Int:=((bA i l).headD .hole).toInt
abbrev hIq (l:List L):Int:=(l.headD .hole).toInt
abbrev fJ (i:Nat)(l:List L):an:=((bA i l).headD .hole).dw
abbrev eM (l:List L):an:=(l.headD .hole).dw
abbrev Cd (i:Nat)(l:List L):Bool:=((bA i l).headD .hole).toBool
abbrev hBq (l:List L):Bool:=(l.headD .hole).toBool
abbrev rI (i:Nat)(l:List L):az:=((bA i l).headD .hole).toStr
abbrev hTq (l:List L):az:=(l.headD .hole).toStr
structure cV where
 bz:an
 dh:Int
structure aN where
 bz:List Int
 dh:Int
def cV.enc (x:cV):List L:=[.sl x.bz,.int x.dh]
def cV.dec (r:List L):cV:=⟨(fJ 0 r),(cI 1 r)⟩
instance :RT cV:=⟨cV.enc,cV.dec,2,fun _ _=>rfl,fun _ _=>rfl⟩
def cV.at (xs:an)(i:Nat):cV:=cV.dec (List.getD xs i [])
def aN.r (x:aN):cV:=⟨(x.bz.map aQ),x.dh⟩
def aN.row (x:aN):List L:=cV.enc x.r
def aN.zero:aN:=⟨[],0⟩
def aN.cJ {a b:aN}(h:a.r=b.r):a=b:=by
 cases a;cases b
 simp only [aN.r,cV.mk.injEq] at h
 obtain ⟨h0,h1⟩:=h
 simp only [aN.mk.injEq]
 exact ⟨(map_inj mQ h0),h1⟩
def aN.cz {a b:aN}(h:aN.row a=aN.row b):a=b:=aN.cJ (congrArg cV.dec h)
def aN.cS {xs:List aN}{i:Nat}:cV.at (xs.map aN.row) i=(xs.getD i aN.zero).r:=eL (r:=fun x=>aN.r x) (fun _=>rfl) rfl
def aN.vq (x:aN):(aN.r x).bz=(x.bz.map aQ):=Eq.trans rfl rfl
def aN.Cv (x:aN):(aN.r x).dh=x.dh:=Eq.trans rfl rfl
instance :Row aN:=⟨aN.row,aN.cz⟩
instance :Im aN cV:=⟨aN.r,aN.cJ⟩
def aN.rs:(∀(xs:List aN) (i:Nat),cV.at (xs.map aN.row) i=(xs.getD i aN.zero).r)/\(∀x:aN,(aN.r x).bz=(x.bz.map aQ))/\(∀x:aN,(aN.r x).dh=x.dh):=⟨fun _ _=>aN.cS,aN.vq,aN.Cv⟩
def aN.Sm (n:Nat)(x:aN):Prop:=bf n (fun y:Int=>True) x.bz
def aN.dL {n m:Nat}(hn:n<=m){x:aN}(h:aN.Sm n x):aN.Sm m x:=h.mono hn (fun x hx=>trivial)
structure bL where
 aS:Int
 cy:Int
 bE:Int
 cg:Int
 cq:Int
 cj:Int
 dx:Int
 dX:Int
 bU:cV
 bF:cV
 cT:Int
 bB:cV
 bk:Bool
structure au where
 aS:Int
 cy:Int
 bE:Int
 cg:Int
 cq:Int
 cj:Int
 dx:Int
 dX:Int
 bU:aN
 bF:aN
 cT:Int
 bB:aN
 bk:Bool
def bL.enc (x:bL):List L:=[.int x.aS,.int x.cy,.int x.bE,.int x.cg,.int x.cq,.int x.cj,.int x.dx,.int x.dX,.sl x.bU.bz,.int x.bU.dh,.sl x.bF.bz,.int x.bF.dh,.int x.cT,.sl x.bB.bz,.int x.bB.dh,.bool x.bk]
def bL.dec (r:List L):bL:=⟨(cI 0 r),(cI 1 r),(cI 2 r),(cI 3 r),(cI 4 r),(cI 5 r),(cI 6 r),(cI 7 r),⟨(fJ 8 r),(cI 9 r)⟩,⟨(fJ 10 r),(cI 11 r)⟩,(cI 12 r),⟨(fJ 13 r),(cI 14 r)⟩,(Cd 15 r)⟩
instance :RT bL:=⟨bL.enc,bL.dec,16,fun _ _=>rfl,fun _ _=>rfl⟩
def bL.at (xs:an)(i:Nat):bL:=bL.dec (List.getD xs i [])
def au.r (x:au):bL:=⟨x.aS,x.cy,x.bE,x.cg,x.cq,x.cj,x.dx,x.dX,(aN.r x.bU),(aN.r x.bF),x.cT,(aN.r x.bB),x.bk⟩
def au.row (x:au):List L:=bL.enc x.r
def au.zero:au:=⟨0,0,0,0,0,0,0,0,aN.zero,aN.zero,0,aN.zero,false⟩
def au.cJ {a b:au}(h:a.r=b.r):a=b:=by
 cases a;cases b
 simp only [au.r,bL.mk.injEq] at h
 obtain ⟨h0,h1,h2,h3,h4,h5,h6,h7,h8,h9,h10,h11,h12⟩:=h
 simp only [au.mk.injEq]
 exact ⟨h0,h1,h2,h3,h4,h5,h6,h7,(aN.cJ h8),(aN.cJ h9),h10,(aN.cJ h11),h12⟩
def au.cz {a b:au}(h:au.row a=au.row b):a=b:=au.cJ (congrArg bL.dec h)
def au.cS {xs:List au}{i:Nat}:bL.at (xs.map au.row) i=(xs.getD i au.zero).r:=eL (r:=fun x=>au.r x) (fun _=>rfl) rfl
def au.vX (x:au):(au.r x).aS=x.aS:=Eq.trans rfl rfl
def au.Bv (x:au):(au.r x).cy=x.cy:=Eq.trans rfl rfl
def au.vu (x:au):(au.r x).bE=x.bE:=Eq.trans rfl rfl
def au.CB (x:au):(au.r x).cg=x.cg:=Eq.trans rfl rfl
def au.AI (x:au):(au.r x).cq=x.cq:=Eq.trans rfl rfl
def au.BO (x:au):(au.r x).cj=x.cj:=Eq.trans rfl rfl
def au.Cc (x:au):(au.r x).dx=x.dx:=Eq.trans rfl rfl
def au.Cu (x:au):(au.r x).dX=x.dX:=Eq.trans rfl rfl
def au.BZ (x:au):(au.r x).bU=(aN.r x.bU):=Eq.trans rfl rfl
def au.BD (x:au):(au.r x).bF=(aN.r x.bF):=Eq.trans rfl rfl
def au.Cm (x:au):(au.r x).cT=x.cT:=Eq.trans rfl rfl
def au.AH (x:au):(au.r x).bB=(aN.r x.bB):=Eq.trans rfl rfl
def au.zX (x:au):(au.r x).bk=x.bk:=Eq.trans rfl rfl
instance :Row au:=⟨au.row,au.cz⟩
instance :Im au bL:=⟨au.r,au.cJ⟩
def au.rs:(∀(xs:List au) (i:Nat),bL.at (xs.map au.row) i=(xs.getD i au.zero).r)/\(∀x:au,(au.r x).aS=x.aS)/\(∀x:au,(au.r x).cy=x.cy)/\(∀x:au,(au.r x).bE=x.bE)/\(∀x:au,(au.r x).cg=x.cg)/\(∀x:au,(au.r x).cq=x.cq)/\(∀x:au,(au.r x).cj=x.cj)/\(∀x:au,(au.r x).dx=x.dx)/\(∀x:au,(au.r x).dX=x.dX)/\(∀x:au,(au.r x).bU=(aN.r x.bU))/\(∀x:au,(au.r x).bF=(aN.r x.bF))/\(∀x:au,(au.r x).cT=x.cT)/\(∀x:au,(au.r x).bB=(aN.r x.bB))/\(∀x:au,(au.r x).bk=x.bk):=⟨fun _ _=>au.cS,au.vX,au.Bv,au.vu,au.CB,au.AI,au.BO,au.Cc,au.Cu,au.BZ,au.BD,au.Cm,au.AH,au.zX⟩
def au.Sm (n:Nat)(x:au):Prop:=aN.Sm n x.bU/\aN.Sm n x.bF/\aN.Sm n x.bB
def au.dL {n m:Nat}(hn:n<=m){x:au}(h:au.Sm n x):au.Sm m x:=⟨aN.dL hn h.1,aN.dL hn h.2.1,aN.dL hn h.2.2⟩
structure bC where
 jI:Int
 ox:Int
def bC.enc (x:bC):List L:=[.int x.jI,.int x.ox]
def bC.dec (r:List L):bC:=⟨(cI 0 r),(cI 1 r)⟩
instance :RT bC:=⟨bC.enc,bC.dec,2,fun _ _=>rfl,fun _ _=>rfl⟩
def bC.at (xs:an)(i:Nat):bC:=bC.dec (List.getD xs i [])
def bC.row (x:bC):List L:=bC.enc x
def bC.zero:bC:=⟨0,0⟩
def bC.cz {a b:bC}(h:bC.row a=bC.row b):a=b:=congrArg bC.dec h
def bC.cS {xs:List bC}{i:Nat}:bC.at (xs.map bC.row) i=xs.getD i bC.zero:=eL (r:=fun x=>x) (fun _=>rfl) rfl
def bC.eqc (a b:bC):(iM a.jI b.jI&&(iM a.ox b.ox&&true))=iM a b:=by
 cases a;cases b
 rw [Bool.eq_iff_iff]
 simp only [dM,Bool.and_eq_true,bC.mk.injEq,and_true]
instance :Row bC:=⟨bC.row,bC.cz⟩
instance :Im bC bC:=⟨fun x=>x,fun h=>h⟩
def bC.rs:(∀(xs:List bC) (i:Nat),bC.at (xs.map bC.row) i=xs.getD i bC.zero):=fun _ _=>bC.cS
def bC.Sm (n:Nat)(x:bC):Prop:=True
def bC.dL {n m:Nat}(_:n<=m){x:bC}(_:bC.Sm n x):bC.Sm m x:=trivial
structure aY where
 aq:bL
 dR:an
structure aa where
 aq:au
 dR:List bC
def aY.enc (x:aY):List L:=[.int x.aq.aS,.int x.aq.cy,.int x.aq.bE,.int x.aq.cg,.int x.aq.cq,.int x.aq.cj,.int x.aq.dx,.int x.aq.dX,.sl x.aq.bU.bz,.int x.aq.bU.dh,.sl x.aq.bF.bz,.int x.aq.bF.dh,.int x.aq.cT,.sl x.aq.bB.bz,.int x.aq.bB.dh,.bool x.aq.bk,.sl x.dR]
def aY.dec (r:List L):aY:=⟨⟨(cI 0 r),(cI 1 r),(cI 2 r),(cI 3 r),(cI 4 r),(cI 5 r),(cI 6 r),(cI 7 r),⟨(fJ 8 r),(cI 9 r)⟩,⟨(fJ 10 r),(cI 11 r)⟩,(cI 12 r),⟨(fJ 13 r),(cI 14 r)⟩,(Cd 15 r)⟩,(fJ 16 r)⟩
instance :RT aY:=⟨aY.enc,aY.dec,17,fun _ _=>rfl,fun _ _=>rfl⟩
def aY.at (xs:an)(i:Nat):aY:=aY.dec (List.getD xs i [])
def aa.r (x:aa):aY:=⟨(au.r x.aq),(x.dR.map bC.row)⟩
def aa.row (x:aa):List L:=aY.enc x.r
def aa.zero:aa:=⟨au.zero,[]⟩
def aa.cJ {a b:aa}(h:a.r=b.r):a=b:=by
 cases a;cases b
 simp only [aa.r,aY.mk.injEq] at h
 obtain ⟨h0,h1⟩:=h
 simp only [aa.mk.injEq]
 exact ⟨(au.cJ h0),(map_inj bC.cz h1)⟩
def aa.cz {a b:aa}(h:aa.row a=aa.row b):a=b:=aa.cJ (congrArg aY.dec h)
def aa.cS {xs:List aa}{i:Nat}:aY.at (xs.map aa.row) i=(xs.getD i aa.zero).r:=eL (r:=fun x=>aa.r x) (fun _=>rfl) rfl
def aa.B7 (x:aa):(aa.r x).aq=(au.r x.aq):=Eq.trans rfl rfl
def aa.BX (x:aa):(aa.r x).dR=(x.dR.map bC.row):=Eq.trans rfl rfl
instance :Row aa:=⟨aa.row,aa.cz⟩
instance :Im aa aY:=⟨aa.r,aa.cJ⟩
def aa.rs:(∀(xs:List aa) (i:Nat),aY.at (xs.map aa.row) i=(xs.getD i aa.zero).r)/\(∀x:aa,(aa.r x).aq=(au.r x.aq))/\(∀x:aa,(aa.r x).dR=(x.dR.map bC.row)):=⟨fun _ _=>aa.cS,aa.B7,aa.BX⟩
def aa.Sm (n:Nat)(x:aa):Prop:=au.Sm n x.aq/\bf n (fun y:bC=>bC.Sm n y) x.dR
def aa.dL {n m:Nat}(hn:n<=m){x:aa}(h:aa.Sm n x):aa.Sm m x:=⟨au.dL hn h.1,h.2.mono hn (fun x hx=>bC.dL hn hx)⟩
structure cB where
 bq:aY
 fA:aY
 fB:aY
structure aM where
 bq:aa
 fA:aa
 fB:aa
def cB.enc (x:cB):List L:=[.int x.bq.aq.aS,.int x.bq.aq.cy,.int x.bq.aq.bE,.int x.bq.aq.cg,.int x.bq.aq.cq,.int x.bq.aq.cj,.int x.bq.aq.dx,.int x.bq.aq.dX,.sl x.bq.aq.bU.bz,.int x.bq.aq.bU.dh,.sl x.bq.aq.bF.bz,.int x.bq.aq.bF.dh,.int x.bq.aq.cT,.sl x.bq.aq.bB.bz,.int x.bq.aq.bB.dh,.bool x.bq.aq.bk,.sl x.bq.dR,.int x.fA.aq.aS,.int x.fA.aq.cy,.int x.fA.aq.bE,.int x.fA.aq.cg,.int x.fA.aq.cq,.int x.fA.aq.cj,.int x.fA.aq.dx,.int x.fA.aq.dX,.sl x.fA.aq.bU.bz,.int x.fA.aq.bU.dh,.sl x.fA.aq.bF.bz,.int x.fA.aq.bF.dh,.int x.fA.aq.cT,.sl x.fA.aq.bB.bz,.int x.fA.aq.bB.dh,.bool x.fA.aq.bk,.sl x.fA.dR,.int x.fB.aq.aS,.int x.fB.aq.cy,.int x.fB.aq.bE,.int x.fB.aq.cg,.int x.fB.aq.cq,.int x.fB.aq.cj,.int x.fB.aq.dx,.int x.fB.aq.dX,.sl x.fB.aq.bU.bz,.int x.fB.aq.bU.dh,.sl x.fB.aq.bF.bz,.int x.fB.aq.bF.dh,.int x.fB.aq.cT,.sl x.fB.aq.bB.bz,.int x.fB.aq.bB.dh,.bool x.fB.aq.bk,.sl x.fB.dR]
def cB.dec (r:List L):cB:=⟨⟨⟨(cI 0 r),(cI 1 r),(cI 2 r),(cI 3 r),(cI 4 r),(cI 5 r),(cI 6 r),(cI 7 r),⟨(fJ 8 r),(cI 9 r)⟩,⟨(fJ 10 r),(cI 11 r)⟩,(cI 12 r),⟨(fJ 13 r),(cI 14 r)⟩,(Cd 15 r)⟩,(fJ 16 r)⟩,⟨⟨(cI 17 r),(cI 18 r),(cI 19 r),(cI 20 r),(cI 21 r),(cI 22 r),(cI 23 r),(cI 24 r),⟨(fJ 25 r),(cI 26 r)⟩,⟨(fJ 27 r),(cI 28 r)⟩,(cI 29 r),⟨(fJ 30 r),(cI 31 r)⟩,(Cd 32 r)⟩,(fJ 33 r)⟩,⟨⟨(cI 34 r),(cI 35 r),(cI 36 r),(cI 37 r),(cI 38 r),(cI 39 r),(cI 40 r),(cI 41 r),⟨(fJ 42 r),(cI 43 r)⟩,⟨(fJ 44 r),(cI 45 r)⟩,(cI 46 r),⟨(fJ 47 r),(cI 48 r)⟩,(Cd 49 r)⟩,(fJ 50 r)⟩⟩
instance :RT cB:=⟨cB.enc,cB.dec,51,fun _ _=>rfl,fun _ _=>rfl⟩
def cB.at (xs:an)(i:Nat):cB:=cB.dec (List.getD xs i [])
def aM.r (x:aM):cB:=⟨(aa.r x.bq),(aa.r x.fA),(aa.r x.fB)⟩
def aM.row (x:aM):List L:=cB.enc x.r
def aM.zero:aM:=⟨aa.zero,aa.zero,aa.zero⟩
def aM.cJ {a b:aM}(h:a.r=b.r):a=b:=by
 cases a;cases b
 simp only [aM.r,cB.mk.injEq] at h
 obtain ⟨h0,h1,h2⟩:=h
 simp only [aM.mk.injEq]
 exact ⟨(aa.cJ h0),(aa.cJ h1),(aa.cJ h2)⟩
def aM.cz {a b:aM}(h:aM.row a=aM.row b):a=b:=aM.cJ (congrArg cB.dec h)
def aM.cS {xs:List aM}{i:Nat}:cB.at (xs.map aM.row) i=(xs.getD i aM.zero).r:=eL (r:=fun x=>aM.r x) (fun _=>rfl) rfl
def aM.qv (x:aM):(aM.r x).bq=(aa.r x.bq):=Eq.trans rfl rfl
def aM.Ew (x:aM):(aM.r x).fA=(aa.r x.fA):=Eq.trans rfl rfl
def aM.Ey (x:aM):(aM.r x).fB=(aa.r x.fB):=Eq.trans rfl rfl
instance :Row aM:=⟨aM.row,aM.cz⟩
instance :Im aM cB:=⟨aM.r,aM.cJ⟩
def aM.rs:(∀(xs:List aM) (i:Nat),cB.at (xs.map aM.row) i=(xs.getD i aM.zero).r)/\(∀x:aM,(aM.r x).bq=(aa.r x.bq))/\(∀x:aM,(aM.r x).fA=(aa.r x.fA))/\(∀x:aM,(aM.r x).fB=(aa.r x.fB)):=⟨fun _ _=>aM.cS,aM.qv,aM.Ew,aM.Ey⟩
def aM.Sm (n:Nat)(x:aM):Prop:=aa.Sm n x.bq/\aa.Sm n x.fA/\aa.Sm n x.fB
structure aW where
 aH:an
 bg:an
structure ak where
 aH:List (List aa)
 bg:List aM
def aW.enc (x:aW):List L:=[.sl x.aH,.sl x.bg]
def aW.dec (r:List L):aW:=⟨(fJ 0 r),(fJ 1 r)⟩
instance :RT aW:=⟨aW.enc,aW.dec,2,fun _ _=>rfl,fun _ _=>rfl⟩
def aW.at (xs:an)(i:Nat):aW:=aW.dec (List.getD xs i [])
def ak.r (x:ak):aW:=⟨(x.aH.map (eF aa.row)),(x.bg.map aM.row)⟩
def ak.row (x:ak):List L:=aW.enc x.r
def ak.zero:ak:=⟨[],[]⟩
def ak.cJ {a b:ak}(h:a.r=b.r):a=b:=by
 cases a;cases b
 simp only [ak.r,aW.mk.injEq] at h
 obtain ⟨h0,h1⟩:=h
 simp only [ak.mk.injEq]
 exact ⟨(map_inj (wL aa.cz) h0),(map_inj aM.cz h1)⟩
def ak.cz {a b:ak}(h:ak.row a=ak.row b):a=b:=ak.cJ (congrArg aW.dec h)
def ak.cS {xs:List ak}{i:Nat}:aW.at (xs.map ak.row) i=(xs.getD i ak.zero).r:=eL (r:=fun x=>ak.r x) (fun _=>rfl) rfl
def ak.zN (x:ak):(ak.r x).aH=(x.aH.map (eF aa.row)):=Eq.trans rfl rfl
def ak.Bf (x:ak):(ak.r x).bg=(x.bg.map aM.row):=Eq.trans rfl rfl
instance :Row ak:=⟨ak.row,ak.cz⟩
instance :Im ak aW:=⟨ak.r,ak.cJ⟩
def ak.rs:(∀(xs:List ak) (i:Nat),aW.at (xs.map ak.row) i=(xs.getD i ak.zero).r)/\(∀x:ak,(ak.r x).aH=(x.aH.map (eF aa.row)))/\(∀x:ak,(ak.r x).bg=(x.bg.map aM.row)):=⟨fun _ _=>ak.cS,ak.zN,ak.Bf⟩
def ak.Sm (n:Nat)(x:ak):Prop:=bf n (fun y:List aa=>bf n (fun y:aa=>aa.Sm n y) y) x.aH/\bf n (fun y:aM=>aM.Sm n y) x.bg
structure bp where
 aZ:az
 bE:Int
 bY:Int
 bD:an
structure ah where
 aZ:az
 bE:Int
 bY:Int
 bD:List az
def bp.enc (x:bp):List L:=[.str x.aZ,.int x.bE,.int x.bY,.sl x.bD]
def bp.dec (r:List L):bp:=⟨(rI 0 r),(cI 1 r),(cI 2 r),(fJ 3 r)⟩
instance :RT bp:=⟨bp.enc,bp.dec,4,fun _ _=>rfl,fun _ _=>rfl⟩
def bp.at (xs:an)(i:Nat):bp:=bp.dec (List.getD xs i [])
def ah.r (x:ah):bp:=⟨x.aZ,x.bE,x.bY,(x.bD.map dO)⟩
def ah.row (x:ah):List L:=bp.enc x.r
def ah.zero:ah:=⟨⟨#[]⟩,0,0,[]⟩
def ah.cJ {a b:ah}(h:a.r=b.r):a=b:=by
 cases a;cases b
 simp only [ah.r,bp.mk.injEq] at h
 obtain ⟨h0,h1,h2,h3⟩:=h
 simp only [ah.mk.injEq]
 exact ⟨h0,h1,h2,(map_inj xE h3)⟩
def ah.cz {a b:ah}(h:ah.row a=ah.row b):a=b:=ah.cJ (congrArg bp.dec h)
def ah.tw {xs:List ah}{i:Nat}(h:i<xs.length):bp.at (xs.map ah.row) i=(xs[i]).r:=by unfold bp.at;rw [getD_map h];rfl
def ah.cS {xs:List ah}{i:Nat}:bp.at (xs.map ah.row) i=(xs.getD i ah.zero).r:=eL (r:=fun x=>ah.r x) (fun _=>rfl) rfl
def ah.tM (x:ah):(ah.r x).aZ=x.aZ:=Eq.trans rfl rfl
def ah.vu (x:ah):(ah.r x).bE=x.bE:=Eq.trans rfl rfl
def ah.BP (x:ah):(ah.r x).bY=x.bY:=Eq.trans rfl rfl
def ah.vh (x:ah):(ah.r x).bD=(x.bD.map dO):=Eq.trans rfl rfl
instance :Row ah:=⟨ah.row,ah.cz⟩
instance :Im ah bp:=⟨ah.r,ah.cJ⟩
def ah.rs:(∀(xs:List ah) (i:Nat),bp.at (xs.map ah.row) i=(xs.getD i ah.zero).r)/\(∀x:ah,(ah.r x).aZ=x.aZ)/\(∀x:ah,(ah.r x).bE=x.bE)/\(∀x:ah,(ah.r x).bY=x.bY)/\(∀x:ah,(ah.r x).bD=(x.bD.map dO)):=⟨fun _ _=>ah.cS,ah.tM,ah.vu,ah.BP,ah.vh⟩
def ah.Sm (n:Nat)(x:ah):Prop:=(x.aZ).size<=n/\bf n (fun y:az=>(y).size<=n) x.bD
def ah.dL {n m:Nat}(hn:n<=m){x:ah}(h:ah.Sm n x):ah.Sm m x:=⟨Nat.le_trans h.1 hn,h.2.mono hn (fun x hx=>Nat.le_trans hx hn)⟩
structure eB where
 eJ:Int
 bD:an
structure aV where
 eJ:Int
 bD:List Int
def eB.enc (x:eB):List L:=[.int x.eJ,.sl x.bD]
def eB.dec (r:List L):eB:=⟨(cI 0 r),(fJ 1 r)⟩
instance :RT eB:=⟨eB.enc,eB.dec,2,fun _ _=>rfl,fun _ _=>rfl⟩
def eB.at (xs:an)(i:Nat):eB:=eB.dec (List.getD xs i [])
def aV.r (x:aV):eB:=⟨x.eJ,(x.bD.map aQ)⟩
def aV.row (x:aV):List L:=eB.enc x.r
def aV.zero:aV:=⟨0,[]⟩
def aV.cJ {a b:aV}(h:a.r=b.r):a=b:=by
 cases a;cases b
 simp only [aV.r,eB.mk.injEq] at h
 obtain ⟨h0,h1⟩:=h
 simp only [aV.mk.injEq]
 exact ⟨h0,(map_inj mQ h1)⟩
def aV.cz {a b:aV}(h:aV.row a=aV.row b):a=b:=aV.cJ (congrArg eB.dec h)
def aV.cS {xs:List aV}{i:Nat}:eB.at (xs.map aV.row) i=(xs.getD i aV.zero).r:=eL (r:=fun x=>aV.r x) (fun _=>rfl) rfl
def aV.AU (x:aV):(aV.r x).eJ=x.eJ:=Eq.trans rfl rfl
def aV.vh (x:aV):(aV.r x).bD=(x.bD.map aQ):=Eq.trans rfl rfl
instance :Row aV:=⟨aV.row,aV.cz⟩
instance :Im aV eB:=⟨aV.r,aV.cJ⟩
def aV.rs:(∀(xs:List aV) (i:Nat),eB.at (xs.map aV.row) i=(xs.getD i aV.zero).r)/\(∀x:aV,(aV.r x).eJ=x.eJ)/\(∀x:aV,(aV.r x).bD=(x.bD.map aQ)):=⟨fun _ _=>aV.cS,aV.AU,aV.vh⟩
def aV.Sm (n:Nat)(x:aV):Prop:=bf n (fun y:Int=>True) x.bD
structure fG where
 eJ:Int
 bq:bp
 bX:bp
 eK:eB
 cE:eB
structure bQ where
 eJ:Int
 bq:ah
 bX:ah
 eK:aV
 cE:aV
def fG.enc (x:fG):List L:=[.int x.eJ,.str x.bq.aZ,.int x.bq.bE,.int x.bq.bY,.sl x.bq.bD,.str x.bX.aZ,.int x.bX.bE,.int x.bX.bY,.sl x.bX.bD,.int x.eK.eJ,.sl x.eK.bD,.int x.cE.eJ,.sl x.cE.bD]
def fG.dec (r:List L):fG:=⟨(cI 0 r),⟨(rI 1 r),(cI 2 r),(cI 3 r),(fJ 4 r)⟩,⟨(rI 5 r),(cI 6 r),(cI 7 r),(fJ 8 r)⟩,⟨(cI 9 r),(fJ 10 r)⟩,⟨(cI 11 r),(fJ 12 r)⟩⟩
instance :RT fG:=⟨fG.enc,fG.dec,13,fun _ _=>rfl,fun _ _=>rfl⟩
def fG.at (xs:an)(i:Nat):fG:=fG.dec (List.getD xs i [])
def bQ.r (x:bQ):fG:=⟨x.eJ,(ah.r x.bq),(ah.r x.bX),(aV.r x.eK),(aV.r x.cE)⟩
def bQ.row (x:bQ):List L:=fG.enc x.r
def bQ.zero:bQ:=⟨0,ah.zero,ah.zero,aV.zero,aV.zero⟩
def bQ.cJ {a b:bQ}(h:a.r=b.r):a=b:=by
 cases a;cases b
 simp only [bQ.r,fG.mk.injEq] at h
 obtain ⟨h0,h1,h2,h3,h4⟩:=h
 simp only [bQ.mk.injEq]
 exact ⟨h0,(ah.cJ h1),(ah.cJ h2),(aV.cJ h3),(aV.cJ h4)⟩
def bQ.cz {a b:bQ}(h:bQ.row a=bQ.row b):a=b:=bQ.cJ (congrArg fG.dec h)
def bQ.cS {xs:List bQ}{i:Nat}:fG.at (xs.map bQ.row) i=(xs.getD i bQ.zero).r:=eL (r:=fun x=>bQ.r x) (fun _=>rfl) rfl
def bQ.AU (x:bQ):(bQ.r x).eJ=x.eJ:=Eq.trans rfl rfl
def bQ.qv (x:bQ):(bQ.r x).bq=(ah.r x.bq):=Eq.trans rfl rfl
def bQ.A5 (x:bQ):(bQ.r x).bX=(ah.r x.bX):=Eq.trans rfl rfl
def bQ.Ca (x:bQ):(bQ.r x).eK=(aV.r x.eK):=Eq.trans rfl rfl
def bQ.BQ (x:bQ):(bQ.r x).cE=(aV.r x.cE):=Eq.trans rfl rfl
instance :Row bQ:=⟨bQ.row,bQ.cz⟩
instance :Im bQ fG:=⟨bQ.r,bQ.cJ⟩
def bQ.rs:(∀(xs:List bQ) (i:Nat),fG.at (xs.map bQ.row) i=(xs.getD i bQ.zero).r)/\(∀x:bQ,(bQ.r x).eJ=x.eJ)/\(∀x:bQ,(bQ.r x).bq=(ah.r x.bq))/\(∀x:bQ,(bQ.r x).bX=(ah.r x.bX))/\(∀x:bQ,(bQ.r x).eK=(aV.r x.eK))/\(∀x:bQ,(bQ.r x).cE=(aV.r x.cE)):=⟨fun _ _=>bQ.cS,bQ.AU,bQ.qv,bQ.A5,bQ.Ca,bQ.BQ⟩
def bQ.Sm (n:Nat)(x:bQ):Prop:=ah.Sm n x.bq/\ah.Sm n x.bX/\aV.Sm n x.eK/\aV.Sm n x.cE
structure bt where
 aD:an
 bO:Bool
 aR:bp
 eN:eB
 fC:fG
structure aB where
 aD:List aa
 bO:Bool
 aR:ah
 eN:aV
 fC:bQ
def bt.enc (x:bt):List L:=[.sl x.aD,.bool x.bO,.str x.aR.aZ,.int x.aR.bE,.int x.aR.bY,.sl x.aR.bD,.int x.eN.eJ,.sl x.eN.bD,.int x.fC.eJ,.str x.fC.bq.aZ,.int x.fC.bq.bE,.int x.fC.bq.bY,.sl x.fC.bq.bD,.str x.fC.bX.aZ,.int x.fC.bX.bE,.int x.fC.bX.bY,.sl x.fC.bX.bD,.int x.fC.eK.eJ,.sl x.fC.eK.bD,.int x.fC.cE.eJ,.sl x.fC.cE.bD]
def bt.dec (r:List L):bt:=⟨(fJ 0 r),(Cd 1 r),⟨(rI 2 r),(cI 3 r),(cI 4 r),(fJ 5 r)⟩,⟨(cI 6 r),(fJ 7 r)⟩,⟨(cI 8 r),⟨(rI 9 r),(cI 10 r),(cI 11 r),(fJ 12 r)⟩,⟨(rI 13 r),(cI 14 r),(cI 15 r),(fJ 16 r)⟩,⟨(cI 17 r),(fJ 18 r)⟩,⟨(cI 19 r),(fJ 20 r)⟩⟩⟩
instance :RT bt:=⟨bt.enc,bt.dec,21,fun _ _=>rfl,fun _ _=>rfl⟩
def bt.at (xs:an)(i:Nat):bt:=bt.dec (List.getD xs i [])
def aB.r (x:aB):bt:=⟨(x.aD.map aa.row),x.bO,(ah.r x.aR),(aV.r x.eN),(bQ.r x.fC)⟩
def aB.row (x:aB):List L:=bt.enc x.r
def aB.zero:aB:=⟨[],false,ah.zero,aV.zero,bQ.zero⟩
def aB.cJ {a b:aB}(h:a.r=b.r):a=b:=by
 cases a;cases b
 simp only [aB.r,bt.mk.injEq] at h
 obtain ⟨h0,h1,h2,h3,h4⟩:=h
 simp only [aB.mk.injEq]
 exact ⟨(map_inj aa.cz h0),h1,(ah.cJ h2),(aV.cJ h3),(bQ.cJ h4)⟩
def aB.cz {a b:aB}(h:aB.row a=aB.row b):a=b:=aB.cJ (congrArg bt.dec h)
def aB.cS {xs:List aB}{i:Nat}:bt.at (xs.map aB.row) i=(xs.getD i aB.zero).r:=eL (r:=fun x=>aB.r x) (fun _=>rfl) rfl
def aB.tD (x:aB):(aB.r x).aD=(x.aD.map aa.row):=Eq.trans rfl rfl
def aB.tG (x:aB):(aB.r x).bO=x.bO:=Eq.trans rfl rfl
def aB.nq (x:aB):(aB.r x).aR=(ah.r x.aR):=Eq.trans rfl rfl
def aB.AD (x:aB):(aB.r x).eN=(aV.r x.eN):=Eq.trans rfl rfl
def aB.Dv (x:aB):(aB.r x).fC=(bQ.r x.fC):=Eq.trans rfl rfl
instance :Row aB:=⟨aB.row,aB.cz⟩
instance :Im aB bt:=⟨aB.r,aB.cJ⟩
def aB.rs:(∀(xs:List aB) (i:Nat),bt.at (xs.map aB.row) i=(xs.getD i aB.zero).r)/\(∀x:aB,(aB.r x).aD=(x.aD.map aa.row))/\(∀x:aB,(aB.r x).bO=x.bO)/\(∀x:aB,(aB.r x).aR=(ah.r x.aR))/\(∀x:aB,(aB.r x).eN=(aV.r x.eN))/\(∀x:aB,(aB.r x).fC=(bQ.r x.fC)):=⟨fun _ _=>aB.cS,aB.tD,aB.tG,aB.nq,aB.AD,aB.Dv⟩
def aB.Sm (n:Nat)(x:aB):Prop:=bf n (fun y:aa=>aa.Sm n y) x.aD/\ah.Sm n x.aR/\aV.Sm n x.eN/\bQ.Sm n x.fC
structure fU where
 aS:Int
 aZ:az
 eo:bt
structure bR where
 aS:Int
 aZ:az
 eo:aB
def fU.enc (x:fU):List L:=[.int x.aS,.str x.aZ,.sl x.eo.aD,.bool x.eo.bO,.str x.eo.aR.aZ,.int x.eo.aR.bE,.int x.eo.aR.bY,.sl x.eo.aR.bD,.int x.eo.eN.eJ,.sl x.eo.eN.bD,.int x.eo.fC.eJ,.str x.eo.fC.bq.aZ,.int x.eo.fC.bq.bE,.int x.eo.fC.bq.bY,.sl x.eo.fC.bq.bD,.str x.eo.fC.bX.aZ,.int x.eo.fC.bX.bE,.int x.eo.fC.bX.bY,.sl x.eo.fC.bX.bD,.int x.eo.fC.eK.eJ,.sl x.eo.fC.eK.bD,.int x.eo.fC.cE.eJ,.sl x.eo.fC.cE.bD]
def fU.dec (r:List L):fU:=⟨(cI 0 r),(rI 1 r),⟨(fJ 2 r),(Cd 3 r),⟨(rI 4 r),(cI 5 r),(cI 6 r),(fJ 7 r)⟩,⟨(cI 8 r),(fJ 9 r)⟩,⟨(cI 10 r),⟨(rI 11 r),(cI 12 r),(cI 13 r),(fJ 14 r)⟩,⟨(rI 15 r),(cI 16 r),(cI 17 r),(fJ 18 r)⟩,⟨(cI 19 r),(fJ 20 r)⟩,⟨(cI 21 r),(fJ 22 r)⟩⟩⟩⟩
instance :RT fU:=⟨fU.enc,fU.dec,23,fun _ _=>rfl,fun _ _=>rfl⟩
def fU.at (xs:an)(i:Nat):fU:=fU.dec (List.getD xs i [])
def bR.r (x:bR):fU:=⟨x.aS,x.aZ,(aB.r x.eo)⟩
def bR.row (x:bR):List L:=fU.enc x.r
def bR.zero:bR:=⟨0,⟨#[]⟩,aB.zero⟩
def bR.cJ {a b:bR}(h:a.r=b.r):a=b:=by
 cases a;cases b
 simp only [bR.r,fU.mk.injEq] at h
 obtain ⟨h0,h1,h2⟩:=h
 simp only [bR.mk.injEq]
 exact ⟨h0,h1,(aB.cJ h2)⟩
def bR.cz {a b:bR}(h:bR.row a=bR.row b):a=b:=bR.cJ (congrArg fU.dec h)
def bR.cS {xs:List bR}{i:Nat}:fU.at (xs.map bR.row) i=(xs.getD i bR.zero).r:=eL (r:=fun x=>bR.r x) (fun _=>rfl) rfl
def bR.vX (x:bR):(bR.r x).aS=x.aS:=Eq.trans rfl rfl
def bR.tM (x:bR):(bR.r x).aZ=x.aZ:=Eq.trans rfl rfl
def bR.zU (x:bR):(bR.r x).eo=(aB.r x.eo):=Eq.trans rfl rfl
instance :Row bR:=⟨bR.row,bR.cz⟩
instance :Im bR fU:=⟨bR.r,bR.cJ⟩
def bR.rs:(∀(xs:List bR) (i:Nat),fU.at (xs.map bR.row) i=(xs.getD i bR.zero).r)/\(∀x:bR,(bR.r x).aS=x.aS)/\(∀x:bR,(bR.r x).aZ=x.aZ)/\(∀x:bR,(bR.r x).eo=(aB.r x.eo)):=⟨fun _ _=>bR.cS,bR.vX,bR.tM,bR.zU⟩
structure gK where
 bz:an
structure cY where
 bz:List bR
def gK.enc (x:gK):List L:=[.sl x.bz]
def gK.dec (r:List L):gK:=⟨(fJ 0 r)⟩
instance :RT gK:=⟨gK.enc,gK.dec,1,fun _ _=>rfl,fun _ _=>rfl⟩
def gK.at (xs:an)(i:Nat):gK:=gK.dec (List.getD xs i [])
def cY.r (x:cY):gK:=⟨(x.bz.map bR.row)⟩
def cY.row (x:cY):List L:=gK.enc x.r
def cY.zero:cY:=⟨[]⟩
def cY.cJ {a b:cY}(h:a.r=b.r):a=b:=by
 cases a;cases b
 simp only [cY.r,gK.mk.injEq] at h
 have h0:=h
 simp only [cY.mk.injEq]
 exact (map_inj bR.cz h0)
def cY.cz {a b:cY}(h:cY.row a=cY.row b):a=b:=cY.cJ (congrArg gK.dec h)
def cY.cS {xs:List cY}{i:Nat}:gK.at (xs.map cY.row) i=(xs.getD i cY.zero).r:=eL (r:=fun x=>cY.r x) (fun _=>rfl) rfl
def cY.vq (x:cY):(cY.r x).bz=(x.bz.map bR.row):=Eq.trans rfl rfl
instance :Row cY:=⟨cY.row,cY.cz⟩
instance :Im cY gK:=⟨cY.r,cY.cJ⟩
def cY.rs:(∀(xs:List cY) (i:Nat),gK.at (xs.map cY.row) i=(xs.getD i cY.zero).r)/\(∀x:cY,(cY.r x).bz=(x.bz.map bR.row)):=⟨fun _ _=>cY.cS,cY.vq⟩
structure cP where
 bS:aW
 bO:Bool
 aR:bp
 kZ:Bool
 mP:an
structure bG where
 bS:ak
 bO:Bool
 aR:ah
 kZ:Bool
 mP:List Int
def cP.enc (x:cP):List L:=[.sl x.bS.aH,.sl x.bS.bg,.bool x.bO,.str x.aR.aZ,.int x.aR.bE,.int x.aR.bY,.sl x.aR.bD,.bool x.kZ,.sl x.mP]
def cP.dec (r:List L):cP:=⟨⟨(fJ 0 r),(fJ 1 r)⟩,(Cd 2 r),⟨(rI 3 r),(cI 4 r),(cI 5 r),(fJ 6 r)⟩,(Cd 7 r),(fJ 8 r)⟩
instance :RT cP:=⟨cP.enc,cP.dec,9,fun _ _=>rfl,fun _ _=>rfl⟩
def cP.at (xs:an)(i:Nat):cP:=cP.dec (List.getD xs i [])
def bG.r (x:bG):cP:=⟨(ak.r x.bS),x.bO,(ah.r x.aR),x.kZ,(x.mP.map aQ)⟩
def bG.row (x:bG):List L:=cP.enc x.r
def bG.zero:bG:=⟨ak.zero,false,ah.zero,false,[]⟩
def bG.cJ {a b:bG}(h:a.r=b.r):a=b:=by
 cases a;cases b
 simp only [bG.r,cP.mk.injEq] at h
 obtain ⟨h0,h1,h2,h3,h4⟩:=h
 simp only [bG.mk.injEq]
 exact ⟨(ak.cJ h0),h1,(ah.cJ h2),h3,(map_inj mQ h4)⟩
def bG.cz {a b:bG}(h:bG.row a=bG.row b):a=b:=bG.cJ (congrArg cP.dec h)
def bG.cS {xs:List bG}{i:Nat}:cP.at (xs.map bG.row) i=(xs.getD i bG.zero).r:=eL (r:=fun x=>bG.r x) (fun _=>rfl) rfl
def bG.sU (x:bG):(bG.r x).bS=(ak.r x.bS):=Eq.trans rfl rfl
def bG.tG (x:bG):(bG.r x).bO=x.bO:=Eq.trans rfl rfl
def bG.nq (x:bG):(bG.r x).aR=(ah.r x.aR):=Eq.trans rfl rfl
def bG.Co (x:bG):(bG.r x).kZ=x.kZ:=Eq.trans rfl rfl
def bG.Bl (x:bG):(bG.r x).mP=(x.mP.map aQ):=Eq.trans rfl rfl
instance :Row bG:=⟨bG.row,bG.cz⟩
instance :Im bG cP:=⟨bG.r,bG.cJ⟩
def bG.rs:(∀(xs:List bG) (i:Nat),cP.at (xs.map bG.row) i=(xs.getD i bG.zero).r)/\(∀x:bG,(bG.r x).bS=(ak.r x.bS))/\(∀x:bG,(bG.r x).bO=x.bO)/\(∀x:bG,(bG.r x).aR=(ah.r x.aR))/\(∀x:bG,(bG.r x).kZ=x.kZ)/\(∀x:bG,(bG.r x).mP=(x.mP.map aQ)):=⟨fun _ _=>bG.cS,bG.sU,bG.tG,bG.nq,bG.Co,bG.Bl⟩
def bG.Sm (n:Nat)(x:bG):Prop:=ak.Sm n x.bS/\ah.Sm n x.aR/\bf n (fun y:Int=>True) x.mP
structure cw where
 bS:aW
 fo:Int
 aR:bp
 bw:an
 iU:Int
structure av where
 bS:ak
 fo:Int
 aR:ah
 bw:List Int
 iU:Int
def cw.enc (x:cw):List L:=[.sl x.bS.aH,.sl x.bS.bg,.int x.fo,.str x.aR.aZ,.int x.aR.bE,.int x.aR.bY,.sl x.aR.bD,.sl x.bw,.int x.iU]
def cw.dec (r:List L):cw:=⟨⟨(fJ 0 r),(fJ 1 r)⟩,(cI 2 r),⟨(rI 3 r),(cI 4 r),(cI 5 r),(fJ 6 r)⟩,(fJ 7 r),(cI 8 r)⟩
instance :RT cw:=⟨cw.enc,cw.dec,9,fun _ _=>rfl,fun _ _=>rfl⟩
def cw.at (xs:an)(i:Nat):cw:=cw.dec (List.getD xs i [])
def av.r (x:av):cw:=⟨(ak.r x.bS),x.fo,(ah.r x.aR),(x.bw.map aQ),x.iU⟩
def av.row (x:av):List L:=cw.enc x.r
def av.zero:av:=⟨ak.zero,0,ah.zero,[],0⟩
def av.cJ {a b:av}(h:a.r=b.r):a=b:=by
 cases a;cases b
 simp only [av.r,cw.mk.injEq] at h
 obtain ⟨h0,h1,h2,h3,h4⟩:=h
 simp only [av.mk.injEq]
 exact ⟨(ak.cJ h0),h1,(ah.cJ h2),(map_inj mQ h3),h4⟩
def av.cz {a b:av}(h:av.row a=av.row b):a=b:=av.cJ (congrArg cw.dec h)
def av.cS {xs:List av}{i:Nat}:cw.at (xs.map av.row) i=(xs.getD i av.zero).r:=eL (r:=fun x=>av.r x) (fun _=>rfl) rfl
def av.sU (x:av):(av.r x).bS=(ak.r x.bS):=Eq.trans rfl rfl
def av.CD (x:av):(av.r x).fo=x.fo:=Eq.trans rfl rfl
def av.nq (x:av):(av.r x).aR=(ah.r x.aR):=Eq.trans rfl rfl
def av.rX (x:av):(av.r x).bw=(x.bw.map aQ):=Eq.trans rfl rfl
def av.AR (x:av):(av.r x).iU=x.iU:=Eq.trans rfl rfl
instance :Row av:=⟨av.row,av.cz⟩
instance :Im av cw:=⟨av.r,av.cJ⟩
def av.rs:(∀(xs:List av) (i:Nat),cw.at (xs.map av.row) i=(xs.getD i av.zero).r)/\(∀x:av,(av.r x).bS=(ak.r x.bS))/\(∀x:av,(av.r x).fo=x.fo)/\(∀x:av,(av.r x).aR=(ah.r x.aR))/\(∀x:av,(av.r x).bw=(x.bw.map aQ))/\(∀x:av,(av.r x).iU=x.iU):=⟨fun _ _=>av.cS,av.sU,av.CD,av.nq,av.rX,av.AR⟩
def av.Sm (n:Nat)(x:av):Prop:=ak.Sm n x.bS/\ah.Sm n x.aR/\bf n (fun y:Int=>True) x.bw
structure ji where
 iu:cw
 oS:gK
structure eA where
 iu:av
 oS:cY
def ji.enc (x:ji):List L:=[.sl x.iu.bS.aH,.sl x.iu.bS.bg,.int x.iu.fo,.str x.iu.aR.aZ,.int x.iu.aR.bE,.int x.iu.aR.bY,.sl x.iu.aR.bD,.sl x.iu.bw,.int x.iu.iU,.sl x.oS.bz]
def ji.dec (r:List L):ji:=⟨⟨⟨(fJ 0 r),(fJ 1 r)⟩,(cI 2 r),⟨(rI 3 r),(cI 4 r),(cI 5 r),(fJ 6 r)⟩,(fJ 7 r),(cI 8 r)⟩,⟨(fJ 9 r)⟩⟩
instance :RT ji:=⟨ji.enc,ji.dec,10,fun _ _=>rfl,fun _ _=>rfl⟩
def ji.at (xs:an)(i:Nat):ji:=ji.dec (List.getD xs i [])
def eA.r (x:eA):ji:=⟨(av.r x.iu),(cY.r x.oS)⟩
def eA.row (x:eA):List L:=ji.enc x.r
def eA.zero:eA:=⟨av.zero,cY.zero⟩
def eA.cJ {a b:eA}(h:a.r=b.r):a=b:=by
 cases a;cases b
 simp only [eA.r,ji.mk.injEq] at h
 obtain ⟨h0,h1⟩:=h
 simp only [eA.mk.injEq]
 exact ⟨(av.cJ h0),(cY.cJ h1)⟩
def eA.cz {a b:eA}(h:eA.row a=eA.row b):a=b:=eA.cJ (congrArg ji.dec h)
def eA.cS {xs:List eA}{i:Nat}:ji.at (xs.map eA.row) i=(xs.getD i eA.zero).r:=eL (r:=fun x=>eA.r x) (fun _=>rfl) rfl
def eA.Bx (x:eA):(eA.r x).iu=(av.r x.iu):=Eq.trans rfl rfl
def eA.Ba (x:eA):(eA.r x).oS=(cY.r x.oS):=Eq.trans rfl rfl
instance :Row eA:=⟨eA.row,eA.cz⟩
instance :Im eA ji:=⟨eA.r,eA.cJ⟩
def eA.rs:(∀(xs:List eA) (i:Nat),ji.at (xs.map eA.row) i=(xs.getD i eA.zero).r)/\(∀x:eA,(eA.r x).iu=(av.r x.iu))/\(∀x:eA,(eA.r x).oS=(cY.r x.oS)):=⟨fun _ _=>eA.cS,eA.Bx,eA.Ba⟩
structure gM where
 fName:az
 aS:Int
def gM.enc (x:gM):List L:=[.str x.fName,.int x.aS]
def gM.dec (r:List L):gM:=⟨(rI 0 r),(cI 1 r)⟩
instance :RT gM:=⟨gM.enc,gM.dec,2,fun _ _=>rfl,fun _ _=>rfl⟩
def gM.at (xs:an)(i:Nat):gM:=gM.dec (List.getD xs i [])
def gM.row (x:gM):List L:=gM.enc x
def gM.zero:gM:=⟨⟨#[]⟩,0⟩
def gM.cz {a b:gM}(h:gM.row a=gM.row b):a=b:=congrArg gM.dec h
def gM.cS {xs:List gM}{i:Nat}:gM.at (xs.map gM.row) i=xs.getD i gM.zero:=eL (r:=fun x=>x) (fun _=>rfl) rfl
instance :Row gM:=⟨gM.row,gM.cz⟩
instance :Im gM gM:=⟨fun x=>x,fun h=>h⟩
def gM.rs:(∀(xs:List gM) (i:Nat),gM.at (xs.map gM.row) i=xs.getD i gM.zero):=fun _ _=>gM.cS
structure bT where
 aD:an
 bI:an
structure aI where
 aD:List aa
 bI:List ah
def bT.enc (x:bT):List L:=[.sl x.aD,.sl x.bI]
def bT.dec (r:List L):bT:=⟨(fJ 0 r),(fJ 1 r)⟩
instance :RT bT:=⟨bT.enc,bT.dec,2,fun _ _=>rfl,fun _ _=>rfl⟩
def bT.at (xs:an)(i:Nat):bT:=bT.dec (List.getD xs i [])
def aI.r (x:aI):bT:=⟨(x.aD.map aa.row),(x.bI.map ah.row)⟩
def aI.row (x:aI):List L:=bT.enc x.r
def aI.zero:aI:=⟨[],[]⟩
def aI.cJ {a b:aI}(h:a.r=b.r):a=b:=by
 cases a;cases b
 simp only [aI.r,bT.mk.injEq] at h
 obtain ⟨h0,h1⟩:=h
 simp only [aI.mk.injEq]
 exact ⟨(map_inj aa.cz h0),(map_inj ah.cz h1)⟩
def aI.cz {a b:aI}(h:aI.row a=aI.row b):a=b:=aI.cJ (congrArg bT.dec h)
def aI.tw {xs:List aI}{i:Nat}(h:i<xs.length):bT.at (xs.map aI.row) i=(xs[i]).r:=by unfold bT.at;rw [getD_map h];rfl
def aI.cS {xs:List aI}{i:Nat}:bT.at (xs.map aI.row) i=(xs.getD i aI.zero).r:=eL (r:=fun x=>aI.r x) (fun _=>rfl) rfl
def aI.tD (x:aI):(aI.r x).aD=(x.aD.map aa.row):=Eq.trans rfl rfl
def aI.yx (x:aI):(aI.r x).bI=(x.bI.map ah.row):=Eq.trans rfl rfl
instance :Row aI:=⟨aI.row,aI.cz⟩
instance :Im aI bT:=⟨aI.r,aI.cJ⟩
def aI.rs:(∀(xs:List aI) (i:Nat),bT.at (xs.map aI.row) i=(xs.getD i aI.zero).r)/\(∀x:aI,(aI.r x).aD=(x.aD.map aa.row))/\(∀x:aI,(aI.r x).bI=(x.bI.map ah.row)):=⟨fun _ _=>aI.cS,aI.tD,aI.yx⟩
def aI.Sm (n:Nat)(x:aI):Prop:=bf n (fun y:aa=>aa.Sm n y) x.aD/\bf n (fun y:ah=>ah.Sm n y) x.bI
def aI.dL {n m:Nat}(hn:n<=m){x:aI}(h:aI.Sm n x):aI.Sm m x:=⟨h.1.mono hn (fun x hx=>aa.dL hn hx),h.2.mono hn (fun x hx=>ah.dL hn hx)⟩
structure aX where
 fName:az
 aS:Int
def aX.enc (x:aX):List L:=[.str x.fName,.int x.aS]
def aX.dec (r:List L):aX:=⟨(rI 0 r),(cI 1 r)⟩
instance :RT aX:=⟨aX.enc,aX.dec,2,fun _ _=>rfl,fun _ _=>rfl⟩
def aX.at (xs:an)(i:Nat):aX:=aX.dec (List.getD xs i [])
def aX.row (x:aX):List L:=aX.enc x
def aX.zero:aX:=⟨⟨#[]⟩,0⟩
def aX.cz {a b:aX}(h:aX.row a=aX.row b):a=b:=congrArg aX.dec h
def aX.cS {xs:List aX}{i:Nat}:aX.at (xs.map aX.row) i=xs.getD i aX.zero:=eL (r:=fun x=>x) (fun _=>rfl) rfl
instance :Row aX:=⟨aX.row,aX.cz⟩
instance :Im aX aX:=⟨fun x=>x,fun h=>h⟩
def aX.rs:(∀(xs:List aX) (i:Nat),aX.at (xs.map aX.row) i=xs.getD i aX.zero):=fun _ _=>aX.cS
def aX.Sm (n:Nat)(x:aX):Prop:=(x.fName).size<=n
def aX.dL {n m:Nat}(hn:n<=m){x:aX}(h:aX.Sm n x):aX.Sm m x:=Nat.le_trans h hn
structure bV where
 bw:an
 gF:Int
structure ay where
 bw:List aI
 gF:Int
def bV.enc (x:bV):List L:=[.sl x.bw,.int x.gF]
def bV.dec (r:List L):bV:=⟨(fJ 0 r),(cI 1 r)⟩
instance :RT bV:=⟨bV.enc,bV.dec,2,fun _ _=>rfl,fun _ _=>rfl⟩
def bV.at (xs:an)(i:Nat):bV:=bV.dec (List.getD xs i [])
def ay.r (x:ay):bV:=⟨(x.bw.map aI.row),x.gF⟩
def ay.row (x:ay):List L:=bV.enc x.r
def ay.zero:ay:=⟨[],0⟩
def ay.cJ {a b:ay}(h:a.r=b.r):a=b:=by
 cases a;cases b
 simp only [ay.r,bV.mk.injEq] at h
 obtain ⟨h0,h1⟩:=h
 simp only [ay.mk.injEq]
 exact ⟨(map_inj aI.cz h0),h1⟩
def ay.cz {a b:ay}(h:ay.row a=ay.row b):a=b:=ay.cJ (congrArg bV.dec h)
def ay.cS {xs:List ay}{i:Nat}:bV.at (xs.map ay.row) i=(xs.getD i ay.zero).r:=eL (r:=fun x=>ay.r x) (fun _=>rfl) rfl
def ay.rX (x:ay):(ay.r x).bw=(x.bw.map aI.row):=Eq.trans rfl rfl
def ay.DJ (x:ay):(ay.r x).gF=x.gF:=Eq.trans rfl rfl
instance :Row ay:=⟨ay.row,ay.cz⟩
instance :Im ay bV:=⟨ay.r,ay.cJ⟩
def ay.rs:(∀(xs:List ay) (i:Nat),bV.at (xs.map ay.row) i=(xs.getD i ay.zero).r)/\(∀x:ay,(ay.r x).bw=(x.bw.map aI.row))/\(∀x:ay,(ay.r x).gF=x.gF):=⟨fun _ _=>ay.cS,ay.rX,ay.DJ⟩
def ay.Sm (n:Nat)(x:ay):Prop:=bf n (fun y:aI=>aI.Sm n y) x.bw
def ay.dL {n m:Nat}(hn:n<=m){x:ay}(h:ay.Sm n x):ay.Sm m x:=h.mono hn (fun x hx=>aI.dL hn hx)
def SS:=And.intro (And.intro S0 MM) (And.intro aN.rs (And.intro au.rs (And.intro bC.rs (And.intro aa.rs (And.intro aM.rs (And.intro ak.rs (And.intro ah.rs (And.intro aV.rs (And.intro bQ.rs (And.intro aB.rs (And.intro bR.rs (And.intro cY.rs (And.intro bG.rs (And.intro av.rs (And.intro eA.rs (And.intro gM.rs (And.intro aI.rs (And.intro aX.rs (And.intro ay.rs trivial)))))))))))))))))))
def fz {p:Prop}(h:p:=by first | rfl | (simp only [SS];done) | (simp only [MP];rfl) | (simp only [SS,MP];first | done | rfl) | (simp only [aN.r,au.r,aa.r,aM.r,ak.r,ah.r,aV.r,bQ.r,aB.r,bR.r,cY.r,bG.r,av.r,eA.r,aI.r,ay.r,SS,MP];first | done | rfl) | (simp only [SS,MP,List.length_take,List.length_drop];first | done | rfl)):p:=h
def rq {p q:Prop}(h:p)(k:p->q:=by intro R_;first | exact R_ | (simp only [MP,SS] at R_ ⊢;first | exact R_ | (rw [<-R_];rfl))):q:=k h
end Go.DM

end
