/- The structures of the program, as mathematical records. Conditions: none. -/
import Derived.Test.YtcepeleohipibaaGreatLResolvedDd
set_option linter.all false
noncomputable section
namespace Go.DM
abbrev cF (i:Nat)(l:List L):Int:=((bA i l).headD .hole).toInt
abbrev hIq (l:List L):Int:=(l.headD .hole).toInt
abbrev fP (i:Nat)(l:List L):aq:=((bA i l).headD .hole).dz
abbrev eU (l:List L):aq:=(l.headD .hole).dz
abbrev BV (i:Nat)(l:List L):Bool:=((bA i l).headD .hole).toBool
abbrev hBq (l:List L):Bool:=(l.headD .hole).toBool
abbrev rL (i:Nat)(l:List L):av:=((bA i l).headD .hole).toStr
abbrev hTq (l:List L):av:=(l.headD .hole).toStr
structure cX where
 bz:aq
 dw:Int
structure aL where
 bz:List Int
 dw:Int
def cX.enc (x:cX):List L:=[.sl x.bz,.int x.dw]
def cX.dec (r:List L):cX:=⟨(fP 0 r),(cF 1 r)⟩
instance :RT cX:=⟨cX.enc,cX.dec,2,fun _ _=>rfl,fun _ _=>rfl⟩
def cX.at (xs:aq)(i:Nat):cX:=cX.dec (List.getD xs i [])
def aL.r (x:aL):cX:=⟨(x.bz.map aV),x.dw⟩
def aL.row (x:aL):List L:=cX.enc x.r
def aL.zero:aL:=⟨[],0⟩
def aL.cJ {a b:aL}(h:a.r=b.r):a=b:=by
 cases a;cases b
 simp only [aL.r,cX.mk.injEq] at h
 obtain ⟨h0,h1⟩:=h
 simp only [aL.mk.injEq]
 exact ⟨(map_inj nv h0),h1⟩
def aL.cy {a b:aL}(h:aL.row a=aL.row b):a=b:=aL.cJ (congrArg cX.dec h)
def aL.cU {xs:List aL}{i:Nat}:cX.at (xs.map aL.row) i=(xs.getD i aL.zero).r:=eP (r:=fun x=>aL.r x) (fun _=>rfl) rfl
def aL.vN (x:aL):(aL.r x).bz=(x.bz.map aV):=Eq.trans rfl rfl
def aL.Cg (x:aL):(aL.r x).dw=x.dw:=Eq.trans rfl rfl
instance :Row aL:=⟨aL.row,aL.cy⟩
instance :Im aL cX:=⟨aL.r,aL.cJ⟩
def aL.rs:(∀(xs:List aL) (i:Nat),cX.at (xs.map aL.row) i=(xs.getD i aL.zero).r)/\(∀x:aL,(aL.r x).bz=(x.bz.map aV))/\(∀x:aL,(aL.r x).dw=x.dw):=⟨fun _ _=>aL.cU,aL.vN,aL.Cg⟩
def aL.Sm (n:Nat)(x:aL):Prop:=bg n (fun y:Int=>True) x.bz
def aL.dV {n m:Nat}(hn:n<=m){x:aL}(h:aL.Sm n x):aL.Sm m x:=h.mono hn (fun x hx=>trivial)
structure bN where
 aX:Int
 cw:Int
 bt:Int
 cg:Int
 cm:Int
 bZ:Int
 dx:Int
 ec:Int
 bV:cX
 bG:cX
 cW:Int
 bD:cX
 bh:Bool
structure au where
 aX:Int
 cw:Int
 bt:Int
 cg:Int
 cm:Int
 bZ:Int
 dx:Int
 ec:Int
 bV:aL
 bG:aL
 cW:Int
 bD:aL
 bh:Bool
def bN.enc (x:bN):List L:=[.int x.aX,.int x.cw,.int x.bt,.int x.cg,.int x.cm,.int x.bZ,.int x.dx,.int x.ec,.sl x.bV.bz,.int x.bV.dw,.sl x.bG.bz,.int x.bG.dw,.int x.cW,.sl x.bD.bz,.int x.bD.dw,.bool x.bh]
def bN.dec (r:List L):bN:=⟨(cF 0 r),(cF 1 r),(cF 2 r),(cF 3 r),(cF 4 r),(cF 5 r),(cF 6 r),(cF 7 r),⟨(fP 8 r),(cF 9 r)⟩,⟨(fP 10 r),(cF 11 r)⟩,(cF 12 r),⟨(fP 13 r),(cF 14 r)⟩,(BV 15 r)⟩
instance :RT bN:=⟨bN.enc,bN.dec,16,fun _ _=>rfl,fun _ _=>rfl⟩
def bN.at (xs:aq)(i:Nat):bN:=bN.dec (List.getD xs i [])
def au.r (x:au):bN:=⟨x.aX,x.cw,x.bt,x.cg,x.cm,x.bZ,x.dx,x.ec,(aL.r x.bV),(aL.r x.bG),x.cW,(aL.r x.bD),x.bh⟩
def au.row (x:au):List L:=bN.enc x.r
def au.zero:au:=⟨0,0,0,0,0,0,0,0,aL.zero,aL.zero,0,aL.zero,false⟩
def au.cJ {a b:au}(h:a.r=b.r):a=b:=by
 cases a;cases b
 simp only [au.r,bN.mk.injEq] at h
 obtain ⟨h0,h1,h2,h3,h4,h5,h6,h7,h8,h9,h10,h11,h12⟩:=h
 simp only [au.mk.injEq]
 exact ⟨h0,h1,h2,h3,h4,h5,h6,h7,(aL.cJ h8),(aL.cJ h9),h10,(aL.cJ h11),h12⟩
def au.cy {a b:au}(h:au.row a=au.row b):a=b:=au.cJ (congrArg bN.dec h)
def au.cU {xs:List au}{i:Nat}:bN.at (xs.map au.row) i=(xs.getD i au.zero).r:=eP (r:=fun x=>au.r x) (fun _=>rfl) rfl
def au.vJ (x:au):(au.r x).aX=x.aX:=Eq.trans rfl rfl
def au.Bs (x:au):(au.r x).cw=x.cw:=Eq.trans rfl rfl
def au.vS (x:au):(au.r x).bt=x.bt:=Eq.trans rfl rfl
def au.B6 (x:au):(au.r x).cg=x.cg:=Eq.trans rfl rfl
def au.AU (x:au):(au.r x).cm=x.cm:=Eq.trans rfl rfl
def au.BK (x:au):(au.r x).bZ=x.bZ:=Eq.trans rfl rfl
def au.B1 (x:au):(au.r x).dx=x.dx:=Eq.trans rfl rfl
def au.Cr (x:au):(au.r x).ec=x.ec:=Eq.trans rfl rfl
def au.Ck (x:au):(au.r x).bV=(aL.r x.bV):=Eq.trans rfl rfl
def au.BE (x:au):(au.r x).bG=(aL.r x.bG):=Eq.trans rfl rfl
def au.Cn (x:au):(au.r x).cW=x.cW:=Eq.trans rfl rfl
def au.BG (x:au):(au.r x).bD=(aL.r x.bD):=Eq.trans rfl rfl
def au.zD (x:au):(au.r x).bh=x.bh:=Eq.trans rfl rfl
instance :Row au:=⟨au.row,au.cy⟩
instance :Im au bN:=⟨au.r,au.cJ⟩
def au.rs:(∀(xs:List au) (i:Nat),bN.at (xs.map au.row) i=(xs.getD i au.zero).r)/\(∀x:au,(au.r x).aX=x.aX)/\(∀x:au,(au.r x).cw=x.cw)/\(∀x:au,(au.r x).bt=x.bt)/\(∀x:au,(au.r x).cg=x.cg)/\(∀x:au,(au.r x).cm=x.cm)/\(∀x:au,(au.r x).bZ=x.bZ)/\(∀x:au,(au.r x).dx=x.dx)/\(∀x:au,(au.r x).ec=x.ec)/\(∀x:au,(au.r x).bV=(aL.r x.bV))/\(∀x:au,(au.r x).bG=(aL.r x.bG))/\(∀x:au,(au.r x).cW=x.cW)/\(∀x:au,(au.r x).bD=(aL.r x.bD))/\(∀x:au,(au.r x).bh=x.bh):=⟨fun _ _=>au.cU,au.vJ,au.Bs,au.vS,au.B6,au.AU,au.BK,au.B1,au.Cr,au.Ck,au.BE,au.Cn,au.BG,au.zD⟩
def au.Sm (n:Nat)(x:au):Prop:=aL.Sm n x.bV/\aL.Sm n x.bG/\aL.Sm n x.bD
def au.dV {n m:Nat}(hn:n<=m){x:au}(h:au.Sm n x):au.Sm m x:=⟨aL.dV hn h.1,aL.dV hn h.2.1,aL.dV hn h.2.2⟩
structure bE where
 jJ:Int
 pg:Int
def bE.enc (x:bE):List L:=[.int x.jJ,.int x.pg]
def bE.dec (r:List L):bE:=⟨(cF 0 r),(cF 1 r)⟩
instance :RT bE:=⟨bE.enc,bE.dec,2,fun _ _=>rfl,fun _ _=>rfl⟩
def bE.at (xs:aq)(i:Nat):bE:=bE.dec (List.getD xs i [])
def bE.row (x:bE):List L:=bE.enc x
def bE.zero:bE:=⟨0,0⟩
def bE.cy {a b:bE}(h:bE.row a=bE.row b):a=b:=congrArg bE.dec h
def bE.cU {xs:List bE}{i:Nat}:bE.at (xs.map bE.row) i=xs.getD i bE.zero:=eP (r:=fun x=>x) (fun _=>rfl) rfl
def bE.eqc (a b:bE):(iV a.jJ b.jJ&&(iV a.pg b.pg&&true))=iV a b:=by
 cases a;cases b
 rw [Bool.eq_iff_iff]
 simp only [dO,Bool.and_eq_true,bE.mk.injEq,and_true]
instance :Row bE:=⟨bE.row,bE.cy⟩
instance :Im bE bE:=⟨fun x=>x,fun h=>h⟩
def bE.rs:(∀(xs:List bE) (i:Nat),bE.at (xs.map bE.row) i=xs.getD i bE.zero):=fun _ _=>bE.cU
def bE.Sm (n:Nat)(x:bE):Prop:=True
def bE.dV {n m:Nat}(_:n<=m){x:bE}(_:bE.Sm n x):bE.Sm m x:=trivial
structure aU where
 an:bN
 dR:aq
structure aa where
 an:au
 dR:List bE
def aU.enc (x:aU):List L:=[.int x.an.aX,.int x.an.cw,.int x.an.bt,.int x.an.cg,.int x.an.cm,.int x.an.bZ,.int x.an.dx,.int x.an.ec,.sl x.an.bV.bz,.int x.an.bV.dw,.sl x.an.bG.bz,.int x.an.bG.dw,.int x.an.cW,.sl x.an.bD.bz,.int x.an.bD.dw,.bool x.an.bh,.sl x.dR]
def aU.dec (r:List L):aU:=⟨⟨(cF 0 r),(cF 1 r),(cF 2 r),(cF 3 r),(cF 4 r),(cF 5 r),(cF 6 r),(cF 7 r),⟨(fP 8 r),(cF 9 r)⟩,⟨(fP 10 r),(cF 11 r)⟩,(cF 12 r),⟨(fP 13 r),(cF 14 r)⟩,(BV 15 r)⟩,(fP 16 r)⟩
instance :RT aU:=⟨aU.enc,aU.dec,17,fun _ _=>rfl,fun _ _=>rfl⟩
def aU.at (xs:aq)(i:Nat):aU:=aU.dec (List.getD xs i [])
def aa.r (x:aa):aU:=⟨(au.r x.an),(x.dR.map bE.row)⟩
def aa.row (x:aa):List L:=aU.enc x.r
def aa.zero:aa:=⟨au.zero,[]⟩
def aa.cJ {a b:aa}(h:a.r=b.r):a=b:=by
 cases a;cases b
 simp only [aa.r,aU.mk.injEq] at h
 obtain ⟨h0,h1⟩:=h
 simp only [aa.mk.injEq]
 exact ⟨(au.cJ h0),(map_inj bE.cy h1)⟩
def aa.cy {a b:aa}(h:aa.row a=aa.row b):a=b:=aa.cJ (congrArg aU.dec h)
def aa.cU {xs:List aa}{i:Nat}:aU.at (xs.map aa.row) i=(xs.getD i aa.zero).r:=eP (r:=fun x=>aa.r x) (fun _=>rfl) rfl
def aa.BW (x:aa):(aa.r x).an=(au.r x.an):=Eq.trans rfl rfl
def aa.Cm (x:aa):(aa.r x).dR=(x.dR.map bE.row):=Eq.trans rfl rfl
instance :Row aa:=⟨aa.row,aa.cy⟩
instance :Im aa aU:=⟨aa.r,aa.cJ⟩
def aa.rs:(∀(xs:List aa) (i:Nat),aU.at (xs.map aa.row) i=(xs.getD i aa.zero).r)/\(∀x:aa,(aa.r x).an=(au.r x.an))/\(∀x:aa,(aa.r x).dR=(x.dR.map bE.row)):=⟨fun _ _=>aa.cU,aa.BW,aa.Cm⟩
def aa.Sm (n:Nat)(x:aa):Prop:=au.Sm n x.an/\bg n (fun y:bE=>bE.Sm n y) x.dR
def aa.dV {n m:Nat}(hn:n<=m){x:aa}(h:aa.Sm n x):aa.Sm m x:=⟨au.dV hn h.1,h.2.mono hn (fun x hx=>bE.dV hn hx)⟩
structure cB where
 bp:aU
 fA:aU
 fB:aU
structure aN where
 bp:aa
 fA:aa
 fB:aa
def cB.enc (x:cB):List L:=[.int x.bp.an.aX,.int x.bp.an.cw,.int x.bp.an.bt,.int x.bp.an.cg,.int x.bp.an.cm,.int x.bp.an.bZ,.int x.bp.an.dx,.int x.bp.an.ec,.sl x.bp.an.bV.bz,.int x.bp.an.bV.dw,.sl x.bp.an.bG.bz,.int x.bp.an.bG.dw,.int x.bp.an.cW,.sl x.bp.an.bD.bz,.int x.bp.an.bD.dw,.bool x.bp.an.bh,.sl x.bp.dR,.int x.fA.an.aX,.int x.fA.an.cw,.int x.fA.an.bt,.int x.fA.an.cg,.int x.fA.an.cm,.int x.fA.an.bZ,.int x.fA.an.dx,.int x.fA.an.ec,.sl x.fA.an.bV.bz,.int x.fA.an.bV.dw,.sl x.fA.an.bG.bz,.int x.fA.an.bG.dw,.int x.fA.an.cW,.sl x.fA.an.bD.bz,.int x.fA.an.bD.dw,.bool x.fA.an.bh,.sl x.fA.dR,.int x.fB.an.aX,.int x.fB.an.cw,.int x.fB.an.bt,.int x.fB.an.cg,.int x.fB.an.cm,.int x.fB.an.bZ,.int x.fB.an.dx,.int x.fB.an.ec,.sl x.fB.an.bV.bz,.int x.fB.an.bV.dw,.sl x.fB.an.bG.bz,.int x.fB.an.bG.dw,.int x.fB.an.cW,.sl x.fB.an.bD.bz,.int x.fB.an.bD.dw,.bool x.fB.an.bh,.sl x.fB.dR]
def cB.dec (r:List L):cB:=⟨⟨⟨(cF 0 r),(cF 1 r),(cF 2 r),(cF 3 r),(cF 4 r),(cF 5 r),(cF 6 r),(cF 7 r),⟨(fP 8 r),(cF 9 r)⟩,⟨(fP 10 r),(cF 11 r)⟩,(cF 12 r),⟨(fP 13 r),(cF 14 r)⟩,(BV 15 r)⟩,(fP 16 r)⟩,⟨⟨(cF 17 r),(cF 18 r),(cF 19 r),(cF 20 r),(cF 21 r),(cF 22 r),(cF 23 r),(cF 24 r),⟨(fP 25 r),(cF 26 r)⟩,⟨(fP 27 r),(cF 28 r)⟩,(cF 29 r),⟨(fP 30 r),(cF 31 r)⟩,(BV 32 r)⟩,(fP 33 r)⟩,⟨⟨(cF 34 r),(cF 35 r),(cF 36 r),(cF 37 r),(cF 38 r),(cF 39 r),(cF 40 r),(cF 41 r),⟨(fP 42 r),(cF 43 r)⟩,⟨(fP 44 r),(cF 45 r)⟩,(cF 46 r),⟨(fP 47 r),(cF 48 r)⟩,(BV 49 r)⟩,(fP 50 r)⟩⟩
instance :RT cB:=⟨cB.enc,cB.dec,51,fun _ _=>rfl,fun _ _=>rfl⟩
def cB.at (xs:aq)(i:Nat):cB:=cB.dec (List.getD xs i [])
def aN.r (x:aN):cB:=⟨(aa.r x.bp),(aa.r x.fA),(aa.r x.fB)⟩
def aN.row (x:aN):List L:=cB.enc x.r
def aN.zero:aN:=⟨aa.zero,aa.zero,aa.zero⟩
def aN.cJ {a b:aN}(h:a.r=b.r):a=b:=by
 cases a;cases b
 simp only [aN.r,cB.mk.injEq] at h
 obtain ⟨h0,h1,h2⟩:=h
 simp only [aN.mk.injEq]
 exact ⟨(aa.cJ h0),(aa.cJ h1),(aa.cJ h2)⟩
def aN.cy {a b:aN}(h:aN.row a=aN.row b):a=b:=aN.cJ (congrArg cB.dec h)
def aN.cU {xs:List aN}{i:Nat}:cB.at (xs.map aN.row) i=(xs.getD i aN.zero).r:=eP (r:=fun x=>aN.r x) (fun _=>rfl) rfl
def aN.qD (x:aN):(aN.r x).bp=(aa.r x.bp):=Eq.trans rfl rfl
def aN.EZ (x:aN):(aN.r x).fA=(aa.r x.fA):=Eq.trans rfl rfl
def aN.EH (x:aN):(aN.r x).fB=(aa.r x.fB):=Eq.trans rfl rfl
instance :Row aN:=⟨aN.row,aN.cy⟩
instance :Im aN cB:=⟨aN.r,aN.cJ⟩
def aN.rs:(∀(xs:List aN) (i:Nat),cB.at (xs.map aN.row) i=(xs.getD i aN.zero).r)/\(∀x:aN,(aN.r x).bp=(aa.r x.bp))/\(∀x:aN,(aN.r x).fA=(aa.r x.fA))/\(∀x:aN,(aN.r x).fB=(aa.r x.fB)):=⟨fun _ _=>aN.cU,aN.qD,aN.EZ,aN.EH⟩
def aN.Sm (n:Nat)(x:aN):Prop:=aa.Sm n x.bp/\aa.Sm n x.fA/\aa.Sm n x.fB
structure aW where
 ay:aq
 aY:aq
structure ak where
 ay:List (List aa)
 aY:List aN
def aW.enc (x:aW):List L:=[.sl x.ay,.sl x.aY]
def aW.dec (r:List L):aW:=⟨(fP 0 r),(fP 1 r)⟩
instance :RT aW:=⟨aW.enc,aW.dec,2,fun _ _=>rfl,fun _ _=>rfl⟩
def aW.at (xs:aq)(i:Nat):aW:=aW.dec (List.getD xs i [])
def ak.r (x:ak):aW:=⟨(x.ay.map (fR aa.row)),(x.aY.map aN.row)⟩
def ak.row (x:ak):List L:=aW.enc x.r
def ak.zero:ak:=⟨[],[]⟩
def ak.cJ {a b:ak}(h:a.r=b.r):a=b:=by
 cases a;cases b
 simp only [ak.r,aW.mk.injEq] at h
 obtain ⟨h0,h1⟩:=h
 simp only [ak.mk.injEq]
 exact ⟨(map_inj (wK aa.cy) h0),(map_inj aN.cy h1)⟩
def ak.cy {a b:ak}(h:ak.row a=ak.row b):a=b:=ak.cJ (congrArg aW.dec h)
def ak.cU {xs:List ak}{i:Nat}:aW.at (xs.map ak.row) i=(xs.getD i ak.zero).r:=eP (r:=fun x=>ak.r x) (fun _=>rfl) rfl
def ak.zY (x:ak):(ak.r x).ay=(x.ay.map (fR aa.row)):=Eq.trans rfl rfl
def ak.BH (x:ak):(ak.r x).aY=(x.aY.map aN.row):=Eq.trans rfl rfl
instance :Row ak:=⟨ak.row,ak.cy⟩
instance :Im ak aW:=⟨ak.r,ak.cJ⟩
def ak.rs:(∀(xs:List ak) (i:Nat),aW.at (xs.map ak.row) i=(xs.getD i ak.zero).r)/\(∀x:ak,(ak.r x).ay=(x.ay.map (fR aa.row)))/\(∀x:ak,(ak.r x).aY=(x.aY.map aN.row)):=⟨fun _ _=>ak.cU,ak.zY,ak.BH⟩
def ak.Sm (n:Nat)(x:ak):Prop:=bg n (fun y:List aa=>bg n (fun y:aa=>aa.Sm n y) y) x.ay/\bg n (fun y:aN=>aN.Sm n y) x.aY
structure bk where
 aS:av
 bt:Int
 bO:Int
 bC:aq
structure ah where
 aS:av
 bt:Int
 bO:Int
 bC:List av
def bk.enc (x:bk):List L:=[.str x.aS,.int x.bt,.int x.bO,.sl x.bC]
def bk.dec (r:List L):bk:=⟨(rL 0 r),(cF 1 r),(cF 2 r),(fP 3 r)⟩
instance :RT bk:=⟨bk.enc,bk.dec,4,fun _ _=>rfl,fun _ _=>rfl⟩
def bk.at (xs:aq)(i:Nat):bk:=bk.dec (List.getD xs i [])
def ah.r (x:ah):bk:=⟨x.aS,x.bt,x.bO,(x.bC.map dL)⟩
def ah.row (x:ah):List L:=bk.enc x.r
def ah.zero:ah:=⟨⟨#[]⟩,0,0,[]⟩
def ah.cJ {a b:ah}(h:a.r=b.r):a=b:=by
 cases a;cases b
 simp only [ah.r,bk.mk.injEq] at h
 obtain ⟨h0,h1,h2,h3⟩:=h
 simp only [ah.mk.injEq]
 exact ⟨h0,h1,h2,(map_inj wJ h3)⟩
def ah.cy {a b:ah}(h:ah.row a=ah.row b):a=b:=ah.cJ (congrArg bk.dec h)
def ah.sW {xs:List ah}{i:Nat}(h:i<xs.length):bk.at (xs.map ah.row) i=(xs[i]).r:=by unfold bk.at;rw [getD_map h];rfl
def ah.cU {xs:List ah}{i:Nat}:bk.at (xs.map ah.row) i=(xs.getD i ah.zero).r:=eP (r:=fun x=>ah.r x) (fun _=>rfl) rfl
def ah.sU (x:ah):(ah.r x).aS=x.aS:=Eq.trans rfl rfl
def ah.vS (x:ah):(ah.r x).bt=x.bt:=Eq.trans rfl rfl
def ah.AK (x:ah):(ah.r x).bO=x.bO:=Eq.trans rfl rfl
def ah.vM (x:ah):(ah.r x).bC=(x.bC.map dL):=Eq.trans rfl rfl
instance :Row ah:=⟨ah.row,ah.cy⟩
instance :Im ah bk:=⟨ah.r,ah.cJ⟩
def ah.rs:(∀(xs:List ah) (i:Nat),bk.at (xs.map ah.row) i=(xs.getD i ah.zero).r)/\(∀x:ah,(ah.r x).aS=x.aS)/\(∀x:ah,(ah.r x).bt=x.bt)/\(∀x:ah,(ah.r x).bO=x.bO)/\(∀x:ah,(ah.r x).bC=(x.bC.map dL)):=⟨fun _ _=>ah.cU,ah.sU,ah.vS,ah.AK,ah.vM⟩
def ah.Sm (n:Nat)(x:ah):Prop:=(x.aS).size<=n/\bg n (fun y:av=>(y).size<=n) x.bC
def ah.dV {n m:Nat}(hn:n<=m){x:ah}(h:ah.Sm n x):ah.Sm m x:=⟨Nat.le_trans h.1 hn,h.2.mono hn (fun x hx=>Nat.le_trans hx hn)⟩
structure eC where
 eG:Int
 bC:aq
structure aT where
 eG:Int
 bC:List Int
def eC.enc (x:eC):List L:=[.int x.eG,.sl x.bC]
def eC.dec (r:List L):eC:=⟨(cF 0 r),(fP 1 r)⟩
instance :RT eC:=⟨eC.enc,eC.dec,2,fun _ _=>rfl,fun _ _=>rfl⟩
def eC.at (xs:aq)(i:Nat):eC:=eC.dec (List.getD xs i [])
def aT.r (x:aT):eC:=⟨x.eG,(x.bC.map aV)⟩
def aT.row (x:aT):List L:=eC.enc x.r
def aT.zero:aT:=⟨0,[]⟩
def aT.cJ {a b:aT}(h:a.r=b.r):a=b:=by
 cases a;cases b
 simp only [aT.r,eC.mk.injEq] at h
 obtain ⟨h0,h1⟩:=h
 simp only [aT.mk.injEq]
 exact ⟨h0,(map_inj nv h1)⟩
def aT.cy {a b:aT}(h:aT.row a=aT.row b):a=b:=aT.cJ (congrArg eC.dec h)
def aT.cU {xs:List aT}{i:Nat}:eC.at (xs.map aT.row) i=(xs.getD i aT.zero).r:=eP (r:=fun x=>aT.r x) (fun _=>rfl) rfl
def aT.Bj (x:aT):(aT.r x).eG=x.eG:=Eq.trans rfl rfl
def aT.vM (x:aT):(aT.r x).bC=(x.bC.map aV):=Eq.trans rfl rfl
instance :Row aT:=⟨aT.row,aT.cy⟩
instance :Im aT eC:=⟨aT.r,aT.cJ⟩
def aT.rs:(∀(xs:List aT) (i:Nat),eC.at (xs.map aT.row) i=(xs.getD i aT.zero).r)/\(∀x:aT,(aT.r x).eG=x.eG)/\(∀x:aT,(aT.r x).bC=(x.bC.map aV)):=⟨fun _ _=>aT.cU,aT.Bj,aT.vM⟩
def aT.Sm (n:Nat)(x:aT):Prop:=bg n (fun y:Int=>True) x.bC
structure fK where
 eG:Int
 bp:bk
 bY:bk
 eL:eC
 cE:eC
structure bS where
 eG:Int
 bp:ah
 bY:ah
 eL:aT
 cE:aT
def fK.enc (x:fK):List L:=[.int x.eG,.str x.bp.aS,.int x.bp.bt,.int x.bp.bO,.sl x.bp.bC,.str x.bY.aS,.int x.bY.bt,.int x.bY.bO,.sl x.bY.bC,.int x.eL.eG,.sl x.eL.bC,.int x.cE.eG,.sl x.cE.bC]
def fK.dec (r:List L):fK:=⟨(cF 0 r),⟨(rL 1 r),(cF 2 r),(cF 3 r),(fP 4 r)⟩,⟨(rL 5 r),(cF 6 r),(cF 7 r),(fP 8 r)⟩,⟨(cF 9 r),(fP 10 r)⟩,⟨(cF 11 r),(fP 12 r)⟩⟩
instance :RT fK:=⟨fK.enc,fK.dec,13,fun _ _=>rfl,fun _ _=>rfl⟩
def fK.at (xs:aq)(i:Nat):fK:=fK.dec (List.getD xs i [])
def bS.r (x:bS):fK:=⟨x.eG,(ah.r x.bp),(ah.r x.bY),(aT.r x.eL),(aT.r x.cE)⟩
def bS.row (x:bS):List L:=fK.enc x.r
def bS.zero:bS:=⟨0,ah.zero,ah.zero,aT.zero,aT.zero⟩
def bS.cJ {a b:bS}(h:a.r=b.r):a=b:=by
 cases a;cases b
 simp only [bS.r,fK.mk.injEq] at h
 obtain ⟨h0,h1,h2,h3,h4⟩:=h
 simp only [bS.mk.injEq]
 exact ⟨h0,(ah.cJ h1),(ah.cJ h2),(aT.cJ h3),(aT.cJ h4)⟩
def bS.cy {a b:bS}(h:bS.row a=bS.row b):a=b:=bS.cJ (congrArg fK.dec h)
def bS.cU {xs:List bS}{i:Nat}:fK.at (xs.map bS.row) i=(xs.getD i bS.zero).r:=eP (r:=fun x=>bS.r x) (fun _=>rfl) rfl
def bS.Bj (x:bS):(bS.r x).eG=x.eG:=Eq.trans rfl rfl
def bS.qD (x:bS):(bS.r x).bp=(ah.r x.bp):=Eq.trans rfl rfl
def bS.AB (x:bS):(bS.r x).bY=(ah.r x.bY):=Eq.trans rfl rfl
def bS.Cw (x:bS):(bS.r x).eL=(aT.r x.eL):=Eq.trans rfl rfl
def bS.BQ (x:bS):(bS.r x).cE=(aT.r x.cE):=Eq.trans rfl rfl
instance :Row bS:=⟨bS.row,bS.cy⟩
instance :Im bS fK:=⟨bS.r,bS.cJ⟩
def bS.rs:(∀(xs:List bS) (i:Nat),fK.at (xs.map bS.row) i=(xs.getD i bS.zero).r)/\(∀x:bS,(bS.r x).eG=x.eG)/\(∀x:bS,(bS.r x).bp=(ah.r x.bp))/\(∀x:bS,(bS.r x).bY=(ah.r x.bY))/\(∀x:bS,(bS.r x).eL=(aT.r x.eL))/\(∀x:bS,(bS.r x).cE=(aT.r x.cE)):=⟨fun _ _=>bS.cU,bS.Bj,bS.qD,bS.AB,bS.Cw,bS.BQ⟩
def bS.Sm (n:Nat)(x:bS):Prop:=ah.Sm n x.bp/\ah.Sm n x.bY/\aT.Sm n x.eL/\aT.Sm n x.cE
structure bw where
 aC:aq
 bK:Bool
 aJ:bk
 eI:eC
 fq:fK
structure aA where
 aC:List aa
 bK:Bool
 aJ:ah
 eI:aT
 fq:bS
def bw.enc (x:bw):List L:=[.sl x.aC,.bool x.bK,.str x.aJ.aS,.int x.aJ.bt,.int x.aJ.bO,.sl x.aJ.bC,.int x.eI.eG,.sl x.eI.bC,.int x.fq.eG,.str x.fq.bp.aS,.int x.fq.bp.bt,.int x.fq.bp.bO,.sl x.fq.bp.bC,.str x.fq.bY.aS,.int x.fq.bY.bt,.int x.fq.bY.bO,.sl x.fq.bY.bC,.int x.fq.eL.eG,.sl x.fq.eL.bC,.int x.fq.cE.eG,.sl x.fq.cE.bC]
def bw.dec (r:List L):bw:=⟨(fP 0 r),(BV 1 r),⟨(rL 2 r),(cF 3 r),(cF 4 r),(fP 5 r)⟩,⟨(cF 6 r),(fP 7 r)⟩,⟨(cF 8 r),⟨(rL 9 r),(cF 10 r),(cF 11 r),(fP 12 r)⟩,⟨(rL 13 r),(cF 14 r),(cF 15 r),(fP 16 r)⟩,⟨(cF 17 r),(fP 18 r)⟩,⟨(cF 19 r),(fP 20 r)⟩⟩⟩
instance :RT bw:=⟨bw.enc,bw.dec,21,fun _ _=>rfl,fun _ _=>rfl⟩
def bw.at (xs:aq)(i:Nat):bw:=bw.dec (List.getD xs i [])
def aA.r (x:aA):bw:=⟨(x.aC.map aa.row),x.bK,(ah.r x.aJ),(aT.r x.eI),(bS.r x.fq)⟩
def aA.row (x:aA):List L:=bw.enc x.r
def aA.zero:aA:=⟨[],false,ah.zero,aT.zero,bS.zero⟩
def aA.cJ {a b:aA}(h:a.r=b.r):a=b:=by
 cases a;cases b
 simp only [aA.r,bw.mk.injEq] at h
 obtain ⟨h0,h1,h2,h3,h4⟩:=h
 simp only [aA.mk.injEq]
 exact ⟨(map_inj aa.cy h0),h1,(ah.cJ h2),(aT.cJ h3),(bS.cJ h4)⟩
def aA.cy {a b:aA}(h:aA.row a=aA.row b):a=b:=aA.cJ (congrArg bw.dec h)
def aA.cU {xs:List aA}{i:Nat}:bw.at (xs.map aA.row) i=(xs.getD i aA.zero).r:=eP (r:=fun x=>aA.r x) (fun _=>rfl) rfl
def aA.sN (x:aA):(aA.r x).aC=(x.aC.map aa.row):=Eq.trans rfl rfl
def aA.tG (x:aA):(aA.r x).bK=x.bK:=Eq.trans rfl rfl
def aA.mT (x:aA):(aA.r x).aJ=(ah.r x.aJ):=Eq.trans rfl rfl
def aA.A4 (x:aA):(aA.r x).eI=(aT.r x.eI):=Eq.trans rfl rfl
def aA.Dq (x:aA):(aA.r x).fq=(bS.r x.fq):=Eq.trans rfl rfl
instance :Row aA:=⟨aA.row,aA.cy⟩
instance :Im aA bw:=⟨aA.r,aA.cJ⟩
def aA.rs:(∀(xs:List aA) (i:Nat),bw.at (xs.map aA.row) i=(xs.getD i aA.zero).r)/\(∀x:aA,(aA.r x).aC=(x.aC.map aa.row))/\(∀x:aA,(aA.r x).bK=x.bK)/\(∀x:aA,(aA.r x).aJ=(ah.r x.aJ))/\(∀x:aA,(aA.r x).eI=(aT.r x.eI))/\(∀x:aA,(aA.r x).fq=(bS.r x.fq)):=⟨fun _ _=>aA.cU,aA.sN,aA.tG,aA.mT,aA.A4,aA.Dq⟩
def aA.Sm (n:Nat)(x:aA):Prop:=bg n (fun y:aa=>aa.Sm n y) x.aC/\ah.Sm n x.aJ/\aT.Sm n x.eI/\bS.Sm n x.fq
structure fW where
 aX:Int
 aS:av
 ep:bw
structure bT where
 aX:Int
 aS:av
 ep:aA
def fW.enc (x:fW):List L:=[.int x.aX,.str x.aS,.sl x.ep.aC,.bool x.ep.bK,.str x.ep.aJ.aS,.int x.ep.aJ.bt,.int x.ep.aJ.bO,.sl x.ep.aJ.bC,.int x.ep.eI.eG,.sl x.ep.eI.bC,.int x.ep.fq.eG,.str x.ep.fq.bp.aS,.int x.ep.fq.bp.bt,.int x.ep.fq.bp.bO,.sl x.ep.fq.bp.bC,.str x.ep.fq.bY.aS,.int x.ep.fq.bY.bt,.int x.ep.fq.bY.bO,.sl x.ep.fq.bY.bC,.int x.ep.fq.eL.eG,.sl x.ep.fq.eL.bC,.int x.ep.fq.cE.eG,.sl x.ep.fq.cE.bC]
def fW.dec (r:List L):fW:=⟨(cF 0 r),(rL 1 r),⟨(fP 2 r),(BV 3 r),⟨(rL 4 r),(cF 5 r),(cF 6 r),(fP 7 r)⟩,⟨(cF 8 r),(fP 9 r)⟩,⟨(cF 10 r),⟨(rL 11 r),(cF 12 r),(cF 13 r),(fP 14 r)⟩,⟨(rL 15 r),(cF 16 r),(cF 17 r),(fP 18 r)⟩,⟨(cF 19 r),(fP 20 r)⟩,⟨(cF 21 r),(fP 22 r)⟩⟩⟩⟩
instance :RT fW:=⟨fW.enc,fW.dec,23,fun _ _=>rfl,fun _ _=>rfl⟩
def fW.at (xs:aq)(i:Nat):fW:=fW.dec (List.getD xs i [])
def bT.r (x:bT):fW:=⟨x.aX,x.aS,(aA.r x.ep)⟩
def bT.row (x:bT):List L:=fW.enc x.r
def bT.zero:bT:=⟨0,⟨#[]⟩,aA.zero⟩
def bT.cJ {a b:bT}(h:a.r=b.r):a=b:=by
 cases a;cases b
 simp only [bT.r,fW.mk.injEq] at h
 obtain ⟨h0,h1,h2⟩:=h
 simp only [bT.mk.injEq]
 exact ⟨h0,h1,(aA.cJ h2)⟩
def bT.cy {a b:bT}(h:bT.row a=bT.row b):a=b:=bT.cJ (congrArg fW.dec h)
def bT.cU {xs:List bT}{i:Nat}:fW.at (xs.map bT.row) i=(xs.getD i bT.zero).r:=eP (r:=fun x=>bT.r x) (fun _=>rfl) rfl
def bT.vJ (x:bT):(bT.r x).aX=x.aX:=Eq.trans rfl rfl
def bT.sU (x:bT):(bT.r x).aS=x.aS:=Eq.trans rfl rfl
def bT.zV (x:bT):(bT.r x).ep=(aA.r x.ep):=Eq.trans rfl rfl
instance :Row bT:=⟨bT.row,bT.cy⟩
instance :Im bT fW:=⟨bT.r,bT.cJ⟩
def bT.rs:(∀(xs:List bT) (i:Nat),fW.at (xs.map bT.row) i=(xs.getD i bT.zero).r)/\(∀x:bT,(bT.r x).aX=x.aX)/\(∀x:bT,(bT.r x).aS=x.aS)/\(∀x:bT,(bT.r x).ep=(aA.r x.ep)):=⟨fun _ _=>bT.cU,bT.vJ,bT.sU,bT.zV⟩
structure gT where
 bz:aq
structure cY where
 bz:List bT
def gT.enc (x:gT):List L:=[.sl x.bz]
def gT.dec (r:List L):gT:=⟨(fP 0 r)⟩
instance :RT gT:=⟨gT.enc,gT.dec,1,fun _ _=>rfl,fun _ _=>rfl⟩
def gT.at (xs:aq)(i:Nat):gT:=gT.dec (List.getD xs i [])
def cY.r (x:cY):gT:=⟨(x.bz.map bT.row)⟩
def cY.row (x:cY):List L:=gT.enc x.r
def cY.zero:cY:=⟨[]⟩
def cY.cJ {a b:cY}(h:a.r=b.r):a=b:=by
 cases a;cases b
 simp only [cY.r,gT.mk.injEq] at h
 have h0:=h
 simp only [cY.mk.injEq]
 exact (map_inj bT.cy h0)
def cY.cy {a b:cY}(h:cY.row a=cY.row b):a=b:=cY.cJ (congrArg gT.dec h)
def cY.cU {xs:List cY}{i:Nat}:gT.at (xs.map cY.row) i=(xs.getD i cY.zero).r:=eP (r:=fun x=>cY.r x) (fun _=>rfl) rfl
def cY.vN (x:cY):(cY.r x).bz=(x.bz.map bT.row):=Eq.trans rfl rfl
instance :Row cY:=⟨cY.row,cY.cy⟩
instance :Im cY gT:=⟨cY.r,cY.cJ⟩
def cY.rs:(∀(xs:List cY) (i:Nat),gT.at (xs.map cY.row) i=(xs.getD i cY.zero).r)/\(∀x:cY,(cY.r x).bz=(x.bz.map bT.row)):=⟨fun _ _=>cY.cU,cY.vN⟩
structure cP where
 bJ:aW
 bK:Bool
 aJ:bk
 jy:Bool
 mK:aq
structure bF where
 bJ:ak
 bK:Bool
 aJ:ah
 jy:Bool
 mK:List Int
def cP.enc (x:cP):List L:=[.sl x.bJ.ay,.sl x.bJ.aY,.bool x.bK,.str x.aJ.aS,.int x.aJ.bt,.int x.aJ.bO,.sl x.aJ.bC,.bool x.jy,.sl x.mK]
def cP.dec (r:List L):cP:=⟨⟨(fP 0 r),(fP 1 r)⟩,(BV 2 r),⟨(rL 3 r),(cF 4 r),(cF 5 r),(fP 6 r)⟩,(BV 7 r),(fP 8 r)⟩
instance :RT cP:=⟨cP.enc,cP.dec,9,fun _ _=>rfl,fun _ _=>rfl⟩
def cP.at (xs:aq)(i:Nat):cP:=cP.dec (List.getD xs i [])
def bF.r (x:bF):cP:=⟨(ak.r x.bJ),x.bK,(ah.r x.aJ),x.jy,(x.mK.map aV)⟩
def bF.row (x:bF):List L:=cP.enc x.r
def bF.zero:bF:=⟨ak.zero,false,ah.zero,false,[]⟩
def bF.cJ {a b:bF}(h:a.r=b.r):a=b:=by
 cases a;cases b
 simp only [bF.r,cP.mk.injEq] at h
 obtain ⟨h0,h1,h2,h3,h4⟩:=h
 simp only [bF.mk.injEq]
 exact ⟨(ak.cJ h0),h1,(ah.cJ h2),h3,(map_inj nv h4)⟩
def bF.cy {a b:bF}(h:bF.row a=bF.row b):a=b:=bF.cJ (congrArg cP.dec h)
def bF.cU {xs:List bF}{i:Nat}:cP.at (xs.map bF.row) i=(xs.getD i bF.zero).r:=eP (r:=fun x=>bF.r x) (fun _=>rfl) rfl
def bF.tB (x:bF):(bF.r x).bJ=(ak.r x.bJ):=Eq.trans rfl rfl
def bF.tG (x:bF):(bF.r x).bK=x.bK:=Eq.trans rfl rfl
def bF.mT (x:bF):(bF.r x).aJ=(ah.r x.aJ):=Eq.trans rfl rfl
def bF.B3 (x:bF):(bF.r x).jy=x.jy:=Eq.trans rfl rfl
def bF.Bq (x:bF):(bF.r x).mK=(x.mK.map aV):=Eq.trans rfl rfl
instance :Row bF:=⟨bF.row,bF.cy⟩
instance :Im bF cP:=⟨bF.r,bF.cJ⟩
def bF.rs:(∀(xs:List bF) (i:Nat),cP.at (xs.map bF.row) i=(xs.getD i bF.zero).r)/\(∀x:bF,(bF.r x).bJ=(ak.r x.bJ))/\(∀x:bF,(bF.r x).bK=x.bK)/\(∀x:bF,(bF.r x).aJ=(ah.r x.aJ))/\(∀x:bF,(bF.r x).jy=x.jy)/\(∀x:bF,(bF.r x).mK=(x.mK.map aV)):=⟨fun _ _=>bF.cU,bF.tB,bF.tG,bF.mT,bF.B3,bF.Bq⟩
def bF.Sm (n:Nat)(x:bF):Prop:=ak.Sm n x.bJ/\ah.Sm n x.aJ/\bg n (fun y:Int=>True) x.mK
structure cT where
 bJ:aW
 cz:Int
 aJ:bk
 bf:aq
 fZ:Int
structure bq where
 bJ:ak
 cz:Int
 aJ:ah
 bf:List Int
 fZ:Int
def cT.enc (x:cT):List L:=[.sl x.bJ.ay,.sl x.bJ.aY,.int x.cz,.str x.aJ.aS,.int x.aJ.bt,.int x.aJ.bO,.sl x.aJ.bC,.sl x.bf,.int x.fZ]
def cT.dec (r:List L):cT:=⟨⟨(fP 0 r),(fP 1 r)⟩,(cF 2 r),⟨(rL 3 r),(cF 4 r),(cF 5 r),(fP 6 r)⟩,(fP 7 r),(cF 8 r)⟩
instance :RT cT:=⟨cT.enc,cT.dec,9,fun _ _=>rfl,fun _ _=>rfl⟩
def cT.at (xs:aq)(i:Nat):cT:=cT.dec (List.getD xs i [])
def bq.r (x:bq):cT:=⟨(ak.r x.bJ),x.cz,(ah.r x.aJ),(x.bf.map aV),x.fZ⟩
def bq.row (x:bq):List L:=cT.enc x.r
def bq.zero:bq:=⟨ak.zero,0,ah.zero,[],0⟩
def bq.cJ {a b:bq}(h:a.r=b.r):a=b:=by
 cases a;cases b
 simp only [bq.r,cT.mk.injEq] at h
 obtain ⟨h0,h1,h2,h3,h4⟩:=h
 simp only [bq.mk.injEq]
 exact ⟨(ak.cJ h0),h1,(ah.cJ h2),(map_inj nv h3),h4⟩
def bq.cy {a b:bq}(h:bq.row a=bq.row b):a=b:=bq.cJ (congrArg cT.dec h)
def bq.cU {xs:List bq}{i:Nat}:cT.at (xs.map bq.row) i=(xs.getD i bq.zero).r:=eP (r:=fun x=>bq.r x) (fun _=>rfl) rfl
def bq.tB (x:bq):(bq.r x).bJ=(ak.r x.bJ):=Eq.trans rfl rfl
def bq.B8 (x:bq):(bq.r x).cz=x.cz:=Eq.trans rfl rfl
def bq.mT (x:bq):(bq.r x).aJ=(ah.r x.aJ):=Eq.trans rfl rfl
def bq.sE (x:bq):(bq.r x).bf=(x.bf.map aV):=Eq.trans rfl rfl
def bq.AS (x:bq):(bq.r x).fZ=x.fZ:=Eq.trans rfl rfl
instance :Row bq:=⟨bq.row,bq.cy⟩
instance :Im bq cT:=⟨bq.r,bq.cJ⟩
def bq.rs:(∀(xs:List bq) (i:Nat),cT.at (xs.map bq.row) i=(xs.getD i bq.zero).r)/\(∀x:bq,(bq.r x).bJ=(ak.r x.bJ))/\(∀x:bq,(bq.r x).cz=x.cz)/\(∀x:bq,(bq.r x).aJ=(ah.r x.aJ))/\(∀x:bq,(bq.r x).bf=(x.bf.map aV))/\(∀x:bq,(bq.r x).fZ=x.fZ):=⟨fun _ _=>bq.cU,bq.tB,bq.B8,bq.mT,bq.sE,bq.AS⟩
def bq.Sm (n:Nat)(x:bq):Prop:=ak.Sm n x.bJ/\ah.Sm n x.aJ/\bg n (fun y:Int=>True) x.bf
structure jv where
 iB:cT
 pe:gT
structure eA where
 iB:bq
 pe:cY
def jv.enc (x:jv):List L:=[.sl x.iB.bJ.ay,.sl x.iB.bJ.aY,.int x.iB.cz,.str x.iB.aJ.aS,.int x.iB.aJ.bt,.int x.iB.aJ.bO,.sl x.iB.aJ.bC,.sl x.iB.bf,.int x.iB.fZ,.sl x.pe.bz]
def jv.dec (r:List L):jv:=⟨⟨⟨(fP 0 r),(fP 1 r)⟩,(cF 2 r),⟨(rL 3 r),(cF 4 r),(cF 5 r),(fP 6 r)⟩,(fP 7 r),(cF 8 r)⟩,⟨(fP 9 r)⟩⟩
instance :RT jv:=⟨jv.enc,jv.dec,10,fun _ _=>rfl,fun _ _=>rfl⟩
def jv.at (xs:aq)(i:Nat):jv:=jv.dec (List.getD xs i [])
def eA.r (x:eA):jv:=⟨(bq.r x.iB),(cY.r x.pe)⟩
def eA.row (x:eA):List L:=jv.enc x.r
def eA.zero:eA:=⟨bq.zero,cY.zero⟩
def eA.cJ {a b:eA}(h:a.r=b.r):a=b:=by
 cases a;cases b
 simp only [eA.r,jv.mk.injEq] at h
 obtain ⟨h0,h1⟩:=h
 simp only [eA.mk.injEq]
 exact ⟨(bq.cJ h0),(cY.cJ h1)⟩
def eA.cy {a b:eA}(h:eA.row a=eA.row b):a=b:=eA.cJ (congrArg jv.dec h)
def eA.cU {xs:List eA}{i:Nat}:jv.at (xs.map eA.row) i=(xs.getD i eA.zero).r:=eP (r:=fun x=>eA.r x) (fun _=>rfl) rfl
def eA.AP (x:eA):(eA.r x).iB=(bq.r x.iB):=Eq.trans rfl rfl
def eA.By (x:eA):(eA.r x).pe=(cY.r x.pe):=Eq.trans rfl rfl
instance :Row eA:=⟨eA.row,eA.cy⟩
instance :Im eA jv:=⟨eA.r,eA.cJ⟩
def eA.rs:(∀(xs:List eA) (i:Nat),jv.at (xs.map eA.row) i=(xs.getD i eA.zero).r)/\(∀x:eA,(eA.r x).iB=(bq.r x.iB))/\(∀x:eA,(eA.r x).pe=(cY.r x.pe)):=⟨fun _ _=>eA.cU,eA.AP,eA.By⟩
structure gQ where
 fName:av
 aX:Int
def gQ.enc (x:gQ):List L:=[.str x.fName,.int x.aX]
def gQ.dec (r:List L):gQ:=⟨(rL 0 r),(cF 1 r)⟩
instance :RT gQ:=⟨gQ.enc,gQ.dec,2,fun _ _=>rfl,fun _ _=>rfl⟩
def gQ.at (xs:aq)(i:Nat):gQ:=gQ.dec (List.getD xs i [])
def gQ.row (x:gQ):List L:=gQ.enc x
def gQ.zero:gQ:=⟨⟨#[]⟩,0⟩
def gQ.cy {a b:gQ}(h:gQ.row a=gQ.row b):a=b:=congrArg gQ.dec h
def gQ.cU {xs:List gQ}{i:Nat}:gQ.at (xs.map gQ.row) i=xs.getD i gQ.zero:=eP (r:=fun x=>x) (fun _=>rfl) rfl
instance :Row gQ:=⟨gQ.row,gQ.cy⟩
instance :Im gQ gQ:=⟨fun x=>x,fun h=>h⟩
def gQ.rs:(∀(xs:List gQ) (i:Nat),gQ.at (xs.map gQ.row) i=xs.getD i gQ.zero):=fun _ _=>gQ.cU
structure bU where
 aC:aq
 bI:aq
structure aH where
 aC:List aa
 bI:List ah
def bU.enc (x:bU):List L:=[.sl x.aC,.sl x.bI]
def bU.dec (r:List L):bU:=⟨(fP 0 r),(fP 1 r)⟩
instance :RT bU:=⟨bU.enc,bU.dec,2,fun _ _=>rfl,fun _ _=>rfl⟩
def bU.at (xs:aq)(i:Nat):bU:=bU.dec (List.getD xs i [])
def aH.r (x:aH):bU:=⟨(x.aC.map aa.row),(x.bI.map ah.row)⟩
def aH.row (x:aH):List L:=bU.enc x.r
def aH.zero:aH:=⟨[],[]⟩
def aH.cJ {a b:aH}(h:a.r=b.r):a=b:=by
 cases a;cases b
 simp only [aH.r,bU.mk.injEq] at h
 obtain ⟨h0,h1⟩:=h
 simp only [aH.mk.injEq]
 exact ⟨(map_inj aa.cy h0),(map_inj ah.cy h1)⟩
def aH.cy {a b:aH}(h:aH.row a=aH.row b):a=b:=aH.cJ (congrArg bU.dec h)
def aH.sW {xs:List aH}{i:Nat}(h:i<xs.length):bU.at (xs.map aH.row) i=(xs[i]).r:=by unfold bU.at;rw [getD_map h];rfl
def aH.cU {xs:List aH}{i:Nat}:bU.at (xs.map aH.row) i=(xs.getD i aH.zero).r:=eP (r:=fun x=>aH.r x) (fun _=>rfl) rfl
def aH.sN (x:aH):(aH.r x).aC=(x.aC.map aa.row):=Eq.trans rfl rfl
def aH.yU (x:aH):(aH.r x).bI=(x.bI.map ah.row):=Eq.trans rfl rfl
instance :Row aH:=⟨aH.row,aH.cy⟩
instance :Im aH bU:=⟨aH.r,aH.cJ⟩
def aH.rs:(∀(xs:List aH) (i:Nat),bU.at (xs.map aH.row) i=(xs.getD i aH.zero).r)/\(∀x:aH,(aH.r x).aC=(x.aC.map aa.row))/\(∀x:aH,(aH.r x).bI=(x.bI.map ah.row)):=⟨fun _ _=>aH.cU,aH.sN,aH.yU⟩
def aH.Sm (n:Nat)(x:aH):Prop:=bg n (fun y:aa=>aa.Sm n y) x.aC/\bg n (fun y:ah=>ah.Sm n y) x.bI
def aH.dV {n m:Nat}(hn:n<=m){x:aH}(h:aH.Sm n x):aH.Sm m x:=⟨h.1.mono hn (fun x hx=>aa.dV hn hx),h.2.mono hn (fun x hx=>ah.dV hn hx)⟩
structure eW where
 fName:av
 aX:Int
def eW.enc (x:eW):List L:=[.str x.fName,.int x.aX]
def eW.dec (r:List L):eW:=⟨(rL 0 r),(cF 1 r)⟩
instance :RT eW:=⟨eW.enc,eW.dec,2,fun _ _=>rfl,fun _ _=>rfl⟩
def eW.at (xs:aq)(i:Nat):eW:=eW.dec (List.getD xs i [])
def eW.row (x:eW):List L:=eW.enc x
def eW.zero:eW:=⟨⟨#[]⟩,0⟩
def eW.cy {a b:eW}(h:eW.row a=eW.row b):a=b:=congrArg eW.dec h
def eW.cU {xs:List eW}{i:Nat}:eW.at (xs.map eW.row) i=xs.getD i eW.zero:=eP (r:=fun x=>x) (fun _=>rfl) rfl
instance :Row eW:=⟨eW.row,eW.cy⟩
instance :Im eW eW:=⟨fun x=>x,fun h=>h⟩
def eW.rs:(∀(xs:List eW) (i:Nat),eW.at (xs.map eW.row) i=xs.getD i eW.zero):=fun _ _=>eW.cU
structure bW where
 bf:aq
 gJ:Int
structure aB where
 bf:List aH
 gJ:Int
def bW.enc (x:bW):List L:=[.sl x.bf,.int x.gJ]
def bW.dec (r:List L):bW:=⟨(fP 0 r),(cF 1 r)⟩
instance :RT bW:=⟨bW.enc,bW.dec,2,fun _ _=>rfl,fun _ _=>rfl⟩
def bW.at (xs:aq)(i:Nat):bW:=bW.dec (List.getD xs i [])
def aB.r (x:aB):bW:=⟨(x.bf.map aH.row),x.gJ⟩
def aB.row (x:aB):List L:=bW.enc x.r
def aB.zero:aB:=⟨[],0⟩
def aB.cJ {a b:aB}(h:a.r=b.r):a=b:=by
 cases a;cases b
 simp only [aB.r,bW.mk.injEq] at h
 obtain ⟨h0,h1⟩:=h
 simp only [aB.mk.injEq]
 exact ⟨(map_inj aH.cy h0),h1⟩
def aB.cy {a b:aB}(h:aB.row a=aB.row b):a=b:=aB.cJ (congrArg bW.dec h)
def aB.cU {xs:List aB}{i:Nat}:bW.at (xs.map aB.row) i=(xs.getD i aB.zero).r:=eP (r:=fun x=>aB.r x) (fun _=>rfl) rfl
def aB.sE (x:aB):(aB.r x).bf=(x.bf.map aH.row):=Eq.trans rfl rfl
def aB.DF (x:aB):(aB.r x).gJ=x.gJ:=Eq.trans rfl rfl
instance :Row aB:=⟨aB.row,aB.cy⟩
instance :Im aB bW:=⟨aB.r,aB.cJ⟩
def aB.rs:(∀(xs:List aB) (i:Nat),bW.at (xs.map aB.row) i=(xs.getD i aB.zero).r)/\(∀x:aB,(aB.r x).bf=(x.bf.map aH.row))/\(∀x:aB,(aB.r x).gJ=x.gJ):=⟨fun _ _=>aB.cU,aB.sE,aB.DF⟩
def aB.Sm (n:Nat)(x:aB):Prop:=bg n (fun y:aH=>aH.Sm n y) x.bf
def aB.dV {n m:Nat}(hn:n<=m){x:aB}(h:aB.Sm n x):aB.Sm m x:=h.mono hn (fun x hx=>aH.dV hn hx)
def SS:=And.intro (And.intro S0 MM) (And.intro aL.rs (And.intro au.rs (And.intro bE.rs (And.intro aa.rs (And.intro aN.rs (And.intro ak.rs (And.intro ah.rs (And.intro aT.rs (And.intro bS.rs (And.intro aA.rs (And.intro bT.rs (And.intro cY.rs (And.intro bF.rs (And.intro bq.rs (And.intro eA.rs (And.intro gQ.rs (And.intro aH.rs (And.intro eW.rs (And.intro aB.rs trivial)))))))))))))))))))
def fz {p:Prop}(h:p:=by first | rfl | (simp only [SS];done) | (simp only [MP];rfl) | (simp only [SS,MP];first | done | rfl) | (simp only [aL.r,au.r,aa.r,aN.r,ak.r,ah.r,aT.r,bS.r,aA.r,bT.r,cY.r,bF.r,bq.r,eA.r,aH.r,aB.r,SS,MP];first | done | rfl) | (simp only [SS,MP,List.length_take,List.length_drop];first | done | rfl)):p:=h
def rq {p q:Prop}(h:p)(k:p->q:=by intro R_;first | exact R_ | (simp only [MP,SS] at R_ ⊢;first | exact R_ | (rw [<-R_];rfl))):q:=k h
end Go.DM

end
