/- The structures of the program, as mathematical records. Conditions: none. -/
import Derived.Test.YtojkbdgmandmpaaGreatLDecisionsDd
set_option linter.all false
noncomputable section
namespace Go.DM
abbrev cA (i:Nat)(l:List L):Int:=((cD i l).headD .hole).toInt
abbrev hIq (l:List L):Int:=(l.headD .hole).toInt
abbrev gS (i:Nat)(l:List L):an:=((cD i l).headD .hole).cU
abbrev fc (l:List L):an:=(l.headD .hole).cU
abbrev CU (i:Nat)(l:List L):Bool:=((cD i l).headD .hole).toBool
abbrev hBq (l:List L):Bool:=(l.headD .hole).toBool
abbrev Ad (i:Nat)(l:List L):av:=((cD i l).headD .hole).toStr
abbrev hTq (l:List L):av:=(l.headD .hole).toStr
structure bl where
 bR:an
 dR:Int
structure aM where
 bR:List Int
 dR:Int
def bl.enc (x:bl):List L:=[.sl x.bR,.int x.dR]
def bl.dec (r:List L):bl:=⟨(gS 0 r),(cA 1 r)⟩
instance :RT bl:=⟨bl.enc,bl.dec,2,fun _ _=>rfl,fun _ _=>rfl⟩
def bl.at (xs:an)(i:Nat):bl:=bl.dec (List.getD xs i [])
def aM.r (x:aM):bl:=⟨(x.bR.map bh),x.dR⟩
def aM.row (x:aM):List L:=bl.enc x.r
def aM.zero:aM:=⟨[],0⟩
def aM.cB {a b:aM}(h:a.r=b.r):a=b:=by
 cases a;cases b
 simp only [aM.r,bl.mk.injEq] at h
 obtain ⟨h0,h1⟩:=h
 simp only [aM.mk.injEq]
 exact ⟨(map_inj mI h0),h1⟩
def aM.cu {a b:aM}(h:aM.row a=aM.row b):a=b:=aM.cB (congrArg bl.dec h)
def aM.cP {xs:List aM}{i:Nat}:bl.at (xs.map aM.row) i=(xs.getD i aM.zero).r:=eR (r:=fun x=>aM.r x) (fun _=>rfl) rfl
def aM.Cp (x:aM):(aM.r x).bR=(x.bR.map bh):=Eq.trans rfl rfl
def aM.B8 (x:aM):(aM.r x).dR=x.dR:=Eq.trans rfl rfl
instance :Row aM:=⟨aM.row,aM.cu⟩
instance :Im aM bl:=⟨aM.r,aM.cB⟩
def aM.rs:(∀(xs:List aM) (i:Nat),bl.at (xs.map aM.row) i=(xs.getD i aM.zero).r)/\(∀x:aM,(aM.r x).bR=(x.bR.map bh))/\(∀x:aM,(aM.r x).dR=x.dR):=⟨fun _ _=>aM.cP,aM.Cp,aM.B8⟩
def aM.Sm (n:Nat)(x:aM):Prop:=bn n (fun y:Int=>True) x.bR
def aM.bC {n m:Nat}(hn:n<=m){x:aM}(h:aM.Sm n x):aM.Sm m x:=h.mono hn (fun x hx=>trivial)
structure bz where
 bM:Int
 cV:Int
 bp:Int
 dy:Int
 dx:Int
 cQ:Int
 eu:Int
 eU:Int
 cq:bl
 cg:bl
 ef:Int
 bZ:bl
 bO:Bool
structure ay where
 bM:Int
 cV:Int
 bp:Int
 dy:Int
 dx:Int
 cQ:Int
 eu:Int
 eU:Int
 cq:aM
 cg:aM
 ef:Int
 bZ:aM
 bO:Bool
def bz.enc (x:bz):List L:=[.int x.bM,.int x.cV,.int x.bp,.int x.dy,.int x.dx,.int x.cQ,.int x.eu,.int x.eU,.sl x.cq.bR,.int x.cq.dR,.sl x.cg.bR,.int x.cg.dR,.int x.ef,.sl x.bZ.bR,.int x.bZ.dR,.bool x.bO]
def bz.dec (r:List L):bz:=⟨(cA 0 r),(cA 1 r),(cA 2 r),(cA 3 r),(cA 4 r),(cA 5 r),(cA 6 r),(cA 7 r),⟨(gS 8 r),(cA 9 r)⟩,⟨(gS 10 r),(cA 11 r)⟩,(cA 12 r),⟨(gS 13 r),(cA 14 r)⟩,(CU 15 r)⟩
instance :RT bz:=⟨bz.enc,bz.dec,16,fun _ _=>rfl,fun _ _=>rfl⟩
def bz.at (xs:an)(i:Nat):bz:=bz.dec (List.getD xs i [])
def ay.r (x:ay):bz:=⟨x.bM,x.cV,x.bp,x.dy,x.dx,x.cQ,x.eu,x.eU,(aM.r x.cq),(aM.r x.cg),x.ef,(aM.r x.bZ),x.bO⟩
def ay.row (x:ay):List L:=bz.enc x.r
def ay.zero:ay:=⟨0,0,0,0,0,0,0,0,aM.zero,aM.zero,0,aM.zero,false⟩
def ay.cB {a b:ay}(h:a.r=b.r):a=b:=by
 cases a;cases b
 simp only [ay.r,bz.mk.injEq] at h
 obtain ⟨h0,h1,h2,h3,h4,h5,h6,h7,h8,h9,h10,h11,h12⟩:=h
 simp only [ay.mk.injEq]
 exact ⟨h0,h1,h2,h3,h4,h5,h6,h7,(aM.cB h8),(aM.cB h9),h10,(aM.cB h11),h12⟩
def ay.cu {a b:ay}(h:ay.row a=ay.row b):a=b:=ay.cB (congrArg bz.dec h)
def ay.cP {xs:List ay}{i:Nat}:bz.at (xs.map ay.row) i=(xs.getD i ay.zero).r:=eR (r:=fun x=>ay.r x) (fun _=>rfl) rfl
def ay.BR (x:ay):(ay.r x).bM=x.bM:=Eq.trans rfl rfl
def ay.AM (x:ay):(ay.r x).cV=x.cV:=Eq.trans rfl rfl
def ay.oO (x:ay):(ay.r x).bp=x.bp:=Eq.trans rfl rfl
def ay.B4 (x:ay):(ay.r x).dy=x.dy:=Eq.trans rfl rfl
def ay.Bx (x:ay):(ay.r x).dx=x.dx:=Eq.trans rfl rfl
def ay.AN (x:ay):(ay.r x).cQ=x.cQ:=Eq.trans rfl rfl
def ay.Cn (x:ay):(ay.r x).eu=x.eu:=Eq.trans rfl rfl
def ay.Cv (x:ay):(ay.r x).eU=x.eU:=Eq.trans rfl rfl
def ay.uJ (x:ay):(ay.r x).cq=(aM.r x.cq):=Eq.trans rfl rfl
def ay.AF (x:ay):(ay.r x).cg=(aM.r x.cg):=Eq.trans rfl rfl
def ay.BY (x:ay):(ay.r x).ef=x.ef:=Eq.trans rfl rfl
def ay.Al (x:ay):(ay.r x).bZ=(aM.r x.bZ):=Eq.trans rfl rfl
def ay.zy (x:ay):(ay.r x).bO=x.bO:=Eq.trans rfl rfl
instance :Row ay:=⟨ay.row,ay.cu⟩
instance :Im ay bz:=⟨ay.r,ay.cB⟩
def ay.rs:(∀(xs:List ay) (i:Nat),bz.at (xs.map ay.row) i=(xs.getD i ay.zero).r)/\(∀x:ay,(ay.r x).bM=x.bM)/\(∀x:ay,(ay.r x).cV=x.cV)/\(∀x:ay,(ay.r x).bp=x.bp)/\(∀x:ay,(ay.r x).dy=x.dy)/\(∀x:ay,(ay.r x).dx=x.dx)/\(∀x:ay,(ay.r x).cQ=x.cQ)/\(∀x:ay,(ay.r x).eu=x.eu)/\(∀x:ay,(ay.r x).eU=x.eU)/\(∀x:ay,(ay.r x).cq=(aM.r x.cq))/\(∀x:ay,(ay.r x).cg=(aM.r x.cg))/\(∀x:ay,(ay.r x).ef=x.ef)/\(∀x:ay,(ay.r x).bZ=(aM.r x.bZ))/\(∀x:ay,(ay.r x).bO=x.bO):=⟨fun _ _=>ay.cP,ay.BR,ay.AM,ay.oO,ay.B4,ay.Bx,ay.AN,ay.Cn,ay.Cv,ay.uJ,ay.AF,ay.BY,ay.Al,ay.zy⟩
def ay.Sm (n:Nat)(x:ay):Prop:=aM.Sm n x.cq/\aM.Sm n x.cg/\aM.Sm n x.bZ
def ay.bC {n m:Nat}(hn:n<=m){x:ay}(h:ay.Sm n x):ay.Sm m x:=⟨aM.bC hn h.1,aM.bC hn h.2.1,aM.bC hn h.2.2⟩
structure jl where
 rX:Int
 cq:bl
 bp:Int
structure dB where
 rX:Int
 cq:aM
 bp:Int
def jl.enc (x:jl):List L:=[.int x.rX,.sl x.cq.bR,.int x.cq.dR,.int x.bp]
def jl.dec (r:List L):jl:=⟨(cA 0 r),⟨(gS 1 r),(cA 2 r)⟩,(cA 3 r)⟩
instance :RT jl:=⟨jl.enc,jl.dec,4,fun _ _=>rfl,fun _ _=>rfl⟩
def jl.at (xs:an)(i:Nat):jl:=jl.dec (List.getD xs i [])
def dB.r (x:dB):jl:=⟨x.rX,(aM.r x.cq),x.bp⟩
def dB.row (x:dB):List L:=jl.enc x.r
def dB.zero:dB:=⟨0,aM.zero,0⟩
def dB.cB {a b:dB}(h:a.r=b.r):a=b:=by
 cases a;cases b
 simp only [dB.r,jl.mk.injEq] at h
 obtain ⟨h0,h1,h2⟩:=h
 simp only [dB.mk.injEq]
 exact ⟨h0,(aM.cB h1),h2⟩
def dB.cu {a b:dB}(h:dB.row a=dB.row b):a=b:=dB.cB (congrArg jl.dec h)
def dB.cP {xs:List dB}{i:Nat}:jl.at (xs.map dB.row) i=(xs.getD i dB.zero).r:=eR (r:=fun x=>dB.r x) (fun _=>rfl) rfl
def dB.B5 (x:dB):(dB.r x).rX=x.rX:=Eq.trans rfl rfl
def dB.uJ (x:dB):(dB.r x).cq=(aM.r x.cq):=Eq.trans rfl rfl
def dB.oO (x:dB):(dB.r x).bp=x.bp:=Eq.trans rfl rfl
instance :Row dB:=⟨dB.row,dB.cu⟩
instance :Im dB jl:=⟨dB.r,dB.cB⟩
def dB.rs:(∀(xs:List dB) (i:Nat),jl.at (xs.map dB.row) i=(xs.getD i dB.zero).r)/\(∀x:dB,(dB.r x).rX=x.rX)/\(∀x:dB,(dB.r x).cq=(aM.r x.cq))/\(∀x:dB,(dB.r x).bp=x.bp):=⟨fun _ _=>dB.cP,dB.B5,dB.uJ,dB.oO⟩
structure aC where
 bk:av
 bp:Int
 bJ:Int
 bg:an
structure aa where
 bk:av
 bp:Int
 bJ:Int
 bg:List av
def aC.enc (x:aC):List L:=[.str x.bk,.int x.bp,.int x.bJ,.sl x.bg]
def aC.dec (r:List L):aC:=⟨(Ad 0 r),(cA 1 r),(cA 2 r),(gS 3 r)⟩
instance :RT aC:=⟨aC.enc,aC.dec,4,fun _ _=>rfl,fun _ _=>rfl⟩
def aC.at (xs:an)(i:Nat):aC:=aC.dec (List.getD xs i [])
def aa.r (x:aa):aC:=⟨x.bk,x.bp,x.bJ,(x.bg.map bY)⟩
def aa.row (x:aa):List L:=aC.enc x.r
def aa.zero:aa:=⟨⟨#[]⟩,0,0,[]⟩
def aa.cB {a b:aa}(h:a.r=b.r):a=b:=by
 cases a;cases b
 simp only [aa.r,aC.mk.injEq] at h
 obtain ⟨h0,h1,h2,h3⟩:=h
 simp only [aa.mk.injEq]
 exact ⟨h0,h1,h2,(map_inj rQ h3)⟩
def aa.cu {a b:aa}(h:aa.row a=aa.row b):a=b:=aa.cB (congrArg aC.dec h)
def aa.kP {xs:List aa}{i:Nat}(h:i<xs.length):aC.at (xs.map aa.row) i=(xs[i]).r:=by unfold aC.at;rw [getD_map h];rfl
def aa.cP {xs:List aa}{i:Nat}:aC.at (xs.map aa.row) i=(xs.getD i aa.zero).r:=eR (r:=fun x=>aa.r x) (fun _=>rfl) rfl
def aa.Bu (x:aa):(aa.r x).bk=x.bk:=Eq.trans rfl rfl
def aa.oO (x:aa):(aa.r x).bp=x.bp:=Eq.trans rfl rfl
def aa.Am (x:aa):(aa.r x).bJ=x.bJ:=Eq.trans rfl rfl
def aa.pG (x:aa):(aa.r x).bg=(x.bg.map bY):=Eq.trans rfl rfl
instance :Row aa:=⟨aa.row,aa.cu⟩
instance :Im aa aC:=⟨aa.r,aa.cB⟩
def aa.rs:(∀(xs:List aa) (i:Nat),aC.at (xs.map aa.row) i=(xs.getD i aa.zero).r)/\(∀x:aa,(aa.r x).bk=x.bk)/\(∀x:aa,(aa.r x).bp=x.bp)/\(∀x:aa,(aa.r x).bJ=x.bJ)/\(∀x:aa,(aa.r x).bg=(x.bg.map bY)):=⟨fun _ _=>aa.cP,aa.Bu,aa.oO,aa.Am,aa.pG⟩
def aa.Sm (n:Nat)(x:aa):Prop:=(x.bk).size<=n/\bn n (fun y:av=>(y).size<=n) x.bg
def aa.bC {n m:Nat}(hn:n<=m){x:aa}(h:aa.Sm n x):aa.Sm m x:=⟨Nat.le_trans h.1 hn,h.2.mono hn (fun x hx=>Nat.le_trans hx hn)⟩
structure aO where
 bB:Int
 aE:aC
 eN:an
structure aA where
 bB:Int
 aE:aa
 eN:List aa
def aO.enc (x:aO):List L:=[.int x.bB,.str x.aE.bk,.int x.aE.bp,.int x.aE.bJ,.sl x.aE.bg,.sl x.eN]
def aO.dec (r:List L):aO:=⟨(cA 0 r),⟨(Ad 1 r),(cA 2 r),(cA 3 r),(gS 4 r)⟩,(gS 5 r)⟩
instance :RT aO:=⟨aO.enc,aO.dec,6,fun _ _=>rfl,fun _ _=>rfl⟩
def aO.at (xs:an)(i:Nat):aO:=aO.dec (List.getD xs i [])
def aA.r (x:aA):aO:=⟨x.bB,(aa.r x.aE),(x.eN.map aa.row)⟩
def aA.row (x:aA):List L:=aO.enc x.r
def aA.zero:aA:=⟨0,aa.zero,[]⟩
def aA.cB {a b:aA}(h:a.r=b.r):a=b:=by
 cases a;cases b
 simp only [aA.r,aO.mk.injEq] at h
 obtain ⟨h0,h1,h2⟩:=h
 simp only [aA.mk.injEq]
 exact ⟨h0,(aa.cB h1),(map_inj aa.cu h2)⟩
def aA.cu {a b:aA}(h:aA.row a=aA.row b):a=b:=aA.cB (congrArg aO.dec h)
def aA.cP {xs:List aA}{i:Nat}:aO.at (xs.map aA.row) i=(xs.getD i aA.zero).r:=eR (r:=fun x=>aA.r x) (fun _=>rfl) rfl
def aA.vk (x:aA):(aA.r x).bB=x.bB:=Eq.trans rfl rfl
def aA.iJ (x:aA):(aA.r x).aE=(aa.r x.aE):=Eq.trans rfl rfl
def aA.zT (x:aA):(aA.r x).eN=(x.eN.map aa.row):=Eq.trans rfl rfl
instance :Row aA:=⟨aA.row,aA.cu⟩
instance :Im aA aO:=⟨aA.r,aA.cB⟩
def aA.rs:(∀(xs:List aA) (i:Nat),aO.at (xs.map aA.row) i=(xs.getD i aA.zero).r)/\(∀x:aA,(aA.r x).bB=x.bB)/\(∀x:aA,(aA.r x).aE=(aa.r x.aE))/\(∀x:aA,(aA.r x).eN=(x.eN.map aa.row)):=⟨fun _ _=>aA.cP,aA.vk,aA.iJ,aA.zT⟩
def aA.Sm (n:Nat)(x:aA):Prop:=aa.Sm n x.aE/\bn n (fun y:aa=>aa.Sm n y) x.eN
structure cz where
 sD:Int
 yj:Int
def cz.enc (x:cz):List L:=[.int x.sD,.int x.yj]
def cz.dec (r:List L):cz:=⟨(cA 0 r),(cA 1 r)⟩
instance :RT cz:=⟨cz.enc,cz.dec,2,fun _ _=>rfl,fun _ _=>rfl⟩
def cz.at (xs:an)(i:Nat):cz:=cz.dec (List.getD xs i [])
def cz.row (x:cz):List L:=cz.enc x
def cz.zero:cz:=⟨0,0⟩
def cz.cu {a b:cz}(h:cz.row a=cz.row b):a=b:=congrArg cz.dec h
def cz.cP {xs:List cz}{i:Nat}:cz.at (xs.map cz.row) i=xs.getD i cz.zero:=eR (r:=fun x=>x) (fun _=>rfl) rfl
instance :Row cz:=⟨cz.row,cz.cu⟩
instance :Im cz cz:=⟨fun x=>x,fun h=>h⟩
def cz.rs:(∀(xs:List cz) (i:Nat),cz.at (xs.map cz.row) i=xs.getD i cz.zero):=fun _ _=>cz.cP
def cz.Sm (n:Nat)(x:cz):Prop:=True
def cz.bC {n m:Nat}(_:n<=m){x:cz}(_:cz.Sm n x):cz.Sm m x:=trivial
structure aY where
 aG:bz
 eE:an
structure af where
 aG:ay
 eE:List cz
def aY.enc (x:aY):List L:=[.int x.aG.bM,.int x.aG.cV,.int x.aG.bp,.int x.aG.dy,.int x.aG.dx,.int x.aG.cQ,.int x.aG.eu,.int x.aG.eU,.sl x.aG.cq.bR,.int x.aG.cq.dR,.sl x.aG.cg.bR,.int x.aG.cg.dR,.int x.aG.ef,.sl x.aG.bZ.bR,.int x.aG.bZ.dR,.bool x.aG.bO,.sl x.eE]
def aY.dec (r:List L):aY:=⟨⟨(cA 0 r),(cA 1 r),(cA 2 r),(cA 3 r),(cA 4 r),(cA 5 r),(cA 6 r),(cA 7 r),⟨(gS 8 r),(cA 9 r)⟩,⟨(gS 10 r),(cA 11 r)⟩,(cA 12 r),⟨(gS 13 r),(cA 14 r)⟩,(CU 15 r)⟩,(gS 16 r)⟩
instance :RT aY:=⟨aY.enc,aY.dec,17,fun _ _=>rfl,fun _ _=>rfl⟩
def aY.at (xs:an)(i:Nat):aY:=aY.dec (List.getD xs i [])
def af.r (x:af):aY:=⟨(ay.r x.aG),(x.eE.map cz.row)⟩
def af.row (x:af):List L:=aY.enc x.r
def af.zero:af:=⟨ay.zero,[]⟩
def af.cB {a b:af}(h:a.r=b.r):a=b:=by
 cases a;cases b
 simp only [af.r,aY.mk.injEq] at h
 obtain ⟨h0,h1⟩:=h
 simp only [af.mk.injEq]
 exact ⟨(ay.cB h0),(map_inj cz.cu h1)⟩
def af.cu {a b:af}(h:af.row a=af.row b):a=b:=af.cB (congrArg aY.dec h)
def af.cP {xs:List af}{i:Nat}:aY.at (xs.map af.row) i=(xs.getD i af.zero).r:=eR (r:=fun x=>af.r x) (fun _=>rfl) rfl
def af.Cl (x:af):(af.r x).aG=(ay.r x.aG):=Eq.trans rfl rfl
def af.Ck (x:af):(af.r x).eE=(x.eE.map cz.row):=Eq.trans rfl rfl
instance :Row af:=⟨af.row,af.cu⟩
instance :Im af aY:=⟨af.r,af.cB⟩
def af.rs:(∀(xs:List af) (i:Nat),aY.at (xs.map af.row) i=(xs.getD i af.zero).r)/\(∀x:af,(af.r x).aG=(ay.r x.aG))/\(∀x:af,(af.r x).eE=(x.eE.map cz.row)):=⟨fun _ _=>af.cP,af.Cl,af.Ck⟩
def af.Sm (n:Nat)(x:af):Prop:=ay.Sm n x.aG/\bn n (fun y:cz=>cz.Sm n y) x.eE
def af.bC {n m:Nat}(hn:n<=m){x:af}(h:af.Sm n x):af.Sm m x:=⟨ay.bC hn h.1,h.2.mono hn (fun x hx=>cz.bC hn hx)⟩
structure dI where
 bF:aY
 fA:aY
 fB:aY
structure bt where
 bF:af
 fA:af
 fB:af
def dI.enc (x:dI):List L:=[.int x.bF.aG.bM,.int x.bF.aG.cV,.int x.bF.aG.bp,.int x.bF.aG.dy,.int x.bF.aG.dx,.int x.bF.aG.cQ,.int x.bF.aG.eu,.int x.bF.aG.eU,.sl x.bF.aG.cq.bR,.int x.bF.aG.cq.dR,.sl x.bF.aG.cg.bR,.int x.bF.aG.cg.dR,.int x.bF.aG.ef,.sl x.bF.aG.bZ.bR,.int x.bF.aG.bZ.dR,.bool x.bF.aG.bO,.sl x.bF.eE,.int x.fA.aG.bM,.int x.fA.aG.cV,.int x.fA.aG.bp,.int x.fA.aG.dy,.int x.fA.aG.dx,.int x.fA.aG.cQ,.int x.fA.aG.eu,.int x.fA.aG.eU,.sl x.fA.aG.cq.bR,.int x.fA.aG.cq.dR,.sl x.fA.aG.cg.bR,.int x.fA.aG.cg.dR,.int x.fA.aG.ef,.sl x.fA.aG.bZ.bR,.int x.fA.aG.bZ.dR,.bool x.fA.aG.bO,.sl x.fA.eE,.int x.fB.aG.bM,.int x.fB.aG.cV,.int x.fB.aG.bp,.int x.fB.aG.dy,.int x.fB.aG.dx,.int x.fB.aG.cQ,.int x.fB.aG.eu,.int x.fB.aG.eU,.sl x.fB.aG.cq.bR,.int x.fB.aG.cq.dR,.sl x.fB.aG.cg.bR,.int x.fB.aG.cg.dR,.int x.fB.aG.ef,.sl x.fB.aG.bZ.bR,.int x.fB.aG.bZ.dR,.bool x.fB.aG.bO,.sl x.fB.eE]
def dI.dec (r:List L):dI:=⟨⟨⟨(cA 0 r),(cA 1 r),(cA 2 r),(cA 3 r),(cA 4 r),(cA 5 r),(cA 6 r),(cA 7 r),⟨(gS 8 r),(cA 9 r)⟩,⟨(gS 10 r),(cA 11 r)⟩,(cA 12 r),⟨(gS 13 r),(cA 14 r)⟩,(CU 15 r)⟩,(gS 16 r)⟩,⟨⟨(cA 17 r),(cA 18 r),(cA 19 r),(cA 20 r),(cA 21 r),(cA 22 r),(cA 23 r),(cA 24 r),⟨(gS 25 r),(cA 26 r)⟩,⟨(gS 27 r),(cA 28 r)⟩,(cA 29 r),⟨(gS 30 r),(cA 31 r)⟩,(CU 32 r)⟩,(gS 33 r)⟩,⟨⟨(cA 34 r),(cA 35 r),(cA 36 r),(cA 37 r),(cA 38 r),(cA 39 r),(cA 40 r),(cA 41 r),⟨(gS 42 r),(cA 43 r)⟩,⟨(gS 44 r),(cA 45 r)⟩,(cA 46 r),⟨(gS 47 r),(cA 48 r)⟩,(CU 49 r)⟩,(gS 50 r)⟩⟩
instance :RT dI:=⟨dI.enc,dI.dec,51,fun _ _=>rfl,fun _ _=>rfl⟩
def dI.at (xs:an)(i:Nat):dI:=dI.dec (List.getD xs i [])
def bt.r (x:bt):dI:=⟨(af.r x.bF),(af.r x.fA),(af.r x.fB)⟩
def bt.row (x:bt):List L:=dI.enc x.r
def bt.zero:bt:=⟨af.zero,af.zero,af.zero⟩
def bt.cB {a b:bt}(h:a.r=b.r):a=b:=by
 cases a;cases b
 simp only [bt.r,dI.mk.injEq] at h
 obtain ⟨h0,h1,h2⟩:=h
 simp only [bt.mk.injEq]
 exact ⟨(af.cB h0),(af.cB h1),(af.cB h2)⟩
def bt.cu {a b:bt}(h:bt.row a=bt.row b):a=b:=bt.cB (congrArg dI.dec h)
def bt.cP {xs:List bt}{i:Nat}:dI.at (xs.map bt.row) i=(xs.getD i bt.zero).r:=eR (r:=fun x=>bt.r x) (fun _=>rfl) rfl
def bt.qA (x:bt):(bt.r x).bF=(af.r x.bF):=Eq.trans rfl rfl
def bt.Ej (x:bt):(bt.r x).fA=(af.r x.fA):=Eq.trans rfl rfl
def bt.EC (x:bt):(bt.r x).fB=(af.r x.fB):=Eq.trans rfl rfl
instance :Row bt:=⟨bt.row,bt.cu⟩
instance :Im bt dI:=⟨bt.r,bt.cB⟩
def bt.rs:(∀(xs:List bt) (i:Nat),dI.at (xs.map bt.row) i=(xs.getD i bt.zero).r)/\(∀x:bt,(bt.r x).bF=(af.r x.bF))/\(∀x:bt,(bt.r x).fA=(af.r x.fA))/\(∀x:bt,(bt.r x).fB=(af.r x.fB)):=⟨fun _ _=>bt.cP,bt.qA,bt.Ej,bt.EC⟩
def bt.Sm (n:Nat)(x:bt):Prop:=af.Sm n x.bF/\af.Sm n x.fA/\af.Sm n x.fB
structure bP where
 aZ:an
 bN:an
structure az where
 aZ:List (List af)
 bN:List bt
def bP.enc (x:bP):List L:=[.sl x.aZ,.sl x.bN]
def bP.dec (r:List L):bP:=⟨(gS 0 r),(gS 1 r)⟩
instance :RT bP:=⟨bP.enc,bP.dec,2,fun _ _=>rfl,fun _ _=>rfl⟩
def bP.at (xs:an)(i:Nat):bP:=bP.dec (List.getD xs i [])
def az.r (x:az):bP:=⟨(x.aZ.map (eG af.row)),(x.bN.map bt.row)⟩
def az.row (x:az):List L:=bP.enc x.r
def az.zero:az:=⟨[],[]⟩
def az.cB {a b:az}(h:a.r=b.r):a=b:=by
 cases a;cases b
 simp only [az.r,bP.mk.injEq] at h
 obtain ⟨h0,h1⟩:=h
 simp only [az.mk.injEq]
 exact ⟨(map_inj (wA af.cu) h0),(map_inj bt.cu h1)⟩
def az.cu {a b:az}(h:az.row a=az.row b):a=b:=az.cB (congrArg bP.dec h)
def az.cP {xs:List az}{i:Nat}:bP.at (xs.map az.row) i=(xs.getD i az.zero).r:=eR (r:=fun x=>az.r x) (fun _=>rfl) rfl
def az.zo (x:az):(az.r x).aZ=(x.aZ.map (eG af.row)):=Eq.trans rfl rfl
def az.A8 (x:az):(az.r x).bN=(x.bN.map bt.row):=Eq.trans rfl rfl
instance :Row az:=⟨az.row,az.cu⟩
instance :Im az bP:=⟨az.r,az.cB⟩
def az.rs:(∀(xs:List az) (i:Nat),bP.at (xs.map az.row) i=(xs.getD i az.zero).r)/\(∀x:az,(az.r x).aZ=(x.aZ.map (eG af.row)))/\(∀x:az,(az.r x).bN=(x.bN.map bt.row)):=⟨fun _ _=>az.cP,az.zo,az.A8⟩
def az.Sm (n:Nat)(x:az):Prop:=bn n (fun y:List af=>bn n (fun y:af=>af.Sm n y) y) x.aZ/\bn n (fun y:bt=>bt.Sm n y) x.bN
structure bL where
 cR:bP
 bB:Int
 aE:aC
 bE:an
 lZ:Int
structure ak where
 cR:az
 bB:Int
 aE:aa
 bE:List Int
 lZ:Int
def bL.enc (x:bL):List L:=[.sl x.cR.aZ,.sl x.cR.bN,.int x.bB,.str x.aE.bk,.int x.aE.bp,.int x.aE.bJ,.sl x.aE.bg,.sl x.bE,.int x.lZ]
def bL.dec (r:List L):bL:=⟨⟨(gS 0 r),(gS 1 r)⟩,(cA 2 r),⟨(Ad 3 r),(cA 4 r),(cA 5 r),(gS 6 r)⟩,(gS 7 r),(cA 8 r)⟩
instance :RT bL:=⟨bL.enc,bL.dec,9,fun _ _=>rfl,fun _ _=>rfl⟩
def bL.at (xs:an)(i:Nat):bL:=bL.dec (List.getD xs i [])
def ak.r (x:ak):bL:=⟨(az.r x.cR),x.bB,(aa.r x.aE),(x.bE.map bh),x.lZ⟩
def ak.row (x:ak):List L:=bL.enc x.r
def ak.zero:ak:=⟨az.zero,0,aa.zero,[],0⟩
def ak.cB {a b:ak}(h:a.r=b.r):a=b:=by
 cases a;cases b
 simp only [ak.r,bL.mk.injEq] at h
 obtain ⟨h0,h1,h2,h3,h4⟩:=h
 simp only [ak.mk.injEq]
 exact ⟨(az.cB h0),h1,(aa.cB h2),(map_inj mI h3),h4⟩
def ak.cu {a b:ak}(h:ak.row a=ak.row b):a=b:=ak.cB (congrArg bL.dec h)
def ak.kP {xs:List ak}{i:Nat}(h:i<xs.length):bL.at (xs.map ak.row) i=(xs[i]).r:=by unfold bL.at;rw [getD_map h];rfl
def ak.cP {xs:List ak}{i:Nat}:bL.at (xs.map ak.row) i=(xs.getD i ak.zero).r:=eR (r:=fun x=>ak.r x) (fun _=>rfl) rfl
def ak.sQ (x:ak):(ak.r x).cR=(az.r x.cR):=Eq.trans rfl rfl
def ak.vk (x:ak):(ak.r x).bB=x.bB:=Eq.trans rfl rfl
def ak.iJ (x:ak):(ak.r x).aE=(aa.r x.aE):=Eq.trans rfl rfl
def ak.rW (x:ak):(ak.r x).bE=(x.bE.map bh):=Eq.trans rfl rfl
def ak.Bf (x:ak):(ak.r x).lZ=x.lZ:=Eq.trans rfl rfl
instance :Row ak:=⟨ak.row,ak.cu⟩
instance :Im ak bL:=⟨ak.r,ak.cB⟩
def ak.rs:(∀(xs:List ak) (i:Nat),bL.at (xs.map ak.row) i=(xs.getD i ak.zero).r)/\(∀x:ak,(ak.r x).cR=(az.r x.cR))/\(∀x:ak,(ak.r x).bB=x.bB)/\(∀x:ak,(ak.r x).aE=(aa.r x.aE))/\(∀x:ak,(ak.r x).bE=(x.bE.map bh))/\(∀x:ak,(ak.r x).lZ=x.lZ):=⟨fun _ _=>ak.cP,ak.sQ,ak.vk,ak.iJ,ak.rW,ak.Bf⟩
def ak.Sm (n:Nat)(x:ak):Prop:=az.Sm n x.cR/\aa.Sm n x.aE/\bn n (fun y:Int=>True) x.bE
structure bI where
 bg:an
 aE:aC
structure aj where
 bg:List av
 aE:aa
def bI.enc (x:bI):List L:=[.sl x.bg,.str x.aE.bk,.int x.aE.bp,.int x.aE.bJ,.sl x.aE.bg]
def bI.dec (r:List L):bI:=⟨(gS 0 r),⟨(Ad 1 r),(cA 2 r),(cA 3 r),(gS 4 r)⟩⟩
instance :RT bI:=⟨bI.enc,bI.dec,5,fun _ _=>rfl,fun _ _=>rfl⟩
def bI.at (xs:an)(i:Nat):bI:=bI.dec (List.getD xs i [])
def aj.r (x:aj):bI:=⟨(x.bg.map bY),(aa.r x.aE)⟩
def aj.row (x:aj):List L:=bI.enc x.r
def aj.zero:aj:=⟨[],aa.zero⟩
def aj.cB {a b:aj}(h:a.r=b.r):a=b:=by
 cases a;cases b
 simp only [aj.r,bI.mk.injEq] at h
 obtain ⟨h0,h1⟩:=h
 simp only [aj.mk.injEq]
 exact ⟨(map_inj rQ h0),(aa.cB h1)⟩
def aj.cu {a b:aj}(h:aj.row a=aj.row b):a=b:=aj.cB (congrArg bI.dec h)
def aj.kP {xs:List aj}{i:Nat}(h:i<xs.length):bI.at (xs.map aj.row) i=(xs[i]).r:=by unfold bI.at;rw [getD_map h];rfl
def aj.cP {xs:List aj}{i:Nat}:bI.at (xs.map aj.row) i=(xs.getD i aj.zero).r:=eR (r:=fun x=>aj.r x) (fun _=>rfl) rfl
def aj.pG (x:aj):(aj.r x).bg=(x.bg.map bY):=Eq.trans rfl rfl
def aj.iJ (x:aj):(aj.r x).aE=(aa.r x.aE):=Eq.trans rfl rfl
instance :Row aj:=⟨aj.row,aj.cu⟩
instance :Im aj bI:=⟨aj.r,aj.cB⟩
def aj.rs:(∀(xs:List aj) (i:Nat),bI.at (xs.map aj.row) i=(xs.getD i aj.zero).r)/\(∀x:aj,(aj.r x).bg=(x.bg.map bY))/\(∀x:aj,(aj.r x).aE=(aa.r x.aE)):=⟨fun _ _=>aj.cP,aj.pG,aj.iJ⟩
def aj.Sm (n:Nat)(x:aj):Prop:=bn n (fun y:av=>(y).size<=n) x.bg/\aa.Sm n x.aE
def aj.bC {n m:Nat}(hn:n<=m){x:aj}(h:aj.Sm n x):aj.Sm m x:=⟨h.1.mono hn (fun x hx=>Nat.le_trans hx hn),aa.bC hn h.2⟩
structure bS where
 aI:an
 ck:an
structure aN where
 aI:List af
 ck:List aa
def bS.enc (x:bS):List L:=[.sl x.aI,.sl x.ck]
def bS.dec (r:List L):bS:=⟨(gS 0 r),(gS 1 r)⟩
instance :RT bS:=⟨bS.enc,bS.dec,2,fun _ _=>rfl,fun _ _=>rfl⟩
def bS.at (xs:an)(i:Nat):bS:=bS.dec (List.getD xs i [])
def aN.r (x:aN):bS:=⟨(x.aI.map af.row),(x.ck.map aa.row)⟩
def aN.row (x:aN):List L:=bS.enc x.r
def aN.zero:aN:=⟨[],[]⟩
def aN.cB {a b:aN}(h:a.r=b.r):a=b:=by
 cases a;cases b
 simp only [aN.r,bS.mk.injEq] at h
 obtain ⟨h0,h1⟩:=h
 simp only [aN.mk.injEq]
 exact ⟨(map_inj af.cu h0),(map_inj aa.cu h1)⟩
def aN.cu {a b:aN}(h:aN.row a=aN.row b):a=b:=aN.cB (congrArg bS.dec h)
def aN.kP {xs:List aN}{i:Nat}(h:i<xs.length):bS.at (xs.map aN.row) i=(xs[i]).r:=by unfold bS.at;rw [getD_map h];rfl
def aN.cP {xs:List aN}{i:Nat}:bS.at (xs.map aN.row) i=(xs.getD i aN.zero).r:=eR (r:=fun x=>aN.r x) (fun _=>rfl) rfl
def aN.tc (x:aN):(aN.r x).aI=(x.aI.map af.row):=Eq.trans rfl rfl
def aN.yf (x:aN):(aN.r x).ck=(x.ck.map aa.row):=Eq.trans rfl rfl
instance :Row aN:=⟨aN.row,aN.cu⟩
instance :Im aN bS:=⟨aN.r,aN.cB⟩
def aN.rs:(∀(xs:List aN) (i:Nat),bS.at (xs.map aN.row) i=(xs.getD i aN.zero).r)/\(∀x:aN,(aN.r x).aI=(x.aI.map af.row))/\(∀x:aN,(aN.r x).ck=(x.ck.map aa.row)):=⟨fun _ _=>aN.cP,aN.tc,aN.yf⟩
def aN.Sm (n:Nat)(x:aN):Prop:=bn n (fun y:af=>af.Sm n y) x.aI/\bn n (fun y:aa=>aa.Sm n y) x.ck
def aN.bC {n m:Nat}(hn:n<=m){x:aN}(h:aN.Sm n x):aN.Sm m x:=⟨h.1.mono hn (fun x hx=>af.bC hn hx),h.2.mono hn (fun x hx=>aa.bC hn hx)⟩
structure cw where
 fName:av
 bM:Int
def cw.enc (x:cw):List L:=[.str x.fName,.int x.bM]
def cw.dec (r:List L):cw:=⟨(Ad 0 r),(cA 1 r)⟩
instance :RT cw:=⟨cw.enc,cw.dec,2,fun _ _=>rfl,fun _ _=>rfl⟩
def cw.at (xs:an)(i:Nat):cw:=cw.dec (List.getD xs i [])
def cw.row (x:cw):List L:=cw.enc x
def cw.zero:cw:=⟨⟨#[]⟩,0⟩
def cw.cu {a b:cw}(h:cw.row a=cw.row b):a=b:=congrArg cw.dec h
def cw.cP {xs:List cw}{i:Nat}:cw.at (xs.map cw.row) i=xs.getD i cw.zero:=eR (r:=fun x=>x) (fun _=>rfl) rfl
instance :Row cw:=⟨cw.row,cw.cu⟩
instance :Im cw cw:=⟨fun x=>x,fun h=>h⟩
def cw.rs:(∀(xs:List cw) (i:Nat),cw.at (xs.map cw.row) i=xs.getD i cw.zero):=fun _ _=>cw.cP
def cw.Sm (n:Nat)(x:cw):Prop:=(x.fName).size<=n
def cw.bC {n m:Nat}(hn:n<=m){x:cw}(h:cw.Sm n x):cw.Sm m x:=Nat.le_trans h hn
structure bT where
 bE:an
 ij:Int
structure aF where
 bE:List aN
 ij:Int
def bT.enc (x:bT):List L:=[.sl x.bE,.int x.ij]
def bT.dec (r:List L):bT:=⟨(gS 0 r),(cA 1 r)⟩
instance :RT bT:=⟨bT.enc,bT.dec,2,fun _ _=>rfl,fun _ _=>rfl⟩
def bT.at (xs:an)(i:Nat):bT:=bT.dec (List.getD xs i [])
def aF.r (x:aF):bT:=⟨(x.bE.map aN.row),x.ij⟩
def aF.row (x:aF):List L:=bT.enc x.r
def aF.zero:aF:=⟨[],0⟩
def aF.cB {a b:aF}(h:a.r=b.r):a=b:=by
 cases a;cases b
 simp only [aF.r,bT.mk.injEq] at h
 obtain ⟨h0,h1⟩:=h
 simp only [aF.mk.injEq]
 exact ⟨(map_inj aN.cu h0),h1⟩
def aF.cu {a b:aF}(h:aF.row a=aF.row b):a=b:=aF.cB (congrArg bT.dec h)
def aF.cP {xs:List aF}{i:Nat}:bT.at (xs.map aF.row) i=(xs.getD i aF.zero).r:=eR (r:=fun x=>aF.r x) (fun _=>rfl) rfl
def aF.rW (x:aF):(aF.r x).bE=(x.bE.map aN.row):=Eq.trans rfl rfl
def aF.Ds (x:aF):(aF.r x).ij=x.ij:=Eq.trans rfl rfl
instance :Row aF:=⟨aF.row,aF.cu⟩
instance :Im aF bT:=⟨aF.r,aF.cB⟩
def aF.rs:(∀(xs:List aF) (i:Nat),bT.at (xs.map aF.row) i=(xs.getD i aF.zero).r)/\(∀x:aF,(aF.r x).bE=(x.bE.map aN.row))/\(∀x:aF,(aF.r x).ij=x.ij):=⟨fun _ _=>aF.cP,aF.rW,aF.Ds⟩
def aF.Sm (n:Nat)(x:aF):Prop:=bn n (fun y:aN=>aN.Sm n y) x.bE
def aF.bC {n m:Nat}(hn:n<=m){x:aF}(h:aF.Sm n x):aF.Sm m x:=h.mono hn (fun x hx=>aN.bC hn hx)
structure eH where
 cR:bP
 cM:Bool
 aE:aC
 lR:Bool
 mA:an
structure bG where
 cR:az
 cM:Bool
 aE:aa
 lR:Bool
 mA:List Int
def eH.enc (x:eH):List L:=[.sl x.cR.aZ,.sl x.cR.bN,.bool x.cM,.str x.aE.bk,.int x.aE.bp,.int x.aE.bJ,.sl x.aE.bg,.bool x.lR,.sl x.mA]
def eH.dec (r:List L):eH:=⟨⟨(gS 0 r),(gS 1 r)⟩,(CU 2 r),⟨(Ad 3 r),(cA 4 r),(cA 5 r),(gS 6 r)⟩,(CU 7 r),(gS 8 r)⟩
instance :RT eH:=⟨eH.enc,eH.dec,9,fun _ _=>rfl,fun _ _=>rfl⟩
def eH.at (xs:an)(i:Nat):eH:=eH.dec (List.getD xs i [])
def bG.r (x:bG):eH:=⟨(az.r x.cR),x.cM,(aa.r x.aE),x.lR,(x.mA.map bh)⟩
def bG.row (x:bG):List L:=eH.enc x.r
def bG.zero:bG:=⟨az.zero,false,aa.zero,false,[]⟩
def bG.cB {a b:bG}(h:a.r=b.r):a=b:=by
 cases a;cases b
 simp only [bG.r,eH.mk.injEq] at h
 obtain ⟨h0,h1,h2,h3,h4⟩:=h
 simp only [bG.mk.injEq]
 exact ⟨(az.cB h0),h1,(aa.cB h2),h3,(map_inj mI h4)⟩
def bG.cu {a b:bG}(h:bG.row a=bG.row b):a=b:=bG.cB (congrArg eH.dec h)
def bG.cP {xs:List bG}{i:Nat}:eH.at (xs.map bG.row) i=(xs.getD i bG.zero).r:=eR (r:=fun x=>bG.r x) (fun _=>rfl) rfl
def bG.sQ (x:bG):(bG.r x).cR=(az.r x.cR):=Eq.trans rfl rfl
def bG.sH (x:bG):(bG.r x).cM=x.cM:=Eq.trans rfl rfl
def bG.iJ (x:bG):(bG.r x).aE=(aa.r x.aE):=Eq.trans rfl rfl
def bG.Cm (x:bG):(bG.r x).lR=x.lR:=Eq.trans rfl rfl
def bG.Bw (x:bG):(bG.r x).mA=(x.mA.map bh):=Eq.trans rfl rfl
instance :Row bG:=⟨bG.row,bG.cu⟩
instance :Im bG eH:=⟨bG.r,bG.cB⟩
def bG.rs:(∀(xs:List bG) (i:Nat),eH.at (xs.map bG.row) i=(xs.getD i bG.zero).r)/\(∀x:bG,(bG.r x).cR=(az.r x.cR))/\(∀x:bG,(bG.r x).cM=x.cM)/\(∀x:bG,(bG.r x).aE=(aa.r x.aE))/\(∀x:bG,(bG.r x).lR=x.lR)/\(∀x:bG,(bG.r x).mA=(x.mA.map bh)):=⟨fun _ _=>bG.cP,bG.sQ,bG.sH,bG.iJ,bG.Cm,bG.Bw⟩
def bG.Sm (n:Nat)(x:bG):Prop:=az.Sm n x.cR/\aa.Sm n x.aE/\bn n (fun y:Int=>True) x.mA
structure bW where
 gO:Int
 bg:an
structure aU where
 gO:Int
 bg:List Int
def bW.enc (x:bW):List L:=[.int x.gO,.sl x.bg]
def bW.dec (r:List L):bW:=⟨(cA 0 r),(gS 1 r)⟩
instance :RT bW:=⟨bW.enc,bW.dec,2,fun _ _=>rfl,fun _ _=>rfl⟩
def bW.at (xs:an)(i:Nat):bW:=bW.dec (List.getD xs i [])
def aU.r (x:aU):bW:=⟨x.gO,(x.bg.map bh)⟩
def aU.row (x:aU):List L:=bW.enc x.r
def aU.zero:aU:=⟨0,[]⟩
def aU.cB {a b:aU}(h:a.r=b.r):a=b:=by
 cases a;cases b
 simp only [aU.r,bW.mk.injEq] at h
 obtain ⟨h0,h1⟩:=h
 simp only [aU.mk.injEq]
 exact ⟨h0,(map_inj mI h1)⟩
def aU.cu {a b:aU}(h:aU.row a=aU.row b):a=b:=aU.cB (congrArg bW.dec h)
def aU.cP {xs:List aU}{i:Nat}:bW.at (xs.map aU.row) i=(xs.getD i aU.zero).r:=eR (r:=fun x=>aU.r x) (fun _=>rfl) rfl
def aU.Ah (x:aU):(aU.r x).gO=x.gO:=Eq.trans rfl rfl
def aU.pG (x:aU):(aU.r x).bg=(x.bg.map bh):=Eq.trans rfl rfl
instance :Row aU:=⟨aU.row,aU.cu⟩
instance :Im aU bW:=⟨aU.r,aU.cB⟩
def aU.rs:(∀(xs:List aU) (i:Nat),bW.at (xs.map aU.row) i=(xs.getD i aU.zero).r)/\(∀x:aU,(aU.r x).gO=x.gO)/\(∀x:aU,(aU.r x).bg=(x.bg.map bh)):=⟨fun _ _=>aU.cP,aU.Ah,aU.pG⟩
def aU.Sm (n:Nat)(x:aU):Prop:=bn n (fun y:Int=>True) x.bg
structure fD where
 gO:Int
 bF:aC
 cS:aC
 gj:bW
 dn:bW
structure bX where
 gO:Int
 bF:aa
 cS:aa
 gj:aU
 dn:aU
def fD.enc (x:fD):List L:=[.int x.gO,.str x.bF.bk,.int x.bF.bp,.int x.bF.bJ,.sl x.bF.bg,.str x.cS.bk,.int x.cS.bp,.int x.cS.bJ,.sl x.cS.bg,.int x.gj.gO,.sl x.gj.bg,.int x.dn.gO,.sl x.dn.bg]
def fD.dec (r:List L):fD:=⟨(cA 0 r),⟨(Ad 1 r),(cA 2 r),(cA 3 r),(gS 4 r)⟩,⟨(Ad 5 r),(cA 6 r),(cA 7 r),(gS 8 r)⟩,⟨(cA 9 r),(gS 10 r)⟩,⟨(cA 11 r),(gS 12 r)⟩⟩
instance :RT fD:=⟨fD.enc,fD.dec,13,fun _ _=>rfl,fun _ _=>rfl⟩
def fD.at (xs:an)(i:Nat):fD:=fD.dec (List.getD xs i [])
def bX.r (x:bX):fD:=⟨x.gO,(aa.r x.bF),(aa.r x.cS),(aU.r x.gj),(aU.r x.dn)⟩
def bX.row (x:bX):List L:=fD.enc x.r
def bX.zero:bX:=⟨0,aa.zero,aa.zero,aU.zero,aU.zero⟩
def bX.cB {a b:bX}(h:a.r=b.r):a=b:=by
 cases a;cases b
 simp only [bX.r,fD.mk.injEq] at h
 obtain ⟨h0,h1,h2,h3,h4⟩:=h
 simp only [bX.mk.injEq]
 exact ⟨h0,(aa.cB h1),(aa.cB h2),(aU.cB h3),(aU.cB h4)⟩
def bX.cu {a b:bX}(h:bX.row a=bX.row b):a=b:=bX.cB (congrArg fD.dec h)
def bX.cP {xs:List bX}{i:Nat}:fD.at (xs.map bX.row) i=(xs.getD i bX.zero).r:=eR (r:=fun x=>bX.r x) (fun _=>rfl) rfl
def bX.Ah (x:bX):(bX.r x).gO=x.gO:=Eq.trans rfl rfl
def bX.qA (x:bX):(bX.r x).bF=(aa.r x.bF):=Eq.trans rfl rfl
def bX.Bq (x:bX):(bX.r x).cS=(aa.r x.cS):=Eq.trans rfl rfl
def bX.BP (x:bX):(bX.r x).gj=(aU.r x.gj):=Eq.trans rfl rfl
def bX.Bk (x:bX):(bX.r x).dn=(aU.r x.dn):=Eq.trans rfl rfl
instance :Row bX:=⟨bX.row,bX.cu⟩
instance :Im bX fD:=⟨bX.r,bX.cB⟩
def bX.rs:(∀(xs:List bX) (i:Nat),fD.at (xs.map bX.row) i=(xs.getD i bX.zero).r)/\(∀x:bX,(bX.r x).gO=x.gO)/\(∀x:bX,(bX.r x).bF=(aa.r x.bF))/\(∀x:bX,(bX.r x).cS=(aa.r x.cS))/\(∀x:bX,(bX.r x).gj=(aU.r x.gj))/\(∀x:bX,(bX.r x).dn=(aU.r x.dn)):=⟨fun _ _=>bX.cP,bX.Ah,bX.qA,bX.Bq,bX.BP,bX.Bk⟩
def bX.Sm (n:Nat)(x:bX):Prop:=aa.Sm n x.bF/\aa.Sm n x.cS/\aU.Sm n x.gj/\aU.Sm n x.dn
structure bu where
 aI:an
 cM:Bool
 aE:aC
 gN:bW
 iM:fD
structure aB where
 aI:List af
 cM:Bool
 aE:aa
 gN:aU
 iM:bX
def bu.enc (x:bu):List L:=[.sl x.aI,.bool x.cM,.str x.aE.bk,.int x.aE.bp,.int x.aE.bJ,.sl x.aE.bg,.int x.gN.gO,.sl x.gN.bg,.int x.iM.gO,.str x.iM.bF.bk,.int x.iM.bF.bp,.int x.iM.bF.bJ,.sl x.iM.bF.bg,.str x.iM.cS.bk,.int x.iM.cS.bp,.int x.iM.cS.bJ,.sl x.iM.cS.bg,.int x.iM.gj.gO,.sl x.iM.gj.bg,.int x.iM.dn.gO,.sl x.iM.dn.bg]
def bu.dec (r:List L):bu:=⟨(gS 0 r),(CU 1 r),⟨(Ad 2 r),(cA 3 r),(cA 4 r),(gS 5 r)⟩,⟨(cA 6 r),(gS 7 r)⟩,⟨(cA 8 r),⟨(Ad 9 r),(cA 10 r),(cA 11 r),(gS 12 r)⟩,⟨(Ad 13 r),(cA 14 r),(cA 15 r),(gS 16 r)⟩,⟨(cA 17 r),(gS 18 r)⟩,⟨(cA 19 r),(gS 20 r)⟩⟩⟩
instance :RT bu:=⟨bu.enc,bu.dec,21,fun _ _=>rfl,fun _ _=>rfl⟩
def bu.at (xs:an)(i:Nat):bu:=bu.dec (List.getD xs i [])
def aB.r (x:aB):bu:=⟨(x.aI.map af.row),x.cM,(aa.r x.aE),(aU.r x.gN),(bX.r x.iM)⟩
def aB.row (x:aB):List L:=bu.enc x.r
def aB.zero:aB:=⟨[],false,aa.zero,aU.zero,bX.zero⟩
def aB.cB {a b:aB}(h:a.r=b.r):a=b:=by
 cases a;cases b
 simp only [aB.r,bu.mk.injEq] at h
 obtain ⟨h0,h1,h2,h3,h4⟩:=h
 simp only [aB.mk.injEq]
 exact ⟨(map_inj af.cu h0),h1,(aa.cB h2),(aU.cB h3),(bX.cB h4)⟩
def aB.cu {a b:aB}(h:aB.row a=aB.row b):a=b:=aB.cB (congrArg bu.dec h)
def aB.cP {xs:List aB}{i:Nat}:bu.at (xs.map aB.row) i=(xs.getD i aB.zero).r:=eR (r:=fun x=>aB.r x) (fun _=>rfl) rfl
def aB.tc (x:aB):(aB.r x).aI=(x.aI.map af.row):=Eq.trans rfl rfl
def aB.sH (x:aB):(aB.r x).cM=x.cM:=Eq.trans rfl rfl
def aB.iJ (x:aB):(aB.r x).aE=(aa.r x.aE):=Eq.trans rfl rfl
def aB.A3 (x:aB):(aB.r x).gN=(aU.r x.gN):=Eq.trans rfl rfl
def aB.De (x:aB):(aB.r x).iM=(bX.r x.iM):=Eq.trans rfl rfl
instance :Row aB:=⟨aB.row,aB.cu⟩
instance :Im aB bu:=⟨aB.r,aB.cB⟩
def aB.rs:(∀(xs:List aB) (i:Nat),bu.at (xs.map aB.row) i=(xs.getD i aB.zero).r)/\(∀x:aB,(aB.r x).aI=(x.aI.map af.row))/\(∀x:aB,(aB.r x).cM=x.cM)/\(∀x:aB,(aB.r x).aE=(aa.r x.aE))/\(∀x:aB,(aB.r x).gN=(aU.r x.gN))/\(∀x:aB,(aB.r x).iM=(bX.r x.iM)):=⟨fun _ _=>aB.cP,aB.tc,aB.sH,aB.iJ,aB.A3,aB.De⟩
def aB.Sm (n:Nat)(x:aB):Prop:=bn n (fun y:af=>af.Sm n y) x.aI/\aa.Sm n x.aE/\aU.Sm n x.gN/\bX.Sm n x.iM
def SS:=And.intro (And.intro S0 MM) (And.intro aM.rs (And.intro ay.rs (And.intro dB.rs (And.intro aa.rs (And.intro aA.rs (And.intro cz.rs (And.intro af.rs (And.intro bt.rs (And.intro az.rs (And.intro ak.rs (And.intro aj.rs (And.intro aN.rs (And.intro cw.rs (And.intro aF.rs (And.intro bG.rs (And.intro aU.rs (And.intro bX.rs (And.intro aB.rs trivial))))))))))))))))))
def fz {p:Prop}(h:p:=by first | rfl | (simp only [SS];done) | (simp only [MP];rfl) | (simp only [SS,MP];first | done | rfl) | (simp only [aM.r,ay.r,dB.r,aa.r,aA.r,af.r,bt.r,az.r,ak.r,aj.r,aN.r,aF.r,bG.r,aU.r,bX.r,aB.r,SS,MP];first | done | rfl) | (simp only [SS,MP,List.length_take,List.length_drop];first | done | rfl)):p:=h
def rq {p q:Prop}(h:p)(k:p->q:=by intro R_;first | exact R_ | (simp only [MP,SS] at R_ ⊢;first | exact R_ | (rw [<-R_];rfl))):q:=k h
end Go.DM

end
