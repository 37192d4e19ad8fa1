/- The structures of the program, as mathematical records. Conditions: none. -/
import Derived.Test.YtbojpakoeellaaaGreatResolvePetDd
set_option linter.all false
noncomputable section
namespace Go.DM
structure bD where
 aX:aC
 cC:Int
structure aO where
 aX:List Int
 cC:Int
def bD.enc (x:bD):List L:=[.sl x.aX,.int x.cC]
def bD.dec (r:List L):bD:=⟨((aA 0 r).headD .hole).aP,((aA 1 r).headD .hole).toInt⟩
instance :RT bD:=⟨bD.enc,bD.dec,2,fun _ _=>rfl,fun _ _=>rfl⟩
def bD.at (xs:aC)(i:Nat):bD:=bD.dec (List.getD xs i [])
def aO.r (x:aO):bD:=⟨(x.aX.map bh),x.cC⟩
def aO.row (x:aO):List L:=bD.enc x.r
def aO.zero:aO:=⟨[],0⟩
def aO.dB {a b:aO}(h:a.r=b.r):a=b:=by
 cases a;cases b
 simp only [aO.r,bD.mk.injEq] at h
 obtain ⟨h0,h1⟩:=h
 simp only [aO.mk.injEq]
 exact ⟨(map_inj lF h0),h1⟩
def aO.dh {a b:aO}(h:aO.row a=aO.row b):a=b:=aO.dB (congrArg bD.dec h)
def aO.dH {xs:List aO}{i:Nat}:bD.at (xs.map aO.row) i=(xs.getD i aO.zero).r:=eW (r:=fun x=>aO.r x) (fun _=>rfl) rfl
def aO.yU (x:aO):(aO.r x).aX=(x.aX.map bh):=Eq.trans rfl rfl
def aO.za (x:aO):(aO.r x).cC=x.cC:=Eq.trans rfl rfl
instance :Row aO:=⟨aO.row,aO.dh⟩
instance :Im aO bD:=⟨aO.r,aO.dB⟩
def aO.rs:(∀(xs:List aO) (i:Nat),bD.at (xs.map aO.row) i=(xs.getD i aO.zero).r)/\(∀x:aO,(aO.r x).aX=(x.aX.map bh))/\(∀x:aO,(aO.r x).cC=x.cC):=⟨fun _ _=>aO.dH,aO.yU,aO.za⟩
def aO.Sm (n:Nat)(x:aO):Prop:=bL n (fun y:Int=>True) x.aX
def aO.size (x:aO):Nat:=dO (fun y:Int=>0) x.aX
def aO.cO {n m:Nat}(hn:n<=m){x:aO}(h:aO.Sm n x):aO.Sm m x:=h.mono hn (fun x hx=>trivial)
def aO.fZ {n:Nat}{x:aO}(h:x.size<=n):aO.Sm n x:=by
 unfold aO.size at h
 have g0:dO (fun y:Int=>0) x.aX<=n:=by omega
 exact iM g0 (fun x hx=>trivial)
structure bY where
 bC:Int
 cI:Int
 bK:Int
 cG:Int
 cz:Int
 cq:Int
 cW:Int
 dy:Int
 bQ:bD
 bB:bD
 cY:Int
 bw:bD
 bE:Bool
structure aF where
 bC:Int
 cI:Int
 bK:Int
 cG:Int
 cz:Int
 cq:Int
 cW:Int
 dy:Int
 bQ:aO
 bB:aO
 cY:Int
 bw:aO
 bE:Bool
def bY.enc (x:bY):List L:=[.int x.bC,.int x.cI,.int x.bK,.int x.cG,.int x.cz,.int x.cq,.int x.cW,.int x.dy,.sl x.bQ.aX,.int x.bQ.cC,.sl x.bB.aX,.int x.bB.cC,.int x.cY,.sl x.bw.aX,.int x.bw.cC,.bool x.bE]
def bY.dec (r:List L):bY:=⟨((aA 0 r).headD .hole).toInt,((aA 1 r).headD .hole).toInt,((aA 2 r).headD .hole).toInt,((aA 3 r).headD .hole).toInt,((aA 4 r).headD .hole).toInt,((aA 5 r).headD .hole).toInt,((aA 6 r).headD .hole).toInt,((aA 7 r).headD .hole).toInt,⟨((aA 8 r).headD .hole).aP,((aA 9 r).headD .hole).toInt⟩,⟨((aA 10 r).headD .hole).aP,((aA 11 r).headD .hole).toInt⟩,((aA 12 r).headD .hole).toInt,⟨((aA 13 r).headD .hole).aP,((aA 14 r).headD .hole).toInt⟩,((aA 15 r).headD .hole).toBool⟩
instance :RT bY:=⟨bY.enc,bY.dec,16,fun _ _=>rfl,fun _ _=>rfl⟩
def bY.at (xs:aC)(i:Nat):bY:=bY.dec (List.getD xs i [])
def aF.r (x:aF):bY:=⟨x.bC,x.cI,x.bK,x.cG,x.cz,x.cq,x.cW,x.dy,(aO.r x.bQ),(aO.r x.bB),x.cY,(aO.r x.bw),x.bE⟩
def aF.row (x:aF):List L:=bY.enc x.r
def aF.zero:aF:=⟨0,0,0,0,0,0,0,0,aO.zero,aO.zero,0,aO.zero,false⟩
def aF.dB {a b:aF}(h:a.r=b.r):a=b:=by
 cases a;cases b
 simp only [aF.r,bY.mk.injEq] at h
 obtain ⟨h0,h1,h2,h3,h4,h5,h6,h7,h8,h9,h10,h11,h12⟩:=h
 simp only [aF.mk.injEq]
 exact ⟨h0,h1,h2,h3,h4,h5,h6,h7,(aO.dB h8),(aO.dB h9),h10,(aO.dB h11),h12⟩
def aF.dh {a b:aF}(h:aF.row a=aF.row b):a=b:=aF.dB (congrArg bY.dec h)
def aF.dH {xs:List aF}{i:Nat}:bY.at (xs.map aF.row) i=(xs.getD i aF.zero).r:=eW (r:=fun x=>aF.r x) (fun _=>rfl) rfl
def aF.zC (x:aF):(aF.r x).bC=x.bC:=Eq.trans rfl rfl
def aF.yt (x:aF):(aF.r x).cI=x.cI:=Eq.trans rfl rfl
def aF.sM (x:aF):(aF.r x).bK=x.bK:=Eq.trans rfl rfl
def aF.zM (x:aF):(aF.r x).cG=x.cG:=Eq.trans rfl rfl
def aF.xx (x:aF):(aF.r x).cz=x.cz:=Eq.trans rfl rfl
def aF.xq (x:aF):(aF.r x).cq=x.cq:=Eq.trans rfl rfl
def aF.zm (x:aF):(aF.r x).cW=x.cW:=Eq.trans rfl rfl
def aF.yX (x:aF):(aF.r x).dy=x.dy:=Eq.trans rfl rfl
def aF.zp (x:aF):(aF.r x).bQ=(aO.r x.bQ):=Eq.trans rfl rfl
def aF.xy (x:aF):(aF.r x).bB=(aO.r x.bB):=Eq.trans rfl rfl
def aF.zn (x:aF):(aF.r x).cY=x.cY:=Eq.trans rfl rfl
def aF.xW (x:aF):(aF.r x).bw=(aO.r x.bw):=Eq.trans rfl rfl
def aF.wI (x:aF):(aF.r x).bE=x.bE:=Eq.trans rfl rfl
instance :Row aF:=⟨aF.row,aF.dh⟩
instance :Im aF bY:=⟨aF.r,aF.dB⟩
def aF.rs:(∀(xs:List aF) (i:Nat),bY.at (xs.map aF.row) i=(xs.getD i aF.zero).r)/\(∀x:aF,(aF.r x).bC=x.bC)/\(∀x:aF,(aF.r x).cI=x.cI)/\(∀x:aF,(aF.r x).bK=x.bK)/\(∀x:aF,(aF.r x).cG=x.cG)/\(∀x:aF,(aF.r x).cz=x.cz)/\(∀x:aF,(aF.r x).cq=x.cq)/\(∀x:aF,(aF.r x).cW=x.cW)/\(∀x:aF,(aF.r x).dy=x.dy)/\(∀x:aF,(aF.r x).bQ=(aO.r x.bQ))/\(∀x:aF,(aF.r x).bB=(aO.r x.bB))/\(∀x:aF,(aF.r x).cY=x.cY)/\(∀x:aF,(aF.r x).bw=(aO.r x.bw))/\(∀x:aF,(aF.r x).bE=x.bE):=⟨fun _ _=>aF.dH,aF.zC,aF.yt,aF.sM,aF.zM,aF.xx,aF.xq,aF.zm,aF.yX,aF.zp,aF.xy,aF.zn,aF.xW,aF.wI⟩
def aF.Sm (n:Nat)(x:aF):Prop:=aO.Sm n x.bQ/\aO.Sm n x.bB/\aO.Sm n x.bw
def aF.size (x:aF):Nat:=aO.size x.bQ+aO.size x.bB+aO.size x.bw
def aF.cO {n m:Nat}(hn:n<=m){x:aF}(h:aF.Sm n x):aF.Sm m x:=⟨aO.cO hn h.1,aO.cO hn h.2.1,aO.cO hn h.2.2⟩
def aF.fZ {n:Nat}{x:aF}(h:x.size<=n):aF.Sm n x:=by
 unfold aF.size at h
 have g0:aO.size x.bQ<=n:=by omega
 have g1:aO.size x.bB<=n:=by omega
 have g2:aO.size x.bw<=n:=by omega
 exact ⟨aO.fZ g0,aO.fZ g1,aO.fZ g2⟩
structure bn where
 gJ:Int
 jq:Int
def bn.enc (x:bn):List L:=[.int x.gJ,.int x.jq]
def bn.dec (r:List L):bn:=⟨((aA 0 r).headD .hole).toInt,((aA 1 r).headD .hole).toInt⟩
instance :RT bn:=⟨bn.enc,bn.dec,2,fun _ _=>rfl,fun _ _=>rfl⟩
def bn.at (xs:aC)(i:Nat):bn:=bn.dec (List.getD xs i [])
def bn.row (x:bn):List L:=bn.enc x
def bn.zero:bn:=⟨0,0⟩
def bn.dh {a b:bn}(h:bn.row a=bn.row b):a=b:=congrArg bn.dec h
def bn.dY {xs:List bn}{i:Nat}(h:i<xs.length):bn.at (xs.map bn.row) i=xs[i]:=by unfold bn.at;rw [getD_map h];rfl
def bn.dH {xs:List bn}{i:Nat}:bn.at (xs.map bn.row) i=xs.getD i bn.zero:=eW (r:=fun x=>x) (fun _=>rfl) rfl
def bn.eqc (a b:bn):(dW a.gJ b.gJ&&(dW a.jq b.jq&&true))=dW a b:=by
 cases a;cases b
 rw [Bool.eq_iff_iff]
 simp only [dc,Bool.and_eq_true,bn.mk.injEq,and_true]
instance :Row bn:=⟨bn.row,bn.dh⟩
instance :Im bn bn:=⟨fun x=>x,fun h=>h⟩
def bn.rs:(∀(xs:List bn) (i:Nat),bn.at (xs.map bn.row) i=xs.getD i bn.zero):=fun _ _=>bn.dH
def bn.Sm (n:Nat)(x:bn):Prop:=True
def bn.size (x:bn):Nat:=0
def bn.cO {n m:Nat}(_:n<=m){x:bn}(_:bn.Sm n x):bn.Sm m x:=trivial
def bn.fZ {n:Nat}{x:bn}(_:x.size<=n):bn.Sm n x:=trivial
structure aR where
 an:bY
 cm:aC
structure aa where
 an:aF
 cm:List bn
def aR.enc (x:aR):List L:=[.int x.an.bC,.int x.an.cI,.int x.an.bK,.int x.an.cG,.int x.an.cz,.int x.an.cq,.int x.an.cW,.int x.an.dy,.sl x.an.bQ.aX,.int x.an.bQ.cC,.sl x.an.bB.aX,.int x.an.bB.cC,.int x.an.cY,.sl x.an.bw.aX,.int x.an.bw.cC,.bool x.an.bE,.sl x.cm]
def aR.dec (r:List L):aR:=⟨⟨((aA 0 r).headD .hole).toInt,((aA 1 r).headD .hole).toInt,((aA 2 r).headD .hole).toInt,((aA 3 r).headD .hole).toInt,((aA 4 r).headD .hole).toInt,((aA 5 r).headD .hole).toInt,((aA 6 r).headD .hole).toInt,((aA 7 r).headD .hole).toInt,⟨((aA 8 r).headD .hole).aP,((aA 9 r).headD .hole).toInt⟩,⟨((aA 10 r).headD .hole).aP,((aA 11 r).headD .hole).toInt⟩,((aA 12 r).headD .hole).toInt,⟨((aA 13 r).headD .hole).aP,((aA 14 r).headD .hole).toInt⟩,((aA 15 r).headD .hole).toBool⟩,((aA 16 r).headD .hole).aP⟩
instance :RT aR:=⟨aR.enc,aR.dec,17,fun _ _=>rfl,fun _ _=>rfl⟩
def aR.at (xs:aC)(i:Nat):aR:=aR.dec (List.getD xs i [])
def aa.r (x:aa):aR:=⟨(aF.r x.an),(x.cm.map bn.row)⟩
def aa.row (x:aa):List L:=aR.enc x.r
def aa.zero:aa:=⟨aF.zero,[]⟩
def aa.dB {a b:aa}(h:a.r=b.r):a=b:=by
 cases a;cases b
 simp only [aa.r,aR.mk.injEq] at h
 obtain ⟨h0,h1⟩:=h
 simp only [aa.mk.injEq]
 exact ⟨(aF.dB h0),(map_inj bn.dh h1)⟩
def aa.dh {a b:aa}(h:aa.row a=aa.row b):a=b:=aa.dB (congrArg aR.dec h)
def aa.dY {xs:List aa}{i:Nat}(h:i<xs.length):aR.at (xs.map aa.row) i=(xs[i]).r:=by unfold aR.at;rw [getD_map h];rfl
def aa.dH {xs:List aa}{i:Nat}:aR.at (xs.map aa.row) i=(xs.getD i aa.zero).r:=eW (r:=fun x=>aa.r x) (fun _=>rfl) rfl
def aa.zd (x:aa):(aa.r x).an=(aF.r x.an):=Eq.trans rfl rfl
def aa.zN (x:aa):(aa.r x).cm=(x.cm.map bn.row):=Eq.trans rfl rfl
instance :Row aa:=⟨aa.row,aa.dh⟩
instance :Im aa aR:=⟨aa.r,aa.dB⟩
def aa.rs:(∀(xs:List aa) (i:Nat),aR.at (xs.map aa.row) i=(xs.getD i aa.zero).r)/\(∀x:aa,(aa.r x).an=(aF.r x.an))/\(∀x:aa,(aa.r x).cm=(x.cm.map bn.row)):=⟨fun _ _=>aa.dH,aa.zd,aa.zN⟩
def aa.Sm (n:Nat)(x:aa):Prop:=aF.Sm n x.an/\bL n (fun y:bn=>bn.Sm n y) x.cm
def aa.size (x:aa):Nat:=aF.size x.an+dO (fun y:bn=>bn.size y) x.cm
def aa.cO {n m:Nat}(hn:n<=m){x:aa}(h:aa.Sm n x):aa.Sm m x:=⟨aF.cO hn h.1,h.2.mono hn (fun x hx=>bn.cO hn hx)⟩
def aa.fZ {n:Nat}{x:aa}(h:x.size<=n):aa.Sm n x:=by
 unfold aa.size at h
 have g0:aF.size x.an<=n:=by omega
 have g1:dO (fun y:bn=>bn.size y) x.cm<=n:=by omega
 exact ⟨aF.fZ g0,iM g1 (fun x hx=>bn.fZ hx)⟩
structure bH where
 aQ:aR
 fA:aR
 fB:aR
structure az where
 aQ:aa
 fA:aa
 fB:aa
def bH.enc (x:bH):List L:=[.int x.aQ.an.bC,.int x.aQ.an.cI,.int x.aQ.an.bK,.int x.aQ.an.cG,.int x.aQ.an.cz,.int x.aQ.an.cq,.int x.aQ.an.cW,.int x.aQ.an.dy,.sl x.aQ.an.bQ.aX,.int x.aQ.an.bQ.cC,.sl x.aQ.an.bB.aX,.int x.aQ.an.bB.cC,.int x.aQ.an.cY,.sl x.aQ.an.bw.aX,.int x.aQ.an.bw.cC,.bool x.aQ.an.bE,.sl x.aQ.cm,.int x.fA.an.bC,.int x.fA.an.cI,.int x.fA.an.bK,.int x.fA.an.cG,.int x.fA.an.cz,.int x.fA.an.cq,.int x.fA.an.cW,.int x.fA.an.dy,.sl x.fA.an.bQ.aX,.int x.fA.an.bQ.cC,.sl x.fA.an.bB.aX,.int x.fA.an.bB.cC,.int x.fA.an.cY,.sl x.fA.an.bw.aX,.int x.fA.an.bw.cC,.bool x.fA.an.bE,.sl x.fA.cm,.int x.fB.an.bC,.int x.fB.an.cI,.int x.fB.an.bK,.int x.fB.an.cG,.int x.fB.an.cz,.int x.fB.an.cq,.int x.fB.an.cW,.int x.fB.an.dy,.sl x.fB.an.bQ.aX,.int x.fB.an.bQ.cC,.sl x.fB.an.bB.aX,.int x.fB.an.bB.cC,.int x.fB.an.cY,.sl x.fB.an.bw.aX,.int x.fB.an.bw.cC,.bool x.fB.an.bE,.sl x.fB.cm]
def bH.dec (r:List L):bH:=⟨⟨⟨((aA 0 r).headD .hole).toInt,((aA 1 r).headD .hole).toInt,((aA 2 r).headD .hole).toInt,((aA 3 r).headD .hole).toInt,((aA 4 r).headD .hole).toInt,((aA 5 r).headD .hole).toInt,((aA 6 r).headD .hole).toInt,((aA 7 r).headD .hole).toInt,⟨((aA 8 r).headD .hole).aP,((aA 9 r).headD .hole).toInt⟩,⟨((aA 10 r).headD .hole).aP,((aA 11 r).headD .hole).toInt⟩,((aA 12 r).headD .hole).toInt,⟨((aA 13 r).headD .hole).aP,((aA 14 r).headD .hole).toInt⟩,((aA 15 r).headD .hole).toBool⟩,((aA 16 r).headD .hole).aP⟩,⟨⟨((aA 17 r).headD .hole).toInt,((aA 18 r).headD .hole).toInt,((aA 19 r).headD .hole).toInt,((aA 20 r).headD .hole).toInt,((aA 21 r).headD .hole).toInt,((aA 22 r).headD .hole).toInt,((aA 23 r).headD .hole).toInt,((aA 24 r).headD .hole).toInt,⟨((aA 25 r).headD .hole).aP,((aA 26 r).headD .hole).toInt⟩,⟨((aA 27 r).headD .hole).aP,((aA 28 r).headD .hole).toInt⟩,((aA 29 r).headD .hole).toInt,⟨((aA 30 r).headD .hole).aP,((aA 31 r).headD .hole).toInt⟩,((aA 32 r).headD .hole).toBool⟩,((aA 33 r).headD .hole).aP⟩,⟨⟨((aA 34 r).headD .hole).toInt,((aA 35 r).headD .hole).toInt,((aA 36 r).headD .hole).toInt,((aA 37 r).headD .hole).toInt,((aA 38 r).headD .hole).toInt,((aA 39 r).headD .hole).toInt,((aA 40 r).headD .hole).toInt,((aA 41 r).headD .hole).toInt,⟨((aA 42 r).headD .hole).aP,((aA 43 r).headD .hole).toInt⟩,⟨((aA 44 r).headD .hole).aP,((aA 45 r).headD .hole).toInt⟩,((aA 46 r).headD .hole).toInt,⟨((aA 47 r).headD .hole).aP,((aA 48 r).headD .hole).toInt⟩,((aA 49 r).headD .hole).toBool⟩,((aA 50 r).headD .hole).aP⟩⟩
instance :RT bH:=⟨bH.enc,bH.dec,51,fun _ _=>rfl,fun _ _=>rfl⟩
def bH.at (xs:aC)(i:Nat):bH:=bH.dec (List.getD xs i [])
def az.r (x:az):bH:=⟨(aa.r x.aQ),(aa.r x.fA),(aa.r x.fB)⟩
def az.row (x:az):List L:=bH.enc x.r
def az.zero:az:=⟨aa.zero,aa.zero,aa.zero⟩
def az.dB {a b:az}(h:a.r=b.r):a=b:=by
 cases a;cases b
 simp only [az.r,bH.mk.injEq] at h
 obtain ⟨h0,h1,h2⟩:=h
 simp only [az.mk.injEq]
 exact ⟨(aa.dB h0),(aa.dB h1),(aa.dB h2)⟩
def az.dh {a b:az}(h:az.row a=az.row b):a=b:=az.dB (congrArg bH.dec h)
def az.dY {xs:List az}{i:Nat}(h:i<xs.length):bH.at (xs.map az.row) i=(xs[i]).r:=by unfold bH.at;rw [getD_map h];rfl
def az.dH {xs:List az}{i:Nat}:bH.at (xs.map az.row) i=(xs.getD i az.zero).r:=eW (r:=fun x=>az.r x) (fun _=>rfl) rfl
def az.ou (x:az):(az.r x).aQ=(aa.r x.aQ):=Eq.trans rfl rfl
def az.BA (x:az):(az.r x).fA=(aa.r x.fA):=Eq.trans rfl rfl
def az.Bz (x:az):(az.r x).fB=(aa.r x.fB):=Eq.trans rfl rfl
instance :Row az:=⟨az.row,az.dh⟩
instance :Im az bH:=⟨az.r,az.dB⟩
def az.rs:(∀(xs:List az) (i:Nat),bH.at (xs.map az.row) i=(xs.getD i az.zero).r)/\(∀x:az,(az.r x).aQ=(aa.r x.aQ))/\(∀x:az,(az.r x).fA=(aa.r x.fA))/\(∀x:az,(az.r x).fB=(aa.r x.fB)):=⟨fun _ _=>az.dH,az.ou,az.BA,az.Bz⟩
def az.Sm (n:Nat)(x:az):Prop:=aa.Sm n x.aQ/\aa.Sm n x.fA/\aa.Sm n x.fB
def az.size (x:az):Nat:=aa.size x.aQ+aa.size x.fA+aa.size x.fB
def az.cO {n m:Nat}(hn:n<=m){x:az}(h:az.Sm n x):az.Sm m x:=⟨aa.cO hn h.1,aa.cO hn h.2.1,aa.cO hn h.2.2⟩
def az.fZ {n:Nat}{x:az}(h:x.size<=n):az.Sm n x:=by
 unfold az.size at h
 have g0:aa.size x.aQ<=n:=by omega
 have g1:aa.size x.fA<=n:=by omega
 have g2:aa.size x.fB<=n:=by omega
 exact ⟨aa.fZ g0,aa.fZ g1,aa.fZ g2⟩
structure bu where
 aJ:aC
 bp:aC
structure aq where
 aJ:List (List aa)
 bp:List az
def bu.enc (x:bu):List L:=[.sl x.aJ,.sl x.bp]
def bu.dec (r:List L):bu:=⟨((aA 0 r).headD .hole).aP,((aA 1 r).headD .hole).aP⟩
instance :RT bu:=⟨bu.enc,bu.dec,2,fun _ _=>rfl,fun _ _=>rfl⟩
def bu.at (xs:aC)(i:Nat):bu:=bu.dec (List.getD xs i [])
def aq.r (x:aq):bu:=⟨(x.aJ.map (dG aa.row)),(x.bp.map az.row)⟩
def aq.row (x:aq):List L:=bu.enc x.r
def aq.zero:aq:=⟨[],[]⟩
def aq.dB {a b:aq}(h:a.r=b.r):a=b:=by
 cases a;cases b
 simp only [aq.r,bu.mk.injEq] at h
 obtain ⟨h0,h1⟩:=h
 simp only [aq.mk.injEq]
 exact ⟨(map_inj (tZ aa.dh) h0),(map_inj az.dh h1)⟩
def aq.dh {a b:aq}(h:aq.row a=aq.row b):a=b:=aq.dB (congrArg bu.dec h)
def aq.dH {xs:List aq}{i:Nat}:bu.at (xs.map aq.row) i=(xs.getD i aq.zero).r:=eW (r:=fun x=>aq.r x) (fun _=>rfl) rfl
def aq.wG (x:aq):(aq.r x).aJ=(x.aJ.map (dG aa.row)):=Eq.trans rfl rfl
def aq.xw (x:aq):(aq.r x).bp=(x.bp.map az.row):=Eq.trans rfl rfl
instance :Row aq:=⟨aq.row,aq.dh⟩
instance :Im aq bu:=⟨aq.r,aq.dB⟩
def aq.rs:(∀(xs:List aq) (i:Nat),bu.at (xs.map aq.row) i=(xs.getD i aq.zero).r)/\(∀x:aq,(aq.r x).aJ=(x.aJ.map (dG aa.row)))/\(∀x:aq,(aq.r x).bp=(x.bp.map az.row)):=⟨fun _ _=>aq.dH,aq.wG,aq.xw⟩
def aq.Sm (n:Nat)(x:aq):Prop:=bL n (fun y:List aa=>bL n (fun y:aa=>aa.Sm n y) y) x.aJ/\bL n (fun y:az=>az.Sm n y) x.bp
def aq.size (x:aq):Nat:=dO (fun y:List aa=>dO (fun y:aa=>aa.size y) y) x.aJ+dO (fun y:az=>az.size y) x.bp
def aq.cO {n m:Nat}(hn:n<=m){x:aq}(h:aq.Sm n x):aq.Sm m x:=⟨h.1.mono hn (fun x hx=>hx.mono hn (fun x hx=>aa.cO hn hx)),h.2.mono hn (fun x hx=>az.cO hn hx)⟩
def aq.fZ {n:Nat}{x:aq}(h:x.size<=n):aq.Sm n x:=by
 unfold aq.size at h
 have g0:dO (fun y:List aa=>dO (fun y:aa=>aa.size y) y) x.aJ<=n:=by omega
 have g1:dO (fun y:az=>az.size y) x.bp<=n:=by omega
 exact ⟨iM g0 (fun x hx=>iM hx (fun x hx=>aa.fZ hx)),iM g1 (fun x hx=>az.fZ hx)⟩
structure aU where
 bk:aB
 bK:Int
 bW:Int
 bI:aC
structure ah where
 bk:aB
 bK:Int
 bW:Int
 bI:List aB
def aU.enc (x:aU):List L:=[.str x.bk,.int x.bK,.int x.bW,.sl x.bI]
def aU.dec (r:List L):aU:=⟨((aA 0 r).headD .hole).toStr,((aA 1 r).headD .hole).toInt,((aA 2 r).headD .hole).toInt,((aA 3 r).headD .hole).aP⟩
instance :RT aU:=⟨aU.enc,aU.dec,4,fun _ _=>rfl,fun _ _=>rfl⟩
def aU.at (xs:aC)(i:Nat):aU:=aU.dec (List.getD xs i [])
def ah.r (x:ah):aU:=⟨x.bk,x.bK,x.bW,(x.bI.map cF)⟩
def ah.row (x:ah):List L:=aU.enc x.r
def ah.zero:ah:=⟨⟨#[]⟩,0,0,[]⟩
def ah.dB {a b:ah}(h:a.r=b.r):a=b:=by
 cases a;cases b
 simp only [ah.r,aU.mk.injEq] at h
 obtain ⟨h0,h1,h2,h3⟩:=h
 simp only [ah.mk.injEq]
 exact ⟨h0,h1,h2,(map_inj uX h3)⟩
def ah.dh {a b:ah}(h:ah.row a=ah.row b):a=b:=ah.dB (congrArg aU.dec h)
def ah.dY {xs:List ah}{i:Nat}(h:i<xs.length):aU.at (xs.map ah.row) i=(xs[i]).r:=by unfold aU.at;rw [getD_map h];rfl
def ah.dH {xs:List ah}{i:Nat}:aU.at (xs.map ah.row) i=(xs.getD i ah.zero).r:=eW (r:=fun x=>ah.r x) (fun _=>rfl) rfl
def ah.yd (x:ah):(ah.r x).bk=x.bk:=Eq.trans rfl rfl
def ah.sM (x:ah):(ah.r x).bK=x.bK:=Eq.trans rfl rfl
def ah.xS (x:ah):(ah.r x).bW=x.bW:=Eq.trans rfl rfl
def ah.tA (x:ah):(ah.r x).bI=(x.bI.map cF):=Eq.trans rfl rfl
instance :Row ah:=⟨ah.row,ah.dh⟩
instance :Im ah aU:=⟨ah.r,ah.dB⟩
def ah.rs:(∀(xs:List ah) (i:Nat),aU.at (xs.map ah.row) i=(xs.getD i ah.zero).r)/\(∀x:ah,(ah.r x).bk=x.bk)/\(∀x:ah,(ah.r x).bK=x.bK)/\(∀x:ah,(ah.r x).bW=x.bW)/\(∀x:ah,(ah.r x).bI=(x.bI.map cF)):=⟨fun _ _=>ah.dH,ah.yd,ah.sM,ah.xS,ah.tA⟩
def ah.Sm (n:Nat)(x:ah):Prop:=(x.bk).size<=n/\bL n (fun y:aB=>(y).size<=n) x.bI
def ah.size (x:ah):Nat:=(x.bk).size+dO (fun y:aB=>(y).size) x.bI
def ah.cO {n m:Nat}(hn:n<=m){x:ah}(h:ah.Sm n x):ah.Sm m x:=⟨Nat.le_trans h.1 hn,h.2.mono hn (fun x hx=>Nat.le_trans hx hn)⟩
def ah.fZ {n:Nat}{x:ah}(h:x.size<=n):ah.Sm n x:=by
 unfold ah.size at h
 have g0:(x.bk).size<=n:=by omega
 have g1:dO (fun y:aB=>(y).size) x.bI<=n:=by omega
 exact ⟨g0,iM g1 (fun x hx=>hx)⟩
structure cP where
 bX:bu
 gp:Int
 aV:aU
 bG:aC
 eY:Int
structure bA where
 bX:aq
 gp:Int
 aV:ah
 bG:List Int
 eY:Int
def cP.enc (x:cP):List L:=[.sl x.bX.aJ,.sl x.bX.bp,.int x.gp,.str x.aV.bk,.int x.aV.bK,.int x.aV.bW,.sl x.aV.bI,.sl x.bG,.int x.eY]
def cP.dec (r:List L):cP:=⟨⟨((aA 0 r).headD .hole).aP,((aA 1 r).headD .hole).aP⟩,((aA 2 r).headD .hole).toInt,⟨((aA 3 r).headD .hole).toStr,((aA 4 r).headD .hole).toInt,((aA 5 r).headD .hole).toInt,((aA 6 r).headD .hole).aP⟩,((aA 7 r).headD .hole).aP,((aA 8 r).headD .hole).toInt⟩
instance :RT cP:=⟨cP.enc,cP.dec,9,fun _ _=>rfl,fun _ _=>rfl⟩
def cP.at (xs:aC)(i:Nat):cP:=cP.dec (List.getD xs i [])
def bA.r (x:bA):cP:=⟨(aq.r x.bX),x.gp,(ah.r x.aV),(x.bG.map bh),x.eY⟩
def bA.row (x:bA):List L:=cP.enc x.r
def bA.zero:bA:=⟨aq.zero,0,ah.zero,[],0⟩
def bA.dB {a b:bA}(h:a.r=b.r):a=b:=by
 cases a;cases b
 simp only [bA.r,cP.mk.injEq] at h
 obtain ⟨h0,h1,h2,h3,h4⟩:=h
 simp only [bA.mk.injEq]
 exact ⟨(aq.dB h0),h1,(ah.dB h2),(map_inj lF h3),h4⟩
def bA.dh {a b:bA}(h:bA.row a=bA.row b):a=b:=bA.dB (congrArg cP.dec h)
def bA.dH {xs:List bA}{i:Nat}:cP.at (xs.map bA.row) i=(xs.getD i bA.zero).r:=eW (r:=fun x=>bA.r x) (fun _=>rfl) rfl
def bA.qi (x:bA):(bA.r x).bX=(aq.r x.bX):=Eq.trans rfl rfl
def bA.yZ (x:bA):(bA.r x).gp=x.gp:=Eq.trans rfl rfl
def bA.lH (x:bA):(bA.r x).aV=(ah.r x.aV):=Eq.trans rfl rfl
def bA.qI (x:bA):(bA.r x).bG=(x.bG.map bh):=Eq.trans rfl rfl
def bA.yG (x:bA):(bA.r x).eY=x.eY:=Eq.trans rfl rfl
instance :Row bA:=⟨bA.row,bA.dh⟩
instance :Im bA cP:=⟨bA.r,bA.dB⟩
def bA.rs:(∀(xs:List bA) (i:Nat),cP.at (xs.map bA.row) i=(xs.getD i bA.zero).r)/\(∀x:bA,(bA.r x).bX=(aq.r x.bX))/\(∀x:bA,(bA.r x).gp=x.gp)/\(∀x:bA,(bA.r x).aV=(ah.r x.aV))/\(∀x:bA,(bA.r x).bG=(x.bG.map bh))/\(∀x:bA,(bA.r x).eY=x.eY):=⟨fun _ _=>bA.dH,bA.qi,bA.yZ,bA.lH,bA.qI,bA.yG⟩
def bA.size (x:bA):Nat:=aq.size x.bX+ah.size x.aV+dO (fun y:Int=>0) x.bG
structure dL where
 aS:aC
 bM:aC
structure aK where
 aS:List aa
 bM:List ah
def dL.enc (x:dL):List L:=[.sl x.aS,.sl x.bM]
def dL.dec (r:List L):dL:=⟨((aA 0 r).headD .hole).aP,((aA 1 r).headD .hole).aP⟩
instance :RT dL:=⟨dL.enc,dL.dec,2,fun _ _=>rfl,fun _ _=>rfl⟩
def dL.at (xs:aC)(i:Nat):dL:=dL.dec (List.getD xs i [])
def aK.r (x:aK):dL:=⟨(x.aS.map aa.row),(x.bM.map ah.row)⟩
def aK.row (x:aK):List L:=dL.enc x.r
def aK.zero:aK:=⟨[],[]⟩
def aK.dB {a b:aK}(h:a.r=b.r):a=b:=by
 cases a;cases b
 simp only [aK.r,dL.mk.injEq] at h
 obtain ⟨h0,h1⟩:=h
 simp only [aK.mk.injEq]
 exact ⟨(map_inj aa.dh h0),(map_inj ah.dh h1)⟩
def aK.dh {a b:aK}(h:aK.row a=aK.row b):a=b:=aK.dB (congrArg dL.dec h)
def aK.dY {xs:List aK}{i:Nat}(h:i<xs.length):dL.at (xs.map aK.row) i=(xs[i]).r:=by unfold dL.at;rw [getD_map h];rfl
def aK.dH {xs:List aK}{i:Nat}:dL.at (xs.map aK.row) i=(xs.getD i aK.zero).r:=eW (r:=fun x=>aK.r x) (fun _=>rfl) rfl
def aK.qA (x:aK):(aK.r x).aS=(x.aS.map aa.row):=Eq.trans rfl rfl
def aK.vT (x:aK):(aK.r x).bM=(x.bM.map ah.row):=Eq.trans rfl rfl
instance :Row aK:=⟨aK.row,aK.dh⟩
instance :Im aK dL:=⟨aK.r,aK.dB⟩
def aK.rs:(∀(xs:List aK) (i:Nat),dL.at (xs.map aK.row) i=(xs.getD i aK.zero).r)/\(∀x:aK,(aK.r x).aS=(x.aS.map aa.row))/\(∀x:aK,(aK.r x).bM=(x.bM.map ah.row)):=⟨fun _ _=>aK.dH,aK.qA,aK.vT⟩
def aK.Sm (n:Nat)(x:aK):Prop:=bL n (fun y:aa=>aa.Sm n y) x.aS/\bL n (fun y:ah=>ah.Sm n y) x.bM
def aK.size (x:aK):Nat:=dO (fun y:aa=>aa.size y) x.aS+dO (fun y:ah=>ah.size y) x.bM
def aK.cO {n m:Nat}(hn:n<=m){x:aK}(h:aK.Sm n x):aK.Sm m x:=⟨h.1.mono hn (fun x hx=>aa.cO hn hx),h.2.mono hn (fun x hx=>ah.cO hn hx)⟩
def aK.fZ {n:Nat}{x:aK}(h:x.size<=n):aK.Sm n x:=by
 unfold aK.size at h
 have g0:dO (fun y:aa=>aa.size y) x.aS<=n:=by omega
 have g1:dO (fun y:ah=>ah.size y) x.bM<=n:=by omega
 exact ⟨iM g0 (fun x hx=>aa.fZ hx),iM g1 (fun x hx=>ah.fZ hx)⟩
structure cL where
 bG:aC
 gI:Int
structure av where
 bG:List aK
 gI:Int
def cL.enc (x:cL):List L:=[.sl x.bG,.int x.gI]
def cL.dec (r:List L):cL:=⟨((aA 0 r).headD .hole).aP,((aA 1 r).headD .hole).toInt⟩
instance :RT cL:=⟨cL.enc,cL.dec,2,fun _ _=>rfl,fun _ _=>rfl⟩
def cL.at (xs:aC)(i:Nat):cL:=cL.dec (List.getD xs i [])
def av.r (x:av):cL:=⟨(x.bG.map aK.row),x.gI⟩
def av.row (x:av):List L:=cL.enc x.r
def av.zero:av:=⟨[],0⟩
def av.dB {a b:av}(h:a.r=b.r):a=b:=by
 cases a;cases b
 simp only [av.r,cL.mk.injEq] at h
 obtain ⟨h0,h1⟩:=h
 simp only [av.mk.injEq]
 exact ⟨(map_inj aK.dh h0),h1⟩
def av.dh {a b:av}(h:av.row a=av.row b):a=b:=av.dB (congrArg cL.dec h)
def av.dY {xs:List av}{i:Nat}(h:i<xs.length):cL.at (xs.map av.row) i=(xs[i]).r:=by unfold cL.at;rw [getD_map h];rfl
def av.dH {xs:List av}{i:Nat}:cL.at (xs.map av.row) i=(xs.getD i av.zero).r:=eW (r:=fun x=>av.r x) (fun _=>rfl) rfl
def av.qI (x:av):(av.r x).bG=(x.bG.map aK.row):=Eq.trans rfl rfl
def av.AH (x:av):(av.r x).gI=x.gI:=Eq.trans rfl rfl
instance :Row av:=⟨av.row,av.dh⟩
instance :Im av cL:=⟨av.r,av.dB⟩
def av.rs:(∀(xs:List av) (i:Nat),cL.at (xs.map av.row) i=(xs.getD i av.zero).r)/\(∀x:av,(av.r x).bG=(x.bG.map aK.row))/\(∀x:av,(av.r x).gI=x.gI):=⟨fun _ _=>av.dH,av.qI,av.AH⟩
def av.Sm (n:Nat)(x:av):Prop:=bL n (fun y:aK=>aK.Sm n y) x.bG
def av.size (x:av):Nat:=dO (fun y:aK=>aK.size y) x.bG
def av.cO {n m:Nat}(hn:n<=m){x:av}(h:av.Sm n x):av.Sm m x:=h.mono hn (fun x hx=>aK.cO hn hx)
def av.fZ {n:Nat}{x:av}(h:x.size<=n):av.Sm n x:=by
 unfold av.size at h
 have g0:dO (fun y:aK=>aK.size y) x.bG<=n:=by omega
 exact iM g0 (fun x hx=>aK.fZ hx)
structure eL where
 fName:aB
 bC:Int
def eL.enc (x:eL):List L:=[.str x.fName,.int x.bC]
def eL.dec (r:List L):eL:=⟨((aA 0 r).headD .hole).toStr,((aA 1 r).headD .hole).toInt⟩
instance :RT eL:=⟨eL.enc,eL.dec,2,fun _ _=>rfl,fun _ _=>rfl⟩
def eL.at (xs:aC)(i:Nat):eL:=eL.dec (List.getD xs i [])
def eL.row (x:eL):List L:=eL.enc x
def eL.zero:eL:=⟨⟨#[]⟩,0⟩
def eL.dh {a b:eL}(h:eL.row a=eL.row b):a=b:=congrArg eL.dec h
def eL.dH {xs:List eL}{i:Nat}:eL.at (xs.map eL.row) i=xs.getD i eL.zero:=eW (r:=fun x=>x) (fun _=>rfl) rfl
instance :Row eL:=⟨eL.row,eL.dh⟩
instance :Im eL eL:=⟨fun x=>x,fun h=>h⟩
def eL.rs:(∀(xs:List eL) (i:Nat),eL.at (xs.map eL.row) i=xs.getD i eL.zero):=fun _ _=>eL.dH
structure cZ where
 bX:bu
 cu:Bool
 aV:aU
 jZ:Bool
 kA:aC
structure bT where
 bX:aq
 cu:Bool
 aV:ah
 jZ:Bool
 kA:List Int
def cZ.enc (x:cZ):List L:=[.sl x.bX.aJ,.sl x.bX.bp,.bool x.cu,.str x.aV.bk,.int x.aV.bK,.int x.aV.bW,.sl x.aV.bI,.bool x.jZ,.sl x.kA]
def cZ.dec (r:List L):cZ:=⟨⟨((aA 0 r).headD .hole).aP,((aA 1 r).headD .hole).aP⟩,((aA 2 r).headD .hole).toBool,⟨((aA 3 r).headD .hole).toStr,((aA 4 r).headD .hole).toInt,((aA 5 r).headD .hole).toInt,((aA 6 r).headD .hole).aP⟩,((aA 7 r).headD .hole).toBool,((aA 8 r).headD .hole).aP⟩
instance :RT cZ:=⟨cZ.enc,cZ.dec,9,fun _ _=>rfl,fun _ _=>rfl⟩
def cZ.at (xs:aC)(i:Nat):cZ:=cZ.dec (List.getD xs i [])
def bT.r (x:bT):cZ:=⟨(aq.r x.bX),x.cu,(ah.r x.aV),x.jZ,(x.kA.map bh)⟩
def bT.row (x:bT):List L:=cZ.enc x.r
def bT.zero:bT:=⟨aq.zero,false,ah.zero,false,[]⟩
def bT.dB {a b:bT}(h:a.r=b.r):a=b:=by
 cases a;cases b
 simp only [bT.r,cZ.mk.injEq] at h
 obtain ⟨h0,h1,h2,h3,h4⟩:=h
 simp only [bT.mk.injEq]
 exact ⟨(aq.dB h0),h1,(ah.dB h2),h3,(map_inj lF h4)⟩
def bT.dh {a b:bT}(h:bT.row a=bT.row b):a=b:=bT.dB (congrArg cZ.dec h)
def bT.dH {xs:List bT}{i:Nat}:cZ.at (xs.map bT.row) i=(xs.getD i bT.zero).r:=eW (r:=fun x=>bT.r x) (fun _=>rfl) rfl
def bT.qi (x:bT):(bT.r x).bX=(aq.r x.bX):=Eq.trans rfl rfl
def bT.qo (x:bT):(bT.r x).cu=x.cu:=Eq.trans rfl rfl
def bT.lH (x:bT):(bT.r x).aV=(ah.r x.aV):=Eq.trans rfl rfl
def bT.zw (x:bT):(bT.r x).jZ=x.jZ:=Eq.trans rfl rfl
def bT.yj (x:bT):(bT.r x).kA=(x.kA.map bh):=Eq.trans rfl rfl
instance :Row bT:=⟨bT.row,bT.dh⟩
instance :Im bT cZ:=⟨bT.r,bT.dB⟩
def bT.rs:(∀(xs:List bT) (i:Nat),cZ.at (xs.map bT.row) i=(xs.getD i bT.zero).r)/\(∀x:bT,(bT.r x).bX=(aq.r x.bX))/\(∀x:bT,(bT.r x).cu=x.cu)/\(∀x:bT,(bT.r x).aV=(ah.r x.aV))/\(∀x:bT,(bT.r x).jZ=x.jZ)/\(∀x:bT,(bT.r x).kA=(x.kA.map bh)):=⟨fun _ _=>bT.dH,bT.qi,bT.qo,bT.lH,bT.zw,bT.yj⟩
def bT.Sm (n:Nat)(x:bT):Prop:=aq.Sm n x.bX/\ah.Sm n x.aV/\bL n (fun y:Int=>True) x.kA
structure bF where
 fName:aB
 bC:Int
def bF.enc (x:bF):List L:=[.str x.fName,.int x.bC]
def bF.dec (r:List L):bF:=⟨((aA 0 r).headD .hole).toStr,((aA 1 r).headD .hole).toInt⟩
instance :RT bF:=⟨bF.enc,bF.dec,2,fun _ _=>rfl,fun _ _=>rfl⟩
def bF.at (xs:aC)(i:Nat):bF:=bF.dec (List.getD xs i [])
def bF.row (x:bF):List L:=bF.enc x
def bF.zero:bF:=⟨⟨#[]⟩,0⟩
def bF.dh {a b:bF}(h:bF.row a=bF.row b):a=b:=congrArg bF.dec h
def bF.dY {xs:List bF}{i:Nat}(h:i<xs.length):bF.at (xs.map bF.row) i=xs[i]:=by unfold bF.at;rw [getD_map h];rfl
def bF.dH {xs:List bF}{i:Nat}:bF.at (xs.map bF.row) i=xs.getD i bF.zero:=eW (r:=fun x=>x) (fun _=>rfl) rfl
instance :Row bF:=⟨bF.row,bF.dh⟩
instance :Im bF bF:=⟨fun x=>x,fun h=>h⟩
def bF.rs:(∀(xs:List bF) (i:Nat),bF.at (xs.map bF.row) i=xs.getD i bF.zero):=fun _ _=>bF.dH
def bF.Sm (n:Nat)(x:bF):Prop:=(x.fName).size<=n
def bF.size (x:bF):Nat:=(x.fName).size
def bF.cO {n m:Nat}(hn:n<=m){x:bF}(h:bF.Sm n x):bF.Sm m x:=Nat.le_trans h hn
def bF.fZ {n:Nat}{x:bF}(h:x.size<=n):bF.Sm n x:=by
 unfold bF.size at h
 have g0:(x.fName).size<=n:=by omega
 exact g0
structure bS where
 eA:Int
 bI:aC
structure aM where
 eA:Int
 bI:List Int
def bS.enc (x:bS):List L:=[.int x.eA,.sl x.bI]
def bS.dec (r:List L):bS:=⟨((aA 0 r).headD .hole).toInt,((aA 1 r).headD .hole).aP⟩
instance :RT bS:=⟨bS.enc,bS.dec,2,fun _ _=>rfl,fun _ _=>rfl⟩
def bS.at (xs:aC)(i:Nat):bS:=bS.dec (List.getD xs i [])
def aM.r (x:aM):bS:=⟨x.eA,(x.bI.map bh)⟩
def aM.row (x:aM):List L:=bS.enc x.r
def aM.zero:aM:=⟨0,[]⟩
def aM.dB {a b:aM}(h:a.r=b.r):a=b:=by
 cases a;cases b
 simp only [aM.r,bS.mk.injEq] at h
 obtain ⟨h0,h1⟩:=h
 simp only [aM.mk.injEq]
 exact ⟨h0,(map_inj lF h1)⟩
def aM.dh {a b:aM}(h:aM.row a=aM.row b):a=b:=aM.dB (congrArg bS.dec h)
def aM.dH {xs:List aM}{i:Nat}:bS.at (xs.map aM.row) i=(xs.getD i aM.zero).r:=eW (r:=fun x=>aM.r x) (fun _=>rfl) rfl
def aM.yR (x:aM):(aM.r x).eA=x.eA:=Eq.trans rfl rfl
def aM.tA (x:aM):(aM.r x).bI=(x.bI.map bh):=Eq.trans rfl rfl
instance :Row aM:=⟨aM.row,aM.dh⟩
instance :Im aM bS:=⟨aM.r,aM.dB⟩
def aM.rs:(∀(xs:List aM) (i:Nat),bS.at (xs.map aM.row) i=(xs.getD i aM.zero).r)/\(∀x:aM,(aM.r x).eA=x.eA)/\(∀x:aM,(aM.r x).bI=(x.bI.map bh)):=⟨fun _ _=>aM.dH,aM.yR,aM.tA⟩
def aM.Sm (n:Nat)(x:aM):Prop:=bL n (fun y:Int=>True) x.bI
def aM.size (x:aM):Nat:=dO (fun y:Int=>0) x.bI
structure dM where
 eA:Int
 aQ:aU
 cJ:aU
 eC:bS
 cX:bS
structure bU where
 eA:Int
 aQ:ah
 cJ:ah
 eC:aM
 cX:aM
def dM.enc (x:dM):List L:=[.int x.eA,.str x.aQ.bk,.int x.aQ.bK,.int x.aQ.bW,.sl x.aQ.bI,.str x.cJ.bk,.int x.cJ.bK,.int x.cJ.bW,.sl x.cJ.bI,.int x.eC.eA,.sl x.eC.bI,.int x.cX.eA,.sl x.cX.bI]
def dM.dec (r:List L):dM:=⟨((aA 0 r).headD .hole).toInt,⟨((aA 1 r).headD .hole).toStr,((aA 2 r).headD .hole).toInt,((aA 3 r).headD .hole).toInt,((aA 4 r).headD .hole).aP⟩,⟨((aA 5 r).headD .hole).toStr,((aA 6 r).headD .hole).toInt,((aA 7 r).headD .hole).toInt,((aA 8 r).headD .hole).aP⟩,⟨((aA 9 r).headD .hole).toInt,((aA 10 r).headD .hole).aP⟩,⟨((aA 11 r).headD .hole).toInt,((aA 12 r).headD .hole).aP⟩⟩
instance :RT dM:=⟨dM.enc,dM.dec,13,fun _ _=>rfl,fun _ _=>rfl⟩
def dM.at (xs:aC)(i:Nat):dM:=dM.dec (List.getD xs i [])
def bU.r (x:bU):dM:=⟨x.eA,(ah.r x.aQ),(ah.r x.cJ),(aM.r x.eC),(aM.r x.cX)⟩
def bU.row (x:bU):List L:=dM.enc x.r
def bU.zero:bU:=⟨0,ah.zero,ah.zero,aM.zero,aM.zero⟩
def bU.dB {a b:bU}(h:a.r=b.r):a=b:=by
 cases a;cases b
 simp only [bU.r,dM.mk.injEq] at h
 obtain ⟨h0,h1,h2,h3,h4⟩:=h
 simp only [bU.mk.injEq]
 exact ⟨h0,(ah.dB h1),(ah.dB h2),(aM.dB h3),(aM.dB h4)⟩
def bU.dh {a b:bU}(h:bU.row a=bU.row b):a=b:=bU.dB (congrArg dM.dec h)
def bU.dH {xs:List bU}{i:Nat}:dM.at (xs.map bU.row) i=(xs.getD i bU.zero).r:=eW (r:=fun x=>bU.r x) (fun _=>rfl) rfl
def bU.yR (x:bU):(bU.r x).eA=x.eA:=Eq.trans rfl rfl
def bU.ou (x:bU):(bU.r x).aQ=(ah.r x.aQ):=Eq.trans rfl rfl
def bU.xI (x:bU):(bU.r x).cJ=(ah.r x.cJ):=Eq.trans rfl rfl
def bU.zg (x:bU):(bU.r x).eC=(aM.r x.eC):=Eq.trans rfl rfl
def bU.yJ (x:bU):(bU.r x).cX=(aM.r x.cX):=Eq.trans rfl rfl
instance :Row bU:=⟨bU.row,bU.dh⟩
instance :Im bU dM:=⟨bU.r,bU.dB⟩
def bU.rs:(∀(xs:List bU) (i:Nat),dM.at (xs.map bU.row) i=(xs.getD i bU.zero).r)/\(∀x:bU,(bU.r x).eA=x.eA)/\(∀x:bU,(bU.r x).aQ=(ah.r x.aQ))/\(∀x:bU,(bU.r x).cJ=(ah.r x.cJ))/\(∀x:bU,(bU.r x).eC=(aM.r x.eC))/\(∀x:bU,(bU.r x).cX=(aM.r x.cX)):=⟨fun _ _=>bU.dH,bU.yR,bU.ou,bU.xI,bU.zg,bU.yJ⟩
def bU.Sm (n:Nat)(x:bU):Prop:=ah.Sm n x.aQ/\ah.Sm n x.cJ/\aM.Sm n x.eC/\aM.Sm n x.cX
def bU.size (x:bU):Nat:=ah.size x.aQ+ah.size x.cJ+aM.size x.eC+aM.size x.cX
structure bg where
 aS:aC
 cu:Bool
 aV:aU
 eD:bS
 fV:dM
structure ay where
 aS:List aa
 cu:Bool
 aV:ah
 eD:aM
 fV:bU
def bg.enc (x:bg):List L:=[.sl x.aS,.bool x.cu,.str x.aV.bk,.int x.aV.bK,.int x.aV.bW,.sl x.aV.bI,.int x.eD.eA,.sl x.eD.bI,.int x.fV.eA,.str x.fV.aQ.bk,.int x.fV.aQ.bK,.int x.fV.aQ.bW,.sl x.fV.aQ.bI,.str x.fV.cJ.bk,.int x.fV.cJ.bK,.int x.fV.cJ.bW,.sl x.fV.cJ.bI,.int x.fV.eC.eA,.sl x.fV.eC.bI,.int x.fV.cX.eA,.sl x.fV.cX.bI]
def bg.dec (r:List L):bg:=⟨((aA 0 r).headD .hole).aP,((aA 1 r).headD .hole).toBool,⟨((aA 2 r).headD .hole).toStr,((aA 3 r).headD .hole).toInt,((aA 4 r).headD .hole).toInt,((aA 5 r).headD .hole).aP⟩,⟨((aA 6 r).headD .hole).toInt,((aA 7 r).headD .hole).aP⟩,⟨((aA 8 r).headD .hole).toInt,⟨((aA 9 r).headD .hole).toStr,((aA 10 r).headD .hole).toInt,((aA 11 r).headD .hole).toInt,((aA 12 r).headD .hole).aP⟩,⟨((aA 13 r).headD .hole).toStr,((aA 14 r).headD .hole).toInt,((aA 15 r).headD .hole).toInt,((aA 16 r).headD .hole).aP⟩,⟨((aA 17 r).headD .hole).toInt,((aA 18 r).headD .hole).aP⟩,⟨((aA 19 r).headD .hole).toInt,((aA 20 r).headD .hole).aP⟩⟩⟩
instance :RT bg:=⟨bg.enc,bg.dec,21,fun _ _=>rfl,fun _ _=>rfl⟩
def bg.at (xs:aC)(i:Nat):bg:=bg.dec (List.getD xs i [])
def ay.r (x:ay):bg:=⟨(x.aS.map aa.row),x.cu,(ah.r x.aV),(aM.r x.eD),(bU.r x.fV)⟩
def ay.row (x:ay):List L:=bg.enc x.r
def ay.zero:ay:=⟨[],false,ah.zero,aM.zero,bU.zero⟩
def ay.dB {a b:ay}(h:a.r=b.r):a=b:=by
 cases a;cases b
 simp only [ay.r,bg.mk.injEq] at h
 obtain ⟨h0,h1,h2,h3,h4⟩:=h
 simp only [ay.mk.injEq]
 exact ⟨(map_inj aa.dh h0),h1,(ah.dB h2),(aM.dB h3),(bU.dB h4)⟩
def ay.dh {a b:ay}(h:ay.row a=ay.row b):a=b:=ay.dB (congrArg bg.dec h)
def ay.dH {xs:List ay}{i:Nat}:bg.at (xs.map ay.row) i=(xs.getD i ay.zero).r:=eW (r:=fun x=>ay.r x) (fun _=>rfl) rfl
def ay.qA (x:ay):(ay.r x).aS=(x.aS.map aa.row):=Eq.trans rfl rfl
def ay.qo (x:ay):(ay.r x).cu=x.cu:=Eq.trans rfl rfl
def ay.lH (x:ay):(ay.r x).aV=(ah.r x.aV):=Eq.trans rfl rfl
def ay.xU (x:ay):(ay.r x).eD=(aM.r x.eD):=Eq.trans rfl rfl
def ay.AE (x:ay):(ay.r x).fV=(bU.r x.fV):=Eq.trans rfl rfl
instance :Row ay:=⟨ay.row,ay.dh⟩
instance :Im ay bg:=⟨ay.r,ay.dB⟩
def ay.rs:(∀(xs:List ay) (i:Nat),bg.at (xs.map ay.row) i=(xs.getD i ay.zero).r)/\(∀x:ay,(ay.r x).aS=(x.aS.map aa.row))/\(∀x:ay,(ay.r x).cu=x.cu)/\(∀x:ay,(ay.r x).aV=(ah.r x.aV))/\(∀x:ay,(ay.r x).eD=(aM.r x.eD))/\(∀x:ay,(ay.r x).fV=(bU.r x.fV)):=⟨fun _ _=>ay.dH,ay.qA,ay.qo,ay.lH,ay.xU,ay.AE⟩
def ay.Sm (n:Nat)(x:ay):Prop:=bL n (fun y:aa=>aa.Sm n y) x.aS/\ah.Sm n x.aV/\aM.Sm n x.eD/\bU.Sm n x.fV
def ay.size (x:ay):Nat:=dO (fun y:aa=>aa.size y) x.aS+ah.size x.aV+aM.size x.eD+bU.size x.fV
def SS:=And.intro (And.intro S0 MM) (And.intro aO.rs (And.intro aF.rs (And.intro bn.rs (And.intro aa.rs (And.intro az.rs (And.intro aq.rs (And.intro ah.rs (And.intro bA.rs (And.intro aK.rs (And.intro av.rs (And.intro eL.rs (And.intro bT.rs (And.intro bF.rs (And.intro aM.rs (And.intro bU.rs (And.intro ay.rs trivial))))))))))))))))
def fz {p:Prop}(h:p:=by first | rfl | (simp only [SS];done) | (simp only [MP];rfl) | (simp only [SS,MP];first | done | rfl) | (simp only [aO.r,aF.r,aa.r,az.r,aq.r,ah.r,bA.r,aK.r,av.r,bT.r,aM.r,bU.r,ay.r,SS,MP];first | done | rfl) | (simp only [SS,MP,List.length_take,List.length_drop];first | done | rfl)):p:=h
def rq {p q:Prop}(h:p)(k:p->q:=by intro R_;first | exact R_ | (simp only [MP,SS] at R_ ⊢;first | exact R_ | (rw [<-R_];rfl))):q:=k h
end Go.DM

end
