/- What the functions compute that the law reaches, and that the law returns true. Conditions: none. -/
import Derived.Test.YtgagkddebgbdmaaGreatCanResolveTy
import Derived.Test.YtgagkddebgbdmaaGreatCanResolveFnC
set_option linter.all false
set_option maxRecDepth 100000
noncomputable section
namespace Go.DM
open Go.Proofs
open Go.IntKind (i64)
open Int (toNat)
open Nat (le_trans zero_le)
namespace Z288
def F (x0:bt)(x1:bR)(x2:Int)(x3:aF)(x4:Int):aH:=(call (Z9.R (x0,1048576)) fun v1=>(cond (decide (v1<0)) eG (call (Z17.R (x1,v1)) fun v2=>(cond (decide (v2<0)) eG (call (Z10.R (x3,v2)) fun v3=>(cond (decide (v3<0)) eG (call (Z28.R x0) fun v4=>(call (Z36.R x1) fun v5=>(call (Z29.R x3) fun v6=>(call (Z132.R (v4,v5,x2,v6,x4)) fun v7=>(call (Z28.R x0) fun v8=>(call (Z36.R x1) fun v9=>(call (Z29.R x3) fun v10=>(call (Z268.R (v8,v9,x2,v10,x4)) fun v11=>(cond (!(v11==v7)) bf (call (Z28.R x0) fun v12=>(call (Z279.R (v8,v12)) fun v13=>(cond (!v13) bf (call (Z36.R x1) fun v14=>(call (Z287.R (v9,v14)) fun v15=>(cond (!v15) bf (call (Z29.R x3) fun v16=>(call (Z280.R (v10,v16)) fun v17=>(cond (!v17) bf eG))))))))))))))))))))))))
def md (a0:an)(a1:aG)(a2:Int)(a3:List aA)(a4:Int):Bool:=true
def gd (a0:an)(a1:aG)(a2:Int)(a3:List aA)(a4:Int):Prop:=(an.Sm maxLen a0)/\(aG.Sm maxLen a1)/\(bI maxLen (fun y:aA=>y.size<=maxLen) a3)
def R:=RR (p5 gd) (u5 md)
def ak {a0 a1 a2 a3 a4}(h:gd a0 a1 a2 a3 a4):R ((an.r a0),(aG.r a1),a2,(a3.map cL),a4)=some (md a0 a1 a2 a3 a4):=aM (a:=(a0,a1,a2,a3,a4)) h
def aV:=CN [.agg BG,.agg BH,pI,pL 9,pI] oB RT.dec R
def bp (a0)(a1)(a2)(a3)(a4)(hg:gd a0 a1 a2 a3 a4):F (an.r a0) (aG.r a1) a2 (a3.map cL) a4=ret (md a0 a1 a2 a3 a4):=by
 unfold md
 show (call (Z9.R ((an.r a0),1048576)) fun v1=>(bif (decide (v1<0)) then eG else (call (Z17.R ((aG.r a1),v1)) fun v2=>(bif (decide (v2<0)) then eG else (call (Z10.R ((a3.map cL),v2)) fun v3=>(bif (decide (v3<0)) then eG else (call (Z28.R (an.r a0)) fun v4=>(call (Z36.R (aG.r a1)) fun v5=>(call (Z29.R (a3.map cL)) fun v6=>(call (Z132.R (v4,v5,a2,v6,a4)) fun v7=>(call (Z28.R (an.r a0)) fun v8=>(call (Z36.R (aG.r a1)) fun v9=>(call (Z29.R (a3.map cL)) fun v10=>(call (Z268.R (v8,v9,a2,v10,a4)) fun v11=>(bif (!(v11==v7)) then bf else (call (Z28.R (an.r a0)) fun v12=>(call (Z279.R (v8,v12)) fun v13=>(bif (!v13) then bf else (call (Z36.R (aG.r a1)) fun v14=>(call (Z287.R (v9,v14)) fun v15=>(bif (!v15) then bf else (call (Z29.R (a3.map cL)) fun v16=>(call (Z280.R (v10,v16)) fun v17=>(cond (!v17) bf eG))))))))))))))))))))))))=_
 rw [call_eq (Z9.ak (a1:=(1048576:Int)) ⟨hg.1,by omega,by omega⟩)]
 unfold Z9.md
 by_cases c0:(1048576:Int)<(((an.size a0):Nat):Int)
 ·rw [bZ c0];rfl
 rw [cJ c0,dQ (by omega)]
 simp only [bh]
 have s0:an.Sm (2^20) a0:=(an.eY (by omega))
 rw [call_eq (Z17.ak (a1:=(1048576 - (((an.size a0):Nat):Int):Int)) ⟨hg.2.1,by omega,by omega⟩)]
 unfold Z17.md
 by_cases c1:(1048576 - (((an.size a0):Nat):Int):Int)<(((aG.size a1):Nat):Int)
 ·rw [bZ c1];rfl
 rw [cJ c1,dQ (by omega)]
 simp only [bh]
 have s1:aG.Sm (2^20) a1:=(aG.eY (by omega))
 rw [call_eq (Z10.ak (a1:=(1048576 - (((an.size a0):Nat):Int) - (((aG.size a1):Nat):Int):Int)) ⟨hg.2.2,by omega,by omega⟩)]
 unfold Z10.md
 by_cases c3:(1048576 - (((an.size a0):Nat):Int) - (((aG.size a1):Nat):Int):Int)<(((fc (fun y:aA=>y.size) a3):Nat):Int)
 ·rw [bZ c3];rfl
 rw [cJ c3,dQ (by omega)]
 simp only [bh]
 have s3:bI (2^20) (fun y:aA=>y.size<=(2^20)) a3:=(jR (f:=fun y:aA=>y.size) (by omega) (fun x hx=>hx))
 rw [call_eq (Z28.ak (a0:=a0) (an.cM (by decide) s0))]
 try simp only [Z28.md]
 rw [call_eq (Z36.ak (a0:=a1) (aG.cM (by decide) s1))]
 try simp only [Z36.md]
 rw [call_eq (Z29.ak (a0:=a3) (s3.mono (by decide) (fun x hx=>(le_trans hx (by decide)))))]
 try simp only [Z29.md]
 rw [call_eq (Z132.ak (a0:=a0) (a1:=a1) (a2:=a2) (a3:=a3) (a4:=a4) (by
  have:=And.intro trivial trivial
  unfold Z132.gd
  first | exact (an.cM (by decide) s0) | refine ⟨(an.cM (by decide) s0),(aG.cM (by decide) s1),(s3.mono (by decide) (fun x hx=>(le_trans hx (by decide))))⟩))]
 rw [call_eq (Z28.ak (a0:=a0) (an.cM (by decide) s0))]
 try simp only [Z28.md]
 rw [call_eq (Z36.ak (a0:=a1) (aG.cM (by decide) s1))]
 try simp only [Z36.md]
 rw [call_eq (Z29.ak (a0:=a3) (s3.mono (by decide) (fun x hx=>(le_trans hx (by decide)))))]
 try simp only [Z29.md]
 rw [call_eq (Z268.ak (a0:=a0) (a1:=a1) (a2:=a2) (a3:=a3) (a4:=a4) (by
  have:=And.intro trivial trivial
  unfold Z268.gd
  first | exact (an.cM (by decide) s0) | refine ⟨(an.cM (by decide) s0),(aG.cM (by decide) s1),(s3.mono (by decide) (fun x hx=>(le_trans hx (by decide))))⟩))]
 try simp only [Z268.br,bne_self_eq_false,beq_self_eq_true,Ai,Bool.not_true,bh]
 rw [call_eq (Z28.ak (a0:=a0) (an.cM (by decide) s0))]
 try simp only [Z28.md]
 rw [call_eq (Z279.ak (a0:=a0) (a1:=a0) trivial)]
 simp only [Z279.md,iB,Bool.not_true,bh]
 rw [call_eq (Z36.ak (a0:=a1) (aG.cM (by decide) s1))]
 try simp only [Z36.md]
 rw [call_eq (Z287.ak (a0:=a1) (a1:=a1) trivial)]
 simp only [Z287.md,iB,Bool.not_true,bh]
 rw [call_eq (Z29.ak (a0:=a3) (s3.mono (by decide) (fun x hx=>(le_trans hx (by decide)))))]
 try simp only [Z29.md]
 rw [call_eq (Z280.ak (a0:=a3) (a1:=a3) trivial)]
 simp only [Z280.md,iB,Bool.not_true,bh]
def af:cq 7 aV:=W5 71 F mix aD bp (.cons Z9.af (.cons Z17.af (.cons Z10.af (.cons Z28.af (.cons Z36.af (.cons Z29.af (.cons Z132.af (.cons Z268.af (.cons Z279.af (.cons Z287.af (.cons Z280.af .nil))))))))))) Tryz.func7
def kY (r:List L)(h:dK Ev.cells [.sl 3,au] r):∃x:aL,aL.row x=r/\aL.Sm maxLen x:=by
 obtain ⟨l0,t0,rfl,g0,h1⟩:=h.dY
 obtain ⟨x0,rfl,s0⟩:=iA (show Ev.cells 3=[au] from by kernel_rfl) wM g0
 obtain ⟨l1,t1,rfl,g1,h2⟩:=h1.dY
 obtain ⟨x1,rfl⟩:=fQ g1
 obtain rfl:=h2.iN
 exact ⟨⟨x0,x1⟩,rfl,s0⟩
def vw (r:List L)(h:dK Ev.cells [au,au,au,au,au,au,au,au,.sl 3,au,.sl 3,au,au,.sl 3,au,.bool] r):∃x:aE,aE.row x=r/\aE.Sm maxLen x:=by
 obtain ⟨l0,t0,rfl,g0,h1⟩:=h.dY
 obtain ⟨x0,rfl⟩:=fQ g0
 obtain ⟨l1,t1,rfl,g1,h2⟩:=h1.dY
 obtain ⟨x1,rfl⟩:=fQ g1
 obtain ⟨l2,t2,rfl,g2,h3⟩:=h2.dY
 obtain ⟨x2,rfl⟩:=fQ g2
 obtain ⟨l3,t3,rfl,g3,h4⟩:=h3.dY
 obtain ⟨x3,rfl⟩:=fQ g3
 obtain ⟨l4,t4,rfl,g4,h5⟩:=h4.dY
 obtain ⟨x4,rfl⟩:=fQ g4
 obtain ⟨l5,t5,rfl,g5,h6⟩:=h5.dY
 obtain ⟨x5,rfl⟩:=fQ g5
 obtain ⟨l6,t6,rfl,g6,h7⟩:=h6.dY
 obtain ⟨x6,rfl⟩:=fQ g6
 obtain ⟨l7,t7,rfl,g7,h8⟩:=h7.dY
 obtain ⟨x7,rfl⟩:=fQ g7
 obtain ⟨r8,t8,rfl,g8,h9⟩:=dK.iq (a:=[.sl 3,au]) (b:=[.sl 3,au,au,.sl 3,au,.bool]) h8
 obtain ⟨x8,rfl,s8⟩:=kY _ g8
 obtain ⟨r9,t9,rfl,g9,h10⟩:=dK.iq (a:=[.sl 3,au]) (b:=[au,.sl 3,au,.bool]) h9
 obtain ⟨x9,rfl,s9⟩:=kY _ g9
 obtain ⟨l10,t10,rfl,g10,h11⟩:=h10.dY
 obtain ⟨x10,rfl⟩:=fQ g10
 obtain ⟨r11,t11,rfl,g11,h12⟩:=dK.iq (a:=[.sl 3,au]) (b:=[.bool]) h11
 obtain ⟨x11,rfl,s11⟩:=kY _ g11
 obtain ⟨l12,t12,rfl,g12,h13⟩:=h12.dY
 obtain ⟨x12,rfl⟩:=wO g12
 obtain rfl:=h13.iN
 exact ⟨⟨x0,x1,x2,x3,x4,x5,x6,x7,x8,x9,x10,x11,x12⟩,rfl,⟨s8,s9,s11⟩⟩
def wj (r:List L)(h:dK Ev.cells [au,au] r):∃x:bz,bz.row x=r/\bz.Sm maxLen x:=by
 obtain ⟨l0,t0,rfl,g0,h1⟩:=h.dY
 obtain ⟨x0,rfl⟩:=fQ g0
 obtain ⟨l1,t1,rfl,g1,h2⟩:=h1.dY
 obtain ⟨x1,rfl⟩:=fQ g1
 obtain rfl:=h2.iN
 exact ⟨⟨x0,x1⟩,rfl,trivial⟩
def gH (r:List L)(h:dK Ev.cells [au,au,au,au,au,au,au,au,.sl 3,au,.sl 3,au,au,.sl 3,au,.bool,.sl 315] r):∃x:aa,aa.row x=r/\aa.Sm maxLen x:=by
 obtain ⟨r0,t0,rfl,g0,h1⟩:=dK.iq (a:=[au,au,au,au,au,au,au,au,.sl 3,au,.sl 3,au,au,.sl 3,au,.bool]) (b:=[.sl 315]) h
 obtain ⟨x0,rfl,s0⟩:=vw _ g0
 obtain ⟨l1,t1,rfl,g1,h2⟩:=h1.dY
 obtain ⟨x1,rfl,s1⟩:=iA (show Ev.cells 315=[au,au] from by kernel_rfl) wj g1
 obtain rfl:=h2.iN
 exact ⟨⟨x0,x1⟩,rfl,⟨s0,s1⟩⟩
def vn (r:List L)(h:dK Ev.cells [au,au,au,au,au,au,au,au,.sl 3,au,.sl 3,au,au,.sl 3,au,.bool,.sl 315,au,au,au,au,au,au,au,au,.sl 3,au,.sl 3,au,au,.sl 3,au,.bool,.sl 315,au,au,au,au,au,au,au,au,.sl 3,au,.sl 3,au,au,.sl 3,au,.bool,.sl 315] r):∃x:aI,aI.row x=r/\aI.Sm maxLen x:=by
 obtain ⟨r0,t0,rfl,g0,h1⟩:=dK.iq (a:=[au,au,au,au,au,au,au,au,.sl 3,au,.sl 3,au,au,.sl 3,au,.bool,.sl 315]) (b:=[au,au,au,au,au,au,au,au,.sl 3,au,.sl 3,au,au,.sl 3,au,.bool,.sl 315,au,au,au,au,au,au,au,au,.sl 3,au,.sl 3,au,au,.sl 3,au,.bool,.sl 315]) h
 obtain ⟨x0,rfl,s0⟩:=gH _ g0
 obtain ⟨r1,t1,rfl,g1,h2⟩:=dK.iq (a:=[au,au,au,au,au,au,au,au,.sl 3,au,.sl 3,au,au,.sl 3,au,.bool,.sl 315]) (b:=[au,au,au,au,au,au,au,au,.sl 3,au,.sl 3,au,au,.sl 3,au,.bool,.sl 315]) h1
 obtain ⟨x1,rfl,s1⟩:=gH _ g1
 obtain ⟨r2,t2,rfl,g2,h3⟩:=dK.iq (a:=[au,au,au,au,au,au,au,au,.sl 3,au,.sl 3,au,au,.sl 3,au,.bool,.sl 315]) (b:=[]) h2
 obtain ⟨x2,rfl,s2⟩:=gH _ g2
 obtain rfl:=h3.iN
 exact ⟨⟨x0,x1,x2⟩,rfl,⟨s0,s1,s2⟩⟩
def uk (r:List L)(h:dK Ev.cells [.sl 152,.sl 162] r):∃x:an,an.row x=r/\an.Sm maxLen x:=by
 obtain ⟨l0,t0,rfl,g0,h1⟩:=h.dY
 obtain ⟨x0,rfl,s0⟩:=iA (show Ev.cells 152=[.sl 160] from by kernel_rfl) (zx (show Ev.cells 160=[au,au,au,au,au,au,au,au,.sl 3,au,.sl 3,au,au,.sl 3,au,.bool,.sl 315] from by kernel_rfl) gH) g0
 obtain ⟨l1,t1,rfl,g1,h2⟩:=h1.dY
 obtain ⟨x1,rfl,s1⟩:=iA (show Ev.cells 162=[au,au,au,au,au,au,au,au,.sl 3,au,.sl 3,au,au,.sl 3,au,.bool,.sl 315,au,au,au,au,au,au,au,au,.sl 3,au,.sl 3,au,au,.sl 3,au,.bool,.sl 315,au,au,au,au,au,au,au,au,.sl 3,au,.sl 3,au,au,.sl 3,au,.bool,.sl 315] from by kernel_rfl) vn g1
 obtain rfl:=h2.iN
 exact ⟨⟨x0,x1⟩,rfl,⟨s0,s1⟩⟩
def kI (r:List L)(h:dK Ev.cells [.str,au,au,.sl 9] r):∃x:ah,ah.row x=r/\ah.Sm maxLen x:=by
 obtain ⟨l0,t0,rfl,g0,h1⟩:=h.dY
 obtain ⟨x0,rfl,s0⟩:=we g0
 obtain ⟨l1,t1,rfl,g1,h2⟩:=h1.dY
 obtain ⟨x1,rfl⟩:=fQ g1
 obtain ⟨l2,t2,rfl,g2,h3⟩:=h2.dY
 obtain ⟨x2,rfl⟩:=fQ g2
 obtain ⟨l3,t3,rfl,g3,h4⟩:=h3.dY
 obtain ⟨x3,rfl,s3⟩:=iA (show Ev.cells 9=[.str] from by kernel_rfl) wE g3
 obtain rfl:=h4.iN
 exact ⟨⟨x0,x1,x2,x3⟩,rfl,⟨s0,s3⟩⟩
def kK (r:List L)(h:dK Ev.cells [au,.sl 3] r):∃x:aB,aB.row x=r/\aB.Sm maxLen x:=by
 obtain ⟨l0,t0,rfl,g0,h1⟩:=h.dY
 obtain ⟨x0,rfl⟩:=fQ g0
 obtain ⟨l1,t1,rfl,g1,h2⟩:=h1.dY
 obtain ⟨x1,rfl,s1⟩:=iA (show Ev.cells 3=[au] from by kernel_rfl) wM g1
 obtain rfl:=h2.iN
 exact ⟨⟨x0,x1⟩,rfl,s1⟩
def vJ (r:List L)(h:dK Ev.cells [au,.str,au,au,.sl 9,.str,au,au,.sl 9,au,.sl 3,au,.sl 3] r):∃x:bG,bG.row x=r/\bG.Sm maxLen x:=by
 obtain ⟨l0,t0,rfl,g0,h1⟩:=h.dY
 obtain ⟨x0,rfl⟩:=fQ g0
 obtain ⟨r1,t1,rfl,g1,h2⟩:=dK.iq (a:=[.str,au,au,.sl 9]) (b:=[.str,au,au,.sl 9,au,.sl 3,au,.sl 3]) h1
 obtain ⟨x1,rfl,s1⟩:=kI _ g1
 obtain ⟨r2,t2,rfl,g2,h3⟩:=dK.iq (a:=[.str,au,au,.sl 9]) (b:=[au,.sl 3,au,.sl 3]) h2
 obtain ⟨x2,rfl,s2⟩:=kI _ g2
 obtain ⟨r3,t3,rfl,g3,h4⟩:=dK.iq (a:=[au,.sl 3]) (b:=[au,.sl 3]) h3
 obtain ⟨x3,rfl,s3⟩:=kK _ g3
 obtain ⟨r4,t4,rfl,g4,h5⟩:=dK.iq (a:=[au,.sl 3]) (b:=[]) h4
 obtain ⟨x4,rfl,s4⟩:=kK _ g4
 obtain rfl:=h5.iN
 exact ⟨⟨x0,x1,x2,x3,x4⟩,rfl,⟨s1,s2,s3,s4⟩⟩
def rM (r:List L)(h:dK Ev.cells [.sl 160,.bool,.str,au,au,.sl 9,au,.sl 3,au,.str,au,au,.sl 9,.str,au,au,.sl 9,au,.sl 3,au,.sl 3] r):∃x:aj,aj.row x=r/\aj.Sm maxLen x:=by
 obtain ⟨l0,t0,rfl,g0,h1⟩:=h.dY
 obtain ⟨x0,rfl,s0⟩:=iA (show Ev.cells 160=[au,au,au,au,au,au,au,au,.sl 3,au,.sl 3,au,au,.sl 3,au,.bool,.sl 315] from by kernel_rfl) gH g0
 obtain ⟨l1,t1,rfl,g1,h2⟩:=h1.dY
 obtain ⟨x1,rfl⟩:=wO g1
 obtain ⟨r2,t2,rfl,g2,h3⟩:=dK.iq (a:=[.str,au,au,.sl 9]) (b:=[au,.sl 3,au,.str,au,au,.sl 9,.str,au,au,.sl 9,au,.sl 3,au,.sl 3]) h2
 obtain ⟨x2,rfl,s2⟩:=kI _ g2
 obtain ⟨r3,t3,rfl,g3,h4⟩:=dK.iq (a:=[au,.sl 3]) (b:=[au,.str,au,au,.sl 9,.str,au,au,.sl 9,au,.sl 3,au,.sl 3]) h3
 obtain ⟨x3,rfl,s3⟩:=kK _ g3
 obtain ⟨r4,t4,rfl,g4,h5⟩:=dK.iq (a:=[au,.str,au,au,.sl 9,.str,au,au,.sl 9,au,.sl 3,au,.sl 3]) (b:=[]) h4
 obtain ⟨x4,rfl,s4⟩:=vJ _ g4
 obtain rfl:=h5.iN
 exact ⟨⟨x0,x1,x2,x3,x4⟩,rfl,⟨s0,s2,s3,s4⟩⟩
def rL (r:List L)(h:dK Ev.cells [au,.str,.sl 160,.bool,.str,au,au,.sl 9,au,.sl 3,au,.str,au,au,.sl 9,.str,au,au,.sl 9,au,.sl 3,au,.sl 3] r):∃x:aC,aC.row x=r/\aC.Sm maxLen x:=by
 obtain ⟨l0,t0,rfl,g0,h1⟩:=h.dY
 obtain ⟨x0,rfl⟩:=fQ g0
 obtain ⟨l1,t1,rfl,g1,h2⟩:=h1.dY
 obtain ⟨x1,rfl,s1⟩:=we g1
 obtain ⟨r2,t2,rfl,g2,h3⟩:=dK.iq (a:=[.sl 160,.bool,.str,au,au,.sl 9,au,.sl 3,au,.str,au,au,.sl 9,.str,au,au,.sl 9,au,.sl 3,au,.sl 3]) (b:=[]) h2
 obtain ⟨x2,rfl,s2⟩:=rM _ g2
 obtain rfl:=h3.iN
 exact ⟨⟨x0,x1,x2⟩,rfl,⟨s1,s2⟩⟩
def uP (r:List L)(h:dK Ev.cells [.sl 171] r):∃x:aG,aG.row x=r/\aG.Sm maxLen x:=by
 obtain ⟨l0,t0,rfl,g0,h1⟩:=h.dY
 obtain ⟨x0,rfl,s0⟩:=iA (show Ev.cells 171=[au,.str,.sl 160,.bool,.str,au,au,.sl 9,au,.sl 3,au,.str,au,au,.sl 9,.str,au,au,.sl 9,au,.sl 3,au,.sl 3] from by kernel_rfl) rL g0
 obtain rfl:=h1.iN
 exact ⟨⟨x0⟩,rfl,s0⟩
def holds (ls:List L)(h:dK Ev.cells ([25,28,3,29,3].flatMap Ev.cells) ls):aV.sem ls=some [.bool true]:=by
 have hk:[25,28,3,29,3].flatMap Ev.cells=[.sl 152,.sl 162,.sl 171,au,.sl 9,au]:=by kernel_rfl
 rw [hk] at h
 obtain ⟨r0,t0,rfl,g0,h1⟩:=dK.iq (a:=[.sl 152,.sl 162]) (b:=[.sl 171,au,.sl 9,au]) h
 obtain ⟨x0,rfl,s0⟩:=uk _ g0
 obtain ⟨r1,t1,rfl,g1,h2⟩:=dK.iq (a:=[.sl 171]) (b:=[au,.sl 9,au]) h1
 obtain ⟨x1,rfl,s1⟩:=uP _ g1
 obtain ⟨l2,t2,rfl,g2,h3⟩:=h2.dY
 obtain ⟨x2,rfl⟩:=fQ g2
 obtain ⟨l3,t3,rfl,g3,h4⟩:=h3.dY
 obtain ⟨x3,rfl,s3⟩:=iA (show Ev.cells 9=[.str] from by kernel_rfl) wE g3
 obtain ⟨l4,t4,rfl,g4,h5⟩:=h4.dY
 obtain ⟨x4,rfl⟩:=fQ g4
 obtain rfl:=h5.iN
 show (R ((an.r x0),(aG.r x1),x2,(x3.map cL),x4)).map RT.enc=_
 rw [ak ⟨s0,s1,s3⟩]
 rfl
end Z288
end Go.DM
end
