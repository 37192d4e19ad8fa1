/- What the functions compute that the law reaches, and that the law returns true. Conditions: none. -/
import Derived.Test.YtgagkddebgbdmaaGreatResolveFromTy
import Derived.Test.YtgagkddebgbdmaaGreatResolveFromFnC
set_option linter.all false
set_option maxRecDepth 100000
noncomputable section
namespace Go.DM
open Go.Proofs
open Go.IntKind (i64)
open Int (toNat)
open Nat (le_trans zero_le)
namespace Z312
set_option maxHeartbeats 8000000
inductive Pt where
 | p0 (a b:Int) (c:aB)
def pid:Pt->Nat
 | .p0 ..=>2
def cu:Pt->List V
 | .p0 a b c=>[.own 0,.int .i64 a,.int .i64 b]
def cR:Pt->List aW
 | .p0 a b c=>[.row 215 c]
def step (J:Pt->aI):Pt->aI
 | .p0 a b c=>(cond (b<(c.length:Int)) (m2 b (c.length:Int) (call (Z303.R ((eE.at c (toNat b)).aQ,a)) fun v1=>(m2 b (c.length:Int) (bY (fc b) (bY (fc b) (call (Z311.R ((eE.at c (toNat b)).bR,v1.1)) fun v2=>J (.p0 v2.1 (i64.wrap (b+1)) (List.set c (toNat b) (eE.enc (⟨v1.2,v2.2⟩:eE)))))))))) (ret ((a,c):Int×aB)))
def start (J:Pt->aI)(x0:aB)(x1:Int):aI:=J (.p0 x1 0 x0)
def live:Nat->Live:=fK [(2,gj [0,1,5])]
def pats:List (Bool×List K):=[(false,[.sl 215]),(false,[au])]
def res:RP:=.nR [215]
abbrev E:Env:={ T:=assoc lC,G:=dK [],nt:=27,M:=gm [(117,Z303.aT),(152,Z311.aT)],np:=1,mt:=true }
def step_eq (I:cJ)(p:Pt):dh E live I (pid p) (bI Tryz.f102) (fU (live (pid p)) (cu p) (cR p)) (cG E Tryz.f102 res)=step (fun q=>I (pid q) (cu q) (cR q)) p:=by
 cases p<;>kernel_rfl
def start_eq (I:cJ)(ls:List L):fH E live I (bI Tryz.f102) (ig pats ls) (cG E Tryz.f102 res)=start (fun q=>I (pid q) (cu q) (cR q)) (dc ls) (dH 1 ls):=by kernel_rfl
def run_eq (n:Nat)(ls:List L):eY E live Tryz.f102 res n (ig pats ls)=start (iter step n) (dc ls) (dH 1 ls):=cB (id:=pid) (vs:=cu) (hs:=cR) (step:=step) (start:=fun J=>start J (dc ls) (dH 1 ls)) step_eq (fun I=>start_eq I ls) n
def e1 (x:aP)(k:Int):=Z303.md x.aQ k
def e2 (x:aP)(k:Int):=Z311.md x.bR ((e1 x k).1)
def el (x:aP)(k:Int):Int×aP:=((e2 x k).1,(⟨(e1 x k).2,(e2 x k).2⟩:aP))
def iY (x:aP)(k:Int)(hk:eS k):eS (el x k).1:=(Z311.iq (Z303.iq hk))
def cnt (x:aP):Nat:=0+Z303.sum x.aQ+Z311.sum x.bR
def sum (a:List aP):Nat:=(a.map cnt).sum
def md (a0:List aP)(a1:Int):Int×List aP:=jF el a0 a1
def gd (a0:List aP)(a1:Int):Prop:=eS a1
def acc (ls:List L):aB×Int:=((dc ls),(dH 1 ls))
def R:(aB×Int)->Option (Int×aB):=cm gd md
def ak {a0 a1}(h:gd a0 a1):R ((a0.map aP.row),a1)=some ((md a0 a1).1,((md a0 a1).2.map aP.row)):=cq h
def aT:gX:=MN pats acc R
def aY (a0:List aP)(a1:Int)(hg:gd a0 a1)(h0:a0.length<=maxLen):∃n,start (iter step n) (a0.map aP.row) a1=ret (((md a0 a1).1,((md a0 a1).2.map aP.row)):Int×aB):=by
 show ∃n,iter step n (Pt.p0 a1 0 (a0.map aP.row))=_
 refine gM (el:=el) (xs:=a0) aP.zero eS iY (pt:=fun i k c=>Pt.p0 k (i:Int) (c.map aP.row)) (out:=fun b=>ret (b.1,b.2.map aP.row)) (fun J i k c hi hc hk=>?_) (fun J k c hc=>?_) hg
 ·have hm:c.length<=maxLen:=hc ▸ h0
  simp only [step,SS]
  refine aj (aK hi) (aj aD ?_)
  refine aj (aK hi) (aU _ (Z303.ak hk) ?_)
  repeat first | refine aj aD ?_ | refine aj (aK hi) ?_ | refine aj (gp _) ?_
  refine aU _ (Z311.ak (Z303.iq hk)) ?_
  rw [aH hi hm]
  exact congrArg (fun q=>J (Pt.p0 (el (c.getD i aP.zero) k).1 ((i+1:Nat):Int) q)) (List.map_set (f:=aP.row) (l:=c) (i:=i) (a:=(el (c.getD i aP.zero) k).2)).symm
 ·simp only [step,SS]
  refine cW dn ?_
  rfl
def af:fD Tryz.prog Ev 102 aT:=MV (run:=fun n x=>start (iter step n) x.1 x.2) mix aC .nil (.cons Z303.af (.cons Z311.af .nil)) Tryz.func102 (by kernel_rfl) run_eq (fun ls a hl e hg=>aY a.1 a.2 hg (by have h:(dc ls).length<=maxLen:=(hl _ _ (.head _)).len;have e:a.1.map aP.row=(dc ls):=(congrArg (fun x=>x.1) e.symm);rw [<-e] at h;simpa using h))
def iq {a0:List aP}{a1:Int}(h:eS a1):eS (md a0 a1).1:=ke iY h
def qK (x:aP)(k:Int)(h0:0<=k)(hb:k+(cnt x:Int)<=4611686018427387904):(el x k).1=k+cnt x:=by
 simp only [cnt,Int.natCast_add] at hb ⊢
 simp (disch:=omega) only [el,e1,e2,wi,Z303.kk,Z311.kk]
 all_goals first | done | omega
def kk (a0:List aP)(a1:Int)(h0:0<=a1)(hb:a1+(sum a0:Int)<=4611686018427387904):(md a0 a1).1=a1+sum a0:=iu qK a0 a1 h0 hb
def sz (a:List aP):sum a<=60*(eC (fun y:aP=>aP.size y) a):=ku (fun x=>by
 have:=Z303.sz x.aQ
 have:=Z311.sz x.bR
 try simp only [cnt,aP.size] at *
 omega) a
end Z312
namespace Z313
set_option maxHeartbeats 8000000
inductive Pt where
 | p0 (a b:Int) (c:aB)
def pid:Pt->Nat
 | .p0 ..=>2
def cu:Pt->List V
 | .p0 a b c=>[.own 0,.int .i64 a,.int .i64 b]
def cR:Pt->List aW
 | .p0 a b c=>[.row 138 c]
def step (J:Pt->aI):Pt->aI
 | .p0 a b c=>(cond (b<(c.length:Int)) (m2 b (c.length:Int) (call (Z312.R ((cZ.at c (toNat b)).bM,a)) fun v1=>(m2 b (c.length:Int) (bY (fc b) (J (.p0 (i64.wrap (v1.1+1)) (i64.wrap (b+1)) (List.set c (toNat b) (cZ.enc (⟨v1.2,v1.1⟩:cZ))))))))) (ret ((a,c):Int×aB)))
def start (J:Pt->aI)(x0:aB)(x1:Int):aI:=J (.p0 x1 0 x0)
def live:Nat->Live:=fK [(2,gj [0,1,5])]
def pats:List (Bool×List K):=[(false,[.sl 138]),(false,[au])]
def res:RP:=.nR [138]
abbrev E:Env:={ T:=assoc lC,G:=dK [],nt:=27,M:=gm [(102,Z312.aT)],np:=1,mt:=true }
def step_eq (I:cJ)(p:Pt):dh E live I (pid p) (bI Tryz.f38) (fU (live (pid p)) (cu p) (cR p)) (cG E Tryz.f38 res)=step (fun q=>I (pid q) (cu q) (cR q)) p:=by
 cases p<;>kernel_rfl
def start_eq (I:cJ)(ls:List L):fH E live I (bI Tryz.f38) (ig pats ls) (cG E Tryz.f38 res)=start (fun q=>I (pid q) (cu q) (cR q)) (dc ls) (dH 1 ls):=by kernel_rfl
def run_eq (n:Nat)(ls:List L):eY E live Tryz.f38 res n (ig pats ls)=start (iter step n) (dc ls) (dH 1 ls):=cB (id:=pid) (vs:=cu) (hs:=cR) (step:=step) (start:=fun J=>start J (dc ls) (dH 1 ls)) step_eq (fun I=>start_eq I ls) n
def e1 (x:ay)(k:Int):=Z312.md x.bM k
def el (x:ay)(k:Int):Int×ay:=((i64.wrap ((e1 x k).1+1)),(⟨(e1 x k).2,(e1 x k).1⟩:ay))
def iY (x:ay)(k:Int)(hk:eS k):eS (el x k).1:=(bS _)
def cnt (x:ay):Nat:=1+Z312.sum x.bM
def sum (a:List ay):Nat:=(a.map cnt).sum
def md (a0:List ay)(a1:Int):Int×List ay:=jF el a0 a1
def gd (a0:List ay)(a1:Int):Prop:=eS a1
def acc (ls:List L):aB×Int:=((dc ls),(dH 1 ls))
def R:(aB×Int)->Option (Int×aB):=cm gd md
def ak {a0 a1}(h:gd a0 a1):R ((a0.map ay.row),a1)=some ((md a0 a1).1,((md a0 a1).2.map ay.row)):=cq h
def aT:gX:=MN pats acc R
def aY (a0:List ay)(a1:Int)(hg:gd a0 a1)(h0:a0.length<=maxLen):∃n,start (iter step n) (a0.map ay.row) a1=ret (((md a0 a1).1,((md a0 a1).2.map ay.row)):Int×aB):=by
 show ∃n,iter step n (Pt.p0 a1 0 (a0.map ay.row))=_
 refine gM (el:=el) (xs:=a0) ay.zero eS iY (pt:=fun i k c=>Pt.p0 k (i:Int) (c.map ay.row)) (out:=fun b=>ret (b.1,b.2.map ay.row)) (fun J i k c hi hc hk=>?_) (fun J k c hc=>?_) hg
 ·have hm:c.length<=maxLen:=hc ▸ h0
  simp only [step,SS]
  refine aj (aK hi) (aj aD ?_)
  refine aj (aK hi) (aU _ (Z312.ak hk) ?_)
  refine aj aD (aj (aK hi) ?_)
  refine aj (gp _) ?_
  rw [aH hi hm]
  exact congrArg (fun q=>J (Pt.p0 (el (c.getD i ay.zero) k).1 ((i+1:Nat):Int) q)) (List.map_set (f:=ay.row) (l:=c) (i:=i) (a:=(el (c.getD i ay.zero) k).2)).symm
 ·simp only [step,SS]
  refine cW dn ?_
  rfl
def af:fD Tryz.prog Ev 38 aT:=MV (run:=fun n x=>start (iter step n) x.1 x.2) mix aC .nil (.cons Z312.af .nil) Tryz.func38 (by kernel_rfl) run_eq (fun ls a hl e hg=>aY a.1 a.2 hg (by have h:(dc ls).length<=maxLen:=(hl _ _ (.head _)).len;have e:a.1.map ay.row=(dc ls):=(congrArg (fun x=>x.1) e.symm);rw [<-e] at h;simpa using h))
def iq {a0:List ay}{a1:Int}(h:eS a1):eS (md a0 a1).1:=ke iY h
def qK (x:ay)(k:Int)(h0:0<=k)(hb:k+(cnt x:Int)<=4611686018427387904):(el x k).1=k+cnt x:=by
 simp only [cnt,Int.natCast_add] at hb ⊢
 simp (disch:=omega) only [el,e1,wi,Z312.kk]
 all_goals first | done | omega
def kk (a0:List ay)(a1:Int)(h0:0<=a1)(hb:a1+(sum a0:Int)<=4611686018427387904):(md a0 a1).1=a1+sum a0:=iu qK a0 a1 h0 hb
def sz (a:List ay):sum a<=60*(eC (fun y:ay=>ay.size y) a):=ku (fun x=>by
 have:=Z312.sz x.bM
 try simp only [cnt,ay.size] at *
 omega) a
end Z313
namespace Z314
set_option maxHeartbeats 8000000
def F (x0:bK)(x1:Int):aI:=(call (Z308.R (x0.bh,x1)) fun v1=>ret ((v1.1,v1.2):Int×aB))
def pats:List (Bool×List K):=[(true,[.str,au,au,.sl 9]),(false,[au])]
def res:RP:=.nR [9]
def e1 (x:ah)(k:Int):=Z308.md x.bh k
def sum (x:ah):Nat:=0+Z308.sum x.bh
def md (a0:ah)(a1:Int):Int×List aE:=((e1 a0 a1).1,(e1 a0 a1).2)
def gd (a0:ah)(a1:Int):Prop:=eS a1
def acc (ls:List L):bK×Int:=((bK.dec ls),(dH 4 ls))
def R:(bK×Int)->Option (Int×aB):=cm gd md
def ak {a0 a1}(h:gd a0 a1):R ((ah.r a0),a1)=some ((md a0 a1).1,((md a0 a1).2.map cX)):=cq h
def aT:gX:=MN pats acc R
def aY (a0:ah)(a1:Int)(hg:gd a0 a1):F (ah.r a0) a1=ret (((md a0 a1).1,((md a0 a1).2.map cX)):Int×aB):=by
 simp only [F,SS]
 refine aU _ (Z308.ak hg) ?_
 rfl
def af:fD Tryz.prog Ev 61 aT:=MV (live:=fun _=>[]) (nt:=10) (run:=fun _ x=>F x.1 x.2) mix aC .nil (.cons Z308.af .nil) Tryz.func61 (by kernel_rfl) (fun _ _=>by kernel_rfl) (fun _ a _ _ hg=>⟨0,aY a.1 a.2 hg⟩)
def iq {a0:ah}{a1:Int}(hk:eS a1):eS (md a0 a1).1:=(Z308.iq hk)
def kk (x:ah)(k:Int)(h0:0<=k)(hb:k+(sum x:Int)<=4611686018427387904):(md x k).1=k+sum x:=by
 simp only [sum,Int.natCast_add] at hb ⊢
 simp (disch:=omega) only [md,e1,wi,Z308.kk]
 all_goals first | done | omega
def sz (x:ah):sum x<=60*ah.size x:=by
 have:=Z308.sz x.bh
 simp only [sum,ah.size] at *
 omega
def upd (x:ah)(k:Int):ah:=(⟨x.aV,x.bJ,x.bX,(md x k).2⟩:ah)
end Z314
namespace Z315
set_option maxHeartbeats 8000000
def F (x0:dU)(x1:Int):aI:=(call (Z306.R (x0.cg,x1)) fun v1=>(call (Z314.R (x0.aS,v1.1)) fun v2=>(call (Z301.R (x0.bM,v2.1)) fun v3=>ret ((v3.1,v1.2.1,v1.2.2,v2.2,v3.2):Int×aB×aB×aB×aB))))
def pats:List (Bool×List K):=[(true,[.sl 120,.sl 180,au,.str,au,au,.sl 9,.sl 3,au]),(false,[au])]
def res:RP:=.nR [120,180,9,3]
def e1 (x:bH)(k:Int):=Z306.md x.cg k
def e2 (x:bH)(k:Int):=Z314.md x.aS ((e1 x k).1)
def e3 (x:bH)(k:Int):=Z301.md x.bM ((e2 x k).1)
def sum (x:bH):Nat:=0+Z306.sum x.cg+Z314.sum x.aS+Z301.sum x.bM
def md (a0:bH)(a1:Int):Int×List (List aa)×List aG×List aE×List Int:=((e3 a0 a1).1,(e1 a0 a1).2.1,(e1 a0 a1).2.2,(e2 a0 a1).2,(e3 a0 a1).2)
def gd (a0:bH)(a1:Int):Prop:=eS a1
def acc (ls:List L):dU×Int:=((dU.dec ls),(dH 9 ls))
def R:(dU×Int)->Option (Int×aB×aB×aB×aB):=cm gd md
def ak {a0 a1}(h:gd a0 a1):R ((bH.r a0),a1)=some ((md a0 a1).1,((md a0 a1).2.1.map (eK aa.row)),((md a0 a1).2.2.1.map aG.row),((md a0 a1).2.2.2.1.map cX),((md a0 a1).2.2.2.2.map bt)):=cq h
def aT:gX:=MN pats acc R
def aY (a0:bH)(a1:Int)(hg:gd a0 a1):F (bH.r a0) a1=ret (((md a0 a1).1,((md a0 a1).2.1.map (eK aa.row)),((md a0 a1).2.2.1.map aG.row),((md a0 a1).2.2.2.1.map cX),((md a0 a1).2.2.2.2.map bt)):Int×aB×aB×aB×aB):=by
 simp only [F,SS]
 refine aU _ (Z306.ak hg) (aU _ (Z314.ak (Z306.iq hg)) ?_)
 refine aU _ (Z301.ak (Z314.iq (Z306.iq hg))) ?_
 rfl
def af:fD Tryz.prog Ev 23 aT:=MV (live:=fun _=>[]) (nt:=18) (run:=fun _ x=>F x.1 x.2) mix aC .nil (.cons Z306.af (.cons Z314.af (.cons Z301.af .nil))) Tryz.func23 (by kernel_rfl) (fun _ _=>by kernel_rfl) (fun _ a _ _ hg=>⟨0,aY a.1 a.2 hg⟩)
def iq {a0:bH}{a1:Int}(hk:eS a1):eS (md a0 a1).1:=(Z301.iq (Z314.iq (Z306.iq hk)))
def kk (x:bH)(k:Int)(h0:0<=k)(hb:k+(sum x:Int)<=4611686018427387904):(md x k).1=k+sum x:=by
 simp only [sum,Int.natCast_add] at hb ⊢
 simp (disch:=omega) only [md,e1,e2,e3,wi,Z306.kk,Z314.kk,Z301.kk]
 all_goals first | done | omega
def sz (x:bH):sum x<=60*bH.size x:=by
 have:=Z306.sz x.cg
 have:=Z314.sz x.aS
 have:=Z301.sz x.bM
 simp only [sum,bH.size,aA.size,ah.size] at *
 omega
def upd (x:bH)(k:Int):bH:=(⟨(⟨(md x k).2.1,(md x k).2.2.1⟩:aA),x.ij,(⟨x.aS.aV,x.aS.bJ,x.aS.bX,(md x k).2.2.2.1⟩:ah),(md x k).2.2.2.2,x.fV⟩:bH)
end Z315
namespace Z316
set_option maxHeartbeats 8000000
def F (x0:eB)(x1:Int):aI:=(call (Z315.R (x0.cN,x1)) fun v1=>(call (Z310.R (x0.gD,v1.1)) fun v2=>ret ((v2.1,v1.2.1,v1.2.2.1,v1.2.2.2.1,v1.2.2.2.2,v2.2):Int×aB×aB×aB×aB×aB)))
def pats:List (Bool×List K):=[(true,[.sl 120,.sl 180,au,.str,au,au,.sl 9,.sl 3,au,.sl 148]),(false,[au])]
def res:RP:=.nR [120,180,9,3,148]
def e1 (x:cK)(k:Int):=Z315.md x.cN k
def e2 (x:cK)(k:Int):=Z310.md x.gD ((e1 x k).1)
def sum (x:cK):Nat:=0+Z315.sum x.cN+Z310.sum x.gD
def md (a0:cK)(a1:Int):Int×List (List aa)×List aG×List aE×List Int×List av:=((e2 a0 a1).1,(e1 a0 a1).2.1,(e1 a0 a1).2.2.1,(e1 a0 a1).2.2.2.1,(e1 a0 a1).2.2.2.2,(e2 a0 a1).2)
def gd (a0:cK)(a1:Int):Prop:=eS a1
def acc (ls:List L):eB×Int:=((eB.dec ls),(dH 10 ls))
def R:(eB×Int)->Option (Int×aB×aB×aB×aB×aB):=cm gd md
def ak {a0 a1}(h:gd a0 a1):R ((cK.r a0),a1)=some ((md a0 a1).1,((md a0 a1).2.1.map (eK aa.row)),((md a0 a1).2.2.1.map aG.row),((md a0 a1).2.2.2.1.map cX),((md a0 a1).2.2.2.2.1.map bt),((md a0 a1).2.2.2.2.2.map av.row)):=cq h
def aT:gX:=MN pats acc R
def aY (a0:cK)(a1:Int)(hg:gd a0 a1):F (cK.r a0) a1=ret (((md a0 a1).1,((md a0 a1).2.1.map (eK aa.row)),((md a0 a1).2.2.1.map aG.row),((md a0 a1).2.2.2.1.map cX),((md a0 a1).2.2.2.2.1.map bt),((md a0 a1).2.2.2.2.2.map av.row)):Int×aB×aB×aB×aB×aB):=by
 simp only [F,SS]
 refine aU _ (Z315.ak hg) (aU _ (Z310.ak (Z315.iq hg)) ?_)
 rfl
def af:fD Tryz.prog Ev 39 aT:=MV (live:=fun _=>[]) (nt:=14) (run:=fun _ x=>F x.1 x.2) mix aC .nil (.cons Z315.af (.cons Z310.af .nil)) Tryz.func39 (by kernel_rfl) (fun _ _=>by kernel_rfl) (fun _ a _ _ hg=>⟨0,aY a.1 a.2 hg⟩)
def iq {a0:cK}{a1:Int}(hk:eS a1):eS (md a0 a1).1:=(Z310.iq (Z315.iq hk))
def kk (x:cK)(k:Int)(h0:0<=k)(hb:k+(sum x:Int)<=4611686018427387904):(md x k).1=k+sum x:=by
 simp only [sum,Int.natCast_add] at hb ⊢
 simp (disch:=omega) only [md,e1,e2,wi,Z315.kk,Z310.kk]
 all_goals first | done | omega
def sz (x:cK):sum x<=60*cK.size x:=by
 have:=Z315.sz x.cN
 have:=Z310.sz x.gD
 simp only [sum,cK.size,bH.size,aA.size,ah.size,aJ.size] at *
 omega
def upd (x:cK)(k:Int):cK:=(⟨(⟨(⟨(md x k).2.1,(md x k).2.2.1⟩:aA),x.cN.ij,(⟨x.cN.aS.aV,x.cN.aS.bJ,x.cN.aS.bX,(md x k).2.2.2.1⟩:ah),(md x k).2.2.2.2.1,x.cN.fV⟩:bH),(⟨(md x k).2.2.2.2.2⟩:aJ)⟩:cK)
end Z316
namespace Z317
set_option maxHeartbeats 8000000
inductive Pt where
 | p0 (a:aB) (b c:Int)
def pid:Pt->Nat
 | .p0 ..=>2
def cu:Pt->List V
 | .p0 a b c=>[.sl none 3 a,.int .i64 b,.int .i64 c]
def cR:Pt->List aW
 | .p0 a b c=>[]
def step (J:Pt->aI):Pt->aI
 | .p0 a b c=>(cond (c<(a.length:Int)) (m2 c (a.length:Int) (cond ((kr a (toNat c)) != b) bV (J (.p0 a (i64.wrap (b+1)) (i64.wrap (c+1)))))) (ret (b:Int)))
def start (J:Pt->aI)(x0:aB)(x1:Int):aI:=J (.p0 x0 x1 0)
def live:Nat->Live:=fK [(2,gj [0,1,5])]
def pats:List gK:=[.rd (.sl 3),.rd (.int .i64)]
def res:RP:=.one (.rd (.int .i64))
abbrev E:Env:={ T:=assoc lC,G:=dK [],nt:=21 }
def step_eq (I:cJ)(p:Pt):dh E live I (pid p) (bI Tryz.f65) (fU (live (pid p)) (cu p) (cR p)) (cG E Tryz.f65 res)=step (fun q=>I (pid q) (cu q) (cR q)) p:=by
 cases p<;>kernel_rfl
def start_eq (I:cJ)(ls:List L):fH E live I (bI Tryz.f65) (dF pats ls) (cG E Tryz.f65 res)=start (fun q=>I (pid q) (cu q) (cR q)) (dc ls) (dH 1 ls):=by kernel_rfl
def run_eq (n:Nat)(ls:List L):eY E live Tryz.f65 res n (dF pats ls)=start (iter step n) (dc ls) (dH 1 ls):=cB (id:=pid) (vs:=cu) (hs:=cR) (step:=step) (start:=fun J=>start J (dc ls) (dH 1 ls)) step_eq (fun I=>start_eq I ls) n
def f (x k:Int):Option Int:=(cond (x != k) none (some (i64.wrap (k+1))))
def uq (x k k2:Int)(hk:eS k)(h:f x k=some k2):eS k2:=by
 unfold f at h
 have h:=bg h
 injection h with h
 subst h
 exact (bS _)
def md (a0:List Int)(a1:Int):Int:=jC f a0 a1
def gd (a0:List Int)(a1:Int):Prop:=eS a1
def acc (ls:List L):aB×Int:=((dc ls),(dH 1 ls))
def R:(aB×Int)->Option Int:=cm gd md
def ak {a0 a1}(h:gd a0 a1):R ((a0.map bt),a1)=some (md a0 a1):=cq h
def aT:gh:=CN pats res acc R
def aY (a0:List Int)(a1:Int)(hg:gd a0 a1)(h0:a0.length<=maxLen):∃n,start (iter step n) (a0.map bt) a1=ret ((md a0 a1):Int):=by
 show ∃n,iter step n (Pt.p0 (a0.map bt) a1 0)=_
 refine jh (f:=f) (xs:=a0) 0 eS uq (pt:=fun i k=>Pt.p0 (a0.map bt) k (i:Int)) (fun J i k hi hk=>?_) (fun J k=>?_) hg
 ·simp only [step,SS]
  refine aj (aK hi) (aj aD ?_)
  refine aj (aK hi) (bw rfl ?_)
  rw [aH hi h0]
  rfl
 ·simp only [step,SS]
  refine cW dn ?_
  rfl
def af:cz 65 aT:=VV (run:=fun n x=>start (iter step n) x.1 x.2) mix aC .nil Tryz.func65 (by kernel_rfl) run_eq (fun ls a hl e hg=>aY a.1 a.2 hg (by have h:(dc ls).length<=maxLen:=hl.1.len;have e:a.1.map bt=(dc ls):=(congrArg (fun x=>x.1) e.symm);rw [<-e] at h;simpa using h))
def iq {a0:List Int}{a1:Int}(h:eS a1):eS (md a0 a1):=kJ uq jr h
def yz (x k:Int)(h0:0<=k)(hb:k+(Z301.cnt x:Int)<=4611686018427387904):f (Z301.el x k).2 k=some (k+Z301.cnt x):=by
 simp only [Z301.cnt,Int.natCast_add] at hb ⊢
 simp (disch:=omega) only [Z301.el,f,wi,bne_self_eq_false,beq_self_eq_true,gV,Bool.not_true,aX,cS]
 all_goals first | done | omega | (congr 1<;>omega)
def mk (a0:List Int)(a1:Int)(h0:0<=a1)(hb:a1+(Z301.sum a0:Int)<=4611686018427387904):md (Z301.md a0 a1).2 a1=a1+Z301.sum a0:=iN Z301.qK yz a0 a1 h0 hb
end Z317
namespace Z318
set_option maxHeartbeats 8000000
inductive Pt where
 | p0 (a:aB) (b c:Int)
def pid:Pt->Nat
 | .p0 ..=>2
def cu:Pt->List V
 | .p0 a b c=>[.sl none 227 a,.int .i64 b,.int .i64 c]
def cR:Pt->List aW
 | .p0 a b c=>[]
def step (J:Pt->aI):Pt->aI
 | .p0 a b c=>(cond (c<(a.length:Int)) (m2 c (a.length:Int) (cond ((bn.at a (toNat c)).iD != b) bV (m2 c (a.length:Int) (cond ((bn.at a (toNat c)).ko != (i64.wrap (b+1))) bV (J (.p0 a (i64.wrap ((i64.wrap (b+1))+1)) (i64.wrap (c+1)))))))) (ret (b:Int)))
def start (J:Pt->aI)(x0:aB)(x1:Int):aI:=J (.p0 x0 x1 0)
def live:Nat->Live:=fK [(2,gj [0,1,5])]
def pats:List gK:=[.rd (.sl 227),.rd (.int .i64)]
def res:RP:=.one (.rd (.int .i64))
abbrev E:Env:={ T:=assoc lC,G:=dK [],nt:=31 }
def step_eq (I:cJ)(p:Pt):dh E live I (pid p) (bI Tryz.f166) (fU (live (pid p)) (cu p) (cR p)) (cG E Tryz.f166 res)=step (fun q=>I (pid q) (cu q) (cR q)) p:=by
 cases p<;>kernel_rfl
def start_eq (I:cJ)(ls:List L):fH E live I (bI Tryz.f166) (dF pats ls) (cG E Tryz.f166 res)=start (fun q=>I (pid q) (cu q) (cR q)) (dc ls) (dH 1 ls):=by kernel_rfl
def run_eq (n:Nat)(ls:List L):eY E live Tryz.f166 res n (dF pats ls)=start (iter step n) (dc ls) (dH 1 ls):=cB (id:=pid) (vs:=cu) (hs:=cR) (step:=step) (start:=fun J=>start J (dc ls) (dH 1 ls)) step_eq (fun I=>start_eq I ls) n
def f (x:bn)(k:Int):Option Int:=(cond (x.iD != k) none (cond (x.ko != (i64.wrap (k+1))) none (some (i64.wrap ((i64.wrap (k+1))+1)))))
def uq (x:bn)(k k2:Int)(hk:eS k)(h:f x k=some k2):eS k2:=by
 unfold f at h
 have h:=bg h
 have h:=bg h
 injection h with h
 subst h
 exact (bS _)
def md (a0:List bn)(a1:Int):Int:=jC f a0 a1
def gd (a0:List bn)(a1:Int):Prop:=eS a1
def acc (ls:List L):aB×Int:=((dc ls),(dH 1 ls))
def R:(aB×Int)->Option Int:=cm gd md
def ak {a0 a1}(h:gd a0 a1):R ((a0.map bn.row),a1)=some (md a0 a1):=cq h
def aT:gh:=CN pats res acc R
def aY (a0:List bn)(a1:Int)(hg:gd a0 a1)(h0:a0.length<=maxLen):∃n,start (iter step n) (a0.map bn.row) a1=ret ((md a0 a1):Int):=by
 show ∃n,iter step n (Pt.p0 (a0.map bn.row) a1 0)=_
 refine jh (f:=f) (xs:=a0) bn.zero eS uq (pt:=fun i k=>Pt.p0 (a0.map bn.row) k (i:Int)) (fun J i k hi hk=>?_) (fun J k=>?_) hg
 ·simp only [step,SS]
  refine aj (aK hi) (aj aD ?_)
  refine aj (aK hi) (bw rfl ?_)
  refine aj aD (aj (aK hi) ?_)
  refine bw rfl ?_
  rw [aH hi h0]
  rfl
 ·simp only [step,SS]
  refine cW dn ?_
  rfl
def af:cz 166 aT:=VV (run:=fun n x=>start (iter step n) x.1 x.2) mix aC .nil Tryz.func166 (by kernel_rfl) run_eq (fun ls a hl e hg=>aY a.1 a.2 hg (by have h:(dc ls).length<=maxLen:=hl.1.len;have e:a.1.map bn.row=(dc ls):=(congrArg (fun x=>x.1) e.symm);rw [<-e] at h;simpa using h))
def iq {a0:List bn}{a1:Int}(h:eS a1):eS (md a0 a1):=kJ uq jr h
def yz (x:bn)(k:Int)(h0:0<=k)(hb:k+(Z302.cnt x:Int)<=4611686018427387904):f (Z302.el x k).2 k=some (k+Z302.cnt x):=by
 simp only [Z302.cnt,Int.natCast_add] at hb ⊢
 simp (disch:=omega) only [Z302.el,f,wi,bne_self_eq_false,beq_self_eq_true,gV,Bool.not_true,aX,cS]
 all_goals first | done | omega | (congr 1<;>omega)
def mk (a0:List bn)(a1:Int)(h0:0<=a1)(hb:a1+(Z302.sum a0:Int)<=4611686018427387904):md (Z302.md a0 a1).2 a1=a1+Z302.sum a0:=iN Z302.qK yz a0 a1 h0 hb
end Z318
namespace Z319
set_option maxHeartbeats 8000000
inductive Pt where
 | p0 (a:aB) (b c:Int)
def pid:Pt->Nat
 | .p0 ..=>2
def cu:Pt->List V
 | .p0 a b c=>[.sl none 178 a,.int .i64 b,.int .i64 c]
def cR:Pt->List aW
 | .p0 a b c=>[]
def step (J:Pt->aI):Pt->aI
 | .p0 a b c=>(cond (c<(a.length:Int)) (m2 c (a.length:Int) (cond ((bf.at a (toNat c)).an.bz != b) bV (m2 c (a.length:Int) (cond ((bf.at a (toNat c)).an.cU != (i64.wrap (b+1))) bV (m2 c (a.length:Int) (cond ((bf.at a (toNat c)).an.bJ != (i64.wrap ((i64.wrap (b+1))+1))) bV (m2 c (a.length:Int) (cond ((bf.at a (toNat c)).an.cT != (i64.wrap ((i64.wrap ((i64.wrap (b+1))+1))+1))) bV (m2 c (a.length:Int) (cond ((bf.at a (toNat c)).an.cL != (i64.wrap ((i64.wrap ((i64.wrap ((i64.wrap (b+1))+1))+1))+1))) bV (m2 c (a.length:Int) (cond ((bf.at a (toNat c)).an.cE != (i64.wrap ((i64.wrap ((i64.wrap ((i64.wrap ((i64.wrap (b+1))+1))+1))+1))+1))) bV (m2 c (a.length:Int) (cond ((bf.at a (toNat c)).an.dG != (i64.wrap ((i64.wrap ((i64.wrap ((i64.wrap ((i64.wrap ((i64.wrap (b+1))+1))+1))+1))+1))+1))) bV (m2 c (a.length:Int) (cond ((bf.at a (toNat c)).an.dY != (i64.wrap ((i64.wrap ((i64.wrap ((i64.wrap ((i64.wrap ((i64.wrap ((i64.wrap (b+1))+1))+1))+1))+1))+1))+1))) bV (m2 c (a.length:Int) (call (Z317.R ((bf.at a (toNat c)).an.bU.aO,(i64.wrap ((i64.wrap ((i64.wrap ((i64.wrap ((i64.wrap ((i64.wrap ((i64.wrap ((i64.wrap (b+1))+1))+1))+1))+1))+1))+1))+1)))) fun v1=>(cond (v1<0) bV (m2 c (a.length:Int) (cond ((bf.at a (toNat c)).an.bU.cO != v1) bV (m2 c (a.length:Int) (call (Z317.R ((bf.at a (toNat c)).an.bF.aO,(i64.wrap (v1+1)))) fun v2=>(cond (v2<0) bV (m2 c (a.length:Int) (cond ((bf.at a (toNat c)).an.bF.cO != v2) bV (m2 c (a.length:Int) (cond ((bf.at a (toNat c)).an.dM != (i64.wrap (v2+1))) bV (m2 c (a.length:Int) (call (Z317.R ((bf.at a (toNat c)).an.bC.aO,(i64.wrap ((i64.wrap (v2+1))+1)))) fun v3=>(cond (v3<0) bV (m2 c (a.length:Int) (cond ((bf.at a (toNat c)).an.bC.cO != v3) bV (m2 c (a.length:Int) (cond (!((bf.at a (toNat c)).an.bD==((Int.tmod (i64.wrap (v3+1)) 3)==0))) bV (m2 c (a.length:Int) (call (Z318.R ((bf.at a (toNat c)).cP,(i64.wrap ((i64.wrap (v3+1))+1)))) fun v4=>(cond (v4<0) bV (J (.p0 a v4 (i64.wrap (c+1)))))))))))))))))))))))))))))))))))))))))) (ret (b:Int)))
def start (J:Pt->aI)(x0:aB)(x1:Int):aI:=J (.p0 x0 x1 0)
def live:Nat->Live:=fK [(2,gj [0,1,5])]
def pats:List gK:=[.rd (.sl 178),.rd (.int .i64)]
def res:RP:=.one (.rd (.int .i64))
abbrev E:Env:={ T:=assoc lC,G:=dK [(65,Z317.aT),(166,Z318.aT)],nt:=190 }
def step_eq (I:cJ)(p:Pt):dh E live I (pid p) (bI Tryz.f159) (fU (live (pid p)) (cu p) (cR p)) (cG E Tryz.f159 res)=step (fun q=>I (pid q) (cu q) (cR q)) p:=by
 cases p<;>kernel_rfl
def start_eq (I:cJ)(ls:List L):fH E live I (bI Tryz.f159) (dF pats ls) (cG E Tryz.f159 res)=start (fun q=>I (pid q) (cu q) (cR q)) (dc ls) (dH 1 ls):=by kernel_rfl
def run_eq (n:Nat)(ls:List L):eY E live Tryz.f159 res n (dF pats ls)=start (iter step n) (dc ls) (dH 1 ls):=cB (id:=pid) (vs:=cu) (hs:=cR) (step:=step) (start:=fun J=>start J (dc ls) (dH 1 ls)) step_eq (fun I=>start_eq I ls) n
def e1 (x:aa)(k:Int):=Z317.md (((x.an).bU).aO) (i64.wrap ((i64.wrap ((i64.wrap ((i64.wrap ((i64.wrap ((i64.wrap ((i64.wrap ((i64.wrap (k+1))+1))+1))+1))+1))+1))+1))+1))
def e2 (x:aa)(k:Int):=Z317.md (((x.an).bF).aO) (i64.wrap ((e1 x k)+1))
def e3 (x:aa)(k:Int):=Z317.md (((x.an).bC).aO) (i64.wrap ((i64.wrap ((e2 x k)+1))+1))
def e4 (x:aa)(k:Int):=Z318.md x.cP (i64.wrap ((i64.wrap ((e3 x k)+1))+1))
def f (x:aa)(k:Int):Option Int:=(cond ((x.an).bz != k) none (cond ((x.an).cU != (i64.wrap (k+1))) none (cond ((x.an).bJ != (i64.wrap ((i64.wrap (k+1))+1))) none (cond ((x.an).cT != (i64.wrap ((i64.wrap ((i64.wrap (k+1))+1))+1))) none (cond ((x.an).cL != (i64.wrap ((i64.wrap ((i64.wrap ((i64.wrap (k+1))+1))+1))+1))) none (cond ((x.an).cE != (i64.wrap ((i64.wrap ((i64.wrap ((i64.wrap ((i64.wrap (k+1))+1))+1))+1))+1))) none (cond ((x.an).dG != (i64.wrap ((i64.wrap ((i64.wrap ((i64.wrap ((i64.wrap ((i64.wrap (k+1))+1))+1))+1))+1))+1))) none (cond ((x.an).dY != (i64.wrap ((i64.wrap ((i64.wrap ((i64.wrap ((i64.wrap ((i64.wrap ((i64.wrap (k+1))+1))+1))+1))+1))+1))+1))) none (cond ((e1 x k)<0) none (cond (((x.an).bU).cO != (e1 x k)) none (cond ((e2 x k)<0) none (cond (((x.an).bF).cO != (e2 x k)) none (cond ((x.an).dM != (i64.wrap ((e2 x k)+1))) none (cond ((e3 x k)<0) none (cond (((x.an).bC).cO != (e3 x k)) none (cond (!((x.an).bD==((Int.tmod (i64.wrap ((e3 x k)+1)) 3)==0))) none (cond ((e4 x k)<0) none (some (e4 x k)))))))))))))))))))
def uq (x:aa)(k k2:Int)(hk:eS k)(h:f x k=some k2):eS k2:=by
 unfold f at h
 have h:=bg h
 have h:=bg h
 have h:=bg h
 have h:=bg h
 have h:=bg h
 have h:=bg h
 have h:=bg h
 have h:=bg h
 have h:=bg h
 have h:=bg h
 have h:=bg h
 have h:=bg h
 have h:=bg h
 have h:=bg h
 have h:=bg h
 have h:=bg h
 have h:=bg h
 injection h with h
 subst h
 exact (Z318.iq (bS _))
def md (a0:List aa)(a1:Int):Int:=jC f a0 a1
def gd (a0:List aa)(a1:Int):Prop:=eS a1
def acc (ls:List L):aB×Int:=((dc ls),(dH 1 ls))
def R:(aB×Int)->Option Int:=cm gd md
def ak {a0 a1}(h:gd a0 a1):R ((a0.map aa.row),a1)=some (md a0 a1):=cq h
def aT:gh:=CN pats res acc R
def aY (a0:List aa)(a1:Int)(hg:gd a0 a1)(h0:a0.length<=maxLen):∃n,start (iter step n) (a0.map aa.row) a1=ret ((md a0 a1):Int):=by
 show ∃n,iter step n (Pt.p0 (a0.map aa.row) a1 0)=_
 refine jh (f:=f) (xs:=a0) aa.zero eS uq (pt:=fun i k=>Pt.p0 (a0.map aa.row) k (i:Int)) (fun J i k hi hk=>?_) (fun J k=>?_) hg
 ·simp only [step,SS]
  refine aj (aK hi) (aj aD ?_)
  refine aj (aK hi) (bw rfl ?_)
  refine aj aD (aj (aK hi) ?_)
  refine bw rfl (aj aD ?_)
  refine aj (aK hi) (bw rfl ?_)
  refine aj aD (aj (aK hi) ?_)
  refine bw rfl (aj aD ?_)
  refine aj (aK hi) (bw rfl ?_)
  refine aj aD (aj (aK hi) ?_)
  refine bw rfl (aj aD ?_)
  refine aj (aK hi) (bw rfl ?_)
  refine aj aD (aj (aK hi) ?_)
  refine bw rfl (aj aD ?_)
  refine aj (aK hi) (aU _ (Z317.ak (bS _)) ?_)
  refine bw rfl (aj aD ?_)
  refine aj (aK hi) (bw rfl ?_)
  refine aj aD (aj (aK hi) ?_)
  refine aU _ (Z317.ak (bS _)) (bw rfl ?_)
  refine aj aD (aj (aK hi) ?_)
  refine bw rfl (aj aD ?_)
  refine aj (aK hi) (bw rfl ?_)
  refine aj aD (aj (aK hi) ?_)
  refine aU _ (Z317.ak (bS _)) (bw rfl ?_)
  refine aj aD (aj (aK hi) ?_)
  refine bw rfl (aj aD ?_)
  refine aj (aK hi) (bw rfl ?_)
  refine aj aD (aj (aK hi) ?_)
  refine aU _ (Z318.ak (bS _)) (bw rfl ?_)
  rw [aH hi h0]
  rfl
 ·simp only [step,SS]
  refine cW dn ?_
  rfl
def af:cz 159 aT:=VV (run:=fun n x=>start (iter step n) x.1 x.2) mix aC (eP Z317.af Z318.af) Tryz.func159 (by kernel_rfl) run_eq (fun ls a hl e hg=>aY a.1 a.2 hg (by have h:(dc ls).length<=maxLen:=hl.1.len;have e:a.1.map aa.row=(dc ls):=(congrArg (fun x=>x.1) e.symm);rw [<-e] at h;simpa using h))
def iq {a0:List aa}{a1:Int}(h:eS a1):eS (md a0 a1):=kJ uq jr h
def yz (x:aa)(k:Int)(h0:0<=k)(hb:k+(Z303.cnt x:Int)<=4611686018427387904):f (Z303.el x k).2 k=some (k+Z303.cnt x):=by
 simp only [Z303.cnt,Int.natCast_add] at hb ⊢
 simp (disch:=omega) only [Z303.el,f,Z303.e1,Z303.e2,Z303.e3,Z303.e4,e1,e2,e3,e4,wi,Z301.kk,Z317.mk,Z302.kk,Z318.mk,bne_self_eq_false,beq_self_eq_true,gV,Bool.not_true,aX,cS]
 all_goals first | done | omega | (congr 1<;>omega)
def mk (a0:List aa)(a1:Int)(h0:0<=a1)(hb:a1+(Z303.sum a0:Int)<=4611686018427387904):md (Z303.md a0 a1).2 a1=a1+Z303.sum a0:=iN Z303.qK yz a0 a1 h0 hb
end Z319
namespace Z320
set_option maxHeartbeats 8000000
inductive Pt where
 | p0 (a:aB) (b c:Int)
def pid:Pt->Nat
 | .p0 ..=>2
def cu:Pt->List V
 | .p0 a b c=>[.sl none 120 a,.int .i64 b,.int .i64 c]
def cR:Pt->List aW
 | .p0 a b c=>[]
def step (J:Pt->aI):Pt->aI
 | .p0 a b c=>(cond (c<(a.length:Int)) (m2 c (a.length:Int) (call (Z319.R ((qi a (toNat c)),b)) fun v1=>(cond (v1<0) bV (J (.p0 a v1 (i64.wrap (c+1))))))) (ret (b:Int)))
def start (J:Pt->aI)(x0:aB)(x1:Int):aI:=J (.p0 x0 x1 0)
def live:Nat->Live:=fK [(2,gj [0,1,5])]
def pats:List gK:=[.rd (.sl 120),.rd (.int .i64)]
def res:RP:=.one (.rd (.int .i64))
abbrev E:Env:={ T:=assoc lC,G:=dK [(159,Z319.aT)],nt:=21 }
def step_eq (I:cJ)(p:Pt):dh E live I (pid p) (bI Tryz.f119) (fU (live (pid p)) (cu p) (cR p)) (cG E Tryz.f119 res)=step (fun q=>I (pid q) (cu q) (cR q)) p:=by
 cases p<;>kernel_rfl
def start_eq (I:cJ)(ls:List L):fH E live I (bI Tryz.f119) (dF pats ls) (cG E Tryz.f119 res)=start (fun q=>I (pid q) (cu q) (cR q)) (dc ls) (dH 1 ls):=by kernel_rfl
def run_eq (n:Nat)(ls:List L):eY E live Tryz.f119 res n (dF pats ls)=start (iter step n) (dc ls) (dH 1 ls):=cB (id:=pid) (vs:=cu) (hs:=cR) (step:=step) (start:=fun J=>start J (dc ls) (dH 1 ls)) step_eq (fun I=>start_eq I ls) n
def e1 (x:List aa)(k:Int):=Z319.md x k
def f (x:List aa)(k:Int):Option Int:=(cond ((e1 x k)<0) none (some (e1 x k)))
def uq (x:List aa)(k k2:Int)(hk:eS k)(h:f x k=some k2):eS k2:=by
 unfold f at h
 have h:=bg h
 injection h with h
 subst h
 exact (Z319.iq hk)
def md (a0:List (List aa))(a1:Int):Int:=jC f a0 a1
def gd (a0:List (List aa))(a1:Int):Prop:=eS a1
def acc (ls:List L):aB×Int:=((dc ls),(dH 1 ls))
def R:(aB×Int)->Option Int:=cm gd md
def ak {a0 a1}(h:gd a0 a1):R ((a0.map (eK aa.row)),a1)=some (md a0 a1):=cq h
def aT:gh:=CN pats res acc R
def aY (a0:List (List aa))(a1:Int)(hg:gd a0 a1)(h0:a0.length<=maxLen):∃n,start (iter step n) (a0.map (eK aa.row)) a1=ret ((md a0 a1):Int):=by
 show ∃n,iter step n (Pt.p0 (a0.map (eK aa.row)) a1 0)=_
 refine jh (f:=f) (xs:=a0) [] eS uq (pt:=fun i k=>Pt.p0 (a0.map (eK aa.row)) k (i:Int)) (fun J i k hi hk=>?_) (fun J k=>?_) hg
 ·simp only [step,SS]
  refine aj (aK hi) (aj aD ?_)
  refine aj (aK hi) (aU _ (Z319.ak hk) ?_)
  refine bw rfl ?_
  rw [aH hi h0]
  rfl
 ·simp only [step,SS]
  refine cW dn ?_
  rfl
def af:cz 119 aT:=VV (run:=fun n x=>start (iter step n) x.1 x.2) mix aC (cD Z319.af) Tryz.func119 (by kernel_rfl) run_eq (fun ls a hl e hg=>aY a.1 a.2 hg (by have h:(dc ls).length<=maxLen:=hl.1.len;have e:a.1.map (eK aa.row)=(dc ls):=(congrArg (fun x=>x.1) e.symm);rw [<-e] at h;simpa using h))
def iq {a0:List (List aa)}{a1:Int}(h:eS a1):eS (md a0 a1):=kJ uq jr h
def yz (x:List aa)(k:Int)(h0:0<=k)(hb:k+(Z304.cnt x:Int)<=4611686018427387904):f (Z304.el x k).2 k=some (k+Z304.cnt x):=by
 simp only [Z304.cnt,Int.natCast_add] at hb ⊢
 simp (disch:=omega) only [Z304.el,f,Z304.e1,e1,wi,Z303.kk,Z319.mk,bne_self_eq_false,beq_self_eq_true,gV,Bool.not_true,aX,cS]
 all_goals first | done | omega | (congr 1<;>omega)
def mk (a0:List (List aa))(a1:Int)(h0:0<=a1)(hb:a1+(Z304.sum a0:Int)<=4611686018427387904):md (Z304.md a0 a1).2 a1=a1+Z304.sum a0:=iN Z304.qK yz a0 a1 h0 hb
end Z320
namespace Z321
set_option maxHeartbeats 8000000
inductive Pt where
 | p0 (a:aB) (b c:Int)
def pid:Pt->Nat
 | .p0 ..=>2
def cu:Pt->List V
 | .p0 a b c=>[.sl none 180 a,.int .i64 b,.int .i64 c]
def cR:Pt->List aW
 | .p0 a b c=>[]
def step (J:Pt->aI):Pt->aI
 | .p0 a b c=>(cond (c<(a.length:Int)) (m2 c (a.length:Int) (cond ((bO.at a (toNat c)).aN.an.bz != b) bV (m2 c (a.length:Int) (cond ((bO.at a (toNat c)).aN.an.cU != (i64.wrap (b+1))) bV (m2 c (a.length:Int) (cond ((bO.at a (toNat c)).aN.an.bJ != (i64.wrap ((i64.wrap (b+1))+1))) bV (m2 c (a.length:Int) (cond ((bO.at a (toNat c)).aN.an.cT != (i64.wrap ((i64.wrap ((i64.wrap (b+1))+1))+1))) bV (m2 c (a.length:Int) (cond ((bO.at a (toNat c)).aN.an.cL != (i64.wrap ((i64.wrap ((i64.wrap ((i64.wrap (b+1))+1))+1))+1))) bV (m2 c (a.length:Int) (cond ((bO.at a (toNat c)).aN.an.cE != (i64.wrap ((i64.wrap ((i64.wrap ((i64.wrap ((i64.wrap (b+1))+1))+1))+1))+1))) bV (m2 c (a.length:Int) (cond ((bO.at a (toNat c)).aN.an.dG != (i64.wrap ((i64.wrap ((i64.wrap ((i64.wrap ((i64.wrap ((i64.wrap (b+1))+1))+1))+1))+1))+1))) bV (m2 c (a.length:Int) (cond ((bO.at a (toNat c)).aN.an.dY != (i64.wrap ((i64.wrap ((i64.wrap ((i64.wrap ((i64.wrap ((i64.wrap ((i64.wrap (b+1))+1))+1))+1))+1))+1))+1))) bV (m2 c (a.length:Int) (call (Z317.R ((bO.at a (toNat c)).aN.an.bU.aO,(i64.wrap ((i64.wrap ((i64.wrap ((i64.wrap ((i64.wrap ((i64.wrap ((i64.wrap ((i64.wrap (b+1))+1))+1))+1))+1))+1))+1))+1)))) fun v1=>(cond (v1<0) bV (m2 c (a.length:Int) (cond ((bO.at a (toNat c)).aN.an.bU.cO != v1) bV (m2 c (a.length:Int) (call (Z317.R ((bO.at a (toNat c)).aN.an.bF.aO,(i64.wrap (v1+1)))) fun v2=>(cond (v2<0) bV (m2 c (a.length:Int) (cond ((bO.at a (toNat c)).aN.an.bF.cO != v2) bV (m2 c (a.length:Int) (cond ((bO.at a (toNat c)).aN.an.dM != (i64.wrap (v2+1))) bV (m2 c (a.length:Int) (call (Z317.R ((bO.at a (toNat c)).aN.an.bC.aO,(i64.wrap ((i64.wrap (v2+1))+1)))) fun v3=>(cond (v3<0) bV (m2 c (a.length:Int) (cond ((bO.at a (toNat c)).aN.an.bC.cO != v3) bV (m2 c (a.length:Int) (cond (!((bO.at a (toNat c)).aN.an.bD==((Int.tmod (i64.wrap (v3+1)) 3)==0))) bV (m2 c (a.length:Int) (call (Z318.R ((bO.at a (toNat c)).aN.cP,(i64.wrap ((i64.wrap (v3+1))+1)))) fun v4=>(cond (v4<0) bV (m2 c (a.length:Int) (cond ((bO.at a (toNat c)).fA.an.bz != v4) bV (m2 c (a.length:Int) (cond ((bO.at a (toNat c)).fA.an.cU != (i64.wrap (v4+1))) bV (m2 c (a.length:Int) (cond ((bO.at a (toNat c)).fA.an.bJ != (i64.wrap ((i64.wrap (v4+1))+1))) bV (m2 c (a.length:Int) (cond ((bO.at a (toNat c)).fA.an.cT != (i64.wrap ((i64.wrap ((i64.wrap (v4+1))+1))+1))) bV (m2 c (a.length:Int) (cond ((bO.at a (toNat c)).fA.an.cL != (i64.wrap ((i64.wrap ((i64.wrap ((i64.wrap (v4+1))+1))+1))+1))) bV (m2 c (a.length:Int) (cond ((bO.at a (toNat c)).fA.an.cE != (i64.wrap ((i64.wrap ((i64.wrap ((i64.wrap ((i64.wrap (v4+1))+1))+1))+1))+1))) bV (m2 c (a.length:Int) (cond ((bO.at a (toNat c)).fA.an.dG != (i64.wrap ((i64.wrap ((i64.wrap ((i64.wrap ((i64.wrap ((i64.wrap (v4+1))+1))+1))+1))+1))+1))) bV (m2 c (a.length:Int) (cond ((bO.at a (toNat c)).fA.an.dY != (i64.wrap ((i64.wrap ((i64.wrap ((i64.wrap ((i64.wrap ((i64.wrap ((i64.wrap (v4+1))+1))+1))+1))+1))+1))+1))) bV (m2 c (a.length:Int) (call (Z317.R ((bO.at a (toNat c)).fA.an.bU.aO,(i64.wrap ((i64.wrap ((i64.wrap ((i64.wrap ((i64.wrap ((i64.wrap ((i64.wrap ((i64.wrap (v4+1))+1))+1))+1))+1))+1))+1))+1)))) fun v5=>(cond (v5<0) bV (m2 c (a.length:Int) (cond ((bO.at a (toNat c)).fA.an.bU.cO != v5) bV (m2 c (a.length:Int) (call (Z317.R ((bO.at a (toNat c)).fA.an.bF.aO,(i64.wrap (v5+1)))) fun v6=>(cond (v6<0) bV (m2 c (a.length:Int) (cond ((bO.at a (toNat c)).fA.an.bF.cO != v6) bV (m2 c (a.length:Int) (cond ((bO.at a (toNat c)).fA.an.dM != (i64.wrap (v6+1))) bV (m2 c (a.length:Int) (call (Z317.R ((bO.at a (toNat c)).fA.an.bC.aO,(i64.wrap ((i64.wrap (v6+1))+1)))) fun v7=>(cond (v7<0) bV (m2 c (a.length:Int) (cond ((bO.at a (toNat c)).fA.an.bC.cO != v7) bV (m2 c (a.length:Int) (cond (!((bO.at a (toNat c)).fA.an.bD==((Int.tmod (i64.wrap (v7+1)) 3)==0))) bV (m2 c (a.length:Int) (call (Z318.R ((bO.at a (toNat c)).fA.cP,(i64.wrap ((i64.wrap (v7+1))+1)))) fun v8=>(cond (v8<0) bV (m2 c (a.length:Int) (cond ((bO.at a (toNat c)).fB.an.bz != v8) bV (m2 c (a.length:Int) (cond ((bO.at a (toNat c)).fB.an.cU != (i64.wrap (v8+1))) bV (m2 c (a.length:Int) (cond ((bO.at a (toNat c)).fB.an.bJ != (i64.wrap ((i64.wrap (v8+1))+1))) bV (m2 c (a.length:Int) (cond ((bO.at a (toNat c)).fB.an.cT != (i64.wrap ((i64.wrap ((i64.wrap (v8+1))+1))+1))) bV (m2 c (a.length:Int) (cond ((bO.at a (toNat c)).fB.an.cL != (i64.wrap ((i64.wrap ((i64.wrap ((i64.wrap (v8+1))+1))+1))+1))) bV (m2 c (a.length:Int) (cond ((bO.at a (toNat c)).fB.an.cE != (i64.wrap ((i64.wrap ((i64.wrap ((i64.wrap ((i64.wrap (v8+1))+1))+1))+1))+1))) bV (m2 c (a.length:Int) (cond ((bO.at a (toNat c)).fB.an.dG != (i64.wrap ((i64.wrap ((i64.wrap ((i64.wrap ((i64.wrap ((i64.wrap (v8+1))+1))+1))+1))+1))+1))) bV (m2 c (a.length:Int) (cond ((bO.at a (toNat c)).fB.an.dY != (i64.wrap ((i64.wrap ((i64.wrap ((i64.wrap ((i64.wrap ((i64.wrap ((i64.wrap (v8+1))+1))+1))+1))+1))+1))+1))) bV (m2 c (a.length:Int) (call (Z317.R ((bO.at a (toNat c)).fB.an.bU.aO,(i64.wrap ((i64.wrap ((i64.wrap ((i64.wrap ((i64.wrap ((i64.wrap ((i64.wrap ((i64.wrap (v8+1))+1))+1))+1))+1))+1))+1))+1)))) fun v9=>(cond (v9<0) bV (m2 c (a.length:Int) (cond ((bO.at a (toNat c)).fB.an.bU.cO != v9) bV (m2 c (a.length:Int) (call (Z317.R ((bO.at a (toNat c)).fB.an.bF.aO,(i64.wrap (v9+1)))) fun v10=>(cond (v10<0) bV (m2 c (a.length:Int) (cond ((bO.at a (toNat c)).fB.an.bF.cO != v10) bV (m2 c (a.length:Int) (cond ((bO.at a (toNat c)).fB.an.dM != (i64.wrap (v10+1))) bV (m2 c (a.length:Int) (call (Z317.R ((bO.at a (toNat c)).fB.an.bC.aO,(i64.wrap ((i64.wrap (v10+1))+1)))) fun v11=>(cond (v11<0) bV (m2 c (a.length:Int) (cond ((bO.at a (toNat c)).fB.an.bC.cO != v11) bV (m2 c (a.length:Int) (cond (!((bO.at a (toNat c)).fB.an.bD==((Int.tmod (i64.wrap (v11+1)) 3)==0))) bV (m2 c (a.length:Int) (call (Z318.R ((bO.at a (toNat c)).fB.cP,(i64.wrap ((i64.wrap (v11+1))+1)))) fun v12=>(cond (v12<0) bV (J (.p0 a v12 (i64.wrap (c+1)))))))))))))))))))))))))))))))))))))))))))))))))))))))))))))))))))))))))))))))))))))))))))))))))))))))))))))))))))))) (ret (b:Int)))
def start (J:Pt->aI)(x0:aB)(x1:Int):aI:=J (.p0 x0 x1 0)
def live:Nat->Live:=fK [(2,gj [0,1,5])]
def pats:List gK:=[.rd (.sl 180),.rd (.int .i64)]
def res:RP:=.one (.rd (.int .i64))
abbrev E:Env:={ T:=assoc lC,G:=dK [(65,Z317.aT),(166,Z318.aT)],nt:=595 }
def step_eq (I:cJ)(p:Pt):dh E live I (pid p) (bI Tryz.f120) (fU (live (pid p)) (cu p) (cR p)) (cG E Tryz.f120 res)=step (fun q=>I (pid q) (cu q) (cR q)) p:=by
 cases p<;>kernel_rfl
def start_eq (I:cJ)(ls:List L):fH E live I (bI Tryz.f120) (dF pats ls) (cG E Tryz.f120 res)=start (fun q=>I (pid q) (cu q) (cR q)) (dc ls) (dH 1 ls):=by kernel_rfl
def run_eq (n:Nat)(ls:List L):eY E live Tryz.f120 res n (dF pats ls)=start (iter step n) (dc ls) (dH 1 ls):=cB (id:=pid) (vs:=cu) (hs:=cR) (step:=step) (start:=fun J=>start J (dc ls) (dH 1 ls)) step_eq (fun I=>start_eq I ls) n
def e1 (x:aG)(k:Int):=Z317.md ((((x.aN).an).bU).aO) (i64.wrap ((i64.wrap ((i64.wrap ((i64.wrap ((i64.wrap ((i64.wrap ((i64.wrap ((i64.wrap (k+1))+1))+1))+1))+1))+1))+1))+1))
def e2 (x:aG)(k:Int):=Z317.md ((((x.aN).an).bF).aO) (i64.wrap ((e1 x k)+1))
def e3 (x:aG)(k:Int):=Z317.md ((((x.aN).an).bC).aO) (i64.wrap ((i64.wrap ((e2 x k)+1))+1))
def e4 (x:aG)(k:Int):=Z318.md ((x.aN).cP) (i64.wrap ((i64.wrap ((e3 x k)+1))+1))
def e5 (x:aG)(k:Int):=Z317.md ((((x.fA).an).bU).aO) (i64.wrap ((i64.wrap ((i64.wrap ((i64.wrap ((i64.wrap ((i64.wrap ((i64.wrap ((i64.wrap ((e4 x k)+1))+1))+1))+1))+1))+1))+1))+1))
def e6 (x:aG)(k:Int):=Z317.md ((((x.fA).an).bF).aO) (i64.wrap ((e5 x k)+1))
def e7 (x:aG)(k:Int):=Z317.md ((((x.fA).an).bC).aO) (i64.wrap ((i64.wrap ((e6 x k)+1))+1))
def e8 (x:aG)(k:Int):=Z318.md ((x.fA).cP) (i64.wrap ((i64.wrap ((e7 x k)+1))+1))
def e9 (x:aG)(k:Int):=Z317.md ((((x.fB).an).bU).aO) (i64.wrap ((i64.wrap ((i64.wrap ((i64.wrap ((i64.wrap ((i64.wrap ((i64.wrap ((i64.wrap ((e8 x k)+1))+1))+1))+1))+1))+1))+1))+1))
def zl (x:aG)(k:Int):=Z317.md ((((x.fB).an).bF).aO) (i64.wrap ((e9 x k)+1))
def zk (x:aG)(k:Int):=Z317.md ((((x.fB).an).bC).aO) (i64.wrap ((i64.wrap ((zl x k)+1))+1))
def BF (x:aG)(k:Int):=Z318.md ((x.fB).cP) (i64.wrap ((i64.wrap ((zk x k)+1))+1))
def f (x:aG)(k:Int):Option Int:=(cond (((x.aN).an).bz != k) none (cond (((x.aN).an).cU != (i64.wrap (k+1))) none (cond (((x.aN).an).bJ != (i64.wrap ((i64.wrap (k+1))+1))) none (cond (((x.aN).an).cT != (i64.wrap ((i64.wrap ((i64.wrap (k+1))+1))+1))) none (cond (((x.aN).an).cL != (i64.wrap ((i64.wrap ((i64.wrap ((i64.wrap (k+1))+1))+1))+1))) none (cond (((x.aN).an).cE != (i64.wrap ((i64.wrap ((i64.wrap ((i64.wrap ((i64.wrap (k+1))+1))+1))+1))+1))) none (cond (((x.aN).an).dG != (i64.wrap ((i64.wrap ((i64.wrap ((i64.wrap ((i64.wrap ((i64.wrap (k+1))+1))+1))+1))+1))+1))) none (cond (((x.aN).an).dY != (i64.wrap ((i64.wrap ((i64.wrap ((i64.wrap ((i64.wrap ((i64.wrap ((i64.wrap (k+1))+1))+1))+1))+1))+1))+1))) none (cond ((e1 x k)<0) none (cond ((((x.aN).an).bU).cO != (e1 x k)) none (cond ((e2 x k)<0) none (cond ((((x.aN).an).bF).cO != (e2 x k)) none (cond (((x.aN).an).dM != (i64.wrap ((e2 x k)+1))) none (cond ((e3 x k)<0) none (cond ((((x.aN).an).bC).cO != (e3 x k)) none (cond (!(((x.aN).an).bD==((Int.tmod (i64.wrap ((e3 x k)+1)) 3)==0))) none (cond ((e4 x k)<0) none (cond (((x.fA).an).bz != (e4 x k)) none (cond (((x.fA).an).cU != (i64.wrap ((e4 x k)+1))) none (cond (((x.fA).an).bJ != (i64.wrap ((i64.wrap ((e4 x k)+1))+1))) none (cond (((x.fA).an).cT != (i64.wrap ((i64.wrap ((i64.wrap ((e4 x k)+1))+1))+1))) none (cond (((x.fA).an).cL != (i64.wrap ((i64.wrap ((i64.wrap ((i64.wrap ((e4 x k)+1))+1))+1))+1))) none (cond (((x.fA).an).cE != (i64.wrap ((i64.wrap ((i64.wrap ((i64.wrap ((i64.wrap ((e4 x k)+1))+1))+1))+1))+1))) none (cond (((x.fA).an).dG != (i64.wrap ((i64.wrap ((i64.wrap ((i64.wrap ((i64.wrap ((i64.wrap ((e4 x k)+1))+1))+1))+1))+1))+1))) none (cond (((x.fA).an).dY != (i64.wrap ((i64.wrap ((i64.wrap ((i64.wrap ((i64.wrap ((i64.wrap ((i64.wrap ((e4 x k)+1))+1))+1))+1))+1))+1))+1))) none (cond ((e5 x k)<0) none (cond ((((x.fA).an).bU).cO != (e5 x k)) none (cond ((e6 x k)<0) none (cond ((((x.fA).an).bF).cO != (e6 x k)) none (cond (((x.fA).an).dM != (i64.wrap ((e6 x k)+1))) none (cond ((e7 x k)<0) none (cond ((((x.fA).an).bC).cO != (e7 x k)) none (cond (!(((x.fA).an).bD==((Int.tmod (i64.wrap ((e7 x k)+1)) 3)==0))) none (cond ((e8 x k)<0) none (cond (((x.fB).an).bz != (e8 x k)) none (cond (((x.fB).an).cU != (i64.wrap ((e8 x k)+1))) none (cond (((x.fB).an).bJ != (i64.wrap ((i64.wrap ((e8 x k)+1))+1))) none (cond (((x.fB).an).cT != (i64.wrap ((i64.wrap ((i64.wrap ((e8 x k)+1))+1))+1))) none (cond (((x.fB).an).cL != (i64.wrap ((i64.wrap ((i64.wrap ((i64.wrap ((e8 x k)+1))+1))+1))+1))) none (cond (((x.fB).an).cE != (i64.wrap ((i64.wrap ((i64.wrap ((i64.wrap ((i64.wrap ((e8 x k)+1))+1))+1))+1))+1))) none (cond (((x.fB).an).dG != (i64.wrap ((i64.wrap ((i64.wrap ((i64.wrap ((i64.wrap ((i64.wrap ((e8 x k)+1))+1))+1))+1))+1))+1))) none (cond (((x.fB).an).dY != (i64.wrap ((i64.wrap ((i64.wrap ((i64.wrap ((i64.wrap ((i64.wrap ((i64.wrap ((e8 x k)+1))+1))+1))+1))+1))+1))+1))) none (cond ((e9 x k)<0) none (cond ((((x.fB).an).bU).cO != (e9 x k)) none (cond ((zl x k)<0) none (cond ((((x.fB).an).bF).cO != (zl x k)) none (cond (((x.fB).an).dM != (i64.wrap ((zl x k)+1))) none (cond ((zk x k)<0) none (cond ((((x.fB).an).bC).cO != (zk x k)) none (cond (!(((x.fB).an).bD==((Int.tmod (i64.wrap ((zk x k)+1)) 3)==0))) none (cond ((BF x k)<0) none (some (BF x k)))))))))))))))))))))))))))))))))))))))))))))))))))))
def uq (x:aG)(k k2:Int)(hk:eS k)(h:f x k=some k2):eS k2:=by
 unfold f at h
 have h:=bg h
 have h:=bg h
 have h:=bg h
 have h:=bg h
 have h:=bg h
 have h:=bg h
 have h:=bg h
 have h:=bg h
 have h:=bg h
 have h:=bg h
 have h:=bg h
 have h:=bg h
 have h:=bg h
 have h:=bg h
 have h:=bg h
 have h:=bg h
 have h:=bg h
 have h:=bg h
 have h:=bg h
 have h:=bg h
 have h:=bg h
 have h:=bg h
 have h:=bg h
 have h:=bg h
 have h:=bg h
 have h:=bg h
 have h:=bg h
 have h:=bg h
 have h:=bg h
 have h:=bg h
 have h:=bg h
 have h:=bg h
 have h:=bg h
 have h:=bg h
 have h:=bg h
 have h:=bg h
 have h:=bg h
 have h:=bg h
 have h:=bg h
 have h:=bg h
 have h:=bg h
 have h:=bg h
 have h:=bg h
 have h:=bg h
 have h:=bg h
 have h:=bg h
 have h:=bg h
 have h:=bg h
 have h:=bg h
 have h:=bg h
 have h:=bg h
 injection h with h
 subst h
 exact (Z318.iq (bS _))
def md (a0:List aG)(a1:Int):Int:=jC f a0 a1
def gd (a0:List aG)(a1:Int):Prop:=eS a1
def acc (ls:List L):aB×Int:=((dc ls),(dH 1 ls))
def R:(aB×Int)->Option Int:=cm gd md
def ak {a0 a1}(h:gd a0 a1):R ((a0.map aG.row),a1)=some (md a0 a1):=cq h
def aT:gh:=CN pats res acc R
def aY (a0:List aG)(a1:Int)(hg:gd a0 a1)(h0:a0.length<=maxLen):∃n,start (iter step n) (a0.map aG.row) a1=ret ((md a0 a1):Int):=by
 show ∃n,iter step n (Pt.p0 (a0.map aG.row) a1 0)=_
 refine jh (f:=f) (xs:=a0) aG.zero eS uq (pt:=fun i k=>Pt.p0 (a0.map aG.row) k (i:Int)) (fun J i k hi hk=>?_) (fun J k=>?_) hg
 ·simp only [step,SS]
  refine aj (aK hi) (aj aD ?_)
  refine aj (aK hi) (bw rfl ?_)
  refine aj aD (aj (aK hi) ?_)
  refine bw rfl (aj aD ?_)
  refine aj (aK hi) (bw rfl ?_)
  refine aj aD (aj (aK hi) ?_)
  refine bw rfl (aj aD ?_)
  refine aj (aK hi) (bw rfl ?_)
  refine aj aD (aj (aK hi) ?_)
  refine bw rfl (aj aD ?_)
  refine aj (aK hi) (bw rfl ?_)
  refine aj aD (aj (aK hi) ?_)
  refine bw rfl (aj aD ?_)
  refine aj (aK hi) (aU _ (Z317.ak (bS _)) ?_)
  refine bw rfl (aj aD ?_)
  refine aj (aK hi) (bw rfl ?_)
  refine aj aD (aj (aK hi) ?_)
  refine aU _ (Z317.ak (bS _)) (bw rfl ?_)
  refine aj aD (aj (aK hi) ?_)
  refine bw rfl (aj aD ?_)
  refine aj (aK hi) (bw rfl ?_)
  refine aj aD (aj (aK hi) ?_)
  refine aU _ (Z317.ak (bS _)) (bw rfl ?_)
  refine aj aD (aj (aK hi) ?_)
  refine bw rfl (aj aD ?_)
  refine aj (aK hi) (bw rfl ?_)
  refine aj aD (aj (aK hi) ?_)
  refine aU _ (Z318.ak (bS _)) (bw rfl ?_)
  refine aj aD (aj (aK hi) ?_)
  refine bw rfl (aj aD ?_)
  refine aj (aK hi) (bw rfl ?_)
  refine aj aD (aj (aK hi) ?_)
  refine bw rfl (aj aD ?_)
  refine aj (aK hi) (bw rfl ?_)
  refine aj aD (aj (aK hi) ?_)
  refine bw rfl (aj aD ?_)
  refine aj (aK hi) (bw rfl ?_)
  refine aj aD (aj (aK hi) ?_)
  refine bw rfl (aj aD ?_)
  refine aj (aK hi) (bw rfl ?_)
  refine aj aD (aj (aK hi) ?_)
  refine aU _ (Z317.ak (bS _)) (bw rfl ?_)
  refine aj aD (aj (aK hi) ?_)
  refine bw rfl (aj aD ?_)
  refine aj (aK hi) (aU _ (Z317.ak (bS _)) ?_)
  refine bw rfl (aj aD ?_)
  refine aj (aK hi) (bw rfl ?_)
  refine aj aD (aj (aK hi) ?_)
  refine bw rfl (aj aD ?_)
  refine aj (aK hi) (aU _ (Z317.ak (bS _)) ?_)
  refine bw rfl (aj aD ?_)
  refine aj (aK hi) (bw rfl ?_)
  refine aj aD (aj (aK hi) ?_)
  refine bw rfl (aj aD ?_)
  refine aj (aK hi) (aU _ (Z318.ak (bS _)) ?_)
  refine bw rfl (aj aD ?_)
  refine aj (aK hi) (bw rfl ?_)
  refine aj aD (aj (aK hi) ?_)
  refine bw rfl (aj aD ?_)
  refine aj (aK hi) (bw rfl ?_)
  refine aj aD (aj (aK hi) ?_)
  refine bw rfl (aj aD ?_)
  refine aj (aK hi) (bw rfl ?_)
  refine aj aD (aj (aK hi) ?_)
  refine bw rfl (aj aD ?_)
  refine aj (aK hi) (bw rfl ?_)
  refine aj aD (aj (aK hi) ?_)
  refine bw rfl (aj aD ?_)
  refine aj (aK hi) (aU _ (Z317.ak (bS _)) ?_)
  refine bw rfl (aj aD ?_)
  refine aj (aK hi) (bw rfl ?_)
  refine aj aD (aj (aK hi) ?_)
  refine aU _ (Z317.ak (bS _)) (bw rfl ?_)
  refine aj aD (aj (aK hi) ?_)
  refine bw rfl (aj aD ?_)
  refine aj (aK hi) (bw rfl ?_)
  refine aj aD (aj (aK hi) ?_)
  refine aU _ (Z317.ak (bS _)) (bw rfl ?_)
  refine aj aD (aj (aK hi) ?_)
  refine bw rfl (aj aD ?_)
  refine aj (aK hi) (bw rfl ?_)
  refine aj aD (aj (aK hi) ?_)
  refine aU _ (Z318.ak (bS _)) (bw rfl ?_)
  rw [aH hi h0]
  rfl
 ·simp only [step,SS]
  refine cW dn ?_
  rfl
def af:cz 120 aT:=VV (run:=fun n x=>start (iter step n) x.1 x.2) mix aC (eP Z317.af Z318.af) Tryz.func120 (by kernel_rfl) run_eq (fun ls a hl e hg=>aY a.1 a.2 hg (by have h:(dc ls).length<=maxLen:=hl.1.len;have e:a.1.map aG.row=(dc ls):=(congrArg (fun x=>x.1) e.symm);rw [<-e] at h;simpa using h))
def iq {a0:List aG}{a1:Int}(h:eS a1):eS (md a0 a1):=kJ uq jr h
def yz (x:aG)(k:Int)(h0:0<=k)(hb:k+(Z305.cnt x:Int)<=4611686018427387904):f (Z305.el x k).2 k=some (k+Z305.cnt x):=by
 simp only [Z305.cnt,Int.natCast_add] at hb ⊢
 simp (disch:=omega) only [Z305.el,f,Z305.e1,Z305.e2,Z305.e3,Z305.e4,Z305.e5,Z305.e6,Z305.e7,Z305.e8,Z305.e9,Z305.zl,Z305.zk,Z305.BF,e1,e2,e3,e4,e5,e6,e7,e8,e9,zl,zk,BF,wi,Z301.kk,Z317.mk,Z302.kk,Z318.mk,bne_self_eq_false,beq_self_eq_true,gV,Bool.not_true,aX,cS]
 all_goals first | done | omega | (congr 1<;>omega)
def mk (a0:List aG)(a1:Int)(h0:0<=a1)(hb:a1+(Z305.sum a0:Int)<=4611686018427387904):md (Z305.md a0 a1).2 a1=a1+Z305.sum a0:=iN Z305.qK yz a0 a1 h0 hb
end Z321
namespace Z322
set_option maxHeartbeats 8000000
def F (x0:bA)(x1:Int):aI:=(call (Z320.R (x0.aM,x1)) fun v1=>(cond (v1<0) bV (call (Z321.R (x0.bu,v1)) fun v2=>(cond (v2<0) bV (ret v2)))))
def e1 (x:aA)(k:Int):=Z320.md x.aM k
def e2 (x:aA)(k:Int):=Z321.md x.bu (e1 x k)
def f (x:aA)(k:Int):Option Int:=(cond ((e1 x k)<0) none (cond ((e2 x k)<0) none (some ((e2 x k)))))
def md (a0:aA)(a1:Int):Int:=mo (f a0 a1)
def gd (a0:aA)(a1:Int):Prop:=eS a1
def R:=cm gd md
def ak {a0 a1}(h:gd a0 a1):R ((aA.r a0),a1)=some (md a0 a1):=cq h
def aT:=CN [.agg xg,pI] oI RT.dec R
def aY (a0)(a1)(hg:gd a0 a1):F (aA.r a0) a1=ret (md a0 a1):=by
 simp only [F,SS]
 refine aU _ (Z320.ak hg) (fT rfl ?_)
 refine aU _ (Z321.ak (Z320.iq hg)) (fT rfl ?_)
 rfl
def af:cz 63 aT:=W2 18 F mix aC aY (eP Z320.af Z321.af) Tryz.func63
def iq {a0:aA}{a1:Int}(hk:eS a1):eS (md a0 a1):=by
 unfold md
 cases h:f a0 a1 with
 | none=>exact jr
 | some k2=>
  unfold f at h
  have h:=bg h
  have h:=bg h
  injection h with h
  subst h
  exact (Z321.iq (Z320.iq hk))
def mk (x:aA)(k:Int)(h0:0<=k)(hb:k+(Z306.sum x:Int)<=4611686018427387904):md (Z306.upd x k) k=k+Z306.sum x:=by
 simp only [Z306.sum,Int.natCast_add] at hb ⊢
 simp (disch:=omega) only [Z306.md,Z306.upd,md,f,mo,Z306.e1,Z306.e2,e1,e2,wi,Z304.kk,Z320.mk,Z305.kk,Z321.mk,aX,cS]
 all_goals first | done | omega
end Z322
namespace Z323
set_option maxHeartbeats 8000000
inductive Pt where
 | p0 (a:aB) (b c:Int)
def pid:Pt->Nat
 | .p0 ..=>2
def cu:Pt->List V
 | .p0 a b c=>[.sl none 9 a,.int .i64 b,.int .i64 c]
def cR:Pt->List aW
 | .p0 a b c=>[]
def step (J:Pt->aI):Pt->aI
 | .p0 a b c=>(cond (c<(a.length:Int)) (m2 c (a.length:Int) (call (Z307.R b) fun v1=>(cond (!((qS a (toNat c))==v1)) bV (J (.p0 a (i64.wrap (b+1)) (i64.wrap (c+1))))))) (ret (b:Int)))
def start (J:Pt->aI)(x0:aB)(x1:Int):aI:=J (.p0 x0 x1 0)
def live:Nat->Live:=fK [(2,gj [0,1,5])]
def pats:List gK:=[.rd (.sl 9),.rd (.int .i64)]
def res:RP:=.one (.rd (.int .i64))
abbrev E:Env:={ T:=assoc lC,G:=dK [(60,Z307.aT)],nt:=22 }
def step_eq (I:cJ)(p:Pt):dh E live I (pid p) (bI Tryz.f121) (fU (live (pid p)) (cu p) (cR p)) (cG E Tryz.f121 res)=step (fun q=>I (pid q) (cu q) (cR q)) p:=by
 cases p<;>kernel_rfl
def start_eq (I:cJ)(ls:List L):fH E live I (bI Tryz.f121) (dF pats ls) (cG E Tryz.f121 res)=start (fun q=>I (pid q) (cu q) (cR q)) (dc ls) (dH 1 ls):=by kernel_rfl
def run_eq (n:Nat)(ls:List L):eY E live Tryz.f121 res n (dF pats ls)=start (iter step n) (dc ls) (dH 1 ls):=cB (id:=pid) (vs:=cu) (hs:=cR) (step:=step) (start:=fun J=>start J (dc ls) (dH 1 ls)) step_eq (fun I=>start_eq I ls) n
def f (x:aE)(k:Int):Option Int:=(cond (!(x==(Z307.md k))) none (some (i64.wrap (k+1))))
def uq (x:aE)(k k2:Int)(hk:eS k)(h:f x k=some k2):eS k2:=by
 unfold f at h
 have h:=bg h
 injection h with h
 subst h
 exact (bS _)
def md (a0:List aE)(a1:Int):Int:=jC f a0 a1
def gd (a0:List aE)(a1:Int):Prop:=eS a1
def acc (ls:List L):aB×Int:=((dc ls),(dH 1 ls))
def R:(aB×Int)->Option Int:=cm gd md
def ak {a0 a1}(h:gd a0 a1):R ((a0.map cX),a1)=some (md a0 a1):=cq h
def aT:gh:=CN pats res acc R
def aY (a0:List aE)(a1:Int)(hg:gd a0 a1)(h0:a0.length<=maxLen):∃n,start (iter step n) (a0.map cX) a1=ret ((md a0 a1):Int):=by
 show ∃n,iter step n (Pt.p0 (a0.map cX) a1 0)=_
 refine jh (f:=f) (xs:=a0) ⟨#[]⟩ eS uq (pt:=fun i k=>Pt.p0 (a0.map cX) k (i:Int)) (fun J i k hi hk=>?_) (fun J k=>?_) hg
 ·simp only [step,SS]
  refine aj (aK hi) (aj aD ?_)
  refine aj (aK hi) (aU _ (Z307.ak hk) ?_)
  refine bw rfl ?_
  rw [aH hi h0]
  rfl
 ·simp only [step,SS]
  refine cW dn ?_
  rfl
def af:cz 121 aT:=VV (run:=fun n x=>start (iter step n) x.1 x.2) mix aC (cD Z307.af) Tryz.func121 (by kernel_rfl) run_eq (fun ls a hl e hg=>aY a.1 a.2 hg (by have h:(dc ls).length<=maxLen:=hl.1.len;have e:a.1.map cX=(dc ls):=(congrArg (fun x=>x.1) e.symm);rw [<-e] at h;simpa using h))
def iq {a0:List aE}{a1:Int}(h:eS a1):eS (md a0 a1):=kJ uq jr h
def yz (x:aE)(k:Int)(h0:0<=k)(hb:k+(Z308.cnt x:Int)<=4611686018427387904):f (Z308.el x k).2 k=some (k+Z308.cnt x):=by
 simp only [Z308.cnt,Int.natCast_add] at hb ⊢
 simp (disch:=omega) only [Z308.el,f,wi,bne_self_eq_false,beq_self_eq_true,gV,Bool.not_true,aX,cS]
 all_goals first | done | omega | (congr 1<;>omega)
def mk (a0:List aE)(a1:Int)(h0:0<=a1)(hb:a1+(Z308.sum a0:Int)<=4611686018427387904):md (Z308.md a0 a1).2 a1=a1+Z308.sum a0:=iN Z308.qK yz a0 a1 h0 hb
end Z323
namespace Z324
set_option maxHeartbeats 8000000
def F (x0:bK)(x1:Int):aI:=(call (Z323.R (x0.bh,x1)) fun v1=>(cond (v1<0) bV (ret v1)))
def e1 (x:ah)(k:Int):=Z323.md x.bh k
def f (x:ah)(k:Int):Option Int:=(cond ((e1 x k)<0) none (some ((e1 x k))))
def md (a0:ah)(a1:Int):Int:=mo (f a0 a1)
def gd (a0:ah)(a1:Int):Prop:=eS a1
def R:=cm gd md
def ak {a0 a1}(h:gd a0 a1):R ((ah.r a0),a1)=some (md a0 a1):=cq h
def aT:=CN [.agg tw,pI] oI RT.dec R
def aY (a0)(a1)(hg:gd a0 a1):F (ah.r a0) a1=ret (md a0 a1):=by
 simp only [F,SS]
 refine aU _ (Z323.ak hg) (fT rfl ?_)
 rfl
def af:cz 64 aT:=W2 12 F mix aC aY (cD Z323.af) Tryz.func64
def iq {a0:ah}{a1:Int}(hk:eS a1):eS (md a0 a1):=by
 unfold md
 cases h:f a0 a1 with
 | none=>exact jr
 | some k2=>
  unfold f at h
  have h:=bg h
  injection h with h
  subst h
  exact (Z323.iq hk)
def mk (x:ah)(k:Int)(h0:0<=k)(hb:k+(Z314.sum x:Int)<=4611686018427387904):md (Z314.upd x k) k=k+Z314.sum x:=by
 simp only [Z314.sum,Int.natCast_add] at hb ⊢
 simp (disch:=omega) only [Z314.md,Z314.upd,md,f,mo,Z314.e1,e1,wi,Z308.kk,Z323.mk,aX,cS]
 all_goals first | done | omega
end Z324
namespace Z325
set_option maxHeartbeats 8000000
def F (x0:dU)(x1:Int):aI:=(call (Z322.R (x0.cg,x1)) fun v1=>(cond (v1<0) bV (call (Z324.R (x0.aS,v1)) fun v2=>(cond (v2<0) bV (call (Z317.R (x0.bM,v2)) fun v3=>(cond (v3<0) bV (ret v3)))))))
def e1 (x:bH)(k:Int):=Z322.md x.cg k
def e2 (x:bH)(k:Int):=Z324.md x.aS (e1 x k)
def e3 (x:bH)(k:Int):=Z317.md x.bM (e2 x k)
def f (x:bH)(k:Int):Option Int:=(cond ((e1 x k)<0) none (cond ((e2 x k)<0) none (cond ((e3 x k)<0) none (some ((e3 x k))))))
def md (a0:bH)(a1:Int):Int:=mo (f a0 a1)
def gd (a0:bH)(a1:Int):Prop:=eS a1
def R:=cm gd md
def ak {a0 a1}(h:gd a0 a1):R ((bH.r a0),a1)=some (md a0 a1):=cq h
def aT:=CN [.agg C5,pI] oI RT.dec R
def aY (a0)(a1)(hg:gd a0 a1):F (bH.r a0) a1=ret (md a0 a1):=by
 simp only [F,SS]
 refine aU _ (Z322.ak hg) (fT rfl ?_)
 refine aU _ (Z324.ak (Z322.iq hg)) (fT rfl ?_)
 refine aU _ (Z317.ak (Z324.iq (Z322.iq hg))) (fT rfl ?_)
 rfl
def af:cz 24 aT:=W2 24 F mix aC aY (kC Z322.af Z324.af Z317.af) Tryz.func24
def iq {a0:bH}{a1:Int}(hk:eS a1):eS (md a0 a1):=by
 unfold md
 cases h:f a0 a1 with
 | none=>exact jr
 | some k2=>
  unfold f at h
  have h:=bg h
  have h:=bg h
  have h:=bg h
  injection h with h
  subst h
  exact (Z317.iq (Z324.iq (Z322.iq hk)))
def mk (x:bH)(k:Int)(h0:0<=k)(hb:k+(Z315.sum x:Int)<=4611686018427387904):md (Z315.upd x k) k=k+Z315.sum x:=by
 simp only [Z315.sum,Int.natCast_add] at hb ⊢
 have heldKnown_:=@Z322.mk
 simp only [Z306.upd] at heldKnown_
 have heldEntry_:=@Z324.mk
 simp only [Z314.upd] at heldEntry_
 simp (disch:=omega) only [Z315.md,Z315.upd,md,f,mo,Z315.e1,Z315.e2,Z315.e3,e1,e2,e3,wi,Z306.kk,heldKnown_,Z314.kk,heldEntry_,Z301.kk,Z317.mk,aX,cS]
 all_goals first | done | omega
end Z325
namespace Z326
set_option maxHeartbeats 8000000
inductive Pt where
 | p0 (a:aB) (b c:Int)
def pid:Pt->Nat
 | .p0 ..=>2
def cu:Pt->List V
 | .p0 a b c=>[.sl none 148 a,.int .i64 b,.int .i64 c]
def cR:Pt->List aW
 | .p0 a b c=>[]
def step (J:Pt->aI):Pt->aI
 | .p0 a b c=>(cond (c<(a.length:Int)) (m2 c (a.length:Int) (cond ((bP.at a (toNat c)).bz != b) bV (m2 c (a.length:Int) (call (Z307.R (i64.wrap (b+1))) fun v1=>(cond (!((bP.at a (toNat c)).aV==v1)) bV (m2 c (a.length:Int) (call (Z319.R ((bP.at a (toNat c)).bk.aQ,(i64.wrap ((i64.wrap (b+1))+1)))) fun v2=>(cond (v2<0) bV (m2 c (a.length:Int) (cond (!((bP.at a (toNat c)).bk.cj==((Int.tmod v2 3)==0))) bV (m2 c (a.length:Int) (call (Z307.R (i64.wrap (v2+1))) fun v3=>(cond (!((bP.at a (toNat c)).bk.aS.aV==v3)) bV (m2 c (a.length:Int) (cond ((bP.at a (toNat c)).bk.aS.bJ != (i64.wrap ((i64.wrap (v2+1))+1))) bV (m2 c (a.length:Int) (cond ((bP.at a (toNat c)).bk.aS.bX != (i64.wrap ((i64.wrap ((i64.wrap (v2+1))+1))+1))) bV (m2 c (a.length:Int) (call (Z323.R ((bP.at a (toNat c)).bk.aS.bh,(i64.wrap ((i64.wrap ((i64.wrap ((i64.wrap (v2+1))+1))+1))+1)))) fun v4=>(cond (v4<0) bV (m2 c (a.length:Int) (cond ((bP.at a (toNat c)).bk.dy.eG != v4) bV (m2 c (a.length:Int) (call (Z317.R ((bP.at a (toNat c)).bk.dy.bh,(i64.wrap (v4+1)))) fun v5=>(cond (v5<0) bV (m2 c (a.length:Int) (cond ((bP.at a (toNat c)).bk.dA.eG != v5) bV (m2 c (a.length:Int) (call (Z307.R (i64.wrap (v5+1))) fun v6=>(cond (!((bP.at a (toNat c)).bk.dA.aN.aV==v6)) bV (m2 c (a.length:Int) (cond ((bP.at a (toNat c)).bk.dA.aN.bJ != (i64.wrap ((i64.wrap (v5+1))+1))) bV (m2 c (a.length:Int) (cond ((bP.at a (toNat c)).bk.dA.aN.bX != (i64.wrap ((i64.wrap ((i64.wrap (v5+1))+1))+1))) bV (m2 c (a.length:Int) (call (Z323.R ((bP.at a (toNat c)).bk.dA.aN.bh,(i64.wrap ((i64.wrap ((i64.wrap ((i64.wrap (v5+1))+1))+1))+1)))) fun v7=>(cond (v7<0) bV (m2 c (a.length:Int) (call (Z307.R v7) fun v8=>(cond (!((bP.at a (toNat c)).bk.dA.bT.aV==v8)) bV (m2 c (a.length:Int) (cond ((bP.at a (toNat c)).bk.dA.bT.bJ != (i64.wrap (v7+1))) bV (m2 c (a.length:Int) (cond ((bP.at a (toNat c)).bk.dA.bT.bX != (i64.wrap ((i64.wrap (v7+1))+1))) bV (m2 c (a.length:Int) (call (Z323.R ((bP.at a (toNat c)).bk.dA.bT.bh,(i64.wrap ((i64.wrap ((i64.wrap (v7+1))+1))+1)))) fun v9=>(cond (v9<0) bV (m2 c (a.length:Int) (cond ((bP.at a (toNat c)).bk.dA.dN.eG != v9) bV (m2 c (a.length:Int) (call (Z317.R ((bP.at a (toNat c)).bk.dA.dN.bh,(i64.wrap (v9+1)))) fun v10=>(cond (v10<0) bV (m2 c (a.length:Int) (cond ((bP.at a (toNat c)).bk.dA.cA.eG != v10) bV (m2 c (a.length:Int) (call (Z317.R ((bP.at a (toNat c)).bk.dA.cA.bh,(i64.wrap (v10+1)))) fun v11=>(cond (v11<0) bV (J (.p0 a v11 (i64.wrap (c+1))))))))))))))))))))))))))))))))))))))))))))))))))))))))))))) (ret (b:Int)))
def start (J:Pt->aI)(x0:aB)(x1:Int):aI:=J (.p0 x0 x1 0)
def live:Nat->Live:=fK [(2,gj [0,1,5])]
def pats:List gK:=[.rd (.sl 148),.rd (.int .i64)]
def res:RP:=.one (.rd (.int .i64))
abbrev E:Env:={ T:=assoc lC,G:=dK [(60,Z307.aT),(159,Z319.aT),(121,Z323.aT),(65,Z317.aT)],nt:=278 }
def step_eq (I:cJ)(p:Pt):dh E live I (pid p) (bI Tryz.f107) (fU (live (pid p)) (cu p) (cR p)) (cG E Tryz.f107 res)=step (fun q=>I (pid q) (cu q) (cR q)) p:=by
 cases p<;>kernel_rfl
def start_eq (I:cJ)(ls:List L):fH E live I (bI Tryz.f107) (dF pats ls) (cG E Tryz.f107 res)=start (fun q=>I (pid q) (cu q) (cR q)) (dc ls) (dH 1 ls):=by kernel_rfl
def run_eq (n:Nat)(ls:List L):eY E live Tryz.f107 res n (dF pats ls)=start (iter step n) (dc ls) (dH 1 ls):=cB (id:=pid) (vs:=cu) (hs:=cR) (step:=step) (start:=fun J=>start J (dc ls) (dH 1 ls)) step_eq (fun I=>start_eq I ls) n
def e1 (x:av)(k:Int):=Z319.md ((x.bk).aQ) (i64.wrap ((i64.wrap (k+1))+1))
def e2 (x:av)(k:Int):=Z323.md (((x.bk).aS).bh) (i64.wrap ((i64.wrap ((i64.wrap ((i64.wrap ((e1 x k)+1))+1))+1))+1))
def e3 (x:av)(k:Int):=Z317.md (((x.bk).dy).bh) (i64.wrap ((e2 x k)+1))
def e4 (x:av)(k:Int):=Z323.md ((((x.bk).dA).aN).bh) (i64.wrap ((i64.wrap ((i64.wrap ((i64.wrap ((e3 x k)+1))+1))+1))+1))
def e5 (x:av)(k:Int):=Z323.md ((((x.bk).dA).bT).bh) (i64.wrap ((i64.wrap ((i64.wrap ((e4 x k)+1))+1))+1))
def e6 (x:av)(k:Int):=Z317.md ((((x.bk).dA).dN).bh) (i64.wrap ((e5 x k)+1))
def e7 (x:av)(k:Int):=Z317.md ((((x.bk).dA).cA).bh) (i64.wrap ((e6 x k)+1))
def f (x:av)(k:Int):Option Int:=(cond (x.bz != k) none (cond (!(x.aV==(Z307.md (i64.wrap (k+1))))) none (cond ((e1 x k)<0) none (cond (!((x.bk).cj==((Int.tmod (e1 x k) 3)==0))) none (cond (!(((x.bk).aS).aV==(Z307.md (i64.wrap ((e1 x k)+1))))) none (cond (((x.bk).aS).bJ != (i64.wrap ((i64.wrap ((e1 x k)+1))+1))) none (cond (((x.bk).aS).bX != (i64.wrap ((i64.wrap ((i64.wrap ((e1 x k)+1))+1))+1))) none (cond ((e2 x k)<0) none (cond (((x.bk).dy).eG != (e2 x k)) none (cond ((e3 x k)<0) none (cond (((x.bk).dA).eG != (e3 x k)) none (cond (!((((x.bk).dA).aN).aV==(Z307.md (i64.wrap ((e3 x k)+1))))) none (cond ((((x.bk).dA).aN).bJ != (i64.wrap ((i64.wrap ((e3 x k)+1))+1))) none (cond ((((x.bk).dA).aN).bX != (i64.wrap ((i64.wrap ((i64.wrap ((e3 x k)+1))+1))+1))) none (cond ((e4 x k)<0) none (cond (!((((x.bk).dA).bT).aV==(Z307.md (e4 x k)))) none (cond ((((x.bk).dA).bT).bJ != (i64.wrap ((e4 x k)+1))) none (cond ((((x.bk).dA).bT).bX != (i64.wrap ((i64.wrap ((e4 x k)+1))+1))) none (cond ((e5 x k)<0) none (cond ((((x.bk).dA).dN).eG != (e5 x k)) none (cond ((e6 x k)<0) none (cond ((((x.bk).dA).cA).eG != (e6 x k)) none (cond ((e7 x k)<0) none (some (e7 x k)))))))))))))))))))))))))
def uq (x:av)(k k2:Int)(hk:eS k)(h:f x k=some k2):eS k2:=by
 unfold f at h
 have h:=bg h
 have h:=bg h
 have h:=bg h
 have h:=bg h
 have h:=bg h
 have h:=bg h
 have h:=bg h
 have h:=bg h
 have h:=bg h
 have h:=bg h
 have h:=bg h
 have h:=bg h
 have h:=bg h
 have h:=bg h
 have h:=bg h
 have h:=bg h
 have h:=bg h
 have h:=bg h
 have h:=bg h
 have h:=bg h
 have h:=bg h
 have h:=bg h
 have h:=bg h
 injection h with h
 subst h
 exact (Z317.iq (bS _))
def md (a0:List av)(a1:Int):Int:=jC f a0 a1
def gd (a0:List av)(a1:Int):Prop:=eS a1
def acc (ls:List L):aB×Int:=((dc ls),(dH 1 ls))
def R:(aB×Int)->Option Int:=cm gd md
def ak {a0 a1}(h:gd a0 a1):R ((a0.map av.row),a1)=some (md a0 a1):=cq h
def aT:gh:=CN pats res acc R
def aY (a0:List av)(a1:Int)(hg:gd a0 a1)(h0:a0.length<=maxLen):∃n,start (iter step n) (a0.map av.row) a1=ret ((md a0 a1):Int):=by
 show ∃n,iter step n (Pt.p0 (a0.map av.row) a1 0)=_
 refine jh (f:=f) (xs:=a0) av.zero eS uq (pt:=fun i k=>Pt.p0 (a0.map av.row) k (i:Int)) (fun J i k hi hk=>?_) (fun J k=>?_) hg
 ·simp only [step,SS]
  refine aj (aK hi) (aj aD ?_)
  refine aj (aK hi) (bw rfl ?_)
  refine aj aD (aj (aK hi) ?_)
  refine aU _ (Z307.ak (bS _)) (bw rfl ?_)
  refine aj aD (aj (aK hi) ?_)
  refine aU _ (Z319.ak (bS _)) (bw rfl ?_)
  refine aj aD (aj (aK hi) ?_)
  refine bw rfl (aj aD ?_)
  refine aj (aK hi) (aU _ (Z307.ak (bS _)) ?_)
  refine bw rfl (aj aD ?_)
  refine aj (aK hi) (bw rfl ?_)
  refine aj aD (aj (aK hi) ?_)
  refine bw rfl (aj aD ?_)
  refine aj (aK hi) (aU _ (Z323.ak (bS _)) ?_)
  refine bw rfl (aj aD ?_)
  refine aj (aK hi) (bw rfl ?_)
  refine aj aD (aj (aK hi) ?_)
  refine aU _ (Z317.ak (bS _)) (bw rfl ?_)
  refine aj aD (aj (aK hi) ?_)
  refine bw rfl (aj aD ?_)
  refine aj (aK hi) (aU _ (Z307.ak (bS _)) ?_)
  refine bw rfl (aj aD ?_)
  refine aj (aK hi) (bw rfl ?_)
  refine aj aD (aj (aK hi) ?_)
  refine bw rfl (aj aD ?_)
  refine aj (aK hi) (aU _ (Z323.ak (bS _)) ?_)
  refine bw rfl (aj aD ?_)
  refine aj (aK hi) (aU _ (Z307.ak (Z323.iq (bS _))) ?_)
  refine bw rfl (aj aD ?_)
  refine aj (aK hi) (bw rfl ?_)
  refine aj aD (aj (aK hi) ?_)
  refine bw rfl (aj aD ?_)
  refine aj (aK hi) (aU _ (Z323.ak (bS _)) ?_)
  refine bw rfl (aj aD ?_)
  refine aj (aK hi) (bw rfl ?_)
  refine aj aD (aj (aK hi) ?_)
  refine aU _ (Z317.ak (bS _)) (bw rfl ?_)
  refine aj aD (aj (aK hi) ?_)
  refine bw rfl (aj aD ?_)
  refine aj (aK hi) (aU _ (Z317.ak (bS _)) ?_)
  refine bw rfl ?_
  rw [aH hi h0]
  rfl
 ·simp only [step,SS]
  refine cW dn ?_
  rfl
def af:cz 107 aT:=VV (run:=fun n x=>start (iter step n) x.1 x.2) mix aC (kE Z307.af Z319.af Z323.af Z317.af) Tryz.func107 (by kernel_rfl) run_eq (fun ls a hl e hg=>aY a.1 a.2 hg (by have h:(dc ls).length<=maxLen:=hl.1.len;have e:a.1.map av.row=(dc ls):=(congrArg (fun x=>x.1) e.symm);rw [<-e] at h;simpa using h))
def iq {a0:List av}{a1:Int}(h:eS a1):eS (md a0 a1):=kJ uq jr h
def yz (x:av)(k:Int)(h0:0<=k)(hb:k+(Z309.cnt x:Int)<=4611686018427387904):f (Z309.el x k).2 k=some (k+Z309.cnt x):=by
 simp only [Z309.cnt,Int.natCast_add] at hb ⊢
 simp (disch:=omega) only [Z309.el,f,Z309.e1,Z309.e2,Z309.e3,Z309.e4,Z309.e5,Z309.e6,Z309.e7,e1,e2,e3,e4,e5,e6,e7,wi,Z303.kk,Z319.mk,Z308.kk,Z323.mk,Z301.kk,Z317.mk,bne_self_eq_false,beq_self_eq_true,gV,Bool.not_true,aX,cS]
 all_goals first | done | omega | (congr 1<;>omega)
def mk (a0:List av)(a1:Int)(h0:0<=a1)(hb:a1+(Z309.sum a0:Int)<=4611686018427387904):md (Z309.md a0 a1).2 a1=a1+Z309.sum a0:=iN Z309.qK yz a0 a1 h0 hb
end Z326
namespace Z327
set_option maxHeartbeats 8000000
def F (x0:cH)(x1:Int):aI:=(call (Z326.R (x0.aO,x1)) fun v1=>(cond (v1<0) bV (ret v1)))
def e1 (x:aJ)(k:Int):=Z326.md x.aO k
def f (x:aJ)(k:Int):Option Int:=(cond ((e1 x k)<0) none (some ((e1 x k))))
def md (a0:aJ)(a1:Int):Int:=mo (f a0 a1)
def gd (a0:aJ)(a1:Int):Prop:=eS a1
def R:=cm gd md
def ak {a0 a1}(h:gd a0 a1):R ((aJ.r a0),a1)=some (md a0 a1):=cq h
def aT:=CN [.agg zh,pI] oI RT.dec R
def aY (a0)(a1)(hg:gd a0 a1):F (aJ.r a0) a1=ret (md a0 a1):=by
 simp only [F,SS]
 refine aU _ (Z326.ak hg) (fT rfl ?_)
 rfl
def af:cz 43 aT:=W2 12 F mix aC aY (cD Z326.af) Tryz.func43
def mk (x:aJ)(k:Int)(h0:0<=k)(hb:k+(Z310.sum x:Int)<=4611686018427387904):md (Z310.upd x k) k=k+Z310.sum x:=by
 simp only [Z310.sum,Int.natCast_add] at hb ⊢
 simp (disch:=omega) only [Z310.md,Z310.upd,md,f,mo,Z310.e1,e1,wi,Z309.kk,Z326.mk,aX,cS]
 all_goals first | done | omega
end Z327
namespace Z328
set_option maxHeartbeats 8000000
def F (x0:eB)(x1:Int):aI:=(call (Z325.R (x0.cN,x1)) fun v1=>(cond (v1<0) bV (call (Z327.R (x0.gD,v1)) fun v2=>(cond (v2<0) bV (ret v2)))))
def e1 (x:cK)(k:Int):=Z325.md x.cN k
def e2 (x:cK)(k:Int):=Z327.md x.gD (e1 x k)
def f (x:cK)(k:Int):Option Int:=(cond ((e1 x k)<0) none (cond ((e2 x k)<0) none (some ((e2 x k)))))
def md (a0:cK)(a1:Int):Int:=mo (f a0 a1)
def gd (a0:cK)(a1:Int):Prop:=eS a1
def R:=cm gd md
def ak {a0 a1}(h:gd a0 a1):R ((cK.r a0),a1)=some (md a0 a1):=cq h
def aT:=CN [.agg C6,pI] oI RT.dec R
def aY (a0)(a1)(hg:gd a0 a1):F (cK.r a0) a1=ret (md a0 a1):=by
 simp only [F,SS]
 refine aU _ (Z325.ak hg) (fT rfl ?_)
 refine aU _ (Z327.ak (Z325.iq hg)) (fT rfl ?_)
 rfl
def af:cz 40 aT:=W2 18 F mix aC aY (eP Z325.af Z327.af) Tryz.func40
def mk (x:cK)(k:Int)(h0:0<=k)(hb:k+(Z316.sum x:Int)<=4611686018427387904):md (Z316.upd x k) k=k+Z316.sum x:=by
 simp only [Z316.sum,Int.natCast_add] at hb ⊢
 have heldTrace_:=@Z325.mk
 simp only [Z315.upd] at heldTrace_
 have heldCache_:=@Z327.mk
 simp only [Z310.upd] at heldCache_
 simp (disch:=omega) only [Z316.md,Z316.upd,md,f,mo,Z316.e1,Z316.e2,e1,e2,wi,Z315.kk,heldTrace_,Z310.kk,heldCache_,aX,cS]
 all_goals first | done | omega
end Z328
namespace Z329
def F (x0:bA)(x1:cH)(x2:aB)(x3:Int)(x4:aB)(x5:Int):aI:=(call (Z9.R (x0,1048576)) fun v1=>(cond (v1<0) (ret true) (call (Z17.R (x1,v1)) fun v2=>(cond (v2<0) (ret true) (call (Z22.R (x2,v2)) fun v3=>(cond (v3<0) (ret true) (call (Z10.R (x4,v3)) fun v4=>(cond (v4<0) (ret true) (call (Z33.R x0) fun v5=>(call (Z41.R x1) fun v6=>(call (Z46.R x2) fun v7=>(call (Z34.R x4) fun v8=>(call (Z140.R (v5,v6,v7,x3,v8,x5)) fun v9=>(call (Z33.R x0) fun v10=>(call (Z41.R x1) fun v11=>(call (Z46.R x2) fun v12=>(call (Z34.R x4) fun v13=>(call (Z274.R (v10,v11,v12,x3,v13,x5)) fun v14=>(call (Z295.R (v14,v9)) fun v15=>(cond (!v15) (ret false) (call (Z33.R x0) fun v16=>(call (Z285.R (v10,v16)) fun v17=>(cond (!v17) (ret false) (call (Z41.R x1) fun v18=>(call (Z294.R (v11,v18)) fun v19=>(cond (!v19) (ret false) (call (Z46.R x2) fun v20=>(call (Z300.R (v12,v20)) fun v21=>(cond (!v21) (ret false) (call (Z34.R x4) fun v22=>(call (Z286.R (v13,v22)) fun v23=>(cond (!v23) (ret false) (call (Z306.R (v10,1)) fun v24=>(call (Z310.R (v11,v24.1)) fun v25=>(call (Z313.R (v12,v25.1)) fun v26=>(call (Z308.R (v13,v26.1)) fun v27=>(cond (v27.1<0) (ret false) (call (Z295.R (v14,v9)) fun v28=>(cond (!v28) (ret false) (call (Z316.R (v14,1)) fun v29=>(call (Z328.R ((⟨(⟨(⟨v29.2.1,v29.2.2.1⟩),v14.cN.ij,(⟨v14.cN.aS.aV,v14.cN.aS.bJ,v14.cN.aS.bX,v29.2.2.2.1⟩),v29.2.2.2.2.1,v14.cN.fV⟩),(⟨v29.2.2.2.2.2⟩)⟩),1)) fun v30=>(cond (v30<0) (ret false) (cond (v30 != v29.1) (ret false) (call (Z33.R x0) fun v31=>(call (Z41.R x1) fun v32=>(call (Z46.R x2) fun v33=>(call (Z34.R x4) fun v34=>(call (Z274.R (v31,v32,v33,x3,v34,x5)) fun v35=>(call (Z295.R (v35,v9)) fun v36=>(cond (!v36) (ret false) (call (Z328.R ((⟨(⟨(⟨v29.2.1,v29.2.2.1⟩),v14.cN.ij,(⟨v14.cN.aS.aV,v14.cN.aS.bJ,v14.cN.aS.bX,v29.2.2.2.1⟩),v29.2.2.2.2.1,v14.cN.fV⟩),(⟨v29.2.2.2.2.2⟩)⟩),1)) fun v37=>(cond (v37<0) (ret false) (cond (v37 != v29.1) (ret false) (ret true))))))))))))))))))))))))))))))))))))))))))))))))))))))
def pats:List gK:=[.agg [.sl 152,.sl 162],.agg [.sl 171],.rd (.sl 115),.rd (.int .i64),.rd (.sl 9),.rd (.int .i64)]
def res:RP:=.one (.rd (.bool))
def md (a0:aA)(a1:aJ)(a2:List ay)(a3:Int)(a4:List aE)(a5:Int):Bool:=true
def gd (a0:aA)(a1:aJ)(a2:List ay)(a3:Int)(a4:List aE)(a5:Int):Prop:=(aA.Sm maxLen a0)/\(aJ.Sm maxLen a1)/\(bN maxLen (fun y:ay=>ay.Sm maxLen y) a2)/\(bN maxLen (fun y:aE=>y.size<=maxLen) a4)
def acc (ls:List L):bA×cH×aB×Int×aB×Int:=((bA.dec ls),(cH.dec (bE 2 ls)),(eR 3 ls),(dH 4 ls),(eR 5 ls),(dH 6 ls))
def R:(bA×cH×aB×Int×aB×Int)->Option Bool:=zq gd md
def ak {a0 a1 a2 a3 a4 a5}(h:gd a0 a1 a2 a3 a4 a5):R ((aA.r a0),(aJ.r a1),(a2.map ay.row),a3,(a4.map cX),a5)=some (md a0 a1 a2 a3 a4 a5):=Ah h
def aT:gh:=CN pats res acc R
def aY (a0:aA)(a1:aJ)(a2:List ay)(a3:Int)(a4:List aE)(a5:Int)(hg:gd a0 a1 a2 a3 a4 a5):F (aA.r a0) (aJ.r a1) (a2.map ay.row) a3 (a4.map cX) a5=ret ((md a0 a1 a2 a3 a4 a5):Bool):=by
 show (call (Z9.R ((aA.r a0),1048576)) fun v1=>(bif (decide (v1<0)) then gA else (call (Z17.R ((aJ.r a1),v1)) fun v2=>(bif (decide (v2<0)) then gA else (call (Z22.R ((a2.map ay.row),v2)) fun v3=>(bif (decide (v3<0)) then gA else (call (Z10.R ((a4.map cX),v3)) fun v4=>(bif (decide (v4<0)) then gA else (call (Z33.R (aA.r a0)) fun v5=>(call (Z41.R (aJ.r a1)) fun v6=>(call (Z46.R (a2.map ay.row)) fun v7=>(call (Z34.R (a4.map cX)) fun v8=>(call (Z140.R (v5,v6,v7,a3,v8,a5)) fun v9=>(call (Z33.R (aA.r a0)) fun v10=>(call (Z41.R (aJ.r a1)) fun v11=>(call (Z46.R (a2.map ay.row)) fun v12=>(call (Z34.R (a4.map cX)) fun v13=>(call (Z274.R (v10,v11,v12,a3,v13,a5)) fun v14=>(call (Z295.R (v14,v9)) fun v15=>(bif (!v15) then dx else (call (Z33.R (aA.r a0)) fun v16=>(call (Z285.R (v10,v16)) fun v17=>(bif (!v17) then dx else (call (Z41.R (aJ.r a1)) fun v18=>(call (Z294.R (v11,v18)) fun v19=>(bif (!v19) then dx else (call (Z46.R (a2.map ay.row)) fun v20=>(call (Z300.R (v12,v20)) fun v21=>(bif (!v21) then dx else (call (Z34.R (a4.map cX)) fun v22=>(call (Z286.R (v13,v22)) fun v23=>(bif (!v23) then dx else (call (Z306.R (v10,1)) fun v24=>(call (Z310.R (v11,v24.1)) fun v25=>(call (Z313.R (v12,v25.1)) fun v26=>(call (Z308.R (v13,v26.1)) fun v27=>(bif (decide (v27.1<0)) then dx else (call (Z295.R (v14,v9)) fun v28=>(bif (!v28) then dx else (call (Z316.R (v14,1)) fun v29=>(call (Z328.R ((⟨(⟨(⟨v29.2.1,v29.2.2.1⟩:bA),v14.cN.ij,(⟨v14.cN.aS.aV,v14.cN.aS.bJ,v14.cN.aS.bX,v29.2.2.2.1⟩:bK),v29.2.2.2.2.1,v14.cN.fV⟩:dU),(⟨v29.2.2.2.2.2⟩:cH)⟩:eB),1)) fun v30=>(bif (decide (v30<0)) then dx else (bif (v30 != v29.1) then dx else (call (Z33.R (aA.r a0)) fun v31=>(call (Z41.R (aJ.r a1)) fun v32=>(call (Z46.R (a2.map ay.row)) fun v33=>(call (Z34.R (a4.map cX)) fun v34=>(call (Z274.R (v31,v32,v33,a3,v34,a5)) fun v35=>(call (Z295.R (v35,v9)) fun v36=>(bif (!v36) then dx else (call (Z328.R ((⟨(⟨(⟨v29.2.1,v29.2.2.1⟩:bA),v14.cN.ij,(⟨v14.cN.aS.aV,v14.cN.aS.bJ,v14.cN.aS.bX,v29.2.2.2.1⟩:bK),v29.2.2.2.2.1,v14.cN.fV⟩:dU),(⟨v29.2.2.2.2.2⟩:cH)⟩:eB),1)) fun v37=>(cond (v37<0) dx (cond (v37 != v29.1) dx gA)))))))))))))))))))))))))))))))))))))))))))))))))))))=_
 rw [call_eq (Z9.ak ⟨hg.1,by omega,by omega⟩)]
 unfold Z9.md
 by_cases c0:(1048576:Int)<(((aA.size a0):Nat):Int)
 ·rw [bZ c0];rfl
 rw [cQ c0,cS (by omega)]
 simp only [aX]
 have s0:aA.Sm (2^20) a0:=(aA.eZ (by omega))
 rw [call_eq (Z17.ak ⟨hg.2.1,by omega,by omega⟩)]
 unfold Z17.md
 by_cases c1:(1048576 - (((aA.size a0):Nat):Int):Int)<(((aJ.size a1):Nat):Int)
 ·rw [bZ c1];rfl
 rw [cQ c1,cS (by omega)]
 simp only [aX]
 have s1:aJ.Sm (2^20) a1:=(aJ.eZ (by omega))
 rw [call_eq (Z22.ak ⟨hg.2.2.1,by omega,by omega⟩)]
 unfold Z22.md
 by_cases c2:(1048576 - (((aA.size a0):Nat):Int) - (((aJ.size a1):Nat):Int):Int)<(((eC (fun y:ay=>ay.size y) a2):Nat):Int)
 ·rw [bZ c2];rfl
 rw [cQ c2,cS (by omega)]
 simp only [aX]
 have s2:bN (2^20) (fun y:ay=>ay.Sm (2^20) y) a2:=(iX (f:=fun y:ay=>ay.size y) (by omega) (fun x hx=>(ay.eZ hx)))
 rw [call_eq (Z10.ak ⟨hg.2.2.2,by omega,by omega⟩)]
 unfold Z10.md
 by_cases c4:(1048576 - (((aA.size a0):Nat):Int) - (((aJ.size a1):Nat):Int) - (((eC (fun y:ay=>ay.size y) a2):Nat):Int):Int)<(((eC (fun y:aE=>y.size) a4):Nat):Int)
 ·rw [bZ c4];rfl
 rw [cQ c4,cS (by omega)]
 simp only [aX]
 have s4:bN (2^20) (fun y:aE=>y.size<=(2^20)) a4:=(iX (f:=fun y:aE=>y.size) (by omega) (fun x hx=>hx))
 refine aU _ (Z33.ak (aA.cF (by decide) s0)) (aU _ (Z41.ak (aJ.cF (by decide) s1)) ?_)
 refine aU _ (Z46.ak (s2.mono (by decide) (fun x hx=>(ay.cF (by decide) hx)))) (aU _ (Z34.ak (s4.mono (by decide) (fun x hx=>(le_trans hx (by decide))))) ?_)
 refine aU _ (Z140.ak (by
  unfold Z140.gd
  refine ⟨(aA.cF (by decide) s0),(aJ.cF (by decide) s1),(s2.mono (by decide) (fun x hx=>(ay.cF (by decide) hx))),(s4.mono (by decide) (fun x hx=>(le_trans hx (by decide))))⟩)) ?_
 refine aU _ (Z33.ak (aA.cF (by decide) s0)) (aU _ (Z41.ak (aJ.cF (by decide) s1)) ?_)
 refine aU _ (Z46.ak (s2.mono (by decide) (fun x hx=>(ay.cF (by decide) hx)))) (aU _ (Z34.ak (s4.mono (by decide) (fun x hx=>(le_trans hx (by decide))))) ?_)
 have r_:=Z274.ak (a3:=a3) (a5:=a5) (by
  unfold Z274.gd
  refine ⟨(aA.cF (by decide) s0),(aJ.cF (by decide) s1),(s2.mono (by decide) (fun x hx=>(ay.cF (by decide) hx))),(s4.mono (by decide) (fun x hx=>(le_trans hx (by decide))))⟩)
 rw [Z274.br] at r_
 refine aU _ r_ (aU _ (Z295.ak trivial) ?_)
 refine cW (by (simp only [bne_self_eq_false,beq_self_eq_true,gV,gL,Bool.not_true,Z295.md];done)) (aU _ (Z33.ak (aA.cF (by decide) s0)) ?_)
 refine aU _ (Z285.ak trivial) (cW (by (simp only [bne_self_eq_false,beq_self_eq_true,gV,gL,Bool.not_true,Z295.md,Z285.md];done)) ?_)
 refine aU _ (Z41.ak (aJ.cF (by decide) s1)) (aU _ (Z294.ak trivial) ?_)
 refine cW (by (simp only [bne_self_eq_false,beq_self_eq_true,gV,gL,Bool.not_true,Z295.md,Z285.md,Z294.md];done)) (aU _ (Z46.ak (s2.mono (by decide) (fun x hx=>(ay.cF (by decide) hx)))) ?_)
 refine aU _ (Z300.ak trivial) (cW (by (simp only [bne_self_eq_false,beq_self_eq_true,gV,gL,Bool.not_true,Z295.md,Z285.md,Z294.md,Z300.md];done)) ?_)
 refine aU _ (Z34.ak (s4.mono (by decide) (fun x hx=>(le_trans hx (by decide))))) (aU _ (Z286.ak trivial) ?_)
 refine cW (by (simp only [bne_self_eq_false,beq_self_eq_true,gV,gL,Bool.not_true,Z295.md,Z285.md,Z294.md,Z300.md,Z286.md];done)) ?_
 have u1:=Z306.sz a0
 refine aU _ (Z306.ak lP) ?_
 have k2:=Z306.kk a0 1 (by omega) (by omega)
 have u3:=Z310.sz a1
 refine aU _ (Z310.ak (Z306.iq lP)) ?_
 have k4:=Z310.kk a1 ((Z306.md a0 1).1) (by omega) (by omega)
 have u5:=Z313.sz a2
 refine aU _ (Z313.ak (Z310.iq (Z306.iq lP))) ?_
 have k6:=Z313.kk a2 ((Z310.md a1 ((Z306.md a0 1).1)).1) (by omega) (by omega)
 have u7:=Z308.sz a4
 refine aU ((Z308.md a4 ((Z313.md a2 ((Z310.md a1 ((Z306.md a0 1).1)).1)).1)).1,((Z308.md a4 ((Z313.md a2 ((Z310.md a1 ((Z306.md a0 1).1)).1)).1)).2.map cX)) (Z308.ak (Z313.iq (Z310.iq (Z306.iq lP)))) ?_
 have k8:=Z308.kk a4 ((Z313.md a2 ((Z310.md a1 ((Z306.md a0 1).1)).1)).1) (by omega) (by omega)
 refine cW (cS (by omega)) (aU _ (Z295.ak trivial) ?_)
 refine cW (by (simp only [bne_self_eq_false,beq_self_eq_true,gV,gL,Bool.not_true,Z295.md,Z285.md,Z294.md,Z300.md,Z286.md];done)) ?_
 have u9:Z316.sum (Z140.md a0 a1 a2 a3 a4 a5)<=1000000000000000000:=(by
  have h1:=Z316.sz (Z140.md a0 a1 a2 a3 a4 a5)
  have h2:=Z140.sz a0 a1 a2 a3 a4 a5 (by omega) (by omega) (by omega)
  omega)
 refine aU _ (Z316.ak lP) ?_
 have k10:=Z316.kk (Z140.md a0 a1 a2 a3 a4 a5) 1 (by omega) (by omega)
 refine aU _ (Z328.ak (a0:=(⟨(⟨(⟨(Z316.md (Z140.md a0 a1 a2 a3 a4 a5) 1).2.1,(Z316.md (Z140.md a0 a1 a2 a3 a4 a5) 1).2.2.1⟩:aA),(Z140.md a0 a1 a2 a3 a4 a5).cN.ij,(⟨(Z140.md a0 a1 a2 a3 a4 a5).cN.aS.aV,(Z140.md a0 a1 a2 a3 a4 a5).cN.aS.bJ,(Z140.md a0 a1 a2 a3 a4 a5).cN.aS.bX,(Z316.md (Z140.md a0 a1 a2 a3 a4 a5) 1).2.2.2.1⟩:ah),(Z316.md (Z140.md a0 a1 a2 a3 a4 a5) 1).2.2.2.2.1,(Z140.md a0 a1 a2 a3 a4 a5).cN.fV⟩:bH),(⟨(Z316.md (Z140.md a0 a1 a2 a3 a4 a5) 1).2.2.2.2.2⟩:aJ)⟩:cK)) lP) ?_
 have h11:(Z328.md (⟨(⟨(⟨(Z316.md (Z140.md a0 a1 a2 a3 a4 a5) 1).2.1,(Z316.md (Z140.md a0 a1 a2 a3 a4 a5) 1).2.2.1⟩:aA),(Z140.md a0 a1 a2 a3 a4 a5).cN.ij,(⟨(Z140.md a0 a1 a2 a3 a4 a5).cN.aS.aV,(Z140.md a0 a1 a2 a3 a4 a5).cN.aS.bJ,(Z140.md a0 a1 a2 a3 a4 a5).cN.aS.bX,(Z316.md (Z140.md a0 a1 a2 a3 a4 a5) 1).2.2.2.1⟩:ah),(Z316.md (Z140.md a0 a1 a2 a3 a4 a5) 1).2.2.2.2.1,(Z140.md a0 a1 a2 a3 a4 a5).cN.fV⟩:bH),(⟨(Z316.md (Z140.md a0 a1 a2 a3 a4 a5) 1).2.2.2.2.2⟩:aJ)⟩:cK) 1)=1+(Z316.sum (Z140.md a0 a1 a2 a3 a4 a5):Int):=Z328.mk (Z140.md a0 a1 a2 a3 a4 a5) 1 (by omega) (by omega)
 refine cW (cS (by omega)) (cW (by (refine bne_eq_false_iff_eq.2 ?_;omega)) ?_)
 refine aU _ (Z33.ak (aA.cF (by decide) s0)) (aU _ (Z41.ak (aJ.cF (by decide) s1)) ?_)
 refine aU _ (Z46.ak (s2.mono (by decide) (fun x hx=>(ay.cF (by decide) hx)))) (aU _ (Z34.ak (s4.mono (by decide) (fun x hx=>(le_trans hx (by decide))))) ?_)
 have r_:=Z274.ak (a3:=a3) (a5:=a5) (by
  unfold Z274.gd
  refine ⟨(aA.cF (by decide) s0),(aJ.cF (by decide) s1),(s2.mono (by decide) (fun x hx=>(ay.cF (by decide) hx))),(s4.mono (by decide) (fun x hx=>(le_trans hx (by decide))))⟩)
 rw [Z274.br] at r_
 refine aU _ r_ (aU _ (Z295.ak trivial) ?_)
 refine cW (by (simp only [bne_self_eq_false,beq_self_eq_true,gV,gL,Bool.not_true,Z295.md,Z285.md,Z294.md,Z300.md,Z286.md];done)) (aU _ (Z328.ak (a0:=(⟨(⟨(⟨(Z316.md (Z140.md a0 a1 a2 a3 a4 a5) 1).2.1,(Z316.md (Z140.md a0 a1 a2 a3 a4 a5) 1).2.2.1⟩:aA),(Z140.md a0 a1 a2 a3 a4 a5).cN.ij,(⟨(Z140.md a0 a1 a2 a3 a4 a5).cN.aS.aV,(Z140.md a0 a1 a2 a3 a4 a5).cN.aS.bJ,(Z140.md a0 a1 a2 a3 a4 a5).cN.aS.bX,(Z316.md (Z140.md a0 a1 a2 a3 a4 a5) 1).2.2.2.1⟩:ah),(Z316.md (Z140.md a0 a1 a2 a3 a4 a5) 1).2.2.2.2.1,(Z140.md a0 a1 a2 a3 a4 a5).cN.fV⟩:bH),(⟨(Z316.md (Z140.md a0 a1 a2 a3 a4 a5) 1).2.2.2.2.2⟩:aJ)⟩:cK)) lP) ?_)
 refine cW (cS (by omega)) (cW (by (refine bne_eq_false_iff_eq.2 ?_;omega)) ?_)
 rfl
def af:cz 5 aT:=VS (live:=fun _=>[]) (nt:=148) (run:=fun _ x=>F x.1 x.2.1 x.2.2.1 x.2.2.2.1 x.2.2.2.2.1 x.2.2.2.2.2) mix aC (.cons Z9.af (.cons Z17.af (.cons Z22.af (.cons Z10.af (.cons Z33.af (.cons Z41.af (.cons Z46.af (.cons Z34.af (.cons Z140.af (.cons Z274.af (.cons Z295.af (.cons Z285.af (.cons Z294.af (.cons Z300.af (.cons Z286.af (.cons Z328.af .nil)))))))))))))))) (.cons Z306.af (.cons Z310.af (.cons Z313.af (.cons Z308.af (.cons Z316.af .nil))))) Tryz.func5 (by kernel_rfl) (fun _ _=>by kernel_rfl) (fun _ a _ _ hg=>⟨0,aY a.1 a.2.1 a.2.2.1 a.2.2.2.1 a.2.2.2.2.1 a.2.2.2.2.2 hg⟩)
def mU (r:List L)(h:eg Ev.cells [.sl 3,au] r):∃x:aR,aR.row x=r/\aR.Sm maxLen x:=by
 obtain ⟨l0,t0,rfl,g0,h1⟩:=h.ef
 obtain ⟨x0,rfl,s0⟩:=gW (show Ev.cells 3=[au] from by kernel_rfl) yx g0
 obtain ⟨l1,t1,rfl,g1,h2⟩:=h1.ef
 obtain ⟨x1,rfl⟩:=gw g1
 obtain rfl:=h2.jd
 exact ⟨⟨x0,x1⟩,rfl,s0⟩
def vF (r:List L)(h:eg Ev.cells [au,au,au,au,au,au,au,au,.sl 3,au,.sl 3,au,au,.sl 3,au,.bool] r):∃x:aF,aF.row x=r/\aF.Sm maxLen x:=by
 obtain ⟨l0,t0,rfl,g0,h1⟩:=h.ef
 obtain ⟨x0,rfl⟩:=gw g0
 obtain ⟨l1,t1,rfl,g1,h2⟩:=h1.ef
 obtain ⟨x1,rfl⟩:=gw g1
 obtain ⟨l2,t2,rfl,g2,h3⟩:=h2.ef
 obtain ⟨x2,rfl⟩:=gw g2
 obtain ⟨l3,t3,rfl,g3,h4⟩:=h3.ef
 obtain ⟨x3,rfl⟩:=gw g3
 obtain ⟨l4,t4,rfl,g4,h5⟩:=h4.ef
 obtain ⟨x4,rfl⟩:=gw g4
 obtain ⟨l5,t5,rfl,g5,h6⟩:=h5.ef
 obtain ⟨x5,rfl⟩:=gw g5
 obtain ⟨l6,t6,rfl,g6,h7⟩:=h6.ef
 obtain ⟨x6,rfl⟩:=gw g6
 obtain ⟨l7,t7,rfl,g7,h8⟩:=h7.ef
 obtain ⟨x7,rfl⟩:=gw g7
 obtain ⟨r8,t8,rfl,g8,h9⟩:=eg.je (a:=[.sl 3,au]) (b:=[.sl 3,au,au,.sl 3,au,.bool]) h8
 obtain ⟨x8,rfl,s8⟩:=mU _ g8
 obtain ⟨r9,t9,rfl,g9,h10⟩:=eg.je (a:=[.sl 3,au]) (b:=[au,.sl 3,au,.bool]) h9
 obtain ⟨x9,rfl,s9⟩:=mU _ g9
 obtain ⟨l10,t10,rfl,g10,h11⟩:=h10.ef
 obtain ⟨x10,rfl⟩:=gw g10
 obtain ⟨r11,t11,rfl,g11,h12⟩:=eg.je (a:=[.sl 3,au]) (b:=[.bool]) h11
 obtain ⟨x11,rfl,s11⟩:=mU _ g11
 obtain ⟨l12,t12,rfl,g12,h13⟩:=h12.ef
 obtain ⟨x12,rfl⟩:=yg g12
 obtain rfl:=h13.jd
 exact ⟨⟨x0,x1,x2,x3,x4,x5,x6,x7,x8,x9,x10,x11,x12⟩,rfl,⟨s8,s9,s11⟩⟩
def xC (r:List L)(h:eg Ev.cells [au,au] r):∃x:bn,bn.row x=r/\bn.Sm maxLen x:=by
 obtain ⟨l0,t0,rfl,g0,h1⟩:=h.ef
 obtain ⟨x0,rfl⟩:=gw g0
 obtain ⟨l1,t1,rfl,g1,h2⟩:=h1.ef
 obtain ⟨x1,rfl⟩:=gw g1
 obtain rfl:=h2.jd
 exact ⟨⟨x0,x1⟩,rfl,trivial⟩
def gP (r:List L)(h:eg Ev.cells [au,au,au,au,au,au,au,au,.sl 3,au,.sl 3,au,au,.sl 3,au,.bool,.sl 315] r):∃x:aa,aa.row x=r/\aa.Sm maxLen x:=by
 obtain ⟨r0,t0,rfl,g0,h1⟩:=eg.je (a:=[au,au,au,au,au,au,au,au,.sl 3,au,.sl 3,au,au,.sl 3,au,.bool]) (b:=[.sl 315]) h
 obtain ⟨x0,rfl,s0⟩:=vF _ g0
 obtain ⟨l1,t1,rfl,g1,h2⟩:=h1.ef
 obtain ⟨x1,rfl,s1⟩:=gW (show Ev.cells 315=[au,au] from by kernel_rfl) xC g1
 obtain rfl:=h2.jd
 exact ⟨⟨x0,x1⟩,rfl,⟨s0,s1⟩⟩
def we (r:List L)(h:eg Ev.cells [au,au,au,au,au,au,au,au,.sl 3,au,.sl 3,au,au,.sl 3,au,.bool,.sl 315,au,au,au,au,au,au,au,au,.sl 3,au,.sl 3,au,au,.sl 3,au,.bool,.sl 315,au,au,au,au,au,au,au,au,.sl 3,au,.sl 3,au,au,.sl 3,au,.bool,.sl 315] r):∃x:aG,aG.row x=r/\aG.Sm maxLen x:=by
 obtain ⟨r0,t0,rfl,g0,h1⟩:=eg.je (a:=[au,au,au,au,au,au,au,au,.sl 3,au,.sl 3,au,au,.sl 3,au,.bool,.sl 315]) (b:=[au,au,au,au,au,au,au,au,.sl 3,au,.sl 3,au,au,.sl 3,au,.bool,.sl 315,au,au,au,au,au,au,au,au,.sl 3,au,.sl 3,au,au,.sl 3,au,.bool,.sl 315]) h
 obtain ⟨x0,rfl,s0⟩:=gP _ g0
 obtain ⟨r1,t1,rfl,g1,h2⟩:=eg.je (a:=[au,au,au,au,au,au,au,au,.sl 3,au,.sl 3,au,au,.sl 3,au,.bool,.sl 315]) (b:=[au,au,au,au,au,au,au,au,.sl 3,au,.sl 3,au,au,.sl 3,au,.bool,.sl 315]) h1
 obtain ⟨x1,rfl,s1⟩:=gP _ g1
 obtain ⟨r2,t2,rfl,g2,h3⟩:=eg.je (a:=[au,au,au,au,au,au,au,au,.sl 3,au,.sl 3,au,au,.sl 3,au,.bool,.sl 315]) (b:=[]) h2
 obtain ⟨x2,rfl,s2⟩:=gP _ g2
 obtain rfl:=h3.jd
 exact ⟨⟨x0,x1,x2⟩,rfl,⟨s0,s1,s2⟩⟩
def wE (r:List L)(h:eg Ev.cells [.sl 152,.sl 162] r):∃x:aA,aA.row x=r/\aA.Sm maxLen x:=by
 obtain ⟨l0,t0,rfl,g0,h1⟩:=h.ef
 obtain ⟨x0,rfl,s0⟩:=gW (show Ev.cells 152=[.sl 160] from by kernel_rfl) (Bq (show Ev.cells 160=[au,au,au,au,au,au,au,au,.sl 3,au,.sl 3,au,au,.sl 3,au,.bool,.sl 315] from by kernel_rfl) gP) g0
 obtain ⟨l1,t1,rfl,g1,h2⟩:=h1.ef
 obtain ⟨x1,rfl,s1⟩:=gW (show Ev.cells 162=[au,au,au,au,au,au,au,au,.sl 3,au,.sl 3,au,au,.sl 3,au,.bool,.sl 315,au,au,au,au,au,au,au,au,.sl 3,au,.sl 3,au,au,.sl 3,au,.bool,.sl 315,au,au,au,au,au,au,au,au,.sl 3,au,.sl 3,au,au,.sl 3,au,.bool,.sl 315] from by kernel_rfl) we g1
 obtain rfl:=h2.jd
 exact ⟨⟨x0,x1⟩,rfl,⟨s0,s1⟩⟩
def jN (r:List L)(h:eg Ev.cells [.str,au,au,.sl 9] r):∃x:ah,ah.row x=r/\ah.Sm maxLen x:=by
 obtain ⟨l0,t0,rfl,g0,h1⟩:=h.ef
 obtain ⟨x0,rfl,s0⟩:=xD g0
 obtain ⟨l1,t1,rfl,g1,h2⟩:=h1.ef
 obtain ⟨x1,rfl⟩:=gw g1
 obtain ⟨l2,t2,rfl,g2,h3⟩:=h2.ef
 obtain ⟨x2,rfl⟩:=gw g2
 obtain ⟨l3,t3,rfl,g3,h4⟩:=h3.ef
 obtain ⟨x3,rfl,s3⟩:=gW (show Ev.cells 9=[.str] from by kernel_rfl) yh g3
 obtain rfl:=h4.jd
 exact ⟨⟨x0,x1,x2,x3⟩,rfl,⟨s0,s3⟩⟩
def lR (r:List L)(h:eg Ev.cells [au,.sl 3] r):∃x:aL,aL.row x=r/\aL.Sm maxLen x:=by
 obtain ⟨l0,t0,rfl,g0,h1⟩:=h.ef
 obtain ⟨x0,rfl⟩:=gw g0
 obtain ⟨l1,t1,rfl,g1,h2⟩:=h1.ef
 obtain ⟨x1,rfl,s1⟩:=gW (show Ev.cells 3=[au] from by kernel_rfl) yx g1
 obtain rfl:=h2.jd
 exact ⟨⟨x0,x1⟩,rfl,s1⟩
def xm (r:List L)(h:eg Ev.cells [au,.str,au,au,.sl 9,.str,au,au,.sl 9,au,.sl 3,au,.sl 3] r):∃x:bL,bL.row x=r/\bL.Sm maxLen x:=by
 obtain ⟨l0,t0,rfl,g0,h1⟩:=h.ef
 obtain ⟨x0,rfl⟩:=gw g0
 obtain ⟨r1,t1,rfl,g1,h2⟩:=eg.je (a:=[.str,au,au,.sl 9]) (b:=[.str,au,au,.sl 9,au,.sl 3,au,.sl 3]) h1
 obtain ⟨x1,rfl,s1⟩:=jN _ g1
 obtain ⟨r2,t2,rfl,g2,h3⟩:=eg.je (a:=[.str,au,au,.sl 9]) (b:=[au,.sl 3,au,.sl 3]) h2
 obtain ⟨x2,rfl,s2⟩:=jN _ g2
 obtain ⟨r3,t3,rfl,g3,h4⟩:=eg.je (a:=[au,.sl 3]) (b:=[au,.sl 3]) h3
 obtain ⟨x3,rfl,s3⟩:=lR _ g3
 obtain ⟨r4,t4,rfl,g4,h5⟩:=eg.je (a:=[au,.sl 3]) (b:=[]) h4
 obtain ⟨x4,rfl,s4⟩:=lR _ g4
 obtain rfl:=h5.jd
 exact ⟨⟨x0,x1,x2,x3,x4⟩,rfl,⟨s1,s2,s3,s4⟩⟩
def tu (r:List L)(h:eg Ev.cells [.sl 160,.bool,.str,au,au,.sl 9,au,.sl 3,au,.str,au,au,.sl 9,.str,au,au,.sl 9,au,.sl 3,au,.sl 3] r):∃x:aq,aq.row x=r/\aq.Sm maxLen x:=by
 obtain ⟨l0,t0,rfl,g0,h1⟩:=h.ef
 obtain ⟨x0,rfl,s0⟩:=gW (show Ev.cells 160=[au,au,au,au,au,au,au,au,.sl 3,au,.sl 3,au,au,.sl 3,au,.bool,.sl 315] from by kernel_rfl) gP g0
 obtain ⟨l1,t1,rfl,g1,h2⟩:=h1.ef
 obtain ⟨x1,rfl⟩:=yg g1
 obtain ⟨r2,t2,rfl,g2,h3⟩:=eg.je (a:=[.str,au,au,.sl 9]) (b:=[au,.sl 3,au,.str,au,au,.sl 9,.str,au,au,.sl 9,au,.sl 3,au,.sl 3]) h2
 obtain ⟨x2,rfl,s2⟩:=jN _ g2
 obtain ⟨r3,t3,rfl,g3,h4⟩:=eg.je (a:=[au,.sl 3]) (b:=[au,.str,au,au,.sl 9,.str,au,au,.sl 9,au,.sl 3,au,.sl 3]) h3
 obtain ⟨x3,rfl,s3⟩:=lR _ g3
 obtain ⟨r4,t4,rfl,g4,h5⟩:=eg.je (a:=[au,.str,au,au,.sl 9,.str,au,au,.sl 9,au,.sl 3,au,.sl 3]) (b:=[]) h4
 obtain ⟨x4,rfl,s4⟩:=xm _ g4
 obtain rfl:=h5.jd
 exact ⟨⟨x0,x1,x2,x3,x4⟩,rfl,⟨s0,s2,s3,s4⟩⟩
def sX (r:List L)(h:eg Ev.cells [au,.str,.sl 160,.bool,.str,au,au,.sl 9,au,.sl 3,au,.str,au,au,.sl 9,.str,au,au,.sl 9,au,.sl 3,au,.sl 3] r):∃x:av,av.row x=r/\av.Sm maxLen x:=by
 obtain ⟨l0,t0,rfl,g0,h1⟩:=h.ef
 obtain ⟨x0,rfl⟩:=gw g0
 obtain ⟨l1,t1,rfl,g1,h2⟩:=h1.ef
 obtain ⟨x1,rfl,s1⟩:=xD g1
 obtain ⟨r2,t2,rfl,g2,h3⟩:=eg.je (a:=[.sl 160,.bool,.str,au,au,.sl 9,au,.sl 3,au,.str,au,au,.sl 9,.str,au,au,.sl 9,au,.sl 3,au,.sl 3]) (b:=[]) h2
 obtain ⟨x2,rfl,s2⟩:=tu _ g2
 obtain rfl:=h3.jd
 exact ⟨⟨x0,x1,x2⟩,rfl,⟨s1,s2⟩⟩
def vo (r:List L)(h:eg Ev.cells [.sl 171] r):∃x:aJ,aJ.row x=r/\aJ.Sm maxLen x:=by
 obtain ⟨l0,t0,rfl,g0,h1⟩:=h.ef
 obtain ⟨x0,rfl,s0⟩:=gW (show Ev.cells 171=[au,.str,.sl 160,.bool,.str,au,au,.sl 9,au,.sl 3,au,.str,au,au,.sl 9,.str,au,au,.sl 9,au,.sl 3,au,.sl 3] from by kernel_rfl) sX g0
 obtain rfl:=h1.jd
 exact ⟨⟨x0⟩,rfl,s0⟩
def wB (r:List L)(h:eg Ev.cells [.sl 160,.sl 164] r):∃x:aP,aP.row x=r/\aP.Sm maxLen x:=by
 obtain ⟨l0,t0,rfl,g0,h1⟩:=h.ef
 obtain ⟨x0,rfl,s0⟩:=gW (show Ev.cells 160=[au,au,au,au,au,au,au,au,.sl 3,au,.sl 3,au,au,.sl 3,au,.bool,.sl 315] from by kernel_rfl) gP g0
 obtain ⟨l1,t1,rfl,g1,h2⟩:=h1.ef
 obtain ⟨x1,rfl,s1⟩:=gW (show Ev.cells 164=[.str,au,au,.sl 9] from by kernel_rfl) jN g1
 obtain rfl:=h2.jd
 exact ⟨⟨x0,x1⟩,rfl,⟨s0,s1⟩⟩
def tv (r:List L)(h:eg Ev.cells [.sl 233,au] r):∃x:ay,ay.row x=r/\ay.Sm maxLen x:=by
 obtain ⟨l0,t0,rfl,g0,h1⟩:=h.ef
 obtain ⟨x0,rfl,s0⟩:=gW (show Ev.cells 233=[.sl 160,.sl 164] from by kernel_rfl) wB g0
 obtain ⟨l1,t1,rfl,g1,h2⟩:=h1.ef
 obtain ⟨x1,rfl⟩:=gw g1
 obtain rfl:=h2.jd
 exact ⟨⟨x0,x1⟩,rfl,s0⟩
def holds (ls:List L)(h:eg Ev.cells ([25,28,66,3,29,3].flatMap Ev.cells) ls):aT.sem ls=some [.bool true]:=by
 have hk:[25,28,66,3,29,3].flatMap Ev.cells=[.sl 152,.sl 162,.sl 171,.sl 115,au,.sl 9,au]:=by kernel_rfl
 rw [hk] at h
 obtain ⟨r0,t0,rfl,g0,h1⟩:=eg.je (a:=[.sl 152,.sl 162]) (b:=[.sl 171,.sl 115,au,.sl 9,au]) h
 obtain ⟨x0,rfl,s0⟩:=wE _ g0
 obtain ⟨r1,t1,rfl,g1,h2⟩:=eg.je (a:=[.sl 171]) (b:=[.sl 115,au,.sl 9,au]) h1
 obtain ⟨x1,rfl,s1⟩:=vo _ g1
 obtain ⟨l2,t2,rfl,g2,h3⟩:=h2.ef
 obtain ⟨x2,rfl,s2⟩:=gW (show Ev.cells 115=[.sl 233,au] from by kernel_rfl) tv g2
 obtain ⟨l3,t3,rfl,g3,h4⟩:=h3.ef
 obtain ⟨x3,rfl⟩:=gw g3
 obtain ⟨l4,t4,rfl,g4,h5⟩:=h4.ef
 obtain ⟨x4,rfl,s4⟩:=gW (show Ev.cells 9=[.str] from by kernel_rfl) yh g4
 obtain ⟨l5,t5,rfl,g5,h6⟩:=h5.ef
 obtain ⟨x5,rfl⟩:=gw g5
 obtain rfl:=h6.jd
 show (R ((aA.r x0),(aJ.r x1),(x2.map ay.row),x3,(x4.map cX),x5)).map RT.enc=_
 rw [ak ⟨s0,s1,s2,s4⟩]
 rfl
end Z329
end Go.DM
end
