/- What the functions compute that the law reaches, and that the law returns true. Conditions: none. -/
import Derived.Test.YtgagkddebgbdmaaGreatResolveOfflineTy
import Derived.Test.YtgagkddebgbdmaaGreatResolveOfflineFnC
set_option linter.all false
set_option maxRecDepth 100000
noncomputable section
namespace Go.DM
open Go.Proofs
open Go.IntKind (i64)
open Int (toNat)
open Nat (le_trans zero_le)
namespace Z298
set_option maxHeartbeats 8000000
def F (x0:dD)(x1:Int):aI:=(call (Z292.R (x0.bV,x1)) fun v1=>(call (Z297.R (x0.aQ,v1.1)) fun v2=>(call (Z287.R (x0.bQ,v2.1)) fun v3=>ret ((v3.1,v1.2.1,v1.2.2,v2.2,v3.2):Int×aD×aD×aD×aD))))
def pats:List (Bool×List K):=[(true,[.sl 120,.sl 180,au,.str,au,au,.sl 9,.sl 3,au]),(false,[au])]
def res:RP:=.pX [120,180,9,3]
def e1 (x:bF)(k:Int):=Z292.md x.bV k
def e2 (x:bF)(k:Int):=Z297.md x.aQ ((e1 x k).1)
def e3 (x:bF)(k:Int):=Z287.md x.bQ ((e2 x k).1)
def sum (x:bF):Nat:=0+Z292.sum x.bV+Z297.sum x.aQ+Z287.sum x.bQ
def md (a0:bF)(a1:Int):Int×List (List aa)×List aF×List aC×List Int:=((e3 a0 a1).1,(e1 a0 a1).2.1,(e1 a0 a1).2.2,(e2 a0 a1).2,(e3 a0 a1).2)
def gd (a0:bF)(a1:Int):Prop:=fo a1
def acc (ls:List L):dD×Int:=((dD.dec ls),((ay 9 ls).headD .hole).toInt)
def R:(dD×Int)->Option (Int×aD×aD×aD×aD):=RR (p2 gd) (u2 md)
def aj {a0 a1}(h:gd a0 a1):R ((bF.r a0),a1)=some ((md a0 a1).1,((md a0 a1).2.1.map (eg aa.row)),((md a0 a1).2.2.1.map aF.row),((md a0 a1).2.2.2.1.map cK),((md a0 a1).2.2.2.2.map bk)):=cB h
def aU:ia:=MN pats acc R
def bh (a0:bF)(a1:Int)(hg:gd a0 a1):F (bF.r a0) a1=ret (((md a0 a1).1,((md a0 a1).2.1.map (eg aa.row)),((md a0 a1).2.2.1.map aF.row),((md a0 a1).2.2.2.1.map cK),((md a0 a1).2.2.2.2.map bk)):Int×aD×aD×aD×aD):=by
 unfold gd at hg
 simp only [F,SS]
 unfold md
 refine aX ((e1 a0 a1).1,((e1 a0 a1).2.1.map (eg aa.row)),((e1 a0 a1).2.2.map aF.row)) (Z292.aj (a0:=a0.bV) (a1:=a1) hg) ?_
 refine aX ((e2 a0 a1).1,((e2 a0 a1).2.map cK)) (Z297.aj (a0:=a0.aQ) (a1:=(e1 a0 a1).1) (Z292.iq hg)) ?_
 refine aX ((e3 a0 a1).1,((e3 a0 a1).2.map bk)) (Z287.aj (a0:=a0.bQ) (a1:=(e2 a0 a1).1) (Z297.iq (Z292.iq hg))) ?_
 first | rfl | (simp only [SS];rfl)
def af:fJ Tryz.prog Ev 23 aU:=MV (live:=fun _=>[]) (nt:=18) (run:=fun _ x=>F x.1 x.2) mix aB .nil (.cons Z292.af (.cons Z297.af (.cons Z287.af .nil))) Tryz.func23 (by kernel_rfl) (fun _ _=>by kernel_rfl) (fun _ a _ _ hg=>⟨0,bh a.1 a.2 hg⟩)
def iq {a0:bF}{a1:Int}(hk:fo a1):fo (md a0 a1).1:=(Z287.iq (Z297.iq (Z292.iq hk)))
def kk (x:bF)(k:Int)(h0:0<=k)(hb:k+(sum x:Int)<=4611686018427387904):(md x k).1=k+sum x:=by
 simp only [sum,Int.natCast_add] at hb ⊢
 simp (disch:=omega) only [md,e1,e2,e3,wi,Z292.kk,Z297.kk,Z287.kk]
 all_goals first | done | omega
def sz (x:bF):sum x<=60*bF.size x:=by
 have:=Z292.sz x.bV
 have:=Z297.sz x.aQ
 have:=Z287.sz x.bQ
 try simp only [sum,bF.size,av.size,ah.size] at *
 omega
def upd (x:bF)(k:Int):bF:=(⟨(⟨(md x k).2.1,(md x k).2.2.1⟩:av),x.gD,(⟨x.aQ.aV,x.aQ.bI,x.aQ.bX,(md x k).2.2.2.1⟩:ah),(md x k).2.2.2.2,x.fu⟩:bF)
end Z298
namespace Z299
set_option maxHeartbeats 8000000
inductive Pt where
 | p0 (a:aD) (b c:Int)
def pid:Pt->Nat
 | .p0 ..=>2
def cG:Pt->List V
 | .p0 a b c=>[.sl none 3 a,.int .i64 b,.int .i64 c]
def cX:Pt->List aW
 | .p0 a b c=>[]
def step (J:Pt->aI):Pt->aI
 | .p0 a b c=>(cond (c<(a.length:Int)) (m2 c (a.length:Int) (cond ((jG a (toNat c)) != b) (ret ((-1):Int)) (J (.p0 a (i64.wrap (b+1)) (i64.wrap (c+1)))))) (ret (b:Int)))
def start (J:Pt->aI)(x0:aD)(x1:Int):aI:=J (.p0 x0 x1 0)
def live:Nat->Live:=fL [(2,gA [0,1,5])]
def pats:List gN:=[.rd (.sl 3),.rd (.int .i64)]
def res:RP:=.one (.rd (.int .i64))
abbrev E:Env:={ T:=assoc mq,G:=dM [],nt:=21 }
def step_eq (I:cR)(p:Pt):dF E live I (pid p) (bP Tryz.f65) (gp (live (pid p)) (cG p) (cX p)) (cP E Tryz.f65 res)=step (fun q=>I (pid q) (cG q) (cX q)) p:=by
 cases p<;>kernel_rfl
def start_eq (I:cR)(ls:List L):fG E live I (bP Tryz.f65) (dJ pats ls) (cP E Tryz.f65 res)=start (fun q=>I (pid q) (cG q) (cX q)) (ls.headD .hole).aS ((ay 1 ls).headD .hole).toInt:=by kernel_rfl
def run_eq (n:Nat)(ls:List L):fc E live Tryz.f65 res n (dJ pats ls)=start (iter step n) (ls.headD .hole).aS ((ay 1 ls).headD .hole).toInt:=cO (id:=pid) (vs:=cG) (hs:=cX) (step:=step) (start:=fun J=>start J (ls.headD .hole).aS ((ay 1 ls).headD .hole).toInt) step_eq (fun I=>start_eq I ls) n
def f (x k:Int):Option Int:=(cond (x != k) none (some (i64.wrap (k+1))))
def wv (x k k2:Int)(hk:fo k)(h:f x k=some k2):fo k2:=by
 unfold f at h
 have h:=bJ h
 injection h with h
 subst h
 exact (cj _)
def md (a0:List Int)(a1:Int):Int:=jQ f a0 a1
def gd (a0:List Int)(a1:Int):Prop:=fo a1
def acc (ls:List L):aD×Int:=((ls.headD .hole).aS,((ay 1 ls).headD .hole).toInt)
def R:(aD×Int)->Option Int:=RR (p2 gd) (u2 md)
def aj {a0 a1}(h:gd a0 a1):R ((a0.map bk),a1)=some (md a0 a1):=cB h
def aU:fY:=CN pats res acc R
def bh (a0:List Int)(a1:Int)(hg:gd a0 a1)(h0:a0.length<=maxLen):∃n,start (iter step n) (a0.map bk) a1=ret ((md a0 a1):Int):=by
 unfold gd at hg
 show ∃n,iter step n (Pt.p0 (a0.map bk) a1 0)=_
 unfold md
 refine jD (f:=f) (xs:=a0) 0 fo wv (pt:=fun i k=>Pt.p0 (a0.map bk) k (i:Int)) (fun J i k hi hk=>?_) (fun J k=>?_) hg
 ·simp only [step,SS]
  refine ak (aP hi) ?_
  refine ak aK ?_
  refine ak (aP hi) ?_
  refine bL rfl ?_
  rw [aJ hi h0]
  rfl
 ·simp only [step,SS]
  refine cY (by apply decide_eq_false;omega) ?_
  rfl
def af:cC 65 aU:=VV (run:=fun n x=>start (iter step n) x.1 x.2) mix aB .nil Tryz.func65 (by kernel_rfl) run_eq (fun ls a hl e hg=>bh a.1 a.2 hg (by have h:(ls.headD .hole).aS.length<=maxLen:=hl.1.len;have e:a.1.map bk=(ls.headD .hole).aS:=(congrArg (fun x=>x.1) e.symm);rw [<-e] at h;simpa using h))
def iq {a0:List Int}{a1:Int}(h:fo a1):fo (md a0 a1):=lK wv ke h
def Ab (x k:Int)(h0:0<=k)(hb:k+(Z287.cnt x:Int)<=4611686018427387904):f (Z287.el x k).2 k=some (k+Z287.cnt x):=by
 simp only [Z287.cnt,Int.natCast_add] at hb ⊢
 simp (disch:=omega) only [Z287.el,f,wi,bne_self_eq_false,beq_self_eq_true,gO,Bool.not_true,bg,dx]
 all_goals first | done | omega | (congr 1<;>omega)
def mk (a0:List Int)(a1:Int)(h0:0<=a1)(hb:a1+(Z287.sum a0:Int)<=4611686018427387904):md (Z287.md a0 a1).2 a1=a1+Z287.sum a0:=iP Z287.uK Ab a0 a1 h0 hb
end Z299
namespace Z300
set_option maxHeartbeats 8000000
inductive Pt where
 | p0 (a:aD) (b c:Int)
def pid:Pt->Nat
 | .p0 ..=>2
def cG:Pt->List V
 | .p0 a b c=>[.sl none 227 a,.int .i64 b,.int .i64 c]
def cX:Pt->List aW
 | .p0 a b c=>[]
def step (J:Pt->aI):Pt->aI
 | .p0 a b c=>(cond (c<(a.length:Int)) (m2 c (a.length:Int) (cond ((bn.at a (toNat c)).iu != b) (ret ((-1):Int)) (m2 c (a.length:Int) (cond ((bn.at a (toNat c)).jM != (i64.wrap (b+1))) (ret ((-1):Int)) (J (.p0 a (i64.wrap ((i64.wrap (b+1))+1)) (i64.wrap (c+1)))))))) (ret (b:Int)))
def start (J:Pt->aI)(x0:aD)(x1:Int):aI:=J (.p0 x0 x1 0)
def live:Nat->Live:=fL [(2,gA [0,1,5])]
def pats:List gN:=[.rd (.sl 227),.rd (.int .i64)]
def res:RP:=.one (.rd (.int .i64))
abbrev E:Env:={ T:=assoc mq,G:=dM [],nt:=31 }
def step_eq (I:cR)(p:Pt):dF E live I (pid p) (bP Tryz.f166) (gp (live (pid p)) (cG p) (cX p)) (cP E Tryz.f166 res)=step (fun q=>I (pid q) (cG q) (cX q)) p:=by
 cases p<;>kernel_rfl
def start_eq (I:cR)(ls:List L):fG E live I (bP Tryz.f166) (dJ pats ls) (cP E Tryz.f166 res)=start (fun q=>I (pid q) (cG q) (cX q)) (ls.headD .hole).aS ((ay 1 ls).headD .hole).toInt:=by kernel_rfl
def run_eq (n:Nat)(ls:List L):fc E live Tryz.f166 res n (dJ pats ls)=start (iter step n) (ls.headD .hole).aS ((ay 1 ls).headD .hole).toInt:=cO (id:=pid) (vs:=cG) (hs:=cX) (step:=step) (start:=fun J=>start J (ls.headD .hole).aS ((ay 1 ls).headD .hole).toInt) step_eq (fun I=>start_eq I ls) n
def f (x:bn)(k:Int):Option Int:=(cond (x.iu != k) none (cond (x.jM != (i64.wrap (k+1))) none (some (i64.wrap ((i64.wrap (k+1))+1)))))
def wv (x:bn)(k k2:Int)(hk:fo k)(h:f x k=some k2):fo k2:=by
 unfold f at h
 have h:=bJ h
 have h:=bJ h
 injection h with h
 subst h
 exact (cj _)
def md (a0:List bn)(a1:Int):Int:=jQ f a0 a1
def gd (a0:List bn)(a1:Int):Prop:=fo a1
def acc (ls:List L):aD×Int:=((ls.headD .hole).aS,((ay 1 ls).headD .hole).toInt)
def R:(aD×Int)->Option Int:=RR (p2 gd) (u2 md)
def aj {a0 a1}(h:gd a0 a1):R ((a0.map bn.row),a1)=some (md a0 a1):=cB h
def aU:fY:=CN pats res acc R
def bh (a0:List bn)(a1:Int)(hg:gd a0 a1)(h0:a0.length<=maxLen):∃n,start (iter step n) (a0.map bn.row) a1=ret ((md a0 a1):Int):=by
 show ∃n,iter step n (Pt.p0 (a0.map bn.row) a1 0)=_
 refine jD (f:=f) (xs:=a0) bn.zero fo wv (pt:=fun i k=>Pt.p0 (a0.map bn.row) k (i:Int)) (fun J i k hi hk=>?_) (fun J k=>?_) hg
 ·simp only [step,SS]
  refine ak (aP hi) (ak aK ?_)
  refine ak (aP hi) (bL rfl ?_)
  refine ak aK (ak (aP hi) ?_)
  refine bL rfl ?_
  rw [aJ hi h0]
  rfl
 ·simp only [step,SS]
  refine cY dn ?_
  rfl
def af:cC 166 aU:=VV (run:=fun n x=>start (iter step n) x.1 x.2) mix aB .nil Tryz.func166 (by kernel_rfl) run_eq (fun ls a hl e hg=>bh a.1 a.2 hg (by have h:(ls.headD .hole).aS.length<=maxLen:=hl.1.len;have e:a.1.map bn.row=(ls.headD .hole).aS:=(congrArg (fun x=>x.1) e.symm);rw [<-e] at h;simpa using h))
def iq {a0:List bn}{a1:Int}(h:fo a1):fo (md a0 a1):=lK wv ke h
def Ab (x:bn)(k:Int)(h0:0<=k)(hb:k+(Z288.cnt x:Int)<=4611686018427387904):f (Z288.el x k).2 k=some (k+Z288.cnt x):=by
 simp only [Z288.cnt,Int.natCast_add] at hb ⊢
 simp (disch:=omega) only [Z288.el,f,wi,bne_self_eq_false,beq_self_eq_true,gO,Bool.not_true,bg,dx]
 all_goals first | done | omega | (congr 1<;>omega)
def mk (a0:List bn)(a1:Int)(h0:0<=a1)(hb:a1+(Z288.sum a0:Int)<=4611686018427387904):md (Z288.md a0 a1).2 a1=a1+Z288.sum a0:=iP Z288.uK Ab a0 a1 h0 hb
end Z300
namespace Z301
set_option maxHeartbeats 8000000
inductive Pt where
 | p0 (a:aD) (b c:Int)
def pid:Pt->Nat
 | .p0 ..=>2
def cG:Pt->List V
 | .p0 a b c=>[.sl none 178 a,.int .i64 b,.int .i64 c]
def cX:Pt->List aW
 | .p0 a b c=>[]
def step (J:Pt->aI):Pt->aI
 | .p0 a b c=>(cond (c<(a.length:Int)) (m2 c (a.length:Int) (cond ((aY.at a (toNat c)).an.bw != b) (ret ((-1):Int)) (m2 c (a.length:Int) (cond ((aY.at a (toNat c)).an.cM != (i64.wrap (b+1))) (ret ((-1):Int)) (m2 c (a.length:Int) (cond ((aY.at a (toNat c)).an.bI != (i64.wrap ((i64.wrap (b+1))+1))) (ret ((-1):Int)) (m2 c (a.length:Int) (cond ((aY.at a (toNat c)).an.cL != (i64.wrap ((i64.wrap ((i64.wrap (b+1))+1))+1))) (ret ((-1):Int)) (m2 c (a.length:Int) (cond ((aY.at a (toNat c)).an.cF != (i64.wrap ((i64.wrap ((i64.wrap ((i64.wrap (b+1))+1))+1))+1))) (ret ((-1):Int)) (m2 c (a.length:Int) (cond ((aY.at a (toNat c)).an.cA != (i64.wrap ((i64.wrap ((i64.wrap ((i64.wrap ((i64.wrap (b+1))+1))+1))+1))+1))) (ret ((-1):Int)) (m2 c (a.length:Int) (cond ((aY.at a (toNat c)).an.dy != (i64.wrap ((i64.wrap ((i64.wrap ((i64.wrap ((i64.wrap ((i64.wrap (b+1))+1))+1))+1))+1))+1))) (ret ((-1):Int)) (m2 c (a.length:Int) (cond ((aY.at a (toNat c)).an.dR != (i64.wrap ((i64.wrap ((i64.wrap ((i64.wrap ((i64.wrap ((i64.wrap ((i64.wrap (b+1))+1))+1))+1))+1))+1))+1))) (ret ((-1):Int)) (m2 c (a.length:Int) (call (Z299.R ((aY.at a (toNat c)).an.bR.aN,(i64.wrap ((i64.wrap ((i64.wrap ((i64.wrap ((i64.wrap ((i64.wrap ((i64.wrap ((i64.wrap (b+1))+1))+1))+1))+1))+1))+1))+1)))) fun v1=>(cond (v1<0) (ret ((-1):Int)) (m2 c (a.length:Int) (cond ((aY.at a (toNat c)).an.bR.cH != v1) (ret ((-1):Int)) (m2 c (a.length:Int) (call (Z299.R ((aY.at a (toNat c)).an.bE.aN,(i64.wrap (v1+1)))) fun v2=>(cond (v2<0) (ret ((-1):Int)) (m2 c (a.length:Int) (cond ((aY.at a (toNat c)).an.bE.cH != v2) (ret ((-1):Int)) (m2 c (a.length:Int) (cond ((aY.at a (toNat c)).an.dB != (i64.wrap (v2+1))) (ret ((-1):Int)) (m2 c (a.length:Int) (call (Z299.R ((aY.at a (toNat c)).an.bB.aN,(i64.wrap ((i64.wrap (v2+1))+1)))) fun v3=>(cond (v3<0) (ret ((-1):Int)) (m2 c (a.length:Int) (cond ((aY.at a (toNat c)).an.bB.cH != v3) (ret ((-1):Int)) (m2 c (a.length:Int) (cond (!((aY.at a (toNat c)).an.bC==((Int.tmod (i64.wrap (v3+1)) 3)==0))) (ret ((-1):Int)) (m2 c (a.length:Int) (call (Z300.R ((aY.at a (toNat c)).cI,(i64.wrap ((i64.wrap (v3+1))+1)))) fun v4=>(cond (v4<0) (ret ((-1):Int)) (J (.p0 a v4 (i64.wrap (c+1)))))))))))))))))))))))))))))))))))))))))) (ret (b:Int)))
def start (J:Pt->aI)(x0:aD)(x1:Int):aI:=J (.p0 x0 x1 0)
def live:Nat->Live:=fL [(2,gA [0,1,5])]
def pats:List gN:=[.rd (.sl 178),.rd (.int .i64)]
def res:RP:=.one (.rd (.int .i64))
abbrev E:Env:={ T:=assoc mq,G:=dM [(65,Z299.aU),(166,Z300.aU)],nt:=190 }
def step_eq (I:cR)(p:Pt):dF E live I (pid p) (bP Tryz.f159) (gp (live (pid p)) (cG p) (cX p)) (cP E Tryz.f159 res)=step (fun q=>I (pid q) (cG q) (cX q)) p:=by
 cases p<;>kernel_rfl
def start_eq (I:cR)(ls:List L):fG E live I (bP Tryz.f159) (dJ pats ls) (cP E Tryz.f159 res)=start (fun q=>I (pid q) (cG q) (cX q)) (ls.headD .hole).aS ((ay 1 ls).headD .hole).toInt:=by kernel_rfl
def run_eq (n:Nat)(ls:List L):fc E live Tryz.f159 res n (dJ pats ls)=start (iter step n) (ls.headD .hole).aS ((ay 1 ls).headD .hole).toInt:=cO (id:=pid) (vs:=cG) (hs:=cX) (step:=step) (start:=fun J=>start J (ls.headD .hole).aS ((ay 1 ls).headD .hole).toInt) step_eq (fun I=>start_eq I ls) n
def e1 (x:aa)(k:Int):=Z299.md (((x.an).bR).aN) (i64.wrap ((i64.wrap ((i64.wrap ((i64.wrap ((i64.wrap ((i64.wrap ((i64.wrap ((i64.wrap (k+1))+1))+1))+1))+1))+1))+1))+1))
def e2 (x:aa)(k:Int):=Z299.md (((x.an).bE).aN) (i64.wrap ((e1 x k)+1))
def e3 (x:aa)(k:Int):=Z299.md (((x.an).bB).aN) (i64.wrap ((i64.wrap ((e2 x k)+1))+1))
def e4 (x:aa)(k:Int):=Z300.md x.cI (i64.wrap ((i64.wrap ((e3 x k)+1))+1))
def f (x:aa)(k:Int):Option Int:=(cond ((x.an).bw != k) none (cond ((x.an).cM != (i64.wrap (k+1))) none (cond ((x.an).bI != (i64.wrap ((i64.wrap (k+1))+1))) none (cond ((x.an).cL != (i64.wrap ((i64.wrap ((i64.wrap (k+1))+1))+1))) none (cond ((x.an).cF != (i64.wrap ((i64.wrap ((i64.wrap ((i64.wrap (k+1))+1))+1))+1))) none (cond ((x.an).cA != (i64.wrap ((i64.wrap ((i64.wrap ((i64.wrap ((i64.wrap (k+1))+1))+1))+1))+1))) none (cond ((x.an).dy != (i64.wrap ((i64.wrap ((i64.wrap ((i64.wrap ((i64.wrap ((i64.wrap (k+1))+1))+1))+1))+1))+1))) none (cond ((x.an).dR != (i64.wrap ((i64.wrap ((i64.wrap ((i64.wrap ((i64.wrap ((i64.wrap ((i64.wrap (k+1))+1))+1))+1))+1))+1))+1))) none (cond ((e1 x k)<0) none (cond (((x.an).bR).cH != (e1 x k)) none (cond ((e2 x k)<0) none (cond (((x.an).bE).cH != (e2 x k)) none (cond ((x.an).dB != (i64.wrap ((e2 x k)+1))) none (cond ((e3 x k)<0) none (cond (((x.an).bB).cH != (e3 x k)) none (cond (!((x.an).bC==((Int.tmod (i64.wrap ((e3 x k)+1)) 3)==0))) none (cond ((e4 x k)<0) none (some (e4 x k)))))))))))))))))))
def wv (x:aa)(k k2:Int)(hk:fo k)(h:f x k=some k2):fo k2:=by
 unfold f at h
 have h:=bJ h
 have h:=bJ h
 have h:=bJ h
 have h:=bJ h
 have h:=bJ h
 have h:=bJ h
 have h:=bJ h
 have h:=bJ h
 have h:=bJ h
 have h:=bJ h
 have h:=bJ h
 have h:=bJ h
 have h:=bJ h
 have h:=bJ h
 have h:=bJ h
 have h:=bJ h
 have h:=bJ h
 injection h with h
 subst h
 exact (Z300.iq (cj _))
def md (a0:List aa)(a1:Int):Int:=jQ f a0 a1
def gd (a0:List aa)(a1:Int):Prop:=fo a1
def acc (ls:List L):aD×Int:=((ls.headD .hole).aS,((ay 1 ls).headD .hole).toInt)
def R:(aD×Int)->Option Int:=RR (p2 gd) (u2 md)
def aj {a0 a1}(h:gd a0 a1):R ((a0.map aa.row),a1)=some (md a0 a1):=cB h
def aU:fY:=CN pats res acc R
def bh (a0:List aa)(a1:Int)(hg:gd a0 a1)(h0:a0.length<=maxLen):∃n,start (iter step n) (a0.map aa.row) a1=ret ((md a0 a1):Int):=by
 show ∃n,iter step n (Pt.p0 (a0.map aa.row) a1 0)=_
 refine jD (f:=f) (xs:=a0) aa.zero fo wv (pt:=fun i k=>Pt.p0 (a0.map aa.row) k (i:Int)) (fun J i k hi hk=>?_) (fun J k=>?_) hg
 ·simp only [step,SS]
  refine ak (aP hi) (ak aK ?_)
  refine ak (aP hi) (bL rfl ?_)
  refine ak aK (ak (aP hi) ?_)
  refine bL rfl (ak aK ?_)
  refine ak (aP hi) (bL rfl ?_)
  refine ak aK (ak (aP hi) ?_)
  refine bL rfl (ak aK ?_)
  refine ak (aP hi) (bL rfl ?_)
  refine ak aK (ak (aP hi) ?_)
  refine bL rfl (ak aK ?_)
  refine ak (aP hi) (bL rfl ?_)
  refine ak aK (ak (aP hi) ?_)
  refine bL rfl (ak aK ?_)
  refine ak (aP hi) (aX _ (Z299.aj (cj _)) ?_)
  refine bL rfl (ak aK ?_)
  refine ak (aP hi) (bL rfl ?_)
  refine ak aK (ak (aP hi) ?_)
  refine aX _ (Z299.aj (cj _)) (bL rfl ?_)
  refine ak aK (ak (aP hi) ?_)
  refine bL rfl (ak aK ?_)
  refine ak (aP hi) (bL rfl ?_)
  refine ak aK (ak (aP hi) ?_)
  refine aX _ (Z299.aj (cj _)) (bL rfl ?_)
  refine ak aK (ak (aP hi) ?_)
  refine bL rfl (ak aK ?_)
  refine ak (aP hi) (bL rfl ?_)
  refine ak aK (ak (aP hi) ?_)
  refine aX _ (Z300.aj (cj _)) (bL rfl ?_)
  rw [aJ hi h0]
  rfl
 ·simp only [step,SS]
  refine cY dn ?_
  rfl
def af:cC 159 aU:=VV (run:=fun n x=>start (iter step n) x.1 x.2) mix aB (eM Z299.af Z300.af) Tryz.func159 (by kernel_rfl) run_eq (fun ls a hl e hg=>bh a.1 a.2 hg (by have h:(ls.headD .hole).aS.length<=maxLen:=hl.1.len;have e:a.1.map aa.row=(ls.headD .hole).aS:=(congrArg (fun x=>x.1) e.symm);rw [<-e] at h;simpa using h))
def iq {a0:List aa}{a1:Int}(h:fo a1):fo (md a0 a1):=lK wv ke h
def Ab (x:aa)(k:Int)(h0:0<=k)(hb:k+(Z289.cnt x:Int)<=4611686018427387904):f (Z289.el x k).2 k=some (k+Z289.cnt x):=by
 simp only [Z289.cnt,Int.natCast_add] at hb ⊢
 simp (disch:=omega) only [Z289.el,f,Z289.e1,Z289.e2,Z289.e3,Z289.e4,e1,e2,e3,e4,wi,Z287.kk,Z299.mk,Z288.kk,Z300.mk,bne_self_eq_false,beq_self_eq_true,gO,Bool.not_true,bg,dx]
 all_goals first | done | omega | (congr 1<;>omega)
def mk (a0:List aa)(a1:Int)(h0:0<=a1)(hb:a1+(Z289.sum a0:Int)<=4611686018427387904):md (Z289.md a0 a1).2 a1=a1+Z289.sum a0:=iP Z289.uK Ab a0 a1 h0 hb
end Z301
namespace Z302
set_option maxHeartbeats 8000000
inductive Pt where
 | p0 (a:aD) (b c:Int)
def pid:Pt->Nat
 | .p0 ..=>2
def cG:Pt->List V
 | .p0 a b c=>[.sl none 120 a,.int .i64 b,.int .i64 c]
def cX:Pt->List aW
 | .p0 a b c=>[]
def step (J:Pt->aI):Pt->aI
 | .p0 a b c=>(cond (c<(a.length:Int)) (m2 c (a.length:Int) (call (Z301.R ((qd a (toNat c)),b)) fun v1=>(cond (v1<0) (ret ((-1):Int)) (J (.p0 a v1 (i64.wrap (c+1))))))) (ret (b:Int)))
def start (J:Pt->aI)(x0:aD)(x1:Int):aI:=J (.p0 x0 x1 0)
def live:Nat->Live:=fL [(2,gA [0,1,5])]
def pats:List gN:=[.rd (.sl 120),.rd (.int .i64)]
def res:RP:=.one (.rd (.int .i64))
abbrev E:Env:={ T:=assoc mq,G:=dM [(159,Z301.aU)],nt:=21 }
def step_eq (I:cR)(p:Pt):dF E live I (pid p) (bP Tryz.f119) (gp (live (pid p)) (cG p) (cX p)) (cP E Tryz.f119 res)=step (fun q=>I (pid q) (cG q) (cX q)) p:=by
 cases p<;>kernel_rfl
def start_eq (I:cR)(ls:List L):fG E live I (bP Tryz.f119) (dJ pats ls) (cP E Tryz.f119 res)=start (fun q=>I (pid q) (cG q) (cX q)) (ls.headD .hole).aS ((ay 1 ls).headD .hole).toInt:=by kernel_rfl
def run_eq (n:Nat)(ls:List L):fc E live Tryz.f119 res n (dJ pats ls)=start (iter step n) (ls.headD .hole).aS ((ay 1 ls).headD .hole).toInt:=cO (id:=pid) (vs:=cG) (hs:=cX) (step:=step) (start:=fun J=>start J (ls.headD .hole).aS ((ay 1 ls).headD .hole).toInt) step_eq (fun I=>start_eq I ls) n
def e1 (x:List aa)(k:Int):=Z301.md x k
def f (x:List aa)(k:Int):Option Int:=(cond ((e1 x k)<0) none (some (e1 x k)))
def wv (x:List aa)(k k2:Int)(hk:fo k)(h:f x k=some k2):fo k2:=by
 unfold f at h
 have h:=bJ h
 injection h with h
 subst h
 exact (Z301.iq hk)
def md (a0:List (List aa))(a1:Int):Int:=jQ f a0 a1
def gd (a0:List (List aa))(a1:Int):Prop:=fo a1
def acc (ls:List L):aD×Int:=((ls.headD .hole).aS,((ay 1 ls).headD .hole).toInt)
def R:(aD×Int)->Option Int:=RR (p2 gd) (u2 md)
def aj {a0 a1}(h:gd a0 a1):R ((a0.map (eg aa.row)),a1)=some (md a0 a1):=cB h
def aU:fY:=CN pats res acc R
def bh (a0:List (List aa))(a1:Int)(hg:gd a0 a1)(h0:a0.length<=maxLen):∃n,start (iter step n) (a0.map (eg aa.row)) a1=ret ((md a0 a1):Int):=by
 show ∃n,iter step n (Pt.p0 (a0.map (eg aa.row)) a1 0)=_
 refine jD (f:=f) (xs:=a0) [] fo wv (pt:=fun i k=>Pt.p0 (a0.map (eg aa.row)) k (i:Int)) (fun J i k hi hk=>?_) (fun J k=>?_) hg
 ·simp only [step,SS]
  refine ak (aP hi) (ak aK ?_)
  refine ak (aP hi) (aX _ (Z301.aj hk) ?_)
  refine bL rfl ?_
  rw [aJ hi h0]
  rfl
 ·simp only [step,SS]
  refine cY dn ?_
  rfl
def af:cC 119 aU:=VV (run:=fun n x=>start (iter step n) x.1 x.2) mix aB (cJ Z301.af) Tryz.func119 (by kernel_rfl) run_eq (fun ls a hl e hg=>bh a.1 a.2 hg (by have h:(ls.headD .hole).aS.length<=maxLen:=hl.1.len;have e:a.1.map (eg aa.row)=(ls.headD .hole).aS:=(congrArg (fun x=>x.1) e.symm);rw [<-e] at h;simpa using h))
def iq {a0:List (List aa)}{a1:Int}(h:fo a1):fo (md a0 a1):=lK wv ke h
def Ab (x:List aa)(k:Int)(h0:0<=k)(hb:k+(Z290.cnt x:Int)<=4611686018427387904):f (Z290.el x k).2 k=some (k+Z290.cnt x):=by
 simp only [Z290.cnt,Int.natCast_add] at hb ⊢
 simp (disch:=omega) only [Z290.el,f,Z290.e1,e1,wi,Z289.kk,Z301.mk,bne_self_eq_false,beq_self_eq_true,gO,Bool.not_true,bg,dx]
 all_goals first | done | omega | (congr 1<;>omega)
def mk (a0:List (List aa))(a1:Int)(h0:0<=a1)(hb:a1+(Z290.sum a0:Int)<=4611686018427387904):md (Z290.md a0 a1).2 a1=a1+Z290.sum a0:=iP Z290.uK Ab a0 a1 h0 hb
end Z302
namespace Z303
set_option maxHeartbeats 8000000
inductive Pt where
 | p0 (a:aD) (b c:Int)
def pid:Pt->Nat
 | .p0 ..=>2
def cG:Pt->List V
 | .p0 a b c=>[.sl none 180 a,.int .i64 b,.int .i64 c]
def cX:Pt->List aW
 | .p0 a b c=>[]
def step (J:Pt->aI):Pt->aI
 | .p0 a b c=>(cond (c<(a.length:Int)) (m2 c (a.length:Int) (cond ((bM.at a (toNat c)).aM.an.bw != b) (ret ((-1):Int)) (m2 c (a.length:Int) (cond ((bM.at a (toNat c)).aM.an.cM != (i64.wrap (b+1))) (ret ((-1):Int)) (m2 c (a.length:Int) (cond ((bM.at a (toNat c)).aM.an.bI != (i64.wrap ((i64.wrap (b+1))+1))) (ret ((-1):Int)) (m2 c (a.length:Int) (cond ((bM.at a (toNat c)).aM.an.cL != (i64.wrap ((i64.wrap ((i64.wrap (b+1))+1))+1))) (ret ((-1):Int)) (m2 c (a.length:Int) (cond ((bM.at a (toNat c)).aM.an.cF != (i64.wrap ((i64.wrap ((i64.wrap ((i64.wrap (b+1))+1))+1))+1))) (ret ((-1):Int)) (m2 c (a.length:Int) (cond ((bM.at a (toNat c)).aM.an.cA != (i64.wrap ((i64.wrap ((i64.wrap ((i64.wrap ((i64.wrap (b+1))+1))+1))+1))+1))) (ret ((-1):Int)) (m2 c (a.length:Int) (cond ((bM.at a (toNat c)).aM.an.dy != (i64.wrap ((i64.wrap ((i64.wrap ((i64.wrap ((i64.wrap ((i64.wrap (b+1))+1))+1))+1))+1))+1))) (ret ((-1):Int)) (m2 c (a.length:Int) (cond ((bM.at a (toNat c)).aM.an.dR != (i64.wrap ((i64.wrap ((i64.wrap ((i64.wrap ((i64.wrap ((i64.wrap ((i64.wrap (b+1))+1))+1))+1))+1))+1))+1))) (ret ((-1):Int)) (m2 c (a.length:Int) (call (Z299.R ((bM.at a (toNat c)).aM.an.bR.aN,(i64.wrap ((i64.wrap ((i64.wrap ((i64.wrap ((i64.wrap ((i64.wrap ((i64.wrap ((i64.wrap (b+1))+1))+1))+1))+1))+1))+1))+1)))) fun v1=>(cond (v1<0) (ret ((-1):Int)) (m2 c (a.length:Int) (cond ((bM.at a (toNat c)).aM.an.bR.cH != v1) (ret ((-1):Int)) (m2 c (a.length:Int) (call (Z299.R ((bM.at a (toNat c)).aM.an.bE.aN,(i64.wrap (v1+1)))) fun v2=>(cond (v2<0) (ret ((-1):Int)) (m2 c (a.length:Int) (cond ((bM.at a (toNat c)).aM.an.bE.cH != v2) (ret ((-1):Int)) (m2 c (a.length:Int) (cond ((bM.at a (toNat c)).aM.an.dB != (i64.wrap (v2+1))) (ret ((-1):Int)) (m2 c (a.length:Int) (call (Z299.R ((bM.at a (toNat c)).aM.an.bB.aN,(i64.wrap ((i64.wrap (v2+1))+1)))) fun v3=>(cond (v3<0) (ret ((-1):Int)) (m2 c (a.length:Int) (cond ((bM.at a (toNat c)).aM.an.bB.cH != v3) (ret ((-1):Int)) (m2 c (a.length:Int) (cond (!((bM.at a (toNat c)).aM.an.bC==((Int.tmod (i64.wrap (v3+1)) 3)==0))) (ret ((-1):Int)) (m2 c (a.length:Int) (call (Z300.R ((bM.at a (toNat c)).aM.cI,(i64.wrap ((i64.wrap (v3+1))+1)))) fun v4=>(cond (v4<0) (ret ((-1):Int)) (m2 c (a.length:Int) (cond ((bM.at a (toNat c)).fA.an.bw != v4) (ret ((-1):Int)) (m2 c (a.length:Int) (cond ((bM.at a (toNat c)).fA.an.cM != (i64.wrap (v4+1))) (ret ((-1):Int)) (m2 c (a.length:Int) (cond ((bM.at a (toNat c)).fA.an.bI != (i64.wrap ((i64.wrap (v4+1))+1))) (ret ((-1):Int)) (m2 c (a.length:Int) (cond ((bM.at a (toNat c)).fA.an.cL != (i64.wrap ((i64.wrap ((i64.wrap (v4+1))+1))+1))) (ret ((-1):Int)) (m2 c (a.length:Int) (cond ((bM.at a (toNat c)).fA.an.cF != (i64.wrap ((i64.wrap ((i64.wrap ((i64.wrap (v4+1))+1))+1))+1))) (ret ((-1):Int)) (m2 c (a.length:Int) (cond ((bM.at a (toNat c)).fA.an.cA != (i64.wrap ((i64.wrap ((i64.wrap ((i64.wrap ((i64.wrap (v4+1))+1))+1))+1))+1))) (ret ((-1):Int)) (m2 c (a.length:Int) (cond ((bM.at a (toNat c)).fA.an.dy != (i64.wrap ((i64.wrap ((i64.wrap ((i64.wrap ((i64.wrap ((i64.wrap (v4+1))+1))+1))+1))+1))+1))) (ret ((-1):Int)) (m2 c (a.length:Int) (cond ((bM.at a (toNat c)).fA.an.dR != (i64.wrap ((i64.wrap ((i64.wrap ((i64.wrap ((i64.wrap ((i64.wrap ((i64.wrap (v4+1))+1))+1))+1))+1))+1))+1))) (ret ((-1):Int)) (m2 c (a.length:Int) (call (Z299.R ((bM.at a (toNat c)).fA.an.bR.aN,(i64.wrap ((i64.wrap ((i64.wrap ((i64.wrap ((i64.wrap ((i64.wrap ((i64.wrap ((i64.wrap (v4+1))+1))+1))+1))+1))+1))+1))+1)))) fun v5=>(cond (v5<0) (ret ((-1):Int)) (m2 c (a.length:Int) (cond ((bM.at a (toNat c)).fA.an.bR.cH != v5) (ret ((-1):Int)) (m2 c (a.length:Int) (call (Z299.R ((bM.at a (toNat c)).fA.an.bE.aN,(i64.wrap (v5+1)))) fun v6=>(cond (v6<0) (ret ((-1):Int)) (m2 c (a.length:Int) (cond ((bM.at a (toNat c)).fA.an.bE.cH != v6) (ret ((-1):Int)) (m2 c (a.length:Int) (cond ((bM.at a (toNat c)).fA.an.dB != (i64.wrap (v6+1))) (ret ((-1):Int)) (m2 c (a.length:Int) (call (Z299.R ((bM.at a (toNat c)).fA.an.bB.aN,(i64.wrap ((i64.wrap (v6+1))+1)))) fun v7=>(cond (v7<0) (ret ((-1):Int)) (m2 c (a.length:Int) (cond ((bM.at a (toNat c)).fA.an.bB.cH != v7) (ret ((-1):Int)) (m2 c (a.length:Int) (cond (!((bM.at a (toNat c)).fA.an.bC==((Int.tmod (i64.wrap (v7+1)) 3)==0))) (ret ((-1):Int)) (m2 c (a.length:Int) (call (Z300.R ((bM.at a (toNat c)).fA.cI,(i64.wrap ((i64.wrap (v7+1))+1)))) fun v8=>(cond (v8<0) (ret ((-1):Int)) (m2 c (a.length:Int) (cond ((bM.at a (toNat c)).fB.an.bw != v8) (ret ((-1):Int)) (m2 c (a.length:Int) (cond ((bM.at a (toNat c)).fB.an.cM != (i64.wrap (v8+1))) (ret ((-1):Int)) (m2 c (a.length:Int) (cond ((bM.at a (toNat c)).fB.an.bI != (i64.wrap ((i64.wrap (v8+1))+1))) (ret ((-1):Int)) (m2 c (a.length:Int) (cond ((bM.at a (toNat c)).fB.an.cL != (i64.wrap ((i64.wrap ((i64.wrap (v8+1))+1))+1))) (ret ((-1):Int)) (m2 c (a.length:Int) (cond ((bM.at a (toNat c)).fB.an.cF != (i64.wrap ((i64.wrap ((i64.wrap ((i64.wrap (v8+1))+1))+1))+1))) (ret ((-1):Int)) (m2 c (a.length:Int) (cond ((bM.at a (toNat c)).fB.an.cA != (i64.wrap ((i64.wrap ((i64.wrap ((i64.wrap ((i64.wrap (v8+1))+1))+1))+1))+1))) (ret ((-1):Int)) (m2 c (a.length:Int) (cond ((bM.at a (toNat c)).fB.an.dy != (i64.wrap ((i64.wrap ((i64.wrap ((i64.wrap ((i64.wrap ((i64.wrap (v8+1))+1))+1))+1))+1))+1))) (ret ((-1):Int)) (m2 c (a.length:Int) (cond ((bM.at a (toNat c)).fB.an.dR != (i64.wrap ((i64.wrap ((i64.wrap ((i64.wrap ((i64.wrap ((i64.wrap ((i64.wrap (v8+1))+1))+1))+1))+1))+1))+1))) (ret ((-1):Int)) (m2 c (a.length:Int) (call (Z299.R ((bM.at a (toNat c)).fB.an.bR.aN,(i64.wrap ((i64.wrap ((i64.wrap ((i64.wrap ((i64.wrap ((i64.wrap ((i64.wrap ((i64.wrap (v8+1))+1))+1))+1))+1))+1))+1))+1)))) fun v9=>(cond (v9<0) (ret ((-1):Int)) (m2 c (a.length:Int) (cond ((bM.at a (toNat c)).fB.an.bR.cH != v9) (ret ((-1):Int)) (m2 c (a.length:Int) (call (Z299.R ((bM.at a (toNat c)).fB.an.bE.aN,(i64.wrap (v9+1)))) fun v10=>(cond (v10<0) (ret ((-1):Int)) (m2 c (a.length:Int) (cond ((bM.at a (toNat c)).fB.an.bE.cH != v10) (ret ((-1):Int)) (m2 c (a.length:Int) (cond ((bM.at a (toNat c)).fB.an.dB != (i64.wrap (v10+1))) (ret ((-1):Int)) (m2 c (a.length:Int) (call (Z299.R ((bM.at a (toNat c)).fB.an.bB.aN,(i64.wrap ((i64.wrap (v10+1))+1)))) fun v11=>(cond (v11<0) (ret ((-1):Int)) (m2 c (a.length:Int) (cond ((bM.at a (toNat c)).fB.an.bB.cH != v11) (ret ((-1):Int)) (m2 c (a.length:Int) (cond (!((bM.at a (toNat c)).fB.an.bC==((Int.tmod (i64.wrap (v11+1)) 3)==0))) (ret ((-1):Int)) (m2 c (a.length:Int) (call (Z300.R ((bM.at a (toNat c)).fB.cI,(i64.wrap ((i64.wrap (v11+1))+1)))) fun v12=>(cond (v12<0) (ret ((-1):Int)) (J (.p0 a v12 (i64.wrap (c+1)))))))))))))))))))))))))))))))))))))))))))))))))))))))))))))))))))))))))))))))))))))))))))))))))))))))))))))))))))))) (ret (b:Int)))
def start (J:Pt->aI)(x0:aD)(x1:Int):aI:=J (.p0 x0 x1 0)
def live:Nat->Live:=fL [(2,gA [0,1,5])]
def pats:List gN:=[.rd (.sl 180),.rd (.int .i64)]
def res:RP:=.one (.rd (.int .i64))
abbrev E:Env:={ T:=assoc mq,G:=dM [(65,Z299.aU),(166,Z300.aU)],nt:=595 }
def step_eq (I:cR)(p:Pt):dF E live I (pid p) (bP Tryz.f120) (gp (live (pid p)) (cG p) (cX p)) (cP E Tryz.f120 res)=step (fun q=>I (pid q) (cG q) (cX q)) p:=by
 cases p<;>kernel_rfl
def start_eq (I:cR)(ls:List L):fG E live I (bP Tryz.f120) (dJ pats ls) (cP E Tryz.f120 res)=start (fun q=>I (pid q) (cG q) (cX q)) (ls.headD .hole).aS ((ay 1 ls).headD .hole).toInt:=by kernel_rfl
def run_eq (n:Nat)(ls:List L):fc E live Tryz.f120 res n (dJ pats ls)=start (iter step n) (ls.headD .hole).aS ((ay 1 ls).headD .hole).toInt:=cO (id:=pid) (vs:=cG) (hs:=cX) (step:=step) (start:=fun J=>start J (ls.headD .hole).aS ((ay 1 ls).headD .hole).toInt) step_eq (fun I=>start_eq I ls) n
def e1 (x:aF)(k:Int):=Z299.md ((((x.aM).an).bR).aN) (i64.wrap ((i64.wrap ((i64.wrap ((i64.wrap ((i64.wrap ((i64.wrap ((i64.wrap ((i64.wrap (k+1))+1))+1))+1))+1))+1))+1))+1))
def e2 (x:aF)(k:Int):=Z299.md ((((x.aM).an).bE).aN) (i64.wrap ((e1 x k)+1))
def e3 (x:aF)(k:Int):=Z299.md ((((x.aM).an).bB).aN) (i64.wrap ((i64.wrap ((e2 x k)+1))+1))
def e4 (x:aF)(k:Int):=Z300.md ((x.aM).cI) (i64.wrap ((i64.wrap ((e3 x k)+1))+1))
def e5 (x:aF)(k:Int):=Z299.md ((((x.fA).an).bR).aN) (i64.wrap ((i64.wrap ((i64.wrap ((i64.wrap ((i64.wrap ((i64.wrap ((i64.wrap ((i64.wrap ((e4 x k)+1))+1))+1))+1))+1))+1))+1))+1))
def e6 (x:aF)(k:Int):=Z299.md ((((x.fA).an).bE).aN) (i64.wrap ((e5 x k)+1))
def e7 (x:aF)(k:Int):=Z299.md ((((x.fA).an).bB).aN) (i64.wrap ((i64.wrap ((e6 x k)+1))+1))
def e8 (x:aF)(k:Int):=Z300.md ((x.fA).cI) (i64.wrap ((i64.wrap ((e7 x k)+1))+1))
def e9 (x:aF)(k:Int):=Z299.md ((((x.fB).an).bR).aN) (i64.wrap ((i64.wrap ((i64.wrap ((i64.wrap ((i64.wrap ((i64.wrap ((i64.wrap ((i64.wrap ((e8 x k)+1))+1))+1))+1))+1))+1))+1))+1))
def za (x:aF)(k:Int):=Z299.md ((((x.fB).an).bE).aN) (i64.wrap ((e9 x k)+1))
def yZ (x:aF)(k:Int):=Z299.md ((((x.fB).an).bB).aN) (i64.wrap ((i64.wrap ((za x k)+1))+1))
def Bx (x:aF)(k:Int):=Z300.md ((x.fB).cI) (i64.wrap ((i64.wrap ((yZ x k)+1))+1))
def f (x:aF)(k:Int):Option Int:=(cond (((x.aM).an).bw != k) none (cond (((x.aM).an).cM != (i64.wrap (k+1))) none (cond (((x.aM).an).bI != (i64.wrap ((i64.wrap (k+1))+1))) none (cond (((x.aM).an).cL != (i64.wrap ((i64.wrap ((i64.wrap (k+1))+1))+1))) none (cond (((x.aM).an).cF != (i64.wrap ((i64.wrap ((i64.wrap ((i64.wrap (k+1))+1))+1))+1))) none (cond (((x.aM).an).cA != (i64.wrap ((i64.wrap ((i64.wrap ((i64.wrap ((i64.wrap (k+1))+1))+1))+1))+1))) none (cond (((x.aM).an).dy != (i64.wrap ((i64.wrap ((i64.wrap ((i64.wrap ((i64.wrap ((i64.wrap (k+1))+1))+1))+1))+1))+1))) none (cond (((x.aM).an).dR != (i64.wrap ((i64.wrap ((i64.wrap ((i64.wrap ((i64.wrap ((i64.wrap ((i64.wrap (k+1))+1))+1))+1))+1))+1))+1))) none (cond ((e1 x k)<0) none (cond ((((x.aM).an).bR).cH != (e1 x k)) none (cond ((e2 x k)<0) none (cond ((((x.aM).an).bE).cH != (e2 x k)) none (cond (((x.aM).an).dB != (i64.wrap ((e2 x k)+1))) none (cond ((e3 x k)<0) none (cond ((((x.aM).an).bB).cH != (e3 x k)) none (cond (!(((x.aM).an).bC==((Int.tmod (i64.wrap ((e3 x k)+1)) 3)==0))) none (cond ((e4 x k)<0) none (cond (((x.fA).an).bw != (e4 x k)) none (cond (((x.fA).an).cM != (i64.wrap ((e4 x k)+1))) none (cond (((x.fA).an).bI != (i64.wrap ((i64.wrap ((e4 x k)+1))+1))) none (cond (((x.fA).an).cL != (i64.wrap ((i64.wrap ((i64.wrap ((e4 x k)+1))+1))+1))) none (cond (((x.fA).an).cF != (i64.wrap ((i64.wrap ((i64.wrap ((i64.wrap ((e4 x k)+1))+1))+1))+1))) none (cond (((x.fA).an).cA != (i64.wrap ((i64.wrap ((i64.wrap ((i64.wrap ((i64.wrap ((e4 x k)+1))+1))+1))+1))+1))) none (cond (((x.fA).an).dy != (i64.wrap ((i64.wrap ((i64.wrap ((i64.wrap ((i64.wrap ((i64.wrap ((e4 x k)+1))+1))+1))+1))+1))+1))) none (cond (((x.fA).an).dR != (i64.wrap ((i64.wrap ((i64.wrap ((i64.wrap ((i64.wrap ((i64.wrap ((i64.wrap ((e4 x k)+1))+1))+1))+1))+1))+1))+1))) none (cond ((e5 x k)<0) none (cond ((((x.fA).an).bR).cH != (e5 x k)) none (cond ((e6 x k)<0) none (cond ((((x.fA).an).bE).cH != (e6 x k)) none (cond (((x.fA).an).dB != (i64.wrap ((e6 x k)+1))) none (cond ((e7 x k)<0) none (cond ((((x.fA).an).bB).cH != (e7 x k)) none (cond (!(((x.fA).an).bC==((Int.tmod (i64.wrap ((e7 x k)+1)) 3)==0))) none (cond ((e8 x k)<0) none (cond (((x.fB).an).bw != (e8 x k)) none (cond (((x.fB).an).cM != (i64.wrap ((e8 x k)+1))) none (cond (((x.fB).an).bI != (i64.wrap ((i64.wrap ((e8 x k)+1))+1))) none (cond (((x.fB).an).cL != (i64.wrap ((i64.wrap ((i64.wrap ((e8 x k)+1))+1))+1))) none (cond (((x.fB).an).cF != (i64.wrap ((i64.wrap ((i64.wrap ((i64.wrap ((e8 x k)+1))+1))+1))+1))) none (cond (((x.fB).an).cA != (i64.wrap ((i64.wrap ((i64.wrap ((i64.wrap ((i64.wrap ((e8 x k)+1))+1))+1))+1))+1))) none (cond (((x.fB).an).dy != (i64.wrap ((i64.wrap ((i64.wrap ((i64.wrap ((i64.wrap ((i64.wrap ((e8 x k)+1))+1))+1))+1))+1))+1))) none (cond (((x.fB).an).dR != (i64.wrap ((i64.wrap ((i64.wrap ((i64.wrap ((i64.wrap ((i64.wrap ((i64.wrap ((e8 x k)+1))+1))+1))+1))+1))+1))+1))) none (cond ((e9 x k)<0) none (cond ((((x.fB).an).bR).cH != (e9 x k)) none (cond ((za x k)<0) none (cond ((((x.fB).an).bE).cH != (za x k)) none (cond (((x.fB).an).dB != (i64.wrap ((za x k)+1))) none (cond ((yZ x k)<0) none (cond ((((x.fB).an).bB).cH != (yZ x k)) none (cond (!(((x.fB).an).bC==((Int.tmod (i64.wrap ((yZ x k)+1)) 3)==0))) none (cond ((Bx x k)<0) none (some (Bx x k)))))))))))))))))))))))))))))))))))))))))))))))))))))
def wv (x:aF)(k k2:Int)(hk:fo k)(h:f x k=some k2):fo k2:=by
 unfold f at h
 have h:=bJ h
 have h:=bJ h
 have h:=bJ h
 have h:=bJ h
 have h:=bJ h
 have h:=bJ h
 have h:=bJ h
 have h:=bJ h
 have h:=bJ h
 have h:=bJ h
 have h:=bJ h
 have h:=bJ h
 have h:=bJ h
 have h:=bJ h
 have h:=bJ h
 have h:=bJ h
 have h:=bJ h
 have h:=bJ h
 have h:=bJ h
 have h:=bJ h
 have h:=bJ h
 have h:=bJ h
 have h:=bJ h
 have h:=bJ h
 have h:=bJ h
 have h:=bJ h
 have h:=bJ h
 have h:=bJ h
 have h:=bJ h
 have h:=bJ h
 have h:=bJ h
 have h:=bJ h
 have h:=bJ h
 have h:=bJ h
 have h:=bJ h
 have h:=bJ h
 have h:=bJ h
 have h:=bJ h
 have h:=bJ h
 have h:=bJ h
 have h:=bJ h
 have h:=bJ h
 have h:=bJ h
 have h:=bJ h
 have h:=bJ h
 have h:=bJ h
 have h:=bJ h
 have h:=bJ h
 have h:=bJ h
 have h:=bJ h
 have h:=bJ h
 injection h with h
 subst h
 exact (Z300.iq (cj _))
def md (a0:List aF)(a1:Int):Int:=jQ f a0 a1
def gd (a0:List aF)(a1:Int):Prop:=fo a1
def acc (ls:List L):aD×Int:=((ls.headD .hole).aS,((ay 1 ls).headD .hole).toInt)
def R:(aD×Int)->Option Int:=RR (p2 gd) (u2 md)
def aj {a0 a1}(h:gd a0 a1):R ((a0.map aF.row),a1)=some (md a0 a1):=cB h
def aU:fY:=CN pats res acc R
def bh (a0:List aF)(a1:Int)(hg:gd a0 a1)(h0:a0.length<=maxLen):∃n,start (iter step n) (a0.map aF.row) a1=ret ((md a0 a1):Int):=by
 show ∃n,iter step n (Pt.p0 (a0.map aF.row) a1 0)=_
 refine jD (f:=f) (xs:=a0) aF.zero fo wv (pt:=fun i k=>Pt.p0 (a0.map aF.row) k (i:Int)) (fun J i k hi hk=>?_) (fun J k=>?_) hg
 ·simp only [step,SS]
  refine ak (aP hi) (ak aK ?_)
  refine ak (aP hi) (bL rfl ?_)
  refine ak aK (ak (aP hi) ?_)
  refine bL rfl (ak aK ?_)
  refine ak (aP hi) (bL rfl ?_)
  refine ak aK (ak (aP hi) ?_)
  refine bL rfl (ak aK ?_)
  refine ak (aP hi) (bL rfl ?_)
  refine ak aK (ak (aP hi) ?_)
  refine bL rfl (ak aK ?_)
  refine ak (aP hi) (bL rfl ?_)
  refine ak aK (ak (aP hi) ?_)
  refine bL rfl (ak aK ?_)
  refine ak (aP hi) (aX _ (Z299.aj (cj _)) ?_)
  refine bL rfl (ak aK ?_)
  refine ak (aP hi) (bL rfl ?_)
  refine ak aK (ak (aP hi) ?_)
  refine aX _ (Z299.aj (cj _)) (bL rfl ?_)
  refine ak aK (ak (aP hi) ?_)
  refine bL rfl (ak aK ?_)
  refine ak (aP hi) (bL rfl ?_)
  refine ak aK (ak (aP hi) ?_)
  refine aX _ (Z299.aj (cj _)) (bL rfl ?_)
  refine ak aK (ak (aP hi) ?_)
  refine bL rfl (ak aK ?_)
  refine ak (aP hi) (bL rfl ?_)
  refine ak aK (ak (aP hi) ?_)
  refine aX _ (Z300.aj (cj _)) (bL rfl ?_)
  refine ak aK (ak (aP hi) ?_)
  refine bL rfl (ak aK ?_)
  refine ak (aP hi) (bL rfl ?_)
  refine ak aK (ak (aP hi) ?_)
  refine bL rfl (ak aK ?_)
  refine ak (aP hi) (bL rfl ?_)
  refine ak aK (ak (aP hi) ?_)
  refine bL rfl (ak aK ?_)
  refine ak (aP hi) (bL rfl ?_)
  refine ak aK (ak (aP hi) ?_)
  refine bL rfl (ak aK ?_)
  refine ak (aP hi) (bL rfl ?_)
  refine ak aK (ak (aP hi) ?_)
  refine aX _ (Z299.aj (cj _)) (bL rfl ?_)
  refine ak aK (ak (aP hi) ?_)
  refine bL rfl (ak aK ?_)
  refine ak (aP hi) (aX _ (Z299.aj (cj _)) ?_)
  refine bL rfl (ak aK ?_)
  refine ak (aP hi) (bL rfl ?_)
  refine ak aK (ak (aP hi) ?_)
  refine bL rfl (ak aK ?_)
  refine ak (aP hi) (aX _ (Z299.aj (cj _)) ?_)
  refine bL rfl (ak aK ?_)
  refine ak (aP hi) (bL rfl ?_)
  refine ak aK (ak (aP hi) ?_)
  refine bL rfl (ak aK ?_)
  refine ak (aP hi) (aX _ (Z300.aj (cj _)) ?_)
  refine bL rfl (ak aK ?_)
  refine ak (aP hi) (bL rfl ?_)
  refine ak aK (ak (aP hi) ?_)
  refine bL rfl (ak aK ?_)
  refine ak (aP hi) (bL rfl ?_)
  refine ak aK (ak (aP hi) ?_)
  refine bL rfl (ak aK ?_)
  refine ak (aP hi) (bL rfl ?_)
  refine ak aK (ak (aP hi) ?_)
  refine bL rfl (ak aK ?_)
  refine ak (aP hi) (bL rfl ?_)
  refine ak aK (ak (aP hi) ?_)
  refine bL rfl (ak aK ?_)
  refine ak (aP hi) (aX _ (Z299.aj (cj _)) ?_)
  refine bL rfl (ak aK ?_)
  refine ak (aP hi) (bL rfl ?_)
  refine ak aK (ak (aP hi) ?_)
  refine aX _ (Z299.aj (cj _)) (bL rfl ?_)
  refine ak aK (ak (aP hi) ?_)
  refine bL rfl (ak aK ?_)
  refine ak (aP hi) (bL rfl ?_)
  refine ak aK (ak (aP hi) ?_)
  refine aX _ (Z299.aj (cj _)) (bL rfl ?_)
  refine ak aK (ak (aP hi) ?_)
  refine bL rfl (ak aK ?_)
  refine ak (aP hi) (bL rfl ?_)
  refine ak aK (ak (aP hi) ?_)
  refine aX _ (Z300.aj (cj _)) (bL rfl ?_)
  rw [aJ hi h0]
  rfl
 ·simp only [step,SS]
  refine cY dn ?_
  rfl
def af:cC 120 aU:=VV (run:=fun n x=>start (iter step n) x.1 x.2) mix aB (eM Z299.af Z300.af) Tryz.func120 (by kernel_rfl) run_eq (fun ls a hl e hg=>bh a.1 a.2 hg (by have h:(ls.headD .hole).aS.length<=maxLen:=hl.1.len;have e:a.1.map aF.row=(ls.headD .hole).aS:=(congrArg (fun x=>x.1) e.symm);rw [<-e] at h;simpa using h))
def iq {a0:List aF}{a1:Int}(h:fo a1):fo (md a0 a1):=lK wv ke h
def Ab (x:aF)(k:Int)(h0:0<=k)(hb:k+(Z291.cnt x:Int)<=4611686018427387904):f (Z291.el x k).2 k=some (k+Z291.cnt x):=by
 simp only [Z291.cnt,Int.natCast_add] at hb ⊢
 simp (disch:=omega) only [Z291.el,f,Z291.e1,Z291.e2,Z291.e3,Z291.e4,Z291.e5,Z291.e6,Z291.e7,Z291.e8,Z291.e9,Z291.za,Z291.yZ,Z291.Bx,e1,e2,e3,e4,e5,e6,e7,e8,e9,za,yZ,Bx,wi,Z287.kk,Z299.mk,Z288.kk,Z300.mk,bne_self_eq_false,beq_self_eq_true,gO,Bool.not_true,bg,dx]
 all_goals first | done | omega | (congr 1<;>omega)
def mk (a0:List aF)(a1:Int)(h0:0<=a1)(hb:a1+(Z291.sum a0:Int)<=4611686018427387904):md (Z291.md a0 a1).2 a1=a1+Z291.sum a0:=iP Z291.uK Ab a0 a1 h0 hb
end Z303
namespace Z304
set_option maxHeartbeats 8000000
def F (x0:bu)(x1:Int):aI:=(call (Z302.R (x0.aL,x1)) fun v1=>(cond (v1<0) (ret ((-1):Int)) (call (Z303.R (x0.bp,v1)) fun v2=>(cond (v2<0) (ret ((-1):Int)) (ret (v2:Int))))))
def e1 (x:av)(k:Int):=Z302.md x.aL k
def e2 (x:av)(k:Int):=Z303.md x.bp (e1 x k)
def f (x:av)(k:Int):Option Int:=(cond ((e1 x k)<0) none (cond ((e2 x k)<0) none (some ((e2 x k):Int))))
def md (a0:av)(a1:Int):Int:=qx (f a0 a1)
def gd (a0:av)(a1:Int):Prop:=fo a1
def R:=RR (p2 gd) (u2 md)
def aj {a0 a1}(h:gd a0 a1):R ((av.r a0),a1)=some (md a0 a1):=cB h
def aU:=CN [.agg uY,pI] oI RT.dec R
def bh (a0)(a1)(hg:gd a0 a1):F (av.r a0) a1=ret (md a0 a1):=by
 unfold gd at hg
 simp only [F,SS]
 unfold md
 refine aX (e1 a0 a1) (Z302.aj (a0:=a0.aL) (a1:=a1) hg) ?_
 refine gY rfl ?_
 refine aX (e2 a0 a1) (Z303.aj (a0:=a0.bp) (a1:=e1 a0 a1) (Z302.iq hg)) ?_
 refine gY rfl ?_
 first | rfl | (simp only [SS];rfl)
def af:cC 63 aU:=W2 18 F mix aB bh (eM Z302.af Z303.af) Tryz.func63
def iq {a0:av}{a1:Int}(hk:fo a1):fo (md a0 a1):=by
 unfold md
 cases h:f a0 a1 with
 | none=>exact ke
 | some k2=>
  unfold f at h
  have h:=bJ h
  have h:=bJ h
  injection h with h
  subst h
  exact (Z303.iq (Z302.iq hk))
def mk (x:av)(k:Int)(h0:0<=k)(hb:k+(Z292.sum x:Int)<=4611686018427387904):md (Z292.upd x k) k=k+Z292.sum x:=by
 simp only [Z292.sum,Int.natCast_add] at hb ⊢
 simp (disch:=omega) only [Z292.md,Z292.upd,md,f,qx,Z292.e1,Z292.e2,e1,e2,wi,Z290.kk,Z302.mk,Z291.kk,Z303.mk,bg,dx]
 all_goals first | done | omega
end Z304
namespace Z305
set_option maxHeartbeats 8000000
inductive Pt where
 | p0 (a:aD) (b c:Int)
def pid:Pt->Nat
 | .p0 ..=>2
def cG:Pt->List V
 | .p0 a b c=>[.sl none 9 a,.int .i64 b,.int .i64 c]
def cX:Pt->List aW
 | .p0 a b c=>[]
def step (J:Pt->aI):Pt->aI
 | .p0 a b c=>(cond (c<(a.length:Int)) (m2 c (a.length:Int) (call (Z293.R b) fun v1=>(cond (!((qA a (toNat c))==v1)) (ret ((-1):Int)) (J (.p0 a (i64.wrap (b+1)) (i64.wrap (c+1))))))) (ret (b:Int)))
def start (J:Pt->aI)(x0:aD)(x1:Int):aI:=J (.p0 x0 x1 0)
def live:Nat->Live:=fL [(2,gA [0,1,5])]
def pats:List gN:=[.rd (.sl 9),.rd (.int .i64)]
def res:RP:=.one (.rd (.int .i64))
abbrev E:Env:={ T:=assoc mq,G:=dM [(60,Z293.aU)],nt:=22 }
def step_eq (I:cR)(p:Pt):dF E live I (pid p) (bP Tryz.f121) (gp (live (pid p)) (cG p) (cX p)) (cP E Tryz.f121 res)=step (fun q=>I (pid q) (cG q) (cX q)) p:=by
 cases p<;>kernel_rfl
def start_eq (I:cR)(ls:List L):fG E live I (bP Tryz.f121) (dJ pats ls) (cP E Tryz.f121 res)=start (fun q=>I (pid q) (cG q) (cX q)) (ls.headD .hole).aS ((ay 1 ls).headD .hole).toInt:=by kernel_rfl
def run_eq (n:Nat)(ls:List L):fc E live Tryz.f121 res n (dJ pats ls)=start (iter step n) (ls.headD .hole).aS ((ay 1 ls).headD .hole).toInt:=cO (id:=pid) (vs:=cG) (hs:=cX) (step:=step) (start:=fun J=>start J (ls.headD .hole).aS ((ay 1 ls).headD .hole).toInt) step_eq (fun I=>start_eq I ls) n
def f (x:aC)(k:Int):Option Int:=(cond (!(x==(Z293.md k))) none (some (i64.wrap (k+1))))
def wv (x:aC)(k k2:Int)(hk:fo k)(h:f x k=some k2):fo k2:=by
 unfold f at h
 have h:=bJ h
 injection h with h
 subst h
 exact (cj _)
def md (a0:List aC)(a1:Int):Int:=jQ f a0 a1
def gd (a0:List aC)(a1:Int):Prop:=fo a1
def acc (ls:List L):aD×Int:=((ls.headD .hole).aS,((ay 1 ls).headD .hole).toInt)
def R:(aD×Int)->Option Int:=RR (p2 gd) (u2 md)
def aj {a0 a1}(h:gd a0 a1):R ((a0.map cK),a1)=some (md a0 a1):=cB h
def aU:fY:=CN pats res acc R
def bh (a0:List aC)(a1:Int)(hg:gd a0 a1)(h0:a0.length<=maxLen):∃n,start (iter step n) (a0.map cK) a1=ret ((md a0 a1):Int):=by
 show ∃n,iter step n (Pt.p0 (a0.map cK) a1 0)=_
 refine jD (f:=f) (xs:=a0) ⟨#[]⟩ fo wv (pt:=fun i k=>Pt.p0 (a0.map cK) k (i:Int)) (fun J i k hi hk=>?_) (fun J k=>?_) hg
 ·simp only [step,SS]
  refine ak (aP hi) (ak aK ?_)
  refine ak (aP hi) (aX _ (Z293.aj hk) ?_)
  refine bL rfl ?_
  rw [aJ hi h0]
  rfl
 ·simp only [step,SS]
  refine cY dn ?_
  rfl
def af:cC 121 aU:=VV (run:=fun n x=>start (iter step n) x.1 x.2) mix aB (cJ Z293.af) Tryz.func121 (by kernel_rfl) run_eq (fun ls a hl e hg=>bh a.1 a.2 hg (by have h:(ls.headD .hole).aS.length<=maxLen:=hl.1.len;have e:a.1.map cK=(ls.headD .hole).aS:=(congrArg (fun x=>x.1) e.symm);rw [<-e] at h;simpa using h))
def iq {a0:List aC}{a1:Int}(h:fo a1):fo (md a0 a1):=lK wv ke h
def Ab (x:aC)(k:Int)(h0:0<=k)(hb:k+(Z294.cnt x:Int)<=4611686018427387904):f (Z294.el x k).2 k=some (k+Z294.cnt x):=by
 simp only [Z294.cnt,Int.natCast_add] at hb ⊢
 simp (disch:=omega) only [Z294.el,f,wi,bne_self_eq_false,beq_self_eq_true,gO,Bool.not_true,bg,dx]
 all_goals first | done | omega | (congr 1<;>omega)
def mk (a0:List aC)(a1:Int)(h0:0<=a1)(hb:a1+(Z294.sum a0:Int)<=4611686018427387904):md (Z294.md a0 a1).2 a1=a1+Z294.sum a0:=iP Z294.uK Ab a0 a1 h0 hb
end Z305
namespace Z306
set_option maxHeartbeats 8000000
def F (x0:bH)(x1:Int):aI:=(call (Z305.R (x0.bz,x1)) fun v1=>(cond (v1<0) (ret ((-1):Int)) (ret v1)))
def e1 (x:ah)(k:Int):=Z305.md x.bz k
def f (x:ah)(k:Int):Option Int:=(cond ((e1 x k)<0) none (some ((e1 x k))))
def md (a0:ah)(a1:Int):Int:=qx (f a0 a1)
def gd (a0:ah)(a1:Int):Prop:=fo a1
def R:=RR (p2 gd) (u2 md)
def aj {a0 a1}(h:gd a0 a1):R ((ah.r a0),a1)=some (md a0 a1):=cB h
def aU:=CN [.agg sX,pI] oI RT.dec R
def bh (a0)(a1)(hg:gd a0 a1):F (ah.r a0) a1=ret (md a0 a1):=by
 simp only [F,SS]
 refine aX _ (Z305.aj hg) (gY rfl ?_)
 rfl
def af:cC 64 aU:=W2 12 F mix aB bh (cJ Z305.af) Tryz.func64
def iq {a0:ah}{a1:Int}(hk:fo a1):fo (md a0 a1):=by
 unfold md
 cases h:f a0 a1 with
 | none=>exact ke
 | some k2=>
  unfold f at h
  have h:=bJ h
  injection h with h
  subst h
  exact (Z305.iq hk)
def mk (x:ah)(k:Int)(h0:0<=k)(hb:k+(Z297.sum x:Int)<=4611686018427387904):md (Z297.upd x k) k=k+Z297.sum x:=by
 simp only [Z297.sum,Int.natCast_add] at hb ⊢
 simp (disch:=omega) only [Z297.md,Z297.upd,md,f,qx,Z297.e1,e1,wi,Z294.kk,Z305.mk,bg,dx]
 all_goals first | done | omega
end Z306
namespace Z307
set_option maxHeartbeats 8000000
def F (x0:dD)(x1:Int):aI:=(call (Z304.R (x0.bV,x1)) fun v1=>(cond (v1<0) (ret ((-1):Int)) (call (Z306.R (x0.aQ,v1)) fun v2=>(cond (v2<0) (ret ((-1):Int)) (call (Z299.R (x0.bQ,v2)) fun v3=>(cond (v3<0) (ret ((-1):Int)) (ret (v3:Int))))))))
def e1 (x:bF)(k:Int):=Z304.md x.bV k
def e2 (x:bF)(k:Int):=Z306.md x.aQ (e1 x k)
def e3 (x:bF)(k:Int):=Z299.md x.bQ (e2 x k)
def f (x:bF)(k:Int):Option Int:=(cond ((e1 x k)<0) none (cond ((e2 x k)<0) none (cond ((e3 x k)<0) none (some ((e3 x k):Int)))))
def md (a0:bF)(a1:Int):Int:=qx (f a0 a1)
def gd (a0:bF)(a1:Int):Prop:=fo a1
def R:=RR (p2 gd) (u2 md)
def aj {a0 a1}(h:gd a0 a1):R ((bF.r a0),a1)=some (md a0 a1):=cB h
def aU:=CN [.agg CQ,pI] oI RT.dec R
def bh (a0)(a1)(hg:gd a0 a1):F (bF.r a0) a1=ret (md a0 a1):=by
 unfold gd at hg
 simp only [F,SS]
 unfold md
 refine aX (e1 a0 a1) (Z304.aj (a0:=a0.bV) (a1:=a1) hg) ?_
 refine gY rfl ?_
 refine aX (e2 a0 a1) (Z306.aj (a0:=a0.aQ) (a1:=e1 a0 a1) (Z304.iq hg)) ?_
 refine gY rfl ?_
 refine aX (e3 a0 a1) (Z299.aj (a0:=a0.bQ) (a1:=e2 a0 a1) (Z306.iq (Z304.iq hg))) ?_
 refine gY rfl ?_
 first | rfl | (simp only [SS];rfl)
def af:cC 24 aU:=W2 24 F mix aB bh (jS Z304.af Z306.af Z299.af) Tryz.func24
def mk (x:bF)(k:Int)(h0:0<=k)(hb:k+(Z298.sum x:Int)<=4611686018427387904):md (Z298.upd x k) k=k+Z298.sum x:=by
 simp only [Z298.sum,Int.natCast_add] at hb ⊢
 have heldKnown_:=@Z304.mk
 simp only [Z292.upd] at heldKnown_
 have heldEntry_:=@Z306.mk
 simp only [Z297.upd] at heldEntry_
 simp (disch:=omega) only [Z298.md,Z298.upd,md,f,qx,Z298.e1,Z298.e2,Z298.e3,e1,e2,e3,wi,Z292.kk,heldKnown_,Z297.kk,heldEntry_,Z287.kk,Z299.mk,bg,dx]
 all_goals first | done | omega
end Z307
namespace Z308
def F (x0:bu)(x1:cu)(x2:Int)(x3:aD)(x4:Int):aI:=(call (Z9.R (x0,1048576)) fun v1=>(cond (v1<0) gf (call (Z17.R (x1,v1)) fun v2=>(cond (v2<0) gf (call (Z10.R (x3,v2)) fun v3=>(cond (v3<0) gf (call (Z28.R x0) fun v4=>(call (Z36.R x1) fun v5=>(call (Z29.R x3) fun v6=>(call (Z131.R (v4,v5,x2,v6,x4)) fun v7=>(call (Z28.R x0) fun v8=>(call (Z36.R x1) fun v9=>(call (Z29.R x3) fun v10=>(call (Z266.R (v8,v9,x2,v10,x4)) fun v11=>(call (Z280.R (v11,v7)) fun v12=>(cond (!v12) bT (call (Z28.R x0) fun v13=>(call (Z277.R (v8,v13)) fun v14=>(cond (!v14) bT (call (Z36.R x1) fun v15=>(call (Z286.R (v9,v15)) fun v16=>(cond (!v16) bT (call (Z29.R x3) fun v17=>(call (Z278.R (v10,v17)) fun v18=>(cond (!v18) bT (call (Z292.R (v8,1)) fun v19=>(call (Z296.R (v9,v19.1)) fun v20=>(call (Z294.R (v10,v20.1)) fun v21=>(cond (v21.1<0) bT (call (Z280.R (v11,v7)) fun v22=>(cond (!v22) bT (call (Z298.R (v11,1)) fun v23=>(call (Z307.R ((⟨(⟨v23.2.1,v23.2.2.1⟩:bu),v11.gD,(⟨v11.aQ.aV,v11.aQ.bI,v11.aQ.bX,v23.2.2.2.1⟩:bH),v23.2.2.2.2,v11.fu⟩:dD),1)) fun v24=>(cond (v24<0) bT (cond (v24 != v23.1) bT (call (Z28.R x0) fun v25=>(call (Z36.R x1) fun v26=>(call (Z29.R x3) fun v27=>(call (Z266.R (v25,v26,x2,v27,x4)) fun v28=>(call (Z280.R (v28,v7)) fun v29=>(cond (!v29) bT (call (Z307.R ((⟨(⟨v23.2.1,v23.2.2.1⟩:bu),v11.gD,(⟨v11.aQ.aV,v11.aQ.bI,v11.aQ.bX,v23.2.2.2.1⟩:bH),v23.2.2.2.2,v11.fu⟩:dD),1)) fun v30=>(cond (v30<0) bT (cond (v30 != v23.1) bT gf))))))))))))))))))))))))))))))))))))))))))))
def pats:List gN:=[.agg [.sl 152,.sl 162],.agg [.sl 171],.rd (.int .i64),.rd (.sl 9),.rd (.int .i64)]
def res:RP:=.one (.rd (.bool))
def md (a0:av)(a1:aG)(a2:Int)(a3:List aC)(a4:Int):Bool:=true
def gd (a0:av)(a1:aG)(a2:Int)(a3:List aC)(a4:Int):Prop:=(av.Sm maxLen a0)/\(aG.Sm maxLen a1)/\(bO maxLen (fun y:aC=>y.size<=maxLen) a3)
def acc (ls:List L):bu×cu×Int×aD×Int:=((bu.dec ls),(cu.dec (ay 2 ls)),((ay 3 ls).headD .hole).toInt,((ay 4 ls).headD .hole).aS,((ay 5 ls).headD .hole).toInt)
def R:(bu×cu×Int×aD×Int)->Option Bool:=RR (p5 gd) (u5 md)
def aj {a0 a1 a2 a3 a4}(h:gd a0 a1 a2 a3 a4):R ((av.r a0),(aG.r a1),a2,(a3.map cK),a4)=some (md a0 a1 a2 a3 a4):=wz h
def aU:fY:=CN pats res acc R
def bh (a0:av)(a1:aG)(a2:Int)(a3:List aC)(a4:Int)(hg:gd a0 a1 a2 a3 a4):F (av.r a0) (aG.r a1) a2 (a3.map cK) a4=ret ((md a0 a1 a2 a3 a4):Bool):=by
 unfold md
 show (call (Z9.R ((av.r a0),1048576)) fun v1=>(bif (decide (v1<0)) then gf else (call (Z17.R ((aG.r a1),v1)) fun v2=>(bif (decide (v2<0)) then gf else (call (Z10.R ((a3.map cK),v2)) fun v3=>(bif (decide (v3<0)) then gf else (call (Z28.R (av.r a0)) fun v4=>(call (Z36.R (aG.r a1)) fun v5=>(call (Z29.R (a3.map cK)) fun v6=>(call (Z131.R (v4,v5,a2,v6,a4)) fun v7=>(call (Z28.R (av.r a0)) fun v8=>(call (Z36.R (aG.r a1)) fun v9=>(call (Z29.R (a3.map cK)) fun v10=>(call (Z266.R (v8,v9,a2,v10,a4)) fun v11=>(call (Z280.R (v11,v7)) fun v12=>(bif (!v12) then bT else (call (Z28.R (av.r a0)) fun v13=>(call (Z277.R (v8,v13)) fun v14=>(bif (!v14) then bT else (call (Z36.R (aG.r a1)) fun v15=>(call (Z286.R (v9,v15)) fun v16=>(bif (!v16) then bT else (call (Z29.R (a3.map cK)) fun v17=>(call (Z278.R (v10,v17)) fun v18=>(bif (!v18) then bT else (call (Z292.R (v8,1)) fun v19=>(call (Z296.R (v9,v19.1)) fun v20=>(call (Z294.R (v10,v20.1)) fun v21=>(bif (decide (v21.1<0)) then bT else (call (Z280.R (v11,v7)) fun v22=>(bif (!v22) then bT else (call (Z298.R (v11,1)) fun v23=>(call (Z307.R ((⟨(⟨v23.2.1,v23.2.2.1⟩:bu),v11.gD,(⟨v11.aQ.aV,v11.aQ.bI,v11.aQ.bX,v23.2.2.2.1⟩:bH),v23.2.2.2.2,v11.fu⟩:dD),1)) fun v24=>(bif (decide (v24<0)) then bT else (bif (v24 != v23.1) then bT else (call (Z28.R (av.r a0)) fun v25=>(call (Z36.R (aG.r a1)) fun v26=>(call (Z29.R (a3.map cK)) fun v27=>(call (Z266.R (v25,v26,a2,v27,a4)) fun v28=>(call (Z280.R (v28,v7)) fun v29=>(bif (!v29) then bT else (call (Z307.R ((⟨(⟨v23.2.1,v23.2.2.1⟩:bu),v11.gD,(⟨v11.aQ.aV,v11.aQ.bI,v11.aQ.bX,v23.2.2.2.1⟩:bH),v23.2.2.2.2,v11.fu⟩:dD),1)) fun v30=>(cond (v30<0) bT (cond (v30 != v23.1) bT gf))))))))))))))))))))))))))))))))))))))))))))=_
 rw [call_eq (Z9.aj (a1:=(1048576:Int)) ⟨hg.1,by omega,by omega⟩)]
 unfold Z9.md
 by_cases c0:(1048576:Int)<(((av.size a0):Nat):Int)
 ·rw [cw c0];rfl
 rw [cV c0,dx (by omega)]
 simp only [bg]
 have s0:av.Sm (2^20) a0:=(av.fE (by omega))
 rw [call_eq (Z17.aj (a1:=(1048576 - (((av.size a0):Nat):Int):Int)) ⟨hg.2.1,by omega,by omega⟩)]
 unfold Z17.md
 by_cases c1:(1048576 - (((av.size a0):Nat):Int):Int)<(((aG.size a1):Nat):Int)
 ·rw [cw c1];rfl
 rw [cV c1,dx (by omega)]
 simp only [bg]
 have s1:aG.Sm (2^20) a1:=(aG.fE (by omega))
 rw [call_eq (Z10.aj (a1:=(1048576 - (((av.size a0):Nat):Int) - (((aG.size a1):Nat):Int):Int)) ⟨hg.2.2,by omega,by omega⟩)]
 unfold Z10.md
 by_cases c3:(1048576 - (((av.size a0):Nat):Int) - (((aG.size a1):Nat):Int):Int)<(((eC (fun y:aC=>y.size) a3):Nat):Int)
 ·rw [cw c3];rfl
 rw [cV c3,dx (by omega)]
 simp only [bg]
 have s3:bO (2^20) (fun y:aC=>y.size<=(2^20)) a3:=(kL (f:=fun y:aC=>y.size) (by omega) (fun x hx=>hx))
 refine aX (av.r a0) (Z28.aj (a0:=a0) (av.cQ (by decide) s0)) ?_
 refine aX (aG.r a1) (Z36.aj (a0:=a1) (aG.cQ (by decide) s1)) ?_
 refine aX (a3.map cK) (Z29.aj (a0:=a3) (s3.mono (by decide) (fun x hx=>(le_trans hx (by decide))))) ?_
 refine aX (bF.r (Z131.md a0 a1 a2 a3 a4)) (Z131.aj (a0:=a0) (a1:=a1) (a2:=a2) (a3:=a3) (a4:=a4) (by
  have:=And.intro trivial trivial
  unfold Z131.gd
  first | exact (av.cQ (by decide) s0) | refine ⟨(av.cQ (by decide) s0),(aG.cQ (by decide) s1),(s3.mono (by decide) (fun x hx=>(le_trans hx (by decide))))⟩)) ?_
 refine aX (av.r a0) (Z28.aj (a0:=a0) (av.cQ (by decide) s0)) ?_
 refine aX (aG.r a1) (Z36.aj (a0:=a1) (aG.cQ (by decide) s1)) ?_
 refine aX (a3.map cK) (Z29.aj (a0:=a3) (s3.mono (by decide) (fun x hx=>(le_trans hx (by decide))))) ?_
 have r_:=Z266.aj (a0:=a0) (a1:=a1) (a2:=a2) (a3:=a3) (a4:=a4) (by
  have:=And.intro trivial trivial
  unfold Z266.gd
  first | exact (av.cQ (by decide) s0) | refine ⟨(av.cQ (by decide) s0),(aG.cQ (by decide) s1),(s3.mono (by decide) (fun x hx=>(le_trans hx (by decide))))⟩)
 rw [Z266.br] at r_
 refine aX (bF.r (Z131.md a0 a1 a2 a3 a4)) r_ ?_
 clear r_
 refine aX _ (Z280.aj (a0:=(Z131.md a0 a1 a2 a3 a4)) (a1:=(Z131.md a0 a1 a2 a3 a4)) trivial) ?_
 refine cY (by first | (simp only [bne_self_eq_false,beq_self_eq_true,gO,gv,Bool.not_true,Z280.md];done) | (refine bne_eq_false_iff_eq.2 ?_;omega)) ?_
 refine aX (av.r a0) (Z28.aj (a0:=a0) (av.cQ (by decide) s0)) ?_
 refine aX _ (Z277.aj (a0:=a0) (a1:=a0) trivial) ?_
 refine cY (by first | (simp only [bne_self_eq_false,beq_self_eq_true,gO,gv,Bool.not_true,Z280.md,Z277.md];done) | (refine bne_eq_false_iff_eq.2 ?_;omega)) ?_
 refine aX (aG.r a1) (Z36.aj (a0:=a1) (aG.cQ (by decide) s1)) ?_
 refine aX _ (Z286.aj (a0:=a1) (a1:=a1) trivial) ?_
 refine cY (by first | (simp only [bne_self_eq_false,beq_self_eq_true,gO,gv,Bool.not_true,Z280.md,Z277.md,Z286.md];done) | (refine bne_eq_false_iff_eq.2 ?_;omega)) ?_
 refine aX (a3.map cK) (Z29.aj (a0:=a3) (s3.mono (by decide) (fun x hx=>(le_trans hx (by decide))))) ?_
 refine aX _ (Z278.aj (a0:=a3) (a1:=a3) trivial) ?_
 refine cY (by first | (simp only [bne_self_eq_false,beq_self_eq_true,gO,gv,Bool.not_true,Z280.md,Z277.md,Z286.md,Z278.md];done) | (refine bne_eq_false_iff_eq.2 ?_;omega)) ?_
 have u1:=Z292.sz a0
 refine aX ((Z292.md a0 1).1,((Z292.md a0 1).2.1.map (eg aa.row)),((Z292.md a0 1).2.2.map aF.row)) (Z292.aj (a0:=a0) (a1:=1) nu) ?_
 have k2:=Z292.kk a0 1 (by omega) (by omega)
 have u3:=Z296.sz a1
 refine aX ((Z296.md a1 ((Z292.md a0 1).1)).1,((Z296.md a1 ((Z292.md a0 1).1)).2.map aA.row)) (Z296.aj (a0:=a1) (a1:=(Z292.md a0 1).1) (Z292.iq nu)) ?_
 have k4:=Z296.kk a1 ((Z292.md a0 1).1) (by omega) (by omega)
 have u5:=Z294.sz a3
 refine aX ((Z294.md a3 ((Z296.md a1 ((Z292.md a0 1).1)).1)).1,((Z294.md a3 ((Z296.md a1 ((Z292.md a0 1).1)).1)).2.map cK)) (Z294.aj (a0:=a3) (a1:=(Z296.md a1 ((Z292.md a0 1).1)).1) (Z296.iq (Z292.iq nu))) ?_
 have k6:=Z294.kk a3 ((Z296.md a1 ((Z292.md a0 1).1)).1) (by omega) (by omega)
 refine cY (dx (by omega)) ?_
 refine aX _ (Z280.aj (a0:=(Z131.md a0 a1 a2 a3 a4)) (a1:=(Z131.md a0 a1 a2 a3 a4)) trivial) ?_
 refine cY (by first | (simp only [bne_self_eq_false,beq_self_eq_true,gO,gv,Bool.not_true,Z280.md,Z277.md,Z286.md,Z278.md];done) | (refine bne_eq_false_iff_eq.2 ?_;omega)) ?_
 have u7:Z298.sum (Z131.md a0 a1 a2 a3 a4)<=1000000000000000000:=(by
  have h1:=Z298.sz (Z131.md a0 a1 a2 a3 a4)
  have h2:=Z130.sz a0 a1 [] a2 a3 a4 (by omega) (by omega) (by decide)
  have h3:bF.size (Z131.md a0 a1 a2 a3 a4)<=dK.size (Z130.md a0 a1 [] a2 a3 a4):=Nat.le_add_right _ _
  omega)
 refine aX ((Z298.md (Z131.md a0 a1 a2 a3 a4) 1).1,((Z298.md (Z131.md a0 a1 a2 a3 a4) 1).2.1.map (eg aa.row)),((Z298.md (Z131.md a0 a1 a2 a3 a4) 1).2.2.1.map aF.row),((Z298.md (Z131.md a0 a1 a2 a3 a4) 1).2.2.2.1.map cK),((Z298.md (Z131.md a0 a1 a2 a3 a4) 1).2.2.2.2.map bk)) (Z298.aj (a0:=(Z131.md a0 a1 a2 a3 a4)) (a1:=1) nu) ?_
 have k8:=Z298.kk (Z131.md a0 a1 a2 a3 a4) 1 (by omega) (by omega)
 refine aX (Z307.md (⟨(⟨(Z298.md (Z131.md a0 a1 a2 a3 a4) 1).2.1,(Z298.md (Z131.md a0 a1 a2 a3 a4) 1).2.2.1⟩:av),(Z131.md a0 a1 a2 a3 a4).gD,(⟨(Z131.md a0 a1 a2 a3 a4).aQ.aV,(Z131.md a0 a1 a2 a3 a4).aQ.bI,(Z131.md a0 a1 a2 a3 a4).aQ.bX,(Z298.md (Z131.md a0 a1 a2 a3 a4) 1).2.2.2.1⟩:ah),(Z298.md (Z131.md a0 a1 a2 a3 a4) 1).2.2.2.2,(Z131.md a0 a1 a2 a3 a4).fu⟩:bF) 1) (Z307.aj (a0:=(⟨(⟨(Z298.md (Z131.md a0 a1 a2 a3 a4) 1).2.1,(Z298.md (Z131.md a0 a1 a2 a3 a4) 1).2.2.1⟩:av),(Z131.md a0 a1 a2 a3 a4).gD,(⟨(Z131.md a0 a1 a2 a3 a4).aQ.aV,(Z131.md a0 a1 a2 a3 a4).aQ.bI,(Z131.md a0 a1 a2 a3 a4).aQ.bX,(Z298.md (Z131.md a0 a1 a2 a3 a4) 1).2.2.2.1⟩:ah),(Z298.md (Z131.md a0 a1 a2 a3 a4) 1).2.2.2.2,(Z131.md a0 a1 a2 a3 a4).fu⟩:bF)) (a1:=1) nu) ?_
 have h9:(Z307.md (⟨(⟨(Z298.md (Z131.md a0 a1 a2 a3 a4) 1).2.1,(Z298.md (Z131.md a0 a1 a2 a3 a4) 1).2.2.1⟩:av),(Z131.md a0 a1 a2 a3 a4).gD,(⟨(Z131.md a0 a1 a2 a3 a4).aQ.aV,(Z131.md a0 a1 a2 a3 a4).aQ.bI,(Z131.md a0 a1 a2 a3 a4).aQ.bX,(Z298.md (Z131.md a0 a1 a2 a3 a4) 1).2.2.2.1⟩:ah),(Z298.md (Z131.md a0 a1 a2 a3 a4) 1).2.2.2.2,(Z131.md a0 a1 a2 a3 a4).fu⟩:bF) 1)=1+(Z298.sum (Z131.md a0 a1 a2 a3 a4):Int):=Z307.mk (Z131.md a0 a1 a2 a3 a4) 1 (by omega) (by omega)
 refine cY (dx (by omega)) ?_
 refine cY (by first | (simp only [bne_self_eq_false,beq_self_eq_true,gO,gv,Bool.not_true,Z280.md,Z277.md,Z286.md,Z278.md];done) | (refine bne_eq_false_iff_eq.2 ?_;omega)) ?_
 refine aX (av.r a0) (Z28.aj (a0:=a0) (av.cQ (by decide) s0)) ?_
 refine aX (aG.r a1) (Z36.aj (a0:=a1) (aG.cQ (by decide) s1)) ?_
 refine aX (a3.map cK) (Z29.aj (a0:=a3) (s3.mono (by decide) (fun x hx=>(le_trans hx (by decide))))) ?_
 have r_:=Z266.aj (a0:=a0) (a1:=a1) (a2:=a2) (a3:=a3) (a4:=a4) (by
  have:=And.intro trivial trivial
  unfold Z266.gd
  first | exact (av.cQ (by decide) s0) | refine ⟨(av.cQ (by decide) s0),(aG.cQ (by decide) s1),(s3.mono (by decide) (fun x hx=>(le_trans hx (by decide))))⟩)
 rw [Z266.br] at r_
 refine aX (bF.r (Z131.md a0 a1 a2 a3 a4)) r_ ?_
 clear r_
 refine aX _ (Z280.aj (a0:=(Z131.md a0 a1 a2 a3 a4)) (a1:=(Z131.md a0 a1 a2 a3 a4)) trivial) ?_
 refine cY (by first | (simp only [bne_self_eq_false,beq_self_eq_true,gO,gv,Bool.not_true,Z280.md,Z277.md,Z286.md,Z278.md];done) | (refine bne_eq_false_iff_eq.2 ?_;omega)) ?_
 refine aX (Z307.md (⟨(⟨(Z298.md (Z131.md a0 a1 a2 a3 a4) 1).2.1,(Z298.md (Z131.md a0 a1 a2 a3 a4) 1).2.2.1⟩:av),(Z131.md a0 a1 a2 a3 a4).gD,(⟨(Z131.md a0 a1 a2 a3 a4).aQ.aV,(Z131.md a0 a1 a2 a3 a4).aQ.bI,(Z131.md a0 a1 a2 a3 a4).aQ.bX,(Z298.md (Z131.md a0 a1 a2 a3 a4) 1).2.2.2.1⟩:ah),(Z298.md (Z131.md a0 a1 a2 a3 a4) 1).2.2.2.2,(Z131.md a0 a1 a2 a3 a4).fu⟩:bF) 1) (Z307.aj (a0:=(⟨(⟨(Z298.md (Z131.md a0 a1 a2 a3 a4) 1).2.1,(Z298.md (Z131.md a0 a1 a2 a3 a4) 1).2.2.1⟩:av),(Z131.md a0 a1 a2 a3 a4).gD,(⟨(Z131.md a0 a1 a2 a3 a4).aQ.aV,(Z131.md a0 a1 a2 a3 a4).aQ.bI,(Z131.md a0 a1 a2 a3 a4).aQ.bX,(Z298.md (Z131.md a0 a1 a2 a3 a4) 1).2.2.2.1⟩:ah),(Z298.md (Z131.md a0 a1 a2 a3 a4) 1).2.2.2.2,(Z131.md a0 a1 a2 a3 a4).fu⟩:bF)) (a1:=1) nu) ?_
 have h10:(Z307.md (⟨(⟨(Z298.md (Z131.md a0 a1 a2 a3 a4) 1).2.1,(Z298.md (Z131.md a0 a1 a2 a3 a4) 1).2.2.1⟩:av),(Z131.md a0 a1 a2 a3 a4).gD,(⟨(Z131.md a0 a1 a2 a3 a4).aQ.aV,(Z131.md a0 a1 a2 a3 a4).aQ.bI,(Z131.md a0 a1 a2 a3 a4).aQ.bX,(Z298.md (Z131.md a0 a1 a2 a3 a4) 1).2.2.2.1⟩:ah),(Z298.md (Z131.md a0 a1 a2 a3 a4) 1).2.2.2.2,(Z131.md a0 a1 a2 a3 a4).fu⟩:bF) 1)=1+(Z298.sum (Z131.md a0 a1 a2 a3 a4):Int):=Z307.mk (Z131.md a0 a1 a2 a3 a4) 1 (by omega) (by omega)
 refine cY (dx (by omega)) ?_
 refine cY (by first | (simp only [bne_self_eq_false,beq_self_eq_true,gO,gv,Bool.not_true,Z280.md,Z277.md,Z286.md,Z278.md];done) | (refine bne_eq_false_iff_eq.2 ?_;omega)) ?_
 rfl
def af:cC 3 aU:=VS (live:=fun _=>[]) (nt:=125) (run:=fun _ x=>F x.1 x.2.1 x.2.2.1 x.2.2.2.1 x.2.2.2.2) mix aB (.cons Z9.af (.cons Z17.af (.cons Z10.af (.cons Z28.af (.cons Z36.af (.cons Z29.af (.cons Z131.af (.cons Z266.af (.cons Z280.af (.cons Z277.af (.cons Z286.af (.cons Z278.af (.cons Z307.af .nil))))))))))))) (.cons Z292.af (.cons Z296.af (.cons Z294.af (.cons Z298.af .nil)))) Tryz.func3 (by kernel_rfl) (fun _ _=>by kernel_rfl) (fun _ a _ _ hg=>⟨0,bh a.1 a.2.1 a.2.2.1 a.2.2.2.1 a.2.2.2.2 hg⟩)
def lX (r:List L)(h:dY Ev.cells [.sl 3,au] r):∃x:aO,aO.row x=r/\aO.Sm maxLen x:=by
 obtain ⟨l0,t0,rfl,g0,h1⟩:=h.eB
 obtain ⟨x0,rfl,s0⟩:=iT (show Ev.cells 3=[au] from by kernel_rfl) xO g0
 obtain ⟨l1,t1,rfl,g1,h2⟩:=h1.eB
 obtain ⟨x1,rfl⟩:=gn g1
 obtain rfl:=h2.jo
 exact ⟨⟨x0,x1⟩,rfl,s0⟩
def vo (r:List L)(h:dY Ev.cells [au,au,au,au,au,au,au,au,.sl 3,au,.sl 3,au,au,.sl 3,au,.bool] r):∃x:aE,aE.row x=r/\aE.Sm maxLen x:=by
 obtain ⟨l0,t0,rfl,g0,h1⟩:=h.eB
 obtain ⟨x0,rfl⟩:=gn g0
 obtain ⟨l1,t1,rfl,g1,h2⟩:=h1.eB
 obtain ⟨x1,rfl⟩:=gn g1
 obtain ⟨l2,t2,rfl,g2,h3⟩:=h2.eB
 obtain ⟨x2,rfl⟩:=gn g2
 obtain ⟨l3,t3,rfl,g3,h4⟩:=h3.eB
 obtain ⟨x3,rfl⟩:=gn g3
 obtain ⟨l4,t4,rfl,g4,h5⟩:=h4.eB
 obtain ⟨x4,rfl⟩:=gn g4
 obtain ⟨l5,t5,rfl,g5,h6⟩:=h5.eB
 obtain ⟨x5,rfl⟩:=gn g5
 obtain ⟨l6,t6,rfl,g6,h7⟩:=h6.eB
 obtain ⟨x6,rfl⟩:=gn g6
 obtain ⟨l7,t7,rfl,g7,h8⟩:=h7.eB
 obtain ⟨x7,rfl⟩:=gn g7
 obtain ⟨r8,t8,rfl,g8,h9⟩:=dY.iN (a:=[.sl 3,au]) (b:=[.sl 3,au,au,.sl 3,au,.bool]) h8
 obtain ⟨x8,rfl,s8⟩:=lX _ g8
 obtain ⟨r9,t9,rfl,g9,h10⟩:=dY.iN (a:=[.sl 3,au]) (b:=[au,.sl 3,au,.bool]) h9
 obtain ⟨x9,rfl,s9⟩:=lX _ g9
 obtain ⟨l10,t10,rfl,g10,h11⟩:=h10.eB
 obtain ⟨x10,rfl⟩:=gn g10
 obtain ⟨r11,t11,rfl,g11,h12⟩:=dY.iN (a:=[.sl 3,au]) (b:=[.bool]) h11
 obtain ⟨x11,rfl,s11⟩:=lX _ g11
 obtain ⟨l12,t12,rfl,g12,h13⟩:=h12.eB
 obtain ⟨x12,rfl⟩:=yd g12
 obtain rfl:=h13.jo
 exact ⟨⟨x0,x1,x2,x3,x4,x5,x6,x7,x8,x9,x10,x11,x12⟩,rfl,⟨s8,s9,s11⟩⟩
def xl (r:List L)(h:dY Ev.cells [au,au] r):∃x:bn,bn.row x=r/\bn.Sm maxLen x:=by
 obtain ⟨l0,t0,rfl,g0,h1⟩:=h.eB
 obtain ⟨x0,rfl⟩:=gn g0
 obtain ⟨l1,t1,rfl,g1,h2⟩:=h1.eB
 obtain ⟨x1,rfl⟩:=gn g1
 obtain rfl:=h2.jo
 exact ⟨⟨x0,x1⟩,rfl,trivial⟩
def hU (r:List L)(h:dY Ev.cells [au,au,au,au,au,au,au,au,.sl 3,au,.sl 3,au,au,.sl 3,au,.bool,.sl 315] r):∃x:aa,aa.row x=r/\aa.Sm maxLen x:=by
 obtain ⟨r0,t0,rfl,g0,h1⟩:=dY.iN (a:=[au,au,au,au,au,au,au,au,.sl 3,au,.sl 3,au,au,.sl 3,au,.bool]) (b:=[.sl 315]) h
 obtain ⟨x0,rfl,s0⟩:=vo _ g0
 obtain ⟨l1,t1,rfl,g1,h2⟩:=h1.eB
 obtain ⟨x1,rfl,s1⟩:=iT (show Ev.cells 315=[au,au] from by kernel_rfl) xl g1
 obtain rfl:=h2.jo
 exact ⟨⟨x0,x1⟩,rfl,⟨s0,s1⟩⟩
def wH (r:List L)(h:dY Ev.cells [au,au,au,au,au,au,au,au,.sl 3,au,.sl 3,au,au,.sl 3,au,.bool,.sl 315,au,au,au,au,au,au,au,au,.sl 3,au,.sl 3,au,au,.sl 3,au,.bool,.sl 315,au,au,au,au,au,au,au,au,.sl 3,au,.sl 3,au,au,.sl 3,au,.bool,.sl 315] r):∃x:aF,aF.row x=r/\aF.Sm maxLen x:=by
 obtain ⟨r0,t0,rfl,g0,h1⟩:=dY.iN (a:=[au,au,au,au,au,au,au,au,.sl 3,au,.sl 3,au,au,.sl 3,au,.bool,.sl 315]) (b:=[au,au,au,au,au,au,au,au,.sl 3,au,.sl 3,au,au,.sl 3,au,.bool,.sl 315,au,au,au,au,au,au,au,au,.sl 3,au,.sl 3,au,au,.sl 3,au,.bool,.sl 315]) h
 obtain ⟨x0,rfl,s0⟩:=hU _ g0
 obtain ⟨r1,t1,rfl,g1,h2⟩:=dY.iN (a:=[au,au,au,au,au,au,au,au,.sl 3,au,.sl 3,au,au,.sl 3,au,.bool,.sl 315]) (b:=[au,au,au,au,au,au,au,au,.sl 3,au,.sl 3,au,au,.sl 3,au,.bool,.sl 315]) h1
 obtain ⟨x1,rfl,s1⟩:=hU _ g1
 obtain ⟨r2,t2,rfl,g2,h3⟩:=dY.iN (a:=[au,au,au,au,au,au,au,au,.sl 3,au,.sl 3,au,au,.sl 3,au,.bool,.sl 315]) (b:=[]) h2
 obtain ⟨x2,rfl,s2⟩:=hU _ g2
 obtain rfl:=h3.jo
 exact ⟨⟨x0,x1,x2⟩,rfl,⟨s0,s1,s2⟩⟩
def vT (r:List L)(h:dY Ev.cells [.sl 152,.sl 162] r):∃x:av,av.row x=r/\av.Sm maxLen x:=by
 obtain ⟨l0,t0,rfl,g0,h1⟩:=h.eB
 obtain ⟨x0,rfl,s0⟩:=iT (show Ev.cells 152=[.sl 160] from by kernel_rfl) (AM (show Ev.cells 160=[au,au,au,au,au,au,au,au,.sl 3,au,.sl 3,au,au,.sl 3,au,.bool,.sl 315] from by kernel_rfl) hU) g0
 obtain ⟨l1,t1,rfl,g1,h2⟩:=h1.eB
 obtain ⟨x1,rfl,s1⟩:=iT (show Ev.cells 162=[au,au,au,au,au,au,au,au,.sl 3,au,.sl 3,au,au,.sl 3,au,.bool,.sl 315,au,au,au,au,au,au,au,au,.sl 3,au,.sl 3,au,au,.sl 3,au,.bool,.sl 315,au,au,au,au,au,au,au,au,.sl 3,au,.sl 3,au,au,.sl 3,au,.bool,.sl 315] from by kernel_rfl) wH g1
 obtain rfl:=h2.jo
 exact ⟨⟨x0,x1⟩,rfl,⟨s0,s1⟩⟩
def lE (r:List L)(h:dY Ev.cells [.str,au,au,.sl 9] r):∃x:ah,ah.row x=r/\ah.Sm maxLen x:=by
 obtain ⟨l0,t0,rfl,g0,h1⟩:=h.eB
 obtain ⟨x0,rfl,s0⟩:=xd g0
 obtain ⟨l1,t1,rfl,g1,h2⟩:=h1.eB
 obtain ⟨x1,rfl⟩:=gn g1
 obtain ⟨l2,t2,rfl,g2,h3⟩:=h2.eB
 obtain ⟨x2,rfl⟩:=gn g2
 obtain ⟨l3,t3,rfl,g3,h4⟩:=h3.eB
 obtain ⟨x3,rfl,s3⟩:=iT (show Ev.cells 9=[.str] from by kernel_rfl) xN g3
 obtain rfl:=h4.jo
 exact ⟨⟨x0,x1,x2,x3⟩,rfl,⟨s0,s3⟩⟩
def lA (r:List L)(h:dY Ev.cells [au,.sl 3] r):∃x:aH,aH.row x=r/\aH.Sm maxLen x:=by
 obtain ⟨l0,t0,rfl,g0,h1⟩:=h.eB
 obtain ⟨x0,rfl⟩:=gn g0
 obtain ⟨l1,t1,rfl,g1,h2⟩:=h1.eB
 obtain ⟨x1,rfl,s1⟩:=iT (show Ev.cells 3=[au] from by kernel_rfl) xO g1
 obtain rfl:=h2.jo
 exact ⟨⟨x0,x1⟩,rfl,s1⟩
def wY (r:List L)(h:dY Ev.cells [au,.str,au,au,.sl 9,.str,au,au,.sl 9,au,.sl 3,au,.sl 3] r):∃x:bK,bK.row x=r/\bK.Sm maxLen x:=by
 obtain ⟨l0,t0,rfl,g0,h1⟩:=h.eB
 obtain ⟨x0,rfl⟩:=gn g0
 obtain ⟨r1,t1,rfl,g1,h2⟩:=dY.iN (a:=[.str,au,au,.sl 9]) (b:=[.str,au,au,.sl 9,au,.sl 3,au,.sl 3]) h1
 obtain ⟨x1,rfl,s1⟩:=lE _ g1
 obtain ⟨r2,t2,rfl,g2,h3⟩:=dY.iN (a:=[.str,au,au,.sl 9]) (b:=[au,.sl 3,au,.sl 3]) h2
 obtain ⟨x2,rfl,s2⟩:=lE _ g2
 obtain ⟨r3,t3,rfl,g3,h4⟩:=dY.iN (a:=[au,.sl 3]) (b:=[au,.sl 3]) h3
 obtain ⟨x3,rfl,s3⟩:=lA _ g3
 obtain ⟨r4,t4,rfl,g4,h5⟩:=dY.iN (a:=[au,.sl 3]) (b:=[]) h4
 obtain ⟨x4,rfl,s4⟩:=lA _ g4
 obtain rfl:=h5.jo
 exact ⟨⟨x0,x1,x2,x3,x4⟩,rfl,⟨s1,s2,s3,s4⟩⟩
def sP (r:List L)(h:dY Ev.cells [.sl 160,.bool,.str,au,au,.sl 9,au,.sl 3,au,.str,au,au,.sl 9,.str,au,au,.sl 9,au,.sl 3,au,.sl 3] r):∃x:aq,aq.row x=r/\aq.Sm maxLen x:=by
 obtain ⟨l0,t0,rfl,g0,h1⟩:=h.eB
 obtain ⟨x0,rfl,s0⟩:=iT (show Ev.cells 160=[au,au,au,au,au,au,au,au,.sl 3,au,.sl 3,au,au,.sl 3,au,.bool,.sl 315] from by kernel_rfl) hU g0
 obtain ⟨l1,t1,rfl,g1,h2⟩:=h1.eB
 obtain ⟨x1,rfl⟩:=yd g1
 obtain ⟨r2,t2,rfl,g2,h3⟩:=dY.iN (a:=[.str,au,au,.sl 9]) (b:=[au,.sl 3,au,.str,au,au,.sl 9,.str,au,au,.sl 9,au,.sl 3,au,.sl 3]) h2
 obtain ⟨x2,rfl,s2⟩:=lE _ g2
 obtain ⟨r3,t3,rfl,g3,h4⟩:=dY.iN (a:=[au,.sl 3]) (b:=[au,.str,au,au,.sl 9,.str,au,au,.sl 9,au,.sl 3,au,.sl 3]) h3
 obtain ⟨x3,rfl,s3⟩:=lA _ g3
 obtain ⟨r4,t4,rfl,g4,h5⟩:=dY.iN (a:=[au,.str,au,au,.sl 9,.str,au,au,.sl 9,au,.sl 3,au,.sl 3]) (b:=[]) h4
 obtain ⟨x4,rfl,s4⟩:=wY _ g4
 obtain rfl:=h5.jo
 exact ⟨⟨x0,x1,x2,x3,x4⟩,rfl,⟨s0,s2,s3,s4⟩⟩
def sW (r:List L)(h:dY Ev.cells [au,.str,.sl 160,.bool,.str,au,au,.sl 9,au,.sl 3,au,.str,au,au,.sl 9,.str,au,au,.sl 9,au,.sl 3,au,.sl 3] r):∃x:aA,aA.row x=r/\aA.Sm maxLen x:=by
 obtain ⟨l0,t0,rfl,g0,h1⟩:=h.eB
 obtain ⟨x0,rfl⟩:=gn g0
 obtain ⟨l1,t1,rfl,g1,h2⟩:=h1.eB
 obtain ⟨x1,rfl,s1⟩:=xd g1
 obtain ⟨r2,t2,rfl,g2,h3⟩:=dY.iN (a:=[.sl 160,.bool,.str,au,au,.sl 9,au,.sl 3,au,.str,au,au,.sl 9,.str,au,au,.sl 9,au,.sl 3,au,.sl 3]) (b:=[]) h2
 obtain ⟨x2,rfl,s2⟩:=sP _ g2
 obtain rfl:=h3.jo
 exact ⟨⟨x0,x1,x2⟩,rfl,⟨s1,s2⟩⟩
def vF (r:List L)(h:dY Ev.cells [.sl 171] r):∃x:aG,aG.row x=r/\aG.Sm maxLen x:=by
 obtain ⟨l0,t0,rfl,g0,h1⟩:=h.eB
 obtain ⟨x0,rfl,s0⟩:=iT (show Ev.cells 171=[au,.str,.sl 160,.bool,.str,au,au,.sl 9,au,.sl 3,au,.str,au,au,.sl 9,.str,au,au,.sl 9,au,.sl 3,au,.sl 3] from by kernel_rfl) sW g0
 obtain rfl:=h1.jo
 exact ⟨⟨x0⟩,rfl,s0⟩
def holds (ls:List L)(h:dY Ev.cells ([25,28,3,29,3].flatMap Ev.cells) ls):aU.sem ls=some [.bool true]:=by
 have hk:[25,28,3,29,3].flatMap Ev.cells=[.sl 152,.sl 162,.sl 171,au,.sl 9,au]:=by kernel_rfl
 rw [hk] at h
 obtain ⟨r0,t0,rfl,g0,h1⟩:=dY.iN (a:=[.sl 152,.sl 162]) (b:=[.sl 171,au,.sl 9,au]) h
 obtain ⟨x0,rfl,s0⟩:=vT _ g0
 obtain ⟨r1,t1,rfl,g1,h2⟩:=dY.iN (a:=[.sl 171]) (b:=[au,.sl 9,au]) h1
 obtain ⟨x1,rfl,s1⟩:=vF _ g1
 obtain ⟨l2,t2,rfl,g2,h3⟩:=h2.eB
 obtain ⟨x2,rfl⟩:=gn g2
 obtain ⟨l3,t3,rfl,g3,h4⟩:=h3.eB
 obtain ⟨x3,rfl,s3⟩:=iT (show Ev.cells 9=[.str] from by kernel_rfl) xN g3
 obtain ⟨l4,t4,rfl,g4,h5⟩:=h4.eB
 obtain ⟨x4,rfl⟩:=gn g4
 obtain rfl:=h5.jo
 show (R ((av.r x0),(aG.r x1),x2,(x3.map cK),x4)).map RT.enc=_
 rw [aj ⟨s0,s1,s3⟩]
 rfl
end Z308
end Go.DM
end
