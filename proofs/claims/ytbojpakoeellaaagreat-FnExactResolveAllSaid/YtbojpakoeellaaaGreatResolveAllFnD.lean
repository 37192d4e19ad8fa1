/- What the functions compute that the law reaches, and that the law returns true. Conditions: none. -/
import Derived.Test.YtbojpakoeellaaaGreatResolveAllTy
import Derived.Test.YtbojpakoeellaaaGreatResolveAllFnC
set_option linter.all false
set_option maxRecDepth 100000
noncomputable section
namespace Go.DM
open Go.Proofs
open Go.IntKind (i64)
open Int (toNat)
open Nat (le_trans zero_le)
namespace Z277
set_option maxHeartbeats 8000000
inductive Pt where
 | p0 (a b:Int) (c:aB)
def pid:Pt->Nat
 | .p0 ..=>2
def bY:Pt->List V
 | .p0 a b c=>[.own 0,.int .i64 a,.int .i64 b]
def bX:Pt->List aV
 | .p0 a b c=>[.row 141 c]
def step (J:Pt->aJ):Pt->aJ
 | .p0 a b c=>(cond (decide (b<(c.length:Int))) (m2 b (c.length:Int) (m2 b (c.length:Int) (cj (eW b) (m2 b (c.length:Int) (cj (eW b) (m2 b (c.length:Int) (cj (eW b) (m2 b (c.length:Int) (cj (eW b) (m2 b (c.length:Int) (cj (eW b) (m2 b (c.length:Int) (cj (eW b) (m2 b (c.length:Int) (cj (eW b) (m2 b (c.length:Int) (cj (eW b) (cj (eW b) (call (Z275.R ((aR.at c (toNat b)).aq.bR.aX,(i64.wrap ((i64.wrap ((i64.wrap ((i64.wrap ((i64.wrap ((i64.wrap ((i64.wrap ((i64.wrap (a+1))+1))+1))+1))+1))+1))+1))+1)))) fun v1=>(m2 b (c.length:Int) (cj (eW b) (m2 b (c.length:Int) (cj (eW b) (cj (eW b) (call (Z275.R ((aR.at c (toNat b)).aq.bD.aX,(i64.wrap (v1.1+1)))) fun v2=>(m2 b (c.length:Int) (cj (eW b) (m2 b (c.length:Int) (cj (eW b) (m2 b (c.length:Int) (cj (eW b) (cj (eW b) (call (Z275.R ((aR.at c (toNat b)).aq.bB.aX,(i64.wrap ((i64.wrap (v2.1+1))+1)))) fun v3=>(m2 b (c.length:Int) (cj (eW b) (m2 b (c.length:Int) (cj (eW b) (m2 b (c.length:Int) (cj (eW b) (cj (eW b) (call (Z276.R ((aR.at c (toNat b)).cm,(i64.wrap ((i64.wrap (v3.1+1))+1)))) fun v4=>J (.p0 v4.1 (i64.wrap (b+1)) (List.set c (toNat b) (aR.enc (⟨(⟨a,(i64.wrap (a+1)),(i64.wrap ((i64.wrap (a+1))+1)),(i64.wrap ((i64.wrap ((i64.wrap (a+1))+1))+1)),(i64.wrap ((i64.wrap ((i64.wrap ((i64.wrap (a+1))+1))+1))+1)),(i64.wrap ((i64.wrap ((i64.wrap ((i64.wrap ((i64.wrap (a+1))+1))+1))+1))+1)),(i64.wrap ((i64.wrap ((i64.wrap ((i64.wrap ((i64.wrap ((i64.wrap (a+1))+1))+1))+1))+1))+1)),(i64.wrap ((i64.wrap ((i64.wrap ((i64.wrap ((i64.wrap ((i64.wrap ((i64.wrap (a+1))+1))+1))+1))+1))+1))+1)),(⟨v1.2,v1.1⟩:bE),(⟨v2.2,v2.1⟩:bE),(i64.wrap (v2.1+1)),(⟨v3.2,v3.1⟩:bE),((Int.tmod (i64.wrap (v3.1+1)) 3)==0)⟩:cg),v4.2⟩:aR))))))))))))))))))))))))))))))))))))))))))))) (ret ((a,c):Int×aB)))
def start (J:Pt->aJ)(x0:aB)(x1:Int):aJ:=J (.p0 x1 0 x0)
def live:Nat->Live:=fun i=>match i with | 2=>[(0,none),(1,none),(5,none)] | _=>[]
def pats:List (Bool×List K):=[(false,[.sl 141]),(false,[aC])]
def res:RP:=.nX [141]
abbrev E:Env:={ T:=assoc jV,G:=dw [],nt:=156,M:=fK [(57,Z275.aU),(95,Z276.aU)],np:=1,mt:=true }
def step_eq (I:cB)(p:Pt):cR E live I (pid p) (bL Tryz.f94) (fm (live (pid p)) (bY p) (bX p)) (cA E Tryz.f94 res)=step (fun q=>I (pid q) (bY q) (bX q)) p:=by
 cases p<;>kernel_rfl
def start_eq (I:cB)(ls:List L):eL E live I (bL Tryz.f94) (fY pats ls) (cA E Tryz.f94 res)=start (fun q=>I (pid q) (bY q) (bX q)) (ls.headD .hole).aQ ((aA 1 ls).headD .hole).toInt:=by kernel_rfl
def run_eq (n:Nat)(ls:List L):eG E live Tryz.f94 res n (fY pats ls)=start (iter step n) (ls.headD .hole).aQ ((aA 1 ls).headD .hole).toInt:=cq (id:=pid) (vs:=bY) (hs:=bX) (step:=step) (start:=fun J=>start J (ls.headD .hole).aQ ((aA 1 ls).headD .hole).toInt) step_eq (fun I=>start_eq I ls) n
def e1 (x:aa)(k:Int):=Z275.md (((x.aq).bR).aX) (i64.wrap ((i64.wrap ((i64.wrap ((i64.wrap ((i64.wrap ((i64.wrap ((i64.wrap ((i64.wrap (k+1))+1))+1))+1))+1))+1))+1))+1))
def e2 (x:aa)(k:Int):=Z275.md (((x.aq).bD).aX) (i64.wrap ((e1 x k).1+1))
def e3 (x:aa)(k:Int):=Z275.md (((x.aq).bB).aX) (i64.wrap ((i64.wrap ((e2 x k).1+1))+1))
def e4 (x:aa)(k:Int):=Z276.md x.cm (i64.wrap ((i64.wrap ((e3 x k).1+1))+1))
def el (x:aa)(k:Int):Int×aa:=((e4 x k).1,(⟨(⟨k,(i64.wrap (k+1)),(i64.wrap ((i64.wrap (k+1))+1)),(i64.wrap ((i64.wrap ((i64.wrap (k+1))+1))+1)),(i64.wrap ((i64.wrap ((i64.wrap ((i64.wrap (k+1))+1))+1))+1)),(i64.wrap ((i64.wrap ((i64.wrap ((i64.wrap ((i64.wrap (k+1))+1))+1))+1))+1)),(i64.wrap ((i64.wrap ((i64.wrap ((i64.wrap ((i64.wrap ((i64.wrap (k+1))+1))+1))+1))+1))+1)),(i64.wrap ((i64.wrap ((i64.wrap ((i64.wrap ((i64.wrap ((i64.wrap ((i64.wrap (k+1))+1))+1))+1))+1))+1))+1)),(⟨(e1 x k).2,(e1 x k).1⟩:aO),(⟨(e2 x k).2,(e2 x k).1⟩:aO),(i64.wrap ((e2 x k).1+1)),(⟨(e3 x k).2,(e3 x k).1⟩:aO),((Int.tmod (i64.wrap ((e3 x k).1+1)) 3)==0)⟩:aF),(e4 x k).2⟩:aa))
def gJ (x:aa)(k:Int)(hk:eD k):eD (el x k).1:=(Z276.iq (bZ _))
def cnt (x:aa):Nat:=13+Z275.sum (((x.aq).bR).aX)+Z275.sum (((x.aq).bD).aX)+Z275.sum (((x.aq).bB).aX)+Z276.sum x.cm
def sum (a:List aa):Nat:=(a.map cnt).sum
def md (a0:List aa)(a1:Int):Int×List aa:=iR el a0 a1
def gd (a0:List aa)(a1:Int):Prop:=eD a1
def acc (ls:List L):aB×Int:=((ls.headD .hole).aQ,((aA 1 ls).headD .hole).toInt)
def R:(aB×Int)->Option (Int×aB):=RR (p2 gd) (u2 md)
def an {a0 a1}(h:gd a0 a1):R ((a0.map aa.row),a1)=some ((md a0 a1).1,((md a0 a1).2.map aa.row)):=aP (a:=(a0,a1)) h
def aU:gC:=MN pats acc R
def bA (a0:List aa)(a1:Int)(hg:gd a0 a1)(h0:a0.length<=maxLen):∃n,start (iter step n) (a0.map aa.row) a1=ret (((md a0 a1).1,((md a0 a1).2.map aa.row)):Int×aB):=by
 unfold gd at hg
 show ∃n,iter step n (Pt.p0 a1 0 (a0.map aa.row))=_
 unfold md
 refine fO (el:=el) (xs:=a0) aa.zero eD gJ (pt:=fun i k c=>Pt.p0 k (i:Int) (c.map aa.row)) (out:=fun b=>ret (b.1,b.2.map aa.row)) (fun J i k c hi hc hk=>?_) (fun J k c hc=>?_) hg
 ·have hm:c.length<=maxLen:=hc ▸ h0
  simp only [step,SS]
  refine ak (aK hi) ?_
  repeat first | refine ak aI ?_ | refine ak (aK hi) ?_ | refine ak (fW _) ?_
  refine aZ ((e1 (c.getD i aa.zero) k).1,((e1 (c.getD i aa.zero) k).2.map bq)) (Z275.an (a0:=(((c.getD i aa.zero).aq).bR).aX) (a1:=i64.wrap ((i64.wrap ((i64.wrap ((i64.wrap ((i64.wrap ((i64.wrap ((i64.wrap ((i64.wrap (k+1))+1))+1))+1))+1))+1))+1))+1)) (bZ _)) ?_
  repeat first | refine ak aI ?_ | refine ak (aK hi) ?_ | refine ak (fW _) ?_
  refine aZ ((e2 (c.getD i aa.zero) k).1,((e2 (c.getD i aa.zero) k).2.map bq)) (Z275.an (a0:=(((c.getD i aa.zero).aq).bD).aX) (a1:=i64.wrap ((e1 (c.getD i aa.zero) k).1+1)) (bZ _)) ?_
  repeat first | refine ak aI ?_ | refine ak (aK hi) ?_ | refine ak (fW _) ?_
  refine aZ ((e3 (c.getD i aa.zero) k).1,((e3 (c.getD i aa.zero) k).2.map bq)) (Z275.an (a0:=(((c.getD i aa.zero).aq).bB).aX) (a1:=i64.wrap ((i64.wrap ((e2 (c.getD i aa.zero) k).1+1))+1)) (bZ _)) ?_
  repeat first | refine ak aI ?_ | refine ak (aK hi) ?_ | refine ak (fW _) ?_
  refine aZ ((e4 (c.getD i aa.zero) k).1,((e4 (c.getD i aa.zero) k).2.map bt.row)) (Z276.an (a0:=(c.getD i aa.zero).cm) (a1:=i64.wrap ((i64.wrap ((e3 (c.getD i aa.zero) k).1+1))+1)) (bZ _)) ?_
  rw [aH hi hm]
  exact congrArg (fun q=>J (Pt.p0 (el (c.getD i aa.zero) k).1 ((i+1:Nat):Int) q)) (List.map_set (f:=aa.row) (l:=c) (i:=i) (a:=(el (c.getD i aa.zero) k).2)).symm
 ·simp only [step,SS]
  refine cH (by apply decide_eq_false;omega) ?_
  rfl
def af:eT Tryz.prog Ev 94 aU:=MV (run:=fun n x=>start (iter step n) x.1 x.2) mix aE .nil (.cons Z275.af (.cons Z276.af .nil)) Tryz.func94 (by kernel_rfl) run_eq (fun ls a hl e hg=>bA a.1 a.2 hg (by have h:(ls.headD .hole).aQ.length<=maxLen:=(hl _ _ (.head _)).len;have e:a.1.map aa.row=(ls.headD .hole).aQ:=(congrArg (fun x=>x.1) e.symm);rw [<-e] at h;simpa using h))
def iq {a0:List aa}{a1:Int}(h:eD a1):eD (md a0 a1).1:=iM gJ h
def nW (x:aa)(k:Int)(h0:0<=k)(hb:k+(cnt x:Int)<=4611686018427387904):(el x k).1=k+cnt x:=by
 simp only [cnt,Int.natCast_add] at hb ⊢
 simp (disch:=omega) only [el,e1,e2,e3,e4,wi,Z275.kk,Z276.kk]
 all_goals first | done | omega
def kk (a0:List aa)(a1:Int)(h0:0<=a1)(hb:a1+(sum a0:Int)<=4611686018427387904):(md a0 a1).1=a1+sum a0:=gb nW a0 a1 h0 hb
def sz (a:List aa):sum a<=60*(dJ (fun y:aa=>aa.size y) a):=iL (fun x=>by
 have:=Z275.sz (((x.aq).bR).aX)
 have:=Z275.sz (((x.aq).bD).aX)
 have:=Z275.sz (((x.aq).bB).aX)
 have:=Z276.sz x.cm
 try simp only [cnt,aa.size,aF.size,aO.size] at *
 omega) a
end Z277
namespace Z278
set_option maxHeartbeats 8000000
inductive Pt where
 | p0 (a b:Int) (c:aB)
def pid:Pt->Nat
 | .p0 ..=>2
def bY:Pt->List V
 | .p0 a b c=>[.own 0,.int .i64 a,.int .i64 b]
def bX:Pt->List aV
 | .p0 a b c=>[.row 134 c]
def step (J:Pt->aJ):Pt->aJ
 | .p0 a b c=>(cond (decide (b<(c.length:Int))) (m2 b (c.length:Int) (call (Z277.R ((oq c (toNat b)),a)) fun v1=>J (.p0 v1.1 (i64.wrap (b+1)) (List.set c (toNat b) [L.sl v1.2])))) (ret ((a,c):Int×aB)))
def start (J:Pt->aJ)(x0:aB)(x1:Int):aJ:=J (.p0 x1 0 x0)
def live:Nat->Live:=fun i=>match i with | 2=>[(0,none),(1,none),(5,none)] | _=>[]
def pats:List (Bool×List K):=[(false,[.sl 134]),(false,[aC])]
def res:RP:=.nX [134]
abbrev E:Env:={ T:=assoc jV,G:=dw [],nt:=19,M:=fK [(94,Z277.aU)],np:=1,mt:=true }
def step_eq (I:cB)(p:Pt):cR E live I (pid p) (bL Tryz.f53) (fm (live (pid p)) (bY p) (bX p)) (cA E Tryz.f53 res)=step (fun q=>I (pid q) (bY q) (bX q)) p:=by
 cases p<;>kernel_rfl
def start_eq (I:cB)(ls:List L):eL E live I (bL Tryz.f53) (fY pats ls) (cA E Tryz.f53 res)=start (fun q=>I (pid q) (bY q) (bX q)) (ls.headD .hole).aQ ((aA 1 ls).headD .hole).toInt:=by kernel_rfl
def run_eq (n:Nat)(ls:List L):eG E live Tryz.f53 res n (fY pats ls)=start (iter step n) (ls.headD .hole).aQ ((aA 1 ls).headD .hole).toInt:=cq (id:=pid) (vs:=bY) (hs:=bX) (step:=step) (start:=fun J=>start J (ls.headD .hole).aQ ((aA 1 ls).headD .hole).toInt) step_eq (fun I=>start_eq I ls) n
def e1 (x:List aa)(k:Int):=Z277.md x k
def el (x:List aa)(k:Int):Int×(List aa):=((e1 x k).1,((e1 x k).2))
def gJ (x:List aa)(k:Int)(hk:eD k):eD (el x k).1:=(Z277.iq hk)
def cnt (x:List aa):Nat:=0+Z277.sum x
def sum (a:List (List aa)):Nat:=(a.map cnt).sum
def md (a0:List (List aa))(a1:Int):Int×List (List aa):=iR el a0 a1
def gd (a0:List (List aa))(a1:Int):Prop:=eD a1
def acc (ls:List L):aB×Int:=((ls.headD .hole).aQ,((aA 1 ls).headD .hole).toInt)
def R:(aB×Int)->Option (Int×aB):=RR (p2 gd) (u2 md)
def an {a0 a1}(h:gd a0 a1):R ((a0.map (dI aa.row)),a1)=some ((md a0 a1).1,((md a0 a1).2.map (dI aa.row))):=aP (a:=(a0,a1)) h
def aU:gC:=MN pats acc R
def bA (a0:List (List aa))(a1:Int)(hg:gd a0 a1)(h0:a0.length<=maxLen):∃n,start (iter step n) (a0.map (dI aa.row)) a1=ret (((md a0 a1).1,((md a0 a1).2.map (dI aa.row))):Int×aB):=by
 unfold gd at hg
 show ∃n,iter step n (Pt.p0 a1 0 (a0.map (dI aa.row)))=_
 unfold md
 refine fO (el:=el) (xs:=a0) [] eD gJ (pt:=fun i k c=>Pt.p0 k (i:Int) (c.map (dI aa.row))) (out:=fun b=>ret (b.1,b.2.map (dI aa.row))) (fun J i k c hi hc hk=>?_) (fun J k c hc=>?_) hg
 ·have hm:c.length<=maxLen:=hc ▸ h0
  simp only [step,SS]
  refine ak (aK hi) ?_
  refine ak aI ?_
  refine ak (aK hi) ?_
  refine aZ ((e1 (c.getD i []) k).1,((e1 (c.getD i []) k).2.map aa.row)) (Z277.an (a0:=c.getD i []) (a1:=k) hk) ?_
  rw [aH hi hm]
  exact congrArg (fun q=>J (Pt.p0 (el (c.getD i []) k).1 ((i+1:Nat):Int) q)) (List.map_set (f:=(dI aa.row)) (l:=c) (i:=i) (a:=(el (c.getD i []) k).2)).symm
 ·simp only [step,SS]
  refine cH (by apply decide_eq_false;omega) ?_
  rfl
def af:eT Tryz.prog Ev 53 aU:=MV (run:=fun n x=>start (iter step n) x.1 x.2) mix aE .nil (.cons Z277.af .nil) Tryz.func53 (by kernel_rfl) run_eq (fun ls a hl e hg=>bA a.1 a.2 hg (by have h:(ls.headD .hole).aQ.length<=maxLen:=(hl _ _ (.head _)).len;have e:a.1.map (dI aa.row)=(ls.headD .hole).aQ:=(congrArg (fun x=>x.1) e.symm);rw [<-e] at h;simpa using h))
def iq {a0:List (List aa)}{a1:Int}(h:eD a1):eD (md a0 a1).1:=iM gJ h
def nW (x:List aa)(k:Int)(h0:0<=k)(hb:k+(cnt x:Int)<=4611686018427387904):(el x k).1=k+cnt x:=by
 simp only [cnt,Int.natCast_add] at hb ⊢
 simp (disch:=omega) only [el,e1,wi,Z277.kk]
 all_goals first | done | omega
def kk (a0:List (List aa))(a1:Int)(h0:0<=a1)(hb:a1+(sum a0:Int)<=4611686018427387904):(md a0 a1).1=a1+sum a0:=gb nW a0 a1 h0 hb
def sz (a:List (List aa)):sum a<=60*(dJ (fun y:List aa=>dJ (fun y:aa=>aa.size y) y) a):=iL (fun x=>by
 have:=Z277.sz x
 try simp only [cnt] at *
 omega) a
end Z278
namespace Z279
set_option maxHeartbeats 8000000
inductive Pt where
 | p0 (a b:Int) (c:aB)
def pid:Pt->Nat
 | .p0 ..=>2
def bY:Pt->List V
 | .p0 a b c=>[.own 0,.int .i64 a,.int .i64 b]
def bX:Pt->List aV
 | .p0 a b c=>[.row 143 c]
def step (J:Pt->aJ):Pt->aJ
 | .p0 a b c=>(cond (decide (b<(c.length:Int))) (m2 b (c.length:Int) (m2 b (c.length:Int) (cj (eW b) (m2 b (c.length:Int) (cj (eW b) (m2 b (c.length:Int) (cj (eW b) (m2 b (c.length:Int) (cj (eW b) (m2 b (c.length:Int) (cj (eW b) (m2 b (c.length:Int) (cj (eW b) (m2 b (c.length:Int) (cj (eW b) (m2 b (c.length:Int) (cj (eW b) (cj (eW b) (call (Z275.R ((bJ.at c (toNat b)).aS.aq.bR.aX,(i64.wrap ((i64.wrap ((i64.wrap ((i64.wrap ((i64.wrap ((i64.wrap ((i64.wrap ((i64.wrap (a+1))+1))+1))+1))+1))+1))+1))+1)))) fun v1=>(m2 b (c.length:Int) (cj (eW b) (m2 b (c.length:Int) (cj (eW b) (cj (eW b) (call (Z275.R ((bJ.at c (toNat b)).aS.aq.bD.aX,(i64.wrap (v1.1+1)))) fun v2=>(m2 b (c.length:Int) (cj (eW b) (m2 b (c.length:Int) (cj (eW b) (m2 b (c.length:Int) (cj (eW b) (cj (eW b) (call (Z275.R ((bJ.at c (toNat b)).aS.aq.bB.aX,(i64.wrap ((i64.wrap (v2.1+1))+1)))) fun v3=>(m2 b (c.length:Int) (cj (eW b) (m2 b (c.length:Int) (cj (eW b) (m2 b (c.length:Int) (cj (eW b) (cj (eW b) (call (Z276.R ((bJ.at c (toNat b)).aS.cm,(i64.wrap ((i64.wrap (v3.1+1))+1)))) fun v4=>(m2 b (c.length:Int) (cj (eW b) (m2 b (c.length:Int) (cj (eW b) (m2 b (c.length:Int) (cj (eW b) (m2 b (c.length:Int) (cj (eW b) (m2 b (c.length:Int) (cj (eW b) (m2 b (c.length:Int) (cj (eW b) (m2 b (c.length:Int) (cj (eW b) (m2 b (c.length:Int) (cj (eW b) (m2 b (c.length:Int) (cj (eW b) (cj (eW b) (call (Z275.R ((bJ.at c (toNat b)).fA.aq.bR.aX,(i64.wrap ((i64.wrap ((i64.wrap ((i64.wrap ((i64.wrap ((i64.wrap ((i64.wrap ((i64.wrap (v4.1+1))+1))+1))+1))+1))+1))+1))+1)))) fun v5=>(m2 b (c.length:Int) (cj (eW b) (m2 b (c.length:Int) (cj (eW b) (cj (eW b) (call (Z275.R ((bJ.at c (toNat b)).fA.aq.bD.aX,(i64.wrap (v5.1+1)))) fun v6=>(m2 b (c.length:Int) (cj (eW b) (m2 b (c.length:Int) (cj (eW b) (m2 b (c.length:Int) (cj (eW b) (cj (eW b) (call (Z275.R ((bJ.at c (toNat b)).fA.aq.bB.aX,(i64.wrap ((i64.wrap (v6.1+1))+1)))) fun v7=>(m2 b (c.length:Int) (cj (eW b) (m2 b (c.length:Int) (cj (eW b) (m2 b (c.length:Int) (cj (eW b) (cj (eW b) (call (Z276.R ((bJ.at c (toNat b)).fA.cm,(i64.wrap ((i64.wrap (v7.1+1))+1)))) fun v8=>(m2 b (c.length:Int) (cj (eW b) (m2 b (c.length:Int) (cj (eW b) (m2 b (c.length:Int) (cj (eW b) (m2 b (c.length:Int) (cj (eW b) (m2 b (c.length:Int) (cj (eW b) (m2 b (c.length:Int) (cj (eW b) (m2 b (c.length:Int) (cj (eW b) (m2 b (c.length:Int) (cj (eW b) (m2 b (c.length:Int) (cj (eW b) (cj (eW b) (call (Z275.R ((bJ.at c (toNat b)).fB.aq.bR.aX,(i64.wrap ((i64.wrap ((i64.wrap ((i64.wrap ((i64.wrap ((i64.wrap ((i64.wrap ((i64.wrap (v8.1+1))+1))+1))+1))+1))+1))+1))+1)))) fun v9=>(m2 b (c.length:Int) (cj (eW b) (m2 b (c.length:Int) (cj (eW b) (cj (eW b) (call (Z275.R ((bJ.at c (toNat b)).fB.aq.bD.aX,(i64.wrap (v9.1+1)))) fun v10=>(m2 b (c.length:Int) (cj (eW b) (m2 b (c.length:Int) (cj (eW b) (m2 b (c.length:Int) (cj (eW b) (cj (eW b) (call (Z275.R ((bJ.at c (toNat b)).fB.aq.bB.aX,(i64.wrap ((i64.wrap (v10.1+1))+1)))) fun v11=>(m2 b (c.length:Int) (cj (eW b) (m2 b (c.length:Int) (cj (eW b) (m2 b (c.length:Int) (cj (eW b) (cj (eW b) (call (Z276.R ((bJ.at c (toNat b)).fB.cm,(i64.wrap ((i64.wrap (v11.1+1))+1)))) fun v12=>J (.p0 v12.1 (i64.wrap (b+1)) (List.set c (toNat b) (bJ.enc (⟨(⟨(⟨a,(i64.wrap (a+1)),(i64.wrap ((i64.wrap (a+1))+1)),(i64.wrap ((i64.wrap ((i64.wrap (a+1))+1))+1)),(i64.wrap ((i64.wrap ((i64.wrap ((i64.wrap (a+1))+1))+1))+1)),(i64.wrap ((i64.wrap ((i64.wrap ((i64.wrap ((i64.wrap (a+1))+1))+1))+1))+1)),(i64.wrap ((i64.wrap ((i64.wrap ((i64.wrap ((i64.wrap ((i64.wrap (a+1))+1))+1))+1))+1))+1)),(i64.wrap ((i64.wrap ((i64.wrap ((i64.wrap ((i64.wrap ((i64.wrap ((i64.wrap (a+1))+1))+1))+1))+1))+1))+1)),(⟨v1.2,v1.1⟩:bE),(⟨v2.2,v2.1⟩:bE),(i64.wrap (v2.1+1)),(⟨v3.2,v3.1⟩:bE),((Int.tmod (i64.wrap (v3.1+1)) 3)==0)⟩:cg),v4.2⟩:aR),(⟨(⟨v4.1,(i64.wrap (v4.1+1)),(i64.wrap ((i64.wrap (v4.1+1))+1)),(i64.wrap ((i64.wrap ((i64.wrap (v4.1+1))+1))+1)),(i64.wrap ((i64.wrap ((i64.wrap ((i64.wrap (v4.1+1))+1))+1))+1)),(i64.wrap ((i64.wrap ((i64.wrap ((i64.wrap ((i64.wrap (v4.1+1))+1))+1))+1))+1)),(i64.wrap ((i64.wrap ((i64.wrap ((i64.wrap ((i64.wrap ((i64.wrap (v4.1+1))+1))+1))+1))+1))+1)),(i64.wrap ((i64.wrap ((i64.wrap ((i64.wrap ((i64.wrap ((i64.wrap ((i64.wrap (v4.1+1))+1))+1))+1))+1))+1))+1)),(⟨v5.2,v5.1⟩:bE),(⟨v6.2,v6.1⟩:bE),(i64.wrap (v6.1+1)),(⟨v7.2,v7.1⟩:bE),((Int.tmod (i64.wrap (v7.1+1)) 3)==0)⟩:cg),v8.2⟩:aR),(⟨(⟨v8.1,(i64.wrap (v8.1+1)),(i64.wrap ((i64.wrap (v8.1+1))+1)),(i64.wrap ((i64.wrap ((i64.wrap (v8.1+1))+1))+1)),(i64.wrap ((i64.wrap ((i64.wrap ((i64.wrap (v8.1+1))+1))+1))+1)),(i64.wrap ((i64.wrap ((i64.wrap ((i64.wrap ((i64.wrap (v8.1+1))+1))+1))+1))+1)),(i64.wrap ((i64.wrap ((i64.wrap ((i64.wrap ((i64.wrap ((i64.wrap (v8.1+1))+1))+1))+1))+1))+1)),(i64.wrap ((i64.wrap ((i64.wrap ((i64.wrap ((i64.wrap ((i64.wrap ((i64.wrap (v8.1+1))+1))+1))+1))+1))+1))+1)),(⟨v9.2,v9.1⟩:bE),(⟨v10.2,v10.1⟩:bE),(i64.wrap (v10.1+1)),(⟨v11.2,v11.1⟩:bE),((Int.tmod (i64.wrap (v11.1+1)) 3)==0)⟩:cg),v12.2⟩:aR)⟩:bJ))))))))))))))))))))))))))))))))))))))))))))))))))))))))))))))))))))))))))))))))))))))))))))))))))))))))))))))))))))))))))))))))) (ret ((a,c):Int×aB)))
def start (J:Pt->aJ)(x0:aB)(x1:Int):aJ:=J (.p0 x1 0 x0)
def live:Nat->Live:=fun i=>match i with | 2=>[(0,none),(1,none),(5,none)] | _=>[]
def pats:List (Bool×List K):=[(false,[.sl 143]),(false,[aC])]
def res:RP:=.nX [143]
abbrev E:Env:={ T:=assoc jV,G:=dw [],nt:=493,M:=fK [(57,Z275.aU),(95,Z276.aU)],np:=1,mt:=true }
def step_eq (I:cB)(p:Pt):cR E live I (pid p) (bL Tryz.f54) (fm (live (pid p)) (bY p) (bX p)) (cA E Tryz.f54 res)=step (fun q=>I (pid q) (bY q) (bX q)) p:=by
 cases p<;>kernel_rfl
def start_eq (I:cB)(ls:List L):eL E live I (bL Tryz.f54) (fY pats ls) (cA E Tryz.f54 res)=start (fun q=>I (pid q) (bY q) (bX q)) (ls.headD .hole).aQ ((aA 1 ls).headD .hole).toInt:=by kernel_rfl
def run_eq (n:Nat)(ls:List L):eG E live Tryz.f54 res n (fY pats ls)=start (iter step n) (ls.headD .hole).aQ ((aA 1 ls).headD .hole).toInt:=cq (id:=pid) (vs:=bY) (hs:=bX) (step:=step) (start:=fun J=>start J (ls.headD .hole).aQ ((aA 1 ls).headD .hole).toInt) step_eq (fun I=>start_eq I ls) n
def e1 (x:az)(k:Int):=Z275.md ((((x.aS).aq).bR).aX) (i64.wrap ((i64.wrap ((i64.wrap ((i64.wrap ((i64.wrap ((i64.wrap ((i64.wrap ((i64.wrap (k+1))+1))+1))+1))+1))+1))+1))+1))
def e2 (x:az)(k:Int):=Z275.md ((((x.aS).aq).bD).aX) (i64.wrap ((e1 x k).1+1))
def e3 (x:az)(k:Int):=Z275.md ((((x.aS).aq).bB).aX) (i64.wrap ((i64.wrap ((e2 x k).1+1))+1))
def e4 (x:az)(k:Int):=Z276.md ((x.aS).cm) (i64.wrap ((i64.wrap ((e3 x k).1+1))+1))
def e5 (x:az)(k:Int):=Z275.md ((((x.fA).aq).bR).aX) (i64.wrap ((i64.wrap ((i64.wrap ((i64.wrap ((i64.wrap ((i64.wrap ((i64.wrap ((i64.wrap ((e4 x k).1+1))+1))+1))+1))+1))+1))+1))+1))
def e6 (x:az)(k:Int):=Z275.md ((((x.fA).aq).bD).aX) (i64.wrap ((e5 x k).1+1))
def e7 (x:az)(k:Int):=Z275.md ((((x.fA).aq).bB).aX) (i64.wrap ((i64.wrap ((e6 x k).1+1))+1))
def e8 (x:az)(k:Int):=Z276.md ((x.fA).cm) (i64.wrap ((i64.wrap ((e7 x k).1+1))+1))
def e9 (x:az)(k:Int):=Z275.md ((((x.fB).aq).bR).aX) (i64.wrap ((i64.wrap ((i64.wrap ((i64.wrap ((i64.wrap ((i64.wrap ((i64.wrap ((i64.wrap ((e8 x k).1+1))+1))+1))+1))+1))+1))+1))+1))
def uX (x:az)(k:Int):=Z275.md ((((x.fB).aq).bD).aX) (i64.wrap ((e9 x k).1+1))
def tX (x:az)(k:Int):=Z275.md ((((x.fB).aq).bB).aX) (i64.wrap ((i64.wrap ((uX x k).1+1))+1))
def yJ (x:az)(k:Int):=Z276.md ((x.fB).cm) (i64.wrap ((i64.wrap ((tX x k).1+1))+1))
def el (x:az)(k:Int):Int×az:=((yJ x k).1,(⟨(⟨(⟨k,(i64.wrap (k+1)),(i64.wrap ((i64.wrap (k+1))+1)),(i64.wrap ((i64.wrap ((i64.wrap (k+1))+1))+1)),(i64.wrap ((i64.wrap ((i64.wrap ((i64.wrap (k+1))+1))+1))+1)),(i64.wrap ((i64.wrap ((i64.wrap ((i64.wrap ((i64.wrap (k+1))+1))+1))+1))+1)),(i64.wrap ((i64.wrap ((i64.wrap ((i64.wrap ((i64.wrap ((i64.wrap (k+1))+1))+1))+1))+1))+1)),(i64.wrap ((i64.wrap ((i64.wrap ((i64.wrap ((i64.wrap ((i64.wrap ((i64.wrap (k+1))+1))+1))+1))+1))+1))+1)),(⟨(e1 x k).2,(e1 x k).1⟩:aO),(⟨(e2 x k).2,(e2 x k).1⟩:aO),(i64.wrap ((e2 x k).1+1)),(⟨(e3 x k).2,(e3 x k).1⟩:aO),((Int.tmod (i64.wrap ((e3 x k).1+1)) 3)==0)⟩:aF),(e4 x k).2⟩:aa),(⟨(⟨(e4 x k).1,(i64.wrap ((e4 x k).1+1)),(i64.wrap ((i64.wrap ((e4 x k).1+1))+1)),(i64.wrap ((i64.wrap ((i64.wrap ((e4 x k).1+1))+1))+1)),(i64.wrap ((i64.wrap ((i64.wrap ((i64.wrap ((e4 x k).1+1))+1))+1))+1)),(i64.wrap ((i64.wrap ((i64.wrap ((i64.wrap ((i64.wrap ((e4 x k).1+1))+1))+1))+1))+1)),(i64.wrap ((i64.wrap ((i64.wrap ((i64.wrap ((i64.wrap ((i64.wrap ((e4 x k).1+1))+1))+1))+1))+1))+1)),(i64.wrap ((i64.wrap ((i64.wrap ((i64.wrap ((i64.wrap ((i64.wrap ((i64.wrap ((e4 x k).1+1))+1))+1))+1))+1))+1))+1)),(⟨(e5 x k).2,(e5 x k).1⟩:aO),(⟨(e6 x k).2,(e6 x k).1⟩:aO),(i64.wrap ((e6 x k).1+1)),(⟨(e7 x k).2,(e7 x k).1⟩:aO),((Int.tmod (i64.wrap ((e7 x k).1+1)) 3)==0)⟩:aF),(e8 x k).2⟩:aa),(⟨(⟨(e8 x k).1,(i64.wrap ((e8 x k).1+1)),(i64.wrap ((i64.wrap ((e8 x k).1+1))+1)),(i64.wrap ((i64.wrap ((i64.wrap ((e8 x k).1+1))+1))+1)),(i64.wrap ((i64.wrap ((i64.wrap ((i64.wrap ((e8 x k).1+1))+1))+1))+1)),(i64.wrap ((i64.wrap ((i64.wrap ((i64.wrap ((i64.wrap ((e8 x k).1+1))+1))+1))+1))+1)),(i64.wrap ((i64.wrap ((i64.wrap ((i64.wrap ((i64.wrap ((i64.wrap ((e8 x k).1+1))+1))+1))+1))+1))+1)),(i64.wrap ((i64.wrap ((i64.wrap ((i64.wrap ((i64.wrap ((i64.wrap ((i64.wrap ((e8 x k).1+1))+1))+1))+1))+1))+1))+1)),(⟨(e9 x k).2,(e9 x k).1⟩:aO),(⟨(uX x k).2,(uX x k).1⟩:aO),(i64.wrap ((uX x k).1+1)),(⟨(tX x k).2,(tX x k).1⟩:aO),((Int.tmod (i64.wrap ((tX x k).1+1)) 3)==0)⟩:aF),(yJ x k).2⟩:aa)⟩:az))
def gJ (x:az)(k:Int)(hk:eD k):eD (el x k).1:=(Z276.iq (bZ _))
def cnt (x:az):Nat:=39+Z275.sum ((((x.aS).aq).bR).aX)+Z275.sum ((((x.aS).aq).bD).aX)+Z275.sum ((((x.aS).aq).bB).aX)+Z276.sum ((x.aS).cm)+Z275.sum ((((x.fA).aq).bR).aX)+Z275.sum ((((x.fA).aq).bD).aX)+Z275.sum ((((x.fA).aq).bB).aX)+Z276.sum ((x.fA).cm)+Z275.sum ((((x.fB).aq).bR).aX)+Z275.sum ((((x.fB).aq).bD).aX)+Z275.sum ((((x.fB).aq).bB).aX)+Z276.sum ((x.fB).cm)
def sum (a:List az):Nat:=(a.map cnt).sum
def md (a0:List az)(a1:Int):Int×List az:=iR el a0 a1
def gd (a0:List az)(a1:Int):Prop:=eD a1
def acc (ls:List L):aB×Int:=((ls.headD .hole).aQ,((aA 1 ls).headD .hole).toInt)
def R:(aB×Int)->Option (Int×aB):=RR (p2 gd) (u2 md)
def an {a0 a1}(h:gd a0 a1):R ((a0.map az.row),a1)=some ((md a0 a1).1,((md a0 a1).2.map az.row)):=aP (a:=(a0,a1)) h
def aU:gC:=MN pats acc R
def bA (a0:List az)(a1:Int)(hg:gd a0 a1)(h0:a0.length<=maxLen):∃n,start (iter step n) (a0.map az.row) a1=ret (((md a0 a1).1,((md a0 a1).2.map az.row)):Int×aB):=by
 unfold gd at hg
 show ∃n,iter step n (Pt.p0 a1 0 (a0.map az.row))=_
 unfold md
 refine fO (el:=el) (xs:=a0) az.zero eD gJ (pt:=fun i k c=>Pt.p0 k (i:Int) (c.map az.row)) (out:=fun b=>ret (b.1,b.2.map az.row)) (fun J i k c hi hc hk=>?_) (fun J k c hc=>?_) hg
 ·have hm:c.length<=maxLen:=hc ▸ h0
  simp only [step,SS]
  refine ak (aK hi) ?_
  repeat first | refine ak aI ?_ | refine ak (aK hi) ?_ | refine ak (fW _) ?_
  refine aZ ((e1 (c.getD i az.zero) k).1,((e1 (c.getD i az.zero) k).2.map bq)) (Z275.an (a0:=((((c.getD i az.zero).aS).aq).bR).aX) (a1:=i64.wrap ((i64.wrap ((i64.wrap ((i64.wrap ((i64.wrap ((i64.wrap ((i64.wrap ((i64.wrap (k+1))+1))+1))+1))+1))+1))+1))+1)) (bZ _)) ?_
  repeat first | refine ak aI ?_ | refine ak (aK hi) ?_ | refine ak (fW _) ?_
  refine aZ ((e2 (c.getD i az.zero) k).1,((e2 (c.getD i az.zero) k).2.map bq)) (Z275.an (a0:=((((c.getD i az.zero).aS).aq).bD).aX) (a1:=i64.wrap ((e1 (c.getD i az.zero) k).1+1)) (bZ _)) ?_
  repeat first | refine ak aI ?_ | refine ak (aK hi) ?_ | refine ak (fW _) ?_
  refine aZ ((e3 (c.getD i az.zero) k).1,((e3 (c.getD i az.zero) k).2.map bq)) (Z275.an (a0:=((((c.getD i az.zero).aS).aq).bB).aX) (a1:=i64.wrap ((i64.wrap ((e2 (c.getD i az.zero) k).1+1))+1)) (bZ _)) ?_
  repeat first | refine ak aI ?_ | refine ak (aK hi) ?_ | refine ak (fW _) ?_
  refine aZ ((e4 (c.getD i az.zero) k).1,((e4 (c.getD i az.zero) k).2.map bt.row)) (Z276.an (a0:=((c.getD i az.zero).aS).cm) (a1:=i64.wrap ((i64.wrap ((e3 (c.getD i az.zero) k).1+1))+1)) (bZ _)) ?_
  repeat first | refine ak aI ?_ | refine ak (aK hi) ?_ | refine ak (fW _) ?_
  refine aZ ((e5 (c.getD i az.zero) k).1,((e5 (c.getD i az.zero) k).2.map bq)) (Z275.an (a0:=((((c.getD i az.zero).fA).aq).bR).aX) (a1:=i64.wrap ((i64.wrap ((i64.wrap ((i64.wrap ((i64.wrap ((i64.wrap ((i64.wrap ((i64.wrap ((e4 (c.getD i az.zero) k).1+1))+1))+1))+1))+1))+1))+1))+1)) (bZ _)) ?_
  repeat first | refine ak aI ?_ | refine ak (aK hi) ?_ | refine ak (fW _) ?_
  refine aZ ((e6 (c.getD i az.zero) k).1,((e6 (c.getD i az.zero) k).2.map bq)) (Z275.an (a0:=((((c.getD i az.zero).fA).aq).bD).aX) (a1:=i64.wrap ((e5 (c.getD i az.zero) k).1+1)) (bZ _)) ?_
  repeat first | refine ak aI ?_ | refine ak (aK hi) ?_ | refine ak (fW _) ?_
  refine aZ ((e7 (c.getD i az.zero) k).1,((e7 (c.getD i az.zero) k).2.map bq)) (Z275.an (a0:=((((c.getD i az.zero).fA).aq).bB).aX) (a1:=i64.wrap ((i64.wrap ((e6 (c.getD i az.zero) k).1+1))+1)) (bZ _)) ?_
  repeat first | refine ak aI ?_ | refine ak (aK hi) ?_ | refine ak (fW _) ?_
  refine aZ ((e8 (c.getD i az.zero) k).1,((e8 (c.getD i az.zero) k).2.map bt.row)) (Z276.an (a0:=((c.getD i az.zero).fA).cm) (a1:=i64.wrap ((i64.wrap ((e7 (c.getD i az.zero) k).1+1))+1)) (bZ _)) ?_
  repeat first | refine ak aI ?_ | refine ak (aK hi) ?_ | refine ak (fW _) ?_
  refine aZ ((e9 (c.getD i az.zero) k).1,((e9 (c.getD i az.zero) k).2.map bq)) (Z275.an (a0:=((((c.getD i az.zero).fB).aq).bR).aX) (a1:=i64.wrap ((i64.wrap ((i64.wrap ((i64.wrap ((i64.wrap ((i64.wrap ((i64.wrap ((i64.wrap ((e8 (c.getD i az.zero) k).1+1))+1))+1))+1))+1))+1))+1))+1)) (bZ _)) ?_
  repeat first | refine ak aI ?_ | refine ak (aK hi) ?_ | refine ak (fW _) ?_
  refine aZ ((uX (c.getD i az.zero) k).1,((uX (c.getD i az.zero) k).2.map bq)) (Z275.an (a0:=((((c.getD i az.zero).fB).aq).bD).aX) (a1:=i64.wrap ((e9 (c.getD i az.zero) k).1+1)) (bZ _)) ?_
  repeat first | refine ak aI ?_ | refine ak (aK hi) ?_ | refine ak (fW _) ?_
  refine aZ ((tX (c.getD i az.zero) k).1,((tX (c.getD i az.zero) k).2.map bq)) (Z275.an (a0:=((((c.getD i az.zero).fB).aq).bB).aX) (a1:=i64.wrap ((i64.wrap ((uX (c.getD i az.zero) k).1+1))+1)) (bZ _)) ?_
  repeat first | refine ak aI ?_ | refine ak (aK hi) ?_ | refine ak (fW _) ?_
  refine aZ ((yJ (c.getD i az.zero) k).1,((yJ (c.getD i az.zero) k).2.map bt.row)) (Z276.an (a0:=((c.getD i az.zero).fB).cm) (a1:=i64.wrap ((i64.wrap ((tX (c.getD i az.zero) k).1+1))+1)) (bZ _)) ?_
  rw [aH hi hm]
  exact congrArg (fun q=>J (Pt.p0 (el (c.getD i az.zero) k).1 ((i+1:Nat):Int) q)) (List.map_set (f:=az.row) (l:=c) (i:=i) (a:=(el (c.getD i az.zero) k).2)).symm
 ·simp only [step,SS]
  refine cH (by apply decide_eq_false;omega) ?_
  rfl
def af:eT Tryz.prog Ev 54 aU:=MV (run:=fun n x=>start (iter step n) x.1 x.2) mix aE .nil (.cons Z275.af (.cons Z276.af .nil)) Tryz.func54 (by kernel_rfl) run_eq (fun ls a hl e hg=>bA a.1 a.2 hg (by have h:(ls.headD .hole).aQ.length<=maxLen:=(hl _ _ (.head _)).len;have e:a.1.map az.row=(ls.headD .hole).aQ:=(congrArg (fun x=>x.1) e.symm);rw [<-e] at h;simpa using h))
def iq {a0:List az}{a1:Int}(h:eD a1):eD (md a0 a1).1:=iM gJ h
def nW (x:az)(k:Int)(h0:0<=k)(hb:k+(cnt x:Int)<=4611686018427387904):(el x k).1=k+cnt x:=by
 simp only [cnt,Int.natCast_add] at hb ⊢
 simp (disch:=omega) only [el,e1,e2,e3,e4,e5,e6,e7,e8,e9,uX,tX,yJ,wi,Z275.kk,Z276.kk]
 all_goals first | done | omega
def kk (a0:List az)(a1:Int)(h0:0<=a1)(hb:a1+(sum a0:Int)<=4611686018427387904):(md a0 a1).1=a1+sum a0:=gb nW a0 a1 h0 hb
def sz (a:List az):sum a<=60*(dJ (fun y:az=>az.size y) a):=iL (fun x=>by
 have:=Z275.sz ((((x.aS).aq).bR).aX)
 have:=Z275.sz ((((x.aS).aq).bD).aX)
 have:=Z275.sz ((((x.aS).aq).bB).aX)
 have:=Z276.sz ((x.aS).cm)
 have:=Z275.sz ((((x.fA).aq).bR).aX)
 have:=Z275.sz ((((x.fA).aq).bD).aX)
 have:=Z275.sz ((((x.fA).aq).bB).aX)
 have:=Z276.sz ((x.fA).cm)
 have:=Z275.sz ((((x.fB).aq).bR).aX)
 have:=Z275.sz ((((x.fB).aq).bD).aX)
 have:=Z275.sz ((((x.fB).aq).bB).aX)
 have:=Z276.sz ((x.fB).cm)
 try simp only [cnt,az.size,aa.size,aF.size,aO.size] at *
 omega) a
end Z279
namespace Z280
set_option maxHeartbeats 8000000
def F (x0:bn)(x1:Int):aJ:=(call (Z278.R (x0.aG,x1)) fun v1=>(call (Z279.R (x0.aW,v1.1)) fun v2=>ret ((v2.1,v1.2,v2.2):Int×aB×aB)))
def pats:List (Bool×List K):=[(true,[.sl 134,.sl 143]),(false,[aC])]
def res:RP:=.nX [134,143]
def e1 (x:aj)(k:Int):=Z278.md x.aG k
def e2 (x:aj)(k:Int):=Z279.md x.aW ((e1 x k).1)
def sum (x:aj):Nat:=0+Z278.sum x.aG+Z279.sum x.aW
def md (a0:aj)(a1:Int):Int×List (List aa)×List az:=((e2 a0 a1).1,(e1 a0 a1).2,(e2 a0 a1).2)
def gd (a0:aj)(a1:Int):Prop:=eD a1
def acc (ls:List L):bn×Int:=((bn.dec ls),((aA 2 ls).headD .hole).toInt)
def R:(bn×Int)->Option (Int×aB×aB):=RR (p2 gd) (u2 md)
def an {a0 a1}(h:gd a0 a1):R ((aj.r a0),a1)=some ((md a0 a1).1,((md a0 a1).2.1.map (dI aa.row)),((md a0 a1).2.2.map az.row)):=aP (a:=(a0,a1)) h
def aU:gC:=MN pats acc R
def bA (a0:aj)(a1:Int)(hg:gd a0 a1):F (aj.r a0) a1=ret (((md a0 a1).1,((md a0 a1).2.1.map (dI aa.row)),((md a0 a1).2.2.map az.row)):Int×aB×aB):=by
 unfold gd at hg
 simp only [F,SS]
 unfold md
 refine aZ ((e1 a0 a1).1,((e1 a0 a1).2.map (dI aa.row))) (Z278.an (a0:=a0.aG) (a1:=a1) hg) ?_
 refine aZ ((e2 a0 a1).1,((e2 a0 a1).2.map az.row)) (Z279.an (a0:=a0.aW) (a1:=(e1 a0 a1).1) (Z278.iq hg)) ?_
 first | rfl | (simp only [SS];rfl)
def af:eT Tryz.prog Ev 21 aU:=MV (live:=fun _=>[]) (nt:=14) (run:=fun _ x=>F x.1 x.2) mix aE .nil (.cons Z278.af (.cons Z279.af .nil)) Tryz.func21 (by kernel_rfl) (fun _ _=>by kernel_rfl) (fun _ a _ _ hg=>⟨0,bA a.1 a.2 hg⟩)
def iq {a0:aj}{a1:Int}(hk:eD a1):eD (md a0 a1).1:=(Z279.iq (Z278.iq hk))
def kk (x:aj)(k:Int)(h0:0<=k)(hb:k+(sum x:Int)<=4611686018427387904):(md x k).1=k+sum x:=by
 simp only [sum,Int.natCast_add] at hb ⊢
 simp (disch:=omega) only [md,e1,e2,wi,Z278.kk,Z279.kk]
 all_goals first | done | omega
def sz (x:aj):sum x<=60*aj.size x:=by
 have:=Z278.sz x.aG
 have:=Z279.sz x.aW
 try simp only [sum,aj.size] at *
 omega
def upd (x:aj)(k:Int):aj:=(⟨(md x k).2.1,(md x k).2.2⟩:aj)
end Z280
namespace Z281
inductive Pt where
 | p0 (a:Int) (b:aD)
def pid:Pt->Nat
 | .p0 ..=>4
def bY:Pt->List V
 | .p0 a b=>[.int .i64 a,.str b]
def bX:Pt->List aV
 | .p0 a b=>[]
def step (J:Pt->aJ):Pt->aJ
 | .p0 a b=>(cond (decide (a>0)) (cond (decide ((((tL [[L.int (IntKind.u8.wrap (i64.wrap (48+(Int.tmod a 10))))]]).size+b.size:Nat):Int)>9223372036854775807)) none (J (.p0 (i64.wrap (Int.tdiv a 10)) ((tL [[L.int (IntKind.u8.wrap (i64.wrap (48+(Int.tmod a 10))))]])++b)))) (cond (decide ((((⟨#[109]⟩:aD).size+b.size:Nat):Int)>9223372036854775807)) none (ret (((⟨#[109]⟩:aD)++b):aD))))
def start (J:Pt->aJ)(x0:Int):aJ:=(cond (decide (x0<=0)) (ret ((⟨#[109,48]⟩:aD):aD)) (J (.p0 x0 ⟨#[]⟩)))
def live:Nat->Live:=fun i=>match i with | 4=>[(0,none),(3,none)] | _=>[]
def dg (a:Int):aD:=tL [[L.int (IntKind.u8.wrap (i64.wrap (48+(Int.tmod a 10))))]]
def txt:Nat->Int->aD->aD
 | 0,_,b=>b
 | n+1,a,b=>bif decide (a>0) then txt n (i64.wrap (Int.tdiv a 10)) (dg a++b) else b
def yY (a:Int):(tL [[L.int (IntKind.u8.wrap (i64.wrap (48+(Int.tmod a 10))))]]).size=1:=rfl
def run:∀(n:Nat) (a:Int) (b:aD),n<=64->a<2^n->eD a->b.size+n<=1000->∃m,iter step m (.p0 a b)=ret ((⟨#[109]⟩:aD)++txt n a b)
 | 0,a,b,_,h1,_,h3=>by
  refine ⟨1,?_⟩
  show step _ (.p0 a b)=_
  have e1:decide (a>0)=false:=decide_eq_false (by simp at h1;omega)
  have e2:decide ((((⟨#[109]⟩:aD).size+b.size:Nat):Int)>9223372036854775807)=false:=decide_eq_false (by have :(⟨#[109]⟩:aD).size=1:=rfl;omega)
  simp only [step,e1,e2,bu]
  rfl
 | n+1,a,b,hn,h1,h2,h3=>by
  by_cases hp:a>0
  ·have e1:decide (a>0)=true:=decide_eq_true hp
   have hq:Int.tdiv a 10=a / 10:=Int.tdiv_eq_ediv_of_nonneg (by omega)
   unfold eD at h2
   have hw:i64.wrap (Int.tdiv a 10)=a / 10:=by rw [hq];exact wi _ (by omega)
   have hlt:a / 10<2^n:=by
    have :(2:Int)^(n+1)=2^n*2:=Int.pow_succ 2 n
    omega
   have hs:(dg a++b).size=1+b.size:=by rw [ByteArray.size_append];rfl
   obtain ⟨m,hm⟩:=run n (a / 10) (dg a++b) (by omega) hlt ⟨by omega,by omega⟩ (by rw [hs];omega)
   refine ⟨m+1,?_⟩
   show step _ (.p0 a b)=_
   have e2:decide ((((tL [[L.int (IntKind.u8.wrap (i64.wrap (48+(Int.tmod a 10))))]]).size+b.size:Nat):Int)>9223372036854775807)=false:=decide_eq_false (by rw [yY];omega)
   simp only [step,txt,e1,e2,bh,bu,hw]
   exact hm
  ·refine ⟨1,?_⟩
   show step _ (.p0 a b)=_
   have e1:decide (a>0)=false:=decide_eq_false hp
   have e2:decide ((((⟨#[109]⟩:aD).size+b.size:Nat):Int)>9223372036854775807)=false:=decide_eq_false (by have :(⟨#[109]⟩:aD).size=1:=rfl;omega)
   simp only [step,txt,e1,e2,bu]
def md (a0:Int):aD:=(cond (decide (a0<=0)) (⟨#[109,48]⟩:aD) ((⟨#[109]⟩:aD)++txt 64 a0 ⟨#[]⟩))
def gd (a0:Int):Prop:=eD a0
def R:=RR gd md
def an {a0}(h:gd a0):R a0=some (md a0):=aP (a:=a0) h
def aU:=CN [pI] oS RT.dec R
def bA (a0)(hg:gd a0):∃n,start (iter step n) a0=ret (md a0):=by
 unfold gd at hg
 unfold start md
 cases h:decide (a0<=0)
 ·have h2:=hg.2
  have h3:(2:Int)^64=18446744073709551616:=by decide
  obtain ⟨m,hm⟩:=run 64 a0 ⟨#[]⟩ (Nat.le_refl _) (by rw [h3];omega) hg (by show 0+64<=1000;omega)
  exact ⟨m,hm⟩
 ·exact ⟨0,rfl⟩
def af:cD 56 aU:=L1 20 pid bY bX live step start mix aE bA .nil Tryz.func56
end Z281
namespace Z282
set_option maxHeartbeats 8000000
inductive Pt where
 | p0 (a b:Int) (c:aB)
def pid:Pt->Nat
 | .p0 ..=>2
def bY:Pt->List V
 | .p0 a b c=>[.own 0,.int .i64 a,.int .i64 b]
def bX:Pt->List aV
 | .p0 a b c=>[.row 9 c]
def step (J:Pt->aJ):Pt->aJ
 | .p0 a b c=>(cond (decide (b<(c.length:Int))) (call (Z281.R a) fun v1=>(m2 b (c.length:Int) (J (.p0 (i64.wrap (a+1)) (i64.wrap (b+1)) (List.set c (toNat b) [L.str v1]))))) (ret ((a,c):Int×aB)))
def start (J:Pt->aJ)(x0:aB)(x1:Int):aJ:=J (.p0 x1 0 x0)
def live:Nat->Live:=fun i=>match i with | 2=>[(0,none),(1,none),(5,none)] | _=>[]
def pats:List (Bool×List K):=[(false,[.sl 9]),(false,[aC])]
def res:RP:=.nX [9]
abbrev E:Env:={ T:=assoc jV,G:=dw [(56,Z281.aU)],nt:=20,M:=fK [],np:=1,mt:=true }
def step_eq (I:cB)(p:Pt):cR E live I (pid p) (bL Tryz.f24) (fm (live (pid p)) (bY p) (bX p)) (cA E Tryz.f24 res)=step (fun q=>I (pid q) (bY q) (bX q)) p:=by
 cases p<;>kernel_rfl
def start_eq (I:cB)(ls:List L):eL E live I (bL Tryz.f24) (fY pats ls) (cA E Tryz.f24 res)=start (fun q=>I (pid q) (bY q) (bX q)) (ls.headD .hole).aQ ((aA 1 ls).headD .hole).toInt:=by kernel_rfl
def run_eq (n:Nat)(ls:List L):eG E live Tryz.f24 res n (fY pats ls)=start (iter step n) (ls.headD .hole).aQ ((aA 1 ls).headD .hole).toInt:=cq (id:=pid) (vs:=bY) (hs:=bX) (step:=step) (start:=fun J=>start J (ls.headD .hole).aQ ((aA 1 ls).headD .hole).toInt) step_eq (fun I=>start_eq I ls) n
def el (x:aD)(k:Int):Int×aD:=((i64.wrap (k+1)),(Z281.md k))
def gJ (x:aD)(k:Int)(hk:eD k):eD (el x k).1:=(bZ _)
def cnt (x:aD):Nat:=1
def sum (a:List aD):Nat:=(a.map cnt).sum
def md (a0:List aD)(a1:Int):Int×List aD:=iR el a0 a1
def gd (a0:List aD)(a1:Int):Prop:=eD a1
def acc (ls:List L):aB×Int:=((ls.headD .hole).aQ,((aA 1 ls).headD .hole).toInt)
def R:(aB×Int)->Option (Int×aB):=RR (p2 gd) (u2 md)
def an {a0 a1}(h:gd a0 a1):R ((a0.map cG),a1)=some ((md a0 a1).1,((md a0 a1).2.map cG)):=aP (a:=(a0,a1)) h
def aU:gC:=MN pats acc R
def bA (a0:List aD)(a1:Int)(hg:gd a0 a1)(h0:a0.length<=maxLen):∃n,start (iter step n) (a0.map cG) a1=ret (((md a0 a1).1,((md a0 a1).2.map cG)):Int×aB):=by
 unfold gd at hg
 show ∃n,iter step n (Pt.p0 a1 0 (a0.map cG))=_
 unfold md
 refine fO (el:=el) (xs:=a0) ⟨#[]⟩ eD gJ (pt:=fun i k c=>Pt.p0 k (i:Int) (c.map cG)) (out:=fun b=>ret (b.1,b.2.map cG)) (fun J i k c hi hc hk=>?_) (fun J k c hc=>?_) hg
 ·have hm:c.length<=maxLen:=hc ▸ h0
  simp only [step,SS]
  refine ak (aK hi) ?_
  refine aZ (Z281.md k) (Z281.an (a0:=k) hk) ?_
  refine ak aI ?_
  refine ak (aK hi) ?_
  rw [aH hi hm]
  exact congrArg (fun q=>J (Pt.p0 (el (c.getD i ⟨#[]⟩) k).1 ((i+1:Nat):Int) q)) (List.map_set (f:=cG) (l:=c) (i:=i) (a:=(el (c.getD i ⟨#[]⟩) k).2)).symm
 ·simp only [step,SS]
  refine cH (by apply decide_eq_false;omega) ?_
  rfl
def af:eT Tryz.prog Ev 24 aU:=MV (run:=fun n x=>start (iter step n) x.1 x.2) mix aE (.cons Z281.af .nil) .nil Tryz.func24 (by kernel_rfl) run_eq (fun ls a hl e hg=>bA a.1 a.2 hg (by have h:(ls.headD .hole).aQ.length<=maxLen:=(hl _ _ (.head _)).len;have e:a.1.map cG=(ls.headD .hole).aQ:=(congrArg (fun x=>x.1) e.symm);rw [<-e] at h;simpa using h))
def iq {a0:List aD}{a1:Int}(h:eD a1):eD (md a0 a1).1:=iM gJ h
def nW (x:aD)(k:Int)(h0:0<=k)(hb:k+(cnt x:Int)<=4611686018427387904):(el x k).1=k+cnt x:=by
 simp only [cnt,Int.natCast_add] at hb ⊢
 simp (disch:=omega) only [el,wi]
 all_goals first | done | omega
def kk (a0:List aD)(a1:Int)(h0:0<=a1)(hb:a1+(sum a0:Int)<=4611686018427387904):(md a0 a1).1=a1+sum a0:=gb nW a0 a1 h0 hb
def sz (a:List aD):sum a<=60*(dJ (fun y:aD=>y.size) a):=iL (fun x=>by
 try simp only [cnt] at *
 omega) a
end Z282
namespace Z283
set_option maxHeartbeats 8000000
inductive Pt where
 | p0 (a b:Int) (c:aB)
def pid:Pt->Nat
 | .p0 ..=>2
def bY:Pt->List V
 | .p0 a b c=>[.own 0,.int .i64 a,.int .i64 b]
def bX:Pt->List aV
 | .p0 a b c=>[.row 57 c]
def step (J:Pt->aJ):Pt->aJ
 | .p0 a b c=>(cond (decide (b<(c.length:Int))) (call (Z281.R a) fun v1=>(m2 b (c.length:Int) (m2 b (c.length:Int) (cj (eW b) (m2 b (c.length:Int) (cj (eW b) (m2 b (c.length:Int) (cj (eW b) (cj (eW b) (call (Z282.R ((aY.at c (toNat b)).bK,(i64.wrap ((i64.wrap ((i64.wrap (a+1))+1))+1)))) fun v2=>J (.p0 v2.1 (i64.wrap (b+1)) (List.set c (toNat b) (aY.enc (⟨v1,(i64.wrap (a+1)),(i64.wrap ((i64.wrap (a+1))+1)),v2.2⟩:aY)))))))))))))) (ret ((a,c):Int×aB)))
def start (J:Pt->aJ)(x0:aB)(x1:Int):aJ:=J (.p0 x1 0 x0)
def live:Nat->Live:=fun i=>match i with | 2=>[(0,none),(1,none),(5,none)] | _=>[]
def pats:List (Bool×List K):=[(false,[.sl 57]),(false,[aC])]
def res:RP:=.nX [57]
abbrev E:Env:={ T:=assoc jV,G:=dw [(56,Z281.aU)],nt:=42,M:=fK [(24,Z282.aU)],np:=1,mt:=true }
def step_eq (I:cB)(p:Pt):cR E live I (pid p) (bL Tryz.f96) (fm (live (pid p)) (bY p) (bX p)) (cA E Tryz.f96 res)=step (fun q=>I (pid q) (bY q) (bX q)) p:=by
 cases p<;>kernel_rfl
def start_eq (I:cB)(ls:List L):eL E live I (bL Tryz.f96) (fY pats ls) (cA E Tryz.f96 res)=start (fun q=>I (pid q) (bY q) (bX q)) (ls.headD .hole).aQ ((aA 1 ls).headD .hole).toInt:=by kernel_rfl
def run_eq (n:Nat)(ls:List L):eG E live Tryz.f96 res n (fY pats ls)=start (iter step n) (ls.headD .hole).aQ ((aA 1 ls).headD .hole).toInt:=cq (id:=pid) (vs:=bY) (hs:=bX) (step:=step) (start:=fun J=>start J (ls.headD .hole).aQ ((aA 1 ls).headD .hole).toInt) step_eq (fun I=>start_eq I ls) n
def e1 (x:ah)(k:Int):=Z282.md x.bK (i64.wrap ((i64.wrap ((i64.wrap (k+1))+1))+1))
def el (x:ah)(k:Int):Int×ah:=((e1 x k).1,(⟨(Z281.md k),(i64.wrap (k+1)),(i64.wrap ((i64.wrap (k+1))+1)),(e1 x k).2⟩:ah))
def gJ (x:ah)(k:Int)(hk:eD k):eD (el x k).1:=(Z282.iq (bZ _))
def cnt (x:ah):Nat:=3+Z282.sum x.bK
def sum (a:List ah):Nat:=(a.map cnt).sum
def md (a0:List ah)(a1:Int):Int×List ah:=iR el a0 a1
def gd (a0:List ah)(a1:Int):Prop:=eD a1
def acc (ls:List L):aB×Int:=((ls.headD .hole).aQ,((aA 1 ls).headD .hole).toInt)
def R:(aB×Int)->Option (Int×aB):=RR (p2 gd) (u2 md)
def an {a0 a1}(h:gd a0 a1):R ((a0.map ah.row),a1)=some ((md a0 a1).1,((md a0 a1).2.map ah.row)):=aP (a:=(a0,a1)) h
def aU:gC:=MN pats acc R
def bA (a0:List ah)(a1:Int)(hg:gd a0 a1)(h0:a0.length<=maxLen):∃n,start (iter step n) (a0.map ah.row) a1=ret (((md a0 a1).1,((md a0 a1).2.map ah.row)):Int×aB):=by
 unfold gd at hg
 show ∃n,iter step n (Pt.p0 a1 0 (a0.map ah.row))=_
 unfold md
 refine fO (el:=el) (xs:=a0) ah.zero eD gJ (pt:=fun i k c=>Pt.p0 k (i:Int) (c.map ah.row)) (out:=fun b=>ret (b.1,b.2.map ah.row)) (fun J i k c hi hc hk=>?_) (fun J k c hc=>?_) hg
 ·have hm:c.length<=maxLen:=hc ▸ h0
  simp only [step,SS]
  refine ak (aK hi) ?_
  refine aZ (Z281.md k) (Z281.an (a0:=k) hk) ?_
  repeat first | refine ak aI ?_ | refine ak (aK hi) ?_ | refine ak (fW _) ?_
  refine aZ ((e1 (c.getD i ah.zero) k).1,((e1 (c.getD i ah.zero) k).2.map cG)) (Z282.an (a0:=(c.getD i ah.zero).bK) (a1:=i64.wrap ((i64.wrap ((i64.wrap (k+1))+1))+1)) (bZ _)) ?_
  rw [aH hi hm]
  exact congrArg (fun q=>J (Pt.p0 (el (c.getD i ah.zero) k).1 ((i+1:Nat):Int) q)) (List.map_set (f:=ah.row) (l:=c) (i:=i) (a:=(el (c.getD i ah.zero) k).2)).symm
 ·simp only [step,SS]
  refine cH (by apply decide_eq_false;omega) ?_
  rfl
def af:eT Tryz.prog Ev 96 aU:=MV (run:=fun n x=>start (iter step n) x.1 x.2) mix aE (.cons Z281.af .nil) (.cons Z282.af .nil) Tryz.func96 (by kernel_rfl) run_eq (fun ls a hl e hg=>bA a.1 a.2 hg (by have h:(ls.headD .hole).aQ.length<=maxLen:=(hl _ _ (.head _)).len;have e:a.1.map ah.row=(ls.headD .hole).aQ:=(congrArg (fun x=>x.1) e.symm);rw [<-e] at h;simpa using h))
def iq {a0:List ah}{a1:Int}(h:eD a1):eD (md a0 a1).1:=iM gJ h
def nW (x:ah)(k:Int)(h0:0<=k)(hb:k+(cnt x:Int)<=4611686018427387904):(el x k).1=k+cnt x:=by
 simp only [cnt,Int.natCast_add] at hb ⊢
 simp (disch:=omega) only [el,e1,wi,Z282.kk]
 all_goals first | done | omega
def kk (a0:List ah)(a1:Int)(h0:0<=a1)(hb:a1+(sum a0:Int)<=4611686018427387904):(md a0 a1).1=a1+sum a0:=gb nW a0 a1 h0 hb
def sz (a:List ah):sum a<=60*(dJ (fun y:ah=>ah.size y) a):=iL (fun x=>by
 have:=Z282.sz x.bK
 try simp only [cnt,ah.size] at *
 omega) a
end Z283
namespace Z284
set_option maxHeartbeats 8000000
inductive Pt where
 | p0 (a b:Int) (c:aB)
def pid:Pt->Nat
 | .p0 ..=>2
def bY:Pt->List V
 | .p0 a b c=>[.own 0,.int .i64 a,.int .i64 b]
def bX:Pt->List aV
 | .p0 a b c=>[.row 155 c]
def step (J:Pt->aJ):Pt->aJ
 | .p0 a b c=>(cond (decide (b<(c.length:Int))) (m2 b (c.length:Int) (call (Z277.R ((dN.at c (toNat b)).aT,a)) fun v1=>(m2 b (c.length:Int) (cj (eW b) (cj (eW b) (call (Z283.R ((dN.at c (toNat b)).bN,v1.1)) fun v2=>J (.p0 v2.1 (i64.wrap (b+1)) (List.set c (toNat b) (dN.enc (⟨v1.2,v2.2⟩:dN)))))))))) (ret ((a,c):Int×aB)))
def start (J:Pt->aJ)(x0:aB)(x1:Int):aJ:=J (.p0 x1 0 x0)
def live:Nat->Live:=fun i=>match i with | 2=>[(0,none),(1,none),(5,none)] | _=>[]
def pats:List (Bool×List K):=[(false,[.sl 155]),(false,[aC])]
def res:RP:=.nX [155]
abbrev E:Env:={ T:=assoc jV,G:=dw [],nt:=27,M:=fK [(94,Z277.aU),(96,Z283.aU)],np:=1,mt:=true }
def step_eq (I:cB)(p:Pt):cR E live I (pid p) (bL Tryz.f55) (fm (live (pid p)) (bY p) (bX p)) (cA E Tryz.f55 res)=step (fun q=>I (pid q) (bY q) (bX q)) p:=by
 cases p<;>kernel_rfl
def start_eq (I:cB)(ls:List L):eL E live I (bL Tryz.f55) (fY pats ls) (cA E Tryz.f55 res)=start (fun q=>I (pid q) (bY q) (bX q)) (ls.headD .hole).aQ ((aA 1 ls).headD .hole).toInt:=by kernel_rfl
def run_eq (n:Nat)(ls:List L):eG E live Tryz.f55 res n (fY pats ls)=start (iter step n) (ls.headD .hole).aQ ((aA 1 ls).headD .hole).toInt:=cq (id:=pid) (vs:=bY) (hs:=bX) (step:=step) (start:=fun J=>start J (ls.headD .hole).aQ ((aA 1 ls).headD .hole).toInt) step_eq (fun I=>start_eq I ls) n
def e1 (x:aM)(k:Int):=Z277.md x.aT k
def e2 (x:aM)(k:Int):=Z283.md x.bN ((e1 x k).1)
def el (x:aM)(k:Int):Int×aM:=((e2 x k).1,(⟨(e1 x k).2,(e2 x k).2⟩:aM))
def gJ (x:aM)(k:Int)(hk:eD k):eD (el x k).1:=(Z283.iq (Z277.iq hk))
def cnt (x:aM):Nat:=0+Z277.sum x.aT+Z283.sum x.bN
def sum (a:List aM):Nat:=(a.map cnt).sum
def md (a0:List aM)(a1:Int):Int×List aM:=iR el a0 a1
def gd (a0:List aM)(a1:Int):Prop:=eD a1
def acc (ls:List L):aB×Int:=((ls.headD .hole).aQ,((aA 1 ls).headD .hole).toInt)
def R:(aB×Int)->Option (Int×aB):=RR (p2 gd) (u2 md)
def an {a0 a1}(h:gd a0 a1):R ((a0.map aM.row),a1)=some ((md a0 a1).1,((md a0 a1).2.map aM.row)):=aP (a:=(a0,a1)) h
def aU:gC:=MN pats acc R
def bA (a0:List aM)(a1:Int)(hg:gd a0 a1)(h0:a0.length<=maxLen):∃n,start (iter step n) (a0.map aM.row) a1=ret (((md a0 a1).1,((md a0 a1).2.map aM.row)):Int×aB):=by
 unfold gd at hg
 show ∃n,iter step n (Pt.p0 a1 0 (a0.map aM.row))=_
 unfold md
 refine fO (el:=el) (xs:=a0) aM.zero eD gJ (pt:=fun i k c=>Pt.p0 k (i:Int) (c.map aM.row)) (out:=fun b=>ret (b.1,b.2.map aM.row)) (fun J i k c hi hc hk=>?_) (fun J k c hc=>?_) hg
 ·have hm:c.length<=maxLen:=hc ▸ h0
  simp only [step,SS]
  refine ak (aK hi) ?_
  refine ak aI ?_
  refine ak (aK hi) ?_
  refine aZ ((e1 (c.getD i aM.zero) k).1,((e1 (c.getD i aM.zero) k).2.map aa.row)) (Z277.an (a0:=(c.getD i aM.zero).aT) (a1:=k) hk) ?_
  repeat first | refine ak aI ?_ | refine ak (aK hi) ?_ | refine ak (fW _) ?_
  refine aZ ((e2 (c.getD i aM.zero) k).1,((e2 (c.getD i aM.zero) k).2.map ah.row)) (Z283.an (a0:=(c.getD i aM.zero).bN) (a1:=(e1 (c.getD i aM.zero) k).1) (Z277.iq hk)) ?_
  rw [aH hi hm]
  exact congrArg (fun q=>J (Pt.p0 (el (c.getD i aM.zero) k).1 ((i+1:Nat):Int) q)) (List.map_set (f:=aM.row) (l:=c) (i:=i) (a:=(el (c.getD i aM.zero) k).2)).symm
 ·simp only [step,SS]
  refine cH (by apply decide_eq_false;omega) ?_
  rfl
def af:eT Tryz.prog Ev 55 aU:=MV (run:=fun n x=>start (iter step n) x.1 x.2) mix aE .nil (.cons Z277.af (.cons Z283.af .nil)) Tryz.func55 (by kernel_rfl) run_eq (fun ls a hl e hg=>bA a.1 a.2 hg (by have h:(ls.headD .hole).aQ.length<=maxLen:=(hl _ _ (.head _)).len;have e:a.1.map aM.row=(ls.headD .hole).aQ:=(congrArg (fun x=>x.1) e.symm);rw [<-e] at h;simpa using h))
def iq {a0:List aM}{a1:Int}(h:eD a1):eD (md a0 a1).1:=iM gJ h
def nW (x:aM)(k:Int)(h0:0<=k)(hb:k+(cnt x:Int)<=4611686018427387904):(el x k).1=k+cnt x:=by
 simp only [cnt,Int.natCast_add] at hb ⊢
 simp (disch:=omega) only [el,e1,e2,wi,Z277.kk,Z283.kk]
 all_goals first | done | omega
def kk (a0:List aM)(a1:Int)(h0:0<=a1)(hb:a1+(sum a0:Int)<=4611686018427387904):(md a0 a1).1=a1+sum a0:=gb nW a0 a1 h0 hb
def sz (a:List aM):sum a<=60*(dJ (fun y:aM=>aM.size y) a):=iL (fun x=>by
 have:=Z277.sz x.aT
 have:=Z283.sz x.bN
 try simp only [cnt,aM.size] at *
 omega) a
end Z284
namespace Z285
set_option maxHeartbeats 8000000
inductive Pt where
 | p0 (a b:Int) (c:aB)
def pid:Pt->Nat
 | .p0 ..=>2
def bY:Pt->List V
 | .p0 a b c=>[.own 0,.int .i64 a,.int .i64 b]
def bX:Pt->List aV
 | .p0 a b c=>[.row 88 c]
def step (J:Pt->aJ):Pt->aJ
 | .p0 a b c=>(cond (decide (b<(c.length:Int))) (m2 b (c.length:Int) (call (Z284.R ((cM.at c (toNat b)).bI,a)) fun v1=>(m2 b (c.length:Int) (cj (eW b) (J (.p0 (i64.wrap (v1.1+1)) (i64.wrap (b+1)) (List.set c (toNat b) (cM.enc (⟨v1.2,v1.1⟩:cM))))))))) (ret ((a,c):Int×aB)))
def start (J:Pt->aJ)(x0:aB)(x1:Int):aJ:=J (.p0 x1 0 x0)
def live:Nat->Live:=fun i=>match i with | 2=>[(0,none),(1,none),(5,none)] | _=>[]
def pats:List (Bool×List K):=[(false,[.sl 88]),(false,[aC])]
def res:RP:=.nX [88]
abbrev E:Env:={ T:=assoc jV,G:=dw [],nt:=27,M:=fK [(55,Z284.aU)],np:=1,mt:=true }
def step_eq (I:cB)(p:Pt):cR E live I (pid p) (bL Tryz.f22) (fm (live (pid p)) (bY p) (bX p)) (cA E Tryz.f22 res)=step (fun q=>I (pid q) (bY q) (bX q)) p:=by
 cases p<;>kernel_rfl
def start_eq (I:cB)(ls:List L):eL E live I (bL Tryz.f22) (fY pats ls) (cA E Tryz.f22 res)=start (fun q=>I (pid q) (bY q) (bX q)) (ls.headD .hole).aQ ((aA 1 ls).headD .hole).toInt:=by kernel_rfl
def run_eq (n:Nat)(ls:List L):eG E live Tryz.f22 res n (fY pats ls)=start (iter step n) (ls.headD .hole).aQ ((aA 1 ls).headD .hole).toInt:=cq (id:=pid) (vs:=bY) (hs:=bX) (step:=step) (start:=fun J=>start J (ls.headD .hole).aQ ((aA 1 ls).headD .hole).toInt) step_eq (fun I=>start_eq I ls) n
def e1 (x:au)(k:Int):=Z284.md x.bI k
def el (x:au)(k:Int):Int×au:=((i64.wrap ((e1 x k).1+1)),(⟨(e1 x k).2,(e1 x k).1⟩:au))
def gJ (x:au)(k:Int)(hk:eD k):eD (el x k).1:=(bZ _)
def cnt (x:au):Nat:=1+Z284.sum x.bI
def sum (a:List au):Nat:=(a.map cnt).sum
def md (a0:List au)(a1:Int):Int×List au:=iR el a0 a1
def gd (a0:List au)(a1:Int):Prop:=eD a1
def acc (ls:List L):aB×Int:=((ls.headD .hole).aQ,((aA 1 ls).headD .hole).toInt)
def R:(aB×Int)->Option (Int×aB):=RR (p2 gd) (u2 md)
def an {a0 a1}(h:gd a0 a1):R ((a0.map au.row),a1)=some ((md a0 a1).1,((md a0 a1).2.map au.row)):=aP (a:=(a0,a1)) h
def aU:gC:=MN pats acc R
def bA (a0:List au)(a1:Int)(hg:gd a0 a1)(h0:a0.length<=maxLen):∃n,start (iter step n) (a0.map au.row) a1=ret (((md a0 a1).1,((md a0 a1).2.map au.row)):Int×aB):=by
 unfold gd at hg
 show ∃n,iter step n (Pt.p0 a1 0 (a0.map au.row))=_
 unfold md
 refine fO (el:=el) (xs:=a0) au.zero eD gJ (pt:=fun i k c=>Pt.p0 k (i:Int) (c.map au.row)) (out:=fun b=>ret (b.1,b.2.map au.row)) (fun J i k c hi hc hk=>?_) (fun J k c hc=>?_) hg
 ·have hm:c.length<=maxLen:=hc ▸ h0
  simp only [step,SS]
  refine ak (aK hi) ?_
  refine ak aI ?_
  refine ak (aK hi) ?_
  refine aZ ((e1 (c.getD i au.zero) k).1,((e1 (c.getD i au.zero) k).2.map aM.row)) (Z284.an (a0:=(c.getD i au.zero).bI) (a1:=k) hk) ?_
  refine ak aI ?_
  refine ak (aK hi) ?_
  refine ak (fW _) ?_
  rw [aH hi hm]
  exact congrArg (fun q=>J (Pt.p0 (el (c.getD i au.zero) k).1 ((i+1:Nat):Int) q)) (List.map_set (f:=au.row) (l:=c) (i:=i) (a:=(el (c.getD i au.zero) k).2)).symm
 ·simp only [step,SS]
  refine cH (by apply decide_eq_false;omega) ?_
  rfl
def af:eT Tryz.prog Ev 22 aU:=MV (run:=fun n x=>start (iter step n) x.1 x.2) mix aE .nil (.cons Z284.af .nil) Tryz.func22 (by kernel_rfl) run_eq (fun ls a hl e hg=>bA a.1 a.2 hg (by have h:(ls.headD .hole).aQ.length<=maxLen:=(hl _ _ (.head _)).len;have e:a.1.map au.row=(ls.headD .hole).aQ:=(congrArg (fun x=>x.1) e.symm);rw [<-e] at h;simpa using h))
def iq {a0:List au}{a1:Int}(h:eD a1):eD (md a0 a1).1:=iM gJ h
def nW (x:au)(k:Int)(h0:0<=k)(hb:k+(cnt x:Int)<=4611686018427387904):(el x k).1=k+cnt x:=by
 simp only [cnt,Int.natCast_add] at hb ⊢
 simp (disch:=omega) only [el,e1,wi,Z284.kk]
 all_goals first | done | omega
def kk (a0:List au)(a1:Int)(h0:0<=a1)(hb:a1+(sum a0:Int)<=4611686018427387904):(md a0 a1).1=a1+sum a0:=gb nW a0 a1 h0 hb
def sz (a:List au):sum a<=60*(dJ (fun y:au=>au.size y) a):=iL (fun x=>by
 have:=Z284.sz x.bI
 try simp only [cnt,au.size] at *
 omega) a
end Z285
namespace Z286
set_option maxHeartbeats 8000000
inductive Pt where
 | p0 (a b:Int) (c:aB)
def pid:Pt->Nat
 | .p0 ..=>2
def bY:Pt->List V
 | .p0 a b c=>[.own 0,.int .i64 a,.int .i64 b]
def bX:Pt->List aV
 | .p0 a b c=>[.row 83 c]
def step (J:Pt->aJ):Pt->aJ
 | .p0 a b c=>(cond (decide (b<(c.length:Int))) (call (Z281.R a) fun v1=>(m2 b (c.length:Int) (m2 b (c.length:Int) (cj (eW b) (J (.p0 (i64.wrap ((i64.wrap (a+1))+1)) (i64.wrap (b+1)) (List.set c (toNat b) (bg.enc (⟨v1,(i64.wrap (a+1))⟩:bg))))))))) (ret ((a,c):Int×aB)))
def start (J:Pt->aJ)(x0:aB)(x1:Int):aJ:=J (.p0 x1 0 x0)
def live:Nat->Live:=fun i=>match i with | 2=>[(0,none),(1,none),(5,none)] | _=>[]
def pats:List (Bool×List K):=[(false,[.sl 83]),(false,[aC])]
def res:RP:=.nX [83]
abbrev E:Env:={ T:=assoc jV,G:=dw [(56,Z281.aU)],nt:=28,M:=fK [],np:=1,mt:=true }
def step_eq (I:cB)(p:Pt):cR E live I (pid p) (bL Tryz.f23) (fm (live (pid p)) (bY p) (bX p)) (cA E Tryz.f23 res)=step (fun q=>I (pid q) (bY q) (bX q)) p:=by
 cases p<;>kernel_rfl
def start_eq (I:cB)(ls:List L):eL E live I (bL Tryz.f23) (fY pats ls) (cA E Tryz.f23 res)=start (fun q=>I (pid q) (bY q) (bX q)) (ls.headD .hole).aQ ((aA 1 ls).headD .hole).toInt:=by kernel_rfl
def run_eq (n:Nat)(ls:List L):eG E live Tryz.f23 res n (fY pats ls)=start (iter step n) (ls.headD .hole).aQ ((aA 1 ls).headD .hole).toInt:=cq (id:=pid) (vs:=bY) (hs:=bX) (step:=step) (start:=fun J=>start J (ls.headD .hole).aQ ((aA 1 ls).headD .hole).toInt) step_eq (fun I=>start_eq I ls) n
def el (x:bg)(k:Int):Int×bg:=((i64.wrap ((i64.wrap (k+1))+1)),(⟨(Z281.md k),(i64.wrap (k+1))⟩:bg))
def gJ (x:bg)(k:Int)(hk:eD k):eD (el x k).1:=(bZ _)
def cnt (x:bg):Nat:=2
def sum (a:List bg):Nat:=(a.map cnt).sum
def md (a0:List bg)(a1:Int):Int×List bg:=iR el a0 a1
def gd (a0:List bg)(a1:Int):Prop:=eD a1
def acc (ls:List L):aB×Int:=((ls.headD .hole).aQ,((aA 1 ls).headD .hole).toInt)
def R:(aB×Int)->Option (Int×aB):=RR (p2 gd) (u2 md)
def an {a0 a1}(h:gd a0 a1):R ((a0.map bg.row),a1)=some ((md a0 a1).1,((md a0 a1).2.map bg.row)):=aP (a:=(a0,a1)) h
def aU:gC:=MN pats acc R
def bA (a0:List bg)(a1:Int)(hg:gd a0 a1)(h0:a0.length<=maxLen):∃n,start (iter step n) (a0.map bg.row) a1=ret (((md a0 a1).1,((md a0 a1).2.map bg.row)):Int×aB):=by
 unfold gd at hg
 show ∃n,iter step n (Pt.p0 a1 0 (a0.map bg.row))=_
 unfold md
 refine fO (el:=el) (xs:=a0) bg.zero eD gJ (pt:=fun i k c=>Pt.p0 k (i:Int) (c.map bg.row)) (out:=fun b=>ret (b.1,b.2.map bg.row)) (fun J i k c hi hc hk=>?_) (fun J k c hc=>?_) hg
 ·have hm:c.length<=maxLen:=hc ▸ h0
  simp only [step,SS]
  refine ak (aK hi) ?_
  refine aZ (Z281.md k) (Z281.an (a0:=k) hk) ?_
  repeat first | refine ak aI ?_ | refine ak (aK hi) ?_ | refine ak (fW _) ?_
  rw [aH hi hm]
  exact congrArg (fun q=>J (Pt.p0 (el (c.getD i bg.zero) k).1 ((i+1:Nat):Int) q)) (List.map_set (f:=bg.row) (l:=c) (i:=i) (a:=(el (c.getD i bg.zero) k).2)).symm
 ·simp only [step,SS]
  refine cH (by apply decide_eq_false;omega) ?_
  rfl
def af:eT Tryz.prog Ev 23 aU:=MV (run:=fun n x=>start (iter step n) x.1 x.2) mix aE (.cons Z281.af .nil) .nil Tryz.func23 (by kernel_rfl) run_eq (fun ls a hl e hg=>bA a.1 a.2 hg (by have h:(ls.headD .hole).aQ.length<=maxLen:=(hl _ _ (.head _)).len;have e:a.1.map bg.row=(ls.headD .hole).aQ:=(congrArg (fun x=>x.1) e.symm);rw [<-e] at h;simpa using h))
def iq {a0:List bg}{a1:Int}(h:eD a1):eD (md a0 a1).1:=iM gJ h
def nW (x:bg)(k:Int)(h0:0<=k)(hb:k+(cnt x:Int)<=4611686018427387904):(el x k).1=k+cnt x:=by
 simp only [cnt,Int.natCast_add] at hb ⊢
 simp (disch:=omega) only [el,wi]
 all_goals first | done | omega
def kk (a0:List bg)(a1:Int)(h0:0<=a1)(hb:a1+(sum a0:Int)<=4611686018427387904):(md a0 a1).1=a1+sum a0:=gb nW a0 a1 h0 hb
def sz (a:List bg):sum a<=60*(dJ (fun y:bg=>bg.size y) a):=iL (fun x=>by
 try simp only [cnt,bg.size] at *
 omega) a
end Z286
namespace Z287
set_option maxHeartbeats 8000000
inductive Pt where
 | p0 (a b:Int) (c:aB)
def pid:Pt->Nat
 | .p0 ..=>2
def bY:Pt->List V
 | .p0 a b c=>[.own 0,.int .i64 a,.int .i64 b]
def bX:Pt->List aV
 | .p0 a b c=>[.row 60 c]
def step (J:Pt->aJ):Pt->aJ
 | .p0 a b c=>(cond (decide (b<(c.length:Int))) (m2 b (c.length:Int) (call (Z278.R ((cK.at c (toNat b)).bP.aG,a)) fun v1=>(m2 b (c.length:Int) (cj (eW b) (cj (eW b) (call (Z279.R ((cK.at c (toNat b)).bP.aW,v1.1)) fun v2=>(m2 b (c.length:Int) (cj (eW b) (call (Z281.R (i64.wrap (v2.1+1))) fun v3=>(m2 b (c.length:Int) (cj (eW b) (m2 b (c.length:Int) (cj (eW b) (m2 b (c.length:Int) (cj (eW b) (m2 b (c.length:Int) (cj (eW b) (cj (eW b) (call (Z282.R ((cK.at c (toNat b)).bp.bK,(i64.wrap ((i64.wrap ((i64.wrap ((i64.wrap (v2.1+1))+1))+1))+1)))) fun v4=>(m2 b (c.length:Int) (cj (eW b) (cj (eW b) (call (Z275.R ((cK.at c (toNat b)).bI,v4.1)) fun v5=>(m2 b (c.length:Int) (cj (eW b) (J (.p0 (i64.wrap (v5.1+1)) (i64.wrap (b+1)) (List.set c (toNat b) (cK.enc (⟨(⟨v1.2,v2.2⟩:bn),v2.1,(⟨v3,(i64.wrap ((i64.wrap (v2.1+1))+1)),(i64.wrap ((i64.wrap ((i64.wrap (v2.1+1))+1))+1)),v4.2⟩:aY),v5.2,v5.1⟩:cK)))))))))))))))))))))))))))))) (ret ((a,c):Int×aB)))
def start (J:Pt->aJ)(x0:aB)(x1:Int):aJ:=J (.p0 x1 0 x0)
def live:Nat->Live:=fun i=>match i with | 2=>[(0,none),(1,none),(5,none)] | _=>[]
def pats:List (Bool×List K):=[(false,[.sl 60]),(false,[aC])]
def res:RP:=.nX [60]
abbrev E:Env:={ T:=assoc jV,G:=dw [(56,Z281.aU)],nt:=83,M:=fK [(53,Z278.aU),(54,Z279.aU),(24,Z282.aU),(57,Z275.aU)],np:=1,mt:=true }
def step_eq (I:cB)(p:Pt):cR E live I (pid p) (bL Tryz.f25) (fm (live (pid p)) (bY p) (bX p)) (cA E Tryz.f25 res)=step (fun q=>I (pid q) (bY q) (bX q)) p:=by
 cases p<;>kernel_rfl
def start_eq (I:cB)(ls:List L):eL E live I (bL Tryz.f25) (fY pats ls) (cA E Tryz.f25 res)=start (fun q=>I (pid q) (bY q) (bX q)) (ls.headD .hole).aQ ((aA 1 ls).headD .hole).toInt:=by kernel_rfl
def run_eq (n:Nat)(ls:List L):eG E live Tryz.f25 res n (fY pats ls)=start (iter step n) (ls.headD .hole).aQ ((aA 1 ls).headD .hole).toInt:=cq (id:=pid) (vs:=bY) (hs:=bX) (step:=step) (start:=fun J=>start J (ls.headD .hole).aQ ((aA 1 ls).headD .hole).toInt) step_eq (fun I=>start_eq I ls) n
def e1 (x:aL)(k:Int):=Z278.md ((x.bP).aG) k
def e2 (x:aL)(k:Int):=Z279.md ((x.bP).aW) ((e1 x k).1)
def e3 (x:aL)(k:Int):=Z282.md ((x.bp).bK) (i64.wrap ((i64.wrap ((i64.wrap ((i64.wrap ((e2 x k).1+1))+1))+1))+1))
def e4 (x:aL)(k:Int):=Z275.md x.bI ((e3 x k).1)
def el (x:aL)(k:Int):Int×aL:=((i64.wrap ((e4 x k).1+1)),(⟨(⟨(e1 x k).2,(e2 x k).2⟩:aj),(e2 x k).1,(⟨(Z281.md (i64.wrap ((e2 x k).1+1))),(i64.wrap ((i64.wrap ((e2 x k).1+1))+1)),(i64.wrap ((i64.wrap ((i64.wrap ((e2 x k).1+1))+1))+1)),(e3 x k).2⟩:ah),(e4 x k).2,(e4 x k).1⟩:aL))
def gJ (x:aL)(k:Int)(hk:eD k):eD (el x k).1:=(bZ _)
def cnt (x:aL):Nat:=5+Z278.sum ((x.bP).aG)+Z279.sum ((x.bP).aW)+Z282.sum ((x.bp).bK)+Z275.sum x.bI
def sum (a:List aL):Nat:=(a.map cnt).sum
def md (a0:List aL)(a1:Int):Int×List aL:=iR el a0 a1
def gd (a0:List aL)(a1:Int):Prop:=eD a1
def acc (ls:List L):aB×Int:=((ls.headD .hole).aQ,((aA 1 ls).headD .hole).toInt)
def R:(aB×Int)->Option (Int×aB):=RR (p2 gd) (u2 md)
def an {a0 a1}(h:gd a0 a1):R ((a0.map aL.row),a1)=some ((md a0 a1).1,((md a0 a1).2.map aL.row)):=aP (a:=(a0,a1)) h
def aU:gC:=MN pats acc R
def bA (a0:List aL)(a1:Int)(hg:gd a0 a1)(h0:a0.length<=maxLen):∃n,start (iter step n) (a0.map aL.row) a1=ret (((md a0 a1).1,((md a0 a1).2.map aL.row)):Int×aB):=by
 unfold gd at hg
 show ∃n,iter step n (Pt.p0 a1 0 (a0.map aL.row))=_
 unfold md
 refine fO (el:=el) (xs:=a0) aL.zero eD gJ (pt:=fun i k c=>Pt.p0 k (i:Int) (c.map aL.row)) (out:=fun b=>ret (b.1,b.2.map aL.row)) (fun J i k c hi hc hk=>?_) (fun J k c hc=>?_) hg
 ·have hm:c.length<=maxLen:=hc ▸ h0
  simp only [step,SS]
  refine ak (aK hi) ?_
  refine ak aI ?_
  refine ak (aK hi) ?_
  refine aZ ((e1 (c.getD i aL.zero) k).1,((e1 (c.getD i aL.zero) k).2.map (dI aa.row))) (Z278.an (a0:=((c.getD i aL.zero).bP).aG) (a1:=k) hk) ?_
  repeat first | refine ak aI ?_ | refine ak (aK hi) ?_ | refine ak (fW _) ?_
  refine aZ ((e2 (c.getD i aL.zero) k).1,((e2 (c.getD i aL.zero) k).2.map az.row)) (Z279.an (a0:=((c.getD i aL.zero).bP).aW) (a1:=(e1 (c.getD i aL.zero) k).1) (Z278.iq hk)) ?_
  refine ak aI ?_
  refine ak (aK hi) ?_
  refine ak (fW _) ?_
  refine aZ (Z281.md (i64.wrap ((e2 (c.getD i aL.zero) k).1+1))) (Z281.an (a0:=i64.wrap ((e2 (c.getD i aL.zero) k).1+1)) (bZ _)) ?_
  repeat first | refine ak aI ?_ | refine ak (aK hi) ?_ | refine ak (fW _) ?_
  refine aZ ((e3 (c.getD i aL.zero) k).1,((e3 (c.getD i aL.zero) k).2.map cG)) (Z282.an (a0:=((c.getD i aL.zero).bp).bK) (a1:=i64.wrap ((i64.wrap ((i64.wrap ((i64.wrap ((e2 (c.getD i aL.zero) k).1+1))+1))+1))+1)) (bZ _)) ?_
  repeat first | refine ak aI ?_ | refine ak (aK hi) ?_ | refine ak (fW _) ?_
  refine aZ ((e4 (c.getD i aL.zero) k).1,((e4 (c.getD i aL.zero) k).2.map bq)) (Z275.an (a0:=(c.getD i aL.zero).bI) (a1:=(e3 (c.getD i aL.zero) k).1) (Z282.iq (bZ _))) ?_
  refine ak aI ?_
  refine ak (aK hi) ?_
  refine ak (fW _) ?_
  rw [aH hi hm]
  exact congrArg (fun q=>J (Pt.p0 (el (c.getD i aL.zero) k).1 ((i+1:Nat):Int) q)) (List.map_set (f:=aL.row) (l:=c) (i:=i) (a:=(el (c.getD i aL.zero) k).2)).symm
 ·simp only [step,SS]
  refine cH (by apply decide_eq_false;omega) ?_
  rfl
def af:eT Tryz.prog Ev 25 aU:=MV (run:=fun n x=>start (iter step n) x.1 x.2) mix aE (.cons Z281.af .nil) (.cons Z278.af (.cons Z279.af (.cons Z282.af (.cons Z275.af .nil)))) Tryz.func25 (by kernel_rfl) run_eq (fun ls a hl e hg=>bA a.1 a.2 hg (by have h:(ls.headD .hole).aQ.length<=maxLen:=(hl _ _ (.head _)).len;have e:a.1.map aL.row=(ls.headD .hole).aQ:=(congrArg (fun x=>x.1) e.symm);rw [<-e] at h;simpa using h))
def iq {a0:List aL}{a1:Int}(h:eD a1):eD (md a0 a1).1:=iM gJ h
def nW (x:aL)(k:Int)(h0:0<=k)(hb:k+(cnt x:Int)<=4611686018427387904):(el x k).1=k+cnt x:=by
 simp only [cnt,Int.natCast_add] at hb ⊢
 simp (disch:=omega) only [el,e1,e2,e3,e4,wi,Z278.kk,Z279.kk,Z282.kk,Z275.kk]
 all_goals first | done | omega
def kk (a0:List aL)(a1:Int)(h0:0<=a1)(hb:a1+(sum a0:Int)<=4611686018427387904):(md a0 a1).1=a1+sum a0:=gb nW a0 a1 h0 hb
def sz (a:List aL):sum a<=60*(dJ (fun y:aL=>aL.size y) a):=iL (fun x=>by
 have:=Z278.sz ((x.bP).aG)
 have:=Z279.sz ((x.bP).aW)
 have:=Z282.sz ((x.bp).bK)
 have:=Z275.sz x.bI
 try simp only [cnt,aL.size,aj.size,ah.size] at *
 omega) a
end Z287
namespace Z288
set_option maxHeartbeats 8000000
inductive Pt where
 | p0 (a:aB) (b c:Int)
def pid:Pt->Nat
 | .p0 ..=>2
def bY:Pt->List V
 | .p0 a b c=>[.sl none 3 a,.int .i64 b,.int .i64 c]
def bX:Pt->List aV
 | .p0 a b c=>[]
def step (J:Pt->aJ):Pt->aJ
 | .p0 a b c=>(cond (decide (c<(a.length:Int))) (m2 c (a.length:Int) (cond ((jt a (toNat c)) != b) (ret ((-1):Int)) (J (.p0 a (i64.wrap (b+1)) (i64.wrap (c+1)))))) (ret (b:Int)))
def start (J:Pt->aJ)(x0:aB)(x1:Int):aJ:=J (.p0 x0 x1 0)
def live:Nat->Live:=fun i=>match i with | 2=>[(0,none),(1,none),(5,none)] | _=>[]
def pats:List ga:=[.rd (.sl 3),.rd (.int .i64)]
def res:RP:=.one (.rd (.int .i64))
abbrev E:Env:={ T:=assoc jV,G:=dw [],nt:=21 }
def step_eq (I:cB)(p:Pt):cR E live I (pid p) (bL Tryz.f61) (fm (live (pid p)) (bY p) (bX p)) (cA E Tryz.f61 res)=step (fun q=>I (pid q) (bY q) (bX q)) p:=by
 cases p<;>kernel_rfl
def start_eq (I:cB)(ls:List L):eL E live I (bL Tryz.f61) (cU pats ls) (cA E Tryz.f61 res)=start (fun q=>I (pid q) (bY q) (bX q)) (ls.headD .hole).aQ ((aA 1 ls).headD .hole).toInt:=by kernel_rfl
def run_eq (n:Nat)(ls:List L):eG E live Tryz.f61 res n (cU pats ls)=start (iter step n) (ls.headD .hole).aQ ((aA 1 ls).headD .hole).toInt:=cq (id:=pid) (vs:=bY) (hs:=bX) (step:=step) (start:=fun J=>start J (ls.headD .hole).aQ ((aA 1 ls).headD .hole).toInt) step_eq (fun I=>start_eq I ls) n
def f (x k:Int):Option Int:=(cond (x != k) none (some (i64.wrap (k+1))))
def rX (x k k2:Int)(hk:eD k)(h:f x k=some k2):eD k2:=by
 unfold f at h
 have h:=bG h
 injection h with h
 subst h
 exact (bZ _)
def md (a0:List Int)(a1:Int):Int:=iS f a0 a1
def gd (a0:List Int)(a1:Int):Prop:=eD a1
def acc (ls:List L):aB×Int:=((ls.headD .hole).aQ,((aA 1 ls).headD .hole).toInt)
def R:(aB×Int)->Option Int:=RR (p2 gd) (u2 md)
def an {a0 a1}(h:gd a0 a1):R ((a0.map bq),a1)=some (md a0 a1):=aP (a:=(a0,a1)) h
def aU:fR:=CN pats res acc R
def bA (a0:List Int)(a1:Int)(hg:gd a0 a1)(h0:a0.length<=maxLen):∃n,start (iter step n) (a0.map bq) a1=ret ((md a0 a1):Int):=by
 unfold gd at hg
 show ∃n,iter step n (Pt.p0 (a0.map bq) a1 0)=_
 unfold md
 refine ij (f:=f) (xs:=a0) 0 eD rX (pt:=fun i k=>Pt.p0 (a0.map bq) k (i:Int)) (fun J i k hi hk=>?_) (fun J k=>?_) hg
 ·simp only [step,SS]
  refine ak (aK hi) ?_
  refine ak aI ?_
  refine ak (aK hi) ?_
  refine bH rfl ?_
  rw [aH hi h0]
  rfl
 ·simp only [step,SS]
  refine cH (by apply decide_eq_false;omega) ?_
  rfl
def af:cD 61 aU:=VV (run:=fun n x=>start (iter step n) x.1 x.2) mix aE .nil Tryz.func61 (by kernel_rfl) run_eq (fun ls a hl e hg=>bA a.1 a.2 hg (by have h:(ls.headD .hole).aQ.length<=maxLen:=hl.1.len;have e:a.1.map bq=(ls.headD .hole).aQ:=(congrArg (fun x=>x.1) e.symm);rw [<-e] at h;simpa using h))
def iq {a0:List Int}{a1:Int}(h:eD a1):eD (md a0 a1):=jL rX kC h
def xq (x k:Int)(h0:0<=k)(hb:k+(Z275.cnt x:Int)<=4611686018427387904):f (Z275.el x k).2 k=some (k+Z275.cnt x):=by
 simp only [Z275.cnt,Int.natCast_add] at hb ⊢
 simp (disch:=omega) only [Z275.el,f,wi,bne_self_eq_false,beq_self_eq_true,ff,Bool.not_true,bu,dc]
 all_goals first | done | omega | (congr 1<;>omega)
def mk (a0:List Int)(a1:Int)(h0:0<=a1)(hb:a1+(Z275.sum a0:Int)<=4611686018427387904):md (Z275.md a0 a1).2 a1=a1+Z275.sum a0:=gU Z275.nW xq a0 a1 h0 hb
end Z288
namespace Z289
set_option maxHeartbeats 8000000
inductive Pt where
 | p0 (a:aB) (b c:Int)
def pid:Pt->Nat
 | .p0 ..=>2
def bY:Pt->List V
 | .p0 a b c=>[.sl none 190 a,.int .i64 b,.int .i64 c]
def bX:Pt->List aV
 | .p0 a b c=>[]
def step (J:Pt->aJ):Pt->aJ
 | .p0 a b c=>(cond (decide (c<(a.length:Int))) (m2 c (a.length:Int) (cond ((bt.at a (toNat c)).gM != b) (ret ((-1):Int)) (m2 c (a.length:Int) (cond ((bt.at a (toNat c)).ju != (i64.wrap (b+1))) (ret ((-1):Int)) (J (.p0 a (i64.wrap ((i64.wrap (b+1))+1)) (i64.wrap (c+1)))))))) (ret (b:Int)))
def start (J:Pt->aJ)(x0:aB)(x1:Int):aJ:=J (.p0 x0 x1 0)
def live:Nat->Live:=fun i=>match i with | 2=>[(0,none),(1,none),(5,none)] | _=>[]
def pats:List ga:=[.rd (.sl 190),.rd (.int .i64)]
def res:RP:=.one (.rd (.int .i64))
abbrev E:Env:={ T:=assoc jV,G:=dw [],nt:=31 }
def step_eq (I:cB)(p:Pt):cR E live I (pid p) (bL Tryz.f98) (fm (live (pid p)) (bY p) (bX p)) (cA E Tryz.f98 res)=step (fun q=>I (pid q) (bY q) (bX q)) p:=by
 cases p<;>kernel_rfl
def start_eq (I:cB)(ls:List L):eL E live I (bL Tryz.f98) (cU pats ls) (cA E Tryz.f98 res)=start (fun q=>I (pid q) (bY q) (bX q)) (ls.headD .hole).aQ ((aA 1 ls).headD .hole).toInt:=by kernel_rfl
def run_eq (n:Nat)(ls:List L):eG E live Tryz.f98 res n (cU pats ls)=start (iter step n) (ls.headD .hole).aQ ((aA 1 ls).headD .hole).toInt:=cq (id:=pid) (vs:=bY) (hs:=bX) (step:=step) (start:=fun J=>start J (ls.headD .hole).aQ ((aA 1 ls).headD .hole).toInt) step_eq (fun I=>start_eq I ls) n
def f (x:bt)(k:Int):Option Int:=(cond (x.gM != k) none (cond (x.ju != (i64.wrap (k+1))) none (some (i64.wrap ((i64.wrap (k+1))+1)))))
def rX (x:bt)(k k2:Int)(hk:eD k)(h:f x k=some k2):eD k2:=by
 unfold f at h
 have h:=bG h
 have h:=bG h
 injection h with h
 subst h
 exact (bZ _)
def md (a0:List bt)(a1:Int):Int:=iS f a0 a1
def gd (a0:List bt)(a1:Int):Prop:=eD a1
def acc (ls:List L):aB×Int:=((ls.headD .hole).aQ,((aA 1 ls).headD .hole).toInt)
def R:(aB×Int)->Option Int:=RR (p2 gd) (u2 md)
def an {a0 a1}(h:gd a0 a1):R ((a0.map bt.row),a1)=some (md a0 a1):=aP (a:=(a0,a1)) h
def aU:fR:=CN pats res acc R
def bA (a0:List bt)(a1:Int)(hg:gd a0 a1)(h0:a0.length<=maxLen):∃n,start (iter step n) (a0.map bt.row) a1=ret ((md a0 a1):Int):=by
 unfold gd at hg
 show ∃n,iter step n (Pt.p0 (a0.map bt.row) a1 0)=_
 unfold md
 refine ij (f:=f) (xs:=a0) bt.zero eD rX (pt:=fun i k=>Pt.p0 (a0.map bt.row) k (i:Int)) (fun J i k hi hk=>?_) (fun J k=>?_) hg
 ·simp only [step,SS]
  refine ak (aK hi) ?_
  refine ak aI ?_
  refine ak (aK hi) ?_
  refine bH rfl ?_
  refine ak aI ?_
  refine ak (aK hi) ?_
  refine bH rfl ?_
  rw [aH hi h0]
  rfl
 ·simp only [step,SS]
  refine cH (by apply decide_eq_false;omega) ?_
  rfl
def af:cD 98 aU:=VV (run:=fun n x=>start (iter step n) x.1 x.2) mix aE .nil Tryz.func98 (by kernel_rfl) run_eq (fun ls a hl e hg=>bA a.1 a.2 hg (by have h:(ls.headD .hole).aQ.length<=maxLen:=hl.1.len;have e:a.1.map bt.row=(ls.headD .hole).aQ:=(congrArg (fun x=>x.1) e.symm);rw [<-e] at h;simpa using h))
def iq {a0:List bt}{a1:Int}(h:eD a1):eD (md a0 a1):=jL rX kC h
def xq (x:bt)(k:Int)(h0:0<=k)(hb:k+(Z276.cnt x:Int)<=4611686018427387904):f (Z276.el x k).2 k=some (k+Z276.cnt x):=by
 simp only [Z276.cnt,Int.natCast_add] at hb ⊢
 simp (disch:=omega) only [Z276.el,f,wi,bne_self_eq_false,beq_self_eq_true,ff,Bool.not_true,bu,dc]
 all_goals first | done | omega | (congr 1<;>omega)
def mk (a0:List bt)(a1:Int)(h0:0<=a1)(hb:a1+(Z276.sum a0:Int)<=4611686018427387904):md (Z276.md a0 a1).2 a1=a1+Z276.sum a0:=gU Z276.nW xq a0 a1 h0 hb
end Z289
namespace Z290
set_option maxHeartbeats 8000000
inductive Pt where
 | p0 (a:aB) (b c:Int)
def pid:Pt->Nat
 | .p0 ..=>2
def bY:Pt->List V
 | .p0 a b c=>[.sl none 141 a,.int .i64 b,.int .i64 c]
def bX:Pt->List aV
 | .p0 a b c=>[]
def step (J:Pt->aJ):Pt->aJ
 | .p0 a b c=>(cond (decide (c<(a.length:Int))) (m2 c (a.length:Int) (cond ((aR.at a (toNat c)).aq.bz != b) (ret ((-1):Int)) (m2 c (a.length:Int) (cond ((aR.at a (toNat c)).aq.cI != (i64.wrap (b+1))) (ret ((-1):Int)) (m2 c (a.length:Int) (cond ((aR.at a (toNat c)).aq.bQ != (i64.wrap ((i64.wrap (b+1))+1))) (ret ((-1):Int)) (m2 c (a.length:Int) (cond ((aR.at a (toNat c)).aq.cF != (i64.wrap ((i64.wrap ((i64.wrap (b+1))+1))+1))) (ret ((-1):Int)) (m2 c (a.length:Int) (cond ((aR.at a (toNat c)).aq.cC != (i64.wrap ((i64.wrap ((i64.wrap ((i64.wrap (b+1))+1))+1))+1))) (ret ((-1):Int)) (m2 c (a.length:Int) (cond ((aR.at a (toNat c)).aq.cu != (i64.wrap ((i64.wrap ((i64.wrap ((i64.wrap ((i64.wrap (b+1))+1))+1))+1))+1))) (ret ((-1):Int)) (m2 c (a.length:Int) (cond ((aR.at a (toNat c)).aq.cW != (i64.wrap ((i64.wrap ((i64.wrap ((i64.wrap ((i64.wrap ((i64.wrap (b+1))+1))+1))+1))+1))+1))) (ret ((-1):Int)) (m2 c (a.length:Int) (cond ((aR.at a (toNat c)).aq.dy != (i64.wrap ((i64.wrap ((i64.wrap ((i64.wrap ((i64.wrap ((i64.wrap ((i64.wrap (b+1))+1))+1))+1))+1))+1))+1))) (ret ((-1):Int)) (m2 c (a.length:Int) (call (Z288.R ((aR.at a (toNat c)).aq.bR.aX,(i64.wrap ((i64.wrap ((i64.wrap ((i64.wrap ((i64.wrap ((i64.wrap ((i64.wrap ((i64.wrap (b+1))+1))+1))+1))+1))+1))+1))+1)))) fun v1=>(cond (decide (v1<0)) (ret ((-1):Int)) (m2 c (a.length:Int) (cond ((aR.at a (toNat c)).aq.bR.cE != v1) (ret ((-1):Int)) (m2 c (a.length:Int) (call (Z288.R ((aR.at a (toNat c)).aq.bD.aX,(i64.wrap (v1+1)))) fun v2=>(cond (decide (v2<0)) (ret ((-1):Int)) (m2 c (a.length:Int) (cond ((aR.at a (toNat c)).aq.bD.cE != v2) (ret ((-1):Int)) (m2 c (a.length:Int) (cond ((aR.at a (toNat c)).aq.cY != (i64.wrap (v2+1))) (ret ((-1):Int)) (m2 c (a.length:Int) (call (Z288.R ((aR.at a (toNat c)).aq.bB.aX,(i64.wrap ((i64.wrap (v2+1))+1)))) fun v3=>(cond (decide (v3<0)) (ret ((-1):Int)) (m2 c (a.length:Int) (cond ((aR.at a (toNat c)).aq.bB.cE != v3) (ret ((-1):Int)) (m2 c (a.length:Int) (cond (!((aR.at a (toNat c)).aq.bF==((Int.tmod (i64.wrap (v3+1)) 3)==0))) (ret ((-1):Int)) (m2 c (a.length:Int) (call (Z289.R ((aR.at a (toNat c)).cm,(i64.wrap ((i64.wrap (v3+1))+1)))) fun v4=>(cond (decide (v4<0)) (ret ((-1):Int)) (J (.p0 a v4 (i64.wrap (c+1)))))))))))))))))))))))))))))))))))))))))) (ret (b:Int)))
def start (J:Pt->aJ)(x0:aB)(x1:Int):aJ:=J (.p0 x0 x1 0)
def live:Nat->Live:=fun i=>match i with | 2=>[(0,none),(1,none),(5,none)] | _=>[]
def pats:List ga:=[.rd (.sl 141),.rd (.int .i64)]
def res:RP:=.one (.rd (.int .i64))
abbrev E:Env:={ T:=assoc jV,G:=dw [(61,Z288.aU),(98,Z289.aU)],nt:=190 }
def step_eq (I:cB)(p:Pt):cR E live I (pid p) (bL Tryz.f97) (fm (live (pid p)) (bY p) (bX p)) (cA E Tryz.f97 res)=step (fun q=>I (pid q) (bY q) (bX q)) p:=by
 cases p<;>kernel_rfl
def start_eq (I:cB)(ls:List L):eL E live I (bL Tryz.f97) (cU pats ls) (cA E Tryz.f97 res)=start (fun q=>I (pid q) (bY q) (bX q)) (ls.headD .hole).aQ ((aA 1 ls).headD .hole).toInt:=by kernel_rfl
def run_eq (n:Nat)(ls:List L):eG E live Tryz.f97 res n (cU pats ls)=start (iter step n) (ls.headD .hole).aQ ((aA 1 ls).headD .hole).toInt:=cq (id:=pid) (vs:=bY) (hs:=bX) (step:=step) (start:=fun J=>start J (ls.headD .hole).aQ ((aA 1 ls).headD .hole).toInt) step_eq (fun I=>start_eq I ls) n
def e1 (x:aa)(k:Int):=Z288.md (((x.aq).bR).aX) (i64.wrap ((i64.wrap ((i64.wrap ((i64.wrap ((i64.wrap ((i64.wrap ((i64.wrap ((i64.wrap (k+1))+1))+1))+1))+1))+1))+1))+1))
def e2 (x:aa)(k:Int):=Z288.md (((x.aq).bD).aX) (i64.wrap ((e1 x k)+1))
def e3 (x:aa)(k:Int):=Z288.md (((x.aq).bB).aX) (i64.wrap ((i64.wrap ((e2 x k)+1))+1))
def e4 (x:aa)(k:Int):=Z289.md x.cm (i64.wrap ((i64.wrap ((e3 x k)+1))+1))
def f (x:aa)(k:Int):Option Int:=(cond ((x.aq).bz != k) none (cond ((x.aq).cI != (i64.wrap (k+1))) none (cond ((x.aq).bQ != (i64.wrap ((i64.wrap (k+1))+1))) none (cond ((x.aq).cF != (i64.wrap ((i64.wrap ((i64.wrap (k+1))+1))+1))) none (cond ((x.aq).cC != (i64.wrap ((i64.wrap ((i64.wrap ((i64.wrap (k+1))+1))+1))+1))) none (cond ((x.aq).cu != (i64.wrap ((i64.wrap ((i64.wrap ((i64.wrap ((i64.wrap (k+1))+1))+1))+1))+1))) none (cond ((x.aq).cW != (i64.wrap ((i64.wrap ((i64.wrap ((i64.wrap ((i64.wrap ((i64.wrap (k+1))+1))+1))+1))+1))+1))) none (cond ((x.aq).dy != (i64.wrap ((i64.wrap ((i64.wrap ((i64.wrap ((i64.wrap ((i64.wrap ((i64.wrap (k+1))+1))+1))+1))+1))+1))+1))) none (cond (decide ((e1 x k)<0)) none (cond (((x.aq).bR).cE != (e1 x k)) none (cond (decide ((e2 x k)<0)) none (cond (((x.aq).bD).cE != (e2 x k)) none (cond ((x.aq).cY != (i64.wrap ((e2 x k)+1))) none (cond (decide ((e3 x k)<0)) none (cond (((x.aq).bB).cE != (e3 x k)) none (cond (!((x.aq).bF==((Int.tmod (i64.wrap ((e3 x k)+1)) 3)==0))) none (cond (decide ((e4 x k)<0)) none (some (e4 x k)))))))))))))))))))
def rX (x:aa)(k k2:Int)(hk:eD k)(h:f x k=some k2):eD k2:=by
 unfold f at h
 have h:=bG h
 have h:=bG h
 have h:=bG h
 have h:=bG h
 have h:=bG h
 have h:=bG h
 have h:=bG h
 have h:=bG h
 have h:=bG h
 have h:=bG h
 have h:=bG h
 have h:=bG h
 have h:=bG h
 have h:=bG h
 have h:=bG h
 have h:=bG h
 have h:=bG h
 injection h with h
 subst h
 exact (Z289.iq (bZ _))
def md (a0:List aa)(a1:Int):Int:=iS f a0 a1
def gd (a0:List aa)(a1:Int):Prop:=eD a1
def acc (ls:List L):aB×Int:=((ls.headD .hole).aQ,((aA 1 ls).headD .hole).toInt)
def R:(aB×Int)->Option Int:=RR (p2 gd) (u2 md)
def an {a0 a1}(h:gd a0 a1):R ((a0.map aa.row),a1)=some (md a0 a1):=aP (a:=(a0,a1)) h
def aU:fR:=CN pats res acc R
def bA (a0:List aa)(a1:Int)(hg:gd a0 a1)(h0:a0.length<=maxLen):∃n,start (iter step n) (a0.map aa.row) a1=ret ((md a0 a1):Int):=by
 unfold gd at hg
 show ∃n,iter step n (Pt.p0 (a0.map aa.row) a1 0)=_
 unfold md
 refine ij (f:=f) (xs:=a0) aa.zero eD rX (pt:=fun i k=>Pt.p0 (a0.map aa.row) k (i:Int)) (fun J i k hi hk=>?_) (fun J k=>?_) hg
 ·simp only [step,SS]
  refine ak (aK hi) ?_
  refine ak aI ?_
  refine ak (aK hi) ?_
  refine bH rfl ?_
  refine ak aI ?_
  refine ak (aK hi) ?_
  refine bH rfl ?_
  refine ak aI ?_
  refine ak (aK hi) ?_
  refine bH rfl ?_
  refine ak aI ?_
  refine ak (aK hi) ?_
  refine bH rfl ?_
  refine ak aI ?_
  refine ak (aK hi) ?_
  refine bH rfl ?_
  refine ak aI ?_
  refine ak (aK hi) ?_
  refine bH rfl ?_
  refine ak aI ?_
  refine ak (aK hi) ?_
  refine bH rfl ?_
  refine ak aI ?_
  refine ak (aK hi) ?_
  refine bH rfl ?_
  refine ak aI ?_
  refine ak (aK hi) ?_
  refine aZ (e1 (a0.getD i aa.zero) k) (Z288.an (a0:=(((a0.getD i aa.zero).aq).bR).aX) (a1:=i64.wrap ((i64.wrap ((i64.wrap ((i64.wrap ((i64.wrap ((i64.wrap ((i64.wrap ((i64.wrap (k+1))+1))+1))+1))+1))+1))+1))+1)) (bZ _)) ?_
  refine bH rfl ?_
  refine ak aI ?_
  refine ak (aK hi) ?_
  refine bH rfl ?_
  refine ak aI ?_
  refine ak (aK hi) ?_
  refine aZ (e2 (a0.getD i aa.zero) k) (Z288.an (a0:=(((a0.getD i aa.zero).aq).bD).aX) (a1:=i64.wrap ((e1 (a0.getD i aa.zero) k)+1)) (bZ _)) ?_
  refine bH rfl ?_
  refine ak aI ?_
  refine ak (aK hi) ?_
  refine bH rfl ?_
  refine ak aI ?_
  refine ak (aK hi) ?_
  refine bH rfl ?_
  refine ak aI ?_
  refine ak (aK hi) ?_
  refine aZ (e3 (a0.getD i aa.zero) k) (Z288.an (a0:=(((a0.getD i aa.zero).aq).bB).aX) (a1:=i64.wrap ((i64.wrap ((e2 (a0.getD i aa.zero) k)+1))+1)) (bZ _)) ?_
  refine bH rfl ?_
  refine ak aI ?_
  refine ak (aK hi) ?_
  refine bH rfl ?_
  refine ak aI ?_
  refine ak (aK hi) ?_
  refine bH rfl ?_
  refine ak aI ?_
  refine ak (aK hi) ?_
  refine aZ (e4 (a0.getD i aa.zero) k) (Z289.an (a0:=(a0.getD i aa.zero).cm) (a1:=i64.wrap ((i64.wrap ((e3 (a0.getD i aa.zero) k)+1))+1)) (bZ _)) ?_
  refine bH rfl ?_
  rw [aH hi h0]
  rfl
 ·simp only [step,SS]
  refine cH (by apply decide_eq_false;omega) ?_
  rfl
def af:cD 97 aU:=VV (run:=fun n x=>start (iter step n) x.1 x.2) mix aE (.cons Z288.af (.cons Z289.af .nil)) Tryz.func97 (by kernel_rfl) run_eq (fun ls a hl e hg=>bA a.1 a.2 hg (by have h:(ls.headD .hole).aQ.length<=maxLen:=hl.1.len;have e:a.1.map aa.row=(ls.headD .hole).aQ:=(congrArg (fun x=>x.1) e.symm);rw [<-e] at h;simpa using h))
def iq {a0:List aa}{a1:Int}(h:eD a1):eD (md a0 a1):=jL rX kC h
def xq (x:aa)(k:Int)(h0:0<=k)(hb:k+(Z277.cnt x:Int)<=4611686018427387904):f (Z277.el x k).2 k=some (k+Z277.cnt x):=by
 simp only [Z277.cnt,Int.natCast_add] at hb ⊢
 simp (disch:=omega) only [Z277.el,f,Z277.e1,Z277.e2,Z277.e3,Z277.e4,e1,e2,e3,e4,wi,Z275.kk,Z288.mk,Z276.kk,Z289.mk,bne_self_eq_false,beq_self_eq_true,ff,Bool.not_true,bu,dc]
 all_goals first | done | omega | (congr 1<;>omega)
def mk (a0:List aa)(a1:Int)(h0:0<=a1)(hb:a1+(Z277.sum a0:Int)<=4611686018427387904):md (Z277.md a0 a1).2 a1=a1+Z277.sum a0:=gU Z277.nW xq a0 a1 h0 hb
end Z290
namespace Z291
set_option maxHeartbeats 8000000
inductive Pt where
 | p0 (a:aB) (b c:Int)
def pid:Pt->Nat
 | .p0 ..=>2
def bY:Pt->List V
 | .p0 a b c=>[.sl none 134 a,.int .i64 b,.int .i64 c]
def bX:Pt->List aV
 | .p0 a b c=>[]
def step (J:Pt->aJ):Pt->aJ
 | .p0 a b c=>(cond (decide (c<(a.length:Int))) (m2 c (a.length:Int) (call (Z290.R ((oq a (toNat c)),b)) fun v1=>(cond (decide (v1<0)) (ret ((-1):Int)) (J (.p0 a v1 (i64.wrap (c+1))))))) (ret (b:Int)))
def start (J:Pt->aJ)(x0:aB)(x1:Int):aJ:=J (.p0 x0 x1 0)
def live:Nat->Live:=fun i=>match i with | 2=>[(0,none),(1,none),(5,none)] | _=>[]
def pats:List ga:=[.rd (.sl 134),.rd (.int .i64)]
def res:RP:=.one (.rd (.int .i64))
abbrev E:Env:={ T:=assoc jV,G:=dw [(97,Z290.aU)],nt:=21 }
def step_eq (I:cB)(p:Pt):cR E live I (pid p) (bL Tryz.f58) (fm (live (pid p)) (bY p) (bX p)) (cA E Tryz.f58 res)=step (fun q=>I (pid q) (bY q) (bX q)) p:=by
 cases p<;>kernel_rfl
def start_eq (I:cB)(ls:List L):eL E live I (bL Tryz.f58) (cU pats ls) (cA E Tryz.f58 res)=start (fun q=>I (pid q) (bY q) (bX q)) (ls.headD .hole).aQ ((aA 1 ls).headD .hole).toInt:=by kernel_rfl
def run_eq (n:Nat)(ls:List L):eG E live Tryz.f58 res n (cU pats ls)=start (iter step n) (ls.headD .hole).aQ ((aA 1 ls).headD .hole).toInt:=cq (id:=pid) (vs:=bY) (hs:=bX) (step:=step) (start:=fun J=>start J (ls.headD .hole).aQ ((aA 1 ls).headD .hole).toInt) step_eq (fun I=>start_eq I ls) n
def e1 (x:List aa)(k:Int):=Z290.md x k
def f (x:List aa)(k:Int):Option Int:=(cond (decide ((e1 x k)<0)) none (some (e1 x k)))
def rX (x:List aa)(k k2:Int)(hk:eD k)(h:f x k=some k2):eD k2:=by
 unfold f at h
 have h:=bG h
 injection h with h
 subst h
 exact (Z290.iq hk)
def md (a0:List (List aa))(a1:Int):Int:=iS f a0 a1
def gd (a0:List (List aa))(a1:Int):Prop:=eD a1
def acc (ls:List L):aB×Int:=((ls.headD .hole).aQ,((aA 1 ls).headD .hole).toInt)
def R:(aB×Int)->Option Int:=RR (p2 gd) (u2 md)
def an {a0 a1}(h:gd a0 a1):R ((a0.map (dI aa.row)),a1)=some (md a0 a1):=aP (a:=(a0,a1)) h
def aU:fR:=CN pats res acc R
def bA (a0:List (List aa))(a1:Int)(hg:gd a0 a1)(h0:a0.length<=maxLen):∃n,start (iter step n) (a0.map (dI aa.row)) a1=ret ((md a0 a1):Int):=by
 unfold gd at hg
 show ∃n,iter step n (Pt.p0 (a0.map (dI aa.row)) a1 0)=_
 unfold md
 refine ij (f:=f) (xs:=a0) [] eD rX (pt:=fun i k=>Pt.p0 (a0.map (dI aa.row)) k (i:Int)) (fun J i k hi hk=>?_) (fun J k=>?_) hg
 ·simp only [step,SS]
  refine ak (aK hi) ?_
  refine ak aI ?_
  refine ak (aK hi) ?_
  refine aZ (e1 (a0.getD i []) k) (Z290.an (a0:=a0.getD i []) (a1:=k) hk) ?_
  refine bH rfl ?_
  rw [aH hi h0]
  rfl
 ·simp only [step,SS]
  refine cH (by apply decide_eq_false;omega) ?_
  rfl
def af:cD 58 aU:=VV (run:=fun n x=>start (iter step n) x.1 x.2) mix aE (.cons Z290.af .nil) Tryz.func58 (by kernel_rfl) run_eq (fun ls a hl e hg=>bA a.1 a.2 hg (by have h:(ls.headD .hole).aQ.length<=maxLen:=hl.1.len;have e:a.1.map (dI aa.row)=(ls.headD .hole).aQ:=(congrArg (fun x=>x.1) e.symm);rw [<-e] at h;simpa using h))
def iq {a0:List (List aa)}{a1:Int}(h:eD a1):eD (md a0 a1):=jL rX kC h
def xq (x:List aa)(k:Int)(h0:0<=k)(hb:k+(Z278.cnt x:Int)<=4611686018427387904):f (Z278.el x k).2 k=some (k+Z278.cnt x):=by
 simp only [Z278.cnt,Int.natCast_add] at hb ⊢
 simp (disch:=omega) only [Z278.el,f,Z278.e1,e1,wi,Z277.kk,Z290.mk,bne_self_eq_false,beq_self_eq_true,ff,Bool.not_true,bu,dc]
 all_goals first | done | omega | (congr 1<;>omega)
def mk (a0:List (List aa))(a1:Int)(h0:0<=a1)(hb:a1+(Z278.sum a0:Int)<=4611686018427387904):md (Z278.md a0 a1).2 a1=a1+Z278.sum a0:=gU Z278.nW xq a0 a1 h0 hb
end Z291
namespace Z292
set_option maxHeartbeats 8000000
inductive Pt where
 | p0 (a:aB) (b c:Int)
def pid:Pt->Nat
 | .p0 ..=>2
def bY:Pt->List V
 | .p0 a b c=>[.sl none 143 a,.int .i64 b,.int .i64 c]
def bX:Pt->List aV
 | .p0 a b c=>[]
def step (J:Pt->aJ):Pt->aJ
 | .p0 a b c=>(cond (decide (c<(a.length:Int))) (m2 c (a.length:Int) (cond ((bJ.at a (toNat c)).aS.aq.bz != b) (ret ((-1):Int)) (m2 c (a.length:Int) (cond ((bJ.at a (toNat c)).aS.aq.cI != (i64.wrap (b+1))) (ret ((-1):Int)) (m2 c (a.length:Int) (cond ((bJ.at a (toNat c)).aS.aq.bQ != (i64.wrap ((i64.wrap (b+1))+1))) (ret ((-1):Int)) (m2 c (a.length:Int) (cond ((bJ.at a (toNat c)).aS.aq.cF != (i64.wrap ((i64.wrap ((i64.wrap (b+1))+1))+1))) (ret ((-1):Int)) (m2 c (a.length:Int) (cond ((bJ.at a (toNat c)).aS.aq.cC != (i64.wrap ((i64.wrap ((i64.wrap ((i64.wrap (b+1))+1))+1))+1))) (ret ((-1):Int)) (m2 c (a.length:Int) (cond ((bJ.at a (toNat c)).aS.aq.cu != (i64.wrap ((i64.wrap ((i64.wrap ((i64.wrap ((i64.wrap (b+1))+1))+1))+1))+1))) (ret ((-1):Int)) (m2 c (a.length:Int) (cond ((bJ.at a (toNat c)).aS.aq.cW != (i64.wrap ((i64.wrap ((i64.wrap ((i64.wrap ((i64.wrap ((i64.wrap (b+1))+1))+1))+1))+1))+1))) (ret ((-1):Int)) (m2 c (a.length:Int) (cond ((bJ.at a (toNat c)).aS.aq.dy != (i64.wrap ((i64.wrap ((i64.wrap ((i64.wrap ((i64.wrap ((i64.wrap ((i64.wrap (b+1))+1))+1))+1))+1))+1))+1))) (ret ((-1):Int)) (m2 c (a.length:Int) (call (Z288.R ((bJ.at a (toNat c)).aS.aq.bR.aX,(i64.wrap ((i64.wrap ((i64.wrap ((i64.wrap ((i64.wrap ((i64.wrap ((i64.wrap ((i64.wrap (b+1))+1))+1))+1))+1))+1))+1))+1)))) fun v1=>(cond (decide (v1<0)) (ret ((-1):Int)) (m2 c (a.length:Int) (cond ((bJ.at a (toNat c)).aS.aq.bR.cE != v1) (ret ((-1):Int)) (m2 c (a.length:Int) (call (Z288.R ((bJ.at a (toNat c)).aS.aq.bD.aX,(i64.wrap (v1+1)))) fun v2=>(cond (decide (v2<0)) (ret ((-1):Int)) (m2 c (a.length:Int) (cond ((bJ.at a (toNat c)).aS.aq.bD.cE != v2) (ret ((-1):Int)) (m2 c (a.length:Int) (cond ((bJ.at a (toNat c)).aS.aq.cY != (i64.wrap (v2+1))) (ret ((-1):Int)) (m2 c (a.length:Int) (call (Z288.R ((bJ.at a (toNat c)).aS.aq.bB.aX,(i64.wrap ((i64.wrap (v2+1))+1)))) fun v3=>(cond (decide (v3<0)) (ret ((-1):Int)) (m2 c (a.length:Int) (cond ((bJ.at a (toNat c)).aS.aq.bB.cE != v3) (ret ((-1):Int)) (m2 c (a.length:Int) (cond (!((bJ.at a (toNat c)).aS.aq.bF==((Int.tmod (i64.wrap (v3+1)) 3)==0))) (ret ((-1):Int)) (m2 c (a.length:Int) (call (Z289.R ((bJ.at a (toNat c)).aS.cm,(i64.wrap ((i64.wrap (v3+1))+1)))) fun v4=>(cond (decide (v4<0)) (ret ((-1):Int)) (m2 c (a.length:Int) (cond ((bJ.at a (toNat c)).fA.aq.bz != v4) (ret ((-1):Int)) (m2 c (a.length:Int) (cond ((bJ.at a (toNat c)).fA.aq.cI != (i64.wrap (v4+1))) (ret ((-1):Int)) (m2 c (a.length:Int) (cond ((bJ.at a (toNat c)).fA.aq.bQ != (i64.wrap ((i64.wrap (v4+1))+1))) (ret ((-1):Int)) (m2 c (a.length:Int) (cond ((bJ.at a (toNat c)).fA.aq.cF != (i64.wrap ((i64.wrap ((i64.wrap (v4+1))+1))+1))) (ret ((-1):Int)) (m2 c (a.length:Int) (cond ((bJ.at a (toNat c)).fA.aq.cC != (i64.wrap ((i64.wrap ((i64.wrap ((i64.wrap (v4+1))+1))+1))+1))) (ret ((-1):Int)) (m2 c (a.length:Int) (cond ((bJ.at a (toNat c)).fA.aq.cu != (i64.wrap ((i64.wrap ((i64.wrap ((i64.wrap ((i64.wrap (v4+1))+1))+1))+1))+1))) (ret ((-1):Int)) (m2 c (a.length:Int) (cond ((bJ.at a (toNat c)).fA.aq.cW != (i64.wrap ((i64.wrap ((i64.wrap ((i64.wrap ((i64.wrap ((i64.wrap (v4+1))+1))+1))+1))+1))+1))) (ret ((-1):Int)) (m2 c (a.length:Int) (cond ((bJ.at a (toNat c)).fA.aq.dy != (i64.wrap ((i64.wrap ((i64.wrap ((i64.wrap ((i64.wrap ((i64.wrap ((i64.wrap (v4+1))+1))+1))+1))+1))+1))+1))) (ret ((-1):Int)) (m2 c (a.length:Int) (call (Z288.R ((bJ.at a (toNat c)).fA.aq.bR.aX,(i64.wrap ((i64.wrap ((i64.wrap ((i64.wrap ((i64.wrap ((i64.wrap ((i64.wrap ((i64.wrap (v4+1))+1))+1))+1))+1))+1))+1))+1)))) fun v5=>(cond (decide (v5<0)) (ret ((-1):Int)) (m2 c (a.length:Int) (cond ((bJ.at a (toNat c)).fA.aq.bR.cE != v5) (ret ((-1):Int)) (m2 c (a.length:Int) (call (Z288.R ((bJ.at a (toNat c)).fA.aq.bD.aX,(i64.wrap (v5+1)))) fun v6=>(cond (decide (v6<0)) (ret ((-1):Int)) (m2 c (a.length:Int) (cond ((bJ.at a (toNat c)).fA.aq.bD.cE != v6) (ret ((-1):Int)) (m2 c (a.length:Int) (cond ((bJ.at a (toNat c)).fA.aq.cY != (i64.wrap (v6+1))) (ret ((-1):Int)) (m2 c (a.length:Int) (call (Z288.R ((bJ.at a (toNat c)).fA.aq.bB.aX,(i64.wrap ((i64.wrap (v6+1))+1)))) fun v7=>(cond (decide (v7<0)) (ret ((-1):Int)) (m2 c (a.length:Int) (cond ((bJ.at a (toNat c)).fA.aq.bB.cE != v7) (ret ((-1):Int)) (m2 c (a.length:Int) (cond (!((bJ.at a (toNat c)).fA.aq.bF==((Int.tmod (i64.wrap (v7+1)) 3)==0))) (ret ((-1):Int)) (m2 c (a.length:Int) (call (Z289.R ((bJ.at a (toNat c)).fA.cm,(i64.wrap ((i64.wrap (v7+1))+1)))) fun v8=>(cond (decide (v8<0)) (ret ((-1):Int)) (m2 c (a.length:Int) (cond ((bJ.at a (toNat c)).fB.aq.bz != v8) (ret ((-1):Int)) (m2 c (a.length:Int) (cond ((bJ.at a (toNat c)).fB.aq.cI != (i64.wrap (v8+1))) (ret ((-1):Int)) (m2 c (a.length:Int) (cond ((bJ.at a (toNat c)).fB.aq.bQ != (i64.wrap ((i64.wrap (v8+1))+1))) (ret ((-1):Int)) (m2 c (a.length:Int) (cond ((bJ.at a (toNat c)).fB.aq.cF != (i64.wrap ((i64.wrap ((i64.wrap (v8+1))+1))+1))) (ret ((-1):Int)) (m2 c (a.length:Int) (cond ((bJ.at a (toNat c)).fB.aq.cC != (i64.wrap ((i64.wrap ((i64.wrap ((i64.wrap (v8+1))+1))+1))+1))) (ret ((-1):Int)) (m2 c (a.length:Int) (cond ((bJ.at a (toNat c)).fB.aq.cu != (i64.wrap ((i64.wrap ((i64.wrap ((i64.wrap ((i64.wrap (v8+1))+1))+1))+1))+1))) (ret ((-1):Int)) (m2 c (a.length:Int) (cond ((bJ.at a (toNat c)).fB.aq.cW != (i64.wrap ((i64.wrap ((i64.wrap ((i64.wrap ((i64.wrap ((i64.wrap (v8+1))+1))+1))+1))+1))+1))) (ret ((-1):Int)) (m2 c (a.length:Int) (cond ((bJ.at a (toNat c)).fB.aq.dy != (i64.wrap ((i64.wrap ((i64.wrap ((i64.wrap ((i64.wrap ((i64.wrap ((i64.wrap (v8+1))+1))+1))+1))+1))+1))+1))) (ret ((-1):Int)) (m2 c (a.length:Int) (call (Z288.R ((bJ.at a (toNat c)).fB.aq.bR.aX,(i64.wrap ((i64.wrap ((i64.wrap ((i64.wrap ((i64.wrap ((i64.wrap ((i64.wrap ((i64.wrap (v8+1))+1))+1))+1))+1))+1))+1))+1)))) fun v9=>(cond (decide (v9<0)) (ret ((-1):Int)) (m2 c (a.length:Int) (cond ((bJ.at a (toNat c)).fB.aq.bR.cE != v9) (ret ((-1):Int)) (m2 c (a.length:Int) (call (Z288.R ((bJ.at a (toNat c)).fB.aq.bD.aX,(i64.wrap (v9+1)))) fun v10=>(cond (decide (v10<0)) (ret ((-1):Int)) (m2 c (a.length:Int) (cond ((bJ.at a (toNat c)).fB.aq.bD.cE != v10) (ret ((-1):Int)) (m2 c (a.length:Int) (cond ((bJ.at a (toNat c)).fB.aq.cY != (i64.wrap (v10+1))) (ret ((-1):Int)) (m2 c (a.length:Int) (call (Z288.R ((bJ.at a (toNat c)).fB.aq.bB.aX,(i64.wrap ((i64.wrap (v10+1))+1)))) fun v11=>(cond (decide (v11<0)) (ret ((-1):Int)) (m2 c (a.length:Int) (cond ((bJ.at a (toNat c)).fB.aq.bB.cE != v11) (ret ((-1):Int)) (m2 c (a.length:Int) (cond (!((bJ.at a (toNat c)).fB.aq.bF==((Int.tmod (i64.wrap (v11+1)) 3)==0))) (ret ((-1):Int)) (m2 c (a.length:Int) (call (Z289.R ((bJ.at a (toNat c)).fB.cm,(i64.wrap ((i64.wrap (v11+1))+1)))) fun v12=>(cond (decide (v12<0)) (ret ((-1):Int)) (J (.p0 a v12 (i64.wrap (c+1)))))))))))))))))))))))))))))))))))))))))))))))))))))))))))))))))))))))))))))))))))))))))))))))))))))))))))))))))))))) (ret (b:Int)))
def start (J:Pt->aJ)(x0:aB)(x1:Int):aJ:=J (.p0 x0 x1 0)
def live:Nat->Live:=fun i=>match i with | 2=>[(0,none),(1,none),(5,none)] | _=>[]
def pats:List ga:=[.rd (.sl 143),.rd (.int .i64)]
def res:RP:=.one (.rd (.int .i64))
abbrev E:Env:={ T:=assoc jV,G:=dw [(61,Z288.aU),(98,Z289.aU)],nt:=595 }
def step_eq (I:cB)(p:Pt):cR E live I (pid p) (bL Tryz.f59) (fm (live (pid p)) (bY p) (bX p)) (cA E Tryz.f59 res)=step (fun q=>I (pid q) (bY q) (bX q)) p:=by
 cases p<;>kernel_rfl
def start_eq (I:cB)(ls:List L):eL E live I (bL Tryz.f59) (cU pats ls) (cA E Tryz.f59 res)=start (fun q=>I (pid q) (bY q) (bX q)) (ls.headD .hole).aQ ((aA 1 ls).headD .hole).toInt:=by kernel_rfl
def run_eq (n:Nat)(ls:List L):eG E live Tryz.f59 res n (cU pats ls)=start (iter step n) (ls.headD .hole).aQ ((aA 1 ls).headD .hole).toInt:=cq (id:=pid) (vs:=bY) (hs:=bX) (step:=step) (start:=fun J=>start J (ls.headD .hole).aQ ((aA 1 ls).headD .hole).toInt) step_eq (fun I=>start_eq I ls) n
def e1 (x:az)(k:Int):=Z288.md ((((x.aS).aq).bR).aX) (i64.wrap ((i64.wrap ((i64.wrap ((i64.wrap ((i64.wrap ((i64.wrap ((i64.wrap ((i64.wrap (k+1))+1))+1))+1))+1))+1))+1))+1))
def e2 (x:az)(k:Int):=Z288.md ((((x.aS).aq).bD).aX) (i64.wrap ((e1 x k)+1))
def e3 (x:az)(k:Int):=Z288.md ((((x.aS).aq).bB).aX) (i64.wrap ((i64.wrap ((e2 x k)+1))+1))
def e4 (x:az)(k:Int):=Z289.md ((x.aS).cm) (i64.wrap ((i64.wrap ((e3 x k)+1))+1))
def e5 (x:az)(k:Int):=Z288.md ((((x.fA).aq).bR).aX) (i64.wrap ((i64.wrap ((i64.wrap ((i64.wrap ((i64.wrap ((i64.wrap ((i64.wrap ((i64.wrap ((e4 x k)+1))+1))+1))+1))+1))+1))+1))+1))
def e6 (x:az)(k:Int):=Z288.md ((((x.fA).aq).bD).aX) (i64.wrap ((e5 x k)+1))
def e7 (x:az)(k:Int):=Z288.md ((((x.fA).aq).bB).aX) (i64.wrap ((i64.wrap ((e6 x k)+1))+1))
def e8 (x:az)(k:Int):=Z289.md ((x.fA).cm) (i64.wrap ((i64.wrap ((e7 x k)+1))+1))
def e9 (x:az)(k:Int):=Z288.md ((((x.fB).aq).bR).aX) (i64.wrap ((i64.wrap ((i64.wrap ((i64.wrap ((i64.wrap ((i64.wrap ((i64.wrap ((i64.wrap ((e8 x k)+1))+1))+1))+1))+1))+1))+1))+1))
def uX (x:az)(k:Int):=Z288.md ((((x.fB).aq).bD).aX) (i64.wrap ((e9 x k)+1))
def tX (x:az)(k:Int):=Z288.md ((((x.fB).aq).bB).aX) (i64.wrap ((i64.wrap ((uX x k)+1))+1))
def yJ (x:az)(k:Int):=Z289.md ((x.fB).cm) (i64.wrap ((i64.wrap ((tX x k)+1))+1))
def f (x:az)(k:Int):Option Int:=(cond (((x.aS).aq).bz != k) none (cond (((x.aS).aq).cI != (i64.wrap (k+1))) none (cond (((x.aS).aq).bQ != (i64.wrap ((i64.wrap (k+1))+1))) none (cond (((x.aS).aq).cF != (i64.wrap ((i64.wrap ((i64.wrap (k+1))+1))+1))) none (cond (((x.aS).aq).cC != (i64.wrap ((i64.wrap ((i64.wrap ((i64.wrap (k+1))+1))+1))+1))) none (cond (((x.aS).aq).cu != (i64.wrap ((i64.wrap ((i64.wrap ((i64.wrap ((i64.wrap (k+1))+1))+1))+1))+1))) none (cond (((x.aS).aq).cW != (i64.wrap ((i64.wrap ((i64.wrap ((i64.wrap ((i64.wrap ((i64.wrap (k+1))+1))+1))+1))+1))+1))) none (cond (((x.aS).aq).dy != (i64.wrap ((i64.wrap ((i64.wrap ((i64.wrap ((i64.wrap ((i64.wrap ((i64.wrap (k+1))+1))+1))+1))+1))+1))+1))) none (cond (decide ((e1 x k)<0)) none (cond ((((x.aS).aq).bR).cE != (e1 x k)) none (cond (decide ((e2 x k)<0)) none (cond ((((x.aS).aq).bD).cE != (e2 x k)) none (cond (((x.aS).aq).cY != (i64.wrap ((e2 x k)+1))) none (cond (decide ((e3 x k)<0)) none (cond ((((x.aS).aq).bB).cE != (e3 x k)) none (cond (!(((x.aS).aq).bF==((Int.tmod (i64.wrap ((e3 x k)+1)) 3)==0))) none (cond (decide ((e4 x k)<0)) none (cond (((x.fA).aq).bz != (e4 x k)) none (cond (((x.fA).aq).cI != (i64.wrap ((e4 x k)+1))) none (cond (((x.fA).aq).bQ != (i64.wrap ((i64.wrap ((e4 x k)+1))+1))) none (cond (((x.fA).aq).cF != (i64.wrap ((i64.wrap ((i64.wrap ((e4 x k)+1))+1))+1))) none (cond (((x.fA).aq).cC != (i64.wrap ((i64.wrap ((i64.wrap ((i64.wrap ((e4 x k)+1))+1))+1))+1))) none (cond (((x.fA).aq).cu != (i64.wrap ((i64.wrap ((i64.wrap ((i64.wrap ((i64.wrap ((e4 x k)+1))+1))+1))+1))+1))) none (cond (((x.fA).aq).cW != (i64.wrap ((i64.wrap ((i64.wrap ((i64.wrap ((i64.wrap ((i64.wrap ((e4 x k)+1))+1))+1))+1))+1))+1))) none (cond (((x.fA).aq).dy != (i64.wrap ((i64.wrap ((i64.wrap ((i64.wrap ((i64.wrap ((i64.wrap ((i64.wrap ((e4 x k)+1))+1))+1))+1))+1))+1))+1))) none (cond (decide ((e5 x k)<0)) none (cond ((((x.fA).aq).bR).cE != (e5 x k)) none (cond (decide ((e6 x k)<0)) none (cond ((((x.fA).aq).bD).cE != (e6 x k)) none (cond (((x.fA).aq).cY != (i64.wrap ((e6 x k)+1))) none (cond (decide ((e7 x k)<0)) none (cond ((((x.fA).aq).bB).cE != (e7 x k)) none (cond (!(((x.fA).aq).bF==((Int.tmod (i64.wrap ((e7 x k)+1)) 3)==0))) none (cond (decide ((e8 x k)<0)) none (cond (((x.fB).aq).bz != (e8 x k)) none (cond (((x.fB).aq).cI != (i64.wrap ((e8 x k)+1))) none (cond (((x.fB).aq).bQ != (i64.wrap ((i64.wrap ((e8 x k)+1))+1))) none (cond (((x.fB).aq).cF != (i64.wrap ((i64.wrap ((i64.wrap ((e8 x k)+1))+1))+1))) none (cond (((x.fB).aq).cC != (i64.wrap ((i64.wrap ((i64.wrap ((i64.wrap ((e8 x k)+1))+1))+1))+1))) none (cond (((x.fB).aq).cu != (i64.wrap ((i64.wrap ((i64.wrap ((i64.wrap ((i64.wrap ((e8 x k)+1))+1))+1))+1))+1))) none (cond (((x.fB).aq).cW != (i64.wrap ((i64.wrap ((i64.wrap ((i64.wrap ((i64.wrap ((i64.wrap ((e8 x k)+1))+1))+1))+1))+1))+1))) none (cond (((x.fB).aq).dy != (i64.wrap ((i64.wrap ((i64.wrap ((i64.wrap ((i64.wrap ((i64.wrap ((i64.wrap ((e8 x k)+1))+1))+1))+1))+1))+1))+1))) none (cond (decide ((e9 x k)<0)) none (cond ((((x.fB).aq).bR).cE != (e9 x k)) none (cond (decide ((uX x k)<0)) none (cond ((((x.fB).aq).bD).cE != (uX x k)) none (cond (((x.fB).aq).cY != (i64.wrap ((uX x k)+1))) none (cond (decide ((tX x k)<0)) none (cond ((((x.fB).aq).bB).cE != (tX x k)) none (cond (!(((x.fB).aq).bF==((Int.tmod (i64.wrap ((tX x k)+1)) 3)==0))) none (cond (decide ((yJ x k)<0)) none (some (yJ x k)))))))))))))))))))))))))))))))))))))))))))))))))))))
def rX (x:az)(k k2:Int)(hk:eD k)(h:f x k=some k2):eD k2:=by
 unfold f at h
 have h:=bG h
 have h:=bG h
 have h:=bG h
 have h:=bG h
 have h:=bG h
 have h:=bG h
 have h:=bG h
 have h:=bG h
 have h:=bG h
 have h:=bG h
 have h:=bG h
 have h:=bG h
 have h:=bG h
 have h:=bG h
 have h:=bG h
 have h:=bG h
 have h:=bG h
 have h:=bG h
 have h:=bG h
 have h:=bG h
 have h:=bG h
 have h:=bG h
 have h:=bG h
 have h:=bG h
 have h:=bG h
 have h:=bG h
 have h:=bG h
 have h:=bG h
 have h:=bG h
 have h:=bG h
 have h:=bG h
 have h:=bG h
 have h:=bG h
 have h:=bG h
 have h:=bG h
 have h:=bG h
 have h:=bG h
 have h:=bG h
 have h:=bG h
 have h:=bG h
 have h:=bG h
 have h:=bG h
 have h:=bG h
 have h:=bG h
 have h:=bG h
 have h:=bG h
 have h:=bG h
 have h:=bG h
 have h:=bG h
 have h:=bG h
 have h:=bG h
 injection h with h
 subst h
 exact (Z289.iq (bZ _))
def md (a0:List az)(a1:Int):Int:=iS f a0 a1
def gd (a0:List az)(a1:Int):Prop:=eD a1
def acc (ls:List L):aB×Int:=((ls.headD .hole).aQ,((aA 1 ls).headD .hole).toInt)
def R:(aB×Int)->Option Int:=RR (p2 gd) (u2 md)
def an {a0 a1}(h:gd a0 a1):R ((a0.map az.row),a1)=some (md a0 a1):=aP (a:=(a0,a1)) h
def aU:fR:=CN pats res acc R
def bA (a0:List az)(a1:Int)(hg:gd a0 a1)(h0:a0.length<=maxLen):∃n,start (iter step n) (a0.map az.row) a1=ret ((md a0 a1):Int):=by
 unfold gd at hg
 show ∃n,iter step n (Pt.p0 (a0.map az.row) a1 0)=_
 unfold md
 refine ij (f:=f) (xs:=a0) az.zero eD rX (pt:=fun i k=>Pt.p0 (a0.map az.row) k (i:Int)) (fun J i k hi hk=>?_) (fun J k=>?_) hg
 ·simp only [step,SS]
  refine ak (aK hi) ?_
  refine ak aI ?_
  refine ak (aK hi) ?_
  refine bH rfl ?_
  refine ak aI ?_
  refine ak (aK hi) ?_
  refine bH rfl ?_
  refine ak aI ?_
  refine ak (aK hi) ?_
  refine bH rfl ?_
  refine ak aI ?_
  refine ak (aK hi) ?_
  refine bH rfl ?_
  refine ak aI ?_
  refine ak (aK hi) ?_
  refine bH rfl ?_
  refine ak aI ?_
  refine ak (aK hi) ?_
  refine bH rfl ?_
  refine ak aI ?_
  refine ak (aK hi) ?_
  refine bH rfl ?_
  refine ak aI ?_
  refine ak (aK hi) ?_
  refine bH rfl ?_
  refine ak aI ?_
  refine ak (aK hi) ?_
  refine aZ (e1 (a0.getD i az.zero) k) (Z288.an (a0:=((((a0.getD i az.zero).aS).aq).bR).aX) (a1:=i64.wrap ((i64.wrap ((i64.wrap ((i64.wrap ((i64.wrap ((i64.wrap ((i64.wrap ((i64.wrap (k+1))+1))+1))+1))+1))+1))+1))+1)) (bZ _)) ?_
  refine bH rfl ?_
  refine ak aI ?_
  refine ak (aK hi) ?_
  refine bH rfl ?_
  refine ak aI ?_
  refine ak (aK hi) ?_
  refine aZ (e2 (a0.getD i az.zero) k) (Z288.an (a0:=((((a0.getD i az.zero).aS).aq).bD).aX) (a1:=i64.wrap ((e1 (a0.getD i az.zero) k)+1)) (bZ _)) ?_
  refine bH rfl ?_
  refine ak aI ?_
  refine ak (aK hi) ?_
  refine bH rfl ?_
  refine ak aI ?_
  refine ak (aK hi) ?_
  refine bH rfl ?_
  refine ak aI ?_
  refine ak (aK hi) ?_
  refine aZ (e3 (a0.getD i az.zero) k) (Z288.an (a0:=((((a0.getD i az.zero).aS).aq).bB).aX) (a1:=i64.wrap ((i64.wrap ((e2 (a0.getD i az.zero) k)+1))+1)) (bZ _)) ?_
  refine bH rfl ?_
  refine ak aI ?_
  refine ak (aK hi) ?_
  refine bH rfl ?_
  refine ak aI ?_
  refine ak (aK hi) ?_
  refine bH rfl ?_
  refine ak aI ?_
  refine ak (aK hi) ?_
  refine aZ (e4 (a0.getD i az.zero) k) (Z289.an (a0:=((a0.getD i az.zero).aS).cm) (a1:=i64.wrap ((i64.wrap ((e3 (a0.getD i az.zero) k)+1))+1)) (bZ _)) ?_
  refine bH rfl ?_
  refine ak aI ?_
  refine ak (aK hi) ?_
  refine bH rfl ?_
  refine ak aI ?_
  refine ak (aK hi) ?_
  refine bH rfl ?_
  refine ak aI ?_
  refine ak (aK hi) ?_
  refine bH rfl ?_
  refine ak aI ?_
  refine ak (aK hi) ?_
  refine bH rfl ?_
  refine ak aI ?_
  refine ak (aK hi) ?_
  refine bH rfl ?_
  refine ak aI ?_
  refine ak (aK hi) ?_
  refine bH rfl ?_
  refine ak aI ?_
  refine ak (aK hi) ?_
  refine bH rfl ?_
  refine ak aI ?_
  refine ak (aK hi) ?_
  refine bH rfl ?_
  refine ak aI ?_
  refine ak (aK hi) ?_
  refine aZ (e5 (a0.getD i az.zero) k) (Z288.an (a0:=((((a0.getD i az.zero).fA).aq).bR).aX) (a1:=i64.wrap ((i64.wrap ((i64.wrap ((i64.wrap ((i64.wrap ((i64.wrap ((i64.wrap ((i64.wrap ((e4 (a0.getD i az.zero) k)+1))+1))+1))+1))+1))+1))+1))+1)) (bZ _)) ?_
  refine bH rfl ?_
  refine ak aI ?_
  refine ak (aK hi) ?_
  refine bH rfl ?_
  refine ak aI ?_
  refine ak (aK hi) ?_
  refine aZ (e6 (a0.getD i az.zero) k) (Z288.an (a0:=((((a0.getD i az.zero).fA).aq).bD).aX) (a1:=i64.wrap ((e5 (a0.getD i az.zero) k)+1)) (bZ _)) ?_
  refine bH rfl ?_
  refine ak aI ?_
  refine ak (aK hi) ?_
  refine bH rfl ?_
  refine ak aI ?_
  refine ak (aK hi) ?_
  refine bH rfl ?_
  refine ak aI ?_
  refine ak (aK hi) ?_
  refine aZ (e7 (a0.getD i az.zero) k) (Z288.an (a0:=((((a0.getD i az.zero).fA).aq).bB).aX) (a1:=i64.wrap ((i64.wrap ((e6 (a0.getD i az.zero) k)+1))+1)) (bZ _)) ?_
  refine bH rfl ?_
  refine ak aI ?_
  refine ak (aK hi) ?_
  refine bH rfl ?_
  refine ak aI ?_
  refine ak (aK hi) ?_
  refine bH rfl ?_
  refine ak aI ?_
  refine ak (aK hi) ?_
  refine aZ (e8 (a0.getD i az.zero) k) (Z289.an (a0:=((a0.getD i az.zero).fA).cm) (a1:=i64.wrap ((i64.wrap ((e7 (a0.getD i az.zero) k)+1))+1)) (bZ _)) ?_
  refine bH rfl ?_
  refine ak aI ?_
  refine ak (aK hi) ?_
  refine bH rfl ?_
  refine ak aI ?_
  refine ak (aK hi) ?_
  refine bH rfl ?_
  refine ak aI ?_
  refine ak (aK hi) ?_
  refine bH rfl ?_
  refine ak aI ?_
  refine ak (aK hi) ?_
  refine bH rfl ?_
  refine ak aI ?_
  refine ak (aK hi) ?_
  refine bH rfl ?_
  refine ak aI ?_
  refine ak (aK hi) ?_
  refine bH rfl ?_
  refine ak aI ?_
  refine ak (aK hi) ?_
  refine bH rfl ?_
  refine ak aI ?_
  refine ak (aK hi) ?_
  refine bH rfl ?_
  refine ak aI ?_
  refine ak (aK hi) ?_
  refine aZ (e9 (a0.getD i az.zero) k) (Z288.an (a0:=((((a0.getD i az.zero).fB).aq).bR).aX) (a1:=i64.wrap ((i64.wrap ((i64.wrap ((i64.wrap ((i64.wrap ((i64.wrap ((i64.wrap ((i64.wrap ((e8 (a0.getD i az.zero) k)+1))+1))+1))+1))+1))+1))+1))+1)) (bZ _)) ?_
  refine bH rfl ?_
  refine ak aI ?_
  refine ak (aK hi) ?_
  refine bH rfl ?_
  refine ak aI ?_
  refine ak (aK hi) ?_
  refine aZ (uX (a0.getD i az.zero) k) (Z288.an (a0:=((((a0.getD i az.zero).fB).aq).bD).aX) (a1:=i64.wrap ((e9 (a0.getD i az.zero) k)+1)) (bZ _)) ?_
  refine bH rfl ?_
  refine ak aI ?_
  refine ak (aK hi) ?_
  refine bH rfl ?_
  refine ak aI ?_
  refine ak (aK hi) ?_
  refine bH rfl ?_
  refine ak aI ?_
  refine ak (aK hi) ?_
  refine aZ (tX (a0.getD i az.zero) k) (Z288.an (a0:=((((a0.getD i az.zero).fB).aq).bB).aX) (a1:=i64.wrap ((i64.wrap ((uX (a0.getD i az.zero) k)+1))+1)) (bZ _)) ?_
  refine bH rfl ?_
  refine ak aI ?_
  refine ak (aK hi) ?_
  refine bH rfl ?_
  refine ak aI ?_
  refine ak (aK hi) ?_
  refine bH rfl ?_
  refine ak aI ?_
  refine ak (aK hi) ?_
  refine aZ (yJ (a0.getD i az.zero) k) (Z289.an (a0:=((a0.getD i az.zero).fB).cm) (a1:=i64.wrap ((i64.wrap ((tX (a0.getD i az.zero) k)+1))+1)) (bZ _)) ?_
  refine bH rfl ?_
  rw [aH hi h0]
  rfl
 ·simp only [step,SS]
  refine cH (by apply decide_eq_false;omega) ?_
  rfl
def af:cD 59 aU:=VV (run:=fun n x=>start (iter step n) x.1 x.2) mix aE (.cons Z288.af (.cons Z289.af .nil)) Tryz.func59 (by kernel_rfl) run_eq (fun ls a hl e hg=>bA a.1 a.2 hg (by have h:(ls.headD .hole).aQ.length<=maxLen:=hl.1.len;have e:a.1.map az.row=(ls.headD .hole).aQ:=(congrArg (fun x=>x.1) e.symm);rw [<-e] at h;simpa using h))
def iq {a0:List az}{a1:Int}(h:eD a1):eD (md a0 a1):=jL rX kC h
def xq (x:az)(k:Int)(h0:0<=k)(hb:k+(Z279.cnt x:Int)<=4611686018427387904):f (Z279.el x k).2 k=some (k+Z279.cnt x):=by
 simp only [Z279.cnt,Int.natCast_add] at hb ⊢
 simp (disch:=omega) only [Z279.el,f,Z279.e1,Z279.e2,Z279.e3,Z279.e4,Z279.e5,Z279.e6,Z279.e7,Z279.e8,Z279.e9,Z279.uX,Z279.tX,Z279.yJ,e1,e2,e3,e4,e5,e6,e7,e8,e9,uX,tX,yJ,wi,Z275.kk,Z288.mk,Z276.kk,Z289.mk,bne_self_eq_false,beq_self_eq_true,ff,Bool.not_true,bu,dc]
 all_goals first | done | omega | (congr 1<;>omega)
def mk (a0:List az)(a1:Int)(h0:0<=a1)(hb:a1+(Z279.sum a0:Int)<=4611686018427387904):md (Z279.md a0 a1).2 a1=a1+Z279.sum a0:=gU Z279.nW xq a0 a1 h0 hb
end Z292
namespace Z293
set_option maxHeartbeats 8000000
inductive Pt where
 | p0 (a:aB) (b c:Int)
def pid:Pt->Nat
 | .p0 ..=>2
def bY:Pt->List V
 | .p0 a b c=>[.sl none 9 a,.int .i64 b,.int .i64 c]
def bX:Pt->List aV
 | .p0 a b c=>[]
def step (J:Pt->aJ):Pt->aJ
 | .p0 a b c=>(cond (decide (c<(a.length:Int))) (m2 c (a.length:Int) (call (Z281.R b) fun v1=>(cond (!((pV a (toNat c))==v1)) (ret ((-1):Int)) (J (.p0 a (i64.wrap (b+1)) (i64.wrap (c+1))))))) (ret (b:Int)))
def start (J:Pt->aJ)(x0:aB)(x1:Int):aJ:=J (.p0 x0 x1 0)
def live:Nat->Live:=fun i=>match i with | 2=>[(0,none),(1,none),(5,none)] | _=>[]
def pats:List ga:=[.rd (.sl 9),.rd (.int .i64)]
def res:RP:=.one (.rd (.int .i64))
abbrev E:Env:={ T:=assoc jV,G:=dw [(56,Z281.aU)],nt:=22 }
def step_eq (I:cB)(p:Pt):cR E live I (pid p) (bL Tryz.f60) (fm (live (pid p)) (bY p) (bX p)) (cA E Tryz.f60 res)=step (fun q=>I (pid q) (bY q) (bX q)) p:=by
 cases p<;>kernel_rfl
def start_eq (I:cB)(ls:List L):eL E live I (bL Tryz.f60) (cU pats ls) (cA E Tryz.f60 res)=start (fun q=>I (pid q) (bY q) (bX q)) (ls.headD .hole).aQ ((aA 1 ls).headD .hole).toInt:=by kernel_rfl
def run_eq (n:Nat)(ls:List L):eG E live Tryz.f60 res n (cU pats ls)=start (iter step n) (ls.headD .hole).aQ ((aA 1 ls).headD .hole).toInt:=cq (id:=pid) (vs:=bY) (hs:=bX) (step:=step) (start:=fun J=>start J (ls.headD .hole).aQ ((aA 1 ls).headD .hole).toInt) step_eq (fun I=>start_eq I ls) n
def f (x:aD)(k:Int):Option Int:=(cond (!(x==(Z281.md k))) none (some (i64.wrap (k+1))))
def rX (x:aD)(k k2:Int)(hk:eD k)(h:f x k=some k2):eD k2:=by
 unfold f at h
 have h:=bG h
 injection h with h
 subst h
 exact (bZ _)
def md (a0:List aD)(a1:Int):Int:=iS f a0 a1
def gd (a0:List aD)(a1:Int):Prop:=eD a1
def acc (ls:List L):aB×Int:=((ls.headD .hole).aQ,((aA 1 ls).headD .hole).toInt)
def R:(aB×Int)->Option Int:=RR (p2 gd) (u2 md)
def an {a0 a1}(h:gd a0 a1):R ((a0.map cG),a1)=some (md a0 a1):=aP (a:=(a0,a1)) h
def aU:fR:=CN pats res acc R
def bA (a0:List aD)(a1:Int)(hg:gd a0 a1)(h0:a0.length<=maxLen):∃n,start (iter step n) (a0.map cG) a1=ret ((md a0 a1):Int):=by
 unfold gd at hg
 show ∃n,iter step n (Pt.p0 (a0.map cG) a1 0)=_
 unfold md
 refine ij (f:=f) (xs:=a0) ⟨#[]⟩ eD rX (pt:=fun i k=>Pt.p0 (a0.map cG) k (i:Int)) (fun J i k hi hk=>?_) (fun J k=>?_) hg
 ·simp only [step,SS]
  refine ak (aK hi) ?_
  refine ak aI ?_
  refine ak (aK hi) ?_
  refine aZ (Z281.md k) (Z281.an (a0:=k) hk) ?_
  refine bH rfl ?_
  rw [aH hi h0]
  rfl
 ·simp only [step,SS]
  refine cH (by apply decide_eq_false;omega) ?_
  rfl
def af:cD 60 aU:=VV (run:=fun n x=>start (iter step n) x.1 x.2) mix aE (.cons Z281.af .nil) Tryz.func60 (by kernel_rfl) run_eq (fun ls a hl e hg=>bA a.1 a.2 hg (by have h:(ls.headD .hole).aQ.length<=maxLen:=hl.1.len;have e:a.1.map cG=(ls.headD .hole).aQ:=(congrArg (fun x=>x.1) e.symm);rw [<-e] at h;simpa using h))
def iq {a0:List aD}{a1:Int}(h:eD a1):eD (md a0 a1):=jL rX kC h
def xq (x:aD)(k:Int)(h0:0<=k)(hb:k+(Z282.cnt x:Int)<=4611686018427387904):f (Z282.el x k).2 k=some (k+Z282.cnt x):=by
 simp only [Z282.cnt,Int.natCast_add] at hb ⊢
 simp (disch:=omega) only [Z282.el,f,wi,bne_self_eq_false,beq_self_eq_true,ff,Bool.not_true,bu,dc]
 all_goals first | done | omega | (congr 1<;>omega)
def mk (a0:List aD)(a1:Int)(h0:0<=a1)(hb:a1+(Z282.sum a0:Int)<=4611686018427387904):md (Z282.md a0 a1).2 a1=a1+Z282.sum a0:=gU Z282.nW xq a0 a1 h0 hb
end Z293
namespace Z294
set_option maxHeartbeats 8000000
inductive Pt where
 | p0 (a:aB) (b c:Int)
def pid:Pt->Nat
 | .p0 ..=>2
def bY:Pt->List V
 | .p0 a b c=>[.sl none 60 a,.int .i64 b,.int .i64 c]
def bX:Pt->List aV
 | .p0 a b c=>[]
def step (J:Pt->aJ):Pt->aJ
 | .p0 a b c=>(cond (decide (c<(a.length:Int))) (m2 c (a.length:Int) (call (Z291.R ((cK.at a (toNat c)).bP.aG,b)) fun v1=>(cond (decide (v1<0)) (ret ((-1):Int)) (m2 c (a.length:Int) (call (Z292.R ((cK.at a (toNat c)).bP.aW,v1)) fun v2=>(cond (decide (v2<0)) (ret ((-1):Int)) (m2 c (a.length:Int) (cond ((cK.at a (toNat c)).jw != v2) (ret ((-1):Int)) (m2 c (a.length:Int) (call (Z281.R (i64.wrap (v2+1))) fun v3=>(cond (!((cK.at a (toNat c)).bp.bw==v3)) (ret ((-1):Int)) (m2 c (a.length:Int) (cond ((cK.at a (toNat c)).bp.bQ != (i64.wrap ((i64.wrap (v2+1))+1))) (ret ((-1):Int)) (m2 c (a.length:Int) (cond ((cK.at a (toNat c)).bp.cw != (i64.wrap ((i64.wrap ((i64.wrap (v2+1))+1))+1))) (ret ((-1):Int)) (m2 c (a.length:Int) (call (Z293.R ((cK.at a (toNat c)).bp.bK,(i64.wrap ((i64.wrap ((i64.wrap ((i64.wrap (v2+1))+1))+1))+1)))) fun v4=>(cond (decide (v4<0)) (ret ((-1):Int)) (m2 c (a.length:Int) (call (Z288.R ((cK.at a (toNat c)).bI,v4)) fun v5=>(cond (decide (v5<0)) (ret ((-1):Int)) (m2 c (a.length:Int) (cond ((cK.at a (toNat c)).gP != v5) (ret ((-1):Int)) (J (.p0 a (i64.wrap (v5+1)) (i64.wrap (c+1))))))))))))))))))))))))))) (ret (b:Int)))
def start (J:Pt->aJ)(x0:aB)(x1:Int):aJ:=J (.p0 x0 x1 0)
def live:Nat->Live:=fun i=>match i with | 2=>[(0,none),(1,none),(5,none)] | _=>[]
def pats:List ga:=[.rd (.sl 60),.rd (.int .i64)]
def res:RP:=.one (.rd (.int .i64))
abbrev E:Env:={ T:=assoc jV,G:=dw [(58,Z291.aU),(59,Z292.aU),(56,Z281.aU),(60,Z293.aU),(61,Z288.aU)],nt:=101 }
def step_eq (I:cB)(p:Pt):cR E live I (pid p) (bL Tryz.f26) (fm (live (pid p)) (bY p) (bX p)) (cA E Tryz.f26 res)=step (fun q=>I (pid q) (bY q) (bX q)) p:=by
 cases p<;>kernel_rfl
def start_eq (I:cB)(ls:List L):eL E live I (bL Tryz.f26) (cU pats ls) (cA E Tryz.f26 res)=start (fun q=>I (pid q) (bY q) (bX q)) (ls.headD .hole).aQ ((aA 1 ls).headD .hole).toInt:=by kernel_rfl
def run_eq (n:Nat)(ls:List L):eG E live Tryz.f26 res n (cU pats ls)=start (iter step n) (ls.headD .hole).aQ ((aA 1 ls).headD .hole).toInt:=cq (id:=pid) (vs:=bY) (hs:=bX) (step:=step) (start:=fun J=>start J (ls.headD .hole).aQ ((aA 1 ls).headD .hole).toInt) step_eq (fun I=>start_eq I ls) n
def e1 (x:aL)(k:Int):=Z291.md ((x.bP).aG) k
def e2 (x:aL)(k:Int):=Z292.md ((x.bP).aW) (e1 x k)
def e3 (x:aL)(k:Int):=Z293.md ((x.bp).bK) (i64.wrap ((i64.wrap ((i64.wrap ((i64.wrap ((e2 x k)+1))+1))+1))+1))
def e4 (x:aL)(k:Int):=Z288.md x.bI (e3 x k)
def f (x:aL)(k:Int):Option Int:=(cond (decide ((e1 x k)<0)) none (cond (decide ((e2 x k)<0)) none (cond (x.jw != (e2 x k)) none (cond (!((x.bp).bw==(Z281.md (i64.wrap ((e2 x k)+1))))) none (cond ((x.bp).bQ != (i64.wrap ((i64.wrap ((e2 x k)+1))+1))) none (cond ((x.bp).cw != (i64.wrap ((i64.wrap ((i64.wrap ((e2 x k)+1))+1))+1))) none (cond (decide ((e3 x k)<0)) none (cond (decide ((e4 x k)<0)) none (cond (x.gP != (e4 x k)) none (some (i64.wrap ((e4 x k)+1))))))))))))
def rX (x:aL)(k k2:Int)(hk:eD k)(h:f x k=some k2):eD k2:=by
 unfold f at h
 have h:=bG h
 have h:=bG h
 have h:=bG h
 have h:=bG h
 have h:=bG h
 have h:=bG h
 have h:=bG h
 have h:=bG h
 have h:=bG h
 injection h with h
 subst h
 exact (bZ _)
def md (a0:List aL)(a1:Int):Int:=iS f a0 a1
def gd (a0:List aL)(a1:Int):Prop:=eD a1
def acc (ls:List L):aB×Int:=((ls.headD .hole).aQ,((aA 1 ls).headD .hole).toInt)
def R:(aB×Int)->Option Int:=RR (p2 gd) (u2 md)
def an {a0 a1}(h:gd a0 a1):R ((a0.map aL.row),a1)=some (md a0 a1):=aP (a:=(a0,a1)) h
def aU:fR:=CN pats res acc R
def bA (a0:List aL)(a1:Int)(hg:gd a0 a1)(h0:a0.length<=maxLen):∃n,start (iter step n) (a0.map aL.row) a1=ret ((md a0 a1):Int):=by
 unfold gd at hg
 show ∃n,iter step n (Pt.p0 (a0.map aL.row) a1 0)=_
 unfold md
 refine ij (f:=f) (xs:=a0) aL.zero eD rX (pt:=fun i k=>Pt.p0 (a0.map aL.row) k (i:Int)) (fun J i k hi hk=>?_) (fun J k=>?_) hg
 ·simp only [step,SS]
  refine ak (aK hi) ?_
  refine ak aI ?_
  refine ak (aK hi) ?_
  refine aZ (e1 (a0.getD i aL.zero) k) (Z291.an (a0:=((a0.getD i aL.zero).bP).aG) (a1:=k) hk) ?_
  refine bH rfl ?_
  refine ak aI ?_
  refine ak (aK hi) ?_
  refine aZ (e2 (a0.getD i aL.zero) k) (Z292.an (a0:=((a0.getD i aL.zero).bP).aW) (a1:=e1 (a0.getD i aL.zero) k) (Z291.iq hk)) ?_
  refine bH rfl ?_
  refine ak aI ?_
  refine ak (aK hi) ?_
  refine bH rfl ?_
  refine ak aI ?_
  refine ak (aK hi) ?_
  refine aZ (Z281.md (i64.wrap ((e2 (a0.getD i aL.zero) k)+1))) (Z281.an (a0:=i64.wrap ((e2 (a0.getD i aL.zero) k)+1)) (bZ _)) ?_
  refine bH rfl ?_
  refine ak aI ?_
  refine ak (aK hi) ?_
  refine bH rfl ?_
  refine ak aI ?_
  refine ak (aK hi) ?_
  refine bH rfl ?_
  refine ak aI ?_
  refine ak (aK hi) ?_
  refine aZ (e3 (a0.getD i aL.zero) k) (Z293.an (a0:=((a0.getD i aL.zero).bp).bK) (a1:=i64.wrap ((i64.wrap ((i64.wrap ((i64.wrap ((e2 (a0.getD i aL.zero) k)+1))+1))+1))+1)) (bZ _)) ?_
  refine bH rfl ?_
  refine ak aI ?_
  refine ak (aK hi) ?_
  refine aZ (e4 (a0.getD i aL.zero) k) (Z288.an (a0:=(a0.getD i aL.zero).bI) (a1:=e3 (a0.getD i aL.zero) k) (Z293.iq (bZ _))) ?_
  refine bH rfl ?_
  refine ak aI ?_
  refine ak (aK hi) ?_
  refine bH rfl ?_
  rw [aH hi h0]
  rfl
 ·simp only [step,SS]
  refine cH (by apply decide_eq_false;omega) ?_
  rfl
def af:cD 26 aU:=VV (run:=fun n x=>start (iter step n) x.1 x.2) mix aE (.cons Z291.af (.cons Z292.af (.cons Z281.af (.cons Z293.af (.cons Z288.af .nil))))) Tryz.func26 (by kernel_rfl) run_eq (fun ls a hl e hg=>bA a.1 a.2 hg (by have h:(ls.headD .hole).aQ.length<=maxLen:=hl.1.len;have e:a.1.map aL.row=(ls.headD .hole).aQ:=(congrArg (fun x=>x.1) e.symm);rw [<-e] at h;simpa using h))
def iq {a0:List aL}{a1:Int}(h:eD a1):eD (md a0 a1):=jL rX kC h
def xq (x:aL)(k:Int)(h0:0<=k)(hb:k+(Z287.cnt x:Int)<=4611686018427387904):f (Z287.el x k).2 k=some (k+Z287.cnt x):=by
 simp only [Z287.cnt,Int.natCast_add] at hb ⊢
 simp (disch:=omega) only [Z287.el,f,Z287.e1,Z287.e2,Z287.e3,Z287.e4,e1,e2,e3,e4,wi,Z278.kk,Z291.mk,Z279.kk,Z292.mk,Z282.kk,Z293.mk,Z275.kk,Z288.mk,bne_self_eq_false,beq_self_eq_true,ff,Bool.not_true,bu,dc]
 all_goals first | done | omega | (congr 1<;>omega)
def mk (a0:List aL)(a1:Int)(h0:0<=a1)(hb:a1+(Z287.sum a0:Int)<=4611686018427387904):md (Z287.md a0 a1).2 a1=a1+Z287.sum a0:=gU Z287.nW xq a0 a1 h0 hb
end Z294
namespace Z295
set_option maxHeartbeats 8000000
def F (x0:bn)(x1:Int):aJ:=(call (Z291.R (x0.aG,x1)) fun v1=>(cond (decide (v1<0)) (ret ((-1):Int)) (call (Z292.R (x0.aW,v1)) fun v2=>(cond (decide (v2<0)) (ret ((-1):Int)) (ret (v2:Int))))))
def e1 (x:aj)(k:Int):=Z291.md x.aG k
def e2 (x:aj)(k:Int):=Z292.md x.aW (e1 x k)
def f (x:aj)(k:Int):Option Int:=(cond (decide ((e1 x k)<0)) none (cond (decide ((e2 x k)<0)) none (some ((e2 x k):Int))))
def md (a0:aj)(a1:Int):Int:=wz (f a0 a1)
def gd (a0:aj)(a1:Int):Prop:=eD a1
def R:=RR (p2 gd) (u2 md)
def an {a0 a1}(h:gd a0 a1):R ((aj.r a0),a1)=some (md a0 a1):=aP (a:=(a0,a1)) h
def aU:=CN [.agg rT,pI] oI RT.dec R
def bA (a0)(a1)(hg:gd a0 a1):F (aj.r a0) a1=ret (md a0 a1):=by
 unfold gd at hg
 simp only [F,SS]
 unfold md
 refine aZ (e1 a0 a1) (Z291.an (a0:=a0.aG) (a1:=a1) hg) ?_
 refine nI rfl ?_
 refine aZ (e2 a0 a1) (Z292.an (a0:=a0.aW) (a1:=e1 a0 a1) (Z291.iq hg)) ?_
 refine nI rfl ?_
 first | rfl | (simp only [SS];rfl)
def af:cD 27 aU:=W2 18 F mix aE bA (.cons Z291.af (.cons Z292.af .nil)) Tryz.func27
def mk (x:aj)(k:Int)(h0:0<=k)(hb:k+(Z280.sum x:Int)<=4611686018427387904):md (Z280.upd x k) k=k+Z280.sum x:=by
 simp only [Z280.sum,Int.natCast_add] at hb ⊢
 simp (disch:=omega) only [Z280.md,Z280.upd,md,f,wz,Z280.e1,Z280.e2,e1,e2,wi,Z278.kk,Z291.mk,Z279.kk,Z292.mk,bu,dc]
 all_goals first | done | omega
end Z295
namespace Z296
def F (x0:bn)(x1 x2 x3:aB)(x4:Int):aJ:=(call (Z9.R (x0,1048576)) fun v1=>(cond (decide (v1<0)) eu (call (Z16.R (x1,v1)) fun v2=>(cond (decide (v2<0)) eu (call (Z18.R (x2,v2)) fun v3=>(cond (decide (v3<0)) eu (call (Z10.R (x3,v3)) fun v4=>(cond (decide (v4<0)) eu (call (Z29.R x0) fun v5=>(call (Z36.R x1) fun v6=>(call (Z38.R x2) fun v7=>(call (Z30.R x3) fun v8=>(call (Z126.R (v5,v6,v7,v8,x4)) fun v9=>(call (Z29.R x0) fun v10=>(call (Z36.R x1) fun v11=>(call (Z38.R x2) fun v12=>(call (Z30.R x3) fun v13=>(call (Z252.R (v10,v11,v12,v13,x4)) fun v14=>(call (Z267.R (v14.1,v9.1)) fun v15=>(cond (!v15) bf (call (Z263.R (v14.2,v9.2)) fun v16=>(cond (!v16) bf (call (Z29.R x0) fun v17=>(call (Z263.R (v10,v17)) fun v18=>(cond (!v18) bf (call (Z36.R x1) fun v19=>(call (Z272.R (v11,v19)) fun v20=>(cond (!v20) bf (call (Z38.R x2) fun v21=>(call (Z274.R (v12,v21)) fun v22=>(cond (!v22) bf (call (Z30.R x3) fun v23=>(call (Z264.R (v13,v23)) fun v24=>(cond (!v24) bf (call (Z280.R (v10,1)) fun v25=>(call (Z285.R (v11,v25.1)) fun v26=>(call (Z286.R (v12,v26.1)) fun v27=>(call (Z282.R (v13,v27.1)) fun v28=>(cond (decide (v28.1<0)) bf (call (Z267.R (v14.1,v9.1)) fun v29=>(cond (!v29) bf (call (Z263.R (v14.2,v9.2)) fun v30=>(cond (!v30) bf (call (Z287.R (v14.1,1)) fun v31=>(call (Z280.R (v14.2,v31.1)) fun v32=>(call (Z294.R (v31.2,1)) fun v33=>(cond (decide (v33<0)) bf (call (Z295.R ((⟨v32.2.1,v32.2.2⟩:bn),v33)) fun v34=>(cond (decide (v34<0)) bf (cond (v34 != v32.1) bf (call (Z29.R x0) fun v35=>(call (Z36.R x1) fun v36=>(call (Z38.R x2) fun v37=>(call (Z30.R x3) fun v38=>(call (Z252.R (v35,v36,v37,v38,x4)) fun v39=>(call (Z267.R (v39.1,v9.1)) fun v40=>(cond (!v40) bf (call (Z263.R (v39.2,v9.2)) fun v41=>(cond (!v41) bf (call (Z294.R (v31.2,1)) fun v42=>(cond (decide (v42<0)) bf (call (Z295.R ((⟨v32.2.1,v32.2.2⟩:bn),v42)) fun v43=>(cond (decide (v43<0)) bf (cond (v43 != v32.1) bf eu))))))))))))))))))))))))))))))))))))))))))))))))))))))))))))))))
def pats:List ga:=[.agg [.sl 122,.sl 132],.rd (.sl 78),.rd (.sl 81),.rd (.sl 9),.rd (.int .i64)]
def res:RP:=.one (.rd (.bool))
def md (a0:aj)(a1:List au)(a2:List bg)(a3:List aD)(a4:Int):Bool:=true
def gd (a0:aj)(a1:List au)(a2:List bg)(a3:List aD)(a4:Int):Prop:=(aj.Sm maxLen a0)/\(bM maxLen (fun y:au=>au.Sm maxLen y) a1)/\(bM maxLen (fun y:bg=>bg.Sm maxLen y) a2)/\(bM maxLen (fun y:aD=>y.size<=maxLen) a3)
def acc (ls:List L):bn×aB×aB×aB×Int:=((bn.dec ls),((aA 2 ls).headD .hole).aQ,((aA 3 ls).headD .hole).aQ,((aA 4 ls).headD .hole).aQ,((aA 5 ls).headD .hole).toInt)
def R:(bn×aB×aB×aB×Int)->Option Bool:=RR (p5 gd) (u5 md)
def an {a0 a1 a2 a3 a4}(h:gd a0 a1 a2 a3 a4):R ((aj.r a0),(a1.map au.row),(a2.map bg.row),(a3.map cG),a4)=some (md a0 a1 a2 a3 a4):=aP (a:=(a0,a1,a2,a3,a4)) h
def aU:fR:=CN pats res acc R
def bA (a0:aj)(a1:List au)(a2:List bg)(a3:List aD)(a4:Int)(hg:gd a0 a1 a2 a3 a4):F (aj.r a0) (a1.map au.row) (a2.map bg.row) (a3.map cG) a4=ret ((md a0 a1 a2 a3 a4):Bool):=by
 unfold md
 show (call (Z9.R ((aj.r a0),1048576)) fun v1=>(bif (decide (v1<0)) then eu else (call (Z16.R ((a1.map au.row),v1)) fun v2=>(bif (decide (v2<0)) then eu else (call (Z18.R ((a2.map bg.row),v2)) fun v3=>(bif (decide (v3<0)) then eu else (call (Z10.R ((a3.map cG),v3)) fun v4=>(bif (decide (v4<0)) then eu else (call (Z29.R (aj.r a0)) fun v5=>(call (Z36.R (a1.map au.row)) fun v6=>(call (Z38.R (a2.map bg.row)) fun v7=>(call (Z30.R (a3.map cG)) fun v8=>(call (Z126.R (v5,v6,v7,v8,a4)) fun v9=>(call (Z29.R (aj.r a0)) fun v10=>(call (Z36.R (a1.map au.row)) fun v11=>(call (Z38.R (a2.map bg.row)) fun v12=>(call (Z30.R (a3.map cG)) fun v13=>(call (Z252.R (v10,v11,v12,v13,a4)) fun v14=>(call (Z267.R (v14.1,v9.1)) fun v15=>(bif (!v15) then bf else (call (Z263.R (v14.2,v9.2)) fun v16=>(bif (!v16) then bf else (call (Z29.R (aj.r a0)) fun v17=>(call (Z263.R (v10,v17)) fun v18=>(bif (!v18) then bf else (call (Z36.R (a1.map au.row)) fun v19=>(call (Z272.R (v11,v19)) fun v20=>(bif (!v20) then bf else (call (Z38.R (a2.map bg.row)) fun v21=>(call (Z274.R (v12,v21)) fun v22=>(bif (!v22) then bf else (call (Z30.R (a3.map cG)) fun v23=>(call (Z264.R (v13,v23)) fun v24=>(bif (!v24) then bf else (call (Z280.R (v10,1)) fun v25=>(call (Z285.R (v11,v25.1)) fun v26=>(call (Z286.R (v12,v26.1)) fun v27=>(call (Z282.R (v13,v27.1)) fun v28=>(bif (decide (v28.1<0)) then bf else (call (Z267.R (v14.1,v9.1)) fun v29=>(bif (!v29) then bf else (call (Z263.R (v14.2,v9.2)) fun v30=>(bif (!v30) then bf else (call (Z287.R (v14.1,1)) fun v31=>(call (Z280.R (v14.2,v31.1)) fun v32=>(call (Z294.R (v31.2,1)) fun v33=>(bif (decide (v33<0)) then bf else (call (Z295.R ((⟨v32.2.1,v32.2.2⟩:bn),v33)) fun v34=>(bif (decide (v34<0)) then bf else (bif (v34 != v32.1) then bf else (call (Z29.R (aj.r a0)) fun v35=>(call (Z36.R (a1.map au.row)) fun v36=>(call (Z38.R (a2.map bg.row)) fun v37=>(call (Z30.R (a3.map cG)) fun v38=>(call (Z252.R (v35,v36,v37,v38,a4)) fun v39=>(call (Z267.R (v39.1,v9.1)) fun v40=>(bif (!v40) then bf else (call (Z263.R (v39.2,v9.2)) fun v41=>(bif (!v41) then bf else (call (Z294.R (v31.2,1)) fun v42=>(bif (decide (v42<0)) then bf else (call (Z295.R ((⟨v32.2.1,v32.2.2⟩:bn),v42)) fun v43=>(cond (decide (v43<0)) bf (cond (v43 != v32.1) bf eu))))))))))))))))))))))))))))))))))))))))))))))))))))))))))))))))=_
 rw [call_eq (Z9.an (a1:=(1048576:Int)) ⟨hg.1,by omega,by omega⟩)]
 unfold Z9.md
 by_cases c0:(1048576:Int)<(((aj.size a0):Nat):Int)
 ·rw [cO c0];rfl
 rw [dm c0,dc (by omega)]
 simp only [bu]
 have s0:aj.Sm (2^20) a0:=(aj.fZ (by omega))
 rw [call_eq (Z16.an (a1:=(1048576 - (((aj.size a0):Nat):Int):Int)) ⟨hg.2.1,by omega,by omega⟩)]
 unfold Z16.md
 by_cases c1:(1048576 - (((aj.size a0):Nat):Int):Int)<(((dJ (fun y:au=>au.size y) a1):Nat):Int)
 ·rw [cO c1];rfl
 rw [dm c1,dc (by omega)]
 simp only [bu]
 have s1:bM (2^20) (fun y:au=>au.Sm (2^20) y) a1:=(iQ (f:=fun y:au=>au.size y) (by omega) (fun x hx=>(au.fZ hx)))
 rw [call_eq (Z18.an (a1:=(1048576 - (((aj.size a0):Nat):Int) - (((dJ (fun y:au=>au.size y) a1):Nat):Int):Int)) ⟨hg.2.2.1,by omega,by omega⟩)]
 unfold Z18.md
 by_cases c2:(1048576 - (((aj.size a0):Nat):Int) - (((dJ (fun y:au=>au.size y) a1):Nat):Int):Int)<(((dJ (fun y:bg=>bg.size y) a2):Nat):Int)
 ·rw [cO c2];rfl
 rw [dm c2,dc (by omega)]
 simp only [bu]
 have s2:bM (2^20) (fun y:bg=>bg.Sm (2^20) y) a2:=(iQ (f:=fun y:bg=>bg.size y) (by omega) (fun x hx=>(bg.fZ hx)))
 rw [call_eq (Z10.an (a1:=(1048576 - (((aj.size a0):Nat):Int) - (((dJ (fun y:au=>au.size y) a1):Nat):Int) - (((dJ (fun y:bg=>bg.size y) a2):Nat):Int):Int)) ⟨hg.2.2.2,by omega,by omega⟩)]
 unfold Z10.md
 by_cases c3:(1048576 - (((aj.size a0):Nat):Int) - (((dJ (fun y:au=>au.size y) a1):Nat):Int) - (((dJ (fun y:bg=>bg.size y) a2):Nat):Int):Int)<(((dJ (fun y:aD=>y.size) a3):Nat):Int)
 ·rw [cO c3];rfl
 rw [dm c3,dc (by omega)]
 simp only [bu]
 have s3:bM (2^20) (fun y:aD=>y.size<=(2^20)) a3:=(iQ (f:=fun y:aD=>y.size) (by omega) (fun x hx=>hx))
 refine aZ (aj.r a0) (Z29.an (a0:=a0) (aj.cQ (by decide) s0)) ?_
 refine aZ (a1.map au.row) (Z36.an (a0:=a1) (s1.mono (by decide) (fun x hx=>(au.cQ (by decide) hx)))) ?_
 refine aZ (a2.map bg.row) (Z38.an (a0:=a2) (s2.mono (by decide) (fun x hx=>(bg.cQ (by decide) hx)))) ?_
 refine aZ (a3.map cG) (Z30.an (a0:=a3) (s3.mono (by decide) (fun x hx=>(le_trans hx (by decide))))) ?_
 refine aZ (((Z126.md a0 a1 a2 a3 a4).1.map aL.row),(aj.r (Z126.md a0 a1 a2 a3 a4).2)) (Z126.an (a0:=a0) (a1:=a1) (a2:=a2) (a3:=a3) (a4:=a4) (by
  have:=And.intro trivial trivial
  unfold Z126.gd
  first | exact (aj.cQ (by decide) s0) | refine ⟨(aj.cQ (by decide) s0),(s1.mono (by decide) (fun x hx=>(au.cQ (by decide) hx))),(s2.mono (by decide) (fun x hx=>(bg.cQ (by decide) hx))),(s3.mono (by decide) (fun x hx=>(le_trans hx (by decide))))⟩)) ?_
 refine aZ (aj.r a0) (Z29.an (a0:=a0) (aj.cQ (by decide) s0)) ?_
 refine aZ (a1.map au.row) (Z36.an (a0:=a1) (s1.mono (by decide) (fun x hx=>(au.cQ (by decide) hx)))) ?_
 refine aZ (a2.map bg.row) (Z38.an (a0:=a2) (s2.mono (by decide) (fun x hx=>(bg.cQ (by decide) hx)))) ?_
 refine aZ (a3.map cG) (Z30.an (a0:=a3) (s3.mono (by decide) (fun x hx=>(le_trans hx (by decide))))) ?_
 have r_:=Z252.an (a0:=a0) (a1:=a1) (a2:=a2) (a3:=a3) (a4:=a4) (by
  have:=And.intro trivial trivial
  unfold Z252.gd
  first | exact (aj.cQ (by decide) s0) | refine ⟨(aj.cQ (by decide) s0),(s1.mono (by decide) (fun x hx=>(au.cQ (by decide) hx))),(s2.mono (by decide) (fun x hx=>(bg.cQ (by decide) hx))),(s3.mono (by decide) (fun x hx=>(le_trans hx (by decide))))⟩)
 rw [Z252.br] at r_
 refine aZ (((Z126.md a0 a1 a2 a3 a4).1.map aL.row),(aj.r (Z126.md a0 a1 a2 a3 a4).2)) r_ ?_
 clear r_
 refine aZ _ (Z267.an (a0:=((Z126.md a0 a1 a2 a3 a4).1)) (a1:=((Z126.md a0 a1 a2 a3 a4).1)) trivial) ?_
 refine cH (by first | (simp only [bne_self_eq_false,beq_self_eq_true,ff,eP,Bool.not_true,Z267.md];done) | (refine bne_eq_false_iff_eq.2 ?_;omega)) ?_
 refine aZ _ (Z263.an (a0:=((Z126.md a0 a1 a2 a3 a4).2)) (a1:=((Z126.md a0 a1 a2 a3 a4).2)) trivial) ?_
 refine cH (by first | (simp only [bne_self_eq_false,beq_self_eq_true,ff,eP,Bool.not_true,Z267.md,Z263.md];done) | (refine bne_eq_false_iff_eq.2 ?_;omega)) ?_
 refine aZ (aj.r a0) (Z29.an (a0:=a0) (aj.cQ (by decide) s0)) ?_
 refine aZ _ (Z263.an (a0:=a0) (a1:=a0) trivial) ?_
 refine cH (by first | (simp only [bne_self_eq_false,beq_self_eq_true,ff,eP,Bool.not_true,Z267.md,Z263.md];done) | (refine bne_eq_false_iff_eq.2 ?_;omega)) ?_
 refine aZ (a1.map au.row) (Z36.an (a0:=a1) (s1.mono (by decide) (fun x hx=>(au.cQ (by decide) hx)))) ?_
 refine aZ _ (Z272.an (a0:=a1) (a1:=a1) trivial) ?_
 refine cH (by first | (simp only [bne_self_eq_false,beq_self_eq_true,ff,eP,Bool.not_true,Z267.md,Z263.md,Z272.md];done) | (refine bne_eq_false_iff_eq.2 ?_;omega)) ?_
 refine aZ (a2.map bg.row) (Z38.an (a0:=a2) (s2.mono (by decide) (fun x hx=>(bg.cQ (by decide) hx)))) ?_
 refine aZ _ (Z274.an (a0:=a2) (a1:=a2) trivial) ?_
 refine cH (by first | (simp only [bne_self_eq_false,beq_self_eq_true,ff,eP,Bool.not_true,Z267.md,Z263.md,Z272.md,Z274.md];done) | (refine bne_eq_false_iff_eq.2 ?_;omega)) ?_
 refine aZ (a3.map cG) (Z30.an (a0:=a3) (s3.mono (by decide) (fun x hx=>(le_trans hx (by decide))))) ?_
 refine aZ _ (Z264.an (a0:=a3) (a1:=a3) trivial) ?_
 refine cH (by first | (simp only [bne_self_eq_false,beq_self_eq_true,ff,eP,Bool.not_true,Z267.md,Z263.md,Z272.md,Z274.md,Z264.md];done) | (refine bne_eq_false_iff_eq.2 ?_;omega)) ?_
 have u1:=Z280.sz a0
 refine aZ ((Z280.md a0 1).1,((Z280.md a0 1).2.1.map (dI aa.row)),((Z280.md a0 1).2.2.map az.row)) (Z280.an (a0:=a0) (a1:=1) iw) ?_
 have k2:=Z280.kk a0 1 (by omega) (by omega)
 have u3:=Z285.sz a1
 refine aZ ((Z285.md a1 ((Z280.md a0 1).1)).1,((Z285.md a1 ((Z280.md a0 1).1)).2.map au.row)) (Z285.an (a0:=a1) (a1:=(Z280.md a0 1).1) (Z280.iq iw)) ?_
 have k4:=Z285.kk a1 ((Z280.md a0 1).1) (by omega) (by omega)
 have u5:=Z286.sz a2
 refine aZ ((Z286.md a2 ((Z285.md a1 ((Z280.md a0 1).1)).1)).1,((Z286.md a2 ((Z285.md a1 ((Z280.md a0 1).1)).1)).2.map bg.row)) (Z286.an (a0:=a2) (a1:=(Z285.md a1 ((Z280.md a0 1).1)).1) (Z285.iq (Z280.iq iw))) ?_
 have k6:=Z286.kk a2 ((Z285.md a1 ((Z280.md a0 1).1)).1) (by omega) (by omega)
 have u7:=Z282.sz a3
 refine aZ ((Z282.md a3 ((Z286.md a2 ((Z285.md a1 ((Z280.md a0 1).1)).1)).1)).1,((Z282.md a3 ((Z286.md a2 ((Z285.md a1 ((Z280.md a0 1).1)).1)).1)).2.map cG)) (Z282.an (a0:=a3) (a1:=(Z286.md a2 ((Z285.md a1 ((Z280.md a0 1).1)).1)).1) (Z286.iq (Z285.iq (Z280.iq iw)))) ?_
 have k8:=Z282.kk a3 ((Z286.md a2 ((Z285.md a1 ((Z280.md a0 1).1)).1)).1) (by omega) (by omega)
 refine cH (dc (by omega)) ?_
 refine aZ _ (Z267.an (a0:=((Z126.md a0 a1 a2 a3 a4).1)) (a1:=((Z126.md a0 a1 a2 a3 a4).1)) trivial) ?_
 refine cH (by first | (simp only [bne_self_eq_false,beq_self_eq_true,ff,eP,Bool.not_true,Z267.md,Z263.md,Z272.md,Z274.md,Z264.md];done) | (refine bne_eq_false_iff_eq.2 ?_;omega)) ?_
 refine aZ _ (Z263.an (a0:=((Z126.md a0 a1 a2 a3 a4).2)) (a1:=((Z126.md a0 a1 a2 a3 a4).2)) trivial) ?_
 refine cH (by first | (simp only [bne_self_eq_false,beq_self_eq_true,ff,eP,Bool.not_true,Z267.md,Z263.md,Z272.md,Z274.md,Z264.md];done) | (refine bne_eq_false_iff_eq.2 ?_;omega)) ?_
 have u9:Z287.sum ((Z126.md a0 a1 a2 a3 a4).1)<=1000000000000000000:=(by
  have h1:=Z287.sz (Z126.md a0 a1 a2 a3 a4).1
  have h2:=Z280.sz (Z126.md a0 a1 a2 a3 a4).2
  have h3:=Z126.sz a0 a1 a2 a3 a4 (by omega) (by omega)
  omega)
 refine aZ ((Z287.md ((Z126.md a0 a1 a2 a3 a4).1) 1).1,((Z287.md ((Z126.md a0 a1 a2 a3 a4).1) 1).2.map aL.row)) (Z287.an (a0:=((Z126.md a0 a1 a2 a3 a4).1)) (a1:=1) iw) ?_
 have k10:=Z287.kk ((Z126.md a0 a1 a2 a3 a4).1) 1 (by omega) (by omega)
 have u11:Z280.sum ((Z126.md a0 a1 a2 a3 a4).2)<=1000000000000000000:=(by
  have h1:=Z287.sz (Z126.md a0 a1 a2 a3 a4).1
  have h2:=Z280.sz (Z126.md a0 a1 a2 a3 a4).2
  have h3:=Z126.sz a0 a1 a2 a3 a4 (by omega) (by omega)
  omega)
 refine aZ ((Z280.md ((Z126.md a0 a1 a2 a3 a4).2) ((Z287.md ((Z126.md a0 a1 a2 a3 a4).1) 1).1)).1,((Z280.md ((Z126.md a0 a1 a2 a3 a4).2) ((Z287.md ((Z126.md a0 a1 a2 a3 a4).1) 1).1)).2.1.map (dI aa.row)),((Z280.md ((Z126.md a0 a1 a2 a3 a4).2) ((Z287.md ((Z126.md a0 a1 a2 a3 a4).1) 1).1)).2.2.map az.row)) (Z280.an (a0:=((Z126.md a0 a1 a2 a3 a4).2)) (a1:=(Z287.md ((Z126.md a0 a1 a2 a3 a4).1) 1).1) (Z287.iq iw)) ?_
 have k12:=Z280.kk ((Z126.md a0 a1 a2 a3 a4).2) ((Z287.md ((Z126.md a0 a1 a2 a3 a4).1) 1).1) (by omega) (by omega)
 refine aZ (Z294.md ((Z287.md ((Z126.md a0 a1 a2 a3 a4).1) 1).2) 1) (Z294.an (a0:=((Z287.md ((Z126.md a0 a1 a2 a3 a4).1) 1).2)) (a1:=1) iw) ?_
 have h13:(Z294.md ((Z287.md ((Z126.md a0 a1 a2 a3 a4).1) 1).2) 1)=1+(Z287.sum ((Z126.md a0 a1 a2 a3 a4).1):Int):=Z294.mk ((Z126.md a0 a1 a2 a3 a4).1) 1 (by omega) (by omega)
 refine cH (dc (by omega)) ?_
 have e14:Z294.md ((Z287.md ((Z126.md a0 a1 a2 a3 a4).1) 1).2) 1=(Z287.md ((Z126.md a0 a1 a2 a3 a4).1) 1).1:=by omega
 refine aZ (Z295.md (⟨(Z280.md ((Z126.md a0 a1 a2 a3 a4).2) ((Z287.md ((Z126.md a0 a1 a2 a3 a4).1) 1).1)).2.1,(Z280.md ((Z126.md a0 a1 a2 a3 a4).2) ((Z287.md ((Z126.md a0 a1 a2 a3 a4).1) 1).1)).2.2⟩:aj) (Z294.md ((Z287.md ((Z126.md a0 a1 a2 a3 a4).1) 1).2) 1)) (Z295.an (a0:=(⟨(Z280.md ((Z126.md a0 a1 a2 a3 a4).2) ((Z287.md ((Z126.md a0 a1 a2 a3 a4).1) 1).1)).2.1,(Z280.md ((Z126.md a0 a1 a2 a3 a4).2) ((Z287.md ((Z126.md a0 a1 a2 a3 a4).1) 1).1)).2.2⟩:aj)) (a1:=Z294.md ((Z287.md ((Z126.md a0 a1 a2 a3 a4).1) 1).2) 1) (by rw [e14];exact (Z287.iq iw))) ?_
 have h15:(Z295.md (⟨(Z280.md ((Z126.md a0 a1 a2 a3 a4).2) ((Z287.md ((Z126.md a0 a1 a2 a3 a4).1) 1).1)).2.1,(Z280.md ((Z126.md a0 a1 a2 a3 a4).2) ((Z287.md ((Z126.md a0 a1 a2 a3 a4).1) 1).1)).2.2⟩:aj) (Z294.md ((Z287.md ((Z126.md a0 a1 a2 a3 a4).1) 1).2) 1))=(Z287.md ((Z126.md a0 a1 a2 a3 a4).1) 1).1+(Z280.sum ((Z126.md a0 a1 a2 a3 a4).2):Int):=by rw [e14];exact Z295.mk ((Z126.md a0 a1 a2 a3 a4).2) ((Z287.md ((Z126.md a0 a1 a2 a3 a4).1) 1).1) (by omega) (by omega)
 refine cH (dc (by omega)) ?_
 refine cH (by first | (simp only [bne_self_eq_false,beq_self_eq_true,ff,eP,Bool.not_true,Z267.md,Z263.md,Z272.md,Z274.md,Z264.md];done) | (refine bne_eq_false_iff_eq.2 ?_;omega)) ?_
 refine aZ (aj.r a0) (Z29.an (a0:=a0) (aj.cQ (by decide) s0)) ?_
 refine aZ (a1.map au.row) (Z36.an (a0:=a1) (s1.mono (by decide) (fun x hx=>(au.cQ (by decide) hx)))) ?_
 refine aZ (a2.map bg.row) (Z38.an (a0:=a2) (s2.mono (by decide) (fun x hx=>(bg.cQ (by decide) hx)))) ?_
 refine aZ (a3.map cG) (Z30.an (a0:=a3) (s3.mono (by decide) (fun x hx=>(le_trans hx (by decide))))) ?_
 have r_:=Z252.an (a0:=a0) (a1:=a1) (a2:=a2) (a3:=a3) (a4:=a4) (by
  have:=And.intro trivial trivial
  unfold Z252.gd
  first | exact (aj.cQ (by decide) s0) | refine ⟨(aj.cQ (by decide) s0),(s1.mono (by decide) (fun x hx=>(au.cQ (by decide) hx))),(s2.mono (by decide) (fun x hx=>(bg.cQ (by decide) hx))),(s3.mono (by decide) (fun x hx=>(le_trans hx (by decide))))⟩)
 rw [Z252.br] at r_
 refine aZ (((Z126.md a0 a1 a2 a3 a4).1.map aL.row),(aj.r (Z126.md a0 a1 a2 a3 a4).2)) r_ ?_
 clear r_
 refine aZ _ (Z267.an (a0:=((Z126.md a0 a1 a2 a3 a4).1)) (a1:=((Z126.md a0 a1 a2 a3 a4).1)) trivial) ?_
 refine cH (by first | (simp only [bne_self_eq_false,beq_self_eq_true,ff,eP,Bool.not_true,Z267.md,Z263.md,Z272.md,Z274.md,Z264.md];done) | (refine bne_eq_false_iff_eq.2 ?_;omega)) ?_
 refine aZ _ (Z263.an (a0:=((Z126.md a0 a1 a2 a3 a4).2)) (a1:=((Z126.md a0 a1 a2 a3 a4).2)) trivial) ?_
 refine cH (by first | (simp only [bne_self_eq_false,beq_self_eq_true,ff,eP,Bool.not_true,Z267.md,Z263.md,Z272.md,Z274.md,Z264.md];done) | (refine bne_eq_false_iff_eq.2 ?_;omega)) ?_
 refine aZ (Z294.md ((Z287.md ((Z126.md a0 a1 a2 a3 a4).1) 1).2) 1) (Z294.an (a0:=((Z287.md ((Z126.md a0 a1 a2 a3 a4).1) 1).2)) (a1:=1) iw) ?_
 have h16:(Z294.md ((Z287.md ((Z126.md a0 a1 a2 a3 a4).1) 1).2) 1)=1+(Z287.sum ((Z126.md a0 a1 a2 a3 a4).1):Int):=Z294.mk ((Z126.md a0 a1 a2 a3 a4).1) 1 (by omega) (by omega)
 refine cH (dc (by omega)) ?_
 have e17:Z294.md ((Z287.md ((Z126.md a0 a1 a2 a3 a4).1) 1).2) 1=(Z287.md ((Z126.md a0 a1 a2 a3 a4).1) 1).1:=by omega
 refine aZ (Z295.md (⟨(Z280.md ((Z126.md a0 a1 a2 a3 a4).2) ((Z287.md ((Z126.md a0 a1 a2 a3 a4).1) 1).1)).2.1,(Z280.md ((Z126.md a0 a1 a2 a3 a4).2) ((Z287.md ((Z126.md a0 a1 a2 a3 a4).1) 1).1)).2.2⟩:aj) (Z294.md ((Z287.md ((Z126.md a0 a1 a2 a3 a4).1) 1).2) 1)) (Z295.an (a0:=(⟨(Z280.md ((Z126.md a0 a1 a2 a3 a4).2) ((Z287.md ((Z126.md a0 a1 a2 a3 a4).1) 1).1)).2.1,(Z280.md ((Z126.md a0 a1 a2 a3 a4).2) ((Z287.md ((Z126.md a0 a1 a2 a3 a4).1) 1).1)).2.2⟩:aj)) (a1:=Z294.md ((Z287.md ((Z126.md a0 a1 a2 a3 a4).1) 1).2) 1) (by rw [e17];exact (Z287.iq iw))) ?_
 have h18:(Z295.md (⟨(Z280.md ((Z126.md a0 a1 a2 a3 a4).2) ((Z287.md ((Z126.md a0 a1 a2 a3 a4).1) 1).1)).2.1,(Z280.md ((Z126.md a0 a1 a2 a3 a4).2) ((Z287.md ((Z126.md a0 a1 a2 a3 a4).1) 1).1)).2.2⟩:aj) (Z294.md ((Z287.md ((Z126.md a0 a1 a2 a3 a4).1) 1).2) 1))=(Z287.md ((Z126.md a0 a1 a2 a3 a4).1) 1).1+(Z280.sum ((Z126.md a0 a1 a2 a3 a4).2):Int):=by rw [e17];exact Z295.mk ((Z126.md a0 a1 a2 a3 a4).2) ((Z287.md ((Z126.md a0 a1 a2 a3 a4).1) 1).1) (by omega) (by omega)
 refine cH (dc (by omega)) ?_
 refine cH (by first | (simp only [bne_self_eq_false,beq_self_eq_true,ff,eP,Bool.not_true,Z267.md,Z263.md,Z272.md,Z274.md,Z264.md];done) | (refine bne_eq_false_iff_eq.2 ?_;omega)) ?_
 rfl
def af:cD 3 aU:=VS (live:=fun _=>[]) (nt:=186) (run:=fun _ x=>F x.1 x.2.1 x.2.2.1 x.2.2.2.1 x.2.2.2.2) mix aE (.cons Z9.af (.cons Z16.af (.cons Z18.af (.cons Z10.af (.cons Z29.af (.cons Z36.af (.cons Z38.af (.cons Z30.af (.cons Z126.af (.cons Z252.af (.cons Z267.af (.cons Z263.af (.cons Z272.af (.cons Z274.af (.cons Z264.af (.cons Z294.af (.cons Z295.af .nil))))))))))))))))) (.cons Z280.af (.cons Z285.af (.cons Z286.af (.cons Z282.af (.cons Z287.af .nil))))) Tryz.func3 (by kernel_rfl) (fun _ _=>by kernel_rfl) (fun _ a _ _ hg=>⟨0,bA a.1 a.2.1 a.2.2.1 a.2.2.2.1 a.2.2.2.2 hg⟩)
def kS (r:List L)(h:eg Ev.cells [.sl 3,aC] r):∃x:aO,aO.row x=r/\aO.Sm maxLen x:=by
 obtain ⟨l0,t0,rfl,g0,h1⟩:=h.dX
 obtain ⟨x0,rfl,s0⟩:=gN (show Ev.cells 3=[aC] from by kernel_rfl) zh g0
 obtain ⟨l1,t1,rfl,g1,h2⟩:=h1.dX
 obtain ⟨x1,rfl⟩:=gk g1
 obtain rfl:=h2.jK
 exact ⟨⟨x0,x1⟩,rfl,s0⟩
def vc (r:List L)(h:eg Ev.cells [aC,aC,aC,aC,aC,aC,aC,aC,.sl 3,aC,.sl 3,aC,aC,.sl 3,aC,.bool] r):∃x:aF,aF.row x=r/\aF.Sm maxLen x:=by
 obtain ⟨l0,t0,rfl,g0,h1⟩:=h.dX
 obtain ⟨x0,rfl⟩:=gk g0
 obtain ⟨l1,t1,rfl,g1,h2⟩:=h1.dX
 obtain ⟨x1,rfl⟩:=gk g1
 obtain ⟨l2,t2,rfl,g2,h3⟩:=h2.dX
 obtain ⟨x2,rfl⟩:=gk g2
 obtain ⟨l3,t3,rfl,g3,h4⟩:=h3.dX
 obtain ⟨x3,rfl⟩:=gk g3
 obtain ⟨l4,t4,rfl,g4,h5⟩:=h4.dX
 obtain ⟨x4,rfl⟩:=gk g4
 obtain ⟨l5,t5,rfl,g5,h6⟩:=h5.dX
 obtain ⟨x5,rfl⟩:=gk g5
 obtain ⟨l6,t6,rfl,g6,h7⟩:=h6.dX
 obtain ⟨x6,rfl⟩:=gk g6
 obtain ⟨l7,t7,rfl,g7,h8⟩:=h7.dX
 obtain ⟨x7,rfl⟩:=gk g7
 obtain ⟨r8,t8,rfl,g8,h9⟩:=eg.nO (a:=[.sl 3,aC]) (b:=[.sl 3,aC,aC,.sl 3,aC,.bool]) h8
 obtain ⟨x8,rfl,s8⟩:=kS _ g8
 obtain ⟨r9,t9,rfl,g9,h10⟩:=eg.nO (a:=[.sl 3,aC]) (b:=[aC,.sl 3,aC,.bool]) h9
 obtain ⟨x9,rfl,s9⟩:=kS _ g9
 obtain ⟨l10,t10,rfl,g10,h11⟩:=h10.dX
 obtain ⟨x10,rfl⟩:=gk g10
 obtain ⟨r11,t11,rfl,g11,h12⟩:=eg.nO (a:=[.sl 3,aC]) (b:=[.bool]) h11
 obtain ⟨x11,rfl,s11⟩:=kS _ g11
 obtain ⟨l12,t12,rfl,g12,h13⟩:=h12.dX
 obtain ⟨x12,rfl⟩:=zH g12
 obtain rfl:=h13.jK
 exact ⟨⟨x0,x1,x2,x3,x4,x5,x6,x7,x8,x9,x10,x11,x12⟩,rfl,⟨s8,s9,s11⟩⟩
def vR (r:List L)(h:eg Ev.cells [aC,aC] r):∃x:bt,bt.row x=r/\bt.Sm maxLen x:=by
 obtain ⟨l0,t0,rfl,g0,h1⟩:=h.dX
 obtain ⟨x0,rfl⟩:=gk g0
 obtain ⟨l1,t1,rfl,g1,h2⟩:=h1.dX
 obtain ⟨x1,rfl⟩:=gk g1
 obtain rfl:=h2.jK
 exact ⟨⟨x0,x1⟩,rfl,trivial⟩
def gF (r:List L)(h:eg Ev.cells [aC,aC,aC,aC,aC,aC,aC,aC,.sl 3,aC,.sl 3,aC,aC,.sl 3,aC,.bool,.sl 238] r):∃x:aa,aa.row x=r/\aa.Sm maxLen x:=by
 obtain ⟨r0,t0,rfl,g0,h1⟩:=eg.nO (a:=[aC,aC,aC,aC,aC,aC,aC,aC,.sl 3,aC,.sl 3,aC,aC,.sl 3,aC,.bool]) (b:=[.sl 238]) h
 obtain ⟨x0,rfl,s0⟩:=vc _ g0
 obtain ⟨l1,t1,rfl,g1,h2⟩:=h1.dX
 obtain ⟨x1,rfl,s1⟩:=gN (show Ev.cells 238=[aC,aC] from by kernel_rfl) vR g1
 obtain rfl:=h2.jK
 exact ⟨⟨x0,x1⟩,rfl,⟨s0,s1⟩⟩
def vh (r:List L)(h:eg Ev.cells [aC,aC,aC,aC,aC,aC,aC,aC,.sl 3,aC,.sl 3,aC,aC,.sl 3,aC,.bool,.sl 238,aC,aC,aC,aC,aC,aC,aC,aC,.sl 3,aC,.sl 3,aC,aC,.sl 3,aC,.bool,.sl 238,aC,aC,aC,aC,aC,aC,aC,aC,.sl 3,aC,.sl 3,aC,aC,.sl 3,aC,.bool,.sl 238] r):∃x:az,az.row x=r/\az.Sm maxLen x:=by
 obtain ⟨r0,t0,rfl,g0,h1⟩:=eg.nO (a:=[aC,aC,aC,aC,aC,aC,aC,aC,.sl 3,aC,.sl 3,aC,aC,.sl 3,aC,.bool,.sl 238]) (b:=[aC,aC,aC,aC,aC,aC,aC,aC,.sl 3,aC,.sl 3,aC,aC,.sl 3,aC,.bool,.sl 238,aC,aC,aC,aC,aC,aC,aC,aC,.sl 3,aC,.sl 3,aC,aC,.sl 3,aC,.bool,.sl 238]) h
 obtain ⟨x0,rfl,s0⟩:=gF _ g0
 obtain ⟨r1,t1,rfl,g1,h2⟩:=eg.nO (a:=[aC,aC,aC,aC,aC,aC,aC,aC,.sl 3,aC,.sl 3,aC,aC,.sl 3,aC,.bool,.sl 238]) (b:=[aC,aC,aC,aC,aC,aC,aC,aC,.sl 3,aC,.sl 3,aC,aC,.sl 3,aC,.bool,.sl 238]) h1
 obtain ⟨x1,rfl,s1⟩:=gF _ g1
 obtain ⟨r2,t2,rfl,g2,h3⟩:=eg.nO (a:=[aC,aC,aC,aC,aC,aC,aC,aC,.sl 3,aC,.sl 3,aC,aC,.sl 3,aC,.bool,.sl 238]) (b:=[]) h2
 obtain ⟨x2,rfl,s2⟩:=gF _ g2
 obtain rfl:=h3.jK
 exact ⟨⟨x0,x1,x2⟩,rfl,⟨s0,s1,s2⟩⟩
def tT (r:List L)(h:eg Ev.cells [.sl 122,.sl 132] r):∃x:aj,aj.row x=r/\aj.Sm maxLen x:=by
 obtain ⟨l0,t0,rfl,g0,h1⟩:=h.dX
 obtain ⟨x0,rfl,s0⟩:=gN (show Ev.cells 122=[.sl 130] from by kernel_rfl) (zB (show Ev.cells 130=[aC,aC,aC,aC,aC,aC,aC,aC,.sl 3,aC,.sl 3,aC,aC,.sl 3,aC,.bool,.sl 238] from by kernel_rfl) gF) g0
 obtain ⟨l1,t1,rfl,g1,h2⟩:=h1.dX
 obtain ⟨x1,rfl,s1⟩:=gN (show Ev.cells 132=[aC,aC,aC,aC,aC,aC,aC,aC,.sl 3,aC,.sl 3,aC,aC,.sl 3,aC,.bool,.sl 238,aC,aC,aC,aC,aC,aC,aC,aC,.sl 3,aC,.sl 3,aC,aC,.sl 3,aC,.bool,.sl 238,aC,aC,aC,aC,aC,aC,aC,aC,.sl 3,aC,.sl 3,aC,aC,.sl 3,aC,.bool,.sl 238] from by kernel_rfl) vh g1
 obtain rfl:=h2.jK
 exact ⟨⟨x0,x1⟩,rfl,⟨s0,s1⟩⟩
def sI (r:List L)(h:eg Ev.cells [.str,aC,aC,.sl 9] r):∃x:ah,ah.row x=r/\ah.Sm maxLen x:=by
 obtain ⟨l0,t0,rfl,g0,h1⟩:=h.dX
 obtain ⟨x0,rfl,s0⟩:=vS g0
 obtain ⟨l1,t1,rfl,g1,h2⟩:=h1.dX
 obtain ⟨x1,rfl⟩:=gk g1
 obtain ⟨l2,t2,rfl,g2,h3⟩:=h2.dX
 obtain ⟨x2,rfl⟩:=gk g2
 obtain ⟨l3,t3,rfl,g3,h4⟩:=h3.dX
 obtain ⟨x3,rfl,s3⟩:=gN (show Ev.cells 9=[.str] from by kernel_rfl) wm g3
 obtain rfl:=h4.jK
 exact ⟨⟨x0,x1,x2,x3⟩,rfl,⟨s0,s3⟩⟩
def uV (r:List L)(h:eg Ev.cells [.sl 130,.sl 235] r):∃x:aM,aM.row x=r/\aM.Sm maxLen x:=by
 obtain ⟨l0,t0,rfl,g0,h1⟩:=h.dX
 obtain ⟨x0,rfl,s0⟩:=gN (show Ev.cells 130=[aC,aC,aC,aC,aC,aC,aC,aC,.sl 3,aC,.sl 3,aC,aC,.sl 3,aC,.bool,.sl 238] from by kernel_rfl) gF g0
 obtain ⟨l1,t1,rfl,g1,h2⟩:=h1.dX
 obtain ⟨x1,rfl,s1⟩:=gN (show Ev.cells 235=[.str,aC,aC,.sl 9] from by kernel_rfl) sI g1
 obtain rfl:=h2.jK
 exact ⟨⟨x0,x1⟩,rfl,⟨s0,s1⟩⟩
def sO (r:List L)(h:eg Ev.cells [.sl 183,aC] r):∃x:au,au.row x=r/\au.Sm maxLen x:=by
 obtain ⟨l0,t0,rfl,g0,h1⟩:=h.dX
 obtain ⟨x0,rfl,s0⟩:=gN (show Ev.cells 183=[.sl 130,.sl 235] from by kernel_rfl) uV g0
 obtain ⟨l1,t1,rfl,g1,h2⟩:=h1.dX
 obtain ⟨x1,rfl⟩:=gk g1
 obtain rfl:=h2.jK
 exact ⟨⟨x0,x1⟩,rfl,s0⟩
def vA (r:List L)(h:eg Ev.cells [.str,aC] r):∃x:bg,bg.row x=r/\bg.Sm maxLen x:=by
 obtain ⟨l0,t0,rfl,g0,h1⟩:=h.dX
 obtain ⟨x0,rfl,s0⟩:=vS g0
 obtain ⟨l1,t1,rfl,g1,h2⟩:=h1.dX
 obtain ⟨x1,rfl⟩:=gk g1
 obtain rfl:=h2.jK
 exact ⟨⟨x0,x1⟩,rfl,s0⟩
def holds (ls:List L)(h:eg Ev.cells ([25,26,27,28,3].flatMap Ev.cells) ls):aU.sem ls=some [.bool true]:=by
 have hk:[25,26,27,28,3].flatMap Ev.cells=[.sl 122,.sl 132,.sl 78,.sl 81,.sl 9,aC]:=by kernel_rfl
 rw [hk] at h
 obtain ⟨r0,t0,rfl,g0,h1⟩:=eg.nO (a:=[.sl 122,.sl 132]) (b:=[.sl 78,.sl 81,.sl 9,aC]) h
 obtain ⟨x0,rfl,s0⟩:=tT _ g0
 obtain ⟨l1,t1,rfl,g1,h2⟩:=h1.dX
 obtain ⟨x1,rfl,s1⟩:=gN (show Ev.cells 78=[.sl 183,aC] from by kernel_rfl) sO g1
 obtain ⟨l2,t2,rfl,g2,h3⟩:=h2.dX
 obtain ⟨x2,rfl,s2⟩:=gN (show Ev.cells 81=[.str,aC] from by kernel_rfl) vA g2
 obtain ⟨l3,t3,rfl,g3,h4⟩:=h3.dX
 obtain ⟨x3,rfl,s3⟩:=gN (show Ev.cells 9=[.str] from by kernel_rfl) wm g3
 obtain ⟨l4,t4,rfl,g4,h5⟩:=h4.dX
 obtain ⟨x4,rfl⟩:=gk g4
 obtain rfl:=h5.jK
 show (R ((aj.r x0),(x1.map au.row),(x2.map bg.row),(x3.map cG),x4)).map RT.enc=_
 rw [an ⟨s0,s1,s2,s3⟩]
 rfl
end Z296
end Go.DM
end
