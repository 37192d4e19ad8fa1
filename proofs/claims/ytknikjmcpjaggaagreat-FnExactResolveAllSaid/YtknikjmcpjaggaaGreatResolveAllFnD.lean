/- What the functions compute that the law reaches, and that the law returns true. Conditions: none. -/
import Derived.Test.YtknikjmcpjaggaaGreatResolveAllTy
import Derived.Test.YtknikjmcpjaggaaGreatResolveAllFnC
set_option linter.all false
set_option maxRecDepth 100000
noncomputable section
namespace Go.DM
open Go.Proofs
open Go.IntKind (i64)
open Int (toNat)
open Nat (le_trans zero_le)
abbrev Q (b:Int):Bool:=Nat.beq (toNat b) (toNat b)&&true
namespace Z277
set_option maxHeartbeats 8000000
inductive Pt where
 | p0 (a b:Int) (c:aD)
def pid:Pt->Nat
 | .p0 ..=>2
def cg:Pt->List V
 | .p0 a b c=>[.own 0,.int .i64 a,.int .i64 b]
def bZ:Pt->List aZ
 | .p0 a b c=>[.row 123 c]
def step (J:Pt->aK):Pt->aK
 | .p0 a b c=>(cond (decide (b<(c.length:Int))) (m2 b (c.length:Int) (m2 b (c.length:Int) (cm (Q b) (m2 b (c.length:Int) (cm (Q b) (m2 b (c.length:Int) (cm (Q b) (m2 b (c.length:Int) (cm (Q b) (m2 b (c.length:Int) (cm (Q b) (m2 b (c.length:Int) (cm (Q b) (m2 b (c.length:Int) (cm (Q b) (m2 b (c.length:Int) (cm (Q b) (cm (Q b) (call (Z275.R ((aT.at c (toNat b)).au.bQ.aX,(i64.wrap ((i64.wrap ((i64.wrap ((i64.wrap ((i64.wrap ((i64.wrap ((i64.wrap ((i64.wrap (a+1))+1))+1))+1))+1))+1))+1))+1)))) fun v1=>(m2 b (c.length:Int) (cm (Q b) (m2 b (c.length:Int) (cm (Q b) (cm (Q b) (call (Z275.R ((aT.at c (toNat b)).au.bE.aX,(i64.wrap (v1.1+1)))) fun v2=>(m2 b (c.length:Int) (cm (Q b) (m2 b (c.length:Int) (cm (Q b) (m2 b (c.length:Int) (cm (Q b) (cm (Q b) (call (Z275.R ((aT.at c (toNat b)).au.bC.aX,(i64.wrap ((i64.wrap (v2.1+1))+1)))) fun v3=>(m2 b (c.length:Int) (cm (Q b) (m2 b (c.length:Int) (cm (Q b) (m2 b (c.length:Int) (cm (Q b) (cm (Q b) (call (Z276.R ((aT.at c (toNat b)).cw,(i64.wrap ((i64.wrap (v3.1+1))+1)))) fun v4=>J (.p0 v4.1 (i64.wrap (b+1)) (List.set c (toNat b) (aT.enc (⟨(⟨a,(i64.wrap (a+1)),(i64.wrap ((i64.wrap (a+1))+1)),(i64.wrap ((i64.wrap ((i64.wrap (a+1))+1))+1)),(i64.wrap ((i64.wrap ((i64.wrap ((i64.wrap (a+1))+1))+1))+1)),(i64.wrap ((i64.wrap ((i64.wrap ((i64.wrap ((i64.wrap (a+1))+1))+1))+1))+1)),(i64.wrap ((i64.wrap ((i64.wrap ((i64.wrap ((i64.wrap ((i64.wrap (a+1))+1))+1))+1))+1))+1)),(i64.wrap ((i64.wrap ((i64.wrap ((i64.wrap ((i64.wrap ((i64.wrap ((i64.wrap (a+1))+1))+1))+1))+1))+1))+1)),(⟨v1.2,v1.1⟩:bF),(⟨v2.2,v2.1⟩:bF),(i64.wrap (v2.1+1)),(⟨v3.2,v3.1⟩:bF),((Int.tmod (i64.wrap (v3.1+1)) 3)==0)⟩:ck),v4.2⟩:aT))))))))))))))))))))))))))))))))))))))))))))) (ret ((a,c):Int×aD)))
def start (J:Pt->aK)(x0:aD)(x1:Int):aK:=J (.p0 x1 0 x0)
def live:Nat->Live:=fun i=>match i with | 2=>[(0,none),(1,none),(5,none)] | _=>[]
def pats:List (Bool×List K):=[(false,[.sl 123]),(false,[aC])]
def res:RP:=.oA [123]
abbrev E:Env:={ T:=assoc kB,G:=dD [],nt:=156,M:=fT [(179,Z275.aW),(332,Z276.aW)],np:=1,mt:=true }
def step_eq (I:cD)(p:Pt):cV E live I (pid p) (bN Tryz.f331) (fD (live (pid p)) (cg p) (bZ p)) (cE E Tryz.f331 res)=step (fun q=>I (pid q) (cg q) (bZ q)) p:=by
 cases p<;>kernel_rfl
def start_eq (I:cD)(ls:List L):eT E live I (bN Tryz.f331) (gm pats ls) (cE E Tryz.f331 res)=start (fun q=>I (pid q) (cg q) (bZ q)) (ls.headD .hole).aQ ((aA 1 ls).headD .hole).toInt:=by kernel_rfl
def run_eq (n:Nat)(ls:List L):eN E live Tryz.f331 res n (gm pats ls)=start (iter step n) (ls.headD .hole).aQ ((aA 1 ls).headD .hole).toInt:=cy (id:=pid) (vs:=cg) (hs:=bZ) (step:=step) (start:=fun J=>start J (ls.headD .hole).aQ ((aA 1 ls).headD .hole).toInt) step_eq (fun I=>start_eq I ls) n
def e1 (x:aa)(k:Int):=Z275.md (((x.au).bQ).aX) (i64.wrap ((i64.wrap ((i64.wrap ((i64.wrap ((i64.wrap ((i64.wrap ((i64.wrap ((i64.wrap (k+1))+1))+1))+1))+1))+1))+1))+1))
def e2 (x:aa)(k:Int):=Z275.md (((x.au).bE).aX) (i64.wrap ((e1 x k).1+1))
def e3 (x:aa)(k:Int):=Z275.md (((x.au).bC).aX) (i64.wrap ((i64.wrap ((e2 x k).1+1))+1))
def e4 (x:aa)(k:Int):=Z276.md x.cw (i64.wrap ((i64.wrap ((e3 x k).1+1))+1))
def el (x:aa)(k:Int):Int×aa:=((e4 x k).1,(⟨(⟨k,(i64.wrap (k+1)),(i64.wrap ((i64.wrap (k+1))+1)),(i64.wrap ((i64.wrap ((i64.wrap (k+1))+1))+1)),(i64.wrap ((i64.wrap ((i64.wrap ((i64.wrap (k+1))+1))+1))+1)),(i64.wrap ((i64.wrap ((i64.wrap ((i64.wrap ((i64.wrap (k+1))+1))+1))+1))+1)),(i64.wrap ((i64.wrap ((i64.wrap ((i64.wrap ((i64.wrap ((i64.wrap (k+1))+1))+1))+1))+1))+1)),(i64.wrap ((i64.wrap ((i64.wrap ((i64.wrap ((i64.wrap ((i64.wrap ((i64.wrap (k+1))+1))+1))+1))+1))+1))+1)),(⟨(e1 x k).2,(e1 x k).1⟩:aO),(⟨(e2 x k).2,(e2 x k).1⟩:aO),(i64.wrap ((e2 x k).1+1)),(⟨(e3 x k).2,(e3 x k).1⟩:aO),((Int.tmod (i64.wrap ((e3 x k).1+1)) 3)==0)⟩:aG),(e4 x k).2⟩:aa))
def gT (x:aa)(k:Int)(hk:eL k):eL (el x k).1:=(Z276.iq (cj _))
def cnt (x:aa):Nat:=13+Z275.sum (((x.au).bQ).aX)+Z275.sum (((x.au).bE).aX)+Z275.sum (((x.au).bC).aX)+Z276.sum x.cw
def sum (a:List aa):Nat:=(a.map cnt).sum
def md (a0:List aa)(a1:Int):Int×List aa:=jq el a0 a1
def gd (a0:List aa)(a1:Int):Prop:=eL a1
def acc (ls:List L):aD×Int:=((ls.headD .hole).aQ,((aA 1 ls).headD .hole).toInt)
def R:(aD×Int)->Option (Int×aD):=RR (p2 gd) (u2 md)
def aq {a0 a1}(h:gd a0 a1):R ((a0.map aa.row),a1)=some ((md a0 a1).1,((md a0 a1).2.map aa.row)):=aR (a:=(a0,a1)) h
def aW:gP:=MN pats acc R
def bB (a0:List aa)(a1:Int)(hg:gd a0 a1)(h0:a0.length<=maxLen):∃n,start (iter step n) (a0.map aa.row) a1=ret (((md a0 a1).1,((md a0 a1).2.map aa.row)):Int×aD):=by
 unfold gd at hg
 show ∃n,iter step n (Pt.p0 a1 0 (a0.map aa.row))=_
 unfold md
 refine fY (el:=el) (xs:=a0) aa.zero eL gT (pt:=fun i k c=>Pt.p0 k (i:Int) (c.map aa.row)) (out:=fun b=>ret (b.1,b.2.map aa.row)) (fun J i k c hi hc hk=>?_) (fun J k c hc=>?_) hg
 ·have hm:c.length<=maxLen:=hc ▸ h0
  simp only [step,SS]
  refine ak (aL hi) ?_
  repeat first | refine ak aJ ?_ | refine ak (aL hi) ?_ | refine ak (gh _) ?_
  refine bg ((e1 (c.getD i aa.zero) k).1,((e1 (c.getD i aa.zero) k).2.map bu)) (Z275.aq (a0:=(((c.getD i aa.zero).au).bQ).aX) (a1:=i64.wrap ((i64.wrap ((i64.wrap ((i64.wrap ((i64.wrap ((i64.wrap ((i64.wrap ((i64.wrap (k+1))+1))+1))+1))+1))+1))+1))+1)) (cj _)) ?_
  repeat first | refine ak aJ ?_ | refine ak (aL hi) ?_ | refine ak (gh _) ?_
  refine bg ((e2 (c.getD i aa.zero) k).1,((e2 (c.getD i aa.zero) k).2.map bu)) (Z275.aq (a0:=(((c.getD i aa.zero).au).bE).aX) (a1:=i64.wrap ((e1 (c.getD i aa.zero) k).1+1)) (cj _)) ?_
  repeat first | refine ak aJ ?_ | refine ak (aL hi) ?_ | refine ak (gh _) ?_
  refine bg ((e3 (c.getD i aa.zero) k).1,((e3 (c.getD i aa.zero) k).2.map bu)) (Z275.aq (a0:=(((c.getD i aa.zero).au).bC).aX) (a1:=i64.wrap ((i64.wrap ((e2 (c.getD i aa.zero) k).1+1))+1)) (cj _)) ?_
  repeat first | refine ak aJ ?_ | refine ak (aL hi) ?_ | refine ak (gh _) ?_
  refine bg ((e4 (c.getD i aa.zero) k).1,((e4 (c.getD i aa.zero) k).2.map bw.row)) (Z276.aq (a0:=(c.getD i aa.zero).cw) (a1:=i64.wrap ((i64.wrap ((e3 (c.getD i aa.zero) k).1+1))+1)) (cj _)) ?_
  rw [aI hi hm]
  exact congrArg (fun q=>J (Pt.p0 (el (c.getD i aa.zero) k).1 ((i+1:Nat):Int) q)) (List.map_set (f:=aa.row) (l:=c) (i:=i) (a:=(el (c.getD i aa.zero) k).2)).symm
 ·simp only [step,SS]
  refine cM (by apply decide_eq_false;omega) ?_
  rfl
def af:fm Tryz.prog Ev 331 aW:=MV (run:=fun n x=>start (iter step n) x.1 x.2) mix aF .nil (.cons Z275.af (.cons Z276.af .nil)) Tryz.func331 (by kernel_rfl) run_eq (fun ls a hl e hg=>bB a.1 a.2 hg (by have h:(ls.headD .hole).aQ.length<=maxLen:=(hl _ _ (.head _)).len;have e:a.1.map aa.row=(ls.headD .hole).aQ:=(congrArg (fun x=>x.1) e.symm);rw [<-e] at h;simpa using h))
def iq {a0:List aa}{a1:Int}(h:eL a1):eL (md a0 a1).1:=jl gT h
def oC (x:aa)(k:Int)(h0:0<=k)(hb:k+(cnt x:Int)<=4611686018427387904):(el x k).1=k+cnt x:=by
 simp only [cnt,Int.natCast_add] at hb ⊢
 simp (disch:=omega) only [el,e1,e2,e3,e4,wi,Z275.kk,Z276.kk]
 all_goals first | done | omega
def kk (a0:List aa)(a1:Int)(h0:0<=a1)(hb:a1+(sum a0:Int)<=4611686018427387904):(md a0 a1).1=a1+sum a0:=gq oC a0 a1 h0 hb
def sz (a:List aa):sum a<=60*(dP (fun y:aa=>aa.size y) a):=jo (fun x=>by
 have:=Z275.sz (((x.au).bQ).aX)
 have:=Z275.sz (((x.au).bE).aX)
 have:=Z275.sz (((x.au).bC).aX)
 have:=Z276.sz x.cw
 try simp only [cnt,aa.size,aG.size,aO.size] at *
 omega) a
end Z277
namespace Z278
set_option maxHeartbeats 8000000
inductive Pt where
 | p0 (a b:Int) (c:aD)
def pid:Pt->Nat
 | .p0 ..=>2
def cg:Pt->List V
 | .p0 a b c=>[.own 0,.int .i64 a,.int .i64 b]
def bZ:Pt->List aZ
 | .p0 a b c=>[.row 92 c]
def step (J:Pt->aK):Pt->aK
 | .p0 a b c=>(cond (decide (b<(c.length:Int))) (m2 b (c.length:Int) (call (Z277.R ((oT c (toNat b)),a)) fun v1=>J (.p0 v1.1 (i64.wrap (b+1)) (List.set c (toNat b) [L.sl v1.2])))) (ret ((a,c):Int×aD)))
def start (J:Pt->aK)(x0:aD)(x1:Int):aK:=J (.p0 x1 0 x0)
def live:Nat->Live:=fun i=>match i with | 2=>[(0,none),(1,none),(5,none)] | _=>[]
def pats:List (Bool×List K):=[(false,[.sl 92]),(false,[aC])]
def res:RP:=.oA [92]
abbrev E:Env:={ T:=assoc kB,G:=dD [],nt:=19,M:=fT [(331,Z277.aW)],np:=1,mt:=true }
def step_eq (I:cD)(p:Pt):cV E live I (pid p) (bN Tryz.f175) (fD (live (pid p)) (cg p) (bZ p)) (cE E Tryz.f175 res)=step (fun q=>I (pid q) (cg q) (bZ q)) p:=by
 cases p<;>kernel_rfl
def start_eq (I:cD)(ls:List L):eT E live I (bN Tryz.f175) (gm pats ls) (cE E Tryz.f175 res)=start (fun q=>I (pid q) (cg q) (bZ q)) (ls.headD .hole).aQ ((aA 1 ls).headD .hole).toInt:=by kernel_rfl
def run_eq (n:Nat)(ls:List L):eN E live Tryz.f175 res n (gm pats ls)=start (iter step n) (ls.headD .hole).aQ ((aA 1 ls).headD .hole).toInt:=cy (id:=pid) (vs:=cg) (hs:=bZ) (step:=step) (start:=fun J=>start J (ls.headD .hole).aQ ((aA 1 ls).headD .hole).toInt) step_eq (fun I=>start_eq I ls) n
def e1 (x:List aa)(k:Int):=Z277.md x k
def el (x:List aa)(k:Int):Int×(List aa):=((e1 x k).1,((e1 x k).2))
def gT (x:List aa)(k:Int)(hk:eL k):eL (el x k).1:=(Z277.iq hk)
def cnt (x:List aa):Nat:=0+Z277.sum x
def sum (a:List (List aa)):Nat:=(a.map cnt).sum
def md (a0:List (List aa))(a1:Int):Int×List (List aa):=jq el a0 a1
def gd (a0:List (List aa))(a1:Int):Prop:=eL a1
def acc (ls:List L):aD×Int:=((ls.headD .hole).aQ,((aA 1 ls).headD .hole).toInt)
def R:(aD×Int)->Option (Int×aD):=RR (p2 gd) (u2 md)
def aq {a0 a1}(h:gd a0 a1):R ((a0.map (dO aa.row)),a1)=some ((md a0 a1).1,((md a0 a1).2.map (dO aa.row))):=aR (a:=(a0,a1)) h
def aW:gP:=MN pats acc R
def bB (a0:List (List aa))(a1:Int)(hg:gd a0 a1)(h0:a0.length<=maxLen):∃n,start (iter step n) (a0.map (dO aa.row)) a1=ret (((md a0 a1).1,((md a0 a1).2.map (dO aa.row))):Int×aD):=by
 unfold gd at hg
 show ∃n,iter step n (Pt.p0 a1 0 (a0.map (dO aa.row)))=_
 unfold md
 refine fY (el:=el) (xs:=a0) [] eL gT (pt:=fun i k c=>Pt.p0 k (i:Int) (c.map (dO aa.row))) (out:=fun b=>ret (b.1,b.2.map (dO aa.row))) (fun J i k c hi hc hk=>?_) (fun J k c hc=>?_) hg
 ·have hm:c.length<=maxLen:=hc ▸ h0
  simp only [step,SS]
  refine ak (aL hi) ?_
  refine ak aJ ?_
  refine ak (aL hi) ?_
  refine bg ((e1 (c.getD i []) k).1,((e1 (c.getD i []) k).2.map aa.row)) (Z277.aq (a0:=c.getD i []) (a1:=k) hk) ?_
  rw [aI hi hm]
  exact congrArg (fun q=>J (Pt.p0 (el (c.getD i []) k).1 ((i+1:Nat):Int) q)) (List.map_set (f:=(dO aa.row)) (l:=c) (i:=i) (a:=(el (c.getD i []) k).2)).symm
 ·simp only [step,SS]
  refine cM (by apply decide_eq_false;omega) ?_
  rfl
def af:fm Tryz.prog Ev 175 aW:=MV (run:=fun n x=>start (iter step n) x.1 x.2) mix aF .nil (.cons Z277.af .nil) Tryz.func175 (by kernel_rfl) run_eq (fun ls a hl e hg=>bB a.1 a.2 hg (by have h:(ls.headD .hole).aQ.length<=maxLen:=(hl _ _ (.head _)).len;have e:a.1.map (dO aa.row)=(ls.headD .hole).aQ:=(congrArg (fun x=>x.1) e.symm);rw [<-e] at h;simpa using h))
def iq {a0:List (List aa)}{a1:Int}(h:eL a1):eL (md a0 a1).1:=jl gT h
def oC (x:List aa)(k:Int)(h0:0<=k)(hb:k+(cnt x:Int)<=4611686018427387904):(el x k).1=k+cnt x:=by
 simp only [cnt,Int.natCast_add] at hb ⊢
 simp (disch:=omega) only [el,e1,wi,Z277.kk]
 all_goals first | done | omega
def kk (a0:List (List aa))(a1:Int)(h0:0<=a1)(hb:a1+(sum a0:Int)<=4611686018427387904):(md a0 a1).1=a1+sum a0:=gq oC a0 a1 h0 hb
def sz (a:List (List aa)):sum a<=60*(dP (fun y:List aa=>dP (fun y:aa=>aa.size y) y) a):=jo (fun x=>by
 have:=Z277.sz x
 try simp only [cnt] at *
 omega) a
end Z278
namespace Z279
set_option maxHeartbeats 8000000
inductive Pt where
 | p0 (a b:Int) (c:aD)
def pid:Pt->Nat
 | .p0 ..=>2
def cg:Pt->List V
 | .p0 a b c=>[.own 0,.int .i64 a,.int .i64 b]
def bZ:Pt->List aZ
 | .p0 a b c=>[.row 280 c]
def step (J:Pt->aK):Pt->aK
 | .p0 a b c=>(cond (decide (b<(c.length:Int))) (m2 b (c.length:Int) (m2 b (c.length:Int) (cm (Q b) (m2 b (c.length:Int) (cm (Q b) (m2 b (c.length:Int) (cm (Q b) (m2 b (c.length:Int) (cm (Q b) (m2 b (c.length:Int) (cm (Q b) (m2 b (c.length:Int) (cm (Q b) (m2 b (c.length:Int) (cm (Q b) (m2 b (c.length:Int) (cm (Q b) (cm (Q b) (call (Z275.R ((bL.at c (toNat b)).aS.au.bQ.aX,(i64.wrap ((i64.wrap ((i64.wrap ((i64.wrap ((i64.wrap ((i64.wrap ((i64.wrap ((i64.wrap (a+1))+1))+1))+1))+1))+1))+1))+1)))) fun v1=>(m2 b (c.length:Int) (cm (Q b) (m2 b (c.length:Int) (cm (Q b) (cm (Q b) (call (Z275.R ((bL.at c (toNat b)).aS.au.bE.aX,(i64.wrap (v1.1+1)))) fun v2=>(m2 b (c.length:Int) (cm (Q b) (m2 b (c.length:Int) (cm (Q b) (m2 b (c.length:Int) (cm (Q b) (cm (Q b) (call (Z275.R ((bL.at c (toNat b)).aS.au.bC.aX,(i64.wrap ((i64.wrap (v2.1+1))+1)))) fun v3=>(m2 b (c.length:Int) (cm (Q b) (m2 b (c.length:Int) (cm (Q b) (m2 b (c.length:Int) (cm (Q b) (cm (Q b) (call (Z276.R ((bL.at c (toNat b)).aS.cw,(i64.wrap ((i64.wrap (v3.1+1))+1)))) fun v4=>(m2 b (c.length:Int) (cm (Q b) (m2 b (c.length:Int) (cm (Q b) (m2 b (c.length:Int) (cm (Q b) (m2 b (c.length:Int) (cm (Q b) (m2 b (c.length:Int) (cm (Q b) (m2 b (c.length:Int) (cm (Q b) (m2 b (c.length:Int) (cm (Q b) (m2 b (c.length:Int) (cm (Q b) (m2 b (c.length:Int) (cm (Q b) (cm (Q b) (call (Z275.R ((bL.at c (toNat b)).fA.au.bQ.aX,(i64.wrap ((i64.wrap ((i64.wrap ((i64.wrap ((i64.wrap ((i64.wrap ((i64.wrap ((i64.wrap (v4.1+1))+1))+1))+1))+1))+1))+1))+1)))) fun v5=>(m2 b (c.length:Int) (cm (Q b) (m2 b (c.length:Int) (cm (Q b) (cm (Q b) (call (Z275.R ((bL.at c (toNat b)).fA.au.bE.aX,(i64.wrap (v5.1+1)))) fun v6=>(m2 b (c.length:Int) (cm (Q b) (m2 b (c.length:Int) (cm (Q b) (m2 b (c.length:Int) (cm (Q b) (cm (Q b) (call (Z275.R ((bL.at c (toNat b)).fA.au.bC.aX,(i64.wrap ((i64.wrap (v6.1+1))+1)))) fun v7=>(m2 b (c.length:Int) (cm (Q b) (m2 b (c.length:Int) (cm (Q b) (m2 b (c.length:Int) (cm (Q b) (cm (Q b) (call (Z276.R ((bL.at c (toNat b)).fA.cw,(i64.wrap ((i64.wrap (v7.1+1))+1)))) fun v8=>(m2 b (c.length:Int) (cm (Q b) (m2 b (c.length:Int) (cm (Q b) (m2 b (c.length:Int) (cm (Q b) (m2 b (c.length:Int) (cm (Q b) (m2 b (c.length:Int) (cm (Q b) (m2 b (c.length:Int) (cm (Q b) (m2 b (c.length:Int) (cm (Q b) (m2 b (c.length:Int) (cm (Q b) (m2 b (c.length:Int) (cm (Q b) (cm (Q b) (call (Z275.R ((bL.at c (toNat b)).fB.au.bQ.aX,(i64.wrap ((i64.wrap ((i64.wrap ((i64.wrap ((i64.wrap ((i64.wrap ((i64.wrap ((i64.wrap (v8.1+1))+1))+1))+1))+1))+1))+1))+1)))) fun v9=>(m2 b (c.length:Int) (cm (Q b) (m2 b (c.length:Int) (cm (Q b) (cm (Q b) (call (Z275.R ((bL.at c (toNat b)).fB.au.bE.aX,(i64.wrap (v9.1+1)))) fun v10=>(m2 b (c.length:Int) (cm (Q b) (m2 b (c.length:Int) (cm (Q b) (m2 b (c.length:Int) (cm (Q b) (cm (Q b) (call (Z275.R ((bL.at c (toNat b)).fB.au.bC.aX,(i64.wrap ((i64.wrap (v10.1+1))+1)))) fun v11=>(m2 b (c.length:Int) (cm (Q b) (m2 b (c.length:Int) (cm (Q b) (m2 b (c.length:Int) (cm (Q b) (cm (Q b) (call (Z276.R ((bL.at c (toNat b)).fB.cw,(i64.wrap ((i64.wrap (v11.1+1))+1)))) fun v12=>J (.p0 v12.1 (i64.wrap (b+1)) (List.set c (toNat b) (bL.enc (⟨(⟨(⟨a,(i64.wrap (a+1)),(i64.wrap ((i64.wrap (a+1))+1)),(i64.wrap ((i64.wrap ((i64.wrap (a+1))+1))+1)),(i64.wrap ((i64.wrap ((i64.wrap ((i64.wrap (a+1))+1))+1))+1)),(i64.wrap ((i64.wrap ((i64.wrap ((i64.wrap ((i64.wrap (a+1))+1))+1))+1))+1)),(i64.wrap ((i64.wrap ((i64.wrap ((i64.wrap ((i64.wrap ((i64.wrap (a+1))+1))+1))+1))+1))+1)),(i64.wrap ((i64.wrap ((i64.wrap ((i64.wrap ((i64.wrap ((i64.wrap ((i64.wrap (a+1))+1))+1))+1))+1))+1))+1)),(⟨v1.2,v1.1⟩:bF),(⟨v2.2,v2.1⟩:bF),(i64.wrap (v2.1+1)),(⟨v3.2,v3.1⟩:bF),((Int.tmod (i64.wrap (v3.1+1)) 3)==0)⟩:ck),v4.2⟩:aT),(⟨(⟨v4.1,(i64.wrap (v4.1+1)),(i64.wrap ((i64.wrap (v4.1+1))+1)),(i64.wrap ((i64.wrap ((i64.wrap (v4.1+1))+1))+1)),(i64.wrap ((i64.wrap ((i64.wrap ((i64.wrap (v4.1+1))+1))+1))+1)),(i64.wrap ((i64.wrap ((i64.wrap ((i64.wrap ((i64.wrap (v4.1+1))+1))+1))+1))+1)),(i64.wrap ((i64.wrap ((i64.wrap ((i64.wrap ((i64.wrap ((i64.wrap (v4.1+1))+1))+1))+1))+1))+1)),(i64.wrap ((i64.wrap ((i64.wrap ((i64.wrap ((i64.wrap ((i64.wrap ((i64.wrap (v4.1+1))+1))+1))+1))+1))+1))+1)),(⟨v5.2,v5.1⟩:bF),(⟨v6.2,v6.1⟩:bF),(i64.wrap (v6.1+1)),(⟨v7.2,v7.1⟩:bF),((Int.tmod (i64.wrap (v7.1+1)) 3)==0)⟩:ck),v8.2⟩:aT),(⟨(⟨v8.1,(i64.wrap (v8.1+1)),(i64.wrap ((i64.wrap (v8.1+1))+1)),(i64.wrap ((i64.wrap ((i64.wrap (v8.1+1))+1))+1)),(i64.wrap ((i64.wrap ((i64.wrap ((i64.wrap (v8.1+1))+1))+1))+1)),(i64.wrap ((i64.wrap ((i64.wrap ((i64.wrap ((i64.wrap (v8.1+1))+1))+1))+1))+1)),(i64.wrap ((i64.wrap ((i64.wrap ((i64.wrap ((i64.wrap ((i64.wrap (v8.1+1))+1))+1))+1))+1))+1)),(i64.wrap ((i64.wrap ((i64.wrap ((i64.wrap ((i64.wrap ((i64.wrap ((i64.wrap (v8.1+1))+1))+1))+1))+1))+1))+1)),(⟨v9.2,v9.1⟩:bF),(⟨v10.2,v10.1⟩:bF),(i64.wrap (v10.1+1)),(⟨v11.2,v11.1⟩:bF),((Int.tmod (i64.wrap (v11.1+1)) 3)==0)⟩:ck),v12.2⟩:aT)⟩:bL))))))))))))))))))))))))))))))))))))))))))))))))))))))))))))))))))))))))))))))))))))))))))))))))))))))))))))))))))))))))))))))))) (ret ((a,c):Int×aD)))
def start (J:Pt->aK)(x0:aD)(x1:Int):aK:=J (.p0 x1 0 x0)
def live:Nat->Live:=fun i=>match i with | 2=>[(0,none),(1,none),(5,none)] | _=>[]
def pats:List (Bool×List K):=[(false,[.sl 280]),(false,[aC])]
def res:RP:=.oA [280]
abbrev E:Env:={ T:=assoc kB,G:=dD [],nt:=493,M:=fT [(179,Z275.aW),(332,Z276.aW)],np:=1,mt:=true }
def step_eq (I:cD)(p:Pt):cV E live I (pid p) (bN Tryz.f176) (fD (live (pid p)) (cg p) (bZ p)) (cE E Tryz.f176 res)=step (fun q=>I (pid q) (cg q) (bZ q)) p:=by
 cases p<;>kernel_rfl
def start_eq (I:cD)(ls:List L):eT E live I (bN Tryz.f176) (gm pats ls) (cE E Tryz.f176 res)=start (fun q=>I (pid q) (cg q) (bZ q)) (ls.headD .hole).aQ ((aA 1 ls).headD .hole).toInt:=by kernel_rfl
def run_eq (n:Nat)(ls:List L):eN E live Tryz.f176 res n (gm pats ls)=start (iter step n) (ls.headD .hole).aQ ((aA 1 ls).headD .hole).toInt:=cy (id:=pid) (vs:=cg) (hs:=bZ) (step:=step) (start:=fun J=>start J (ls.headD .hole).aQ ((aA 1 ls).headD .hole).toInt) step_eq (fun I=>start_eq I ls) n
def e1 (x:aB)(k:Int):=Z275.md ((((x.aS).au).bQ).aX) (i64.wrap ((i64.wrap ((i64.wrap ((i64.wrap ((i64.wrap ((i64.wrap ((i64.wrap ((i64.wrap (k+1))+1))+1))+1))+1))+1))+1))+1))
def e2 (x:aB)(k:Int):=Z275.md ((((x.aS).au).bE).aX) (i64.wrap ((e1 x k).1+1))
def e3 (x:aB)(k:Int):=Z275.md ((((x.aS).au).bC).aX) (i64.wrap ((i64.wrap ((e2 x k).1+1))+1))
def e4 (x:aB)(k:Int):=Z276.md ((x.aS).cw) (i64.wrap ((i64.wrap ((e3 x k).1+1))+1))
def e5 (x:aB)(k:Int):=Z275.md ((((x.fA).au).bQ).aX) (i64.wrap ((i64.wrap ((i64.wrap ((i64.wrap ((i64.wrap ((i64.wrap ((i64.wrap ((i64.wrap ((e4 x k).1+1))+1))+1))+1))+1))+1))+1))+1))
def e6 (x:aB)(k:Int):=Z275.md ((((x.fA).au).bE).aX) (i64.wrap ((e5 x k).1+1))
def e7 (x:aB)(k:Int):=Z275.md ((((x.fA).au).bC).aX) (i64.wrap ((i64.wrap ((e6 x k).1+1))+1))
def e8 (x:aB)(k:Int):=Z276.md ((x.fA).cw) (i64.wrap ((i64.wrap ((e7 x k).1+1))+1))
def e9 (x:aB)(k:Int):=Z275.md ((((x.fB).au).bQ).aX) (i64.wrap ((i64.wrap ((i64.wrap ((i64.wrap ((i64.wrap ((i64.wrap ((i64.wrap ((i64.wrap ((e8 x k).1+1))+1))+1))+1))+1))+1))+1))+1))
def uS (x:aB)(k:Int):=Z275.md ((((x.fB).au).bE).aX) (i64.wrap ((e9 x k).1+1))
def tW (x:aB)(k:Int):=Z275.md ((((x.fB).au).bC).aX) (i64.wrap ((i64.wrap ((uS x k).1+1))+1))
def yF (x:aB)(k:Int):=Z276.md ((x.fB).cw) (i64.wrap ((i64.wrap ((tW x k).1+1))+1))
def el (x:aB)(k:Int):Int×aB:=((yF x k).1,(⟨(⟨(⟨k,(i64.wrap (k+1)),(i64.wrap ((i64.wrap (k+1))+1)),(i64.wrap ((i64.wrap ((i64.wrap (k+1))+1))+1)),(i64.wrap ((i64.wrap ((i64.wrap ((i64.wrap (k+1))+1))+1))+1)),(i64.wrap ((i64.wrap ((i64.wrap ((i64.wrap ((i64.wrap (k+1))+1))+1))+1))+1)),(i64.wrap ((i64.wrap ((i64.wrap ((i64.wrap ((i64.wrap ((i64.wrap (k+1))+1))+1))+1))+1))+1)),(i64.wrap ((i64.wrap ((i64.wrap ((i64.wrap ((i64.wrap ((i64.wrap ((i64.wrap (k+1))+1))+1))+1))+1))+1))+1)),(⟨(e1 x k).2,(e1 x k).1⟩:aO),(⟨(e2 x k).2,(e2 x k).1⟩:aO),(i64.wrap ((e2 x k).1+1)),(⟨(e3 x k).2,(e3 x k).1⟩:aO),((Int.tmod (i64.wrap ((e3 x k).1+1)) 3)==0)⟩:aG),(e4 x k).2⟩:aa),(⟨(⟨(e4 x k).1,(i64.wrap ((e4 x k).1+1)),(i64.wrap ((i64.wrap ((e4 x k).1+1))+1)),(i64.wrap ((i64.wrap ((i64.wrap ((e4 x k).1+1))+1))+1)),(i64.wrap ((i64.wrap ((i64.wrap ((i64.wrap ((e4 x k).1+1))+1))+1))+1)),(i64.wrap ((i64.wrap ((i64.wrap ((i64.wrap ((i64.wrap ((e4 x k).1+1))+1))+1))+1))+1)),(i64.wrap ((i64.wrap ((i64.wrap ((i64.wrap ((i64.wrap ((i64.wrap ((e4 x k).1+1))+1))+1))+1))+1))+1)),(i64.wrap ((i64.wrap ((i64.wrap ((i64.wrap ((i64.wrap ((i64.wrap ((i64.wrap ((e4 x k).1+1))+1))+1))+1))+1))+1))+1)),(⟨(e5 x k).2,(e5 x k).1⟩:aO),(⟨(e6 x k).2,(e6 x k).1⟩:aO),(i64.wrap ((e6 x k).1+1)),(⟨(e7 x k).2,(e7 x k).1⟩:aO),((Int.tmod (i64.wrap ((e7 x k).1+1)) 3)==0)⟩:aG),(e8 x k).2⟩:aa),(⟨(⟨(e8 x k).1,(i64.wrap ((e8 x k).1+1)),(i64.wrap ((i64.wrap ((e8 x k).1+1))+1)),(i64.wrap ((i64.wrap ((i64.wrap ((e8 x k).1+1))+1))+1)),(i64.wrap ((i64.wrap ((i64.wrap ((i64.wrap ((e8 x k).1+1))+1))+1))+1)),(i64.wrap ((i64.wrap ((i64.wrap ((i64.wrap ((i64.wrap ((e8 x k).1+1))+1))+1))+1))+1)),(i64.wrap ((i64.wrap ((i64.wrap ((i64.wrap ((i64.wrap ((i64.wrap ((e8 x k).1+1))+1))+1))+1))+1))+1)),(i64.wrap ((i64.wrap ((i64.wrap ((i64.wrap ((i64.wrap ((i64.wrap ((i64.wrap ((e8 x k).1+1))+1))+1))+1))+1))+1))+1)),(⟨(e9 x k).2,(e9 x k).1⟩:aO),(⟨(uS x k).2,(uS x k).1⟩:aO),(i64.wrap ((uS x k).1+1)),(⟨(tW x k).2,(tW x k).1⟩:aO),((Int.tmod (i64.wrap ((tW x k).1+1)) 3)==0)⟩:aG),(yF x k).2⟩:aa)⟩:aB))
def gT (x:aB)(k:Int)(hk:eL k):eL (el x k).1:=(Z276.iq (cj _))
def cnt (x:aB):Nat:=39+Z275.sum ((((x.aS).au).bQ).aX)+Z275.sum ((((x.aS).au).bE).aX)+Z275.sum ((((x.aS).au).bC).aX)+Z276.sum ((x.aS).cw)+Z275.sum ((((x.fA).au).bQ).aX)+Z275.sum ((((x.fA).au).bE).aX)+Z275.sum ((((x.fA).au).bC).aX)+Z276.sum ((x.fA).cw)+Z275.sum ((((x.fB).au).bQ).aX)+Z275.sum ((((x.fB).au).bE).aX)+Z275.sum ((((x.fB).au).bC).aX)+Z276.sum ((x.fB).cw)
def sum (a:List aB):Nat:=(a.map cnt).sum
def md (a0:List aB)(a1:Int):Int×List aB:=jq el a0 a1
def gd (a0:List aB)(a1:Int):Prop:=eL a1
def acc (ls:List L):aD×Int:=((ls.headD .hole).aQ,((aA 1 ls).headD .hole).toInt)
def R:(aD×Int)->Option (Int×aD):=RR (p2 gd) (u2 md)
def aq {a0 a1}(h:gd a0 a1):R ((a0.map aB.row),a1)=some ((md a0 a1).1,((md a0 a1).2.map aB.row)):=aR (a:=(a0,a1)) h
def aW:gP:=MN pats acc R
def bB (a0:List aB)(a1:Int)(hg:gd a0 a1)(h0:a0.length<=maxLen):∃n,start (iter step n) (a0.map aB.row) a1=ret (((md a0 a1).1,((md a0 a1).2.map aB.row)):Int×aD):=by
 unfold gd at hg
 show ∃n,iter step n (Pt.p0 a1 0 (a0.map aB.row))=_
 unfold md
 refine fY (el:=el) (xs:=a0) aB.zero eL gT (pt:=fun i k c=>Pt.p0 k (i:Int) (c.map aB.row)) (out:=fun b=>ret (b.1,b.2.map aB.row)) (fun J i k c hi hc hk=>?_) (fun J k c hc=>?_) hg
 ·have hm:c.length<=maxLen:=hc ▸ h0
  simp only [step,SS]
  refine ak (aL hi) ?_
  repeat first | refine ak aJ ?_ | refine ak (aL hi) ?_ | refine ak (gh _) ?_
  refine bg ((e1 (c.getD i aB.zero) k).1,((e1 (c.getD i aB.zero) k).2.map bu)) (Z275.aq (a0:=((((c.getD i aB.zero).aS).au).bQ).aX) (a1:=i64.wrap ((i64.wrap ((i64.wrap ((i64.wrap ((i64.wrap ((i64.wrap ((i64.wrap ((i64.wrap (k+1))+1))+1))+1))+1))+1))+1))+1)) (cj _)) ?_
  repeat first | refine ak aJ ?_ | refine ak (aL hi) ?_ | refine ak (gh _) ?_
  refine bg ((e2 (c.getD i aB.zero) k).1,((e2 (c.getD i aB.zero) k).2.map bu)) (Z275.aq (a0:=((((c.getD i aB.zero).aS).au).bE).aX) (a1:=i64.wrap ((e1 (c.getD i aB.zero) k).1+1)) (cj _)) ?_
  repeat first | refine ak aJ ?_ | refine ak (aL hi) ?_ | refine ak (gh _) ?_
  refine bg ((e3 (c.getD i aB.zero) k).1,((e3 (c.getD i aB.zero) k).2.map bu)) (Z275.aq (a0:=((((c.getD i aB.zero).aS).au).bC).aX) (a1:=i64.wrap ((i64.wrap ((e2 (c.getD i aB.zero) k).1+1))+1)) (cj _)) ?_
  repeat first | refine ak aJ ?_ | refine ak (aL hi) ?_ | refine ak (gh _) ?_
  refine bg ((e4 (c.getD i aB.zero) k).1,((e4 (c.getD i aB.zero) k).2.map bw.row)) (Z276.aq (a0:=((c.getD i aB.zero).aS).cw) (a1:=i64.wrap ((i64.wrap ((e3 (c.getD i aB.zero) k).1+1))+1)) (cj _)) ?_
  repeat first | refine ak aJ ?_ | refine ak (aL hi) ?_ | refine ak (gh _) ?_
  refine bg ((e5 (c.getD i aB.zero) k).1,((e5 (c.getD i aB.zero) k).2.map bu)) (Z275.aq (a0:=((((c.getD i aB.zero).fA).au).bQ).aX) (a1:=i64.wrap ((i64.wrap ((i64.wrap ((i64.wrap ((i64.wrap ((i64.wrap ((i64.wrap ((i64.wrap ((e4 (c.getD i aB.zero) k).1+1))+1))+1))+1))+1))+1))+1))+1)) (cj _)) ?_
  repeat first | refine ak aJ ?_ | refine ak (aL hi) ?_ | refine ak (gh _) ?_
  refine bg ((e6 (c.getD i aB.zero) k).1,((e6 (c.getD i aB.zero) k).2.map bu)) (Z275.aq (a0:=((((c.getD i aB.zero).fA).au).bE).aX) (a1:=i64.wrap ((e5 (c.getD i aB.zero) k).1+1)) (cj _)) ?_
  repeat first | refine ak aJ ?_ | refine ak (aL hi) ?_ | refine ak (gh _) ?_
  refine bg ((e7 (c.getD i aB.zero) k).1,((e7 (c.getD i aB.zero) k).2.map bu)) (Z275.aq (a0:=((((c.getD i aB.zero).fA).au).bC).aX) (a1:=i64.wrap ((i64.wrap ((e6 (c.getD i aB.zero) k).1+1))+1)) (cj _)) ?_
  repeat first | refine ak aJ ?_ | refine ak (aL hi) ?_ | refine ak (gh _) ?_
  refine bg ((e8 (c.getD i aB.zero) k).1,((e8 (c.getD i aB.zero) k).2.map bw.row)) (Z276.aq (a0:=((c.getD i aB.zero).fA).cw) (a1:=i64.wrap ((i64.wrap ((e7 (c.getD i aB.zero) k).1+1))+1)) (cj _)) ?_
  repeat first | refine ak aJ ?_ | refine ak (aL hi) ?_ | refine ak (gh _) ?_
  refine bg ((e9 (c.getD i aB.zero) k).1,((e9 (c.getD i aB.zero) k).2.map bu)) (Z275.aq (a0:=((((c.getD i aB.zero).fB).au).bQ).aX) (a1:=i64.wrap ((i64.wrap ((i64.wrap ((i64.wrap ((i64.wrap ((i64.wrap ((i64.wrap ((i64.wrap ((e8 (c.getD i aB.zero) k).1+1))+1))+1))+1))+1))+1))+1))+1)) (cj _)) ?_
  repeat first | refine ak aJ ?_ | refine ak (aL hi) ?_ | refine ak (gh _) ?_
  refine bg ((uS (c.getD i aB.zero) k).1,((uS (c.getD i aB.zero) k).2.map bu)) (Z275.aq (a0:=((((c.getD i aB.zero).fB).au).bE).aX) (a1:=i64.wrap ((e9 (c.getD i aB.zero) k).1+1)) (cj _)) ?_
  repeat first | refine ak aJ ?_ | refine ak (aL hi) ?_ | refine ak (gh _) ?_
  refine bg ((tW (c.getD i aB.zero) k).1,((tW (c.getD i aB.zero) k).2.map bu)) (Z275.aq (a0:=((((c.getD i aB.zero).fB).au).bC).aX) (a1:=i64.wrap ((i64.wrap ((uS (c.getD i aB.zero) k).1+1))+1)) (cj _)) ?_
  repeat first | refine ak aJ ?_ | refine ak (aL hi) ?_ | refine ak (gh _) ?_
  refine bg ((yF (c.getD i aB.zero) k).1,((yF (c.getD i aB.zero) k).2.map bw.row)) (Z276.aq (a0:=((c.getD i aB.zero).fB).cw) (a1:=i64.wrap ((i64.wrap ((tW (c.getD i aB.zero) k).1+1))+1)) (cj _)) ?_
  rw [aI hi hm]
  exact congrArg (fun q=>J (Pt.p0 (el (c.getD i aB.zero) k).1 ((i+1:Nat):Int) q)) (List.map_set (f:=aB.row) (l:=c) (i:=i) (a:=(el (c.getD i aB.zero) k).2)).symm
 ·simp only [step,SS]
  refine cM (by apply decide_eq_false;omega) ?_
  rfl
def af:fm Tryz.prog Ev 176 aW:=MV (run:=fun n x=>start (iter step n) x.1 x.2) mix aF .nil (.cons Z275.af (.cons Z276.af .nil)) Tryz.func176 (by kernel_rfl) run_eq (fun ls a hl e hg=>bB a.1 a.2 hg (by have h:(ls.headD .hole).aQ.length<=maxLen:=(hl _ _ (.head _)).len;have e:a.1.map aB.row=(ls.headD .hole).aQ:=(congrArg (fun x=>x.1) e.symm);rw [<-e] at h;simpa using h))
def iq {a0:List aB}{a1:Int}(h:eL a1):eL (md a0 a1).1:=jl gT h
def oC (x:aB)(k:Int)(h0:0<=k)(hb:k+(cnt x:Int)<=4611686018427387904):(el x k).1=k+cnt x:=by
 simp only [cnt,Int.natCast_add] at hb ⊢
 simp (disch:=omega) only [el,e1,e2,e3,e4,e5,e6,e7,e8,e9,uS,tW,yF,wi,Z275.kk,Z276.kk]
 all_goals first | done | omega
def kk (a0:List aB)(a1:Int)(h0:0<=a1)(hb:a1+(sum a0:Int)<=4611686018427387904):(md a0 a1).1=a1+sum a0:=gq oC a0 a1 h0 hb
def sz (a:List aB):sum a<=60*(dP (fun y:aB=>aB.size y) a):=jo (fun x=>by
 have:=Z275.sz ((((x.aS).au).bQ).aX)
 have:=Z275.sz ((((x.aS).au).bE).aX)
 have:=Z275.sz ((((x.aS).au).bC).aX)
 have:=Z276.sz ((x.aS).cw)
 have:=Z275.sz ((((x.fA).au).bQ).aX)
 have:=Z275.sz ((((x.fA).au).bE).aX)
 have:=Z275.sz ((((x.fA).au).bC).aX)
 have:=Z276.sz ((x.fA).cw)
 have:=Z275.sz ((((x.fB).au).bQ).aX)
 have:=Z275.sz ((((x.fB).au).bE).aX)
 have:=Z275.sz ((((x.fB).au).bC).aX)
 have:=Z276.sz ((x.fB).cw)
 try simp only [cnt,aB.size,aa.size,aG.size,aO.size] at *
 omega) a
end Z279
namespace Z280
set_option maxHeartbeats 8000000
def F (x0:bt)(x1:Int):aK:=(call (Z278.R (x0.aH,x1)) fun v1=>(call (Z279.R (x0.aY,v1.1)) fun v2=>ret ((v2.1,v1.2,v2.2):Int×aD×aD)))
def pats:List (Bool×List K):=[(true,[.sl 92,.sl 280]),(false,[aC])]
def res:RP:=.oA [92,280]
def e1 (x:aj)(k:Int):=Z278.md x.aH k
def e2 (x:aj)(k:Int):=Z279.md x.aY ((e1 x k).1)
def sum (x:aj):Nat:=0+Z278.sum x.aH+Z279.sum x.aY
def md (a0:aj)(a1:Int):Int×List (List aa)×List aB:=((e2 a0 a1).1,(e1 a0 a1).2,(e2 a0 a1).2)
def gd (a0:aj)(a1:Int):Prop:=eL a1
def acc (ls:List L):bt×Int:=((bt.dec ls),((aA 2 ls).headD .hole).toInt)
def R:(bt×Int)->Option (Int×aD×aD):=RR (p2 gd) (u2 md)
def aq {a0 a1}(h:gd a0 a1):R ((aj.r a0),a1)=some ((md a0 a1).1,((md a0 a1).2.1.map (dO aa.row)),((md a0 a1).2.2.map aB.row)):=aR (a:=(a0,a1)) h
def aW:gP:=MN pats acc R
def bB (a0:aj)(a1:Int)(hg:gd a0 a1):F (aj.r a0) a1=ret (((md a0 a1).1,((md a0 a1).2.1.map (dO aa.row)),((md a0 a1).2.2.map aB.row)):Int×aD×aD):=by
 unfold gd at hg
 simp only [F,SS]
 unfold md
 refine bg ((e1 a0 a1).1,((e1 a0 a1).2.map (dO aa.row))) (Z278.aq (a0:=a0.aH) (a1:=a1) hg) ?_
 refine bg ((e2 a0 a1).1,((e2 a0 a1).2.map aB.row)) (Z279.aq (a0:=a0.aY) (a1:=(e1 a0 a1).1) (Z278.iq hg)) ?_
 first | rfl | (simp only [SS];rfl)
def af:fm Tryz.prog Ev 36 aW:=MV (live:=fun _=>[]) (nt:=14) (run:=fun _ x=>F x.1 x.2) mix aF .nil (.cons Z278.af (.cons Z279.af .nil)) Tryz.func36 (by kernel_rfl) (fun _ _=>by kernel_rfl) (fun _ a _ _ hg=>⟨0,bB a.1 a.2 hg⟩)
def iq {a0:aj}{a1:Int}(hk:eL a1):eL (md a0 a1).1:=(Z279.iq (Z278.iq hk))
def kk (x:aj)(k:Int)(h0:0<=k)(hb:k+(sum x:Int)<=4611686018427387904):(md x k).1=k+sum x:=by
 simp only [sum,Int.natCast_add] at hb ⊢
 simp (disch:=omega) only [md,e1,e2,wi,Z278.kk,Z279.kk]
 all_goals first | done | omega
def sz (x:aj):sum x<=60*aj.size x:=by
 have:=Z278.sz x.aH
 have:=Z279.sz x.aY
 try simp only [sum,aj.size] at *
 omega
def upd (x:aj)(k:Int):aj:=(⟨(md x k).2.1,(md x k).2.2⟩:aj)
end Z280
namespace Z281
inductive Pt where
 | p0 (a:Int) (b:aE)
def pid:Pt->Nat
 | .p0 ..=>4
def cg:Pt->List V
 | .p0 a b=>[.int .i64 a,.str b]
def bZ:Pt->List aZ
 | .p0 a b=>[]
def step (J:Pt->aK):Pt->aK
 | .p0 a b=>(cond (decide (a>0)) (cond (decide ((((uB [[L.int (IntKind.u8.wrap (i64.wrap (48+(Int.tmod a 10))))]]).size+b.size:Nat):Int)>9223372036854775807)) none (J (.p0 (i64.wrap (Int.tdiv a 10)) ((uB [[L.int (IntKind.u8.wrap (i64.wrap (48+(Int.tmod a 10))))]])++b)))) (cond (decide ((((⟨#[109]⟩:aE).size+b.size:Nat):Int)>9223372036854775807)) none (ret (((⟨#[109]⟩:aE)++b):aE))))
def start (J:Pt->aK)(x0:Int):aK:=(cond (decide (x0<=0)) (ret ((⟨#[109,48]⟩:aE):aE)) (J (.p0 x0 ⟨#[]⟩)))
def live:Nat->Live:=fun i=>match i with | 4=>[(0,none),(3,none)] | _=>[]
def dg (a:Int):aE:=uB [[L.int (IntKind.u8.wrap (i64.wrap (48+(Int.tmod a 10))))]]
def txt:Nat->Int->aE->aE
 | 0,_,b=>b
 | n+1,a,b=>bif decide (a>0) then txt n (i64.wrap (Int.tdiv a 10)) (dg a++b) else b
def zU (a:Int):(uB [[L.int (IntKind.u8.wrap (i64.wrap (48+(Int.tmod a 10))))]]).size=1:=rfl
def run:∀(n:Nat) (a:Int) (b:aE),n<=64->a<2^n->eL a->b.size+n<=1000->∃m,iter step m (.p0 a b)=ret ((⟨#[109]⟩:aE)++txt n a b)
 | 0,a,b,_,h1,_,h3=>by
  refine ⟨1,?_⟩
  show step _ (.p0 a b)=_
  have e1:decide (a>0)=false:=decide_eq_false (by simp at h1;omega)
  have e2:decide ((((⟨#[109]⟩:aE).size+b.size:Nat):Int)>9223372036854775807)=false:=decide_eq_false (by have :(⟨#[109]⟩:aE).size=1:=rfl;omega)
  simp only [step,e1,e2,bA]
  rfl
 | n+1,a,b,hn,h1,h2,h3=>by
  by_cases hp:a>0
  ·have e1:decide (a>0)=true:=decide_eq_true hp
   have hq:Int.tdiv a 10=a / 10:=Int.tdiv_eq_ediv_of_nonneg (by omega)
   unfold eL at h2
   have hw:i64.wrap (Int.tdiv a 10)=a / 10:=by rw [hq];exact wi _ (by omega)
   have hlt:a / 10<2^n:=by
    have :(2:Int)^(n+1)=2^n*2:=Int.pow_succ 2 n
    omega
   have hs:(dg a++b).size=1+b.size:=by rw [ByteArray.size_append];rfl
   obtain ⟨m,hm⟩:=run n (a / 10) (dg a++b) (by omega) hlt ⟨by omega,by omega⟩ (by rw [hs];omega)
   refine ⟨m+1,?_⟩
   show step _ (.p0 a b)=_
   have e2:decide ((((uB [[L.int (IntKind.u8.wrap (i64.wrap (48+(Int.tmod a 10))))]]).size+b.size:Nat):Int)>9223372036854775807)=false:=decide_eq_false (by rw [zU];omega)
   simp only [step,txt,e1,e2,bq,bA,hw]
   exact hm
  ·refine ⟨1,?_⟩
   show step _ (.p0 a b)=_
   have e1:decide (a>0)=false:=decide_eq_false hp
   have e2:decide ((((⟨#[109]⟩:aE).size+b.size:Nat):Int)>9223372036854775807)=false:=decide_eq_false (by have :(⟨#[109]⟩:aE).size=1:=rfl;omega)
   simp only [step,txt,e1,e2,bA]
def md (a0:Int):aE:=(cond (decide (a0<=0)) (⟨#[109,48]⟩:aE) ((⟨#[109]⟩:aE)++txt 64 a0 ⟨#[]⟩))
def gd (a0:Int):Prop:=eL a0
def R:=RR gd md
def aq {a0}(h:gd a0):R a0=some (md a0):=aR (a:=a0) h
def aW:=CN [pI] oS RT.dec R
def bB (a0)(hg:gd a0):∃n,start (iter step n) a0=ret (md a0):=by
 unfold gd at hg
 unfold start md
 cases h:decide (a0<=0)
 ·have h2:=hg.2
  have h3:(2:Int)^64=18446744073709551616:=by decide
  obtain ⟨m,hm⟩:=run 64 a0 ⟨#[]⟩ (Nat.le_refl _) (by rw [h3];omega) hg (by show 0+64<=1000;omega)
  exact ⟨m,hm⟩
 ·exact ⟨0,rfl⟩
def af:cG 178 aW:=L1 20 pid cg bZ live step start mix aF bB .nil Tryz.func178
end Z281
namespace Z282
set_option maxHeartbeats 8000000
inductive Pt where
 | p0 (a b:Int) (c:aD)
def pid:Pt->Nat
 | .p0 ..=>2
def cg:Pt->List V
 | .p0 a b c=>[.own 0,.int .i64 a,.int .i64 b]
def bZ:Pt->List aZ
 | .p0 a b c=>[.row 9 c]
def step (J:Pt->aK):Pt->aK
 | .p0 a b c=>(cond (decide (b<(c.length:Int))) (call (Z281.R a) fun v1=>(m2 b (c.length:Int) (J (.p0 (i64.wrap (a+1)) (i64.wrap (b+1)) (List.set c (toNat b) [L.str v1]))))) (ret ((a,c):Int×aD)))
def start (J:Pt->aK)(x0:aD)(x1:Int):aK:=J (.p0 x1 0 x0)
def live:Nat->Live:=fun i=>match i with | 2=>[(0,none),(1,none),(5,none)] | _=>[]
def pats:List (Bool×List K):=[(false,[.sl 9]),(false,[aC])]
def res:RP:=.oA [9]
abbrev E:Env:={ T:=assoc kB,G:=dD [(178,Z281.aW)],nt:=20,M:=fT [],np:=1,mt:=true }
def step_eq (I:cD)(p:Pt):cV E live I (pid p) (bN Tryz.f39) (fD (live (pid p)) (cg p) (bZ p)) (cE E Tryz.f39 res)=step (fun q=>I (pid q) (cg q) (bZ q)) p:=by
 cases p<;>kernel_rfl
def start_eq (I:cD)(ls:List L):eT E live I (bN Tryz.f39) (gm pats ls) (cE E Tryz.f39 res)=start (fun q=>I (pid q) (cg q) (bZ q)) (ls.headD .hole).aQ ((aA 1 ls).headD .hole).toInt:=by kernel_rfl
def run_eq (n:Nat)(ls:List L):eN E live Tryz.f39 res n (gm pats ls)=start (iter step n) (ls.headD .hole).aQ ((aA 1 ls).headD .hole).toInt:=cy (id:=pid) (vs:=cg) (hs:=bZ) (step:=step) (start:=fun J=>start J (ls.headD .hole).aQ ((aA 1 ls).headD .hole).toInt) step_eq (fun I=>start_eq I ls) n
def el (x:aE)(k:Int):Int×aE:=((i64.wrap (k+1)),(Z281.md k))
def gT (x:aE)(k:Int)(hk:eL k):eL (el x k).1:=(cj _)
def cnt (x:aE):Nat:=1
def sum (a:List aE):Nat:=(a.map cnt).sum
def md (a0:List aE)(a1:Int):Int×List aE:=jq el a0 a1
def gd (a0:List aE)(a1:Int):Prop:=eL a1
def acc (ls:List L):aD×Int:=((ls.headD .hole).aQ,((aA 1 ls).headD .hole).toInt)
def R:(aD×Int)->Option (Int×aD):=RR (p2 gd) (u2 md)
def aq {a0 a1}(h:gd a0 a1):R ((a0.map cI),a1)=some ((md a0 a1).1,((md a0 a1).2.map cI)):=aR (a:=(a0,a1)) h
def aW:gP:=MN pats acc R
def bB (a0:List aE)(a1:Int)(hg:gd a0 a1)(h0:a0.length<=maxLen):∃n,start (iter step n) (a0.map cI) a1=ret (((md a0 a1).1,((md a0 a1).2.map cI)):Int×aD):=by
 unfold gd at hg
 show ∃n,iter step n (Pt.p0 a1 0 (a0.map cI))=_
 unfold md
 refine fY (el:=el) (xs:=a0) ⟨#[]⟩ eL gT (pt:=fun i k c=>Pt.p0 k (i:Int) (c.map cI)) (out:=fun b=>ret (b.1,b.2.map cI)) (fun J i k c hi hc hk=>?_) (fun J k c hc=>?_) hg
 ·have hm:c.length<=maxLen:=hc ▸ h0
  simp only [step,SS]
  refine ak (aL hi) ?_
  refine bg (Z281.md k) (Z281.aq (a0:=k) hk) ?_
  refine ak aJ ?_
  refine ak (aL hi) ?_
  rw [aI hi hm]
  exact congrArg (fun q=>J (Pt.p0 (el (c.getD i ⟨#[]⟩) k).1 ((i+1:Nat):Int) q)) (List.map_set (f:=cI) (l:=c) (i:=i) (a:=(el (c.getD i ⟨#[]⟩) k).2)).symm
 ·simp only [step,SS]
  refine cM (by apply decide_eq_false;omega) ?_
  rfl
def af:fm Tryz.prog Ev 39 aW:=MV (run:=fun n x=>start (iter step n) x.1 x.2) mix aF (.cons Z281.af .nil) .nil Tryz.func39 (by kernel_rfl) run_eq (fun ls a hl e hg=>bB a.1 a.2 hg (by have h:(ls.headD .hole).aQ.length<=maxLen:=(hl _ _ (.head _)).len;have e:a.1.map cI=(ls.headD .hole).aQ:=(congrArg (fun x=>x.1) e.symm);rw [<-e] at h;simpa using h))
def iq {a0:List aE}{a1:Int}(h:eL a1):eL (md a0 a1).1:=jl gT h
def oC (x:aE)(k:Int)(h0:0<=k)(hb:k+(cnt x:Int)<=4611686018427387904):(el x k).1=k+cnt x:=by
 simp only [cnt,Int.natCast_add] at hb ⊢
 simp (disch:=omega) only [el,wi]
 all_goals first | done | omega
def kk (a0:List aE)(a1:Int)(h0:0<=a1)(hb:a1+(sum a0:Int)<=4611686018427387904):(md a0 a1).1=a1+sum a0:=gq oC a0 a1 h0 hb
def sz (a:List aE):sum a<=60*(dP (fun y:aE=>y.size) a):=jo (fun x=>by
 try simp only [cnt] at *
 omega) a
end Z282
namespace Z283
set_option maxHeartbeats 8000000
inductive Pt where
 | p0 (a b:Int) (c:aD)
def pid:Pt->Nat
 | .p0 ..=>2
def cg:Pt->List V
 | .p0 a b c=>[.own 0,.int .i64 a,.int .i64 b]
def bZ:Pt->List aZ
 | .p0 a b c=>[.row 61 c]
def step (J:Pt->aK):Pt->aK
 | .p0 a b c=>(cond (decide (b<(c.length:Int))) (call (Z281.R a) fun v1=>(m2 b (c.length:Int) (m2 b (c.length:Int) (cm (Q b) (m2 b (c.length:Int) (cm (Q b) (m2 b (c.length:Int) (cm (Q b) (cm (Q b) (call (Z282.R ((bf.at c (toNat b)).bH,(i64.wrap ((i64.wrap ((i64.wrap (a+1))+1))+1)))) fun v2=>J (.p0 v2.1 (i64.wrap (b+1)) (List.set c (toNat b) (bf.enc (⟨v1,(i64.wrap (a+1)),(i64.wrap ((i64.wrap (a+1))+1)),v2.2⟩:bf)))))))))))))) (ret ((a,c):Int×aD)))
def start (J:Pt->aK)(x0:aD)(x1:Int):aK:=J (.p0 x1 0 x0)
def live:Nat->Live:=fun i=>match i with | 2=>[(0,none),(1,none),(5,none)] | _=>[]
def pats:List (Bool×List K):=[(false,[.sl 61]),(false,[aC])]
def res:RP:=.oA [61]
abbrev E:Env:={ T:=assoc kB,G:=dD [(178,Z281.aW)],nt:=42,M:=fT [(39,Z282.aW)],np:=1,mt:=true }
def step_eq (I:cD)(p:Pt):cV E live I (pid p) (bN Tryz.f333) (fD (live (pid p)) (cg p) (bZ p)) (cE E Tryz.f333 res)=step (fun q=>I (pid q) (cg q) (bZ q)) p:=by
 cases p<;>kernel_rfl
def start_eq (I:cD)(ls:List L):eT E live I (bN Tryz.f333) (gm pats ls) (cE E Tryz.f333 res)=start (fun q=>I (pid q) (cg q) (bZ q)) (ls.headD .hole).aQ ((aA 1 ls).headD .hole).toInt:=by kernel_rfl
def run_eq (n:Nat)(ls:List L):eN E live Tryz.f333 res n (gm pats ls)=start (iter step n) (ls.headD .hole).aQ ((aA 1 ls).headD .hole).toInt:=cy (id:=pid) (vs:=cg) (hs:=bZ) (step:=step) (start:=fun J=>start J (ls.headD .hole).aQ ((aA 1 ls).headD .hole).toInt) step_eq (fun I=>start_eq I ls) n
def e1 (x:ah)(k:Int):=Z282.md x.bH (i64.wrap ((i64.wrap ((i64.wrap (k+1))+1))+1))
def el (x:ah)(k:Int):Int×ah:=((e1 x k).1,(⟨(Z281.md k),(i64.wrap (k+1)),(i64.wrap ((i64.wrap (k+1))+1)),(e1 x k).2⟩:ah))
def gT (x:ah)(k:Int)(hk:eL k):eL (el x k).1:=(Z282.iq (cj _))
def cnt (x:ah):Nat:=3+Z282.sum x.bH
def sum (a:List ah):Nat:=(a.map cnt).sum
def md (a0:List ah)(a1:Int):Int×List ah:=jq el a0 a1
def gd (a0:List ah)(a1:Int):Prop:=eL a1
def acc (ls:List L):aD×Int:=((ls.headD .hole).aQ,((aA 1 ls).headD .hole).toInt)
def R:(aD×Int)->Option (Int×aD):=RR (p2 gd) (u2 md)
def aq {a0 a1}(h:gd a0 a1):R ((a0.map ah.row),a1)=some ((md a0 a1).1,((md a0 a1).2.map ah.row)):=aR (a:=(a0,a1)) h
def aW:gP:=MN pats acc R
def bB (a0:List ah)(a1:Int)(hg:gd a0 a1)(h0:a0.length<=maxLen):∃n,start (iter step n) (a0.map ah.row) a1=ret (((md a0 a1).1,((md a0 a1).2.map ah.row)):Int×aD):=by
 unfold gd at hg
 show ∃n,iter step n (Pt.p0 a1 0 (a0.map ah.row))=_
 unfold md
 refine fY (el:=el) (xs:=a0) ah.zero eL gT (pt:=fun i k c=>Pt.p0 k (i:Int) (c.map ah.row)) (out:=fun b=>ret (b.1,b.2.map ah.row)) (fun J i k c hi hc hk=>?_) (fun J k c hc=>?_) hg
 ·have hm:c.length<=maxLen:=hc ▸ h0
  simp only [step,SS]
  refine ak (aL hi) ?_
  refine bg (Z281.md k) (Z281.aq (a0:=k) hk) ?_
  repeat first | refine ak aJ ?_ | refine ak (aL hi) ?_ | refine ak (gh _) ?_
  refine bg ((e1 (c.getD i ah.zero) k).1,((e1 (c.getD i ah.zero) k).2.map cI)) (Z282.aq (a0:=(c.getD i ah.zero).bH) (a1:=i64.wrap ((i64.wrap ((i64.wrap (k+1))+1))+1)) (cj _)) ?_
  rw [aI hi hm]
  exact congrArg (fun q=>J (Pt.p0 (el (c.getD i ah.zero) k).1 ((i+1:Nat):Int) q)) (List.map_set (f:=ah.row) (l:=c) (i:=i) (a:=(el (c.getD i ah.zero) k).2)).symm
 ·simp only [step,SS]
  refine cM (by apply decide_eq_false;omega) ?_
  rfl
def af:fm Tryz.prog Ev 333 aW:=MV (run:=fun n x=>start (iter step n) x.1 x.2) mix aF (.cons Z281.af .nil) (.cons Z282.af .nil) Tryz.func333 (by kernel_rfl) run_eq (fun ls a hl e hg=>bB a.1 a.2 hg (by have h:(ls.headD .hole).aQ.length<=maxLen:=(hl _ _ (.head _)).len;have e:a.1.map ah.row=(ls.headD .hole).aQ:=(congrArg (fun x=>x.1) e.symm);rw [<-e] at h;simpa using h))
def iq {a0:List ah}{a1:Int}(h:eL a1):eL (md a0 a1).1:=jl gT h
def oC (x:ah)(k:Int)(h0:0<=k)(hb:k+(cnt x:Int)<=4611686018427387904):(el x k).1=k+cnt x:=by
 simp only [cnt,Int.natCast_add] at hb ⊢
 simp (disch:=omega) only [el,e1,wi,Z282.kk]
 all_goals first | done | omega
def kk (a0:List ah)(a1:Int)(h0:0<=a1)(hb:a1+(sum a0:Int)<=4611686018427387904):(md a0 a1).1=a1+sum a0:=gq oC a0 a1 h0 hb
def sz (a:List ah):sum a<=60*(dP (fun y:ah=>ah.size y) a):=jo (fun x=>by
 have:=Z282.sz x.bH
 try simp only [cnt,ah.size] at *
 omega) a
end Z283
namespace Z284
set_option maxHeartbeats 8000000
inductive Pt where
 | p0 (a b:Int) (c:aD)
def pid:Pt->Nat
 | .p0 ..=>2
def cg:Pt->List V
 | .p0 a b c=>[.own 0,.int .i64 a,.int .i64 b]
def bZ:Pt->List aZ
 | .p0 a b c=>[.row 293 c]
def step (J:Pt->aK):Pt->aK
 | .p0 a b c=>(cond (decide (b<(c.length:Int))) (m2 b (c.length:Int) (call (Z277.R ((dS.at c (toNat b)).aU,a)) fun v1=>(m2 b (c.length:Int) (cm (Q b) (cm (Q b) (call (Z283.R ((dS.at c (toNat b)).bP,v1.1)) fun v2=>J (.p0 v2.1 (i64.wrap (b+1)) (List.set c (toNat b) (dS.enc (⟨v1.2,v2.2⟩:dS)))))))))) (ret ((a,c):Int×aD)))
def start (J:Pt->aK)(x0:aD)(x1:Int):aK:=J (.p0 x1 0 x0)
def live:Nat->Live:=fun i=>match i with | 2=>[(0,none),(1,none),(5,none)] | _=>[]
def pats:List (Bool×List K):=[(false,[.sl 293]),(false,[aC])]
def res:RP:=.oA [293]
abbrev E:Env:={ T:=assoc kB,G:=dD [],nt:=27,M:=fT [(331,Z277.aW),(333,Z283.aW)],np:=1,mt:=true }
def step_eq (I:cD)(p:Pt):cV E live I (pid p) (bN Tryz.f177) (fD (live (pid p)) (cg p) (bZ p)) (cE E Tryz.f177 res)=step (fun q=>I (pid q) (cg q) (bZ q)) p:=by
 cases p<;>kernel_rfl
def start_eq (I:cD)(ls:List L):eT E live I (bN Tryz.f177) (gm pats ls) (cE E Tryz.f177 res)=start (fun q=>I (pid q) (cg q) (bZ q)) (ls.headD .hole).aQ ((aA 1 ls).headD .hole).toInt:=by kernel_rfl
def run_eq (n:Nat)(ls:List L):eN E live Tryz.f177 res n (gm pats ls)=start (iter step n) (ls.headD .hole).aQ ((aA 1 ls).headD .hole).toInt:=cy (id:=pid) (vs:=cg) (hs:=bZ) (step:=step) (start:=fun J=>start J (ls.headD .hole).aQ ((aA 1 ls).headD .hole).toInt) step_eq (fun I=>start_eq I ls) n
def e1 (x:aN)(k:Int):=Z277.md x.aU k
def e2 (x:aN)(k:Int):=Z283.md x.bP ((e1 x k).1)
def el (x:aN)(k:Int):Int×aN:=((e2 x k).1,(⟨(e1 x k).2,(e2 x k).2⟩:aN))
def gT (x:aN)(k:Int)(hk:eL k):eL (el x k).1:=(Z283.iq (Z277.iq hk))
def cnt (x:aN):Nat:=0+Z277.sum x.aU+Z283.sum x.bP
def sum (a:List aN):Nat:=(a.map cnt).sum
def md (a0:List aN)(a1:Int):Int×List aN:=jq el a0 a1
def gd (a0:List aN)(a1:Int):Prop:=eL a1
def acc (ls:List L):aD×Int:=((ls.headD .hole).aQ,((aA 1 ls).headD .hole).toInt)
def R:(aD×Int)->Option (Int×aD):=RR (p2 gd) (u2 md)
def aq {a0 a1}(h:gd a0 a1):R ((a0.map aN.row),a1)=some ((md a0 a1).1,((md a0 a1).2.map aN.row)):=aR (a:=(a0,a1)) h
def aW:gP:=MN pats acc R
def bB (a0:List aN)(a1:Int)(hg:gd a0 a1)(h0:a0.length<=maxLen):∃n,start (iter step n) (a0.map aN.row) a1=ret (((md a0 a1).1,((md a0 a1).2.map aN.row)):Int×aD):=by
 unfold gd at hg
 show ∃n,iter step n (Pt.p0 a1 0 (a0.map aN.row))=_
 unfold md
 refine fY (el:=el) (xs:=a0) aN.zero eL gT (pt:=fun i k c=>Pt.p0 k (i:Int) (c.map aN.row)) (out:=fun b=>ret (b.1,b.2.map aN.row)) (fun J i k c hi hc hk=>?_) (fun J k c hc=>?_) hg
 ·have hm:c.length<=maxLen:=hc ▸ h0
  simp only [step,SS]
  refine ak (aL hi) ?_
  refine ak aJ ?_
  refine ak (aL hi) ?_
  refine bg ((e1 (c.getD i aN.zero) k).1,((e1 (c.getD i aN.zero) k).2.map aa.row)) (Z277.aq (a0:=(c.getD i aN.zero).aU) (a1:=k) hk) ?_
  repeat first | refine ak aJ ?_ | refine ak (aL hi) ?_ | refine ak (gh _) ?_
  refine bg ((e2 (c.getD i aN.zero) k).1,((e2 (c.getD i aN.zero) k).2.map ah.row)) (Z283.aq (a0:=(c.getD i aN.zero).bP) (a1:=(e1 (c.getD i aN.zero) k).1) (Z277.iq hk)) ?_
  rw [aI hi hm]
  exact congrArg (fun q=>J (Pt.p0 (el (c.getD i aN.zero) k).1 ((i+1:Nat):Int) q)) (List.map_set (f:=aN.row) (l:=c) (i:=i) (a:=(el (c.getD i aN.zero) k).2)).symm
 ·simp only [step,SS]
  refine cM (by apply decide_eq_false;omega) ?_
  rfl
def af:fm Tryz.prog Ev 177 aW:=MV (run:=fun n x=>start (iter step n) x.1 x.2) mix aF .nil (.cons Z277.af (.cons Z283.af .nil)) Tryz.func177 (by kernel_rfl) run_eq (fun ls a hl e hg=>bB a.1 a.2 hg (by have h:(ls.headD .hole).aQ.length<=maxLen:=(hl _ _ (.head _)).len;have e:a.1.map aN.row=(ls.headD .hole).aQ:=(congrArg (fun x=>x.1) e.symm);rw [<-e] at h;simpa using h))
def iq {a0:List aN}{a1:Int}(h:eL a1):eL (md a0 a1).1:=jl gT h
def oC (x:aN)(k:Int)(h0:0<=k)(hb:k+(cnt x:Int)<=4611686018427387904):(el x k).1=k+cnt x:=by
 simp only [cnt,Int.natCast_add] at hb ⊢
 simp (disch:=omega) only [el,e1,e2,wi,Z277.kk,Z283.kk]
 all_goals first | done | omega
def kk (a0:List aN)(a1:Int)(h0:0<=a1)(hb:a1+(sum a0:Int)<=4611686018427387904):(md a0 a1).1=a1+sum a0:=gq oC a0 a1 h0 hb
def sz (a:List aN):sum a<=60*(dP (fun y:aN=>aN.size y) a):=jo (fun x=>by
 have:=Z277.sz x.aU
 have:=Z283.sz x.bP
 try simp only [cnt,aN.size] at *
 omega) a
end Z284
namespace Z285
set_option maxHeartbeats 8000000
inductive Pt where
 | p0 (a b:Int) (c:aD)
def pid:Pt->Nat
 | .p0 ..=>2
def cg:Pt->List V
 | .p0 a b c=>[.own 0,.int .i64 a,.int .i64 b]
def bZ:Pt->List aZ
 | .p0 a b c=>[.row 227 c]
def step (J:Pt->aK):Pt->aK
 | .p0 a b c=>(cond (decide (b<(c.length:Int))) (m2 b (c.length:Int) (call (Z284.R ((cR.at c (toNat b)).bK,a)) fun v1=>(m2 b (c.length:Int) (cm (Q b) (J (.p0 (i64.wrap (v1.1+1)) (i64.wrap (b+1)) (List.set c (toNat b) (cR.enc (⟨v1.2,v1.1⟩:cR))))))))) (ret ((a,c):Int×aD)))
def start (J:Pt->aK)(x0:aD)(x1:Int):aK:=J (.p0 x1 0 x0)
def live:Nat->Live:=fun i=>match i with | 2=>[(0,none),(1,none),(5,none)] | _=>[]
def pats:List (Bool×List K):=[(false,[.sl 227]),(false,[aC])]
def res:RP:=.oA [227]
abbrev E:Env:={ T:=assoc kB,G:=dD [],nt:=27,M:=fT [(177,Z284.aW)],np:=1,mt:=true }
def step_eq (I:cD)(p:Pt):cV E live I (pid p) (bN Tryz.f37) (fD (live (pid p)) (cg p) (bZ p)) (cE E Tryz.f37 res)=step (fun q=>I (pid q) (cg q) (bZ q)) p:=by
 cases p<;>kernel_rfl
def start_eq (I:cD)(ls:List L):eT E live I (bN Tryz.f37) (gm pats ls) (cE E Tryz.f37 res)=start (fun q=>I (pid q) (cg q) (bZ q)) (ls.headD .hole).aQ ((aA 1 ls).headD .hole).toInt:=by kernel_rfl
def run_eq (n:Nat)(ls:List L):eN E live Tryz.f37 res n (gm pats ls)=start (iter step n) (ls.headD .hole).aQ ((aA 1 ls).headD .hole).toInt:=cy (id:=pid) (vs:=cg) (hs:=bZ) (step:=step) (start:=fun J=>start J (ls.headD .hole).aQ ((aA 1 ls).headD .hole).toInt) step_eq (fun I=>start_eq I ls) n
def e1 (x:av)(k:Int):=Z284.md x.bK k
def el (x:av)(k:Int):Int×av:=((i64.wrap ((e1 x k).1+1)),(⟨(e1 x k).2,(e1 x k).1⟩:av))
def gT (x:av)(k:Int)(hk:eL k):eL (el x k).1:=(cj _)
def cnt (x:av):Nat:=1+Z284.sum x.bK
def sum (a:List av):Nat:=(a.map cnt).sum
def md (a0:List av)(a1:Int):Int×List av:=jq el a0 a1
def gd (a0:List av)(a1:Int):Prop:=eL a1
def acc (ls:List L):aD×Int:=((ls.headD .hole).aQ,((aA 1 ls).headD .hole).toInt)
def R:(aD×Int)->Option (Int×aD):=RR (p2 gd) (u2 md)
def aq {a0 a1}(h:gd a0 a1):R ((a0.map av.row),a1)=some ((md a0 a1).1,((md a0 a1).2.map av.row)):=aR (a:=(a0,a1)) h
def aW:gP:=MN pats acc R
def bB (a0:List av)(a1:Int)(hg:gd a0 a1)(h0:a0.length<=maxLen):∃n,start (iter step n) (a0.map av.row) a1=ret (((md a0 a1).1,((md a0 a1).2.map av.row)):Int×aD):=by
 unfold gd at hg
 show ∃n,iter step n (Pt.p0 a1 0 (a0.map av.row))=_
 unfold md
 refine fY (el:=el) (xs:=a0) av.zero eL gT (pt:=fun i k c=>Pt.p0 k (i:Int) (c.map av.row)) (out:=fun b=>ret (b.1,b.2.map av.row)) (fun J i k c hi hc hk=>?_) (fun J k c hc=>?_) hg
 ·have hm:c.length<=maxLen:=hc ▸ h0
  simp only [step,SS]
  refine ak (aL hi) ?_
  refine ak aJ ?_
  refine ak (aL hi) ?_
  refine bg ((e1 (c.getD i av.zero) k).1,((e1 (c.getD i av.zero) k).2.map aN.row)) (Z284.aq (a0:=(c.getD i av.zero).bK) (a1:=k) hk) ?_
  refine ak aJ ?_
  refine ak (aL hi) ?_
  refine ak (gh _) ?_
  rw [aI hi hm]
  exact congrArg (fun q=>J (Pt.p0 (el (c.getD i av.zero) k).1 ((i+1:Nat):Int) q)) (List.map_set (f:=av.row) (l:=c) (i:=i) (a:=(el (c.getD i av.zero) k).2)).symm
 ·simp only [step,SS]
  refine cM (by apply decide_eq_false;omega) ?_
  rfl
def af:fm Tryz.prog Ev 37 aW:=MV (run:=fun n x=>start (iter step n) x.1 x.2) mix aF .nil (.cons Z284.af .nil) Tryz.func37 (by kernel_rfl) run_eq (fun ls a hl e hg=>bB a.1 a.2 hg (by have h:(ls.headD .hole).aQ.length<=maxLen:=(hl _ _ (.head _)).len;have e:a.1.map av.row=(ls.headD .hole).aQ:=(congrArg (fun x=>x.1) e.symm);rw [<-e] at h;simpa using h))
def iq {a0:List av}{a1:Int}(h:eL a1):eL (md a0 a1).1:=jl gT h
def oC (x:av)(k:Int)(h0:0<=k)(hb:k+(cnt x:Int)<=4611686018427387904):(el x k).1=k+cnt x:=by
 simp only [cnt,Int.natCast_add] at hb ⊢
 simp (disch:=omega) only [el,e1,wi,Z284.kk]
 all_goals first | done | omega
def kk (a0:List av)(a1:Int)(h0:0<=a1)(hb:a1+(sum a0:Int)<=4611686018427387904):(md a0 a1).1=a1+sum a0:=gq oC a0 a1 h0 hb
def sz (a:List av):sum a<=60*(dP (fun y:av=>av.size y) a):=jo (fun x=>by
 have:=Z284.sz x.bK
 try simp only [cnt,av.size] at *
 omega) a
end Z285
namespace Z286
set_option maxHeartbeats 8000000
inductive Pt where
 | p0 (a b:Int) (c:aD)
def pid:Pt->Nat
 | .p0 ..=>2
def cg:Pt->List V
 | .p0 a b c=>[.own 0,.int .i64 a,.int .i64 b]
def bZ:Pt->List aZ
 | .p0 a b c=>[.row 222 c]
def step (J:Pt->aK):Pt->aK
 | .p0 a b c=>(cond (decide (b<(c.length:Int))) (call (Z281.R a) fun v1=>(m2 b (c.length:Int) (m2 b (c.length:Int) (cm (Q b) (J (.p0 (i64.wrap ((i64.wrap (a+1))+1)) (i64.wrap (b+1)) (List.set c (toNat b) (bk.enc (⟨v1,(i64.wrap (a+1))⟩:bk))))))))) (ret ((a,c):Int×aD)))
def start (J:Pt->aK)(x0:aD)(x1:Int):aK:=J (.p0 x1 0 x0)
def live:Nat->Live:=fun i=>match i with | 2=>[(0,none),(1,none),(5,none)] | _=>[]
def pats:List (Bool×List K):=[(false,[.sl 222]),(false,[aC])]
def res:RP:=.oA [222]
abbrev E:Env:={ T:=assoc kB,G:=dD [(178,Z281.aW)],nt:=28,M:=fT [],np:=1,mt:=true }
def step_eq (I:cD)(p:Pt):cV E live I (pid p) (bN Tryz.f38) (fD (live (pid p)) (cg p) (bZ p)) (cE E Tryz.f38 res)=step (fun q=>I (pid q) (cg q) (bZ q)) p:=by
 cases p<;>kernel_rfl
def start_eq (I:cD)(ls:List L):eT E live I (bN Tryz.f38) (gm pats ls) (cE E Tryz.f38 res)=start (fun q=>I (pid q) (cg q) (bZ q)) (ls.headD .hole).aQ ((aA 1 ls).headD .hole).toInt:=by kernel_rfl
def run_eq (n:Nat)(ls:List L):eN E live Tryz.f38 res n (gm pats ls)=start (iter step n) (ls.headD .hole).aQ ((aA 1 ls).headD .hole).toInt:=cy (id:=pid) (vs:=cg) (hs:=bZ) (step:=step) (start:=fun J=>start J (ls.headD .hole).aQ ((aA 1 ls).headD .hole).toInt) step_eq (fun I=>start_eq I ls) n
def el (x:bk)(k:Int):Int×bk:=((i64.wrap ((i64.wrap (k+1))+1)),(⟨(Z281.md k),(i64.wrap (k+1))⟩:bk))
def gT (x:bk)(k:Int)(hk:eL k):eL (el x k).1:=(cj _)
def cnt (x:bk):Nat:=2
def sum (a:List bk):Nat:=(a.map cnt).sum
def md (a0:List bk)(a1:Int):Int×List bk:=jq el a0 a1
def gd (a0:List bk)(a1:Int):Prop:=eL a1
def acc (ls:List L):aD×Int:=((ls.headD .hole).aQ,((aA 1 ls).headD .hole).toInt)
def R:(aD×Int)->Option (Int×aD):=RR (p2 gd) (u2 md)
def aq {a0 a1}(h:gd a0 a1):R ((a0.map bk.row),a1)=some ((md a0 a1).1,((md a0 a1).2.map bk.row)):=aR (a:=(a0,a1)) h
def aW:gP:=MN pats acc R
def bB (a0:List bk)(a1:Int)(hg:gd a0 a1)(h0:a0.length<=maxLen):∃n,start (iter step n) (a0.map bk.row) a1=ret (((md a0 a1).1,((md a0 a1).2.map bk.row)):Int×aD):=by
 unfold gd at hg
 show ∃n,iter step n (Pt.p0 a1 0 (a0.map bk.row))=_
 unfold md
 refine fY (el:=el) (xs:=a0) bk.zero eL gT (pt:=fun i k c=>Pt.p0 k (i:Int) (c.map bk.row)) (out:=fun b=>ret (b.1,b.2.map bk.row)) (fun J i k c hi hc hk=>?_) (fun J k c hc=>?_) hg
 ·have hm:c.length<=maxLen:=hc ▸ h0
  simp only [step,SS]
  refine ak (aL hi) ?_
  refine bg (Z281.md k) (Z281.aq (a0:=k) hk) ?_
  repeat first | refine ak aJ ?_ | refine ak (aL hi) ?_ | refine ak (gh _) ?_
  rw [aI hi hm]
  exact congrArg (fun q=>J (Pt.p0 (el (c.getD i bk.zero) k).1 ((i+1:Nat):Int) q)) (List.map_set (f:=bk.row) (l:=c) (i:=i) (a:=(el (c.getD i bk.zero) k).2)).symm
 ·simp only [step,SS]
  refine cM (by apply decide_eq_false;omega) ?_
  rfl
def af:fm Tryz.prog Ev 38 aW:=MV (run:=fun n x=>start (iter step n) x.1 x.2) mix aF (.cons Z281.af .nil) .nil Tryz.func38 (by kernel_rfl) run_eq (fun ls a hl e hg=>bB a.1 a.2 hg (by have h:(ls.headD .hole).aQ.length<=maxLen:=(hl _ _ (.head _)).len;have e:a.1.map bk.row=(ls.headD .hole).aQ:=(congrArg (fun x=>x.1) e.symm);rw [<-e] at h;simpa using h))
def iq {a0:List bk}{a1:Int}(h:eL a1):eL (md a0 a1).1:=jl gT h
def oC (x:bk)(k:Int)(h0:0<=k)(hb:k+(cnt x:Int)<=4611686018427387904):(el x k).1=k+cnt x:=by
 simp only [cnt,Int.natCast_add] at hb ⊢
 simp (disch:=omega) only [el,wi]
 all_goals first | done | omega
def kk (a0:List bk)(a1:Int)(h0:0<=a1)(hb:a1+(sum a0:Int)<=4611686018427387904):(md a0 a1).1=a1+sum a0:=gq oC a0 a1 h0 hb
def sz (a:List bk):sum a<=60*(dP (fun y:bk=>bk.size y) a):=jo (fun x=>by
 try simp only [cnt,bk.size] at *
 omega) a
end Z286
namespace Z287
set_option maxHeartbeats 8000000
inductive Pt where
 | p0 (a b:Int) (c:aD)
def pid:Pt->Nat
 | .p0 ..=>2
def cg:Pt->List V
 | .p0 a b c=>[.own 0,.int .i64 a,.int .i64 b]
def bZ:Pt->List aZ
 | .p0 a b c=>[.row 64 c]
def step (J:Pt->aK):Pt->aK
 | .p0 a b c=>(cond (decide (b<(c.length:Int))) (m2 b (c.length:Int) (call (Z278.R ((cO.at c (toNat b)).bR.aH,a)) fun v1=>(m2 b (c.length:Int) (cm (Q b) (cm (Q b) (call (Z279.R ((cO.at c (toNat b)).bR.aY,v1.1)) fun v2=>(m2 b (c.length:Int) (cm (Q b) (call (Z281.R (i64.wrap (v2.1+1))) fun v3=>(m2 b (c.length:Int) (cm (Q b) (m2 b (c.length:Int) (cm (Q b) (m2 b (c.length:Int) (cm (Q b) (m2 b (c.length:Int) (cm (Q b) (cm (Q b) (call (Z282.R ((cO.at c (toNat b)).aV.bH,(i64.wrap ((i64.wrap ((i64.wrap ((i64.wrap (v2.1+1))+1))+1))+1)))) fun v4=>(m2 b (c.length:Int) (cm (Q b) (cm (Q b) (call (Z275.R ((cO.at c (toNat b)).bK,v4.1)) fun v5=>(m2 b (c.length:Int) (cm (Q b) (J (.p0 (i64.wrap (v5.1+1)) (i64.wrap (b+1)) (List.set c (toNat b) (cO.enc (⟨(⟨v1.2,v2.2⟩:bt),v2.1,(⟨v3,(i64.wrap ((i64.wrap (v2.1+1))+1)),(i64.wrap ((i64.wrap ((i64.wrap (v2.1+1))+1))+1)),v4.2⟩:bf),v5.2,v5.1⟩:cO)))))))))))))))))))))))))))))) (ret ((a,c):Int×aD)))
def start (J:Pt->aK)(x0:aD)(x1:Int):aK:=J (.p0 x1 0 x0)
def live:Nat->Live:=fun i=>match i with | 2=>[(0,none),(1,none),(5,none)] | _=>[]
def pats:List (Bool×List K):=[(false,[.sl 64]),(false,[aC])]
def res:RP:=.oA [64]
abbrev E:Env:={ T:=assoc kB,G:=dD [(178,Z281.aW)],nt:=83,M:=fT [(175,Z278.aW),(176,Z279.aW),(39,Z282.aW),(179,Z275.aW)],np:=1,mt:=true }
def step_eq (I:cD)(p:Pt):cV E live I (pid p) (bN Tryz.f40) (fD (live (pid p)) (cg p) (bZ p)) (cE E Tryz.f40 res)=step (fun q=>I (pid q) (cg q) (bZ q)) p:=by
 cases p<;>kernel_rfl
def start_eq (I:cD)(ls:List L):eT E live I (bN Tryz.f40) (gm pats ls) (cE E Tryz.f40 res)=start (fun q=>I (pid q) (cg q) (bZ q)) (ls.headD .hole).aQ ((aA 1 ls).headD .hole).toInt:=by kernel_rfl
def run_eq (n:Nat)(ls:List L):eN E live Tryz.f40 res n (gm pats ls)=start (iter step n) (ls.headD .hole).aQ ((aA 1 ls).headD .hole).toInt:=cy (id:=pid) (vs:=cg) (hs:=bZ) (step:=step) (start:=fun J=>start J (ls.headD .hole).aQ ((aA 1 ls).headD .hole).toInt) step_eq (fun I=>start_eq I ls) n
def e1 (x:aM)(k:Int):=Z278.md ((x.bR).aH) k
def e2 (x:aM)(k:Int):=Z279.md ((x.bR).aY) ((e1 x k).1)
def e3 (x:aM)(k:Int):=Z282.md ((x.aV).bH) (i64.wrap ((i64.wrap ((i64.wrap ((i64.wrap ((e2 x k).1+1))+1))+1))+1))
def e4 (x:aM)(k:Int):=Z275.md x.bK ((e3 x k).1)
def el (x:aM)(k:Int):Int×aM:=((i64.wrap ((e4 x k).1+1)),(⟨(⟨(e1 x k).2,(e2 x k).2⟩:aj),(e2 x k).1,(⟨(Z281.md (i64.wrap ((e2 x k).1+1))),(i64.wrap ((i64.wrap ((e2 x k).1+1))+1)),(i64.wrap ((i64.wrap ((i64.wrap ((e2 x k).1+1))+1))+1)),(e3 x k).2⟩:ah),(e4 x k).2,(e4 x k).1⟩:aM))
def gT (x:aM)(k:Int)(hk:eL k):eL (el x k).1:=(cj _)
def cnt (x:aM):Nat:=5+Z278.sum ((x.bR).aH)+Z279.sum ((x.bR).aY)+Z282.sum ((x.aV).bH)+Z275.sum x.bK
def sum (a:List aM):Nat:=(a.map cnt).sum
def md (a0:List aM)(a1:Int):Int×List aM:=jq el a0 a1
def gd (a0:List aM)(a1:Int):Prop:=eL a1
def acc (ls:List L):aD×Int:=((ls.headD .hole).aQ,((aA 1 ls).headD .hole).toInt)
def R:(aD×Int)->Option (Int×aD):=RR (p2 gd) (u2 md)
def aq {a0 a1}(h:gd a0 a1):R ((a0.map aM.row),a1)=some ((md a0 a1).1,((md a0 a1).2.map aM.row)):=aR (a:=(a0,a1)) h
def aW:gP:=MN pats acc R
def bB (a0:List aM)(a1:Int)(hg:gd a0 a1)(h0:a0.length<=maxLen):∃n,start (iter step n) (a0.map aM.row) a1=ret (((md a0 a1).1,((md a0 a1).2.map aM.row)):Int×aD):=by
 unfold gd at hg
 show ∃n,iter step n (Pt.p0 a1 0 (a0.map aM.row))=_
 unfold md
 refine fY (el:=el) (xs:=a0) aM.zero eL gT (pt:=fun i k c=>Pt.p0 k (i:Int) (c.map aM.row)) (out:=fun b=>ret (b.1,b.2.map aM.row)) (fun J i k c hi hc hk=>?_) (fun J k c hc=>?_) hg
 ·have hm:c.length<=maxLen:=hc ▸ h0
  simp only [step,SS]
  refine ak (aL hi) ?_
  refine ak aJ ?_
  refine ak (aL hi) ?_
  refine bg ((e1 (c.getD i aM.zero) k).1,((e1 (c.getD i aM.zero) k).2.map (dO aa.row))) (Z278.aq (a0:=((c.getD i aM.zero).bR).aH) (a1:=k) hk) ?_
  repeat first | refine ak aJ ?_ | refine ak (aL hi) ?_ | refine ak (gh _) ?_
  refine bg ((e2 (c.getD i aM.zero) k).1,((e2 (c.getD i aM.zero) k).2.map aB.row)) (Z279.aq (a0:=((c.getD i aM.zero).bR).aY) (a1:=(e1 (c.getD i aM.zero) k).1) (Z278.iq hk)) ?_
  refine ak aJ ?_
  refine ak (aL hi) ?_
  refine ak (gh _) ?_
  refine bg (Z281.md (i64.wrap ((e2 (c.getD i aM.zero) k).1+1))) (Z281.aq (a0:=i64.wrap ((e2 (c.getD i aM.zero) k).1+1)) (cj _)) ?_
  repeat first | refine ak aJ ?_ | refine ak (aL hi) ?_ | refine ak (gh _) ?_
  refine bg ((e3 (c.getD i aM.zero) k).1,((e3 (c.getD i aM.zero) k).2.map cI)) (Z282.aq (a0:=((c.getD i aM.zero).aV).bH) (a1:=i64.wrap ((i64.wrap ((i64.wrap ((i64.wrap ((e2 (c.getD i aM.zero) k).1+1))+1))+1))+1)) (cj _)) ?_
  repeat first | refine ak aJ ?_ | refine ak (aL hi) ?_ | refine ak (gh _) ?_
  refine bg ((e4 (c.getD i aM.zero) k).1,((e4 (c.getD i aM.zero) k).2.map bu)) (Z275.aq (a0:=(c.getD i aM.zero).bK) (a1:=(e3 (c.getD i aM.zero) k).1) (Z282.iq (cj _))) ?_
  refine ak aJ ?_
  refine ak (aL hi) ?_
  refine ak (gh _) ?_
  rw [aI hi hm]
  exact congrArg (fun q=>J (Pt.p0 (el (c.getD i aM.zero) k).1 ((i+1:Nat):Int) q)) (List.map_set (f:=aM.row) (l:=c) (i:=i) (a:=(el (c.getD i aM.zero) k).2)).symm
 ·simp only [step,SS]
  refine cM (by apply decide_eq_false;omega) ?_
  rfl
def af:fm Tryz.prog Ev 40 aW:=MV (run:=fun n x=>start (iter step n) x.1 x.2) mix aF (.cons Z281.af .nil) (.cons Z278.af (.cons Z279.af (.cons Z282.af (.cons Z275.af .nil)))) Tryz.func40 (by kernel_rfl) run_eq (fun ls a hl e hg=>bB a.1 a.2 hg (by have h:(ls.headD .hole).aQ.length<=maxLen:=(hl _ _ (.head _)).len;have e:a.1.map aM.row=(ls.headD .hole).aQ:=(congrArg (fun x=>x.1) e.symm);rw [<-e] at h;simpa using h))
def iq {a0:List aM}{a1:Int}(h:eL a1):eL (md a0 a1).1:=jl gT h
def oC (x:aM)(k:Int)(h0:0<=k)(hb:k+(cnt x:Int)<=4611686018427387904):(el x k).1=k+cnt x:=by
 simp only [cnt,Int.natCast_add] at hb ⊢
 simp (disch:=omega) only [el,e1,e2,e3,e4,wi,Z278.kk,Z279.kk,Z282.kk,Z275.kk]
 all_goals first | done | omega
def kk (a0:List aM)(a1:Int)(h0:0<=a1)(hb:a1+(sum a0:Int)<=4611686018427387904):(md a0 a1).1=a1+sum a0:=gq oC a0 a1 h0 hb
def sz (a:List aM):sum a<=60*(dP (fun y:aM=>aM.size y) a):=jo (fun x=>by
 have:=Z278.sz ((x.bR).aH)
 have:=Z279.sz ((x.bR).aY)
 have:=Z282.sz ((x.aV).bH)
 have:=Z275.sz x.bK
 try simp only [cnt,aM.size,aj.size,ah.size] at *
 omega) a
end Z287
namespace Z288
set_option maxHeartbeats 8000000
inductive Pt where
 | p0 (a:aD) (b c:Int)
def pid:Pt->Nat
 | .p0 ..=>2
def cg:Pt->List V
 | .p0 a b c=>[.sl none 3 a,.int .i64 b,.int .i64 c]
def bZ:Pt->List aZ
 | .p0 a b c=>[]
def step (J:Pt->aK):Pt->aK
 | .p0 a b c=>(cond (decide (c<(a.length:Int))) (m2 c (a.length:Int) (cond ((jG a (toNat c)) != b) (ret ((-1):Int)) (J (.p0 a (i64.wrap (b+1)) (i64.wrap (c+1)))))) (ret (b:Int)))
def start (J:Pt->aK)(x0:aD)(x1:Int):aK:=J (.p0 x0 x1 0)
def live:Nat->Live:=fun i=>match i with | 2=>[(0,none),(1,none),(5,none)] | _=>[]
def pats:List gk:=[.rd (.sl 3),.rd (.int .i64)]
def res:RP:=.one (.rd (.int .i64))
abbrev E:Env:={ T:=assoc kB,G:=dD [],nt:=21 }
def step_eq (I:cD)(p:Pt):cV E live I (pid p) (bN Tryz.f183) (fD (live (pid p)) (cg p) (bZ p)) (cE E Tryz.f183 res)=step (fun q=>I (pid q) (cg q) (bZ q)) p:=by
 cases p<;>kernel_rfl
def start_eq (I:cD)(ls:List L):eT E live I (bN Tryz.f183) (cZ pats ls) (cE E Tryz.f183 res)=start (fun q=>I (pid q) (cg q) (bZ q)) (ls.headD .hole).aQ ((aA 1 ls).headD .hole).toInt:=by kernel_rfl
def run_eq (n:Nat)(ls:List L):eN E live Tryz.f183 res n (cZ pats ls)=start (iter step n) (ls.headD .hole).aQ ((aA 1 ls).headD .hole).toInt:=cy (id:=pid) (vs:=cg) (hs:=bZ) (step:=step) (start:=fun J=>start J (ls.headD .hole).aQ ((aA 1 ls).headD .hole).toInt) step_eq (fun I=>start_eq I ls) n
def f (x k:Int):Option Int:=(cond (x != k) none (some (i64.wrap (k+1))))
def rQ (x k k2:Int)(hk:eL k)(h:f x k=some k2):eL k2:=by
 unfold f at h
 have h:=bJ h
 injection h with h
 subst h
 exact (cj _)
def md (a0:List Int)(a1:Int):Int:=jr f a0 a1
def gd (a0:List Int)(a1:Int):Prop:=eL a1
def acc (ls:List L):aD×Int:=((ls.headD .hole).aQ,((aA 1 ls).headD .hole).toInt)
def R:(aD×Int)->Option Int:=RR (p2 gd) (u2 md)
def aq {a0 a1}(h:gd a0 a1):R ((a0.map bu),a1)=some (md a0 a1):=aR (a:=(a0,a1)) h
def aW:ga:=CN pats res acc R
def bB (a0:List Int)(a1:Int)(hg:gd a0 a1)(h0:a0.length<=maxLen):∃n,start (iter step n) (a0.map bu) a1=ret ((md a0 a1):Int):=by
 unfold gd at hg
 show ∃n,iter step n (Pt.p0 (a0.map bu) a1 0)=_
 unfold md
 refine iN (f:=f) (xs:=a0) 0 eL rQ (pt:=fun i k=>Pt.p0 (a0.map bu) k (i:Int)) (fun J i k hi hk=>?_) (fun J k=>?_) hg
 ·simp only [step,SS]
  refine ak (aL hi) ?_
  refine ak aJ ?_
  refine ak (aL hi) ?_
  refine bI rfl ?_
  rw [aI hi h0]
  rfl
 ·simp only [step,SS]
  refine cM (by apply decide_eq_false;omega) ?_
  rfl
def af:cG 183 aW:=VV (run:=fun n x=>start (iter step n) x.1 x.2) mix aF .nil Tryz.func183 (by kernel_rfl) run_eq (fun ls a hl e hg=>bB a.1 a.2 hg (by have h:(ls.headD .hole).aQ.length<=maxLen:=hl.1.len;have e:a.1.map bu=(ls.headD .hole).aQ:=(congrArg (fun x=>x.1) e.symm);rw [<-e] at h;simpa using h))
def iq {a0:List Int}{a1:Int}(h:eL a1):eL (md a0 a1):=jL rQ kJ h
def wW (x k:Int)(h0:0<=k)(hb:k+(Z275.cnt x:Int)<=4611686018427387904):f (Z275.el x k).2 k=some (k+Z275.cnt x):=by
 simp only [Z275.cnt,Int.natCast_add] at hb ⊢
 simp (disch:=omega) only [Z275.el,f,wi,bne_self_eq_false,beq_self_eq_true,fu,Bool.not_true,bA,dz]
 all_goals first | done | omega | (congr 1<;>omega)
def mk (a0:List Int)(a1:Int)(h0:0<=a1)(hb:a1+(Z275.sum a0:Int)<=4611686018427387904):md (Z275.md a0 a1).2 a1=a1+Z275.sum a0:=iy Z275.oC wW a0 a1 h0 hb
end Z288
namespace Z289
set_option maxHeartbeats 8000000
inductive Pt where
 | p0 (a:aD) (b c:Int)
def pid:Pt->Nat
 | .p0 ..=>2
def cg:Pt->List V
 | .p0 a b c=>[.sl none 428 a,.int .i64 b,.int .i64 c]
def bZ:Pt->List aZ
 | .p0 a b c=>[]
def step (J:Pt->aK):Pt->aK
 | .p0 a b c=>(cond (decide (c<(a.length:Int))) (m2 c (a.length:Int) (cond ((bw.at a (toNat c)).gW != b) (ret ((-1):Int)) (m2 c (a.length:Int) (cond ((bw.at a (toNat c)).jD != (i64.wrap (b+1))) (ret ((-1):Int)) (J (.p0 a (i64.wrap ((i64.wrap (b+1))+1)) (i64.wrap (c+1)))))))) (ret (b:Int)))
def start (J:Pt->aK)(x0:aD)(x1:Int):aK:=J (.p0 x0 x1 0)
def live:Nat->Live:=fun i=>match i with | 2=>[(0,none),(1,none),(5,none)] | _=>[]
def pats:List gk:=[.rd (.sl 428),.rd (.int .i64)]
def res:RP:=.one (.rd (.int .i64))
abbrev E:Env:={ T:=assoc kB,G:=dD [],nt:=31 }
def step_eq (I:cD)(p:Pt):cV E live I (pid p) (bN Tryz.f335) (fD (live (pid p)) (cg p) (bZ p)) (cE E Tryz.f335 res)=step (fun q=>I (pid q) (cg q) (bZ q)) p:=by
 cases p<;>kernel_rfl
def start_eq (I:cD)(ls:List L):eT E live I (bN Tryz.f335) (cZ pats ls) (cE E Tryz.f335 res)=start (fun q=>I (pid q) (cg q) (bZ q)) (ls.headD .hole).aQ ((aA 1 ls).headD .hole).toInt:=by kernel_rfl
def run_eq (n:Nat)(ls:List L):eN E live Tryz.f335 res n (cZ pats ls)=start (iter step n) (ls.headD .hole).aQ ((aA 1 ls).headD .hole).toInt:=cy (id:=pid) (vs:=cg) (hs:=bZ) (step:=step) (start:=fun J=>start J (ls.headD .hole).aQ ((aA 1 ls).headD .hole).toInt) step_eq (fun I=>start_eq I ls) n
def f (x:bw)(k:Int):Option Int:=(cond (x.gW != k) none (cond (x.jD != (i64.wrap (k+1))) none (some (i64.wrap ((i64.wrap (k+1))+1)))))
def rQ (x:bw)(k k2:Int)(hk:eL k)(h:f x k=some k2):eL k2:=by
 unfold f at h
 have h:=bJ h
 have h:=bJ h
 injection h with h
 subst h
 exact (cj _)
def md (a0:List bw)(a1:Int):Int:=jr f a0 a1
def gd (a0:List bw)(a1:Int):Prop:=eL a1
def acc (ls:List L):aD×Int:=((ls.headD .hole).aQ,((aA 1 ls).headD .hole).toInt)
def R:(aD×Int)->Option Int:=RR (p2 gd) (u2 md)
def aq {a0 a1}(h:gd a0 a1):R ((a0.map bw.row),a1)=some (md a0 a1):=aR (a:=(a0,a1)) h
def aW:ga:=CN pats res acc R
def bB (a0:List bw)(a1:Int)(hg:gd a0 a1)(h0:a0.length<=maxLen):∃n,start (iter step n) (a0.map bw.row) a1=ret ((md a0 a1):Int):=by
 unfold gd at hg
 show ∃n,iter step n (Pt.p0 (a0.map bw.row) a1 0)=_
 unfold md
 refine iN (f:=f) (xs:=a0) bw.zero eL rQ (pt:=fun i k=>Pt.p0 (a0.map bw.row) k (i:Int)) (fun J i k hi hk=>?_) (fun J k=>?_) hg
 ·simp only [step,SS]
  refine ak (aL hi) ?_
  refine ak aJ ?_
  refine ak (aL hi) ?_
  refine bI rfl ?_
  refine ak aJ ?_
  refine ak (aL hi) ?_
  refine bI rfl ?_
  rw [aI hi h0]
  rfl
 ·simp only [step,SS]
  refine cM (by apply decide_eq_false;omega) ?_
  rfl
def af:cG 335 aW:=VV (run:=fun n x=>start (iter step n) x.1 x.2) mix aF .nil Tryz.func335 (by kernel_rfl) run_eq (fun ls a hl e hg=>bB a.1 a.2 hg (by have h:(ls.headD .hole).aQ.length<=maxLen:=hl.1.len;have e:a.1.map bw.row=(ls.headD .hole).aQ:=(congrArg (fun x=>x.1) e.symm);rw [<-e] at h;simpa using h))
def iq {a0:List bw}{a1:Int}(h:eL a1):eL (md a0 a1):=jL rQ kJ h
def wW (x:bw)(k:Int)(h0:0<=k)(hb:k+(Z276.cnt x:Int)<=4611686018427387904):f (Z276.el x k).2 k=some (k+Z276.cnt x):=by
 simp only [Z276.cnt,Int.natCast_add] at hb ⊢
 simp (disch:=omega) only [Z276.el,f,wi,bne_self_eq_false,beq_self_eq_true,fu,Bool.not_true,bA,dz]
 all_goals first | done | omega | (congr 1<;>omega)
def mk (a0:List bw)(a1:Int)(h0:0<=a1)(hb:a1+(Z276.sum a0:Int)<=4611686018427387904):md (Z276.md a0 a1).2 a1=a1+Z276.sum a0:=iy Z276.oC wW a0 a1 h0 hb
end Z289
namespace Z290
set_option maxHeartbeats 8000000
inductive Pt where
 | p0 (a:aD) (b c:Int)
def pid:Pt->Nat
 | .p0 ..=>2
def cg:Pt->List V
 | .p0 a b c=>[.sl none 123 a,.int .i64 b,.int .i64 c]
def bZ:Pt->List aZ
 | .p0 a b c=>[]
def step (J:Pt->aK):Pt->aK
 | .p0 a b c=>(cond (decide (c<(a.length:Int))) (m2 c (a.length:Int) (cond ((aT.at a (toNat c)).au.bz != b) (ret ((-1):Int)) (m2 c (a.length:Int) (cond ((aT.at a (toNat c)).au.cN != (i64.wrap (b+1))) (ret ((-1):Int)) (m2 c (a.length:Int) (cond ((aT.at a (toNat c)).au.bM != (i64.wrap ((i64.wrap (b+1))+1))) (ret ((-1):Int)) (m2 c (a.length:Int) (cond ((aT.at a (toNat c)).au.cK != (i64.wrap ((i64.wrap ((i64.wrap (b+1))+1))+1))) (ret ((-1):Int)) (m2 c (a.length:Int) (cond ((aT.at a (toNat c)).au.cF != (i64.wrap ((i64.wrap ((i64.wrap ((i64.wrap (b+1))+1))+1))+1))) (ret ((-1):Int)) (m2 c (a.length:Int) (cond ((aT.at a (toNat c)).au.cz != (i64.wrap ((i64.wrap ((i64.wrap ((i64.wrap ((i64.wrap (b+1))+1))+1))+1))+1))) (ret ((-1):Int)) (m2 c (a.length:Int) (cond ((aT.at a (toNat c)).au.dm != (i64.wrap ((i64.wrap ((i64.wrap ((i64.wrap ((i64.wrap ((i64.wrap (b+1))+1))+1))+1))+1))+1))) (ret ((-1):Int)) (m2 c (a.length:Int) (cond ((aT.at a (toNat c)).au.dH != (i64.wrap ((i64.wrap ((i64.wrap ((i64.wrap ((i64.wrap ((i64.wrap ((i64.wrap (b+1))+1))+1))+1))+1))+1))+1))) (ret ((-1):Int)) (m2 c (a.length:Int) (call (Z288.R ((aT.at a (toNat c)).au.bQ.aX,(i64.wrap ((i64.wrap ((i64.wrap ((i64.wrap ((i64.wrap ((i64.wrap ((i64.wrap ((i64.wrap (b+1))+1))+1))+1))+1))+1))+1))+1)))) fun v1=>(cond (decide (v1<0)) (ret ((-1):Int)) (m2 c (a.length:Int) (cond ((aT.at a (toNat c)).au.bQ.cH != v1) (ret ((-1):Int)) (m2 c (a.length:Int) (call (Z288.R ((aT.at a (toNat c)).au.bE.aX,(i64.wrap (v1+1)))) fun v2=>(cond (decide (v2<0)) (ret ((-1):Int)) (m2 c (a.length:Int) (cond ((aT.at a (toNat c)).au.bE.cH != v2) (ret ((-1):Int)) (m2 c (a.length:Int) (cond ((aT.at a (toNat c)).au.dw != (i64.wrap (v2+1))) (ret ((-1):Int)) (m2 c (a.length:Int) (call (Z288.R ((aT.at a (toNat c)).au.bC.aX,(i64.wrap ((i64.wrap (v2+1))+1)))) fun v3=>(cond (decide (v3<0)) (ret ((-1):Int)) (m2 c (a.length:Int) (cond ((aT.at a (toNat c)).au.bC.cH != v3) (ret ((-1):Int)) (m2 c (a.length:Int) (cond (!((aT.at a (toNat c)).au.bG==((Int.tmod (i64.wrap (v3+1)) 3)==0))) (ret ((-1):Int)) (m2 c (a.length:Int) (call (Z289.R ((aT.at a (toNat c)).cw,(i64.wrap ((i64.wrap (v3+1))+1)))) fun v4=>(cond (decide (v4<0)) (ret ((-1):Int)) (J (.p0 a v4 (i64.wrap (c+1)))))))))))))))))))))))))))))))))))))))))) (ret (b:Int)))
def start (J:Pt->aK)(x0:aD)(x1:Int):aK:=J (.p0 x0 x1 0)
def live:Nat->Live:=fun i=>match i with | 2=>[(0,none),(1,none),(5,none)] | _=>[]
def pats:List gk:=[.rd (.sl 123),.rd (.int .i64)]
def res:RP:=.one (.rd (.int .i64))
abbrev E:Env:={ T:=assoc kB,G:=dD [(183,Z288.aW),(335,Z289.aW)],nt:=190 }
def step_eq (I:cD)(p:Pt):cV E live I (pid p) (bN Tryz.f334) (fD (live (pid p)) (cg p) (bZ p)) (cE E Tryz.f334 res)=step (fun q=>I (pid q) (cg q) (bZ q)) p:=by
 cases p<;>kernel_rfl
def start_eq (I:cD)(ls:List L):eT E live I (bN Tryz.f334) (cZ pats ls) (cE E Tryz.f334 res)=start (fun q=>I (pid q) (cg q) (bZ q)) (ls.headD .hole).aQ ((aA 1 ls).headD .hole).toInt:=by kernel_rfl
def run_eq (n:Nat)(ls:List L):eN E live Tryz.f334 res n (cZ pats ls)=start (iter step n) (ls.headD .hole).aQ ((aA 1 ls).headD .hole).toInt:=cy (id:=pid) (vs:=cg) (hs:=bZ) (step:=step) (start:=fun J=>start J (ls.headD .hole).aQ ((aA 1 ls).headD .hole).toInt) step_eq (fun I=>start_eq I ls) n
def e1 (x:aa)(k:Int):=Z288.md (((x.au).bQ).aX) (i64.wrap ((i64.wrap ((i64.wrap ((i64.wrap ((i64.wrap ((i64.wrap ((i64.wrap ((i64.wrap (k+1))+1))+1))+1))+1))+1))+1))+1))
def e2 (x:aa)(k:Int):=Z288.md (((x.au).bE).aX) (i64.wrap ((e1 x k)+1))
def e3 (x:aa)(k:Int):=Z288.md (((x.au).bC).aX) (i64.wrap ((i64.wrap ((e2 x k)+1))+1))
def e4 (x:aa)(k:Int):=Z289.md x.cw (i64.wrap ((i64.wrap ((e3 x k)+1))+1))
def f (x:aa)(k:Int):Option Int:=(cond ((x.au).bz != k) none (cond ((x.au).cN != (i64.wrap (k+1))) none (cond ((x.au).bM != (i64.wrap ((i64.wrap (k+1))+1))) none (cond ((x.au).cK != (i64.wrap ((i64.wrap ((i64.wrap (k+1))+1))+1))) none (cond ((x.au).cF != (i64.wrap ((i64.wrap ((i64.wrap ((i64.wrap (k+1))+1))+1))+1))) none (cond ((x.au).cz != (i64.wrap ((i64.wrap ((i64.wrap ((i64.wrap ((i64.wrap (k+1))+1))+1))+1))+1))) none (cond ((x.au).dm != (i64.wrap ((i64.wrap ((i64.wrap ((i64.wrap ((i64.wrap ((i64.wrap (k+1))+1))+1))+1))+1))+1))) none (cond ((x.au).dH != (i64.wrap ((i64.wrap ((i64.wrap ((i64.wrap ((i64.wrap ((i64.wrap ((i64.wrap (k+1))+1))+1))+1))+1))+1))+1))) none (cond (decide ((e1 x k)<0)) none (cond (((x.au).bQ).cH != (e1 x k)) none (cond (decide ((e2 x k)<0)) none (cond (((x.au).bE).cH != (e2 x k)) none (cond ((x.au).dw != (i64.wrap ((e2 x k)+1))) none (cond (decide ((e3 x k)<0)) none (cond (((x.au).bC).cH != (e3 x k)) none (cond (!((x.au).bG==((Int.tmod (i64.wrap ((e3 x k)+1)) 3)==0))) none (cond (decide ((e4 x k)<0)) none (some (e4 x k)))))))))))))))))))
def rQ (x:aa)(k k2:Int)(hk:eL k)(h:f x k=some k2):eL k2:=by
 unfold f at h
 have h:=bJ h
 have h:=bJ h
 have h:=bJ h
 have h:=bJ h
 have h:=bJ h
 have h:=bJ h
 have h:=bJ h
 have h:=bJ h
 have h:=bJ h
 have h:=bJ h
 have h:=bJ h
 have h:=bJ h
 have h:=bJ h
 have h:=bJ h
 have h:=bJ h
 have h:=bJ h
 have h:=bJ h
 injection h with h
 subst h
 exact (Z289.iq (cj _))
def md (a0:List aa)(a1:Int):Int:=jr f a0 a1
def gd (a0:List aa)(a1:Int):Prop:=eL a1
def acc (ls:List L):aD×Int:=((ls.headD .hole).aQ,((aA 1 ls).headD .hole).toInt)
def R:(aD×Int)->Option Int:=RR (p2 gd) (u2 md)
def aq {a0 a1}(h:gd a0 a1):R ((a0.map aa.row),a1)=some (md a0 a1):=aR (a:=(a0,a1)) h
def aW:ga:=CN pats res acc R
def bB (a0:List aa)(a1:Int)(hg:gd a0 a1)(h0:a0.length<=maxLen):∃n,start (iter step n) (a0.map aa.row) a1=ret ((md a0 a1):Int):=by
 unfold gd at hg
 show ∃n,iter step n (Pt.p0 (a0.map aa.row) a1 0)=_
 unfold md
 refine iN (f:=f) (xs:=a0) aa.zero eL rQ (pt:=fun i k=>Pt.p0 (a0.map aa.row) k (i:Int)) (fun J i k hi hk=>?_) (fun J k=>?_) hg
 ·simp only [step,SS]
  refine ak (aL hi) ?_
  refine ak aJ ?_
  refine ak (aL hi) ?_
  refine bI rfl ?_
  refine ak aJ ?_
  refine ak (aL hi) ?_
  refine bI rfl ?_
  refine ak aJ ?_
  refine ak (aL hi) ?_
  refine bI rfl ?_
  refine ak aJ ?_
  refine ak (aL hi) ?_
  refine bI rfl ?_
  refine ak aJ ?_
  refine ak (aL hi) ?_
  refine bI rfl ?_
  refine ak aJ ?_
  refine ak (aL hi) ?_
  refine bI rfl ?_
  refine ak aJ ?_
  refine ak (aL hi) ?_
  refine bI rfl ?_
  refine ak aJ ?_
  refine ak (aL hi) ?_
  refine bI rfl ?_
  refine ak aJ ?_
  refine ak (aL hi) ?_
  refine bg (e1 (a0.getD i aa.zero) k) (Z288.aq (a0:=(((a0.getD i aa.zero).au).bQ).aX) (a1:=i64.wrap ((i64.wrap ((i64.wrap ((i64.wrap ((i64.wrap ((i64.wrap ((i64.wrap ((i64.wrap (k+1))+1))+1))+1))+1))+1))+1))+1)) (cj _)) ?_
  refine bI rfl ?_
  refine ak aJ ?_
  refine ak (aL hi) ?_
  refine bI rfl ?_
  refine ak aJ ?_
  refine ak (aL hi) ?_
  refine bg (e2 (a0.getD i aa.zero) k) (Z288.aq (a0:=(((a0.getD i aa.zero).au).bE).aX) (a1:=i64.wrap ((e1 (a0.getD i aa.zero) k)+1)) (cj _)) ?_
  refine bI rfl ?_
  refine ak aJ ?_
  refine ak (aL hi) ?_
  refine bI rfl ?_
  refine ak aJ ?_
  refine ak (aL hi) ?_
  refine bI rfl ?_
  refine ak aJ ?_
  refine ak (aL hi) ?_
  refine bg (e3 (a0.getD i aa.zero) k) (Z288.aq (a0:=(((a0.getD i aa.zero).au).bC).aX) (a1:=i64.wrap ((i64.wrap ((e2 (a0.getD i aa.zero) k)+1))+1)) (cj _)) ?_
  refine bI rfl ?_
  refine ak aJ ?_
  refine ak (aL hi) ?_
  refine bI rfl ?_
  refine ak aJ ?_
  refine ak (aL hi) ?_
  refine bI rfl ?_
  refine ak aJ ?_
  refine ak (aL hi) ?_
  refine bg (e4 (a0.getD i aa.zero) k) (Z289.aq (a0:=(a0.getD i aa.zero).cw) (a1:=i64.wrap ((i64.wrap ((e3 (a0.getD i aa.zero) k)+1))+1)) (cj _)) ?_
  refine bI rfl ?_
  rw [aI hi h0]
  rfl
 ·simp only [step,SS]
  refine cM (by apply decide_eq_false;omega) ?_
  rfl
def af:cG 334 aW:=VV (run:=fun n x=>start (iter step n) x.1 x.2) mix aF (.cons Z288.af (.cons Z289.af .nil)) Tryz.func334 (by kernel_rfl) run_eq (fun ls a hl e hg=>bB a.1 a.2 hg (by have h:(ls.headD .hole).aQ.length<=maxLen:=hl.1.len;have e:a.1.map aa.row=(ls.headD .hole).aQ:=(congrArg (fun x=>x.1) e.symm);rw [<-e] at h;simpa using h))
def iq {a0:List aa}{a1:Int}(h:eL a1):eL (md a0 a1):=jL rQ kJ h
def wW (x:aa)(k:Int)(h0:0<=k)(hb:k+(Z277.cnt x:Int)<=4611686018427387904):f (Z277.el x k).2 k=some (k+Z277.cnt x):=by
 simp only [Z277.cnt,Int.natCast_add] at hb ⊢
 simp (disch:=omega) only [Z277.el,f,Z277.e1,Z277.e2,Z277.e3,Z277.e4,e1,e2,e3,e4,wi,Z275.kk,Z288.mk,Z276.kk,Z289.mk,bne_self_eq_false,beq_self_eq_true,fu,Bool.not_true,bA,dz]
 all_goals first | done | omega | (congr 1<;>omega)
def mk (a0:List aa)(a1:Int)(h0:0<=a1)(hb:a1+(Z277.sum a0:Int)<=4611686018427387904):md (Z277.md a0 a1).2 a1=a1+Z277.sum a0:=iy Z277.oC wW a0 a1 h0 hb
end Z290
namespace Z291
set_option maxHeartbeats 8000000
inductive Pt where
 | p0 (a:aD) (b c:Int)
def pid:Pt->Nat
 | .p0 ..=>2
def cg:Pt->List V
 | .p0 a b c=>[.sl none 92 a,.int .i64 b,.int .i64 c]
def bZ:Pt->List aZ
 | .p0 a b c=>[]
def step (J:Pt->aK):Pt->aK
 | .p0 a b c=>(cond (decide (c<(a.length:Int))) (m2 c (a.length:Int) (call (Z290.R ((oT a (toNat c)),b)) fun v1=>(cond (decide (v1<0)) (ret ((-1):Int)) (J (.p0 a v1 (i64.wrap (c+1))))))) (ret (b:Int)))
def start (J:Pt->aK)(x0:aD)(x1:Int):aK:=J (.p0 x0 x1 0)
def live:Nat->Live:=fun i=>match i with | 2=>[(0,none),(1,none),(5,none)] | _=>[]
def pats:List gk:=[.rd (.sl 92),.rd (.int .i64)]
def res:RP:=.one (.rd (.int .i64))
abbrev E:Env:={ T:=assoc kB,G:=dD [(334,Z290.aW)],nt:=21 }
def step_eq (I:cD)(p:Pt):cV E live I (pid p) (bN Tryz.f180) (fD (live (pid p)) (cg p) (bZ p)) (cE E Tryz.f180 res)=step (fun q=>I (pid q) (cg q) (bZ q)) p:=by
 cases p<;>kernel_rfl
def start_eq (I:cD)(ls:List L):eT E live I (bN Tryz.f180) (cZ pats ls) (cE E Tryz.f180 res)=start (fun q=>I (pid q) (cg q) (bZ q)) (ls.headD .hole).aQ ((aA 1 ls).headD .hole).toInt:=by kernel_rfl
def run_eq (n:Nat)(ls:List L):eN E live Tryz.f180 res n (cZ pats ls)=start (iter step n) (ls.headD .hole).aQ ((aA 1 ls).headD .hole).toInt:=cy (id:=pid) (vs:=cg) (hs:=bZ) (step:=step) (start:=fun J=>start J (ls.headD .hole).aQ ((aA 1 ls).headD .hole).toInt) step_eq (fun I=>start_eq I ls) n
def e1 (x:List aa)(k:Int):=Z290.md x k
def f (x:List aa)(k:Int):Option Int:=(cond (decide ((e1 x k)<0)) none (some (e1 x k)))
def rQ (x:List aa)(k k2:Int)(hk:eL k)(h:f x k=some k2):eL k2:=by
 unfold f at h
 have h:=bJ h
 injection h with h
 subst h
 exact (Z290.iq hk)
def md (a0:List (List aa))(a1:Int):Int:=jr f a0 a1
def gd (a0:List (List aa))(a1:Int):Prop:=eL a1
def acc (ls:List L):aD×Int:=((ls.headD .hole).aQ,((aA 1 ls).headD .hole).toInt)
def R:(aD×Int)->Option Int:=RR (p2 gd) (u2 md)
def aq {a0 a1}(h:gd a0 a1):R ((a0.map (dO aa.row)),a1)=some (md a0 a1):=aR (a:=(a0,a1)) h
def aW:ga:=CN pats res acc R
def bB (a0:List (List aa))(a1:Int)(hg:gd a0 a1)(h0:a0.length<=maxLen):∃n,start (iter step n) (a0.map (dO aa.row)) a1=ret ((md a0 a1):Int):=by
 unfold gd at hg
 show ∃n,iter step n (Pt.p0 (a0.map (dO aa.row)) a1 0)=_
 unfold md
 refine iN (f:=f) (xs:=a0) [] eL rQ (pt:=fun i k=>Pt.p0 (a0.map (dO aa.row)) k (i:Int)) (fun J i k hi hk=>?_) (fun J k=>?_) hg
 ·simp only [step,SS]
  refine ak (aL hi) ?_
  refine ak aJ ?_
  refine ak (aL hi) ?_
  refine bg (e1 (a0.getD i []) k) (Z290.aq (a0:=a0.getD i []) (a1:=k) hk) ?_
  refine bI rfl ?_
  rw [aI hi h0]
  rfl
 ·simp only [step,SS]
  refine cM (by apply decide_eq_false;omega) ?_
  rfl
def af:cG 180 aW:=VV (run:=fun n x=>start (iter step n) x.1 x.2) mix aF (.cons Z290.af .nil) Tryz.func180 (by kernel_rfl) run_eq (fun ls a hl e hg=>bB a.1 a.2 hg (by have h:(ls.headD .hole).aQ.length<=maxLen:=hl.1.len;have e:a.1.map (dO aa.row)=(ls.headD .hole).aQ:=(congrArg (fun x=>x.1) e.symm);rw [<-e] at h;simpa using h))
def iq {a0:List (List aa)}{a1:Int}(h:eL a1):eL (md a0 a1):=jL rQ kJ h
def wW (x:List aa)(k:Int)(h0:0<=k)(hb:k+(Z278.cnt x:Int)<=4611686018427387904):f (Z278.el x k).2 k=some (k+Z278.cnt x):=by
 simp only [Z278.cnt,Int.natCast_add] at hb ⊢
 simp (disch:=omega) only [Z278.el,f,Z278.e1,e1,wi,Z277.kk,Z290.mk,bne_self_eq_false,beq_self_eq_true,fu,Bool.not_true,bA,dz]
 all_goals first | done | omega | (congr 1<;>omega)
def mk (a0:List (List aa))(a1:Int)(h0:0<=a1)(hb:a1+(Z278.sum a0:Int)<=4611686018427387904):md (Z278.md a0 a1).2 a1=a1+Z278.sum a0:=iy Z278.oC wW a0 a1 h0 hb
end Z291
namespace Z292
set_option maxHeartbeats 8000000
inductive Pt where
 | p0 (a:aD) (b c:Int)
def pid:Pt->Nat
 | .p0 ..=>2
def cg:Pt->List V
 | .p0 a b c=>[.sl none 280 a,.int .i64 b,.int .i64 c]
def bZ:Pt->List aZ
 | .p0 a b c=>[]
def step (J:Pt->aK):Pt->aK
 | .p0 a b c=>(cond (decide (c<(a.length:Int))) (m2 c (a.length:Int) (cond ((bL.at a (toNat c)).aS.au.bz != b) (ret ((-1):Int)) (m2 c (a.length:Int) (cond ((bL.at a (toNat c)).aS.au.cN != (i64.wrap (b+1))) (ret ((-1):Int)) (m2 c (a.length:Int) (cond ((bL.at a (toNat c)).aS.au.bM != (i64.wrap ((i64.wrap (b+1))+1))) (ret ((-1):Int)) (m2 c (a.length:Int) (cond ((bL.at a (toNat c)).aS.au.cK != (i64.wrap ((i64.wrap ((i64.wrap (b+1))+1))+1))) (ret ((-1):Int)) (m2 c (a.length:Int) (cond ((bL.at a (toNat c)).aS.au.cF != (i64.wrap ((i64.wrap ((i64.wrap ((i64.wrap (b+1))+1))+1))+1))) (ret ((-1):Int)) (m2 c (a.length:Int) (cond ((bL.at a (toNat c)).aS.au.cz != (i64.wrap ((i64.wrap ((i64.wrap ((i64.wrap ((i64.wrap (b+1))+1))+1))+1))+1))) (ret ((-1):Int)) (m2 c (a.length:Int) (cond ((bL.at a (toNat c)).aS.au.dm != (i64.wrap ((i64.wrap ((i64.wrap ((i64.wrap ((i64.wrap ((i64.wrap (b+1))+1))+1))+1))+1))+1))) (ret ((-1):Int)) (m2 c (a.length:Int) (cond ((bL.at a (toNat c)).aS.au.dH != (i64.wrap ((i64.wrap ((i64.wrap ((i64.wrap ((i64.wrap ((i64.wrap ((i64.wrap (b+1))+1))+1))+1))+1))+1))+1))) (ret ((-1):Int)) (m2 c (a.length:Int) (call (Z288.R ((bL.at a (toNat c)).aS.au.bQ.aX,(i64.wrap ((i64.wrap ((i64.wrap ((i64.wrap ((i64.wrap ((i64.wrap ((i64.wrap ((i64.wrap (b+1))+1))+1))+1))+1))+1))+1))+1)))) fun v1=>(cond (decide (v1<0)) (ret ((-1):Int)) (m2 c (a.length:Int) (cond ((bL.at a (toNat c)).aS.au.bQ.cH != v1) (ret ((-1):Int)) (m2 c (a.length:Int) (call (Z288.R ((bL.at a (toNat c)).aS.au.bE.aX,(i64.wrap (v1+1)))) fun v2=>(cond (decide (v2<0)) (ret ((-1):Int)) (m2 c (a.length:Int) (cond ((bL.at a (toNat c)).aS.au.bE.cH != v2) (ret ((-1):Int)) (m2 c (a.length:Int) (cond ((bL.at a (toNat c)).aS.au.dw != (i64.wrap (v2+1))) (ret ((-1):Int)) (m2 c (a.length:Int) (call (Z288.R ((bL.at a (toNat c)).aS.au.bC.aX,(i64.wrap ((i64.wrap (v2+1))+1)))) fun v3=>(cond (decide (v3<0)) (ret ((-1):Int)) (m2 c (a.length:Int) (cond ((bL.at a (toNat c)).aS.au.bC.cH != v3) (ret ((-1):Int)) (m2 c (a.length:Int) (cond (!((bL.at a (toNat c)).aS.au.bG==((Int.tmod (i64.wrap (v3+1)) 3)==0))) (ret ((-1):Int)) (m2 c (a.length:Int) (call (Z289.R ((bL.at a (toNat c)).aS.cw,(i64.wrap ((i64.wrap (v3+1))+1)))) fun v4=>(cond (decide (v4<0)) (ret ((-1):Int)) (m2 c (a.length:Int) (cond ((bL.at a (toNat c)).fA.au.bz != v4) (ret ((-1):Int)) (m2 c (a.length:Int) (cond ((bL.at a (toNat c)).fA.au.cN != (i64.wrap (v4+1))) (ret ((-1):Int)) (m2 c (a.length:Int) (cond ((bL.at a (toNat c)).fA.au.bM != (i64.wrap ((i64.wrap (v4+1))+1))) (ret ((-1):Int)) (m2 c (a.length:Int) (cond ((bL.at a (toNat c)).fA.au.cK != (i64.wrap ((i64.wrap ((i64.wrap (v4+1))+1))+1))) (ret ((-1):Int)) (m2 c (a.length:Int) (cond ((bL.at a (toNat c)).fA.au.cF != (i64.wrap ((i64.wrap ((i64.wrap ((i64.wrap (v4+1))+1))+1))+1))) (ret ((-1):Int)) (m2 c (a.length:Int) (cond ((bL.at a (toNat c)).fA.au.cz != (i64.wrap ((i64.wrap ((i64.wrap ((i64.wrap ((i64.wrap (v4+1))+1))+1))+1))+1))) (ret ((-1):Int)) (m2 c (a.length:Int) (cond ((bL.at a (toNat c)).fA.au.dm != (i64.wrap ((i64.wrap ((i64.wrap ((i64.wrap ((i64.wrap ((i64.wrap (v4+1))+1))+1))+1))+1))+1))) (ret ((-1):Int)) (m2 c (a.length:Int) (cond ((bL.at a (toNat c)).fA.au.dH != (i64.wrap ((i64.wrap ((i64.wrap ((i64.wrap ((i64.wrap ((i64.wrap ((i64.wrap (v4+1))+1))+1))+1))+1))+1))+1))) (ret ((-1):Int)) (m2 c (a.length:Int) (call (Z288.R ((bL.at a (toNat c)).fA.au.bQ.aX,(i64.wrap ((i64.wrap ((i64.wrap ((i64.wrap ((i64.wrap ((i64.wrap ((i64.wrap ((i64.wrap (v4+1))+1))+1))+1))+1))+1))+1))+1)))) fun v5=>(cond (decide (v5<0)) (ret ((-1):Int)) (m2 c (a.length:Int) (cond ((bL.at a (toNat c)).fA.au.bQ.cH != v5) (ret ((-1):Int)) (m2 c (a.length:Int) (call (Z288.R ((bL.at a (toNat c)).fA.au.bE.aX,(i64.wrap (v5+1)))) fun v6=>(cond (decide (v6<0)) (ret ((-1):Int)) (m2 c (a.length:Int) (cond ((bL.at a (toNat c)).fA.au.bE.cH != v6) (ret ((-1):Int)) (m2 c (a.length:Int) (cond ((bL.at a (toNat c)).fA.au.dw != (i64.wrap (v6+1))) (ret ((-1):Int)) (m2 c (a.length:Int) (call (Z288.R ((bL.at a (toNat c)).fA.au.bC.aX,(i64.wrap ((i64.wrap (v6+1))+1)))) fun v7=>(cond (decide (v7<0)) (ret ((-1):Int)) (m2 c (a.length:Int) (cond ((bL.at a (toNat c)).fA.au.bC.cH != v7) (ret ((-1):Int)) (m2 c (a.length:Int) (cond (!((bL.at a (toNat c)).fA.au.bG==((Int.tmod (i64.wrap (v7+1)) 3)==0))) (ret ((-1):Int)) (m2 c (a.length:Int) (call (Z289.R ((bL.at a (toNat c)).fA.cw,(i64.wrap ((i64.wrap (v7+1))+1)))) fun v8=>(cond (decide (v8<0)) (ret ((-1):Int)) (m2 c (a.length:Int) (cond ((bL.at a (toNat c)).fB.au.bz != v8) (ret ((-1):Int)) (m2 c (a.length:Int) (cond ((bL.at a (toNat c)).fB.au.cN != (i64.wrap (v8+1))) (ret ((-1):Int)) (m2 c (a.length:Int) (cond ((bL.at a (toNat c)).fB.au.bM != (i64.wrap ((i64.wrap (v8+1))+1))) (ret ((-1):Int)) (m2 c (a.length:Int) (cond ((bL.at a (toNat c)).fB.au.cK != (i64.wrap ((i64.wrap ((i64.wrap (v8+1))+1))+1))) (ret ((-1):Int)) (m2 c (a.length:Int) (cond ((bL.at a (toNat c)).fB.au.cF != (i64.wrap ((i64.wrap ((i64.wrap ((i64.wrap (v8+1))+1))+1))+1))) (ret ((-1):Int)) (m2 c (a.length:Int) (cond ((bL.at a (toNat c)).fB.au.cz != (i64.wrap ((i64.wrap ((i64.wrap ((i64.wrap ((i64.wrap (v8+1))+1))+1))+1))+1))) (ret ((-1):Int)) (m2 c (a.length:Int) (cond ((bL.at a (toNat c)).fB.au.dm != (i64.wrap ((i64.wrap ((i64.wrap ((i64.wrap ((i64.wrap ((i64.wrap (v8+1))+1))+1))+1))+1))+1))) (ret ((-1):Int)) (m2 c (a.length:Int) (cond ((bL.at a (toNat c)).fB.au.dH != (i64.wrap ((i64.wrap ((i64.wrap ((i64.wrap ((i64.wrap ((i64.wrap ((i64.wrap (v8+1))+1))+1))+1))+1))+1))+1))) (ret ((-1):Int)) (m2 c (a.length:Int) (call (Z288.R ((bL.at a (toNat c)).fB.au.bQ.aX,(i64.wrap ((i64.wrap ((i64.wrap ((i64.wrap ((i64.wrap ((i64.wrap ((i64.wrap ((i64.wrap (v8+1))+1))+1))+1))+1))+1))+1))+1)))) fun v9=>(cond (decide (v9<0)) (ret ((-1):Int)) (m2 c (a.length:Int) (cond ((bL.at a (toNat c)).fB.au.bQ.cH != v9) (ret ((-1):Int)) (m2 c (a.length:Int) (call (Z288.R ((bL.at a (toNat c)).fB.au.bE.aX,(i64.wrap (v9+1)))) fun v10=>(cond (decide (v10<0)) (ret ((-1):Int)) (m2 c (a.length:Int) (cond ((bL.at a (toNat c)).fB.au.bE.cH != v10) (ret ((-1):Int)) (m2 c (a.length:Int) (cond ((bL.at a (toNat c)).fB.au.dw != (i64.wrap (v10+1))) (ret ((-1):Int)) (m2 c (a.length:Int) (call (Z288.R ((bL.at a (toNat c)).fB.au.bC.aX,(i64.wrap ((i64.wrap (v10+1))+1)))) fun v11=>(cond (decide (v11<0)) (ret ((-1):Int)) (m2 c (a.length:Int) (cond ((bL.at a (toNat c)).fB.au.bC.cH != v11) (ret ((-1):Int)) (m2 c (a.length:Int) (cond (!((bL.at a (toNat c)).fB.au.bG==((Int.tmod (i64.wrap (v11+1)) 3)==0))) (ret ((-1):Int)) (m2 c (a.length:Int) (call (Z289.R ((bL.at a (toNat c)).fB.cw,(i64.wrap ((i64.wrap (v11+1))+1)))) fun v12=>(cond (decide (v12<0)) (ret ((-1):Int)) (J (.p0 a v12 (i64.wrap (c+1)))))))))))))))))))))))))))))))))))))))))))))))))))))))))))))))))))))))))))))))))))))))))))))))))))))))))))))))))))))) (ret (b:Int)))
def start (J:Pt->aK)(x0:aD)(x1:Int):aK:=J (.p0 x0 x1 0)
def live:Nat->Live:=fun i=>match i with | 2=>[(0,none),(1,none),(5,none)] | _=>[]
def pats:List gk:=[.rd (.sl 280),.rd (.int .i64)]
def res:RP:=.one (.rd (.int .i64))
abbrev E:Env:={ T:=assoc kB,G:=dD [(183,Z288.aW),(335,Z289.aW)],nt:=595 }
def step_eq (I:cD)(p:Pt):cV E live I (pid p) (bN Tryz.f181) (fD (live (pid p)) (cg p) (bZ p)) (cE E Tryz.f181 res)=step (fun q=>I (pid q) (cg q) (bZ q)) p:=by
 cases p<;>kernel_rfl
def start_eq (I:cD)(ls:List L):eT E live I (bN Tryz.f181) (cZ pats ls) (cE E Tryz.f181 res)=start (fun q=>I (pid q) (cg q) (bZ q)) (ls.headD .hole).aQ ((aA 1 ls).headD .hole).toInt:=by kernel_rfl
def run_eq (n:Nat)(ls:List L):eN E live Tryz.f181 res n (cZ pats ls)=start (iter step n) (ls.headD .hole).aQ ((aA 1 ls).headD .hole).toInt:=cy (id:=pid) (vs:=cg) (hs:=bZ) (step:=step) (start:=fun J=>start J (ls.headD .hole).aQ ((aA 1 ls).headD .hole).toInt) step_eq (fun I=>start_eq I ls) n
def e1 (x:aB)(k:Int):=Z288.md ((((x.aS).au).bQ).aX) (i64.wrap ((i64.wrap ((i64.wrap ((i64.wrap ((i64.wrap ((i64.wrap ((i64.wrap ((i64.wrap (k+1))+1))+1))+1))+1))+1))+1))+1))
def e2 (x:aB)(k:Int):=Z288.md ((((x.aS).au).bE).aX) (i64.wrap ((e1 x k)+1))
def e3 (x:aB)(k:Int):=Z288.md ((((x.aS).au).bC).aX) (i64.wrap ((i64.wrap ((e2 x k)+1))+1))
def e4 (x:aB)(k:Int):=Z289.md ((x.aS).cw) (i64.wrap ((i64.wrap ((e3 x k)+1))+1))
def e5 (x:aB)(k:Int):=Z288.md ((((x.fA).au).bQ).aX) (i64.wrap ((i64.wrap ((i64.wrap ((i64.wrap ((i64.wrap ((i64.wrap ((i64.wrap ((i64.wrap ((e4 x k)+1))+1))+1))+1))+1))+1))+1))+1))
def e6 (x:aB)(k:Int):=Z288.md ((((x.fA).au).bE).aX) (i64.wrap ((e5 x k)+1))
def e7 (x:aB)(k:Int):=Z288.md ((((x.fA).au).bC).aX) (i64.wrap ((i64.wrap ((e6 x k)+1))+1))
def e8 (x:aB)(k:Int):=Z289.md ((x.fA).cw) (i64.wrap ((i64.wrap ((e7 x k)+1))+1))
def e9 (x:aB)(k:Int):=Z288.md ((((x.fB).au).bQ).aX) (i64.wrap ((i64.wrap ((i64.wrap ((i64.wrap ((i64.wrap ((i64.wrap ((i64.wrap ((i64.wrap ((e8 x k)+1))+1))+1))+1))+1))+1))+1))+1))
def uS (x:aB)(k:Int):=Z288.md ((((x.fB).au).bE).aX) (i64.wrap ((e9 x k)+1))
def tW (x:aB)(k:Int):=Z288.md ((((x.fB).au).bC).aX) (i64.wrap ((i64.wrap ((uS x k)+1))+1))
def yF (x:aB)(k:Int):=Z289.md ((x.fB).cw) (i64.wrap ((i64.wrap ((tW x k)+1))+1))
def f (x:aB)(k:Int):Option Int:=(cond (((x.aS).au).bz != k) none (cond (((x.aS).au).cN != (i64.wrap (k+1))) none (cond (((x.aS).au).bM != (i64.wrap ((i64.wrap (k+1))+1))) none (cond (((x.aS).au).cK != (i64.wrap ((i64.wrap ((i64.wrap (k+1))+1))+1))) none (cond (((x.aS).au).cF != (i64.wrap ((i64.wrap ((i64.wrap ((i64.wrap (k+1))+1))+1))+1))) none (cond (((x.aS).au).cz != (i64.wrap ((i64.wrap ((i64.wrap ((i64.wrap ((i64.wrap (k+1))+1))+1))+1))+1))) none (cond (((x.aS).au).dm != (i64.wrap ((i64.wrap ((i64.wrap ((i64.wrap ((i64.wrap ((i64.wrap (k+1))+1))+1))+1))+1))+1))) none (cond (((x.aS).au).dH != (i64.wrap ((i64.wrap ((i64.wrap ((i64.wrap ((i64.wrap ((i64.wrap ((i64.wrap (k+1))+1))+1))+1))+1))+1))+1))) none (cond (decide ((e1 x k)<0)) none (cond ((((x.aS).au).bQ).cH != (e1 x k)) none (cond (decide ((e2 x k)<0)) none (cond ((((x.aS).au).bE).cH != (e2 x k)) none (cond (((x.aS).au).dw != (i64.wrap ((e2 x k)+1))) none (cond (decide ((e3 x k)<0)) none (cond ((((x.aS).au).bC).cH != (e3 x k)) none (cond (!(((x.aS).au).bG==((Int.tmod (i64.wrap ((e3 x k)+1)) 3)==0))) none (cond (decide ((e4 x k)<0)) none (cond (((x.fA).au).bz != (e4 x k)) none (cond (((x.fA).au).cN != (i64.wrap ((e4 x k)+1))) none (cond (((x.fA).au).bM != (i64.wrap ((i64.wrap ((e4 x k)+1))+1))) none (cond (((x.fA).au).cK != (i64.wrap ((i64.wrap ((i64.wrap ((e4 x k)+1))+1))+1))) none (cond (((x.fA).au).cF != (i64.wrap ((i64.wrap ((i64.wrap ((i64.wrap ((e4 x k)+1))+1))+1))+1))) none (cond (((x.fA).au).cz != (i64.wrap ((i64.wrap ((i64.wrap ((i64.wrap ((i64.wrap ((e4 x k)+1))+1))+1))+1))+1))) none (cond (((x.fA).au).dm != (i64.wrap ((i64.wrap ((i64.wrap ((i64.wrap ((i64.wrap ((i64.wrap ((e4 x k)+1))+1))+1))+1))+1))+1))) none (cond (((x.fA).au).dH != (i64.wrap ((i64.wrap ((i64.wrap ((i64.wrap ((i64.wrap ((i64.wrap ((i64.wrap ((e4 x k)+1))+1))+1))+1))+1))+1))+1))) none (cond (decide ((e5 x k)<0)) none (cond ((((x.fA).au).bQ).cH != (e5 x k)) none (cond (decide ((e6 x k)<0)) none (cond ((((x.fA).au).bE).cH != (e6 x k)) none (cond (((x.fA).au).dw != (i64.wrap ((e6 x k)+1))) none (cond (decide ((e7 x k)<0)) none (cond ((((x.fA).au).bC).cH != (e7 x k)) none (cond (!(((x.fA).au).bG==((Int.tmod (i64.wrap ((e7 x k)+1)) 3)==0))) none (cond (decide ((e8 x k)<0)) none (cond (((x.fB).au).bz != (e8 x k)) none (cond (((x.fB).au).cN != (i64.wrap ((e8 x k)+1))) none (cond (((x.fB).au).bM != (i64.wrap ((i64.wrap ((e8 x k)+1))+1))) none (cond (((x.fB).au).cK != (i64.wrap ((i64.wrap ((i64.wrap ((e8 x k)+1))+1))+1))) none (cond (((x.fB).au).cF != (i64.wrap ((i64.wrap ((i64.wrap ((i64.wrap ((e8 x k)+1))+1))+1))+1))) none (cond (((x.fB).au).cz != (i64.wrap ((i64.wrap ((i64.wrap ((i64.wrap ((i64.wrap ((e8 x k)+1))+1))+1))+1))+1))) none (cond (((x.fB).au).dm != (i64.wrap ((i64.wrap ((i64.wrap ((i64.wrap ((i64.wrap ((i64.wrap ((e8 x k)+1))+1))+1))+1))+1))+1))) none (cond (((x.fB).au).dH != (i64.wrap ((i64.wrap ((i64.wrap ((i64.wrap ((i64.wrap ((i64.wrap ((i64.wrap ((e8 x k)+1))+1))+1))+1))+1))+1))+1))) none (cond (decide ((e9 x k)<0)) none (cond ((((x.fB).au).bQ).cH != (e9 x k)) none (cond (decide ((uS x k)<0)) none (cond ((((x.fB).au).bE).cH != (uS x k)) none (cond (((x.fB).au).dw != (i64.wrap ((uS x k)+1))) none (cond (decide ((tW x k)<0)) none (cond ((((x.fB).au).bC).cH != (tW x k)) none (cond (!(((x.fB).au).bG==((Int.tmod (i64.wrap ((tW x k)+1)) 3)==0))) none (cond (decide ((yF x k)<0)) none (some (yF x k)))))))))))))))))))))))))))))))))))))))))))))))))))))
def rQ (x:aB)(k k2:Int)(hk:eL k)(h:f x k=some k2):eL k2:=by
 unfold f at h
 have h:=bJ h
 have h:=bJ h
 have h:=bJ h
 have h:=bJ h
 have h:=bJ h
 have h:=bJ h
 have h:=bJ h
 have h:=bJ h
 have h:=bJ h
 have h:=bJ h
 have h:=bJ h
 have h:=bJ h
 have h:=bJ h
 have h:=bJ h
 have h:=bJ h
 have h:=bJ h
 have h:=bJ h
 have h:=bJ h
 have h:=bJ h
 have h:=bJ h
 have h:=bJ h
 have h:=bJ h
 have h:=bJ h
 have h:=bJ h
 have h:=bJ h
 have h:=bJ h
 have h:=bJ h
 have h:=bJ h
 have h:=bJ h
 have h:=bJ h
 have h:=bJ h
 have h:=bJ h
 have h:=bJ h
 have h:=bJ h
 have h:=bJ h
 have h:=bJ h
 have h:=bJ h
 have h:=bJ h
 have h:=bJ h
 have h:=bJ h
 have h:=bJ h
 have h:=bJ h
 have h:=bJ h
 have h:=bJ h
 have h:=bJ h
 have h:=bJ h
 have h:=bJ h
 have h:=bJ h
 have h:=bJ h
 have h:=bJ h
 have h:=bJ h
 injection h with h
 subst h
 exact (Z289.iq (cj _))
def md (a0:List aB)(a1:Int):Int:=jr f a0 a1
def gd (a0:List aB)(a1:Int):Prop:=eL a1
def acc (ls:List L):aD×Int:=((ls.headD .hole).aQ,((aA 1 ls).headD .hole).toInt)
def R:(aD×Int)->Option Int:=RR (p2 gd) (u2 md)
def aq {a0 a1}(h:gd a0 a1):R ((a0.map aB.row),a1)=some (md a0 a1):=aR (a:=(a0,a1)) h
def aW:ga:=CN pats res acc R
def bB (a0:List aB)(a1:Int)(hg:gd a0 a1)(h0:a0.length<=maxLen):∃n,start (iter step n) (a0.map aB.row) a1=ret ((md a0 a1):Int):=by
 unfold gd at hg
 show ∃n,iter step n (Pt.p0 (a0.map aB.row) a1 0)=_
 unfold md
 refine iN (f:=f) (xs:=a0) aB.zero eL rQ (pt:=fun i k=>Pt.p0 (a0.map aB.row) k (i:Int)) (fun J i k hi hk=>?_) (fun J k=>?_) hg
 ·simp only [step,SS]
  refine ak (aL hi) ?_
  refine ak aJ ?_
  refine ak (aL hi) ?_
  refine bI rfl ?_
  refine ak aJ ?_
  refine ak (aL hi) ?_
  refine bI rfl ?_
  refine ak aJ ?_
  refine ak (aL hi) ?_
  refine bI rfl ?_
  refine ak aJ ?_
  refine ak (aL hi) ?_
  refine bI rfl ?_
  refine ak aJ ?_
  refine ak (aL hi) ?_
  refine bI rfl ?_
  refine ak aJ ?_
  refine ak (aL hi) ?_
  refine bI rfl ?_
  refine ak aJ ?_
  refine ak (aL hi) ?_
  refine bI rfl ?_
  refine ak aJ ?_
  refine ak (aL hi) ?_
  refine bI rfl ?_
  refine ak aJ ?_
  refine ak (aL hi) ?_
  refine bg (e1 (a0.getD i aB.zero) k) (Z288.aq (a0:=((((a0.getD i aB.zero).aS).au).bQ).aX) (a1:=i64.wrap ((i64.wrap ((i64.wrap ((i64.wrap ((i64.wrap ((i64.wrap ((i64.wrap ((i64.wrap (k+1))+1))+1))+1))+1))+1))+1))+1)) (cj _)) ?_
  refine bI rfl ?_
  refine ak aJ ?_
  refine ak (aL hi) ?_
  refine bI rfl ?_
  refine ak aJ ?_
  refine ak (aL hi) ?_
  refine bg (e2 (a0.getD i aB.zero) k) (Z288.aq (a0:=((((a0.getD i aB.zero).aS).au).bE).aX) (a1:=i64.wrap ((e1 (a0.getD i aB.zero) k)+1)) (cj _)) ?_
  refine bI rfl ?_
  refine ak aJ ?_
  refine ak (aL hi) ?_
  refine bI rfl ?_
  refine ak aJ ?_
  refine ak (aL hi) ?_
  refine bI rfl ?_
  refine ak aJ ?_
  refine ak (aL hi) ?_
  refine bg (e3 (a0.getD i aB.zero) k) (Z288.aq (a0:=((((a0.getD i aB.zero).aS).au).bC).aX) (a1:=i64.wrap ((i64.wrap ((e2 (a0.getD i aB.zero) k)+1))+1)) (cj _)) ?_
  refine bI rfl ?_
  refine ak aJ ?_
  refine ak (aL hi) ?_
  refine bI rfl ?_
  refine ak aJ ?_
  refine ak (aL hi) ?_
  refine bI rfl ?_
  refine ak aJ ?_
  refine ak (aL hi) ?_
  refine bg (e4 (a0.getD i aB.zero) k) (Z289.aq (a0:=((a0.getD i aB.zero).aS).cw) (a1:=i64.wrap ((i64.wrap ((e3 (a0.getD i aB.zero) k)+1))+1)) (cj _)) ?_
  refine bI rfl ?_
  refine ak aJ ?_
  refine ak (aL hi) ?_
  refine bI rfl ?_
  refine ak aJ ?_
  refine ak (aL hi) ?_
  refine bI rfl ?_
  refine ak aJ ?_
  refine ak (aL hi) ?_
  refine bI rfl ?_
  refine ak aJ ?_
  refine ak (aL hi) ?_
  refine bI rfl ?_
  refine ak aJ ?_
  refine ak (aL hi) ?_
  refine bI rfl ?_
  refine ak aJ ?_
  refine ak (aL hi) ?_
  refine bI rfl ?_
  refine ak aJ ?_
  refine ak (aL hi) ?_
  refine bI rfl ?_
  refine ak aJ ?_
  refine ak (aL hi) ?_
  refine bI rfl ?_
  refine ak aJ ?_
  refine ak (aL hi) ?_
  refine bg (e5 (a0.getD i aB.zero) k) (Z288.aq (a0:=((((a0.getD i aB.zero).fA).au).bQ).aX) (a1:=i64.wrap ((i64.wrap ((i64.wrap ((i64.wrap ((i64.wrap ((i64.wrap ((i64.wrap ((i64.wrap ((e4 (a0.getD i aB.zero) k)+1))+1))+1))+1))+1))+1))+1))+1)) (cj _)) ?_
  refine bI rfl ?_
  refine ak aJ ?_
  refine ak (aL hi) ?_
  refine bI rfl ?_
  refine ak aJ ?_
  refine ak (aL hi) ?_
  refine bg (e6 (a0.getD i aB.zero) k) (Z288.aq (a0:=((((a0.getD i aB.zero).fA).au).bE).aX) (a1:=i64.wrap ((e5 (a0.getD i aB.zero) k)+1)) (cj _)) ?_
  refine bI rfl ?_
  refine ak aJ ?_
  refine ak (aL hi) ?_
  refine bI rfl ?_
  refine ak aJ ?_
  refine ak (aL hi) ?_
  refine bI rfl ?_
  refine ak aJ ?_
  refine ak (aL hi) ?_
  refine bg (e7 (a0.getD i aB.zero) k) (Z288.aq (a0:=((((a0.getD i aB.zero).fA).au).bC).aX) (a1:=i64.wrap ((i64.wrap ((e6 (a0.getD i aB.zero) k)+1))+1)) (cj _)) ?_
  refine bI rfl ?_
  refine ak aJ ?_
  refine ak (aL hi) ?_
  refine bI rfl ?_
  refine ak aJ ?_
  refine ak (aL hi) ?_
  refine bI rfl ?_
  refine ak aJ ?_
  refine ak (aL hi) ?_
  refine bg (e8 (a0.getD i aB.zero) k) (Z289.aq (a0:=((a0.getD i aB.zero).fA).cw) (a1:=i64.wrap ((i64.wrap ((e7 (a0.getD i aB.zero) k)+1))+1)) (cj _)) ?_
  refine bI rfl ?_
  refine ak aJ ?_
  refine ak (aL hi) ?_
  refine bI rfl ?_
  refine ak aJ ?_
  refine ak (aL hi) ?_
  refine bI rfl ?_
  refine ak aJ ?_
  refine ak (aL hi) ?_
  refine bI rfl ?_
  refine ak aJ ?_
  refine ak (aL hi) ?_
  refine bI rfl ?_
  refine ak aJ ?_
  refine ak (aL hi) ?_
  refine bI rfl ?_
  refine ak aJ ?_
  refine ak (aL hi) ?_
  refine bI rfl ?_
  refine ak aJ ?_
  refine ak (aL hi) ?_
  refine bI rfl ?_
  refine ak aJ ?_
  refine ak (aL hi) ?_
  refine bI rfl ?_
  refine ak aJ ?_
  refine ak (aL hi) ?_
  refine bg (e9 (a0.getD i aB.zero) k) (Z288.aq (a0:=((((a0.getD i aB.zero).fB).au).bQ).aX) (a1:=i64.wrap ((i64.wrap ((i64.wrap ((i64.wrap ((i64.wrap ((i64.wrap ((i64.wrap ((i64.wrap ((e8 (a0.getD i aB.zero) k)+1))+1))+1))+1))+1))+1))+1))+1)) (cj _)) ?_
  refine bI rfl ?_
  refine ak aJ ?_
  refine ak (aL hi) ?_
  refine bI rfl ?_
  refine ak aJ ?_
  refine ak (aL hi) ?_
  refine bg (uS (a0.getD i aB.zero) k) (Z288.aq (a0:=((((a0.getD i aB.zero).fB).au).bE).aX) (a1:=i64.wrap ((e9 (a0.getD i aB.zero) k)+1)) (cj _)) ?_
  refine bI rfl ?_
  refine ak aJ ?_
  refine ak (aL hi) ?_
  refine bI rfl ?_
  refine ak aJ ?_
  refine ak (aL hi) ?_
  refine bI rfl ?_
  refine ak aJ ?_
  refine ak (aL hi) ?_
  refine bg (tW (a0.getD i aB.zero) k) (Z288.aq (a0:=((((a0.getD i aB.zero).fB).au).bC).aX) (a1:=i64.wrap ((i64.wrap ((uS (a0.getD i aB.zero) k)+1))+1)) (cj _)) ?_
  refine bI rfl ?_
  refine ak aJ ?_
  refine ak (aL hi) ?_
  refine bI rfl ?_
  refine ak aJ ?_
  refine ak (aL hi) ?_
  refine bI rfl ?_
  refine ak aJ ?_
  refine ak (aL hi) ?_
  refine bg (yF (a0.getD i aB.zero) k) (Z289.aq (a0:=((a0.getD i aB.zero).fB).cw) (a1:=i64.wrap ((i64.wrap ((tW (a0.getD i aB.zero) k)+1))+1)) (cj _)) ?_
  refine bI rfl ?_
  rw [aI hi h0]
  rfl
 ·simp only [step,SS]
  refine cM (by apply decide_eq_false;omega) ?_
  rfl
def af:cG 181 aW:=VV (run:=fun n x=>start (iter step n) x.1 x.2) mix aF (.cons Z288.af (.cons Z289.af .nil)) Tryz.func181 (by kernel_rfl) run_eq (fun ls a hl e hg=>bB a.1 a.2 hg (by have h:(ls.headD .hole).aQ.length<=maxLen:=hl.1.len;have e:a.1.map aB.row=(ls.headD .hole).aQ:=(congrArg (fun x=>x.1) e.symm);rw [<-e] at h;simpa using h))
def iq {a0:List aB}{a1:Int}(h:eL a1):eL (md a0 a1):=jL rQ kJ h
def wW (x:aB)(k:Int)(h0:0<=k)(hb:k+(Z279.cnt x:Int)<=4611686018427387904):f (Z279.el x k).2 k=some (k+Z279.cnt x):=by
 simp only [Z279.cnt,Int.natCast_add] at hb ⊢
 simp (disch:=omega) only [Z279.el,f,Z279.e1,Z279.e2,Z279.e3,Z279.e4,Z279.e5,Z279.e6,Z279.e7,Z279.e8,Z279.e9,Z279.uS,Z279.tW,Z279.yF,e1,e2,e3,e4,e5,e6,e7,e8,e9,uS,tW,yF,wi,Z275.kk,Z288.mk,Z276.kk,Z289.mk,bne_self_eq_false,beq_self_eq_true,fu,Bool.not_true,bA,dz]
 all_goals first | done | omega | (congr 1<;>omega)
def mk (a0:List aB)(a1:Int)(h0:0<=a1)(hb:a1+(Z279.sum a0:Int)<=4611686018427387904):md (Z279.md a0 a1).2 a1=a1+Z279.sum a0:=iy Z279.oC wW a0 a1 h0 hb
end Z292
namespace Z293
set_option maxHeartbeats 8000000
inductive Pt where
 | p0 (a:aD) (b c:Int)
def pid:Pt->Nat
 | .p0 ..=>2
def cg:Pt->List V
 | .p0 a b c=>[.sl none 9 a,.int .i64 b,.int .i64 c]
def bZ:Pt->List aZ
 | .p0 a b c=>[]
def step (J:Pt->aK):Pt->aK
 | .p0 a b c=>(cond (decide (c<(a.length:Int))) (m2 c (a.length:Int) (call (Z281.R b) fun v1=>(cond (!((qk a (toNat c))==v1)) (ret ((-1):Int)) (J (.p0 a (i64.wrap (b+1)) (i64.wrap (c+1))))))) (ret (b:Int)))
def start (J:Pt->aK)(x0:aD)(x1:Int):aK:=J (.p0 x0 x1 0)
def live:Nat->Live:=fun i=>match i with | 2=>[(0,none),(1,none),(5,none)] | _=>[]
def pats:List gk:=[.rd (.sl 9),.rd (.int .i64)]
def res:RP:=.one (.rd (.int .i64))
abbrev E:Env:={ T:=assoc kB,G:=dD [(178,Z281.aW)],nt:=22 }
def step_eq (I:cD)(p:Pt):cV E live I (pid p) (bN Tryz.f182) (fD (live (pid p)) (cg p) (bZ p)) (cE E Tryz.f182 res)=step (fun q=>I (pid q) (cg q) (bZ q)) p:=by
 cases p<;>kernel_rfl
def start_eq (I:cD)(ls:List L):eT E live I (bN Tryz.f182) (cZ pats ls) (cE E Tryz.f182 res)=start (fun q=>I (pid q) (cg q) (bZ q)) (ls.headD .hole).aQ ((aA 1 ls).headD .hole).toInt:=by kernel_rfl
def run_eq (n:Nat)(ls:List L):eN E live Tryz.f182 res n (cZ pats ls)=start (iter step n) (ls.headD .hole).aQ ((aA 1 ls).headD .hole).toInt:=cy (id:=pid) (vs:=cg) (hs:=bZ) (step:=step) (start:=fun J=>start J (ls.headD .hole).aQ ((aA 1 ls).headD .hole).toInt) step_eq (fun I=>start_eq I ls) n
def f (x:aE)(k:Int):Option Int:=(cond (!(x==(Z281.md k))) none (some (i64.wrap (k+1))))
def rQ (x:aE)(k k2:Int)(hk:eL k)(h:f x k=some k2):eL k2:=by
 unfold f at h
 have h:=bJ h
 injection h with h
 subst h
 exact (cj _)
def md (a0:List aE)(a1:Int):Int:=jr f a0 a1
def gd (a0:List aE)(a1:Int):Prop:=eL a1
def acc (ls:List L):aD×Int:=((ls.headD .hole).aQ,((aA 1 ls).headD .hole).toInt)
def R:(aD×Int)->Option Int:=RR (p2 gd) (u2 md)
def aq {a0 a1}(h:gd a0 a1):R ((a0.map cI),a1)=some (md a0 a1):=aR (a:=(a0,a1)) h
def aW:ga:=CN pats res acc R
def bB (a0:List aE)(a1:Int)(hg:gd a0 a1)(h0:a0.length<=maxLen):∃n,start (iter step n) (a0.map cI) a1=ret ((md a0 a1):Int):=by
 unfold gd at hg
 show ∃n,iter step n (Pt.p0 (a0.map cI) a1 0)=_
 unfold md
 refine iN (f:=f) (xs:=a0) ⟨#[]⟩ eL rQ (pt:=fun i k=>Pt.p0 (a0.map cI) k (i:Int)) (fun J i k hi hk=>?_) (fun J k=>?_) hg
 ·simp only [step,SS]
  refine ak (aL hi) ?_
  refine ak aJ ?_
  refine ak (aL hi) ?_
  refine bg (Z281.md k) (Z281.aq (a0:=k) hk) ?_
  refine bI rfl ?_
  rw [aI hi h0]
  rfl
 ·simp only [step,SS]
  refine cM (by apply decide_eq_false;omega) ?_
  rfl
def af:cG 182 aW:=VV (run:=fun n x=>start (iter step n) x.1 x.2) mix aF (.cons Z281.af .nil) Tryz.func182 (by kernel_rfl) run_eq (fun ls a hl e hg=>bB a.1 a.2 hg (by have h:(ls.headD .hole).aQ.length<=maxLen:=hl.1.len;have e:a.1.map cI=(ls.headD .hole).aQ:=(congrArg (fun x=>x.1) e.symm);rw [<-e] at h;simpa using h))
def iq {a0:List aE}{a1:Int}(h:eL a1):eL (md a0 a1):=jL rQ kJ h
def wW (x:aE)(k:Int)(h0:0<=k)(hb:k+(Z282.cnt x:Int)<=4611686018427387904):f (Z282.el x k).2 k=some (k+Z282.cnt x):=by
 simp only [Z282.cnt,Int.natCast_add] at hb ⊢
 simp (disch:=omega) only [Z282.el,f,wi,bne_self_eq_false,beq_self_eq_true,fu,Bool.not_true,bA,dz]
 all_goals first | done | omega | (congr 1<;>omega)
def mk (a0:List aE)(a1:Int)(h0:0<=a1)(hb:a1+(Z282.sum a0:Int)<=4611686018427387904):md (Z282.md a0 a1).2 a1=a1+Z282.sum a0:=iy Z282.oC wW a0 a1 h0 hb
end Z293
namespace Z294
set_option maxHeartbeats 8000000
inductive Pt where
 | p0 (a:aD) (b c:Int)
def pid:Pt->Nat
 | .p0 ..=>2
def cg:Pt->List V
 | .p0 a b c=>[.sl none 64 a,.int .i64 b,.int .i64 c]
def bZ:Pt->List aZ
 | .p0 a b c=>[]
def step (J:Pt->aK):Pt->aK
 | .p0 a b c=>(cond (decide (c<(a.length:Int))) (m2 c (a.length:Int) (call (Z291.R ((cO.at a (toNat c)).bR.aH,b)) fun v1=>(cond (decide (v1<0)) (ret ((-1):Int)) (m2 c (a.length:Int) (call (Z292.R ((cO.at a (toNat c)).bR.aY,v1)) fun v2=>(cond (decide (v2<0)) (ret ((-1):Int)) (m2 c (a.length:Int) (cond ((cO.at a (toNat c)).gF != v2) (ret ((-1):Int)) (m2 c (a.length:Int) (call (Z281.R (i64.wrap (v2+1))) fun v3=>(cond (!((cO.at a (toNat c)).aV.bn==v3)) (ret ((-1):Int)) (m2 c (a.length:Int) (cond ((cO.at a (toNat c)).aV.bM != (i64.wrap ((i64.wrap (v2+1))+1))) (ret ((-1):Int)) (m2 c (a.length:Int) (cond ((cO.at a (toNat c)).aV.cq != (i64.wrap ((i64.wrap ((i64.wrap (v2+1))+1))+1))) (ret ((-1):Int)) (m2 c (a.length:Int) (call (Z293.R ((cO.at a (toNat c)).aV.bH,(i64.wrap ((i64.wrap ((i64.wrap ((i64.wrap (v2+1))+1))+1))+1)))) fun v4=>(cond (decide (v4<0)) (ret ((-1):Int)) (m2 c (a.length:Int) (call (Z288.R ((cO.at a (toNat c)).bK,v4)) fun v5=>(cond (decide (v5<0)) (ret ((-1):Int)) (m2 c (a.length:Int) (cond ((cO.at a (toNat c)).gO != v5) (ret ((-1):Int)) (J (.p0 a (i64.wrap (v5+1)) (i64.wrap (c+1))))))))))))))))))))))))))) (ret (b:Int)))
def start (J:Pt->aK)(x0:aD)(x1:Int):aK:=J (.p0 x0 x1 0)
def live:Nat->Live:=fun i=>match i with | 2=>[(0,none),(1,none),(5,none)] | _=>[]
def pats:List gk:=[.rd (.sl 64),.rd (.int .i64)]
def res:RP:=.one (.rd (.int .i64))
abbrev E:Env:={ T:=assoc kB,G:=dD [(180,Z291.aW),(181,Z292.aW),(178,Z281.aW),(182,Z293.aW),(183,Z288.aW)],nt:=101 }
def step_eq (I:cD)(p:Pt):cV E live I (pid p) (bN Tryz.f41) (fD (live (pid p)) (cg p) (bZ p)) (cE E Tryz.f41 res)=step (fun q=>I (pid q) (cg q) (bZ q)) p:=by
 cases p<;>kernel_rfl
def start_eq (I:cD)(ls:List L):eT E live I (bN Tryz.f41) (cZ pats ls) (cE E Tryz.f41 res)=start (fun q=>I (pid q) (cg q) (bZ q)) (ls.headD .hole).aQ ((aA 1 ls).headD .hole).toInt:=by kernel_rfl
def run_eq (n:Nat)(ls:List L):eN E live Tryz.f41 res n (cZ pats ls)=start (iter step n) (ls.headD .hole).aQ ((aA 1 ls).headD .hole).toInt:=cy (id:=pid) (vs:=cg) (hs:=bZ) (step:=step) (start:=fun J=>start J (ls.headD .hole).aQ ((aA 1 ls).headD .hole).toInt) step_eq (fun I=>start_eq I ls) n
def e1 (x:aM)(k:Int):=Z291.md ((x.bR).aH) k
def e2 (x:aM)(k:Int):=Z292.md ((x.bR).aY) (e1 x k)
def e3 (x:aM)(k:Int):=Z293.md ((x.aV).bH) (i64.wrap ((i64.wrap ((i64.wrap ((i64.wrap ((e2 x k)+1))+1))+1))+1))
def e4 (x:aM)(k:Int):=Z288.md x.bK (e3 x k)
def f (x:aM)(k:Int):Option Int:=(cond (decide ((e1 x k)<0)) none (cond (decide ((e2 x k)<0)) none (cond (x.gF != (e2 x k)) none (cond (!((x.aV).bn==(Z281.md (i64.wrap ((e2 x k)+1))))) none (cond ((x.aV).bM != (i64.wrap ((i64.wrap ((e2 x k)+1))+1))) none (cond ((x.aV).cq != (i64.wrap ((i64.wrap ((i64.wrap ((e2 x k)+1))+1))+1))) none (cond (decide ((e3 x k)<0)) none (cond (decide ((e4 x k)<0)) none (cond (x.gO != (e4 x k)) none (some (i64.wrap ((e4 x k)+1))))))))))))
def rQ (x:aM)(k k2:Int)(hk:eL k)(h:f x k=some k2):eL k2:=by
 unfold f at h
 have h:=bJ h
 have h:=bJ h
 have h:=bJ h
 have h:=bJ h
 have h:=bJ h
 have h:=bJ h
 have h:=bJ h
 have h:=bJ h
 have h:=bJ h
 injection h with h
 subst h
 exact (cj _)
def md (a0:List aM)(a1:Int):Int:=jr f a0 a1
def gd (a0:List aM)(a1:Int):Prop:=eL a1
def acc (ls:List L):aD×Int:=((ls.headD .hole).aQ,((aA 1 ls).headD .hole).toInt)
def R:(aD×Int)->Option Int:=RR (p2 gd) (u2 md)
def aq {a0 a1}(h:gd a0 a1):R ((a0.map aM.row),a1)=some (md a0 a1):=aR (a:=(a0,a1)) h
def aW:ga:=CN pats res acc R
def bB (a0:List aM)(a1:Int)(hg:gd a0 a1)(h0:a0.length<=maxLen):∃n,start (iter step n) (a0.map aM.row) a1=ret ((md a0 a1):Int):=by
 unfold gd at hg
 show ∃n,iter step n (Pt.p0 (a0.map aM.row) a1 0)=_
 unfold md
 refine iN (f:=f) (xs:=a0) aM.zero eL rQ (pt:=fun i k=>Pt.p0 (a0.map aM.row) k (i:Int)) (fun J i k hi hk=>?_) (fun J k=>?_) hg
 ·simp only [step,SS]
  refine ak (aL hi) ?_
  refine ak aJ ?_
  refine ak (aL hi) ?_
  refine bg (e1 (a0.getD i aM.zero) k) (Z291.aq (a0:=((a0.getD i aM.zero).bR).aH) (a1:=k) hk) ?_
  refine bI rfl ?_
  refine ak aJ ?_
  refine ak (aL hi) ?_
  refine bg (e2 (a0.getD i aM.zero) k) (Z292.aq (a0:=((a0.getD i aM.zero).bR).aY) (a1:=e1 (a0.getD i aM.zero) k) (Z291.iq hk)) ?_
  refine bI rfl ?_
  refine ak aJ ?_
  refine ak (aL hi) ?_
  refine bI rfl ?_
  refine ak aJ ?_
  refine ak (aL hi) ?_
  refine bg (Z281.md (i64.wrap ((e2 (a0.getD i aM.zero) k)+1))) (Z281.aq (a0:=i64.wrap ((e2 (a0.getD i aM.zero) k)+1)) (cj _)) ?_
  refine bI rfl ?_
  refine ak aJ ?_
  refine ak (aL hi) ?_
  refine bI rfl ?_
  refine ak aJ ?_
  refine ak (aL hi) ?_
  refine bI rfl ?_
  refine ak aJ ?_
  refine ak (aL hi) ?_
  refine bg (e3 (a0.getD i aM.zero) k) (Z293.aq (a0:=((a0.getD i aM.zero).aV).bH) (a1:=i64.wrap ((i64.wrap ((i64.wrap ((i64.wrap ((e2 (a0.getD i aM.zero) k)+1))+1))+1))+1)) (cj _)) ?_
  refine bI rfl ?_
  refine ak aJ ?_
  refine ak (aL hi) ?_
  refine bg (e4 (a0.getD i aM.zero) k) (Z288.aq (a0:=(a0.getD i aM.zero).bK) (a1:=e3 (a0.getD i aM.zero) k) (Z293.iq (cj _))) ?_
  refine bI rfl ?_
  refine ak aJ ?_
  refine ak (aL hi) ?_
  refine bI rfl ?_
  rw [aI hi h0]
  rfl
 ·simp only [step,SS]
  refine cM (by apply decide_eq_false;omega) ?_
  rfl
def af:cG 41 aW:=VV (run:=fun n x=>start (iter step n) x.1 x.2) mix aF (.cons Z291.af (.cons Z292.af (.cons Z281.af (.cons Z293.af (.cons Z288.af .nil))))) Tryz.func41 (by kernel_rfl) run_eq (fun ls a hl e hg=>bB a.1 a.2 hg (by have h:(ls.headD .hole).aQ.length<=maxLen:=hl.1.len;have e:a.1.map aM.row=(ls.headD .hole).aQ:=(congrArg (fun x=>x.1) e.symm);rw [<-e] at h;simpa using h))
def iq {a0:List aM}{a1:Int}(h:eL a1):eL (md a0 a1):=jL rQ kJ h
def wW (x:aM)(k:Int)(h0:0<=k)(hb:k+(Z287.cnt x:Int)<=4611686018427387904):f (Z287.el x k).2 k=some (k+Z287.cnt x):=by
 simp only [Z287.cnt,Int.natCast_add] at hb ⊢
 simp (disch:=omega) only [Z287.el,f,Z287.e1,Z287.e2,Z287.e3,Z287.e4,e1,e2,e3,e4,wi,Z278.kk,Z291.mk,Z279.kk,Z292.mk,Z282.kk,Z293.mk,Z275.kk,Z288.mk,bne_self_eq_false,beq_self_eq_true,fu,Bool.not_true,bA,dz]
 all_goals first | done | omega | (congr 1<;>omega)
def mk (a0:List aM)(a1:Int)(h0:0<=a1)(hb:a1+(Z287.sum a0:Int)<=4611686018427387904):md (Z287.md a0 a1).2 a1=a1+Z287.sum a0:=iy Z287.oC wW a0 a1 h0 hb
end Z294
namespace Z295
set_option maxHeartbeats 8000000
def F (x0:bt)(x1:Int):aK:=(call (Z291.R (x0.aH,x1)) fun v1=>(cond (decide (v1<0)) (ret ((-1):Int)) (call (Z292.R (x0.aY,v1)) fun v2=>(cond (decide (v2<0)) (ret ((-1):Int)) (ret (v2:Int))))))
def e1 (x:aj)(k:Int):=Z291.md x.aH k
def e2 (x:aj)(k:Int):=Z292.md x.aY (e1 x k)
def f (x:aj)(k:Int):Option Int:=(cond (decide ((e1 x k)<0)) none (cond (decide ((e2 x k)<0)) none (some ((e2 x k):Int))))
def md (a0:aj)(a1:Int):Int:=wJ (f a0 a1)
def gd (a0:aj)(a1:Int):Prop:=eL a1
def R:=RR (p2 gd) (u2 md)
def aq {a0 a1}(h:gd a0 a1):R ((aj.r a0),a1)=some (md a0 a1):=aR (a:=(a0,a1)) h
def aW:=CN [.agg rU,pI] oI RT.dec R
def bB (a0)(a1)(hg:gd a0 a1):F (aj.r a0) a1=ret (md a0 a1):=by
 unfold gd at hg
 simp only [F,SS]
 unfold md
 refine bg (e1 a0 a1) (Z291.aq (a0:=a0.aH) (a1:=a1) hg) ?_
 refine oa rfl ?_
 refine bg (e2 a0 a1) (Z292.aq (a0:=a0.aY) (a1:=e1 a0 a1) (Z291.iq hg)) ?_
 refine oa rfl ?_
 first | rfl | (simp only [SS];rfl)
def af:cG 42 aW:=W2 18 F mix aF bB (.cons Z291.af (.cons Z292.af .nil)) Tryz.func42
def mk (x:aj)(k:Int)(h0:0<=k)(hb:k+(Z280.sum x:Int)<=4611686018427387904):md (Z280.upd x k) k=k+Z280.sum x:=by
 simp only [Z280.sum,Int.natCast_add] at hb ⊢
 simp (disch:=omega) only [Z280.md,Z280.upd,md,f,wJ,Z280.e1,Z280.e2,e1,e2,wi,Z278.kk,Z291.mk,Z279.kk,Z292.mk,bA,dz]
 all_goals first | done | omega
end Z295
namespace Z296
def F (x0:bt)(x1 x2 x3:aD)(x4:Int):aK:=(call (Z9.R (x0,1048576)) fun v1=>(cond (decide (v1<0)) eF (call (Z16.R (x1,v1)) fun v2=>(cond (decide (v2<0)) eF (call (Z18.R (x2,v2)) fun v3=>(cond (decide (v3<0)) eF (call (Z10.R (x3,v3)) fun v4=>(cond (decide (v4<0)) eF (call (Z29.R x0) fun v5=>(call (Z36.R x1) fun v6=>(call (Z38.R x2) fun v7=>(call (Z30.R x3) fun v8=>(call (Z126.R (v5,v6,v7,v8,x4)) fun v9=>(call (Z29.R x0) fun v10=>(call (Z36.R x1) fun v11=>(call (Z38.R x2) fun v12=>(call (Z30.R x3) fun v13=>(call (Z252.R (v10,v11,v12,v13,x4)) fun v14=>(call (Z267.R (v14.1,v9.1)) fun v15=>(cond (!v15) bh (call (Z263.R (v14.2,v9.2)) fun v16=>(cond (!v16) bh (call (Z29.R x0) fun v17=>(call (Z263.R (v10,v17)) fun v18=>(cond (!v18) bh (call (Z36.R x1) fun v19=>(call (Z272.R (v11,v19)) fun v20=>(cond (!v20) bh (call (Z38.R x2) fun v21=>(call (Z274.R (v12,v21)) fun v22=>(cond (!v22) bh (call (Z30.R x3) fun v23=>(call (Z264.R (v13,v23)) fun v24=>(cond (!v24) bh (call (Z280.R (v10,1)) fun v25=>(call (Z285.R (v11,v25.1)) fun v26=>(call (Z286.R (v12,v26.1)) fun v27=>(call (Z282.R (v13,v27.1)) fun v28=>(cond (decide (v28.1<0)) bh (call (Z267.R (v14.1,v9.1)) fun v29=>(cond (!v29) bh (call (Z263.R (v14.2,v9.2)) fun v30=>(cond (!v30) bh (call (Z287.R (v14.1,1)) fun v31=>(call (Z280.R (v14.2,v31.1)) fun v32=>(call (Z294.R (v31.2,1)) fun v33=>(cond (decide (v33<0)) bh (call (Z295.R ((⟨v32.2.1,v32.2.2⟩:bt),v33)) fun v34=>(cond (decide (v34<0)) bh (cond (v34 != v32.1) bh (call (Z29.R x0) fun v35=>(call (Z36.R x1) fun v36=>(call (Z38.R x2) fun v37=>(call (Z30.R x3) fun v38=>(call (Z252.R (v35,v36,v37,v38,x4)) fun v39=>(call (Z267.R (v39.1,v9.1)) fun v40=>(cond (!v40) bh (call (Z263.R (v39.2,v9.2)) fun v41=>(cond (!v41) bh (call (Z294.R (v31.2,1)) fun v42=>(cond (decide (v42<0)) bh (call (Z295.R ((⟨v32.2.1,v32.2.2⟩:bt),v42)) fun v43=>(cond (decide (v43<0)) bh (cond (v43 != v32.1) bh eF))))))))))))))))))))))))))))))))))))))))))))))))))))))))))))))))
def pats:List gk:=[.agg [.sl 338,.sl 347],.rd (.sl 218),.rd (.sl 220),.rd (.sl 9),.rd (.int .i64)]
def res:RP:=.one (.rd (.bool))
def md (a0:aj)(a1:List av)(a2:List bk)(a3:List aE)(a4:Int):Bool:=true
def gd (a0:aj)(a1:List av)(a2:List bk)(a3:List aE)(a4:Int):Prop:=(aj.Sm maxLen a0)/\(bO maxLen (fun y:av=>av.Sm maxLen y) a1)/\(bO maxLen (fun y:bk=>bk.Sm maxLen y) a2)/\(bO maxLen (fun y:aE=>y.size<=maxLen) a3)
def acc (ls:List L):bt×aD×aD×aD×Int:=((bt.dec ls),((aA 2 ls).headD .hole).aQ,((aA 3 ls).headD .hole).aQ,((aA 4 ls).headD .hole).aQ,((aA 5 ls).headD .hole).toInt)
def R:(bt×aD×aD×aD×Int)->Option Bool:=RR (p5 gd) (u5 md)
def aq {a0 a1 a2 a3 a4}(h:gd a0 a1 a2 a3 a4):R ((aj.r a0),(a1.map av.row),(a2.map bk.row),(a3.map cI),a4)=some (md a0 a1 a2 a3 a4):=aR (a:=(a0,a1,a2,a3,a4)) h
def aW:ga:=CN pats res acc R
def bB (a0:aj)(a1:List av)(a2:List bk)(a3:List aE)(a4:Int)(hg:gd a0 a1 a2 a3 a4):F (aj.r a0) (a1.map av.row) (a2.map bk.row) (a3.map cI) a4=ret ((md a0 a1 a2 a3 a4):Bool):=by
 unfold md
 show (call (Z9.R ((aj.r a0),1048576)) fun v1=>(bif (decide (v1<0)) then eF else (call (Z16.R ((a1.map av.row),v1)) fun v2=>(bif (decide (v2<0)) then eF else (call (Z18.R ((a2.map bk.row),v2)) fun v3=>(bif (decide (v3<0)) then eF else (call (Z10.R ((a3.map cI),v3)) fun v4=>(bif (decide (v4<0)) then eF else (call (Z29.R (aj.r a0)) fun v5=>(call (Z36.R (a1.map av.row)) fun v6=>(call (Z38.R (a2.map bk.row)) fun v7=>(call (Z30.R (a3.map cI)) fun v8=>(call (Z126.R (v5,v6,v7,v8,a4)) fun v9=>(call (Z29.R (aj.r a0)) fun v10=>(call (Z36.R (a1.map av.row)) fun v11=>(call (Z38.R (a2.map bk.row)) fun v12=>(call (Z30.R (a3.map cI)) fun v13=>(call (Z252.R (v10,v11,v12,v13,a4)) fun v14=>(call (Z267.R (v14.1,v9.1)) fun v15=>(bif (!v15) then bh else (call (Z263.R (v14.2,v9.2)) fun v16=>(bif (!v16) then bh else (call (Z29.R (aj.r a0)) fun v17=>(call (Z263.R (v10,v17)) fun v18=>(bif (!v18) then bh else (call (Z36.R (a1.map av.row)) fun v19=>(call (Z272.R (v11,v19)) fun v20=>(bif (!v20) then bh else (call (Z38.R (a2.map bk.row)) fun v21=>(call (Z274.R (v12,v21)) fun v22=>(bif (!v22) then bh else (call (Z30.R (a3.map cI)) fun v23=>(call (Z264.R (v13,v23)) fun v24=>(bif (!v24) then bh else (call (Z280.R (v10,1)) fun v25=>(call (Z285.R (v11,v25.1)) fun v26=>(call (Z286.R (v12,v26.1)) fun v27=>(call (Z282.R (v13,v27.1)) fun v28=>(bif (decide (v28.1<0)) then bh else (call (Z267.R (v14.1,v9.1)) fun v29=>(bif (!v29) then bh else (call (Z263.R (v14.2,v9.2)) fun v30=>(bif (!v30) then bh else (call (Z287.R (v14.1,1)) fun v31=>(call (Z280.R (v14.2,v31.1)) fun v32=>(call (Z294.R (v31.2,1)) fun v33=>(bif (decide (v33<0)) then bh else (call (Z295.R ((⟨v32.2.1,v32.2.2⟩:bt),v33)) fun v34=>(bif (decide (v34<0)) then bh else (bif (v34 != v32.1) then bh else (call (Z29.R (aj.r a0)) fun v35=>(call (Z36.R (a1.map av.row)) fun v36=>(call (Z38.R (a2.map bk.row)) fun v37=>(call (Z30.R (a3.map cI)) fun v38=>(call (Z252.R (v35,v36,v37,v38,a4)) fun v39=>(call (Z267.R (v39.1,v9.1)) fun v40=>(bif (!v40) then bh else (call (Z263.R (v39.2,v9.2)) fun v41=>(bif (!v41) then bh else (call (Z294.R (v31.2,1)) fun v42=>(bif (decide (v42<0)) then bh else (call (Z295.R ((⟨v32.2.1,v32.2.2⟩:bt),v42)) fun v43=>(cond (decide (v43<0)) bh (cond (v43 != v32.1) bh eF))))))))))))))))))))))))))))))))))))))))))))))))))))))))))))))))=_
 rw [call_eq (Z9.aq (a1:=(1048576:Int)) ⟨hg.1,by omega,by omega⟩)]
 unfold Z9.md
 by_cases c0:(1048576:Int)<(((aj.size a0):Nat):Int)
 ·rw [cQ c0];rfl
 rw [dB c0,dz (by omega)]
 simp only [bA]
 have s0:aj.Sm (2^20) a0:=(aj.gj (by omega))
 rw [call_eq (Z16.aq (a1:=(1048576 - (((aj.size a0):Nat):Int):Int)) ⟨hg.2.1,by omega,by omega⟩)]
 unfold Z16.md
 by_cases c1:(1048576 - (((aj.size a0):Nat):Int):Int)<(((dP (fun y:av=>av.size y) a1):Nat):Int)
 ·rw [cQ c1];rfl
 rw [dB c1,dz (by omega)]
 simp only [bA]
 have s1:bO (2^20) (fun y:av=>av.Sm (2^20) y) a1:=(ji (f:=fun y:av=>av.size y) (by omega) (fun x hx=>(av.gj hx)))
 rw [call_eq (Z18.aq (a1:=(1048576 - (((aj.size a0):Nat):Int) - (((dP (fun y:av=>av.size y) a1):Nat):Int):Int)) ⟨hg.2.2.1,by omega,by omega⟩)]
 unfold Z18.md
 by_cases c2:(1048576 - (((aj.size a0):Nat):Int) - (((dP (fun y:av=>av.size y) a1):Nat):Int):Int)<(((dP (fun y:bk=>bk.size y) a2):Nat):Int)
 ·rw [cQ c2];rfl
 rw [dB c2,dz (by omega)]
 simp only [bA]
 have s2:bO (2^20) (fun y:bk=>bk.Sm (2^20) y) a2:=(ji (f:=fun y:bk=>bk.size y) (by omega) (fun x hx=>(bk.gj hx)))
 rw [call_eq (Z10.aq (a1:=(1048576 - (((aj.size a0):Nat):Int) - (((dP (fun y:av=>av.size y) a1):Nat):Int) - (((dP (fun y:bk=>bk.size y) a2):Nat):Int):Int)) ⟨hg.2.2.2,by omega,by omega⟩)]
 unfold Z10.md
 by_cases c3:(1048576 - (((aj.size a0):Nat):Int) - (((dP (fun y:av=>av.size y) a1):Nat):Int) - (((dP (fun y:bk=>bk.size y) a2):Nat):Int):Int)<(((dP (fun y:aE=>y.size) a3):Nat):Int)
 ·rw [cQ c3];rfl
 rw [dB c3,dz (by omega)]
 simp only [bA]
 have s3:bO (2^20) (fun y:aE=>y.size<=(2^20)) a3:=(ji (f:=fun y:aE=>y.size) (by omega) (fun x hx=>hx))
 refine bg (aj.r a0) (Z29.aq (a0:=a0) (aj.cU (by decide) s0)) ?_
 refine bg (a1.map av.row) (Z36.aq (a0:=a1) (s1.mono (by decide) (fun x hx=>(av.cU (by decide) hx)))) ?_
 refine bg (a2.map bk.row) (Z38.aq (a0:=a2) (s2.mono (by decide) (fun x hx=>(bk.cU (by decide) hx)))) ?_
 refine bg (a3.map cI) (Z30.aq (a0:=a3) (s3.mono (by decide) (fun x hx=>(le_trans hx (by decide))))) ?_
 refine bg (((Z126.md a0 a1 a2 a3 a4).1.map aM.row),(aj.r (Z126.md a0 a1 a2 a3 a4).2)) (Z126.aq (a0:=a0) (a1:=a1) (a2:=a2) (a3:=a3) (a4:=a4) (by
  have:=And.intro trivial trivial
  unfold Z126.gd
  first | exact (aj.cU (by decide) s0) | refine ⟨(aj.cU (by decide) s0),(s1.mono (by decide) (fun x hx=>(av.cU (by decide) hx))),(s2.mono (by decide) (fun x hx=>(bk.cU (by decide) hx))),(s3.mono (by decide) (fun x hx=>(le_trans hx (by decide))))⟩)) ?_
 refine bg (aj.r a0) (Z29.aq (a0:=a0) (aj.cU (by decide) s0)) ?_
 refine bg (a1.map av.row) (Z36.aq (a0:=a1) (s1.mono (by decide) (fun x hx=>(av.cU (by decide) hx)))) ?_
 refine bg (a2.map bk.row) (Z38.aq (a0:=a2) (s2.mono (by decide) (fun x hx=>(bk.cU (by decide) hx)))) ?_
 refine bg (a3.map cI) (Z30.aq (a0:=a3) (s3.mono (by decide) (fun x hx=>(le_trans hx (by decide))))) ?_
 have r_:=Z252.aq (a0:=a0) (a1:=a1) (a2:=a2) (a3:=a3) (a4:=a4) (by
  have:=And.intro trivial trivial
  unfold Z252.gd
  first | exact (aj.cU (by decide) s0) | refine ⟨(aj.cU (by decide) s0),(s1.mono (by decide) (fun x hx=>(av.cU (by decide) hx))),(s2.mono (by decide) (fun x hx=>(bk.cU (by decide) hx))),(s3.mono (by decide) (fun x hx=>(le_trans hx (by decide))))⟩)
 rw [Z252.br] at r_
 refine bg (((Z126.md a0 a1 a2 a3 a4).1.map aM.row),(aj.r (Z126.md a0 a1 a2 a3 a4).2)) r_ ?_
 clear r_
 refine bg _ (Z267.aq (a0:=((Z126.md a0 a1 a2 a3 a4).1)) (a1:=((Z126.md a0 a1 a2 a3 a4).1)) trivial) ?_
 refine cM (by first | (simp only [bne_self_eq_false,beq_self_eq_true,fu,eY,Bool.not_true,Z267.md];done) | (refine bne_eq_false_iff_eq.2 ?_;omega)) ?_
 refine bg _ (Z263.aq (a0:=((Z126.md a0 a1 a2 a3 a4).2)) (a1:=((Z126.md a0 a1 a2 a3 a4).2)) trivial) ?_
 refine cM (by first | (simp only [bne_self_eq_false,beq_self_eq_true,fu,eY,Bool.not_true,Z267.md,Z263.md];done) | (refine bne_eq_false_iff_eq.2 ?_;omega)) ?_
 refine bg (aj.r a0) (Z29.aq (a0:=a0) (aj.cU (by decide) s0)) ?_
 refine bg _ (Z263.aq (a0:=a0) (a1:=a0) trivial) ?_
 refine cM (by first | (simp only [bne_self_eq_false,beq_self_eq_true,fu,eY,Bool.not_true,Z267.md,Z263.md];done) | (refine bne_eq_false_iff_eq.2 ?_;omega)) ?_
 refine bg (a1.map av.row) (Z36.aq (a0:=a1) (s1.mono (by decide) (fun x hx=>(av.cU (by decide) hx)))) ?_
 refine bg _ (Z272.aq (a0:=a1) (a1:=a1) trivial) ?_
 refine cM (by first | (simp only [bne_self_eq_false,beq_self_eq_true,fu,eY,Bool.not_true,Z267.md,Z263.md,Z272.md];done) | (refine bne_eq_false_iff_eq.2 ?_;omega)) ?_
 refine bg (a2.map bk.row) (Z38.aq (a0:=a2) (s2.mono (by decide) (fun x hx=>(bk.cU (by decide) hx)))) ?_
 refine bg _ (Z274.aq (a0:=a2) (a1:=a2) trivial) ?_
 refine cM (by first | (simp only [bne_self_eq_false,beq_self_eq_true,fu,eY,Bool.not_true,Z267.md,Z263.md,Z272.md,Z274.md];done) | (refine bne_eq_false_iff_eq.2 ?_;omega)) ?_
 refine bg (a3.map cI) (Z30.aq (a0:=a3) (s3.mono (by decide) (fun x hx=>(le_trans hx (by decide))))) ?_
 refine bg _ (Z264.aq (a0:=a3) (a1:=a3) trivial) ?_
 refine cM (by first | (simp only [bne_self_eq_false,beq_self_eq_true,fu,eY,Bool.not_true,Z267.md,Z263.md,Z272.md,Z274.md,Z264.md];done) | (refine bne_eq_false_iff_eq.2 ?_;omega)) ?_
 have u1:=Z280.sz a0
 refine bg ((Z280.md a0 1).1,((Z280.md a0 1).2.1.map (dO aa.row)),((Z280.md a0 1).2.2.map aB.row)) (Z280.aq (a0:=a0) (a1:=1) iO) ?_
 have k2:=Z280.kk a0 1 (by omega) (by omega)
 have u3:=Z285.sz a1
 refine bg ((Z285.md a1 ((Z280.md a0 1).1)).1,((Z285.md a1 ((Z280.md a0 1).1)).2.map av.row)) (Z285.aq (a0:=a1) (a1:=(Z280.md a0 1).1) (Z280.iq iO)) ?_
 have k4:=Z285.kk a1 ((Z280.md a0 1).1) (by omega) (by omega)
 have u5:=Z286.sz a2
 refine bg ((Z286.md a2 ((Z285.md a1 ((Z280.md a0 1).1)).1)).1,((Z286.md a2 ((Z285.md a1 ((Z280.md a0 1).1)).1)).2.map bk.row)) (Z286.aq (a0:=a2) (a1:=(Z285.md a1 ((Z280.md a0 1).1)).1) (Z285.iq (Z280.iq iO))) ?_
 have k6:=Z286.kk a2 ((Z285.md a1 ((Z280.md a0 1).1)).1) (by omega) (by omega)
 have u7:=Z282.sz a3
 refine bg ((Z282.md a3 ((Z286.md a2 ((Z285.md a1 ((Z280.md a0 1).1)).1)).1)).1,((Z282.md a3 ((Z286.md a2 ((Z285.md a1 ((Z280.md a0 1).1)).1)).1)).2.map cI)) (Z282.aq (a0:=a3) (a1:=(Z286.md a2 ((Z285.md a1 ((Z280.md a0 1).1)).1)).1) (Z286.iq (Z285.iq (Z280.iq iO)))) ?_
 have k8:=Z282.kk a3 ((Z286.md a2 ((Z285.md a1 ((Z280.md a0 1).1)).1)).1) (by omega) (by omega)
 refine cM (dz (by omega)) ?_
 refine bg _ (Z267.aq (a0:=((Z126.md a0 a1 a2 a3 a4).1)) (a1:=((Z126.md a0 a1 a2 a3 a4).1)) trivial) ?_
 refine cM (by first | (simp only [bne_self_eq_false,beq_self_eq_true,fu,eY,Bool.not_true,Z267.md,Z263.md,Z272.md,Z274.md,Z264.md];done) | (refine bne_eq_false_iff_eq.2 ?_;omega)) ?_
 refine bg _ (Z263.aq (a0:=((Z126.md a0 a1 a2 a3 a4).2)) (a1:=((Z126.md a0 a1 a2 a3 a4).2)) trivial) ?_
 refine cM (by first | (simp only [bne_self_eq_false,beq_self_eq_true,fu,eY,Bool.not_true,Z267.md,Z263.md,Z272.md,Z274.md,Z264.md];done) | (refine bne_eq_false_iff_eq.2 ?_;omega)) ?_
 have u9:Z287.sum ((Z126.md a0 a1 a2 a3 a4).1)<=1000000000000000000:=(by
  have h1:=Z287.sz (Z126.md a0 a1 a2 a3 a4).1
  have h2:=Z280.sz (Z126.md a0 a1 a2 a3 a4).2
  have h3:=Z126.sz a0 a1 a2 a3 a4 (by omega) (by omega)
  omega)
 refine bg ((Z287.md ((Z126.md a0 a1 a2 a3 a4).1) 1).1,((Z287.md ((Z126.md a0 a1 a2 a3 a4).1) 1).2.map aM.row)) (Z287.aq (a0:=((Z126.md a0 a1 a2 a3 a4).1)) (a1:=1) iO) ?_
 have k10:=Z287.kk ((Z126.md a0 a1 a2 a3 a4).1) 1 (by omega) (by omega)
 have u11:Z280.sum ((Z126.md a0 a1 a2 a3 a4).2)<=1000000000000000000:=(by
  have h1:=Z287.sz (Z126.md a0 a1 a2 a3 a4).1
  have h2:=Z280.sz (Z126.md a0 a1 a2 a3 a4).2
  have h3:=Z126.sz a0 a1 a2 a3 a4 (by omega) (by omega)
  omega)
 refine bg ((Z280.md ((Z126.md a0 a1 a2 a3 a4).2) ((Z287.md ((Z126.md a0 a1 a2 a3 a4).1) 1).1)).1,((Z280.md ((Z126.md a0 a1 a2 a3 a4).2) ((Z287.md ((Z126.md a0 a1 a2 a3 a4).1) 1).1)).2.1.map (dO aa.row)),((Z280.md ((Z126.md a0 a1 a2 a3 a4).2) ((Z287.md ((Z126.md a0 a1 a2 a3 a4).1) 1).1)).2.2.map aB.row)) (Z280.aq (a0:=((Z126.md a0 a1 a2 a3 a4).2)) (a1:=(Z287.md ((Z126.md a0 a1 a2 a3 a4).1) 1).1) (Z287.iq iO)) ?_
 have k12:=Z280.kk ((Z126.md a0 a1 a2 a3 a4).2) ((Z287.md ((Z126.md a0 a1 a2 a3 a4).1) 1).1) (by omega) (by omega)
 refine bg (Z294.md ((Z287.md ((Z126.md a0 a1 a2 a3 a4).1) 1).2) 1) (Z294.aq (a0:=((Z287.md ((Z126.md a0 a1 a2 a3 a4).1) 1).2)) (a1:=1) iO) ?_
 have h13:(Z294.md ((Z287.md ((Z126.md a0 a1 a2 a3 a4).1) 1).2) 1)=1+(Z287.sum ((Z126.md a0 a1 a2 a3 a4).1):Int):=Z294.mk ((Z126.md a0 a1 a2 a3 a4).1) 1 (by omega) (by omega)
 refine cM (dz (by omega)) ?_
 have e14:Z294.md ((Z287.md ((Z126.md a0 a1 a2 a3 a4).1) 1).2) 1=(Z287.md ((Z126.md a0 a1 a2 a3 a4).1) 1).1:=by omega
 refine bg (Z295.md (⟨(Z280.md ((Z126.md a0 a1 a2 a3 a4).2) ((Z287.md ((Z126.md a0 a1 a2 a3 a4).1) 1).1)).2.1,(Z280.md ((Z126.md a0 a1 a2 a3 a4).2) ((Z287.md ((Z126.md a0 a1 a2 a3 a4).1) 1).1)).2.2⟩:aj) (Z294.md ((Z287.md ((Z126.md a0 a1 a2 a3 a4).1) 1).2) 1)) (Z295.aq (a0:=(⟨(Z280.md ((Z126.md a0 a1 a2 a3 a4).2) ((Z287.md ((Z126.md a0 a1 a2 a3 a4).1) 1).1)).2.1,(Z280.md ((Z126.md a0 a1 a2 a3 a4).2) ((Z287.md ((Z126.md a0 a1 a2 a3 a4).1) 1).1)).2.2⟩:aj)) (a1:=Z294.md ((Z287.md ((Z126.md a0 a1 a2 a3 a4).1) 1).2) 1) (by rw [e14];exact (Z287.iq iO))) ?_
 have h15:(Z295.md (⟨(Z280.md ((Z126.md a0 a1 a2 a3 a4).2) ((Z287.md ((Z126.md a0 a1 a2 a3 a4).1) 1).1)).2.1,(Z280.md ((Z126.md a0 a1 a2 a3 a4).2) ((Z287.md ((Z126.md a0 a1 a2 a3 a4).1) 1).1)).2.2⟩:aj) (Z294.md ((Z287.md ((Z126.md a0 a1 a2 a3 a4).1) 1).2) 1))=(Z287.md ((Z126.md a0 a1 a2 a3 a4).1) 1).1+(Z280.sum ((Z126.md a0 a1 a2 a3 a4).2):Int):=by rw [e14];exact Z295.mk ((Z126.md a0 a1 a2 a3 a4).2) ((Z287.md ((Z126.md a0 a1 a2 a3 a4).1) 1).1) (by omega) (by omega)
 refine cM (dz (by omega)) ?_
 refine cM (by first | (simp only [bne_self_eq_false,beq_self_eq_true,fu,eY,Bool.not_true,Z267.md,Z263.md,Z272.md,Z274.md,Z264.md];done) | (refine bne_eq_false_iff_eq.2 ?_;omega)) ?_
 refine bg (aj.r a0) (Z29.aq (a0:=a0) (aj.cU (by decide) s0)) ?_
 refine bg (a1.map av.row) (Z36.aq (a0:=a1) (s1.mono (by decide) (fun x hx=>(av.cU (by decide) hx)))) ?_
 refine bg (a2.map bk.row) (Z38.aq (a0:=a2) (s2.mono (by decide) (fun x hx=>(bk.cU (by decide) hx)))) ?_
 refine bg (a3.map cI) (Z30.aq (a0:=a3) (s3.mono (by decide) (fun x hx=>(le_trans hx (by decide))))) ?_
 have r_:=Z252.aq (a0:=a0) (a1:=a1) (a2:=a2) (a3:=a3) (a4:=a4) (by
  have:=And.intro trivial trivial
  unfold Z252.gd
  first | exact (aj.cU (by decide) s0) | refine ⟨(aj.cU (by decide) s0),(s1.mono (by decide) (fun x hx=>(av.cU (by decide) hx))),(s2.mono (by decide) (fun x hx=>(bk.cU (by decide) hx))),(s3.mono (by decide) (fun x hx=>(le_trans hx (by decide))))⟩)
 rw [Z252.br] at r_
 refine bg (((Z126.md a0 a1 a2 a3 a4).1.map aM.row),(aj.r (Z126.md a0 a1 a2 a3 a4).2)) r_ ?_
 clear r_
 refine bg _ (Z267.aq (a0:=((Z126.md a0 a1 a2 a3 a4).1)) (a1:=((Z126.md a0 a1 a2 a3 a4).1)) trivial) ?_
 refine cM (by first | (simp only [bne_self_eq_false,beq_self_eq_true,fu,eY,Bool.not_true,Z267.md,Z263.md,Z272.md,Z274.md,Z264.md];done) | (refine bne_eq_false_iff_eq.2 ?_;omega)) ?_
 refine bg _ (Z263.aq (a0:=((Z126.md a0 a1 a2 a3 a4).2)) (a1:=((Z126.md a0 a1 a2 a3 a4).2)) trivial) ?_
 refine cM (by first | (simp only [bne_self_eq_false,beq_self_eq_true,fu,eY,Bool.not_true,Z267.md,Z263.md,Z272.md,Z274.md,Z264.md];done) | (refine bne_eq_false_iff_eq.2 ?_;omega)) ?_
 refine bg (Z294.md ((Z287.md ((Z126.md a0 a1 a2 a3 a4).1) 1).2) 1) (Z294.aq (a0:=((Z287.md ((Z126.md a0 a1 a2 a3 a4).1) 1).2)) (a1:=1) iO) ?_
 have h16:(Z294.md ((Z287.md ((Z126.md a0 a1 a2 a3 a4).1) 1).2) 1)=1+(Z287.sum ((Z126.md a0 a1 a2 a3 a4).1):Int):=Z294.mk ((Z126.md a0 a1 a2 a3 a4).1) 1 (by omega) (by omega)
 refine cM (dz (by omega)) ?_
 have e17:Z294.md ((Z287.md ((Z126.md a0 a1 a2 a3 a4).1) 1).2) 1=(Z287.md ((Z126.md a0 a1 a2 a3 a4).1) 1).1:=by omega
 refine bg (Z295.md (⟨(Z280.md ((Z126.md a0 a1 a2 a3 a4).2) ((Z287.md ((Z126.md a0 a1 a2 a3 a4).1) 1).1)).2.1,(Z280.md ((Z126.md a0 a1 a2 a3 a4).2) ((Z287.md ((Z126.md a0 a1 a2 a3 a4).1) 1).1)).2.2⟩:aj) (Z294.md ((Z287.md ((Z126.md a0 a1 a2 a3 a4).1) 1).2) 1)) (Z295.aq (a0:=(⟨(Z280.md ((Z126.md a0 a1 a2 a3 a4).2) ((Z287.md ((Z126.md a0 a1 a2 a3 a4).1) 1).1)).2.1,(Z280.md ((Z126.md a0 a1 a2 a3 a4).2) ((Z287.md ((Z126.md a0 a1 a2 a3 a4).1) 1).1)).2.2⟩:aj)) (a1:=Z294.md ((Z287.md ((Z126.md a0 a1 a2 a3 a4).1) 1).2) 1) (by rw [e17];exact (Z287.iq iO))) ?_
 have h18:(Z295.md (⟨(Z280.md ((Z126.md a0 a1 a2 a3 a4).2) ((Z287.md ((Z126.md a0 a1 a2 a3 a4).1) 1).1)).2.1,(Z280.md ((Z126.md a0 a1 a2 a3 a4).2) ((Z287.md ((Z126.md a0 a1 a2 a3 a4).1) 1).1)).2.2⟩:aj) (Z294.md ((Z287.md ((Z126.md a0 a1 a2 a3 a4).1) 1).2) 1))=(Z287.md ((Z126.md a0 a1 a2 a3 a4).1) 1).1+(Z280.sum ((Z126.md a0 a1 a2 a3 a4).2):Int):=by rw [e17];exact Z295.mk ((Z126.md a0 a1 a2 a3 a4).2) ((Z287.md ((Z126.md a0 a1 a2 a3 a4).1) 1).1) (by omega) (by omega)
 refine cM (dz (by omega)) ?_
 refine cM (by first | (simp only [bne_self_eq_false,beq_self_eq_true,fu,eY,Bool.not_true,Z267.md,Z263.md,Z272.md,Z274.md,Z264.md];done) | (refine bne_eq_false_iff_eq.2 ?_;omega)) ?_
 rfl
def af:cG 3 aW:=VS (live:=fun _=>[]) (nt:=186) (run:=fun _ x=>F x.1 x.2.1 x.2.2.1 x.2.2.2.1 x.2.2.2.2) mix aF (.cons Z9.af (.cons Z16.af (.cons Z18.af (.cons Z10.af (.cons Z29.af (.cons Z36.af (.cons Z38.af (.cons Z30.af (.cons Z126.af (.cons Z252.af (.cons Z267.af (.cons Z263.af (.cons Z272.af (.cons Z274.af (.cons Z264.af (.cons Z294.af (.cons Z295.af .nil))))))))))))))))) (.cons Z280.af (.cons Z285.af (.cons Z286.af (.cons Z282.af (.cons Z287.af .nil))))) Tryz.func3 (by kernel_rfl) (fun _ _=>by kernel_rfl) (fun _ a _ _ hg=>⟨0,bB a.1 a.2.1 a.2.2.1 a.2.2.2.1 a.2.2.2.2 hg⟩)
def lC (r:List L)(h:eD Ev.cells [.sl 3,aC] r):∃x:aO,aO.row x=r/\aO.Sm maxLen x:=by
 obtain ⟨l0,t0,rfl,g0,h1⟩:=h.ef
 obtain ⟨x0,rfl,s0⟩:=hJ (show Ev.cells 3=[aC] from by kernel_rfl) zI g0
 obtain ⟨l1,t1,rfl,g1,h2⟩:=h1.ef
 obtain ⟨x1,rfl⟩:=gA g1
 obtain rfl:=h2.jP
 exact ⟨⟨x0,x1⟩,rfl,s0⟩
def um (r:List L)(h:eD Ev.cells [aC,aC,aC,aC,aC,aC,aC,aC,.sl 3,aC,.sl 3,aC,aC,.sl 3,aC,.bool] r):∃x:aG,aG.row x=r/\aG.Sm maxLen x:=by
 obtain ⟨l0,t0,rfl,g0,h1⟩:=h.ef
 obtain ⟨x0,rfl⟩:=gA g0
 obtain ⟨l1,t1,rfl,g1,h2⟩:=h1.ef
 obtain ⟨x1,rfl⟩:=gA g1
 obtain ⟨l2,t2,rfl,g2,h3⟩:=h2.ef
 obtain ⟨x2,rfl⟩:=gA g2
 obtain ⟨l3,t3,rfl,g3,h4⟩:=h3.ef
 obtain ⟨x3,rfl⟩:=gA g3
 obtain ⟨l4,t4,rfl,g4,h5⟩:=h4.ef
 obtain ⟨x4,rfl⟩:=gA g4
 obtain ⟨l5,t5,rfl,g5,h6⟩:=h5.ef
 obtain ⟨x5,rfl⟩:=gA g5
 obtain ⟨l6,t6,rfl,g6,h7⟩:=h6.ef
 obtain ⟨x6,rfl⟩:=gA g6
 obtain ⟨l7,t7,rfl,g7,h8⟩:=h7.ef
 obtain ⟨x7,rfl⟩:=gA g7
 obtain ⟨r8,t8,rfl,g8,h9⟩:=eD.nC (a:=[.sl 3,aC]) (b:=[.sl 3,aC,aC,.sl 3,aC,.bool]) h8
 obtain ⟨x8,rfl,s8⟩:=lC _ g8
 obtain ⟨r9,t9,rfl,g9,h10⟩:=eD.nC (a:=[.sl 3,aC]) (b:=[aC,.sl 3,aC,.bool]) h9
 obtain ⟨x9,rfl,s9⟩:=lC _ g9
 obtain ⟨l10,t10,rfl,g10,h11⟩:=h10.ef
 obtain ⟨x10,rfl⟩:=gA g10
 obtain ⟨r11,t11,rfl,g11,h12⟩:=eD.nC (a:=[.sl 3,aC]) (b:=[.bool]) h11
 obtain ⟨x11,rfl,s11⟩:=lC _ g11
 obtain ⟨l12,t12,rfl,g12,h13⟩:=h12.ef
 obtain ⟨x12,rfl⟩:=zl g12
 obtain rfl:=h13.jP
 exact ⟨⟨x0,x1,x2,x3,x4,x5,x6,x7,x8,x9,x10,x11,x12⟩,rfl,⟨s8,s9,s11⟩⟩
def vF (r:List L)(h:eD Ev.cells [aC,aC] r):∃x:bw,bw.row x=r/\bw.Sm maxLen x:=by
 obtain ⟨l0,t0,rfl,g0,h1⟩:=h.ef
 obtain ⟨x0,rfl⟩:=gA g0
 obtain ⟨l1,t1,rfl,g1,h2⟩:=h1.ef
 obtain ⟨x1,rfl⟩:=gA g1
 obtain rfl:=h2.jP
 exact ⟨⟨x0,x1⟩,rfl,trivial⟩
def gY (r:List L)(h:eD Ev.cells [aC,aC,aC,aC,aC,aC,aC,aC,.sl 3,aC,.sl 3,aC,aC,.sl 3,aC,.bool,.sl 516] r):∃x:aa,aa.row x=r/\aa.Sm maxLen x:=by
 obtain ⟨r0,t0,rfl,g0,h1⟩:=eD.nC (a:=[aC,aC,aC,aC,aC,aC,aC,aC,.sl 3,aC,.sl 3,aC,aC,.sl 3,aC,.bool]) (b:=[.sl 516]) h
 obtain ⟨x0,rfl,s0⟩:=um _ g0
 obtain ⟨l1,t1,rfl,g1,h2⟩:=h1.ef
 obtain ⟨x1,rfl,s1⟩:=hJ (show Ev.cells 516=[aC,aC] from by kernel_rfl) vF g1
 obtain rfl:=h2.jP
 exact ⟨⟨x0,x1⟩,rfl,⟨s0,s1⟩⟩
def uP (r:List L)(h:eD Ev.cells [aC,aC,aC,aC,aC,aC,aC,aC,.sl 3,aC,.sl 3,aC,aC,.sl 3,aC,.bool,.sl 516,aC,aC,aC,aC,aC,aC,aC,aC,.sl 3,aC,.sl 3,aC,aC,.sl 3,aC,.bool,.sl 516,aC,aC,aC,aC,aC,aC,aC,aC,.sl 3,aC,.sl 3,aC,aC,.sl 3,aC,.bool,.sl 516] r):∃x:aB,aB.row x=r/\aB.Sm maxLen x:=by
 obtain ⟨r0,t0,rfl,g0,h1⟩:=eD.nC (a:=[aC,aC,aC,aC,aC,aC,aC,aC,.sl 3,aC,.sl 3,aC,aC,.sl 3,aC,.bool,.sl 516]) (b:=[aC,aC,aC,aC,aC,aC,aC,aC,.sl 3,aC,.sl 3,aC,aC,.sl 3,aC,.bool,.sl 516,aC,aC,aC,aC,aC,aC,aC,aC,.sl 3,aC,.sl 3,aC,aC,.sl 3,aC,.bool,.sl 516]) h
 obtain ⟨x0,rfl,s0⟩:=gY _ g0
 obtain ⟨r1,t1,rfl,g1,h2⟩:=eD.nC (a:=[aC,aC,aC,aC,aC,aC,aC,aC,.sl 3,aC,.sl 3,aC,aC,.sl 3,aC,.bool,.sl 516]) (b:=[aC,aC,aC,aC,aC,aC,aC,aC,.sl 3,aC,.sl 3,aC,aC,.sl 3,aC,.bool,.sl 516]) h1
 obtain ⟨x1,rfl,s1⟩:=gY _ g1
 obtain ⟨r2,t2,rfl,g2,h3⟩:=eD.nC (a:=[aC,aC,aC,aC,aC,aC,aC,aC,.sl 3,aC,.sl 3,aC,aC,.sl 3,aC,.bool,.sl 516]) (b:=[]) h2
 obtain ⟨x2,rfl,s2⟩:=gY _ g2
 obtain rfl:=h3.jP
 exact ⟨⟨x0,x1,x2⟩,rfl,⟨s0,s1,s2⟩⟩
def vm (r:List L)(h:eD Ev.cells [.sl 338,.sl 347] r):∃x:aj,aj.row x=r/\aj.Sm maxLen x:=by
 obtain ⟨l0,t0,rfl,g0,h1⟩:=h.ef
 obtain ⟨x0,rfl,s0⟩:=hJ (show Ev.cells 338=[.sl 345] from by kernel_rfl) (zM (show Ev.cells 345=[aC,aC,aC,aC,aC,aC,aC,aC,.sl 3,aC,.sl 3,aC,aC,.sl 3,aC,.bool,.sl 516] from by kernel_rfl) gY) g0
 obtain ⟨l1,t1,rfl,g1,h2⟩:=h1.ef
 obtain ⟨x1,rfl,s1⟩:=hJ (show Ev.cells 347=[aC,aC,aC,aC,aC,aC,aC,aC,.sl 3,aC,.sl 3,aC,aC,.sl 3,aC,.bool,.sl 516,aC,aC,aC,aC,aC,aC,aC,aC,.sl 3,aC,.sl 3,aC,aC,.sl 3,aC,.bool,.sl 516,aC,aC,aC,aC,aC,aC,aC,aC,.sl 3,aC,.sl 3,aC,aC,.sl 3,aC,.bool,.sl 516] from by kernel_rfl) uP g1
 obtain rfl:=h2.jP
 exact ⟨⟨x0,x1⟩,rfl,⟨s0,s1⟩⟩
def sS (r:List L)(h:eD Ev.cells [.str,aC,aC,.sl 9] r):∃x:ah,ah.row x=r/\ah.Sm maxLen x:=by
 obtain ⟨l0,t0,rfl,g0,h1⟩:=h.ef
 obtain ⟨x0,rfl,s0⟩:=vP g0
 obtain ⟨l1,t1,rfl,g1,h2⟩:=h1.ef
 obtain ⟨x1,rfl⟩:=gA g1
 obtain ⟨l2,t2,rfl,g2,h3⟩:=h2.ef
 obtain ⟨x2,rfl⟩:=gA g2
 obtain ⟨l3,t3,rfl,g3,h4⟩:=h3.ef
 obtain ⟨x3,rfl,s3⟩:=hJ (show Ev.cells 9=[.str] from by kernel_rfl) wK g3
 obtain rfl:=h4.jP
 exact ⟨⟨x0,x1,x2,x3⟩,rfl,⟨s0,s3⟩⟩
def ux (r:List L)(h:eD Ev.cells [.sl 345,.sl 357] r):∃x:aN,aN.row x=r/\aN.Sm maxLen x:=by
 obtain ⟨l0,t0,rfl,g0,h1⟩:=h.ef
 obtain ⟨x0,rfl,s0⟩:=hJ (show Ev.cells 345=[aC,aC,aC,aC,aC,aC,aC,aC,.sl 3,aC,.sl 3,aC,aC,.sl 3,aC,.bool,.sl 516] from by kernel_rfl) gY g0
 obtain ⟨l1,t1,rfl,g1,h2⟩:=h1.ef
 obtain ⟨x1,rfl,s1⟩:=hJ (show Ev.cells 357=[.str,aC,aC,.sl 9] from by kernel_rfl) sS g1
 obtain rfl:=h2.jP
 exact ⟨⟨x0,x1⟩,rfl,⟨s0,s1⟩⟩
def rI (r:List L)(h:eD Ev.cells [.sl 423,aC] r):∃x:av,av.row x=r/\av.Sm maxLen x:=by
 obtain ⟨l0,t0,rfl,g0,h1⟩:=h.ef
 obtain ⟨x0,rfl,s0⟩:=hJ (show Ev.cells 423=[.sl 345,.sl 357] from by kernel_rfl) ux g0
 obtain ⟨l1,t1,rfl,g1,h2⟩:=h1.ef
 obtain ⟨x1,rfl⟩:=gA g1
 obtain rfl:=h2.jP
 exact ⟨⟨x0,x1⟩,rfl,s0⟩
def uV (r:List L)(h:eD Ev.cells [.str,aC] r):∃x:bk,bk.row x=r/\bk.Sm maxLen x:=by
 obtain ⟨l0,t0,rfl,g0,h1⟩:=h.ef
 obtain ⟨x0,rfl,s0⟩:=vP g0
 obtain ⟨l1,t1,rfl,g1,h2⟩:=h1.ef
 obtain ⟨x1,rfl⟩:=gA g1
 obtain rfl:=h2.jP
 exact ⟨⟨x0,x1⟩,rfl,s0⟩
def holds (ls:List L)(h:eD Ev.cells ([25,26,27,28,3].flatMap Ev.cells) ls):aW.sem ls=some [.bool true]:=by
 have hk:[25,26,27,28,3].flatMap Ev.cells=[.sl 338,.sl 347,.sl 218,.sl 220,.sl 9,aC]:=by kernel_rfl
 rw [hk] at h
 obtain ⟨r0,t0,rfl,g0,h1⟩:=eD.nC (a:=[.sl 338,.sl 347]) (b:=[.sl 218,.sl 220,.sl 9,aC]) h
 obtain ⟨x0,rfl,s0⟩:=vm _ g0
 obtain ⟨l1,t1,rfl,g1,h2⟩:=h1.ef
 obtain ⟨x1,rfl,s1⟩:=hJ (show Ev.cells 218=[.sl 423,aC] from by kernel_rfl) rI g1
 obtain ⟨l2,t2,rfl,g2,h3⟩:=h2.ef
 obtain ⟨x2,rfl,s2⟩:=hJ (show Ev.cells 220=[.str,aC] from by kernel_rfl) uV g2
 obtain ⟨l3,t3,rfl,g3,h4⟩:=h3.ef
 obtain ⟨x3,rfl,s3⟩:=hJ (show Ev.cells 9=[.str] from by kernel_rfl) wK g3
 obtain ⟨l4,t4,rfl,g4,h5⟩:=h4.ef
 obtain ⟨x4,rfl⟩:=gA g4
 obtain rfl:=h5.jP
 show (R ((aj.r x0),(x1.map av.row),(x2.map bk.row),(x3.map cI),x4)).map RT.enc=_
 rw [aq ⟨s0,s1,s2,s3⟩]
 rfl
end Z296
end Go.DM
end
