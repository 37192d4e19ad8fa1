/- What the functions compute that the law reaches, and that the law returns true. Conditions: none. -/
import Derived.Test.YtbojpakoeellaaaGreatResolvePetTy
import Derived.Test.YtbojpakoeellaaaGreatResolvePetFnC
set_option linter.all false
set_option maxRecDepth 100000
noncomputable section
namespace Go.DM
open Go.Proofs
open Go.IntKind (i64)
open Int (toNat)
open Nat (le_trans zero_le)
namespace Z284
set_option maxHeartbeats 8000000
inductive Pt where
 | p0 (a b:Int) (c:aC)
def pid:Pt->Nat
 | .p0 ..=>2
def cg:Pt->List V
 | .p0 a b c=>[.own 0,.int .i64 a,.int .i64 b]
def bZ:Pt->List aW
 | .p0 a b c=>[.row 143 c]
def step (J:Pt->aH):Pt->aH
 | .p0 a b c=>(cond (decide (b<(c.length:Int))) (m2 b (c.length:Int) (m2 b (c.length:Int) (ck (fu b) (m2 b (c.length:Int) (ck (fu b) (m2 b (c.length:Int) (ck (fu b) (m2 b (c.length:Int) (ck (fu b) (m2 b (c.length:Int) (ck (fu b) (m2 b (c.length:Int) (ck (fu b) (m2 b (c.length:Int) (ck (fu b) (m2 b (c.length:Int) (ck (fu b) (ck (fu b) (call (Z280.R ((bH.at c (toNat b)).aQ.an.bQ.aX,(i64.wrap ((i64.wrap ((i64.wrap ((i64.wrap ((i64.wrap ((i64.wrap ((i64.wrap ((i64.wrap (a+1))+1))+1))+1))+1))+1))+1))+1)))) fun v1=>(m2 b (c.length:Int) (ck (fu b) (m2 b (c.length:Int) (ck (fu b) (ck (fu b) (call (Z280.R ((bH.at c (toNat b)).aQ.an.bB.aX,(i64.wrap (v1.1+1)))) fun v2=>(m2 b (c.length:Int) (ck (fu b) (m2 b (c.length:Int) (ck (fu b) (m2 b (c.length:Int) (ck (fu b) (ck (fu b) (call (Z280.R ((bH.at c (toNat b)).aQ.an.bw.aX,(i64.wrap ((i64.wrap (v2.1+1))+1)))) fun v3=>(m2 b (c.length:Int) (ck (fu b) (m2 b (c.length:Int) (ck (fu b) (m2 b (c.length:Int) (ck (fu b) (ck (fu b) (call (Z281.R ((bH.at c (toNat b)).aQ.cm,(i64.wrap ((i64.wrap (v3.1+1))+1)))) fun v4=>(m2 b (c.length:Int) (ck (fu b) (m2 b (c.length:Int) (ck (fu b) (m2 b (c.length:Int) (ck (fu b) (m2 b (c.length:Int) (ck (fu b) (m2 b (c.length:Int) (ck (fu b) (m2 b (c.length:Int) (ck (fu b) (m2 b (c.length:Int) (ck (fu b) (m2 b (c.length:Int) (ck (fu b) (m2 b (c.length:Int) (ck (fu b) (ck (fu b) (call (Z280.R ((bH.at c (toNat b)).fA.an.bQ.aX,(i64.wrap ((i64.wrap ((i64.wrap ((i64.wrap ((i64.wrap ((i64.wrap ((i64.wrap ((i64.wrap (v4.1+1))+1))+1))+1))+1))+1))+1))+1)))) fun v5=>(m2 b (c.length:Int) (ck (fu b) (m2 b (c.length:Int) (ck (fu b) (ck (fu b) (call (Z280.R ((bH.at c (toNat b)).fA.an.bB.aX,(i64.wrap (v5.1+1)))) fun v6=>(m2 b (c.length:Int) (ck (fu b) (m2 b (c.length:Int) (ck (fu b) (m2 b (c.length:Int) (ck (fu b) (ck (fu b) (call (Z280.R ((bH.at c (toNat b)).fA.an.bw.aX,(i64.wrap ((i64.wrap (v6.1+1))+1)))) fun v7=>(m2 b (c.length:Int) (ck (fu b) (m2 b (c.length:Int) (ck (fu b) (m2 b (c.length:Int) (ck (fu b) (ck (fu b) (call (Z281.R ((bH.at c (toNat b)).fA.cm,(i64.wrap ((i64.wrap (v7.1+1))+1)))) fun v8=>(m2 b (c.length:Int) (ck (fu b) (m2 b (c.length:Int) (ck (fu b) (m2 b (c.length:Int) (ck (fu b) (m2 b (c.length:Int) (ck (fu b) (m2 b (c.length:Int) (ck (fu b) (m2 b (c.length:Int) (ck (fu b) (m2 b (c.length:Int) (ck (fu b) (m2 b (c.length:Int) (ck (fu b) (m2 b (c.length:Int) (ck (fu b) (ck (fu b) (call (Z280.R ((bH.at c (toNat b)).fB.an.bQ.aX,(i64.wrap ((i64.wrap ((i64.wrap ((i64.wrap ((i64.wrap ((i64.wrap ((i64.wrap ((i64.wrap (v8.1+1))+1))+1))+1))+1))+1))+1))+1)))) fun v9=>(m2 b (c.length:Int) (ck (fu b) (m2 b (c.length:Int) (ck (fu b) (ck (fu b) (call (Z280.R ((bH.at c (toNat b)).fB.an.bB.aX,(i64.wrap (v9.1+1)))) fun v10=>(m2 b (c.length:Int) (ck (fu b) (m2 b (c.length:Int) (ck (fu b) (m2 b (c.length:Int) (ck (fu b) (ck (fu b) (call (Z280.R ((bH.at c (toNat b)).fB.an.bw.aX,(i64.wrap ((i64.wrap (v10.1+1))+1)))) fun v11=>(m2 b (c.length:Int) (ck (fu b) (m2 b (c.length:Int) (ck (fu b) (m2 b (c.length:Int) (ck (fu b) (ck (fu b) (call (Z281.R ((bH.at c (toNat b)).fB.cm,(i64.wrap ((i64.wrap (v11.1+1))+1)))) fun v12=>J (.p0 v12.1 (i64.wrap (b+1)) (List.set c (toNat b) (bH.enc (⟨(⟨(⟨a,(i64.wrap (a+1)),(i64.wrap ((i64.wrap (a+1))+1)),(i64.wrap ((i64.wrap ((i64.wrap (a+1))+1))+1)),(i64.wrap ((i64.wrap ((i64.wrap ((i64.wrap (a+1))+1))+1))+1)),(i64.wrap ((i64.wrap ((i64.wrap ((i64.wrap ((i64.wrap (a+1))+1))+1))+1))+1)),(i64.wrap ((i64.wrap ((i64.wrap ((i64.wrap ((i64.wrap ((i64.wrap (a+1))+1))+1))+1))+1))+1)),(i64.wrap ((i64.wrap ((i64.wrap ((i64.wrap ((i64.wrap ((i64.wrap ((i64.wrap (a+1))+1))+1))+1))+1))+1))+1)),(⟨v1.2,v1.1⟩:bD),(⟨v2.2,v2.1⟩:bD),(i64.wrap (v2.1+1)),(⟨v3.2,v3.1⟩:bD),((Int.tmod (i64.wrap (v3.1+1)) 3)==0)⟩:bY),v4.2⟩:aR),(⟨(⟨v4.1,(i64.wrap (v4.1+1)),(i64.wrap ((i64.wrap (v4.1+1))+1)),(i64.wrap ((i64.wrap ((i64.wrap (v4.1+1))+1))+1)),(i64.wrap ((i64.wrap ((i64.wrap ((i64.wrap (v4.1+1))+1))+1))+1)),(i64.wrap ((i64.wrap ((i64.wrap ((i64.wrap ((i64.wrap (v4.1+1))+1))+1))+1))+1)),(i64.wrap ((i64.wrap ((i64.wrap ((i64.wrap ((i64.wrap ((i64.wrap (v4.1+1))+1))+1))+1))+1))+1)),(i64.wrap ((i64.wrap ((i64.wrap ((i64.wrap ((i64.wrap ((i64.wrap ((i64.wrap (v4.1+1))+1))+1))+1))+1))+1))+1)),(⟨v5.2,v5.1⟩:bD),(⟨v6.2,v6.1⟩:bD),(i64.wrap (v6.1+1)),(⟨v7.2,v7.1⟩:bD),((Int.tmod (i64.wrap (v7.1+1)) 3)==0)⟩:bY),v8.2⟩:aR),(⟨(⟨v8.1,(i64.wrap (v8.1+1)),(i64.wrap ((i64.wrap (v8.1+1))+1)),(i64.wrap ((i64.wrap ((i64.wrap (v8.1+1))+1))+1)),(i64.wrap ((i64.wrap ((i64.wrap ((i64.wrap (v8.1+1))+1))+1))+1)),(i64.wrap ((i64.wrap ((i64.wrap ((i64.wrap ((i64.wrap (v8.1+1))+1))+1))+1))+1)),(i64.wrap ((i64.wrap ((i64.wrap ((i64.wrap ((i64.wrap ((i64.wrap (v8.1+1))+1))+1))+1))+1))+1)),(i64.wrap ((i64.wrap ((i64.wrap ((i64.wrap ((i64.wrap ((i64.wrap ((i64.wrap (v8.1+1))+1))+1))+1))+1))+1))+1)),(⟨v9.2,v9.1⟩:bD),(⟨v10.2,v10.1⟩:bD),(i64.wrap (v10.1+1)),(⟨v11.2,v11.1⟩:bD),((Int.tmod (i64.wrap (v11.1+1)) 3)==0)⟩:bY),v12.2⟩:aR)⟩:bH))))))))))))))))))))))))))))))))))))))))))))))))))))))))))))))))))))))))))))))))))))))))))))))))))))))))))))))))))))))))))))))))) (ret ((a,c):Int×aC)))
def start (J:Pt->aH)(x0:aC)(x1:Int):aH:=J (.p0 x1 0 x0)
def live:Nat->Live:=fun i=>match i with | 2=>[(0,none),(1,none),(5,none)] | _=>[]
def pats:List (Bool×List K):=[(false,[.sl 143]),(false,[aD])]
def res:RP:=.nH [143]
abbrev E:Env:={ T:=assoc kL,G:=dw [],nt:=493,M:=fP [(57,Z280.aT),(95,Z281.aT)],np:=1,mt:=true }
def step_eq (I:cD)(p:Pt):cT E live I (pid p) (bO Tryz.f54) (fq (live (pid p)) (cg p) (bZ p)) (cE E Tryz.f54 res)=step (fun q=>I (pid q) (cg q) (bZ q)) p:=by
 cases p<;>kernel_rfl
def start_eq (I:cD)(ls:List L):eP E live I (bO Tryz.f54) (gB pats ls) (cE E Tryz.f54 res)=start (fun q=>I (pid q) (cg q) (bZ q)) (ls.headD .hole).aP ((aA 1 ls).headD .hole).toInt:=by kernel_rfl
def run_eq (n:Nat)(ls:List L):eJ E live Tryz.f54 res n (gB pats ls)=start (iter step n) (ls.headD .hole).aP ((aA 1 ls).headD .hole).toInt:=cy (id:=pid) (vs:=cg) (hs:=bZ) (step:=step) (start:=fun J=>start J (ls.headD .hole).aP ((aA 1 ls).headD .hole).toInt) step_eq (fun I=>start_eq I ls) n
def e1 (x:az)(k:Int):=Z280.md ((((x.aQ).an).bQ).aX) (i64.wrap ((i64.wrap ((i64.wrap ((i64.wrap ((i64.wrap ((i64.wrap ((i64.wrap ((i64.wrap (k+1))+1))+1))+1))+1))+1))+1))+1))
def e2 (x:az)(k:Int):=Z280.md ((((x.aQ).an).bB).aX) (i64.wrap ((e1 x k).1+1))
def e3 (x:az)(k:Int):=Z280.md ((((x.aQ).an).bw).aX) (i64.wrap ((i64.wrap ((e2 x k).1+1))+1))
def e4 (x:az)(k:Int):=Z281.md ((x.aQ).cm) (i64.wrap ((i64.wrap ((e3 x k).1+1))+1))
def e5 (x:az)(k:Int):=Z280.md ((((x.fA).an).bQ).aX) (i64.wrap ((i64.wrap ((i64.wrap ((i64.wrap ((i64.wrap ((i64.wrap ((i64.wrap ((i64.wrap ((e4 x k).1+1))+1))+1))+1))+1))+1))+1))+1))
def e6 (x:az)(k:Int):=Z280.md ((((x.fA).an).bB).aX) (i64.wrap ((e5 x k).1+1))
def e7 (x:az)(k:Int):=Z280.md ((((x.fA).an).bw).aX) (i64.wrap ((i64.wrap ((e6 x k).1+1))+1))
def e8 (x:az)(k:Int):=Z281.md ((x.fA).cm) (i64.wrap ((i64.wrap ((e7 x k).1+1))+1))
def e9 (x:az)(k:Int):=Z280.md ((((x.fB).an).bQ).aX) (i64.wrap ((i64.wrap ((i64.wrap ((i64.wrap ((i64.wrap ((i64.wrap ((i64.wrap ((i64.wrap ((e8 x k).1+1))+1))+1))+1))+1))+1))+1))+1))
def ur (x:az)(k:Int):=Z280.md ((((x.fB).an).bB).aX) (i64.wrap ((e9 x k).1+1))
def um (x:az)(k:Int):=Z280.md ((((x.fB).an).bw).aX) (i64.wrap ((i64.wrap ((ur x k).1+1))+1))
def yQ (x:az)(k:Int):=Z281.md ((x.fB).cm) (i64.wrap ((i64.wrap ((um x k).1+1))+1))
def el (x:az)(k:Int):Int×az:=((yQ x k).1,(⟨(⟨(⟨k,(i64.wrap (k+1)),(i64.wrap ((i64.wrap (k+1))+1)),(i64.wrap ((i64.wrap ((i64.wrap (k+1))+1))+1)),(i64.wrap ((i64.wrap ((i64.wrap ((i64.wrap (k+1))+1))+1))+1)),(i64.wrap ((i64.wrap ((i64.wrap ((i64.wrap ((i64.wrap (k+1))+1))+1))+1))+1)),(i64.wrap ((i64.wrap ((i64.wrap ((i64.wrap ((i64.wrap ((i64.wrap (k+1))+1))+1))+1))+1))+1)),(i64.wrap ((i64.wrap ((i64.wrap ((i64.wrap ((i64.wrap ((i64.wrap ((i64.wrap (k+1))+1))+1))+1))+1))+1))+1)),(⟨(e1 x k).2,(e1 x k).1⟩:aO),(⟨(e2 x k).2,(e2 x k).1⟩:aO),(i64.wrap ((e2 x k).1+1)),(⟨(e3 x k).2,(e3 x k).1⟩:aO),((Int.tmod (i64.wrap ((e3 x k).1+1)) 3)==0)⟩:aF),(e4 x k).2⟩:aa),(⟨(⟨(e4 x k).1,(i64.wrap ((e4 x k).1+1)),(i64.wrap ((i64.wrap ((e4 x k).1+1))+1)),(i64.wrap ((i64.wrap ((i64.wrap ((e4 x k).1+1))+1))+1)),(i64.wrap ((i64.wrap ((i64.wrap ((i64.wrap ((e4 x k).1+1))+1))+1))+1)),(i64.wrap ((i64.wrap ((i64.wrap ((i64.wrap ((i64.wrap ((e4 x k).1+1))+1))+1))+1))+1)),(i64.wrap ((i64.wrap ((i64.wrap ((i64.wrap ((i64.wrap ((i64.wrap ((e4 x k).1+1))+1))+1))+1))+1))+1)),(i64.wrap ((i64.wrap ((i64.wrap ((i64.wrap ((i64.wrap ((i64.wrap ((i64.wrap ((e4 x k).1+1))+1))+1))+1))+1))+1))+1)),(⟨(e5 x k).2,(e5 x k).1⟩:aO),(⟨(e6 x k).2,(e6 x k).1⟩:aO),(i64.wrap ((e6 x k).1+1)),(⟨(e7 x k).2,(e7 x k).1⟩:aO),((Int.tmod (i64.wrap ((e7 x k).1+1)) 3)==0)⟩:aF),(e8 x k).2⟩:aa),(⟨(⟨(e8 x k).1,(i64.wrap ((e8 x k).1+1)),(i64.wrap ((i64.wrap ((e8 x k).1+1))+1)),(i64.wrap ((i64.wrap ((i64.wrap ((e8 x k).1+1))+1))+1)),(i64.wrap ((i64.wrap ((i64.wrap ((i64.wrap ((e8 x k).1+1))+1))+1))+1)),(i64.wrap ((i64.wrap ((i64.wrap ((i64.wrap ((i64.wrap ((e8 x k).1+1))+1))+1))+1))+1)),(i64.wrap ((i64.wrap ((i64.wrap ((i64.wrap ((i64.wrap ((i64.wrap ((e8 x k).1+1))+1))+1))+1))+1))+1)),(i64.wrap ((i64.wrap ((i64.wrap ((i64.wrap ((i64.wrap ((i64.wrap ((i64.wrap ((e8 x k).1+1))+1))+1))+1))+1))+1))+1)),(⟨(e9 x k).2,(e9 x k).1⟩:aO),(⟨(ur x k).2,(ur x k).1⟩:aO),(i64.wrap ((ur x k).1+1)),(⟨(um x k).2,(um x k).1⟩:aO),((Int.tmod (i64.wrap ((um x k).1+1)) 3)==0)⟩:aF),(yQ x k).2⟩:aa)⟩:az))
def gZ (x:az)(k:Int)(hk:eB k):eB (el x k).1:=(Z281.iq (cA _))
def cnt (x:az):Nat:=39+Z280.sum ((((x.aQ).an).bQ).aX)+Z280.sum ((((x.aQ).an).bB).aX)+Z280.sum ((((x.aQ).an).bw).aX)+Z281.sum ((x.aQ).cm)+Z280.sum ((((x.fA).an).bQ).aX)+Z280.sum ((((x.fA).an).bB).aX)+Z280.sum ((((x.fA).an).bw).aX)+Z281.sum ((x.fA).cm)+Z280.sum ((((x.fB).an).bQ).aX)+Z280.sum ((((x.fB).an).bB).aX)+Z280.sum ((((x.fB).an).bw).aX)+Z281.sum ((x.fB).cm)
def sum (a:List az):Nat:=(a.map cnt).sum
def md (a0:List az)(a1:Int):Int×List az:=iW el a0 a1
def gd (a0:List az)(a1:Int):Prop:=eB a1
def acc (ls:List L):aC×Int:=((ls.headD .hole).aP,((aA 1 ls).headD .hole).toInt)
def R:(aC×Int)->Option (Int×aC):=RR (p2 gd) (u2 md)
def aj {a0 a1}(h:gd a0 a1):R ((a0.map az.row),a1)=some ((md a0 a1).1,((md a0 a1).2.map az.row)):=aN (a:=(a0,a1)) h
def aT:gD:=MN pats acc R
def bt (a0:List az)(a1:Int)(hg:gd a0 a1)(h0:a0.length<=maxLen):∃n,start (iter step n) (a0.map az.row) a1=ret (((md a0 a1).1,((md a0 a1).2.map az.row)):Int×aC):=by
 unfold gd at hg
 show ∃n,iter step n (Pt.p0 a1 0 (a0.map az.row))=_
 unfold md
 refine gf (el:=el) (xs:=a0) az.zero eB gZ (pt:=fun i k c=>Pt.p0 k (i:Int) (c.map az.row)) (out:=fun b=>ret (b.1,b.2.map az.row)) (fun J i k c hi hc hk=>?_) (fun J k c hc=>?_) hg
 ·have hm:c.length<=maxLen:=hc ▸ h0
  simp only [step,SS]
  refine ak (aL hi) ?_
  repeat first | refine ak aI ?_ | refine ak (aL hi) ?_ | refine ak (gO _) ?_
  refine aZ ((e1 (c.getD i az.zero) k).1,((e1 (c.getD i az.zero) k).2.map bh)) (Z280.aj (a0:=((((c.getD i az.zero).aQ).an).bQ).aX) (a1:=i64.wrap ((i64.wrap ((i64.wrap ((i64.wrap ((i64.wrap ((i64.wrap ((i64.wrap ((i64.wrap (k+1))+1))+1))+1))+1))+1))+1))+1)) (cA _)) ?_
  repeat first | refine ak aI ?_ | refine ak (aL hi) ?_ | refine ak (gO _) ?_
  refine aZ ((e2 (c.getD i az.zero) k).1,((e2 (c.getD i az.zero) k).2.map bh)) (Z280.aj (a0:=((((c.getD i az.zero).aQ).an).bB).aX) (a1:=i64.wrap ((e1 (c.getD i az.zero) k).1+1)) (cA _)) ?_
  repeat first | refine ak aI ?_ | refine ak (aL hi) ?_ | refine ak (gO _) ?_
  refine aZ ((e3 (c.getD i az.zero) k).1,((e3 (c.getD i az.zero) k).2.map bh)) (Z280.aj (a0:=((((c.getD i az.zero).aQ).an).bw).aX) (a1:=i64.wrap ((i64.wrap ((e2 (c.getD i az.zero) k).1+1))+1)) (cA _)) ?_
  repeat first | refine ak aI ?_ | refine ak (aL hi) ?_ | refine ak (gO _) ?_
  refine aZ ((e4 (c.getD i az.zero) k).1,((e4 (c.getD i az.zero) k).2.map bn.row)) (Z281.aj (a0:=((c.getD i az.zero).aQ).cm) (a1:=i64.wrap ((i64.wrap ((e3 (c.getD i az.zero) k).1+1))+1)) (cA _)) ?_
  repeat first | refine ak aI ?_ | refine ak (aL hi) ?_ | refine ak (gO _) ?_
  refine aZ ((e5 (c.getD i az.zero) k).1,((e5 (c.getD i az.zero) k).2.map bh)) (Z280.aj (a0:=((((c.getD i az.zero).fA).an).bQ).aX) (a1:=i64.wrap ((i64.wrap ((i64.wrap ((i64.wrap ((i64.wrap ((i64.wrap ((i64.wrap ((i64.wrap ((e4 (c.getD i az.zero) k).1+1))+1))+1))+1))+1))+1))+1))+1)) (cA _)) ?_
  repeat first | refine ak aI ?_ | refine ak (aL hi) ?_ | refine ak (gO _) ?_
  refine aZ ((e6 (c.getD i az.zero) k).1,((e6 (c.getD i az.zero) k).2.map bh)) (Z280.aj (a0:=((((c.getD i az.zero).fA).an).bB).aX) (a1:=i64.wrap ((e5 (c.getD i az.zero) k).1+1)) (cA _)) ?_
  repeat first | refine ak aI ?_ | refine ak (aL hi) ?_ | refine ak (gO _) ?_
  refine aZ ((e7 (c.getD i az.zero) k).1,((e7 (c.getD i az.zero) k).2.map bh)) (Z280.aj (a0:=((((c.getD i az.zero).fA).an).bw).aX) (a1:=i64.wrap ((i64.wrap ((e6 (c.getD i az.zero) k).1+1))+1)) (cA _)) ?_
  repeat first | refine ak aI ?_ | refine ak (aL hi) ?_ | refine ak (gO _) ?_
  refine aZ ((e8 (c.getD i az.zero) k).1,((e8 (c.getD i az.zero) k).2.map bn.row)) (Z281.aj (a0:=((c.getD i az.zero).fA).cm) (a1:=i64.wrap ((i64.wrap ((e7 (c.getD i az.zero) k).1+1))+1)) (cA _)) ?_
  repeat first | refine ak aI ?_ | refine ak (aL hi) ?_ | refine ak (gO _) ?_
  refine aZ ((e9 (c.getD i az.zero) k).1,((e9 (c.getD i az.zero) k).2.map bh)) (Z280.aj (a0:=((((c.getD i az.zero).fB).an).bQ).aX) (a1:=i64.wrap ((i64.wrap ((i64.wrap ((i64.wrap ((i64.wrap ((i64.wrap ((i64.wrap ((i64.wrap ((e8 (c.getD i az.zero) k).1+1))+1))+1))+1))+1))+1))+1))+1)) (cA _)) ?_
  repeat first | refine ak aI ?_ | refine ak (aL hi) ?_ | refine ak (gO _) ?_
  refine aZ ((ur (c.getD i az.zero) k).1,((ur (c.getD i az.zero) k).2.map bh)) (Z280.aj (a0:=((((c.getD i az.zero).fB).an).bB).aX) (a1:=i64.wrap ((e9 (c.getD i az.zero) k).1+1)) (cA _)) ?_
  repeat first | refine ak aI ?_ | refine ak (aL hi) ?_ | refine ak (gO _) ?_
  refine aZ ((um (c.getD i az.zero) k).1,((um (c.getD i az.zero) k).2.map bh)) (Z280.aj (a0:=((((c.getD i az.zero).fB).an).bw).aX) (a1:=i64.wrap ((i64.wrap ((ur (c.getD i az.zero) k).1+1))+1)) (cA _)) ?_
  repeat first | refine ak aI ?_ | refine ak (aL hi) ?_ | refine ak (gO _) ?_
  refine aZ ((yQ (c.getD i az.zero) k).1,((yQ (c.getD i az.zero) k).2.map bn.row)) (Z281.aj (a0:=((c.getD i az.zero).fB).cm) (a1:=i64.wrap ((i64.wrap ((um (c.getD i az.zero) k).1+1))+1)) (cA _)) ?_
  rw [aG hi hm]
  exact congrArg (fun q=>J (Pt.p0 (el (c.getD i az.zero) k).1 ((i+1:Nat):Int) q)) (List.map_set (f:=az.row) (l:=c) (i:=i) (a:=(el (c.getD i az.zero) k).2)).symm
 ·simp only [step,SS]
  refine cN (by apply decide_eq_false;omega) ?_
  rfl
def af:eR Tryz.prog Ev 54 aT:=MV (run:=fun n x=>start (iter step n) x.1 x.2) mix aE .nil (.cons Z280.af (.cons Z281.af .nil)) Tryz.func54 (by kernel_rfl) run_eq (fun ls a hl e hg=>bt a.1 a.2 hg (by have h:(ls.headD .hole).aP.length<=maxLen:=(hl _ _ (.head _)).len;have e:a.1.map az.row=(ls.headD .hole).aP:=(congrArg (fun x=>x.1) e.symm);rw [<-e] at h;simpa using h))
def iq {a0:List az}{a1:Int}(h:eB a1):eB (md a0 a1).1:=jf gZ h
def pE (x:az)(k:Int)(h0:0<=k)(hb:k+(cnt x:Int)<=4611686018427387904):(el x k).1=k+cnt x:=by
 simp only [cnt,Int.natCast_add] at hb ⊢
 simp (disch:=omega) only [el,e1,e2,e3,e4,e5,e6,e7,e8,e9,ur,um,yQ,wi,Z280.kk,Z281.kk]
 all_goals first | done | omega
def kk (a0:List az)(a1:Int)(h0:0<=a1)(hb:a1+(sum a0:Int)<=4611686018427387904):(md a0 a1).1=a1+sum a0:=gx pE a0 a1 h0 hb
def sz (a:List az):sum a<=60*(dO (fun y:az=>az.size y) a):=jo (fun x=>by
 have:=Z280.sz ((((x.aQ).an).bQ).aX)
 have:=Z280.sz ((((x.aQ).an).bB).aX)
 have:=Z280.sz ((((x.aQ).an).bw).aX)
 have:=Z281.sz ((x.aQ).cm)
 have:=Z280.sz ((((x.fA).an).bQ).aX)
 have:=Z280.sz ((((x.fA).an).bB).aX)
 have:=Z280.sz ((((x.fA).an).bw).aX)
 have:=Z281.sz ((x.fA).cm)
 have:=Z280.sz ((((x.fB).an).bQ).aX)
 have:=Z280.sz ((((x.fB).an).bB).aX)
 have:=Z280.sz ((((x.fB).an).bw).aX)
 have:=Z281.sz ((x.fB).cm)
 try simp only [cnt,az.size,aa.size,aF.size,aO.size] at *
 omega) a
end Z284
namespace Z285
set_option maxHeartbeats 8000000
def F (x0:bu)(x1:Int):aH:=(call (Z283.R (x0.aJ,x1)) fun v1=>(call (Z284.R (x0.bp,v1.1)) fun v2=>ret ((v2.1,v1.2,v2.2):Int×aC×aC)))
def pats:List (Bool×List K):=[(true,[.sl 134,.sl 143]),(false,[aD])]
def res:RP:=.nH [134,143]
def e1 (x:aq)(k:Int):=Z283.md x.aJ k
def e2 (x:aq)(k:Int):=Z284.md x.bp ((e1 x k).1)
def sum (x:aq):Nat:=0+Z283.sum x.aJ+Z284.sum x.bp
def md (a0:aq)(a1:Int):Int×List (List aa)×List az:=((e2 a0 a1).1,(e1 a0 a1).2,(e2 a0 a1).2)
def gd (a0:aq)(a1:Int):Prop:=eB a1
def acc (ls:List L):bu×Int:=((bu.dec ls),((aA 2 ls).headD .hole).toInt)
def R:(bu×Int)->Option (Int×aC×aC):=RR (p2 gd) (u2 md)
def aj {a0 a1}(h:gd a0 a1):R ((aq.r a0),a1)=some ((md a0 a1).1,((md a0 a1).2.1.map (dG aa.row)),((md a0 a1).2.2.map az.row)):=aN (a:=(a0,a1)) h
def aT:gD:=MN pats acc R
def bt (a0:aq)(a1:Int)(hg:gd a0 a1):F (aq.r a0) a1=ret (((md a0 a1).1,((md a0 a1).2.1.map (dG aa.row)),((md a0 a1).2.2.map az.row)):Int×aC×aC):=by
 unfold gd at hg
 simp only [F,SS]
 unfold md
 refine aZ ((e1 a0 a1).1,((e1 a0 a1).2.map (dG aa.row))) (Z283.aj (a0:=a0.aJ) (a1:=a1) hg) ?_
 refine aZ ((e2 a0 a1).1,((e2 a0 a1).2.map az.row)) (Z284.aj (a0:=a0.bp) (a1:=(e1 a0 a1).1) (Z283.iq hg)) ?_
 first | rfl | (simp only [SS];rfl)
def af:eR Tryz.prog Ev 21 aT:=MV (live:=fun _=>[]) (nt:=14) (run:=fun _ x=>F x.1 x.2) mix aE .nil (.cons Z283.af (.cons Z284.af .nil)) Tryz.func21 (by kernel_rfl) (fun _ _=>by kernel_rfl) (fun _ a _ _ hg=>⟨0,bt a.1 a.2 hg⟩)
def iq {a0:aq}{a1:Int}(hk:eB a1):eB (md a0 a1).1:=(Z284.iq (Z283.iq hk))
def kk (x:aq)(k:Int)(h0:0<=k)(hb:k+(sum x:Int)<=4611686018427387904):(md x k).1=k+sum x:=by
 simp only [sum,Int.natCast_add] at hb ⊢
 simp (disch:=omega) only [md,e1,e2,wi,Z283.kk,Z284.kk]
 all_goals first | done | omega
def sz (x:aq):sum x<=60*aq.size x:=by
 have:=Z283.sz x.aJ
 have:=Z284.sz x.bp
 try simp only [sum,aq.size] at *
 omega
def upd (x:aq)(k:Int):aq:=(⟨(md x k).2.1,(md x k).2.2⟩:aq)
end Z285
namespace Z286
inductive Pt where
 | p0 (a:Int) (b:aB)
def pid:Pt->Nat
 | .p0 ..=>4
def cg:Pt->List V
 | .p0 a b=>[.int .i64 a,.str b]
def bZ:Pt->List aW
 | .p0 a b=>[]
def step (J:Pt->aH):Pt->aH
 | .p0 a b=>(cond (decide (a>0)) (cond (decide ((((tQ [[L.int (IntKind.u8.wrap (i64.wrap (48+(Int.tmod a 10))))]]).size+b.size:Nat):Int)>9223372036854775807)) none (J (.p0 (i64.wrap (Int.tdiv a 10)) ((tQ [[L.int (IntKind.u8.wrap (i64.wrap (48+(Int.tmod a 10))))]])++b)))) (cond (decide ((((⟨#[109]⟩:aB).size+b.size:Nat):Int)>9223372036854775807)) none (ret (((⟨#[109]⟩:aB)++b):aB))))
def start (J:Pt->aH)(x0:Int):aH:=(cond (decide (x0<=0)) (ret ((⟨#[109,48]⟩:aB):aB)) (J (.p0 x0 ⟨#[]⟩)))
def live:Nat->Live:=fun i=>match i with | 4=>[(0,none),(3,none)] | _=>[]
def dg (a:Int):aB:=tQ [[L.int (IntKind.u8.wrap (i64.wrap (48+(Int.tmod a 10))))]]
def txt:Nat->Int->aB->aB
 | 0,_,b=>b
 | n+1,a,b=>bif decide (a>0) then txt n (i64.wrap (Int.tdiv a 10)) (dg a++b) else b
def zl (a:Int):(tQ [[L.int (IntKind.u8.wrap (i64.wrap (48+(Int.tmod a 10))))]]).size=1:=rfl
def run:∀(n:Nat) (a:Int) (b:aB),n<=64->a<2^n->eB a->b.size+n<=1000->∃m,iter step m (.p0 a b)=ret ((⟨#[109]⟩:aB)++txt n a b)
 | 0,a,b,_,h1,_,h3=>by
  refine ⟨1,?_⟩
  show step _ (.p0 a b)=_
  have e1:decide (a>0)=false:=decide_eq_false (by simp at h1;omega)
  have e2:decide ((((⟨#[109]⟩:aB).size+b.size:Nat):Int)>9223372036854775807)=false:=decide_eq_false (by have :(⟨#[109]⟩:aB).size=1:=rfl;omega)
  simp only [step,e1,e2,bq]
  rfl
 | n+1,a,b,hn,h1,h2,h3=>by
  by_cases hp:a>0
  ·have e1:decide (a>0)=true:=decide_eq_true hp
   have hq:Int.tdiv a 10=a / 10:=Int.tdiv_eq_ediv_of_nonneg (by omega)
   unfold eB at h2
   have hw:i64.wrap (Int.tdiv a 10)=a / 10:=by rw [hq];exact wi _ (by omega)
   have hlt:a / 10<2^n:=by
    have :(2:Int)^(n+1)=2^n*2:=Int.pow_succ 2 n
    omega
   have hs:(dg a++b).size=1+b.size:=by rw [ByteArray.size_append];rfl
   obtain ⟨m,hm⟩:=run n (a / 10) (dg a++b) (by omega) hlt ⟨by omega,by omega⟩ (by rw [hs];omega)
   refine ⟨m+1,?_⟩
   show step _ (.p0 a b)=_
   have e2:decide ((((tQ [[L.int (IntKind.u8.wrap (i64.wrap (48+(Int.tmod a 10))))]]).size+b.size:Nat):Int)>9223372036854775807)=false:=decide_eq_false (by rw [zl];omega)
   simp only [step,txt,e1,e2,bf,bq,hw]
   exact hm
  ·refine ⟨1,?_⟩
   show step _ (.p0 a b)=_
   have e1:decide (a>0)=false:=decide_eq_false hp
   have e2:decide ((((⟨#[109]⟩:aB).size+b.size:Nat):Int)>9223372036854775807)=false:=decide_eq_false (by have :(⟨#[109]⟩:aB).size=1:=rfl;omega)
   simp only [step,txt,e1,e2,bq]
def md (a0:Int):aB:=(cond (decide (a0<=0)) (⟨#[109,48]⟩:aB) ((⟨#[109]⟩:aB)++txt 64 a0 ⟨#[]⟩))
def gd (a0:Int):Prop:=eB a0
def R:=RR gd md
def aj {a0}(h:gd a0):R a0=some (md a0):=aN (a:=a0) h
def aT:=CN [pI] oS RT.dec R
def bt (a0)(hg:gd a0):∃n,start (iter step n) a0=ret (md a0):=by
 unfold gd at hg
 unfold start md
 cases h:decide (a0<=0)
 ·have h2:=hg.2
  have h3:(2:Int)^64=18446744073709551616:=by decide
  obtain ⟨m,hm⟩:=run 64 a0 ⟨#[]⟩ (Nat.le_refl _) (by rw [h3];omega) hg (by show 0+64<=1000;omega)
  exact ⟨m,hm⟩
 ·exact ⟨0,rfl⟩
def af:cw 56 aT:=L1 20 pid cg bZ live step start mix aE bt .nil Tryz.func56
end Z286
namespace Z287
set_option maxHeartbeats 8000000
inductive Pt where
 | p0 (a b:Int) (c:aC)
def pid:Pt->Nat
 | .p0 ..=>2
def cg:Pt->List V
 | .p0 a b c=>[.own 0,.int .i64 a,.int .i64 b]
def bZ:Pt->List aW
 | .p0 a b c=>[.row 9 c]
def step (J:Pt->aH):Pt->aH
 | .p0 a b c=>(cond (decide (b<(c.length:Int))) (call (Z286.R a) fun v1=>(m2 b (c.length:Int) (J (.p0 (i64.wrap (a+1)) (i64.wrap (b+1)) (List.set c (toNat b) [L.str v1]))))) (ret ((a,c):Int×aC)))
def start (J:Pt->aH)(x0:aC)(x1:Int):aH:=J (.p0 x1 0 x0)
def live:Nat->Live:=fun i=>match i with | 2=>[(0,none),(1,none),(5,none)] | _=>[]
def pats:List (Bool×List K):=[(false,[.sl 9]),(false,[aD])]
def res:RP:=.nH [9]
abbrev E:Env:={ T:=assoc kL,G:=dw [(56,Z286.aT)],nt:=20,M:=fP [],np:=1,mt:=true }
def step_eq (I:cD)(p:Pt):cT E live I (pid p) (bO Tryz.f24) (fq (live (pid p)) (cg p) (bZ p)) (cE E Tryz.f24 res)=step (fun q=>I (pid q) (cg q) (bZ q)) p:=by
 cases p<;>kernel_rfl
def start_eq (I:cD)(ls:List L):eP E live I (bO Tryz.f24) (gB pats ls) (cE E Tryz.f24 res)=start (fun q=>I (pid q) (cg q) (bZ q)) (ls.headD .hole).aP ((aA 1 ls).headD .hole).toInt:=by kernel_rfl
def run_eq (n:Nat)(ls:List L):eJ E live Tryz.f24 res n (gB pats ls)=start (iter step n) (ls.headD .hole).aP ((aA 1 ls).headD .hole).toInt:=cy (id:=pid) (vs:=cg) (hs:=bZ) (step:=step) (start:=fun J=>start J (ls.headD .hole).aP ((aA 1 ls).headD .hole).toInt) step_eq (fun I=>start_eq I ls) n
def el (x:aB)(k:Int):Int×aB:=((i64.wrap (k+1)),(Z286.md k))
def gZ (x:aB)(k:Int)(hk:eB k):eB (el x k).1:=(cA _)
def cnt (x:aB):Nat:=1
def sum (a:List aB):Nat:=(a.map cnt).sum
def md (a0:List aB)(a1:Int):Int×List aB:=iW el a0 a1
def gd (a0:List aB)(a1:Int):Prop:=eB a1
def acc (ls:List L):aC×Int:=((ls.headD .hole).aP,((aA 1 ls).headD .hole).toInt)
def R:(aC×Int)->Option (Int×aC):=RR (p2 gd) (u2 md)
def aj {a0 a1}(h:gd a0 a1):R ((a0.map cF),a1)=some ((md a0 a1).1,((md a0 a1).2.map cF)):=aN (a:=(a0,a1)) h
def aT:gD:=MN pats acc R
def bt (a0:List aB)(a1:Int)(hg:gd a0 a1)(h0:a0.length<=maxLen):∃n,start (iter step n) (a0.map cF) a1=ret (((md a0 a1).1,((md a0 a1).2.map cF)):Int×aC):=by
 unfold gd at hg
 show ∃n,iter step n (Pt.p0 a1 0 (a0.map cF))=_
 unfold md
 refine gf (el:=el) (xs:=a0) ⟨#[]⟩ eB gZ (pt:=fun i k c=>Pt.p0 k (i:Int) (c.map cF)) (out:=fun b=>ret (b.1,b.2.map cF)) (fun J i k c hi hc hk=>?_) (fun J k c hc=>?_) hg
 ·have hm:c.length<=maxLen:=hc ▸ h0
  simp only [step,SS]
  refine ak (aL hi) ?_
  refine aZ (Z286.md k) (Z286.aj (a0:=k) hk) ?_
  refine ak aI ?_
  refine ak (aL hi) ?_
  rw [aG hi hm]
  exact congrArg (fun q=>J (Pt.p0 (el (c.getD i ⟨#[]⟩) k).1 ((i+1:Nat):Int) q)) (List.map_set (f:=cF) (l:=c) (i:=i) (a:=(el (c.getD i ⟨#[]⟩) k).2)).symm
 ·simp only [step,SS]
  refine cN (by apply decide_eq_false;omega) ?_
  rfl
def af:eR Tryz.prog Ev 24 aT:=MV (run:=fun n x=>start (iter step n) x.1 x.2) mix aE (.cons Z286.af .nil) .nil Tryz.func24 (by kernel_rfl) run_eq (fun ls a hl e hg=>bt a.1 a.2 hg (by have h:(ls.headD .hole).aP.length<=maxLen:=(hl _ _ (.head _)).len;have e:a.1.map cF=(ls.headD .hole).aP:=(congrArg (fun x=>x.1) e.symm);rw [<-e] at h;simpa using h))
def iq {a0:List aB}{a1:Int}(h:eB a1):eB (md a0 a1).1:=jf gZ h
def pE (x:aB)(k:Int)(h0:0<=k)(hb:k+(cnt x:Int)<=4611686018427387904):(el x k).1=k+cnt x:=by
 simp only [cnt,Int.natCast_add] at hb ⊢
 simp (disch:=omega) only [el,wi]
 all_goals first | done | omega
def kk (a0:List aB)(a1:Int)(h0:0<=a1)(hb:a1+(sum a0:Int)<=4611686018427387904):(md a0 a1).1=a1+sum a0:=gx pE a0 a1 h0 hb
def sz (a:List aB):sum a<=60*(dO (fun y:aB=>y.size) a):=jo (fun x=>by
 try simp only [cnt] at *
 omega) a
end Z287
namespace Z288
set_option maxHeartbeats 8000000
inductive Pt where
 | p0 (a b:Int) (c:aC)
def pid:Pt->Nat
 | .p0 ..=>2
def cg:Pt->List V
 | .p0 a b c=>[.own 0,.int .i64 a,.int .i64 b]
def bZ:Pt->List aW
 | .p0 a b c=>[.row 57 c]
def step (J:Pt->aH):Pt->aH
 | .p0 a b c=>(cond (decide (b<(c.length:Int))) (call (Z286.R a) fun v1=>(m2 b (c.length:Int) (m2 b (c.length:Int) (ck (fu b) (m2 b (c.length:Int) (ck (fu b) (m2 b (c.length:Int) (ck (fu b) (ck (fu b) (call (Z287.R ((aU.at c (toNat b)).bI,(i64.wrap ((i64.wrap ((i64.wrap (a+1))+1))+1)))) fun v2=>J (.p0 v2.1 (i64.wrap (b+1)) (List.set c (toNat b) (aU.enc (⟨v1,(i64.wrap (a+1)),(i64.wrap ((i64.wrap (a+1))+1)),v2.2⟩:aU)))))))))))))) (ret ((a,c):Int×aC)))
def start (J:Pt->aH)(x0:aC)(x1:Int):aH:=J (.p0 x1 0 x0)
def live:Nat->Live:=fun i=>match i with | 2=>[(0,none),(1,none),(5,none)] | _=>[]
def pats:List (Bool×List K):=[(false,[.sl 57]),(false,[aD])]
def res:RP:=.nH [57]
abbrev E:Env:={ T:=assoc kL,G:=dw [(56,Z286.aT)],nt:=42,M:=fP [(24,Z287.aT)],np:=1,mt:=true }
def step_eq (I:cD)(p:Pt):cT E live I (pid p) (bO Tryz.f96) (fq (live (pid p)) (cg p) (bZ p)) (cE E Tryz.f96 res)=step (fun q=>I (pid q) (cg q) (bZ q)) p:=by
 cases p<;>kernel_rfl
def start_eq (I:cD)(ls:List L):eP E live I (bO Tryz.f96) (gB pats ls) (cE E Tryz.f96 res)=start (fun q=>I (pid q) (cg q) (bZ q)) (ls.headD .hole).aP ((aA 1 ls).headD .hole).toInt:=by kernel_rfl
def run_eq (n:Nat)(ls:List L):eJ E live Tryz.f96 res n (gB pats ls)=start (iter step n) (ls.headD .hole).aP ((aA 1 ls).headD .hole).toInt:=cy (id:=pid) (vs:=cg) (hs:=bZ) (step:=step) (start:=fun J=>start J (ls.headD .hole).aP ((aA 1 ls).headD .hole).toInt) step_eq (fun I=>start_eq I ls) n
def e1 (x:ah)(k:Int):=Z287.md x.bI (i64.wrap ((i64.wrap ((i64.wrap (k+1))+1))+1))
def el (x:ah)(k:Int):Int×ah:=((e1 x k).1,(⟨(Z286.md k),(i64.wrap (k+1)),(i64.wrap ((i64.wrap (k+1))+1)),(e1 x k).2⟩:ah))
def gZ (x:ah)(k:Int)(hk:eB k):eB (el x k).1:=(Z287.iq (cA _))
def cnt (x:ah):Nat:=3+Z287.sum x.bI
def sum (a:List ah):Nat:=(a.map cnt).sum
def md (a0:List ah)(a1:Int):Int×List ah:=iW el a0 a1
def gd (a0:List ah)(a1:Int):Prop:=eB a1
def acc (ls:List L):aC×Int:=((ls.headD .hole).aP,((aA 1 ls).headD .hole).toInt)
def R:(aC×Int)->Option (Int×aC):=RR (p2 gd) (u2 md)
def aj {a0 a1}(h:gd a0 a1):R ((a0.map ah.row),a1)=some ((md a0 a1).1,((md a0 a1).2.map ah.row)):=aN (a:=(a0,a1)) h
def aT:gD:=MN pats acc R
def bt (a0:List ah)(a1:Int)(hg:gd a0 a1)(h0:a0.length<=maxLen):∃n,start (iter step n) (a0.map ah.row) a1=ret (((md a0 a1).1,((md a0 a1).2.map ah.row)):Int×aC):=by
 unfold gd at hg
 show ∃n,iter step n (Pt.p0 a1 0 (a0.map ah.row))=_
 unfold md
 refine gf (el:=el) (xs:=a0) ah.zero eB gZ (pt:=fun i k c=>Pt.p0 k (i:Int) (c.map ah.row)) (out:=fun b=>ret (b.1,b.2.map ah.row)) (fun J i k c hi hc hk=>?_) (fun J k c hc=>?_) hg
 ·have hm:c.length<=maxLen:=hc ▸ h0
  simp only [step,SS]
  refine ak (aL hi) ?_
  refine aZ (Z286.md k) (Z286.aj (a0:=k) hk) ?_
  repeat first | refine ak aI ?_ | refine ak (aL hi) ?_ | refine ak (gO _) ?_
  refine aZ ((e1 (c.getD i ah.zero) k).1,((e1 (c.getD i ah.zero) k).2.map cF)) (Z287.aj (a0:=(c.getD i ah.zero).bI) (a1:=i64.wrap ((i64.wrap ((i64.wrap (k+1))+1))+1)) (cA _)) ?_
  rw [aG hi hm]
  exact congrArg (fun q=>J (Pt.p0 (el (c.getD i ah.zero) k).1 ((i+1:Nat):Int) q)) (List.map_set (f:=ah.row) (l:=c) (i:=i) (a:=(el (c.getD i ah.zero) k).2)).symm
 ·simp only [step,SS]
  refine cN (by apply decide_eq_false;omega) ?_
  rfl
def af:eR Tryz.prog Ev 96 aT:=MV (run:=fun n x=>start (iter step n) x.1 x.2) mix aE (.cons Z286.af .nil) (.cons Z287.af .nil) Tryz.func96 (by kernel_rfl) run_eq (fun ls a hl e hg=>bt a.1 a.2 hg (by have h:(ls.headD .hole).aP.length<=maxLen:=(hl _ _ (.head _)).len;have e:a.1.map ah.row=(ls.headD .hole).aP:=(congrArg (fun x=>x.1) e.symm);rw [<-e] at h;simpa using h))
def iq {a0:List ah}{a1:Int}(h:eB a1):eB (md a0 a1).1:=jf gZ h
def pE (x:ah)(k:Int)(h0:0<=k)(hb:k+(cnt x:Int)<=4611686018427387904):(el x k).1=k+cnt x:=by
 simp only [cnt,Int.natCast_add] at hb ⊢
 simp (disch:=omega) only [el,e1,wi,Z287.kk]
 all_goals first | done | omega
def kk (a0:List ah)(a1:Int)(h0:0<=a1)(hb:a1+(sum a0:Int)<=4611686018427387904):(md a0 a1).1=a1+sum a0:=gx pE a0 a1 h0 hb
def sz (a:List ah):sum a<=60*(dO (fun y:ah=>ah.size y) a):=jo (fun x=>by
 have:=Z287.sz x.bI
 try simp only [cnt,ah.size] at *
 omega) a
end Z288
namespace Z289
set_option maxHeartbeats 8000000
inductive Pt where
 | p0 (a b:Int) (c:aC)
def pid:Pt->Nat
 | .p0 ..=>2
def cg:Pt->List V
 | .p0 a b c=>[.own 0,.int .i64 a,.int .i64 b]
def bZ:Pt->List aW
 | .p0 a b c=>[.row 155 c]
def step (J:Pt->aH):Pt->aH
 | .p0 a b c=>(cond (decide (b<(c.length:Int))) (m2 b (c.length:Int) (call (Z282.R ((dL.at c (toNat b)).aS,a)) fun v1=>(m2 b (c.length:Int) (ck (fu b) (ck (fu b) (call (Z288.R ((dL.at c (toNat b)).bM,v1.1)) fun v2=>J (.p0 v2.1 (i64.wrap (b+1)) (List.set c (toNat b) (dL.enc (⟨v1.2,v2.2⟩:dL)))))))))) (ret ((a,c):Int×aC)))
def start (J:Pt->aH)(x0:aC)(x1:Int):aH:=J (.p0 x1 0 x0)
def live:Nat->Live:=fun i=>match i with | 2=>[(0,none),(1,none),(5,none)] | _=>[]
def pats:List (Bool×List K):=[(false,[.sl 155]),(false,[aD])]
def res:RP:=.nH [155]
abbrev E:Env:={ T:=assoc kL,G:=dw [],nt:=27,M:=fP [(94,Z282.aT),(96,Z288.aT)],np:=1,mt:=true }
def step_eq (I:cD)(p:Pt):cT E live I (pid p) (bO Tryz.f55) (fq (live (pid p)) (cg p) (bZ p)) (cE E Tryz.f55 res)=step (fun q=>I (pid q) (cg q) (bZ q)) p:=by
 cases p<;>kernel_rfl
def start_eq (I:cD)(ls:List L):eP E live I (bO Tryz.f55) (gB pats ls) (cE E Tryz.f55 res)=start (fun q=>I (pid q) (cg q) (bZ q)) (ls.headD .hole).aP ((aA 1 ls).headD .hole).toInt:=by kernel_rfl
def run_eq (n:Nat)(ls:List L):eJ E live Tryz.f55 res n (gB pats ls)=start (iter step n) (ls.headD .hole).aP ((aA 1 ls).headD .hole).toInt:=cy (id:=pid) (vs:=cg) (hs:=bZ) (step:=step) (start:=fun J=>start J (ls.headD .hole).aP ((aA 1 ls).headD .hole).toInt) step_eq (fun I=>start_eq I ls) n
def e1 (x:aK)(k:Int):=Z282.md x.aS k
def e2 (x:aK)(k:Int):=Z288.md x.bM ((e1 x k).1)
def el (x:aK)(k:Int):Int×aK:=((e2 x k).1,(⟨(e1 x k).2,(e2 x k).2⟩:aK))
def gZ (x:aK)(k:Int)(hk:eB k):eB (el x k).1:=(Z288.iq (Z282.iq hk))
def cnt (x:aK):Nat:=0+Z282.sum x.aS+Z288.sum x.bM
def sum (a:List aK):Nat:=(a.map cnt).sum
def md (a0:List aK)(a1:Int):Int×List aK:=iW el a0 a1
def gd (a0:List aK)(a1:Int):Prop:=eB a1
def acc (ls:List L):aC×Int:=((ls.headD .hole).aP,((aA 1 ls).headD .hole).toInt)
def R:(aC×Int)->Option (Int×aC):=RR (p2 gd) (u2 md)
def aj {a0 a1}(h:gd a0 a1):R ((a0.map aK.row),a1)=some ((md a0 a1).1,((md a0 a1).2.map aK.row)):=aN (a:=(a0,a1)) h
def aT:gD:=MN pats acc R
def bt (a0:List aK)(a1:Int)(hg:gd a0 a1)(h0:a0.length<=maxLen):∃n,start (iter step n) (a0.map aK.row) a1=ret (((md a0 a1).1,((md a0 a1).2.map aK.row)):Int×aC):=by
 unfold gd at hg
 show ∃n,iter step n (Pt.p0 a1 0 (a0.map aK.row))=_
 unfold md
 refine gf (el:=el) (xs:=a0) aK.zero eB gZ (pt:=fun i k c=>Pt.p0 k (i:Int) (c.map aK.row)) (out:=fun b=>ret (b.1,b.2.map aK.row)) (fun J i k c hi hc hk=>?_) (fun J k c hc=>?_) hg
 ·have hm:c.length<=maxLen:=hc ▸ h0
  simp only [step,SS]
  refine ak (aL hi) ?_
  refine ak aI ?_
  refine ak (aL hi) ?_
  refine aZ ((e1 (c.getD i aK.zero) k).1,((e1 (c.getD i aK.zero) k).2.map aa.row)) (Z282.aj (a0:=(c.getD i aK.zero).aS) (a1:=k) hk) ?_
  repeat first | refine ak aI ?_ | refine ak (aL hi) ?_ | refine ak (gO _) ?_
  refine aZ ((e2 (c.getD i aK.zero) k).1,((e2 (c.getD i aK.zero) k).2.map ah.row)) (Z288.aj (a0:=(c.getD i aK.zero).bM) (a1:=(e1 (c.getD i aK.zero) k).1) (Z282.iq hk)) ?_
  rw [aG hi hm]
  exact congrArg (fun q=>J (Pt.p0 (el (c.getD i aK.zero) k).1 ((i+1:Nat):Int) q)) (List.map_set (f:=aK.row) (l:=c) (i:=i) (a:=(el (c.getD i aK.zero) k).2)).symm
 ·simp only [step,SS]
  refine cN (by apply decide_eq_false;omega) ?_
  rfl
def af:eR Tryz.prog Ev 55 aT:=MV (run:=fun n x=>start (iter step n) x.1 x.2) mix aE .nil (.cons Z282.af (.cons Z288.af .nil)) Tryz.func55 (by kernel_rfl) run_eq (fun ls a hl e hg=>bt a.1 a.2 hg (by have h:(ls.headD .hole).aP.length<=maxLen:=(hl _ _ (.head _)).len;have e:a.1.map aK.row=(ls.headD .hole).aP:=(congrArg (fun x=>x.1) e.symm);rw [<-e] at h;simpa using h))
def iq {a0:List aK}{a1:Int}(h:eB a1):eB (md a0 a1).1:=jf gZ h
def pE (x:aK)(k:Int)(h0:0<=k)(hb:k+(cnt x:Int)<=4611686018427387904):(el x k).1=k+cnt x:=by
 simp only [cnt,Int.natCast_add] at hb ⊢
 simp (disch:=omega) only [el,e1,e2,wi,Z282.kk,Z288.kk]
 all_goals first | done | omega
def kk (a0:List aK)(a1:Int)(h0:0<=a1)(hb:a1+(sum a0:Int)<=4611686018427387904):(md a0 a1).1=a1+sum a0:=gx pE a0 a1 h0 hb
def sz (a:List aK):sum a<=60*(dO (fun y:aK=>aK.size y) a):=jo (fun x=>by
 have:=Z282.sz x.aS
 have:=Z288.sz x.bM
 try simp only [cnt,aK.size] at *
 omega) a
end Z289
namespace Z290
set_option maxHeartbeats 8000000
inductive Pt where
 | p0 (a b:Int) (c:aC)
def pid:Pt->Nat
 | .p0 ..=>2
def cg:Pt->List V
 | .p0 a b c=>[.own 0,.int .i64 a,.int .i64 b]
def bZ:Pt->List aW
 | .p0 a b c=>[.row 88 c]
def step (J:Pt->aH):Pt->aH
 | .p0 a b c=>(cond (decide (b<(c.length:Int))) (m2 b (c.length:Int) (call (Z289.R ((cL.at c (toNat b)).bG,a)) fun v1=>(m2 b (c.length:Int) (ck (fu b) (J (.p0 (i64.wrap (v1.1+1)) (i64.wrap (b+1)) (List.set c (toNat b) (cL.enc (⟨v1.2,v1.1⟩:cL))))))))) (ret ((a,c):Int×aC)))
def start (J:Pt->aH)(x0:aC)(x1:Int):aH:=J (.p0 x1 0 x0)
def live:Nat->Live:=fun i=>match i with | 2=>[(0,none),(1,none),(5,none)] | _=>[]
def pats:List (Bool×List K):=[(false,[.sl 88]),(false,[aD])]
def res:RP:=.nH [88]
abbrev E:Env:={ T:=assoc kL,G:=dw [],nt:=27,M:=fP [(55,Z289.aT)],np:=1,mt:=true }
def step_eq (I:cD)(p:Pt):cT E live I (pid p) (bO Tryz.f22) (fq (live (pid p)) (cg p) (bZ p)) (cE E Tryz.f22 res)=step (fun q=>I (pid q) (cg q) (bZ q)) p:=by
 cases p<;>kernel_rfl
def start_eq (I:cD)(ls:List L):eP E live I (bO Tryz.f22) (gB pats ls) (cE E Tryz.f22 res)=start (fun q=>I (pid q) (cg q) (bZ q)) (ls.headD .hole).aP ((aA 1 ls).headD .hole).toInt:=by kernel_rfl
def run_eq (n:Nat)(ls:List L):eJ E live Tryz.f22 res n (gB pats ls)=start (iter step n) (ls.headD .hole).aP ((aA 1 ls).headD .hole).toInt:=cy (id:=pid) (vs:=cg) (hs:=bZ) (step:=step) (start:=fun J=>start J (ls.headD .hole).aP ((aA 1 ls).headD .hole).toInt) step_eq (fun I=>start_eq I ls) n
def e1 (x:av)(k:Int):=Z289.md x.bG k
def el (x:av)(k:Int):Int×av:=((i64.wrap ((e1 x k).1+1)),(⟨(e1 x k).2,(e1 x k).1⟩:av))
def gZ (x:av)(k:Int)(hk:eB k):eB (el x k).1:=(cA _)
def cnt (x:av):Nat:=1+Z289.sum x.bG
def sum (a:List av):Nat:=(a.map cnt).sum
def md (a0:List av)(a1:Int):Int×List av:=iW el a0 a1
def gd (a0:List av)(a1:Int):Prop:=eB a1
def acc (ls:List L):aC×Int:=((ls.headD .hole).aP,((aA 1 ls).headD .hole).toInt)
def R:(aC×Int)->Option (Int×aC):=RR (p2 gd) (u2 md)
def aj {a0 a1}(h:gd a0 a1):R ((a0.map av.row),a1)=some ((md a0 a1).1,((md a0 a1).2.map av.row)):=aN (a:=(a0,a1)) h
def aT:gD:=MN pats acc R
def bt (a0:List av)(a1:Int)(hg:gd a0 a1)(h0:a0.length<=maxLen):∃n,start (iter step n) (a0.map av.row) a1=ret (((md a0 a1).1,((md a0 a1).2.map av.row)):Int×aC):=by
 unfold gd at hg
 show ∃n,iter step n (Pt.p0 a1 0 (a0.map av.row))=_
 unfold md
 refine gf (el:=el) (xs:=a0) av.zero eB gZ (pt:=fun i k c=>Pt.p0 k (i:Int) (c.map av.row)) (out:=fun b=>ret (b.1,b.2.map av.row)) (fun J i k c hi hc hk=>?_) (fun J k c hc=>?_) hg
 ·have hm:c.length<=maxLen:=hc ▸ h0
  simp only [step,SS]
  refine ak (aL hi) ?_
  refine ak aI ?_
  refine ak (aL hi) ?_
  refine aZ ((e1 (c.getD i av.zero) k).1,((e1 (c.getD i av.zero) k).2.map aK.row)) (Z289.aj (a0:=(c.getD i av.zero).bG) (a1:=k) hk) ?_
  refine ak aI ?_
  refine ak (aL hi) ?_
  refine ak (gO _) ?_
  rw [aG hi hm]
  exact congrArg (fun q=>J (Pt.p0 (el (c.getD i av.zero) k).1 ((i+1:Nat):Int) q)) (List.map_set (f:=av.row) (l:=c) (i:=i) (a:=(el (c.getD i av.zero) k).2)).symm
 ·simp only [step,SS]
  refine cN (by apply decide_eq_false;omega) ?_
  rfl
def af:eR Tryz.prog Ev 22 aT:=MV (run:=fun n x=>start (iter step n) x.1 x.2) mix aE .nil (.cons Z289.af .nil) Tryz.func22 (by kernel_rfl) run_eq (fun ls a hl e hg=>bt a.1 a.2 hg (by have h:(ls.headD .hole).aP.length<=maxLen:=(hl _ _ (.head _)).len;have e:a.1.map av.row=(ls.headD .hole).aP:=(congrArg (fun x=>x.1) e.symm);rw [<-e] at h;simpa using h))
def iq {a0:List av}{a1:Int}(h:eB a1):eB (md a0 a1).1:=jf gZ h
def pE (x:av)(k:Int)(h0:0<=k)(hb:k+(cnt x:Int)<=4611686018427387904):(el x k).1=k+cnt x:=by
 simp only [cnt,Int.natCast_add] at hb ⊢
 simp (disch:=omega) only [el,e1,wi,Z289.kk]
 all_goals first | done | omega
def kk (a0:List av)(a1:Int)(h0:0<=a1)(hb:a1+(sum a0:Int)<=4611686018427387904):(md a0 a1).1=a1+sum a0:=gx pE a0 a1 h0 hb
def sz (a:List av):sum a<=60*(dO (fun y:av=>av.size y) a):=jo (fun x=>by
 have:=Z289.sz x.bG
 try simp only [cnt,av.size] at *
 omega) a
end Z290
namespace Z291
set_option maxHeartbeats 8000000
inductive Pt where
 | p0 (a b:Int) (c:aC)
def pid:Pt->Nat
 | .p0 ..=>2
def cg:Pt->List V
 | .p0 a b c=>[.own 0,.int .i64 a,.int .i64 b]
def bZ:Pt->List aW
 | .p0 a b c=>[.row 118 c]
def step (J:Pt->aH):Pt->aH
 | .p0 a b c=>(cond (decide (b<(c.length:Int))) (call (Z286.R a) fun v1=>(m2 b (c.length:Int) (m2 b (c.length:Int) (ck (fu b) (J (.p0 (i64.wrap ((i64.wrap (a+1))+1)) (i64.wrap (b+1)) (List.set c (toNat b) (bF.enc (⟨v1,(i64.wrap (a+1))⟩:bF))))))))) (ret ((a,c):Int×aC)))
def start (J:Pt->aH)(x0:aC)(x1:Int):aH:=J (.p0 x1 0 x0)
def live:Nat->Live:=fun i=>match i with | 2=>[(0,none),(1,none),(5,none)] | _=>[]
def pats:List (Bool×List K):=[(false,[.sl 118]),(false,[aD])]
def res:RP:=.nH [118]
abbrev E:Env:={ T:=assoc kL,G:=dw [(56,Z286.aT)],nt:=28,M:=fP [],np:=1,mt:=true }
def step_eq (I:cD)(p:Pt):cT E live I (pid p) (bO Tryz.f38) (fq (live (pid p)) (cg p) (bZ p)) (cE E Tryz.f38 res)=step (fun q=>I (pid q) (cg q) (bZ q)) p:=by
 cases p<;>kernel_rfl
def start_eq (I:cD)(ls:List L):eP E live I (bO Tryz.f38) (gB pats ls) (cE E Tryz.f38 res)=start (fun q=>I (pid q) (cg q) (bZ q)) (ls.headD .hole).aP ((aA 1 ls).headD .hole).toInt:=by kernel_rfl
def run_eq (n:Nat)(ls:List L):eJ E live Tryz.f38 res n (gB pats ls)=start (iter step n) (ls.headD .hole).aP ((aA 1 ls).headD .hole).toInt:=cy (id:=pid) (vs:=cg) (hs:=bZ) (step:=step) (start:=fun J=>start J (ls.headD .hole).aP ((aA 1 ls).headD .hole).toInt) step_eq (fun I=>start_eq I ls) n
def el (x:bF)(k:Int):Int×bF:=((i64.wrap ((i64.wrap (k+1))+1)),(⟨(Z286.md k),(i64.wrap (k+1))⟩:bF))
def gZ (x:bF)(k:Int)(hk:eB k):eB (el x k).1:=(cA _)
def cnt (x:bF):Nat:=2
def sum (a:List bF):Nat:=(a.map cnt).sum
def md (a0:List bF)(a1:Int):Int×List bF:=iW el a0 a1
def gd (a0:List bF)(a1:Int):Prop:=eB a1
def acc (ls:List L):aC×Int:=((ls.headD .hole).aP,((aA 1 ls).headD .hole).toInt)
def R:(aC×Int)->Option (Int×aC):=RR (p2 gd) (u2 md)
def aj {a0 a1}(h:gd a0 a1):R ((a0.map bF.row),a1)=some ((md a0 a1).1,((md a0 a1).2.map bF.row)):=aN (a:=(a0,a1)) h
def aT:gD:=MN pats acc R
def bt (a0:List bF)(a1:Int)(hg:gd a0 a1)(h0:a0.length<=maxLen):∃n,start (iter step n) (a0.map bF.row) a1=ret (((md a0 a1).1,((md a0 a1).2.map bF.row)):Int×aC):=by
 unfold gd at hg
 show ∃n,iter step n (Pt.p0 a1 0 (a0.map bF.row))=_
 unfold md
 refine gf (el:=el) (xs:=a0) bF.zero eB gZ (pt:=fun i k c=>Pt.p0 k (i:Int) (c.map bF.row)) (out:=fun b=>ret (b.1,b.2.map bF.row)) (fun J i k c hi hc hk=>?_) (fun J k c hc=>?_) hg
 ·have hm:c.length<=maxLen:=hc ▸ h0
  simp only [step,SS]
  refine ak (aL hi) ?_
  refine aZ (Z286.md k) (Z286.aj (a0:=k) hk) ?_
  repeat first | refine ak aI ?_ | refine ak (aL hi) ?_ | refine ak (gO _) ?_
  rw [aG hi hm]
  exact congrArg (fun q=>J (Pt.p0 (el (c.getD i bF.zero) k).1 ((i+1:Nat):Int) q)) (List.map_set (f:=bF.row) (l:=c) (i:=i) (a:=(el (c.getD i bF.zero) k).2)).symm
 ·simp only [step,SS]
  refine cN (by apply decide_eq_false;omega) ?_
  rfl
def af:eR Tryz.prog Ev 38 aT:=MV (run:=fun n x=>start (iter step n) x.1 x.2) mix aE (.cons Z286.af .nil) .nil Tryz.func38 (by kernel_rfl) run_eq (fun ls a hl e hg=>bt a.1 a.2 hg (by have h:(ls.headD .hole).aP.length<=maxLen:=(hl _ _ (.head _)).len;have e:a.1.map bF.row=(ls.headD .hole).aP:=(congrArg (fun x=>x.1) e.symm);rw [<-e] at h;simpa using h))
def iq {a0:List bF}{a1:Int}(h:eB a1):eB (md a0 a1).1:=jf gZ h
def pE (x:bF)(k:Int)(h0:0<=k)(hb:k+(cnt x:Int)<=4611686018427387904):(el x k).1=k+cnt x:=by
 simp only [cnt,Int.natCast_add] at hb ⊢
 simp (disch:=omega) only [el,wi]
 all_goals first | done | omega
def kk (a0:List bF)(a1:Int)(h0:0<=a1)(hb:a1+(sum a0:Int)<=4611686018427387904):(md a0 a1).1=a1+sum a0:=gx pE a0 a1 h0 hb
def sz (a:List bF):sum a<=60*(dO (fun y:bF=>bF.size y) a):=jo (fun x=>by
 try simp only [cnt,bF.size] at *
 omega) a
end Z291
namespace Z292
set_option maxHeartbeats 8000000
def F (x0:aU)(x1:Int):aH:=(call (Z287.R (x0.bI,x1)) fun v1=>ret ((v1.1,v1.2):Int×aC))
def pats:List (Bool×List K):=[(true,[.str,aD,aD,.sl 9]),(false,[aD])]
def res:RP:=.nH [9]
def e1 (x:ah)(k:Int):=Z287.md x.bI k
def sum (x:ah):Nat:=0+Z287.sum x.bI
def md (a0:ah)(a1:Int):Int×List aB:=((e1 a0 a1).1,(e1 a0 a1).2)
def gd (a0:ah)(a1:Int):Prop:=eB a1
def acc (ls:List L):aU×Int:=((aU.dec ls),((aA 4 ls).headD .hole).toInt)
def R:(aU×Int)->Option (Int×aC):=RR (p2 gd) (u2 md)
def aj {a0 a1}(h:gd a0 a1):R ((ah.r a0),a1)=some ((md a0 a1).1,((md a0 a1).2.map cF)):=aN (a:=(a0,a1)) h
def aT:gD:=MN pats acc R
def bt (a0:ah)(a1:Int)(hg:gd a0 a1):F (ah.r a0) a1=ret (((md a0 a1).1,((md a0 a1).2.map cF)):Int×aC):=by
 unfold gd at hg
 simp only [F,SS]
 unfold md
 refine aZ ((e1 a0 a1).1,((e1 a0 a1).2.map cF)) (Z287.aj (a0:=a0.bI) (a1:=a1) hg) ?_
 first | rfl | (simp only [SS];rfl)
def af:eR Tryz.prog Ev 74 aT:=MV (live:=fun _=>[]) (nt:=10) (run:=fun _ x=>F x.1 x.2) mix aE .nil (.cons Z287.af .nil) Tryz.func74 (by kernel_rfl) (fun _ _=>by kernel_rfl) (fun _ a _ _ hg=>⟨0,bt a.1 a.2 hg⟩)
def iq {a0:ah}{a1:Int}(hk:eB a1):eB (md a0 a1).1:=(Z287.iq hk)
def kk (x:ah)(k:Int)(h0:0<=k)(hb:k+(sum x:Int)<=4611686018427387904):(md x k).1=k+sum x:=by
 simp only [sum,Int.natCast_add] at hb ⊢
 simp (disch:=omega) only [md,e1,wi,Z287.kk]
 all_goals first | done | omega
def sz (x:ah):sum x<=60*ah.size x:=by
 have:=Z287.sz x.bI
 try simp only [sum,ah.size] at *
 omega
def upd (x:ah)(k:Int):ah:=(⟨x.bk,x.bK,x.bW,(md x k).2⟩:ah)
end Z292
namespace Z293
set_option maxHeartbeats 8000000
def F (x0:cP)(x1:Int):aH:=(call (Z285.R (x0.bX,x1)) fun v1=>(call (Z292.R (x0.aV,v1.1)) fun v2=>(call (Z280.R (x0.bG,v2.1)) fun v3=>ret ((v3.1,v1.2.1,v1.2.2,v2.2,v3.2):Int×aC×aC×aC×aC))))
def pats:List (Bool×List K):=[(true,[.sl 134,.sl 143,aD,.str,aD,aD,.sl 9,.sl 3,aD]),(false,[aD])]
def res:RP:=.nH [134,143,9,3]
def e1 (x:bA)(k:Int):=Z285.md x.bX k
def e2 (x:bA)(k:Int):=Z292.md x.aV ((e1 x k).1)
def e3 (x:bA)(k:Int):=Z280.md x.bG ((e2 x k).1)
def sum (x:bA):Nat:=0+Z285.sum x.bX+Z292.sum x.aV+Z280.sum x.bG
def md (a0:bA)(a1:Int):Int×List (List aa)×List az×List aB×List Int:=((e3 a0 a1).1,(e1 a0 a1).2.1,(e1 a0 a1).2.2,(e2 a0 a1).2,(e3 a0 a1).2)
def gd (a0:bA)(a1:Int):Prop:=eB a1
def acc (ls:List L):cP×Int:=((cP.dec ls),((aA 9 ls).headD .hole).toInt)
def R:(cP×Int)->Option (Int×aC×aC×aC×aC):=RR (p2 gd) (u2 md)
def aj {a0 a1}(h:gd a0 a1):R ((bA.r a0),a1)=some ((md a0 a1).1,((md a0 a1).2.1.map (dG aa.row)),((md a0 a1).2.2.1.map az.row),((md a0 a1).2.2.2.1.map cF),((md a0 a1).2.2.2.2.map bh)):=aN (a:=(a0,a1)) h
def aT:gD:=MN pats acc R
def bt (a0:bA)(a1:Int)(hg:gd a0 a1):F (bA.r a0) a1=ret (((md a0 a1).1,((md a0 a1).2.1.map (dG aa.row)),((md a0 a1).2.2.1.map az.row),((md a0 a1).2.2.2.1.map cF),((md a0 a1).2.2.2.2.map bh)):Int×aC×aC×aC×aC):=by
 unfold gd at hg
 simp only [F,SS]
 unfold md
 refine aZ ((e1 a0 a1).1,((e1 a0 a1).2.1.map (dG aa.row)),((e1 a0 a1).2.2.map az.row)) (Z285.aj (a0:=a0.bX) (a1:=a1) hg) ?_
 refine aZ ((e2 a0 a1).1,((e2 a0 a1).2.map cF)) (Z292.aj (a0:=a0.aV) (a1:=(e1 a0 a1).1) (Z285.iq hg)) ?_
 refine aZ ((e3 a0 a1).1,((e3 a0 a1).2.map bh)) (Z280.aj (a0:=a0.bG) (a1:=(e2 a0 a1).1) (Z292.iq (Z285.iq hg))) ?_
 first | rfl | (simp only [SS];rfl)
def af:eR Tryz.prog Ev 31 aT:=MV (live:=fun _=>[]) (nt:=18) (run:=fun _ x=>F x.1 x.2) mix aE .nil (.cons Z285.af (.cons Z292.af (.cons Z280.af .nil))) Tryz.func31 (by kernel_rfl) (fun _ _=>by kernel_rfl) (fun _ a _ _ hg=>⟨0,bt a.1 a.2 hg⟩)
def iq {a0:bA}{a1:Int}(hk:eB a1):eB (md a0 a1).1:=(Z280.iq (Z292.iq (Z285.iq hk)))
def kk (x:bA)(k:Int)(h0:0<=k)(hb:k+(sum x:Int)<=4611686018427387904):(md x k).1=k+sum x:=by
 simp only [sum,Int.natCast_add] at hb ⊢
 simp (disch:=omega) only [md,e1,e2,e3,wi,Z285.kk,Z292.kk,Z280.kk]
 all_goals first | done | omega
def sz (x:bA):sum x<=60*bA.size x:=by
 have:=Z285.sz x.bX
 have:=Z292.sz x.aV
 have:=Z280.sz x.bG
 try simp only [sum,bA.size,aq.size,ah.size] at *
 omega
def upd (x:bA)(k:Int):bA:=(⟨(⟨(md x k).2.1,(md x k).2.2.1⟩:aq),x.gp,(⟨x.aV.bk,x.aV.bK,x.aV.bW,(md x k).2.2.2.1⟩:ah),(md x k).2.2.2.2,x.eY⟩:bA)
end Z293
namespace Z294
set_option maxHeartbeats 8000000
inductive Pt where
 | p0 (a:aC) (b c:Int)
def pid:Pt->Nat
 | .p0 ..=>2
def cg:Pt->List V
 | .p0 a b c=>[.sl none 3 a,.int .i64 b,.int .i64 c]
def bZ:Pt->List aW
 | .p0 a b c=>[]
def step (J:Pt->aH):Pt->aH
 | .p0 a b c=>(cond (decide (c<(a.length:Int))) (m2 c (a.length:Int) (cond ((je a (toNat c)) != b) (ret ((-1):Int)) (J (.p0 a (i64.wrap (b+1)) (i64.wrap (c+1)))))) (ret (b:Int)))
def start (J:Pt->aH)(x0:aC)(x1:Int):aH:=J (.p0 x0 x1 0)
def live:Nat->Live:=fun i=>match i with | 2=>[(0,none),(1,none),(5,none)] | _=>[]
def pats:List fY:=[.rd (.sl 3),.rd (.int .i64)]
def res:RP:=.one (.rd (.int .i64))
abbrev E:Env:={ T:=assoc kL,G:=dw [],nt:=21 }
def step_eq (I:cD)(p:Pt):cT E live I (pid p) (bO Tryz.f61) (fq (live (pid p)) (cg p) (bZ p)) (cE E Tryz.f61 res)=step (fun q=>I (pid q) (cg q) (bZ q)) p:=by
 cases p<;>kernel_rfl
def start_eq (I:cD)(ls:List L):eP E live I (bO Tryz.f61) (cV pats ls) (cE E Tryz.f61 res)=start (fun q=>I (pid q) (cg q) (bZ q)) (ls.headD .hole).aP ((aA 1 ls).headD .hole).toInt:=by kernel_rfl
def run_eq (n:Nat)(ls:List L):eJ E live Tryz.f61 res n (cV pats ls)=start (iter step n) (ls.headD .hole).aP ((aA 1 ls).headD .hole).toInt:=cy (id:=pid) (vs:=cg) (hs:=bZ) (step:=step) (start:=fun J=>start J (ls.headD .hole).aP ((aA 1 ls).headD .hole).toInt) step_eq (fun I=>start_eq I ls) n
def f (x k:Int):Option Int:=(cond (x != k) none (some (i64.wrap (k+1))))
def tJ (x k k2:Int)(hk:eB k)(h:f x k=some k2):eB k2:=by
 unfold f at h
 have h:=bJ h
 injection h with h
 subst h
 exact (cA _)
def md (a0:List Int)(a1:Int):Int:=jg f a0 a1
def gd (a0:List Int)(a1:Int):Prop:=eB a1
def acc (ls:List L):aC×Int:=((ls.headD .hole).aP,((aA 1 ls).headD .hole).toInt)
def R:(aC×Int)->Option Int:=RR (p2 gd) (u2 md)
def aj {a0 a1}(h:gd a0 a1):R ((a0.map bh),a1)=some (md a0 a1):=aN (a:=(a0,a1)) h
def aT:fQ:=CN pats res acc R
def bt (a0:List Int)(a1:Int)(hg:gd a0 a1)(h0:a0.length<=maxLen):∃n,start (iter step n) (a0.map bh) a1=ret ((md a0 a1):Int):=by
 unfold gd at hg
 show ∃n,iter step n (Pt.p0 (a0.map bh) a1 0)=_
 unfold md
 refine iY (f:=f) (xs:=a0) 0 eB tJ (pt:=fun i k=>Pt.p0 (a0.map bh) k (i:Int)) (fun J i k hi hk=>?_) (fun J k=>?_) hg
 ·simp only [step,SS]
  refine ak (aL hi) ?_
  refine ak aI ?_
  refine ak (aL hi) ?_
  refine bN rfl ?_
  rw [aG hi h0]
  rfl
 ·simp only [step,SS]
  refine cN (by apply decide_eq_false;omega) ?_
  rfl
def af:cw 61 aT:=VV (run:=fun n x=>start (iter step n) x.1 x.2) mix aE .nil Tryz.func61 (by kernel_rfl) run_eq (fun ls a hl e hg=>bt a.1 a.2 hg (by have h:(ls.headD .hole).aP.length<=maxLen:=hl.1.len;have e:a.1.map bh=(ls.headD .hole).aP:=(congrArg (fun x=>x.1) e.symm);rw [<-e] at h;simpa using h))
def iq {a0:List Int}{a1:Int}(h:eB a1):eB (md a0 a1):=kI tJ jy h
def yu (x k:Int)(h0:0<=k)(hb:k+(Z280.cnt x:Int)<=4611686018427387904):f (Z280.el x k).2 k=some (k+Z280.cnt x):=by
 simp only [Z280.cnt,Int.natCast_add] at hb ⊢
 simp (disch:=omega) only [Z280.el,f,wi,bne_self_eq_false,beq_self_eq_true,fX,Bool.not_true,bq,dm]
 all_goals first | done | omega | (congr 1<;>omega)
def mk (a0:List Int)(a1:Int)(h0:0<=a1)(hb:a1+(Z280.sum a0:Int)<=4611686018427387904):md (Z280.md a0 a1).2 a1=a1+Z280.sum a0:=ij Z280.pE yu a0 a1 h0 hb
end Z294
namespace Z295
set_option maxHeartbeats 8000000
inductive Pt where
 | p0 (a:aC) (b c:Int)
def pid:Pt->Nat
 | .p0 ..=>2
def cg:Pt->List V
 | .p0 a b c=>[.sl none 190 a,.int .i64 b,.int .i64 c]
def bZ:Pt->List aW
 | .p0 a b c=>[]
def step (J:Pt->aH):Pt->aH
 | .p0 a b c=>(cond (decide (c<(a.length:Int))) (m2 c (a.length:Int) (cond ((bn.at a (toNat c)).gJ != b) (ret ((-1):Int)) (m2 c (a.length:Int) (cond ((bn.at a (toNat c)).jq != (i64.wrap (b+1))) (ret ((-1):Int)) (J (.p0 a (i64.wrap ((i64.wrap (b+1))+1)) (i64.wrap (c+1)))))))) (ret (b:Int)))
def start (J:Pt->aH)(x0:aC)(x1:Int):aH:=J (.p0 x0 x1 0)
def live:Nat->Live:=fun i=>match i with | 2=>[(0,none),(1,none),(5,none)] | _=>[]
def pats:List fY:=[.rd (.sl 190),.rd (.int .i64)]
def res:RP:=.one (.rd (.int .i64))
abbrev E:Env:={ T:=assoc kL,G:=dw [],nt:=31 }
def step_eq (I:cD)(p:Pt):cT E live I (pid p) (bO Tryz.f98) (fq (live (pid p)) (cg p) (bZ p)) (cE E Tryz.f98 res)=step (fun q=>I (pid q) (cg q) (bZ q)) p:=by
 cases p<;>kernel_rfl
def start_eq (I:cD)(ls:List L):eP E live I (bO Tryz.f98) (cV pats ls) (cE E Tryz.f98 res)=start (fun q=>I (pid q) (cg q) (bZ q)) (ls.headD .hole).aP ((aA 1 ls).headD .hole).toInt:=by kernel_rfl
def run_eq (n:Nat)(ls:List L):eJ E live Tryz.f98 res n (cV pats ls)=start (iter step n) (ls.headD .hole).aP ((aA 1 ls).headD .hole).toInt:=cy (id:=pid) (vs:=cg) (hs:=bZ) (step:=step) (start:=fun J=>start J (ls.headD .hole).aP ((aA 1 ls).headD .hole).toInt) step_eq (fun I=>start_eq I ls) n
def f (x:bn)(k:Int):Option Int:=(cond (x.gJ != k) none (cond (x.jq != (i64.wrap (k+1))) none (some (i64.wrap ((i64.wrap (k+1))+1)))))
def tJ (x:bn)(k k2:Int)(hk:eB k)(h:f x k=some k2):eB k2:=by
 unfold f at h
 have h:=bJ h
 have h:=bJ h
 injection h with h
 subst h
 exact (cA _)
def md (a0:List bn)(a1:Int):Int:=jg f a0 a1
def gd (a0:List bn)(a1:Int):Prop:=eB a1
def acc (ls:List L):aC×Int:=((ls.headD .hole).aP,((aA 1 ls).headD .hole).toInt)
def R:(aC×Int)->Option Int:=RR (p2 gd) (u2 md)
def aj {a0 a1}(h:gd a0 a1):R ((a0.map bn.row),a1)=some (md a0 a1):=aN (a:=(a0,a1)) h
def aT:fQ:=CN pats res acc R
def bt (a0:List bn)(a1:Int)(hg:gd a0 a1)(h0:a0.length<=maxLen):∃n,start (iter step n) (a0.map bn.row) a1=ret ((md a0 a1):Int):=by
 unfold gd at hg
 show ∃n,iter step n (Pt.p0 (a0.map bn.row) a1 0)=_
 unfold md
 refine iY (f:=f) (xs:=a0) bn.zero eB tJ (pt:=fun i k=>Pt.p0 (a0.map bn.row) k (i:Int)) (fun J i k hi hk=>?_) (fun J k=>?_) hg
 ·simp only [step,SS]
  refine ak (aL hi) ?_
  refine ak aI ?_
  refine ak (aL hi) ?_
  refine bN rfl ?_
  refine ak aI ?_
  refine ak (aL hi) ?_
  refine bN rfl ?_
  rw [aG hi h0]
  rfl
 ·simp only [step,SS]
  refine cN (by apply decide_eq_false;omega) ?_
  rfl
def af:cw 98 aT:=VV (run:=fun n x=>start (iter step n) x.1 x.2) mix aE .nil Tryz.func98 (by kernel_rfl) run_eq (fun ls a hl e hg=>bt a.1 a.2 hg (by have h:(ls.headD .hole).aP.length<=maxLen:=hl.1.len;have e:a.1.map bn.row=(ls.headD .hole).aP:=(congrArg (fun x=>x.1) e.symm);rw [<-e] at h;simpa using h))
def iq {a0:List bn}{a1:Int}(h:eB a1):eB (md a0 a1):=kI tJ jy h
def yu (x:bn)(k:Int)(h0:0<=k)(hb:k+(Z281.cnt x:Int)<=4611686018427387904):f (Z281.el x k).2 k=some (k+Z281.cnt x):=by
 simp only [Z281.cnt,Int.natCast_add] at hb ⊢
 simp (disch:=omega) only [Z281.el,f,wi,bne_self_eq_false,beq_self_eq_true,fX,Bool.not_true,bq,dm]
 all_goals first | done | omega | (congr 1<;>omega)
def mk (a0:List bn)(a1:Int)(h0:0<=a1)(hb:a1+(Z281.sum a0:Int)<=4611686018427387904):md (Z281.md a0 a1).2 a1=a1+Z281.sum a0:=ij Z281.pE yu a0 a1 h0 hb
end Z295
namespace Z296
set_option maxHeartbeats 8000000
inductive Pt where
 | p0 (a:aC) (b c:Int)
def pid:Pt->Nat
 | .p0 ..=>2
def cg:Pt->List V
 | .p0 a b c=>[.sl none 141 a,.int .i64 b,.int .i64 c]
def bZ:Pt->List aW
 | .p0 a b c=>[]
def step (J:Pt->aH):Pt->aH
 | .p0 a b c=>(cond (decide (c<(a.length:Int))) (m2 c (a.length:Int) (cond ((aR.at a (toNat c)).an.bC != b) (ret ((-1):Int)) (m2 c (a.length:Int) (cond ((aR.at a (toNat c)).an.cI != (i64.wrap (b+1))) (ret ((-1):Int)) (m2 c (a.length:Int) (cond ((aR.at a (toNat c)).an.bK != (i64.wrap ((i64.wrap (b+1))+1))) (ret ((-1):Int)) (m2 c (a.length:Int) (cond ((aR.at a (toNat c)).an.cG != (i64.wrap ((i64.wrap ((i64.wrap (b+1))+1))+1))) (ret ((-1):Int)) (m2 c (a.length:Int) (cond ((aR.at a (toNat c)).an.cz != (i64.wrap ((i64.wrap ((i64.wrap ((i64.wrap (b+1))+1))+1))+1))) (ret ((-1):Int)) (m2 c (a.length:Int) (cond ((aR.at a (toNat c)).an.cq != (i64.wrap ((i64.wrap ((i64.wrap ((i64.wrap ((i64.wrap (b+1))+1))+1))+1))+1))) (ret ((-1):Int)) (m2 c (a.length:Int) (cond ((aR.at a (toNat c)).an.cW != (i64.wrap ((i64.wrap ((i64.wrap ((i64.wrap ((i64.wrap ((i64.wrap (b+1))+1))+1))+1))+1))+1))) (ret ((-1):Int)) (m2 c (a.length:Int) (cond ((aR.at a (toNat c)).an.dy != (i64.wrap ((i64.wrap ((i64.wrap ((i64.wrap ((i64.wrap ((i64.wrap ((i64.wrap (b+1))+1))+1))+1))+1))+1))+1))) (ret ((-1):Int)) (m2 c (a.length:Int) (call (Z294.R ((aR.at a (toNat c)).an.bQ.aX,(i64.wrap ((i64.wrap ((i64.wrap ((i64.wrap ((i64.wrap ((i64.wrap ((i64.wrap ((i64.wrap (b+1))+1))+1))+1))+1))+1))+1))+1)))) fun v1=>(cond (decide (v1<0)) (ret ((-1):Int)) (m2 c (a.length:Int) (cond ((aR.at a (toNat c)).an.bQ.cC != v1) (ret ((-1):Int)) (m2 c (a.length:Int) (call (Z294.R ((aR.at a (toNat c)).an.bB.aX,(i64.wrap (v1+1)))) fun v2=>(cond (decide (v2<0)) (ret ((-1):Int)) (m2 c (a.length:Int) (cond ((aR.at a (toNat c)).an.bB.cC != v2) (ret ((-1):Int)) (m2 c (a.length:Int) (cond ((aR.at a (toNat c)).an.cY != (i64.wrap (v2+1))) (ret ((-1):Int)) (m2 c (a.length:Int) (call (Z294.R ((aR.at a (toNat c)).an.bw.aX,(i64.wrap ((i64.wrap (v2+1))+1)))) fun v3=>(cond (decide (v3<0)) (ret ((-1):Int)) (m2 c (a.length:Int) (cond ((aR.at a (toNat c)).an.bw.cC != v3) (ret ((-1):Int)) (m2 c (a.length:Int) (cond (!((aR.at a (toNat c)).an.bE==((Int.tmod (i64.wrap (v3+1)) 3)==0))) (ret ((-1):Int)) (m2 c (a.length:Int) (call (Z295.R ((aR.at a (toNat c)).cm,(i64.wrap ((i64.wrap (v3+1))+1)))) fun v4=>(cond (decide (v4<0)) (ret ((-1):Int)) (J (.p0 a v4 (i64.wrap (c+1)))))))))))))))))))))))))))))))))))))))))) (ret (b:Int)))
def start (J:Pt->aH)(x0:aC)(x1:Int):aH:=J (.p0 x0 x1 0)
def live:Nat->Live:=fun i=>match i with | 2=>[(0,none),(1,none),(5,none)] | _=>[]
def pats:List fY:=[.rd (.sl 141),.rd (.int .i64)]
def res:RP:=.one (.rd (.int .i64))
abbrev E:Env:={ T:=assoc kL,G:=dw [(61,Z294.aT),(98,Z295.aT)],nt:=190 }
def step_eq (I:cD)(p:Pt):cT E live I (pid p) (bO Tryz.f97) (fq (live (pid p)) (cg p) (bZ p)) (cE E Tryz.f97 res)=step (fun q=>I (pid q) (cg q) (bZ q)) p:=by
 cases p<;>kernel_rfl
def start_eq (I:cD)(ls:List L):eP E live I (bO Tryz.f97) (cV pats ls) (cE E Tryz.f97 res)=start (fun q=>I (pid q) (cg q) (bZ q)) (ls.headD .hole).aP ((aA 1 ls).headD .hole).toInt:=by kernel_rfl
def run_eq (n:Nat)(ls:List L):eJ E live Tryz.f97 res n (cV pats ls)=start (iter step n) (ls.headD .hole).aP ((aA 1 ls).headD .hole).toInt:=cy (id:=pid) (vs:=cg) (hs:=bZ) (step:=step) (start:=fun J=>start J (ls.headD .hole).aP ((aA 1 ls).headD .hole).toInt) step_eq (fun I=>start_eq I ls) n
def e1 (x:aa)(k:Int):=Z294.md (((x.an).bQ).aX) (i64.wrap ((i64.wrap ((i64.wrap ((i64.wrap ((i64.wrap ((i64.wrap ((i64.wrap ((i64.wrap (k+1))+1))+1))+1))+1))+1))+1))+1))
def e2 (x:aa)(k:Int):=Z294.md (((x.an).bB).aX) (i64.wrap ((e1 x k)+1))
def e3 (x:aa)(k:Int):=Z294.md (((x.an).bw).aX) (i64.wrap ((i64.wrap ((e2 x k)+1))+1))
def e4 (x:aa)(k:Int):=Z295.md x.cm (i64.wrap ((i64.wrap ((e3 x k)+1))+1))
def f (x:aa)(k:Int):Option Int:=(cond ((x.an).bC != k) none (cond ((x.an).cI != (i64.wrap (k+1))) none (cond ((x.an).bK != (i64.wrap ((i64.wrap (k+1))+1))) none (cond ((x.an).cG != (i64.wrap ((i64.wrap ((i64.wrap (k+1))+1))+1))) none (cond ((x.an).cz != (i64.wrap ((i64.wrap ((i64.wrap ((i64.wrap (k+1))+1))+1))+1))) none (cond ((x.an).cq != (i64.wrap ((i64.wrap ((i64.wrap ((i64.wrap ((i64.wrap (k+1))+1))+1))+1))+1))) none (cond ((x.an).cW != (i64.wrap ((i64.wrap ((i64.wrap ((i64.wrap ((i64.wrap ((i64.wrap (k+1))+1))+1))+1))+1))+1))) none (cond ((x.an).dy != (i64.wrap ((i64.wrap ((i64.wrap ((i64.wrap ((i64.wrap ((i64.wrap ((i64.wrap (k+1))+1))+1))+1))+1))+1))+1))) none (cond (decide ((e1 x k)<0)) none (cond (((x.an).bQ).cC != (e1 x k)) none (cond (decide ((e2 x k)<0)) none (cond (((x.an).bB).cC != (e2 x k)) none (cond ((x.an).cY != (i64.wrap ((e2 x k)+1))) none (cond (decide ((e3 x k)<0)) none (cond (((x.an).bw).cC != (e3 x k)) none (cond (!((x.an).bE==((Int.tmod (i64.wrap ((e3 x k)+1)) 3)==0))) none (cond (decide ((e4 x k)<0)) none (some (e4 x k)))))))))))))))))))
def tJ (x:aa)(k k2:Int)(hk:eB k)(h:f x k=some k2):eB k2:=by
 unfold f at h
 have h:=bJ h
 have h:=bJ h
 have h:=bJ h
 have h:=bJ h
 have h:=bJ h
 have h:=bJ h
 have h:=bJ h
 have h:=bJ h
 have h:=bJ h
 have h:=bJ h
 have h:=bJ h
 have h:=bJ h
 have h:=bJ h
 have h:=bJ h
 have h:=bJ h
 have h:=bJ h
 have h:=bJ h
 injection h with h
 subst h
 exact (Z295.iq (cA _))
def md (a0:List aa)(a1:Int):Int:=jg f a0 a1
def gd (a0:List aa)(a1:Int):Prop:=eB a1
def acc (ls:List L):aC×Int:=((ls.headD .hole).aP,((aA 1 ls).headD .hole).toInt)
def R:(aC×Int)->Option Int:=RR (p2 gd) (u2 md)
def aj {a0 a1}(h:gd a0 a1):R ((a0.map aa.row),a1)=some (md a0 a1):=aN (a:=(a0,a1)) h
def aT:fQ:=CN pats res acc R
def bt (a0:List aa)(a1:Int)(hg:gd a0 a1)(h0:a0.length<=maxLen):∃n,start (iter step n) (a0.map aa.row) a1=ret ((md a0 a1):Int):=by
 unfold gd at hg
 show ∃n,iter step n (Pt.p0 (a0.map aa.row) a1 0)=_
 unfold md
 refine iY (f:=f) (xs:=a0) aa.zero eB tJ (pt:=fun i k=>Pt.p0 (a0.map aa.row) k (i:Int)) (fun J i k hi hk=>?_) (fun J k=>?_) hg
 ·simp only [step,SS]
  refine ak (aL hi) ?_
  refine ak aI ?_
  refine ak (aL hi) ?_
  refine bN rfl ?_
  refine ak aI ?_
  refine ak (aL hi) ?_
  refine bN rfl ?_
  refine ak aI ?_
  refine ak (aL hi) ?_
  refine bN rfl ?_
  refine ak aI ?_
  refine ak (aL hi) ?_
  refine bN rfl ?_
  refine ak aI ?_
  refine ak (aL hi) ?_
  refine bN rfl ?_
  refine ak aI ?_
  refine ak (aL hi) ?_
  refine bN rfl ?_
  refine ak aI ?_
  refine ak (aL hi) ?_
  refine bN rfl ?_
  refine ak aI ?_
  refine ak (aL hi) ?_
  refine bN rfl ?_
  refine ak aI ?_
  refine ak (aL hi) ?_
  refine aZ (e1 (a0.getD i aa.zero) k) (Z294.aj (a0:=(((a0.getD i aa.zero).an).bQ).aX) (a1:=i64.wrap ((i64.wrap ((i64.wrap ((i64.wrap ((i64.wrap ((i64.wrap ((i64.wrap ((i64.wrap (k+1))+1))+1))+1))+1))+1))+1))+1)) (cA _)) ?_
  refine bN rfl ?_
  refine ak aI ?_
  refine ak (aL hi) ?_
  refine bN rfl ?_
  refine ak aI ?_
  refine ak (aL hi) ?_
  refine aZ (e2 (a0.getD i aa.zero) k) (Z294.aj (a0:=(((a0.getD i aa.zero).an).bB).aX) (a1:=i64.wrap ((e1 (a0.getD i aa.zero) k)+1)) (cA _)) ?_
  refine bN rfl ?_
  refine ak aI ?_
  refine ak (aL hi) ?_
  refine bN rfl ?_
  refine ak aI ?_
  refine ak (aL hi) ?_
  refine bN rfl ?_
  refine ak aI ?_
  refine ak (aL hi) ?_
  refine aZ (e3 (a0.getD i aa.zero) k) (Z294.aj (a0:=(((a0.getD i aa.zero).an).bw).aX) (a1:=i64.wrap ((i64.wrap ((e2 (a0.getD i aa.zero) k)+1))+1)) (cA _)) ?_
  refine bN rfl ?_
  refine ak aI ?_
  refine ak (aL hi) ?_
  refine bN rfl ?_
  refine ak aI ?_
  refine ak (aL hi) ?_
  refine bN rfl ?_
  refine ak aI ?_
  refine ak (aL hi) ?_
  refine aZ (e4 (a0.getD i aa.zero) k) (Z295.aj (a0:=(a0.getD i aa.zero).cm) (a1:=i64.wrap ((i64.wrap ((e3 (a0.getD i aa.zero) k)+1))+1)) (cA _)) ?_
  refine bN rfl ?_
  rw [aG hi h0]
  rfl
 ·simp only [step,SS]
  refine cN (by apply decide_eq_false;omega) ?_
  rfl
def af:cw 97 aT:=VV (run:=fun n x=>start (iter step n) x.1 x.2) mix aE (.cons Z294.af (.cons Z295.af .nil)) Tryz.func97 (by kernel_rfl) run_eq (fun ls a hl e hg=>bt a.1 a.2 hg (by have h:(ls.headD .hole).aP.length<=maxLen:=hl.1.len;have e:a.1.map aa.row=(ls.headD .hole).aP:=(congrArg (fun x=>x.1) e.symm);rw [<-e] at h;simpa using h))
def iq {a0:List aa}{a1:Int}(h:eB a1):eB (md a0 a1):=kI tJ jy h
def yu (x:aa)(k:Int)(h0:0<=k)(hb:k+(Z282.cnt x:Int)<=4611686018427387904):f (Z282.el x k).2 k=some (k+Z282.cnt x):=by
 simp only [Z282.cnt,Int.natCast_add] at hb ⊢
 simp (disch:=omega) only [Z282.el,f,Z282.e1,Z282.e2,Z282.e3,Z282.e4,e1,e2,e3,e4,wi,Z280.kk,Z294.mk,Z281.kk,Z295.mk,bne_self_eq_false,beq_self_eq_true,fX,Bool.not_true,bq,dm]
 all_goals first | done | omega | (congr 1<;>omega)
def mk (a0:List aa)(a1:Int)(h0:0<=a1)(hb:a1+(Z282.sum a0:Int)<=4611686018427387904):md (Z282.md a0 a1).2 a1=a1+Z282.sum a0:=ij Z282.pE yu a0 a1 h0 hb
end Z296
namespace Z297
set_option maxHeartbeats 8000000
inductive Pt where
 | p0 (a:aC) (b c:Int)
def pid:Pt->Nat
 | .p0 ..=>2
def cg:Pt->List V
 | .p0 a b c=>[.sl none 134 a,.int .i64 b,.int .i64 c]
def bZ:Pt->List aW
 | .p0 a b c=>[]
def step (J:Pt->aH):Pt->aH
 | .p0 a b c=>(cond (decide (c<(a.length:Int))) (m2 c (a.length:Int) (call (Z296.R ((og a (toNat c)),b)) fun v1=>(cond (decide (v1<0)) (ret ((-1):Int)) (J (.p0 a v1 (i64.wrap (c+1))))))) (ret (b:Int)))
def start (J:Pt->aH)(x0:aC)(x1:Int):aH:=J (.p0 x0 x1 0)
def live:Nat->Live:=fun i=>match i with | 2=>[(0,none),(1,none),(5,none)] | _=>[]
def pats:List fY:=[.rd (.sl 134),.rd (.int .i64)]
def res:RP:=.one (.rd (.int .i64))
abbrev E:Env:={ T:=assoc kL,G:=dw [(97,Z296.aT)],nt:=21 }
def step_eq (I:cD)(p:Pt):cT E live I (pid p) (bO Tryz.f58) (fq (live (pid p)) (cg p) (bZ p)) (cE E Tryz.f58 res)=step (fun q=>I (pid q) (cg q) (bZ q)) p:=by
 cases p<;>kernel_rfl
def start_eq (I:cD)(ls:List L):eP E live I (bO Tryz.f58) (cV pats ls) (cE E Tryz.f58 res)=start (fun q=>I (pid q) (cg q) (bZ q)) (ls.headD .hole).aP ((aA 1 ls).headD .hole).toInt:=by kernel_rfl
def run_eq (n:Nat)(ls:List L):eJ E live Tryz.f58 res n (cV pats ls)=start (iter step n) (ls.headD .hole).aP ((aA 1 ls).headD .hole).toInt:=cy (id:=pid) (vs:=cg) (hs:=bZ) (step:=step) (start:=fun J=>start J (ls.headD .hole).aP ((aA 1 ls).headD .hole).toInt) step_eq (fun I=>start_eq I ls) n
def e1 (x:List aa)(k:Int):=Z296.md x k
def f (x:List aa)(k:Int):Option Int:=(cond (decide ((e1 x k)<0)) none (some (e1 x k)))
def tJ (x:List aa)(k k2:Int)(hk:eB k)(h:f x k=some k2):eB k2:=by
 unfold f at h
 have h:=bJ h
 injection h with h
 subst h
 exact (Z296.iq hk)
def md (a0:List (List aa))(a1:Int):Int:=jg f a0 a1
def gd (a0:List (List aa))(a1:Int):Prop:=eB a1
def acc (ls:List L):aC×Int:=((ls.headD .hole).aP,((aA 1 ls).headD .hole).toInt)
def R:(aC×Int)->Option Int:=RR (p2 gd) (u2 md)
def aj {a0 a1}(h:gd a0 a1):R ((a0.map (dG aa.row)),a1)=some (md a0 a1):=aN (a:=(a0,a1)) h
def aT:fQ:=CN pats res acc R
def bt (a0:List (List aa))(a1:Int)(hg:gd a0 a1)(h0:a0.length<=maxLen):∃n,start (iter step n) (a0.map (dG aa.row)) a1=ret ((md a0 a1):Int):=by
 unfold gd at hg
 show ∃n,iter step n (Pt.p0 (a0.map (dG aa.row)) a1 0)=_
 unfold md
 refine iY (f:=f) (xs:=a0) [] eB tJ (pt:=fun i k=>Pt.p0 (a0.map (dG aa.row)) k (i:Int)) (fun J i k hi hk=>?_) (fun J k=>?_) hg
 ·simp only [step,SS]
  refine ak (aL hi) ?_
  refine ak aI ?_
  refine ak (aL hi) ?_
  refine aZ (e1 (a0.getD i []) k) (Z296.aj (a0:=a0.getD i []) (a1:=k) hk) ?_
  refine bN rfl ?_
  rw [aG hi h0]
  rfl
 ·simp only [step,SS]
  refine cN (by apply decide_eq_false;omega) ?_
  rfl
def af:cw 58 aT:=VV (run:=fun n x=>start (iter step n) x.1 x.2) mix aE (.cons Z296.af .nil) Tryz.func58 (by kernel_rfl) run_eq (fun ls a hl e hg=>bt a.1 a.2 hg (by have h:(ls.headD .hole).aP.length<=maxLen:=hl.1.len;have e:a.1.map (dG aa.row)=(ls.headD .hole).aP:=(congrArg (fun x=>x.1) e.symm);rw [<-e] at h;simpa using h))
def iq {a0:List (List aa)}{a1:Int}(h:eB a1):eB (md a0 a1):=kI tJ jy h
def yu (x:List aa)(k:Int)(h0:0<=k)(hb:k+(Z283.cnt x:Int)<=4611686018427387904):f (Z283.el x k).2 k=some (k+Z283.cnt x):=by
 simp only [Z283.cnt,Int.natCast_add] at hb ⊢
 simp (disch:=omega) only [Z283.el,f,Z283.e1,e1,wi,Z282.kk,Z296.mk,bne_self_eq_false,beq_self_eq_true,fX,Bool.not_true,bq,dm]
 all_goals first | done | omega | (congr 1<;>omega)
def mk (a0:List (List aa))(a1:Int)(h0:0<=a1)(hb:a1+(Z283.sum a0:Int)<=4611686018427387904):md (Z283.md a0 a1).2 a1=a1+Z283.sum a0:=ij Z283.pE yu a0 a1 h0 hb
end Z297
namespace Z298
set_option maxHeartbeats 8000000
inductive Pt where
 | p0 (a:aC) (b c:Int)
def pid:Pt->Nat
 | .p0 ..=>2
def cg:Pt->List V
 | .p0 a b c=>[.sl none 143 a,.int .i64 b,.int .i64 c]
def bZ:Pt->List aW
 | .p0 a b c=>[]
def step (J:Pt->aH):Pt->aH
 | .p0 a b c=>(cond (decide (c<(a.length:Int))) (m2 c (a.length:Int) (cond ((bH.at a (toNat c)).aQ.an.bC != b) (ret ((-1):Int)) (m2 c (a.length:Int) (cond ((bH.at a (toNat c)).aQ.an.cI != (i64.wrap (b+1))) (ret ((-1):Int)) (m2 c (a.length:Int) (cond ((bH.at a (toNat c)).aQ.an.bK != (i64.wrap ((i64.wrap (b+1))+1))) (ret ((-1):Int)) (m2 c (a.length:Int) (cond ((bH.at a (toNat c)).aQ.an.cG != (i64.wrap ((i64.wrap ((i64.wrap (b+1))+1))+1))) (ret ((-1):Int)) (m2 c (a.length:Int) (cond ((bH.at a (toNat c)).aQ.an.cz != (i64.wrap ((i64.wrap ((i64.wrap ((i64.wrap (b+1))+1))+1))+1))) (ret ((-1):Int)) (m2 c (a.length:Int) (cond ((bH.at a (toNat c)).aQ.an.cq != (i64.wrap ((i64.wrap ((i64.wrap ((i64.wrap ((i64.wrap (b+1))+1))+1))+1))+1))) (ret ((-1):Int)) (m2 c (a.length:Int) (cond ((bH.at a (toNat c)).aQ.an.cW != (i64.wrap ((i64.wrap ((i64.wrap ((i64.wrap ((i64.wrap ((i64.wrap (b+1))+1))+1))+1))+1))+1))) (ret ((-1):Int)) (m2 c (a.length:Int) (cond ((bH.at a (toNat c)).aQ.an.dy != (i64.wrap ((i64.wrap ((i64.wrap ((i64.wrap ((i64.wrap ((i64.wrap ((i64.wrap (b+1))+1))+1))+1))+1))+1))+1))) (ret ((-1):Int)) (m2 c (a.length:Int) (call (Z294.R ((bH.at a (toNat c)).aQ.an.bQ.aX,(i64.wrap ((i64.wrap ((i64.wrap ((i64.wrap ((i64.wrap ((i64.wrap ((i64.wrap ((i64.wrap (b+1))+1))+1))+1))+1))+1))+1))+1)))) fun v1=>(cond (decide (v1<0)) (ret ((-1):Int)) (m2 c (a.length:Int) (cond ((bH.at a (toNat c)).aQ.an.bQ.cC != v1) (ret ((-1):Int)) (m2 c (a.length:Int) (call (Z294.R ((bH.at a (toNat c)).aQ.an.bB.aX,(i64.wrap (v1+1)))) fun v2=>(cond (decide (v2<0)) (ret ((-1):Int)) (m2 c (a.length:Int) (cond ((bH.at a (toNat c)).aQ.an.bB.cC != v2) (ret ((-1):Int)) (m2 c (a.length:Int) (cond ((bH.at a (toNat c)).aQ.an.cY != (i64.wrap (v2+1))) (ret ((-1):Int)) (m2 c (a.length:Int) (call (Z294.R ((bH.at a (toNat c)).aQ.an.bw.aX,(i64.wrap ((i64.wrap (v2+1))+1)))) fun v3=>(cond (decide (v3<0)) (ret ((-1):Int)) (m2 c (a.length:Int) (cond ((bH.at a (toNat c)).aQ.an.bw.cC != v3) (ret ((-1):Int)) (m2 c (a.length:Int) (cond (!((bH.at a (toNat c)).aQ.an.bE==((Int.tmod (i64.wrap (v3+1)) 3)==0))) (ret ((-1):Int)) (m2 c (a.length:Int) (call (Z295.R ((bH.at a (toNat c)).aQ.cm,(i64.wrap ((i64.wrap (v3+1))+1)))) fun v4=>(cond (decide (v4<0)) (ret ((-1):Int)) (m2 c (a.length:Int) (cond ((bH.at a (toNat c)).fA.an.bC != v4) (ret ((-1):Int)) (m2 c (a.length:Int) (cond ((bH.at a (toNat c)).fA.an.cI != (i64.wrap (v4+1))) (ret ((-1):Int)) (m2 c (a.length:Int) (cond ((bH.at a (toNat c)).fA.an.bK != (i64.wrap ((i64.wrap (v4+1))+1))) (ret ((-1):Int)) (m2 c (a.length:Int) (cond ((bH.at a (toNat c)).fA.an.cG != (i64.wrap ((i64.wrap ((i64.wrap (v4+1))+1))+1))) (ret ((-1):Int)) (m2 c (a.length:Int) (cond ((bH.at a (toNat c)).fA.an.cz != (i64.wrap ((i64.wrap ((i64.wrap ((i64.wrap (v4+1))+1))+1))+1))) (ret ((-1):Int)) (m2 c (a.length:Int) (cond ((bH.at a (toNat c)).fA.an.cq != (i64.wrap ((i64.wrap ((i64.wrap ((i64.wrap ((i64.wrap (v4+1))+1))+1))+1))+1))) (ret ((-1):Int)) (m2 c (a.length:Int) (cond ((bH.at a (toNat c)).fA.an.cW != (i64.wrap ((i64.wrap ((i64.wrap ((i64.wrap ((i64.wrap ((i64.wrap (v4+1))+1))+1))+1))+1))+1))) (ret ((-1):Int)) (m2 c (a.length:Int) (cond ((bH.at a (toNat c)).fA.an.dy != (i64.wrap ((i64.wrap ((i64.wrap ((i64.wrap ((i64.wrap ((i64.wrap ((i64.wrap (v4+1))+1))+1))+1))+1))+1))+1))) (ret ((-1):Int)) (m2 c (a.length:Int) (call (Z294.R ((bH.at a (toNat c)).fA.an.bQ.aX,(i64.wrap ((i64.wrap ((i64.wrap ((i64.wrap ((i64.wrap ((i64.wrap ((i64.wrap ((i64.wrap (v4+1))+1))+1))+1))+1))+1))+1))+1)))) fun v5=>(cond (decide (v5<0)) (ret ((-1):Int)) (m2 c (a.length:Int) (cond ((bH.at a (toNat c)).fA.an.bQ.cC != v5) (ret ((-1):Int)) (m2 c (a.length:Int) (call (Z294.R ((bH.at a (toNat c)).fA.an.bB.aX,(i64.wrap (v5+1)))) fun v6=>(cond (decide (v6<0)) (ret ((-1):Int)) (m2 c (a.length:Int) (cond ((bH.at a (toNat c)).fA.an.bB.cC != v6) (ret ((-1):Int)) (m2 c (a.length:Int) (cond ((bH.at a (toNat c)).fA.an.cY != (i64.wrap (v6+1))) (ret ((-1):Int)) (m2 c (a.length:Int) (call (Z294.R ((bH.at a (toNat c)).fA.an.bw.aX,(i64.wrap ((i64.wrap (v6+1))+1)))) fun v7=>(cond (decide (v7<0)) (ret ((-1):Int)) (m2 c (a.length:Int) (cond ((bH.at a (toNat c)).fA.an.bw.cC != v7) (ret ((-1):Int)) (m2 c (a.length:Int) (cond (!((bH.at a (toNat c)).fA.an.bE==((Int.tmod (i64.wrap (v7+1)) 3)==0))) (ret ((-1):Int)) (m2 c (a.length:Int) (call (Z295.R ((bH.at a (toNat c)).fA.cm,(i64.wrap ((i64.wrap (v7+1))+1)))) fun v8=>(cond (decide (v8<0)) (ret ((-1):Int)) (m2 c (a.length:Int) (cond ((bH.at a (toNat c)).fB.an.bC != v8) (ret ((-1):Int)) (m2 c (a.length:Int) (cond ((bH.at a (toNat c)).fB.an.cI != (i64.wrap (v8+1))) (ret ((-1):Int)) (m2 c (a.length:Int) (cond ((bH.at a (toNat c)).fB.an.bK != (i64.wrap ((i64.wrap (v8+1))+1))) (ret ((-1):Int)) (m2 c (a.length:Int) (cond ((bH.at a (toNat c)).fB.an.cG != (i64.wrap ((i64.wrap ((i64.wrap (v8+1))+1))+1))) (ret ((-1):Int)) (m2 c (a.length:Int) (cond ((bH.at a (toNat c)).fB.an.cz != (i64.wrap ((i64.wrap ((i64.wrap ((i64.wrap (v8+1))+1))+1))+1))) (ret ((-1):Int)) (m2 c (a.length:Int) (cond ((bH.at a (toNat c)).fB.an.cq != (i64.wrap ((i64.wrap ((i64.wrap ((i64.wrap ((i64.wrap (v8+1))+1))+1))+1))+1))) (ret ((-1):Int)) (m2 c (a.length:Int) (cond ((bH.at a (toNat c)).fB.an.cW != (i64.wrap ((i64.wrap ((i64.wrap ((i64.wrap ((i64.wrap ((i64.wrap (v8+1))+1))+1))+1))+1))+1))) (ret ((-1):Int)) (m2 c (a.length:Int) (cond ((bH.at a (toNat c)).fB.an.dy != (i64.wrap ((i64.wrap ((i64.wrap ((i64.wrap ((i64.wrap ((i64.wrap ((i64.wrap (v8+1))+1))+1))+1))+1))+1))+1))) (ret ((-1):Int)) (m2 c (a.length:Int) (call (Z294.R ((bH.at a (toNat c)).fB.an.bQ.aX,(i64.wrap ((i64.wrap ((i64.wrap ((i64.wrap ((i64.wrap ((i64.wrap ((i64.wrap ((i64.wrap (v8+1))+1))+1))+1))+1))+1))+1))+1)))) fun v9=>(cond (decide (v9<0)) (ret ((-1):Int)) (m2 c (a.length:Int) (cond ((bH.at a (toNat c)).fB.an.bQ.cC != v9) (ret ((-1):Int)) (m2 c (a.length:Int) (call (Z294.R ((bH.at a (toNat c)).fB.an.bB.aX,(i64.wrap (v9+1)))) fun v10=>(cond (decide (v10<0)) (ret ((-1):Int)) (m2 c (a.length:Int) (cond ((bH.at a (toNat c)).fB.an.bB.cC != v10) (ret ((-1):Int)) (m2 c (a.length:Int) (cond ((bH.at a (toNat c)).fB.an.cY != (i64.wrap (v10+1))) (ret ((-1):Int)) (m2 c (a.length:Int) (call (Z294.R ((bH.at a (toNat c)).fB.an.bw.aX,(i64.wrap ((i64.wrap (v10+1))+1)))) fun v11=>(cond (decide (v11<0)) (ret ((-1):Int)) (m2 c (a.length:Int) (cond ((bH.at a (toNat c)).fB.an.bw.cC != v11) (ret ((-1):Int)) (m2 c (a.length:Int) (cond (!((bH.at a (toNat c)).fB.an.bE==((Int.tmod (i64.wrap (v11+1)) 3)==0))) (ret ((-1):Int)) (m2 c (a.length:Int) (call (Z295.R ((bH.at a (toNat c)).fB.cm,(i64.wrap ((i64.wrap (v11+1))+1)))) fun v12=>(cond (decide (v12<0)) (ret ((-1):Int)) (J (.p0 a v12 (i64.wrap (c+1)))))))))))))))))))))))))))))))))))))))))))))))))))))))))))))))))))))))))))))))))))))))))))))))))))))))))))))))))))))) (ret (b:Int)))
def start (J:Pt->aH)(x0:aC)(x1:Int):aH:=J (.p0 x0 x1 0)
def live:Nat->Live:=fun i=>match i with | 2=>[(0,none),(1,none),(5,none)] | _=>[]
def pats:List fY:=[.rd (.sl 143),.rd (.int .i64)]
def res:RP:=.one (.rd (.int .i64))
abbrev E:Env:={ T:=assoc kL,G:=dw [(61,Z294.aT),(98,Z295.aT)],nt:=595 }
def step_eq (I:cD)(p:Pt):cT E live I (pid p) (bO Tryz.f59) (fq (live (pid p)) (cg p) (bZ p)) (cE E Tryz.f59 res)=step (fun q=>I (pid q) (cg q) (bZ q)) p:=by
 cases p<;>kernel_rfl
def start_eq (I:cD)(ls:List L):eP E live I (bO Tryz.f59) (cV pats ls) (cE E Tryz.f59 res)=start (fun q=>I (pid q) (cg q) (bZ q)) (ls.headD .hole).aP ((aA 1 ls).headD .hole).toInt:=by kernel_rfl
def run_eq (n:Nat)(ls:List L):eJ E live Tryz.f59 res n (cV pats ls)=start (iter step n) (ls.headD .hole).aP ((aA 1 ls).headD .hole).toInt:=cy (id:=pid) (vs:=cg) (hs:=bZ) (step:=step) (start:=fun J=>start J (ls.headD .hole).aP ((aA 1 ls).headD .hole).toInt) step_eq (fun I=>start_eq I ls) n
def e1 (x:az)(k:Int):=Z294.md ((((x.aQ).an).bQ).aX) (i64.wrap ((i64.wrap ((i64.wrap ((i64.wrap ((i64.wrap ((i64.wrap ((i64.wrap ((i64.wrap (k+1))+1))+1))+1))+1))+1))+1))+1))
def e2 (x:az)(k:Int):=Z294.md ((((x.aQ).an).bB).aX) (i64.wrap ((e1 x k)+1))
def e3 (x:az)(k:Int):=Z294.md ((((x.aQ).an).bw).aX) (i64.wrap ((i64.wrap ((e2 x k)+1))+1))
def e4 (x:az)(k:Int):=Z295.md ((x.aQ).cm) (i64.wrap ((i64.wrap ((e3 x k)+1))+1))
def e5 (x:az)(k:Int):=Z294.md ((((x.fA).an).bQ).aX) (i64.wrap ((i64.wrap ((i64.wrap ((i64.wrap ((i64.wrap ((i64.wrap ((i64.wrap ((i64.wrap ((e4 x k)+1))+1))+1))+1))+1))+1))+1))+1))
def e6 (x:az)(k:Int):=Z294.md ((((x.fA).an).bB).aX) (i64.wrap ((e5 x k)+1))
def e7 (x:az)(k:Int):=Z294.md ((((x.fA).an).bw).aX) (i64.wrap ((i64.wrap ((e6 x k)+1))+1))
def e8 (x:az)(k:Int):=Z295.md ((x.fA).cm) (i64.wrap ((i64.wrap ((e7 x k)+1))+1))
def e9 (x:az)(k:Int):=Z294.md ((((x.fB).an).bQ).aX) (i64.wrap ((i64.wrap ((i64.wrap ((i64.wrap ((i64.wrap ((i64.wrap ((i64.wrap ((i64.wrap ((e8 x k)+1))+1))+1))+1))+1))+1))+1))+1))
def ur (x:az)(k:Int):=Z294.md ((((x.fB).an).bB).aX) (i64.wrap ((e9 x k)+1))
def um (x:az)(k:Int):=Z294.md ((((x.fB).an).bw).aX) (i64.wrap ((i64.wrap ((ur x k)+1))+1))
def yQ (x:az)(k:Int):=Z295.md ((x.fB).cm) (i64.wrap ((i64.wrap ((um x k)+1))+1))
def f (x:az)(k:Int):Option Int:=(cond (((x.aQ).an).bC != k) none (cond (((x.aQ).an).cI != (i64.wrap (k+1))) none (cond (((x.aQ).an).bK != (i64.wrap ((i64.wrap (k+1))+1))) none (cond (((x.aQ).an).cG != (i64.wrap ((i64.wrap ((i64.wrap (k+1))+1))+1))) none (cond (((x.aQ).an).cz != (i64.wrap ((i64.wrap ((i64.wrap ((i64.wrap (k+1))+1))+1))+1))) none (cond (((x.aQ).an).cq != (i64.wrap ((i64.wrap ((i64.wrap ((i64.wrap ((i64.wrap (k+1))+1))+1))+1))+1))) none (cond (((x.aQ).an).cW != (i64.wrap ((i64.wrap ((i64.wrap ((i64.wrap ((i64.wrap ((i64.wrap (k+1))+1))+1))+1))+1))+1))) none (cond (((x.aQ).an).dy != (i64.wrap ((i64.wrap ((i64.wrap ((i64.wrap ((i64.wrap ((i64.wrap ((i64.wrap (k+1))+1))+1))+1))+1))+1))+1))) none (cond (decide ((e1 x k)<0)) none (cond ((((x.aQ).an).bQ).cC != (e1 x k)) none (cond (decide ((e2 x k)<0)) none (cond ((((x.aQ).an).bB).cC != (e2 x k)) none (cond (((x.aQ).an).cY != (i64.wrap ((e2 x k)+1))) none (cond (decide ((e3 x k)<0)) none (cond ((((x.aQ).an).bw).cC != (e3 x k)) none (cond (!(((x.aQ).an).bE==((Int.tmod (i64.wrap ((e3 x k)+1)) 3)==0))) none (cond (decide ((e4 x k)<0)) none (cond (((x.fA).an).bC != (e4 x k)) none (cond (((x.fA).an).cI != (i64.wrap ((e4 x k)+1))) none (cond (((x.fA).an).bK != (i64.wrap ((i64.wrap ((e4 x k)+1))+1))) none (cond (((x.fA).an).cG != (i64.wrap ((i64.wrap ((i64.wrap ((e4 x k)+1))+1))+1))) none (cond (((x.fA).an).cz != (i64.wrap ((i64.wrap ((i64.wrap ((i64.wrap ((e4 x k)+1))+1))+1))+1))) none (cond (((x.fA).an).cq != (i64.wrap ((i64.wrap ((i64.wrap ((i64.wrap ((i64.wrap ((e4 x k)+1))+1))+1))+1))+1))) none (cond (((x.fA).an).cW != (i64.wrap ((i64.wrap ((i64.wrap ((i64.wrap ((i64.wrap ((i64.wrap ((e4 x k)+1))+1))+1))+1))+1))+1))) none (cond (((x.fA).an).dy != (i64.wrap ((i64.wrap ((i64.wrap ((i64.wrap ((i64.wrap ((i64.wrap ((i64.wrap ((e4 x k)+1))+1))+1))+1))+1))+1))+1))) none (cond (decide ((e5 x k)<0)) none (cond ((((x.fA).an).bQ).cC != (e5 x k)) none (cond (decide ((e6 x k)<0)) none (cond ((((x.fA).an).bB).cC != (e6 x k)) none (cond (((x.fA).an).cY != (i64.wrap ((e6 x k)+1))) none (cond (decide ((e7 x k)<0)) none (cond ((((x.fA).an).bw).cC != (e7 x k)) none (cond (!(((x.fA).an).bE==((Int.tmod (i64.wrap ((e7 x k)+1)) 3)==0))) none (cond (decide ((e8 x k)<0)) none (cond (((x.fB).an).bC != (e8 x k)) none (cond (((x.fB).an).cI != (i64.wrap ((e8 x k)+1))) none (cond (((x.fB).an).bK != (i64.wrap ((i64.wrap ((e8 x k)+1))+1))) none (cond (((x.fB).an).cG != (i64.wrap ((i64.wrap ((i64.wrap ((e8 x k)+1))+1))+1))) none (cond (((x.fB).an).cz != (i64.wrap ((i64.wrap ((i64.wrap ((i64.wrap ((e8 x k)+1))+1))+1))+1))) none (cond (((x.fB).an).cq != (i64.wrap ((i64.wrap ((i64.wrap ((i64.wrap ((i64.wrap ((e8 x k)+1))+1))+1))+1))+1))) none (cond (((x.fB).an).cW != (i64.wrap ((i64.wrap ((i64.wrap ((i64.wrap ((i64.wrap ((i64.wrap ((e8 x k)+1))+1))+1))+1))+1))+1))) none (cond (((x.fB).an).dy != (i64.wrap ((i64.wrap ((i64.wrap ((i64.wrap ((i64.wrap ((i64.wrap ((i64.wrap ((e8 x k)+1))+1))+1))+1))+1))+1))+1))) none (cond (decide ((e9 x k)<0)) none (cond ((((x.fB).an).bQ).cC != (e9 x k)) none (cond (decide ((ur x k)<0)) none (cond ((((x.fB).an).bB).cC != (ur x k)) none (cond (((x.fB).an).cY != (i64.wrap ((ur x k)+1))) none (cond (decide ((um x k)<0)) none (cond ((((x.fB).an).bw).cC != (um x k)) none (cond (!(((x.fB).an).bE==((Int.tmod (i64.wrap ((um x k)+1)) 3)==0))) none (cond (decide ((yQ x k)<0)) none (some (yQ x k)))))))))))))))))))))))))))))))))))))))))))))))))))))
def tJ (x:az)(k k2:Int)(hk:eB k)(h:f x k=some k2):eB k2:=by
 unfold f at h
 have h:=bJ h
 have h:=bJ h
 have h:=bJ h
 have h:=bJ h
 have h:=bJ h
 have h:=bJ h
 have h:=bJ h
 have h:=bJ h
 have h:=bJ h
 have h:=bJ h
 have h:=bJ h
 have h:=bJ h
 have h:=bJ h
 have h:=bJ h
 have h:=bJ h
 have h:=bJ h
 have h:=bJ h
 have h:=bJ h
 have h:=bJ h
 have h:=bJ h
 have h:=bJ h
 have h:=bJ h
 have h:=bJ h
 have h:=bJ h
 have h:=bJ h
 have h:=bJ h
 have h:=bJ h
 have h:=bJ h
 have h:=bJ h
 have h:=bJ h
 have h:=bJ h
 have h:=bJ h
 have h:=bJ h
 have h:=bJ h
 have h:=bJ h
 have h:=bJ h
 have h:=bJ h
 have h:=bJ h
 have h:=bJ h
 have h:=bJ h
 have h:=bJ h
 have h:=bJ h
 have h:=bJ h
 have h:=bJ h
 have h:=bJ h
 have h:=bJ h
 have h:=bJ h
 have h:=bJ h
 have h:=bJ h
 have h:=bJ h
 have h:=bJ h
 injection h with h
 subst h
 exact (Z295.iq (cA _))
def md (a0:List az)(a1:Int):Int:=jg f a0 a1
def gd (a0:List az)(a1:Int):Prop:=eB a1
def acc (ls:List L):aC×Int:=((ls.headD .hole).aP,((aA 1 ls).headD .hole).toInt)
def R:(aC×Int)->Option Int:=RR (p2 gd) (u2 md)
def aj {a0 a1}(h:gd a0 a1):R ((a0.map az.row),a1)=some (md a0 a1):=aN (a:=(a0,a1)) h
def aT:fQ:=CN pats res acc R
def bt (a0:List az)(a1:Int)(hg:gd a0 a1)(h0:a0.length<=maxLen):∃n,start (iter step n) (a0.map az.row) a1=ret ((md a0 a1):Int):=by
 unfold gd at hg
 show ∃n,iter step n (Pt.p0 (a0.map az.row) a1 0)=_
 unfold md
 refine iY (f:=f) (xs:=a0) az.zero eB tJ (pt:=fun i k=>Pt.p0 (a0.map az.row) k (i:Int)) (fun J i k hi hk=>?_) (fun J k=>?_) hg
 ·simp only [step,SS]
  refine ak (aL hi) ?_
  refine ak aI ?_
  refine ak (aL hi) ?_
  refine bN rfl ?_
  refine ak aI ?_
  refine ak (aL hi) ?_
  refine bN rfl ?_
  refine ak aI ?_
  refine ak (aL hi) ?_
  refine bN rfl ?_
  refine ak aI ?_
  refine ak (aL hi) ?_
  refine bN rfl ?_
  refine ak aI ?_
  refine ak (aL hi) ?_
  refine bN rfl ?_
  refine ak aI ?_
  refine ak (aL hi) ?_
  refine bN rfl ?_
  refine ak aI ?_
  refine ak (aL hi) ?_
  refine bN rfl ?_
  refine ak aI ?_
  refine ak (aL hi) ?_
  refine bN rfl ?_
  refine ak aI ?_
  refine ak (aL hi) ?_
  refine aZ (e1 (a0.getD i az.zero) k) (Z294.aj (a0:=((((a0.getD i az.zero).aQ).an).bQ).aX) (a1:=i64.wrap ((i64.wrap ((i64.wrap ((i64.wrap ((i64.wrap ((i64.wrap ((i64.wrap ((i64.wrap (k+1))+1))+1))+1))+1))+1))+1))+1)) (cA _)) ?_
  refine bN rfl ?_
  refine ak aI ?_
  refine ak (aL hi) ?_
  refine bN rfl ?_
  refine ak aI ?_
  refine ak (aL hi) ?_
  refine aZ (e2 (a0.getD i az.zero) k) (Z294.aj (a0:=((((a0.getD i az.zero).aQ).an).bB).aX) (a1:=i64.wrap ((e1 (a0.getD i az.zero) k)+1)) (cA _)) ?_
  refine bN rfl ?_
  refine ak aI ?_
  refine ak (aL hi) ?_
  refine bN rfl ?_
  refine ak aI ?_
  refine ak (aL hi) ?_
  refine bN rfl ?_
  refine ak aI ?_
  refine ak (aL hi) ?_
  refine aZ (e3 (a0.getD i az.zero) k) (Z294.aj (a0:=((((a0.getD i az.zero).aQ).an).bw).aX) (a1:=i64.wrap ((i64.wrap ((e2 (a0.getD i az.zero) k)+1))+1)) (cA _)) ?_
  refine bN rfl ?_
  refine ak aI ?_
  refine ak (aL hi) ?_
  refine bN rfl ?_
  refine ak aI ?_
  refine ak (aL hi) ?_
  refine bN rfl ?_
  refine ak aI ?_
  refine ak (aL hi) ?_
  refine aZ (e4 (a0.getD i az.zero) k) (Z295.aj (a0:=((a0.getD i az.zero).aQ).cm) (a1:=i64.wrap ((i64.wrap ((e3 (a0.getD i az.zero) k)+1))+1)) (cA _)) ?_
  refine bN rfl ?_
  refine ak aI ?_
  refine ak (aL hi) ?_
  refine bN rfl ?_
  refine ak aI ?_
  refine ak (aL hi) ?_
  refine bN rfl ?_
  refine ak aI ?_
  refine ak (aL hi) ?_
  refine bN rfl ?_
  refine ak aI ?_
  refine ak (aL hi) ?_
  refine bN rfl ?_
  refine ak aI ?_
  refine ak (aL hi) ?_
  refine bN rfl ?_
  refine ak aI ?_
  refine ak (aL hi) ?_
  refine bN rfl ?_
  refine ak aI ?_
  refine ak (aL hi) ?_
  refine bN rfl ?_
  refine ak aI ?_
  refine ak (aL hi) ?_
  refine bN rfl ?_
  refine ak aI ?_
  refine ak (aL hi) ?_
  refine aZ (e5 (a0.getD i az.zero) k) (Z294.aj (a0:=((((a0.getD i az.zero).fA).an).bQ).aX) (a1:=i64.wrap ((i64.wrap ((i64.wrap ((i64.wrap ((i64.wrap ((i64.wrap ((i64.wrap ((i64.wrap ((e4 (a0.getD i az.zero) k)+1))+1))+1))+1))+1))+1))+1))+1)) (cA _)) ?_
  refine bN rfl ?_
  refine ak aI ?_
  refine ak (aL hi) ?_
  refine bN rfl ?_
  refine ak aI ?_
  refine ak (aL hi) ?_
  refine aZ (e6 (a0.getD i az.zero) k) (Z294.aj (a0:=((((a0.getD i az.zero).fA).an).bB).aX) (a1:=i64.wrap ((e5 (a0.getD i az.zero) k)+1)) (cA _)) ?_
  refine bN rfl ?_
  refine ak aI ?_
  refine ak (aL hi) ?_
  refine bN rfl ?_
  refine ak aI ?_
  refine ak (aL hi) ?_
  refine bN rfl ?_
  refine ak aI ?_
  refine ak (aL hi) ?_
  refine aZ (e7 (a0.getD i az.zero) k) (Z294.aj (a0:=((((a0.getD i az.zero).fA).an).bw).aX) (a1:=i64.wrap ((i64.wrap ((e6 (a0.getD i az.zero) k)+1))+1)) (cA _)) ?_
  refine bN rfl ?_
  refine ak aI ?_
  refine ak (aL hi) ?_
  refine bN rfl ?_
  refine ak aI ?_
  refine ak (aL hi) ?_
  refine bN rfl ?_
  refine ak aI ?_
  refine ak (aL hi) ?_
  refine aZ (e8 (a0.getD i az.zero) k) (Z295.aj (a0:=((a0.getD i az.zero).fA).cm) (a1:=i64.wrap ((i64.wrap ((e7 (a0.getD i az.zero) k)+1))+1)) (cA _)) ?_
  refine bN rfl ?_
  refine ak aI ?_
  refine ak (aL hi) ?_
  refine bN rfl ?_
  refine ak aI ?_
  refine ak (aL hi) ?_
  refine bN rfl ?_
  refine ak aI ?_
  refine ak (aL hi) ?_
  refine bN rfl ?_
  refine ak aI ?_
  refine ak (aL hi) ?_
  refine bN rfl ?_
  refine ak aI ?_
  refine ak (aL hi) ?_
  refine bN rfl ?_
  refine ak aI ?_
  refine ak (aL hi) ?_
  refine bN rfl ?_
  refine ak aI ?_
  refine ak (aL hi) ?_
  refine bN rfl ?_
  refine ak aI ?_
  refine ak (aL hi) ?_
  refine bN rfl ?_
  refine ak aI ?_
  refine ak (aL hi) ?_
  refine aZ (e9 (a0.getD i az.zero) k) (Z294.aj (a0:=((((a0.getD i az.zero).fB).an).bQ).aX) (a1:=i64.wrap ((i64.wrap ((i64.wrap ((i64.wrap ((i64.wrap ((i64.wrap ((i64.wrap ((i64.wrap ((e8 (a0.getD i az.zero) k)+1))+1))+1))+1))+1))+1))+1))+1)) (cA _)) ?_
  refine bN rfl ?_
  refine ak aI ?_
  refine ak (aL hi) ?_
  refine bN rfl ?_
  refine ak aI ?_
  refine ak (aL hi) ?_
  refine aZ (ur (a0.getD i az.zero) k) (Z294.aj (a0:=((((a0.getD i az.zero).fB).an).bB).aX) (a1:=i64.wrap ((e9 (a0.getD i az.zero) k)+1)) (cA _)) ?_
  refine bN rfl ?_
  refine ak aI ?_
  refine ak (aL hi) ?_
  refine bN rfl ?_
  refine ak aI ?_
  refine ak (aL hi) ?_
  refine bN rfl ?_
  refine ak aI ?_
  refine ak (aL hi) ?_
  refine aZ (um (a0.getD i az.zero) k) (Z294.aj (a0:=((((a0.getD i az.zero).fB).an).bw).aX) (a1:=i64.wrap ((i64.wrap ((ur (a0.getD i az.zero) k)+1))+1)) (cA _)) ?_
  refine bN rfl ?_
  refine ak aI ?_
  refine ak (aL hi) ?_
  refine bN rfl ?_
  refine ak aI ?_
  refine ak (aL hi) ?_
  refine bN rfl ?_
  refine ak aI ?_
  refine ak (aL hi) ?_
  refine aZ (yQ (a0.getD i az.zero) k) (Z295.aj (a0:=((a0.getD i az.zero).fB).cm) (a1:=i64.wrap ((i64.wrap ((um (a0.getD i az.zero) k)+1))+1)) (cA _)) ?_
  refine bN rfl ?_
  rw [aG hi h0]
  rfl
 ·simp only [step,SS]
  refine cN (by apply decide_eq_false;omega) ?_
  rfl
def af:cw 59 aT:=VV (run:=fun n x=>start (iter step n) x.1 x.2) mix aE (.cons Z294.af (.cons Z295.af .nil)) Tryz.func59 (by kernel_rfl) run_eq (fun ls a hl e hg=>bt a.1 a.2 hg (by have h:(ls.headD .hole).aP.length<=maxLen:=hl.1.len;have e:a.1.map az.row=(ls.headD .hole).aP:=(congrArg (fun x=>x.1) e.symm);rw [<-e] at h;simpa using h))
def iq {a0:List az}{a1:Int}(h:eB a1):eB (md a0 a1):=kI tJ jy h
def yu (x:az)(k:Int)(h0:0<=k)(hb:k+(Z284.cnt x:Int)<=4611686018427387904):f (Z284.el x k).2 k=some (k+Z284.cnt x):=by
 simp only [Z284.cnt,Int.natCast_add] at hb ⊢
 simp (disch:=omega) only [Z284.el,f,Z284.e1,Z284.e2,Z284.e3,Z284.e4,Z284.e5,Z284.e6,Z284.e7,Z284.e8,Z284.e9,Z284.ur,Z284.um,Z284.yQ,e1,e2,e3,e4,e5,e6,e7,e8,e9,ur,um,yQ,wi,Z280.kk,Z294.mk,Z281.kk,Z295.mk,bne_self_eq_false,beq_self_eq_true,fX,Bool.not_true,bq,dm]
 all_goals first | done | omega | (congr 1<;>omega)
def mk (a0:List az)(a1:Int)(h0:0<=a1)(hb:a1+(Z284.sum a0:Int)<=4611686018427387904):md (Z284.md a0 a1).2 a1=a1+Z284.sum a0:=ij Z284.pE yu a0 a1 h0 hb
end Z298
namespace Z299
set_option maxHeartbeats 8000000
def F (x0:bu)(x1:Int):aH:=(call (Z297.R (x0.aJ,x1)) fun v1=>(cond (decide (v1<0)) (ret ((-1):Int)) (call (Z298.R (x0.bp,v1)) fun v2=>(cond (decide (v2<0)) (ret ((-1):Int)) (ret (v2:Int))))))
def e1 (x:aq)(k:Int):=Z297.md x.aJ k
def e2 (x:aq)(k:Int):=Z298.md x.bp (e1 x k)
def f (x:aq)(k:Int):Option Int:=(cond (decide ((e1 x k)<0)) none (cond (decide ((e2 x k)<0)) none (some ((e2 x k):Int))))
def md (a0:aq)(a1:Int):Int:=oF (f a0 a1)
def gd (a0:aq)(a1:Int):Prop:=eB a1
def R:=RR (p2 gd) (u2 md)
def aj {a0 a1}(h:gd a0 a1):R ((aq.r a0),a1)=some (md a0 a1):=aN (a:=(a0,a1)) h
def aT:=CN [.agg rK,pI] oI RT.dec R
def bt (a0)(a1)(hg:gd a0 a1):F (aq.r a0) a1=ret (md a0 a1):=by
 unfold gd at hg
 simp only [F,SS]
 unfold md
 refine aZ (e1 a0 a1) (Z297.aj (a0:=a0.aJ) (a1:=a1) hg) ?_
 refine gC rfl ?_
 refine aZ (e2 a0 a1) (Z298.aj (a0:=a0.bp) (a1:=e1 a0 a1) (Z297.iq hg)) ?_
 refine gC rfl ?_
 first | rfl | (simp only [SS];rfl)
def af:cw 27 aT:=W2 18 F mix aE bt (.cons Z297.af (.cons Z298.af .nil)) Tryz.func27
def iq {a0:aq}{a1:Int}(hk:eB a1):eB (md a0 a1):=by
 unfold md
 cases h:f a0 a1 with
 | none=>exact jy
 | some k2=>
  unfold f at h
  have h:=bJ h
  have h:=bJ h
  injection h with h
  subst h
  exact (Z298.iq (Z297.iq hk))
def mk (x:aq)(k:Int)(h0:0<=k)(hb:k+(Z285.sum x:Int)<=4611686018427387904):md (Z285.upd x k) k=k+Z285.sum x:=by
 simp only [Z285.sum,Int.natCast_add] at hb ⊢
 simp (disch:=omega) only [Z285.md,Z285.upd,md,f,oF,Z285.e1,Z285.e2,e1,e2,wi,Z283.kk,Z297.mk,Z284.kk,Z298.mk,bq,dm]
 all_goals first | done | omega
end Z299
namespace Z300
set_option maxHeartbeats 8000000
inductive Pt where
 | p0 (a:aC) (b c:Int)
def pid:Pt->Nat
 | .p0 ..=>2
def cg:Pt->List V
 | .p0 a b c=>[.sl none 9 a,.int .i64 b,.int .i64 c]
def bZ:Pt->List aW
 | .p0 a b c=>[]
def step (J:Pt->aH):Pt->aH
 | .p0 a b c=>(cond (decide (c<(a.length:Int))) (m2 c (a.length:Int) (call (Z286.R b) fun v1=>(cond (!((pV a (toNat c))==v1)) (ret ((-1):Int)) (J (.p0 a (i64.wrap (b+1)) (i64.wrap (c+1))))))) (ret (b:Int)))
def start (J:Pt->aH)(x0:aC)(x1:Int):aH:=J (.p0 x0 x1 0)
def live:Nat->Live:=fun i=>match i with | 2=>[(0,none),(1,none),(5,none)] | _=>[]
def pats:List fY:=[.rd (.sl 9),.rd (.int .i64)]
def res:RP:=.one (.rd (.int .i64))
abbrev E:Env:={ T:=assoc kL,G:=dw [(56,Z286.aT)],nt:=22 }
def step_eq (I:cD)(p:Pt):cT E live I (pid p) (bO Tryz.f60) (fq (live (pid p)) (cg p) (bZ p)) (cE E Tryz.f60 res)=step (fun q=>I (pid q) (cg q) (bZ q)) p:=by
 cases p<;>kernel_rfl
def start_eq (I:cD)(ls:List L):eP E live I (bO Tryz.f60) (cV pats ls) (cE E Tryz.f60 res)=start (fun q=>I (pid q) (cg q) (bZ q)) (ls.headD .hole).aP ((aA 1 ls).headD .hole).toInt:=by kernel_rfl
def run_eq (n:Nat)(ls:List L):eJ E live Tryz.f60 res n (cV pats ls)=start (iter step n) (ls.headD .hole).aP ((aA 1 ls).headD .hole).toInt:=cy (id:=pid) (vs:=cg) (hs:=bZ) (step:=step) (start:=fun J=>start J (ls.headD .hole).aP ((aA 1 ls).headD .hole).toInt) step_eq (fun I=>start_eq I ls) n
def f (x:aB)(k:Int):Option Int:=(cond (!(x==(Z286.md k))) none (some (i64.wrap (k+1))))
def tJ (x:aB)(k k2:Int)(hk:eB k)(h:f x k=some k2):eB k2:=by
 unfold f at h
 have h:=bJ h
 injection h with h
 subst h
 exact (cA _)
def md (a0:List aB)(a1:Int):Int:=jg f a0 a1
def gd (a0:List aB)(a1:Int):Prop:=eB a1
def acc (ls:List L):aC×Int:=((ls.headD .hole).aP,((aA 1 ls).headD .hole).toInt)
def R:(aC×Int)->Option Int:=RR (p2 gd) (u2 md)
def aj {a0 a1}(h:gd a0 a1):R ((a0.map cF),a1)=some (md a0 a1):=aN (a:=(a0,a1)) h
def aT:fQ:=CN pats res acc R
def bt (a0:List aB)(a1:Int)(hg:gd a0 a1)(h0:a0.length<=maxLen):∃n,start (iter step n) (a0.map cF) a1=ret ((md a0 a1):Int):=by
 unfold gd at hg
 show ∃n,iter step n (Pt.p0 (a0.map cF) a1 0)=_
 unfold md
 refine iY (f:=f) (xs:=a0) ⟨#[]⟩ eB tJ (pt:=fun i k=>Pt.p0 (a0.map cF) k (i:Int)) (fun J i k hi hk=>?_) (fun J k=>?_) hg
 ·simp only [step,SS]
  refine ak (aL hi) ?_
  refine ak aI ?_
  refine ak (aL hi) ?_
  refine aZ (Z286.md k) (Z286.aj (a0:=k) hk) ?_
  refine bN rfl ?_
  rw [aG hi h0]
  rfl
 ·simp only [step,SS]
  refine cN (by apply decide_eq_false;omega) ?_
  rfl
def af:cw 60 aT:=VV (run:=fun n x=>start (iter step n) x.1 x.2) mix aE (.cons Z286.af .nil) Tryz.func60 (by kernel_rfl) run_eq (fun ls a hl e hg=>bt a.1 a.2 hg (by have h:(ls.headD .hole).aP.length<=maxLen:=hl.1.len;have e:a.1.map cF=(ls.headD .hole).aP:=(congrArg (fun x=>x.1) e.symm);rw [<-e] at h;simpa using h))
def iq {a0:List aB}{a1:Int}(h:eB a1):eB (md a0 a1):=kI tJ jy h
def yu (x:aB)(k:Int)(h0:0<=k)(hb:k+(Z287.cnt x:Int)<=4611686018427387904):f (Z287.el x k).2 k=some (k+Z287.cnt x):=by
 simp only [Z287.cnt,Int.natCast_add] at hb ⊢
 simp (disch:=omega) only [Z287.el,f,wi,bne_self_eq_false,beq_self_eq_true,fX,Bool.not_true,bq,dm]
 all_goals first | done | omega | (congr 1<;>omega)
def mk (a0:List aB)(a1:Int)(h0:0<=a1)(hb:a1+(Z287.sum a0:Int)<=4611686018427387904):md (Z287.md a0 a1).2 a1=a1+Z287.sum a0:=ij Z287.pE yu a0 a1 h0 hb
end Z300
namespace Z301
set_option maxHeartbeats 8000000
def F (x0:aU)(x1:Int):aH:=(call (Z300.R (x0.bI,x1)) fun v1=>(cond (decide (v1<0)) (ret ((-1):Int)) (ret (v1:Int))))
def e1 (x:ah)(k:Int):=Z300.md x.bI k
def f (x:ah)(k:Int):Option Int:=(cond (decide ((e1 x k)<0)) none (some ((e1 x k):Int)))
def md (a0:ah)(a1:Int):Int:=oF (f a0 a1)
def gd (a0:ah)(a1:Int):Prop:=eB a1
def R:=RR (p2 gd) (u2 md)
def aj {a0 a1}(h:gd a0 a1):R ((ah.r a0),a1)=some (md a0 a1):=aN (a:=(a0,a1)) h
def aT:=CN [.agg qX,pI] oI RT.dec R
def bt (a0)(a1)(hg:gd a0 a1):F (ah.r a0) a1=ret (md a0 a1):=by
 unfold gd at hg
 simp only [F,SS]
 unfold md
 refine aZ (e1 a0 a1) (Z300.aj (a0:=a0.bI) (a1:=a1) hg) ?_
 refine gC rfl ?_
 first | rfl | (simp only [SS];rfl)
def af:cw 75 aT:=W2 12 F mix aE bt (.cons Z300.af .nil) Tryz.func75
def iq {a0:ah}{a1:Int}(hk:eB a1):eB (md a0 a1):=by
 unfold md
 cases h:f a0 a1 with
 | none=>exact jy
 | some k2=>
  unfold f at h
  have h:=bJ h
  injection h with h
  subst h
  exact (Z300.iq hk)
def mk (x:ah)(k:Int)(h0:0<=k)(hb:k+(Z292.sum x:Int)<=4611686018427387904):md (Z292.upd x k) k=k+Z292.sum x:=by
 simp only [Z292.sum,Int.natCast_add] at hb ⊢
 simp (disch:=omega) only [Z292.md,Z292.upd,md,f,oF,Z292.e1,e1,wi,Z287.kk,Z300.mk,bq,dm]
 all_goals first | done | omega
end Z301
namespace Z302
set_option maxHeartbeats 8000000
def F (x0:cP)(x1:Int):aH:=(call (Z299.R (x0.bX,x1)) fun v1=>(cond (decide (v1<0)) (ret ((-1):Int)) (call (Z301.R (x0.aV,v1)) fun v2=>(cond (decide (v2<0)) (ret ((-1):Int)) (call (Z294.R (x0.bG,v2)) fun v3=>(cond (decide (v3<0)) (ret ((-1):Int)) (ret (v3:Int))))))))
def e1 (x:bA)(k:Int):=Z299.md x.bX k
def e2 (x:bA)(k:Int):=Z301.md x.aV (e1 x k)
def e3 (x:bA)(k:Int):=Z294.md x.bG (e2 x k)
def f (x:bA)(k:Int):Option Int:=(cond (decide ((e1 x k)<0)) none (cond (decide ((e2 x k)<0)) none (cond (decide ((e3 x k)<0)) none (some ((e3 x k):Int)))))
def md (a0:bA)(a1:Int):Int:=oF (f a0 a1)
def gd (a0:bA)(a1:Int):Prop:=eB a1
def R:=RR (p2 gd) (u2 md)
def aj {a0 a1}(h:gd a0 a1):R ((bA.r a0),a1)=some (md a0 a1):=aN (a:=(a0,a1)) h
def aT:=CN [.agg Bl,pI] oI RT.dec R
def bt (a0)(a1)(hg:gd a0 a1):F (bA.r a0) a1=ret (md a0 a1):=by
 unfold gd at hg
 simp only [F,SS]
 unfold md
 refine aZ (e1 a0 a1) (Z299.aj (a0:=a0.bX) (a1:=a1) hg) ?_
 refine gC rfl ?_
 refine aZ (e2 a0 a1) (Z301.aj (a0:=a0.aV) (a1:=e1 a0 a1) (Z299.iq hg)) ?_
 refine gC rfl ?_
 refine aZ (e3 a0 a1) (Z294.aj (a0:=a0.bG) (a1:=e2 a0 a1) (Z301.iq (Z299.iq hg))) ?_
 refine gC rfl ?_
 first | rfl | (simp only [SS];rfl)
def af:cw 32 aT:=W2 24 F mix aE bt (.cons Z299.af (.cons Z301.af (.cons Z294.af .nil))) Tryz.func32
def mk (x:bA)(k:Int)(h0:0<=k)(hb:k+(Z293.sum x:Int)<=4611686018427387904):md (Z293.upd x k) k=k+Z293.sum x:=by
 simp only [Z293.sum,Int.natCast_add] at hb ⊢
 have heldKnown_:=@Z299.mk
 simp only [Z285.upd] at heldKnown_
 have heldEntry_:=@Z301.mk
 simp only [Z292.upd] at heldEntry_
 simp (disch:=omega) only [Z293.md,Z293.upd,md,f,oF,Z293.e1,Z293.e2,Z293.e3,e1,e2,e3,wi,Z285.kk,heldKnown_,Z292.kk,heldEntry_,Z280.kk,Z294.mk,bq,dm]
 all_goals first | done | omega
end Z302
namespace Z303
def F (x0:bu)(x1 x2:aC)(x3:aB)(x4:aC)(x5:Int):aH:=(cond (decide ((x3.size:Int)>1048576)) ep (call (Z9.R (x0,1048576)) fun v1=>(cond (decide (v1<0)) ep (call (Z16.R (x1,v1)) fun v2=>(cond (decide (v2<0)) ep (call (Z18.R (x2,v2)) fun v3=>(cond (decide (v3<0)) ep (call (Z10.R (x4,v3)) fun v4=>(cond (decide (v4<0)) ep (call (Z29.R x0) fun v5=>(call (Z36.R x1) fun v6=>(call (Z38.R x2) fun v7=>(call (Z30.R x4) fun v8=>(call (Z128.R (v5,v6,v7,x3,v8,x5)) fun v9=>(call (Z29.R x0) fun v10=>(call (Z36.R x1) fun v11=>(call (Z38.R x2) fun v12=>(call (Z30.R x4) fun v13=>(call (Z258.R (v10,v11,v12,x3,v13,x5)) fun v14=>(call (Z272.R (v14,v9)) fun v15=>(cond (!v15) aY (call (Z29.R x0) fun v16=>(call (Z269.R (v10,v16)) fun v17=>(cond (!v17) aY (call (Z36.R x1) fun v18=>(call (Z277.R (v11,v18)) fun v19=>(cond (!v19) aY (call (Z38.R x2) fun v20=>(call (Z279.R (v12,v20)) fun v21=>(cond (!v21) aY (call (Z30.R x4) fun v22=>(call (Z270.R (v13,v22)) fun v23=>(cond (!v23) aY (call (Z285.R (v10,1)) fun v24=>(call (Z290.R (v11,v24.1)) fun v25=>(call (Z291.R (v12,v25.1)) fun v26=>(call (Z287.R (v13,v26.1)) fun v27=>(cond (decide (v27.1<0)) aY (call (Z272.R (v14,v9)) fun v28=>(cond (!v28) aY (call (Z293.R (v14,1)) fun v29=>(call (Z302.R ((⟨(⟨v29.2.1,v29.2.2.1⟩:bu),v14.gp,(⟨v14.aV.bk,v14.aV.bK,v14.aV.bW,v29.2.2.2.1⟩:aU),v29.2.2.2.2,v14.eY⟩:cP),1)) fun v30=>(cond (decide (v30<0)) aY (cond (v30 != v29.1) aY (call (Z29.R x0) fun v31=>(call (Z36.R x1) fun v32=>(call (Z38.R x2) fun v33=>(call (Z30.R x4) fun v34=>(call (Z258.R (v31,v32,v33,x3,v34,x5)) fun v35=>(call (Z272.R (v35,v9)) fun v36=>(cond (!v36) aY (call (Z302.R ((⟨(⟨v29.2.1,v29.2.2.1⟩:bu),v14.gp,(⟨v14.aV.bk,v14.aV.bK,v14.aV.bW,v29.2.2.2.1⟩:aU),v29.2.2.2.2,v14.eY⟩:cP),1)) fun v37=>(cond (decide (v37<0)) aY (cond (v37 != v29.1) aY ep))))))))))))))))))))))))))))))))))))))))))))))))))))))
def pats:List fY:=[.agg [.sl 122,.sl 132],.rd (.sl 78),.rd (.sl 115),.rd (.str),.rd (.sl 9),.rd (.int .i64)]
def res:RP:=.one (.rd (.bool))
def md (a0:aq)(a1:List av)(a2:List bF)(a3:aB)(a4:List aB)(a5:Int):Bool:=true
def gd (a0:aq)(a1:List av)(a2:List bF)(a3:aB)(a4:List aB)(a5:Int):Prop:=(aq.Sm maxLen a0)/\(bL maxLen (fun y:av=>av.Sm maxLen y) a1)/\(bL maxLen (fun y:bF=>bF.Sm maxLen y) a2)/\(a3.size<=maxLen)/\(bL maxLen (fun y:aB=>y.size<=maxLen) a4)
def acc (ls:List L):bu×aC×aC×aB×aC×Int:=((bu.dec ls),((aA 2 ls).headD .hole).aP,((aA 3 ls).headD .hole).aP,((aA 4 ls).headD .hole).toStr,((aA 5 ls).headD .hole).aP,((aA 6 ls).headD .hole).toInt)
def R:(bu×aC×aC×aB×aC×Int)->Option Bool:=RR (p6 gd) (u6 md)
def aj {a0 a1 a2 a3 a4 a5}(h:gd a0 a1 a2 a3 a4 a5):R ((aq.r a0),(a1.map av.row),(a2.map bF.row),a3,(a4.map cF),a5)=some (md a0 a1 a2 a3 a4 a5):=aN (a:=(a0,a1,a2,a3,a4,a5)) h
def aT:fQ:=CN pats res acc R
def bt (a0:aq)(a1:List av)(a2:List bF)(a3:aB)(a4:List aB)(a5:Int)(hg:gd a0 a1 a2 a3 a4 a5):F (aq.r a0) (a1.map av.row) (a2.map bF.row) a3 (a4.map cF) a5=ret ((md a0 a1 a2 a3 a4 a5):Bool):=by
 unfold md
 show (bif (decide ((a3.size:Int)>1048576)) then ep else (call (Z9.R ((aq.r a0),1048576)) fun v1=>(bif (decide (v1<0)) then ep else (call (Z16.R ((a1.map av.row),v1)) fun v2=>(bif (decide (v2<0)) then ep else (call (Z18.R ((a2.map bF.row),v2)) fun v3=>(bif (decide (v3<0)) then ep else (call (Z10.R ((a4.map cF),v3)) fun v4=>(bif (decide (v4<0)) then ep else (call (Z29.R (aq.r a0)) fun v5=>(call (Z36.R (a1.map av.row)) fun v6=>(call (Z38.R (a2.map bF.row)) fun v7=>(call (Z30.R (a4.map cF)) fun v8=>(call (Z128.R (v5,v6,v7,a3,v8,a5)) fun v9=>(call (Z29.R (aq.r a0)) fun v10=>(call (Z36.R (a1.map av.row)) fun v11=>(call (Z38.R (a2.map bF.row)) fun v12=>(call (Z30.R (a4.map cF)) fun v13=>(call (Z258.R (v10,v11,v12,a3,v13,a5)) fun v14=>(call (Z272.R (v14,v9)) fun v15=>(bif (!v15) then aY else (call (Z29.R (aq.r a0)) fun v16=>(call (Z269.R (v10,v16)) fun v17=>(bif (!v17) then aY else (call (Z36.R (a1.map av.row)) fun v18=>(call (Z277.R (v11,v18)) fun v19=>(bif (!v19) then aY else (call (Z38.R (a2.map bF.row)) fun v20=>(call (Z279.R (v12,v20)) fun v21=>(bif (!v21) then aY else (call (Z30.R (a4.map cF)) fun v22=>(call (Z270.R (v13,v22)) fun v23=>(bif (!v23) then aY else (call (Z285.R (v10,1)) fun v24=>(call (Z290.R (v11,v24.1)) fun v25=>(call (Z291.R (v12,v25.1)) fun v26=>(call (Z287.R (v13,v26.1)) fun v27=>(bif (decide (v27.1<0)) then aY else (call (Z272.R (v14,v9)) fun v28=>(bif (!v28) then aY else (call (Z293.R (v14,1)) fun v29=>(call (Z302.R ((⟨(⟨v29.2.1,v29.2.2.1⟩:bu),v14.gp,(⟨v14.aV.bk,v14.aV.bK,v14.aV.bW,v29.2.2.2.1⟩:aU),v29.2.2.2.2,v14.eY⟩:cP),1)) fun v30=>(bif (decide (v30<0)) then aY else (bif (v30 != v29.1) then aY else (call (Z29.R (aq.r a0)) fun v31=>(call (Z36.R (a1.map av.row)) fun v32=>(call (Z38.R (a2.map bF.row)) fun v33=>(call (Z30.R (a4.map cF)) fun v34=>(call (Z258.R (v31,v32,v33,a3,v34,a5)) fun v35=>(call (Z272.R (v35,v9)) fun v36=>(bif (!v36) then aY else (call (Z302.R ((⟨(⟨v29.2.1,v29.2.2.1⟩:bu),v14.gp,(⟨v14.aV.bk,v14.aV.bK,v14.aV.bW,v29.2.2.2.1⟩:aU),v29.2.2.2.2,v14.eY⟩:cP),1)) fun v37=>(cond (decide (v37<0)) aY (cond (v37 != v29.1) aY ep))))))))))))))))))))))))))))))))))))))))))))))))))))))=_
 by_cases q3:((a3.size:Int)>1048576)
 ·rw [decide_eq_true q3];rfl
 rw [decide_eq_false q3,bq]
 have s3:a3.size<=2^20:=by omega
 rw [call_eq (Z9.aj (a1:=(1048576:Int)) ⟨hg.1,by omega,by omega⟩)]
 unfold Z9.md
 by_cases c0:(1048576:Int)<(((aq.size a0):Nat):Int)
 ·rw [cK c0];rfl
 rw [dn c0,dm (by omega)]
 simp only [bq]
 have s0:aq.Sm (2^20) a0:=(aq.fZ (by omega))
 rw [call_eq (Z16.aj (a1:=(1048576 - (((aq.size a0):Nat):Int):Int)) ⟨hg.2.1,by omega,by omega⟩)]
 unfold Z16.md
 by_cases c1:(1048576 - (((aq.size a0):Nat):Int):Int)<(((dO (fun y:av=>av.size y) a1):Nat):Int)
 ·rw [cK c1];rfl
 rw [dn c1,dm (by omega)]
 simp only [bq]
 have s1:bL (2^20) (fun y:av=>av.Sm (2^20) y) a1:=(iM (f:=fun y:av=>av.size y) (by omega) (fun x hx=>(av.fZ hx)))
 rw [call_eq (Z18.aj (a1:=(1048576 - (((aq.size a0):Nat):Int) - (((dO (fun y:av=>av.size y) a1):Nat):Int):Int)) ⟨hg.2.2.1,by omega,by omega⟩)]
 unfold Z18.md
 by_cases c2:(1048576 - (((aq.size a0):Nat):Int) - (((dO (fun y:av=>av.size y) a1):Nat):Int):Int)<(((dO (fun y:bF=>bF.size y) a2):Nat):Int)
 ·rw [cK c2];rfl
 rw [dn c2,dm (by omega)]
 simp only [bq]
 have s2:bL (2^20) (fun y:bF=>bF.Sm (2^20) y) a2:=(iM (f:=fun y:bF=>bF.size y) (by omega) (fun x hx=>(bF.fZ hx)))
 rw [call_eq (Z10.aj (a1:=(1048576 - (((aq.size a0):Nat):Int) - (((dO (fun y:av=>av.size y) a1):Nat):Int) - (((dO (fun y:bF=>bF.size y) a2):Nat):Int):Int)) ⟨hg.2.2.2.2,by omega,by omega⟩)]
 unfold Z10.md
 by_cases c4:(1048576 - (((aq.size a0):Nat):Int) - (((dO (fun y:av=>av.size y) a1):Nat):Int) - (((dO (fun y:bF=>bF.size y) a2):Nat):Int):Int)<(((dO (fun y:aB=>y.size) a4):Nat):Int)
 ·rw [cK c4];rfl
 rw [dn c4,dm (by omega)]
 simp only [bq]
 have s4:bL (2^20) (fun y:aB=>y.size<=(2^20)) a4:=(iM (f:=fun y:aB=>y.size) (by omega) (fun x hx=>hx))
 refine aZ (aq.r a0) (Z29.aj (a0:=a0) (aq.cO (by decide) s0)) ?_
 refine aZ (a1.map av.row) (Z36.aj (a0:=a1) (s1.mono (by decide) (fun x hx=>(av.cO (by decide) hx)))) ?_
 refine aZ (a2.map bF.row) (Z38.aj (a0:=a2) (s2.mono (by decide) (fun x hx=>(bF.cO (by decide) hx)))) ?_
 refine aZ (a4.map cF) (Z30.aj (a0:=a4) (s4.mono (by decide) (fun x hx=>(le_trans hx (by decide))))) ?_
 refine aZ (bA.r (Z128.md a0 a1 a2 a3 a4 a5)) (Z128.aj (a0:=a0) (a1:=a1) (a2:=a2) (a3:=a3) (a4:=a4) (a5:=a5) (by
  have:=And.intro trivial trivial
  unfold Z128.gd
  first | exact (aq.cO (by decide) s0) | refine ⟨(aq.cO (by decide) s0),(s1.mono (by decide) (fun x hx=>(av.cO (by decide) hx))),(s2.mono (by decide) (fun x hx=>(bF.cO (by decide) hx))),(s4.mono (by decide) (fun x hx=>(le_trans hx (by decide))))⟩)) ?_
 refine aZ (aq.r a0) (Z29.aj (a0:=a0) (aq.cO (by decide) s0)) ?_
 refine aZ (a1.map av.row) (Z36.aj (a0:=a1) (s1.mono (by decide) (fun x hx=>(av.cO (by decide) hx)))) ?_
 refine aZ (a2.map bF.row) (Z38.aj (a0:=a2) (s2.mono (by decide) (fun x hx=>(bF.cO (by decide) hx)))) ?_
 refine aZ (a4.map cF) (Z30.aj (a0:=a4) (s4.mono (by decide) (fun x hx=>(le_trans hx (by decide))))) ?_
 have r_:=Z258.aj (a0:=a0) (a1:=a1) (a2:=a2) (a3:=a3) (a4:=a4) (a5:=a5) (by
  have:=And.intro trivial trivial
  unfold Z258.gd
  first | exact (aq.cO (by decide) s0) | refine ⟨(aq.cO (by decide) s0),(s1.mono (by decide) (fun x hx=>(av.cO (by decide) hx))),(s2.mono (by decide) (fun x hx=>(bF.cO (by decide) hx))),(s4.mono (by decide) (fun x hx=>(le_trans hx (by decide))))⟩)
 rw [Z258.br] at r_
 refine aZ (bA.r (Z128.md a0 a1 a2 a3 a4 a5)) r_ ?_
 clear r_
 refine aZ _ (Z272.aj (a0:=(Z128.md a0 a1 a2 a3 a4 a5)) (a1:=(Z128.md a0 a1 a2 a3 a4 a5)) trivial) ?_
 refine cN (by first | (simp only [bne_self_eq_false,beq_self_eq_true,fX,fH,Bool.not_true,Z272.md];done) | (refine bne_eq_false_iff_eq.2 ?_;omega)) ?_
 refine aZ (aq.r a0) (Z29.aj (a0:=a0) (aq.cO (by decide) s0)) ?_
 refine aZ _ (Z269.aj (a0:=a0) (a1:=a0) trivial) ?_
 refine cN (by first | (simp only [bne_self_eq_false,beq_self_eq_true,fX,fH,Bool.not_true,Z272.md,Z269.md];done) | (refine bne_eq_false_iff_eq.2 ?_;omega)) ?_
 refine aZ (a1.map av.row) (Z36.aj (a0:=a1) (s1.mono (by decide) (fun x hx=>(av.cO (by decide) hx)))) ?_
 refine aZ _ (Z277.aj (a0:=a1) (a1:=a1) trivial) ?_
 refine cN (by first | (simp only [bne_self_eq_false,beq_self_eq_true,fX,fH,Bool.not_true,Z272.md,Z269.md,Z277.md];done) | (refine bne_eq_false_iff_eq.2 ?_;omega)) ?_
 refine aZ (a2.map bF.row) (Z38.aj (a0:=a2) (s2.mono (by decide) (fun x hx=>(bF.cO (by decide) hx)))) ?_
 refine aZ _ (Z279.aj (a0:=a2) (a1:=a2) trivial) ?_
 refine cN (by first | (simp only [bne_self_eq_false,beq_self_eq_true,fX,fH,Bool.not_true,Z272.md,Z269.md,Z277.md,Z279.md];done) | (refine bne_eq_false_iff_eq.2 ?_;omega)) ?_
 refine aZ (a4.map cF) (Z30.aj (a0:=a4) (s4.mono (by decide) (fun x hx=>(le_trans hx (by decide))))) ?_
 refine aZ _ (Z270.aj (a0:=a4) (a1:=a4) trivial) ?_
 refine cN (by first | (simp only [bne_self_eq_false,beq_self_eq_true,fX,fH,Bool.not_true,Z272.md,Z269.md,Z277.md,Z279.md,Z270.md];done) | (refine bne_eq_false_iff_eq.2 ?_;omega)) ?_
 have u1:=Z285.sz a0
 refine aZ ((Z285.md a0 1).1,((Z285.md a0 1).2.1.map (dG aa.row)),((Z285.md a0 1).2.2.map az.row)) (Z285.aj (a0:=a0) (a1:=1) kg) ?_
 have k2:=Z285.kk a0 1 (by omega) (by omega)
 have u3:=Z290.sz a1
 refine aZ ((Z290.md a1 ((Z285.md a0 1).1)).1,((Z290.md a1 ((Z285.md a0 1).1)).2.map av.row)) (Z290.aj (a0:=a1) (a1:=(Z285.md a0 1).1) (Z285.iq kg)) ?_
 have k4:=Z290.kk a1 ((Z285.md a0 1).1) (by omega) (by omega)
 have u5:=Z291.sz a2
 refine aZ ((Z291.md a2 ((Z290.md a1 ((Z285.md a0 1).1)).1)).1,((Z291.md a2 ((Z290.md a1 ((Z285.md a0 1).1)).1)).2.map bF.row)) (Z291.aj (a0:=a2) (a1:=(Z290.md a1 ((Z285.md a0 1).1)).1) (Z290.iq (Z285.iq kg))) ?_
 have k6:=Z291.kk a2 ((Z290.md a1 ((Z285.md a0 1).1)).1) (by omega) (by omega)
 have u7:=Z287.sz a4
 refine aZ ((Z287.md a4 ((Z291.md a2 ((Z290.md a1 ((Z285.md a0 1).1)).1)).1)).1,((Z287.md a4 ((Z291.md a2 ((Z290.md a1 ((Z285.md a0 1).1)).1)).1)).2.map cF)) (Z287.aj (a0:=a4) (a1:=(Z291.md a2 ((Z290.md a1 ((Z285.md a0 1).1)).1)).1) (Z291.iq (Z290.iq (Z285.iq kg)))) ?_
 have k8:=Z287.kk a4 ((Z291.md a2 ((Z290.md a1 ((Z285.md a0 1).1)).1)).1) (by omega) (by omega)
 refine cN (dm (by omega)) ?_
 refine aZ _ (Z272.aj (a0:=(Z128.md a0 a1 a2 a3 a4 a5)) (a1:=(Z128.md a0 a1 a2 a3 a4 a5)) trivial) ?_
 refine cN (by first | (simp only [bne_self_eq_false,beq_self_eq_true,fX,fH,Bool.not_true,Z272.md,Z269.md,Z277.md,Z279.md,Z270.md];done) | (refine bne_eq_false_iff_eq.2 ?_;omega)) ?_
 have u9:Z293.sum (Z128.md a0 a1 a2 a3 a4 a5)<=1000000000000000000:=(by
  have h1:=Z293.sz (Z128.md a0 a1 a2 a3 a4 a5)
  have h2:bA.size (Z128.md a0 a1 a2 a3 a4 a5)<=2^40:=by
   unfold Z128.md
   cases (Z40.md a2 a3).2
   ·have :bA.size ⟨a0,6,⟨⟨#[]⟩,0,0,[]⟩,[],0⟩=aq.size a0:=rfl
    show bA.size ⟨a0,6,⟨⟨#[]⟩,0,0,[]⟩,[],0⟩<=_
    omega
   ·exact Z127.sz a0 a1 _ a4 a5 (by omega) (by omega)
  omega)
 refine aZ ((Z293.md (Z128.md a0 a1 a2 a3 a4 a5) 1).1,((Z293.md (Z128.md a0 a1 a2 a3 a4 a5) 1).2.1.map (dG aa.row)),((Z293.md (Z128.md a0 a1 a2 a3 a4 a5) 1).2.2.1.map az.row),((Z293.md (Z128.md a0 a1 a2 a3 a4 a5) 1).2.2.2.1.map cF),((Z293.md (Z128.md a0 a1 a2 a3 a4 a5) 1).2.2.2.2.map bh)) (Z293.aj (a0:=(Z128.md a0 a1 a2 a3 a4 a5)) (a1:=1) kg) ?_
 have k10:=Z293.kk (Z128.md a0 a1 a2 a3 a4 a5) 1 (by omega) (by omega)
 refine aZ (Z302.md (⟨(⟨(Z293.md (Z128.md a0 a1 a2 a3 a4 a5) 1).2.1,(Z293.md (Z128.md a0 a1 a2 a3 a4 a5) 1).2.2.1⟩:aq),(Z128.md a0 a1 a2 a3 a4 a5).gp,(⟨(Z128.md a0 a1 a2 a3 a4 a5).aV.bk,(Z128.md a0 a1 a2 a3 a4 a5).aV.bK,(Z128.md a0 a1 a2 a3 a4 a5).aV.bW,(Z293.md (Z128.md a0 a1 a2 a3 a4 a5) 1).2.2.2.1⟩:ah),(Z293.md (Z128.md a0 a1 a2 a3 a4 a5) 1).2.2.2.2,(Z128.md a0 a1 a2 a3 a4 a5).eY⟩:bA) 1) (Z302.aj (a0:=(⟨(⟨(Z293.md (Z128.md a0 a1 a2 a3 a4 a5) 1).2.1,(Z293.md (Z128.md a0 a1 a2 a3 a4 a5) 1).2.2.1⟩:aq),(Z128.md a0 a1 a2 a3 a4 a5).gp,(⟨(Z128.md a0 a1 a2 a3 a4 a5).aV.bk,(Z128.md a0 a1 a2 a3 a4 a5).aV.bK,(Z128.md a0 a1 a2 a3 a4 a5).aV.bW,(Z293.md (Z128.md a0 a1 a2 a3 a4 a5) 1).2.2.2.1⟩:ah),(Z293.md (Z128.md a0 a1 a2 a3 a4 a5) 1).2.2.2.2,(Z128.md a0 a1 a2 a3 a4 a5).eY⟩:bA)) (a1:=1) kg) ?_
 have h11:(Z302.md (⟨(⟨(Z293.md (Z128.md a0 a1 a2 a3 a4 a5) 1).2.1,(Z293.md (Z128.md a0 a1 a2 a3 a4 a5) 1).2.2.1⟩:aq),(Z128.md a0 a1 a2 a3 a4 a5).gp,(⟨(Z128.md a0 a1 a2 a3 a4 a5).aV.bk,(Z128.md a0 a1 a2 a3 a4 a5).aV.bK,(Z128.md a0 a1 a2 a3 a4 a5).aV.bW,(Z293.md (Z128.md a0 a1 a2 a3 a4 a5) 1).2.2.2.1⟩:ah),(Z293.md (Z128.md a0 a1 a2 a3 a4 a5) 1).2.2.2.2,(Z128.md a0 a1 a2 a3 a4 a5).eY⟩:bA) 1)=1+(Z293.sum (Z128.md a0 a1 a2 a3 a4 a5):Int):=Z302.mk (Z128.md a0 a1 a2 a3 a4 a5) 1 (by omega) (by omega)
 refine cN (dm (by omega)) ?_
 refine cN (by first | (simp only [bne_self_eq_false,beq_self_eq_true,fX,fH,Bool.not_true,Z272.md,Z269.md,Z277.md,Z279.md,Z270.md];done) | (refine bne_eq_false_iff_eq.2 ?_;omega)) ?_
 refine aZ (aq.r a0) (Z29.aj (a0:=a0) (aq.cO (by decide) s0)) ?_
 refine aZ (a1.map av.row) (Z36.aj (a0:=a1) (s1.mono (by decide) (fun x hx=>(av.cO (by decide) hx)))) ?_
 refine aZ (a2.map bF.row) (Z38.aj (a0:=a2) (s2.mono (by decide) (fun x hx=>(bF.cO (by decide) hx)))) ?_
 refine aZ (a4.map cF) (Z30.aj (a0:=a4) (s4.mono (by decide) (fun x hx=>(le_trans hx (by decide))))) ?_
 have r_:=Z258.aj (a0:=a0) (a1:=a1) (a2:=a2) (a3:=a3) (a4:=a4) (a5:=a5) (by
  have:=And.intro trivial trivial
  unfold Z258.gd
  first | exact (aq.cO (by decide) s0) | refine ⟨(aq.cO (by decide) s0),(s1.mono (by decide) (fun x hx=>(av.cO (by decide) hx))),(s2.mono (by decide) (fun x hx=>(bF.cO (by decide) hx))),(s4.mono (by decide) (fun x hx=>(le_trans hx (by decide))))⟩)
 rw [Z258.br] at r_
 refine aZ (bA.r (Z128.md a0 a1 a2 a3 a4 a5)) r_ ?_
 clear r_
 refine aZ _ (Z272.aj (a0:=(Z128.md a0 a1 a2 a3 a4 a5)) (a1:=(Z128.md a0 a1 a2 a3 a4 a5)) trivial) ?_
 refine cN (by first | (simp only [bne_self_eq_false,beq_self_eq_true,fX,fH,Bool.not_true,Z272.md,Z269.md,Z277.md,Z279.md,Z270.md];done) | (refine bne_eq_false_iff_eq.2 ?_;omega)) ?_
 refine aZ (Z302.md (⟨(⟨(Z293.md (Z128.md a0 a1 a2 a3 a4 a5) 1).2.1,(Z293.md (Z128.md a0 a1 a2 a3 a4 a5) 1).2.2.1⟩:aq),(Z128.md a0 a1 a2 a3 a4 a5).gp,(⟨(Z128.md a0 a1 a2 a3 a4 a5).aV.bk,(Z128.md a0 a1 a2 a3 a4 a5).aV.bK,(Z128.md a0 a1 a2 a3 a4 a5).aV.bW,(Z293.md (Z128.md a0 a1 a2 a3 a4 a5) 1).2.2.2.1⟩:ah),(Z293.md (Z128.md a0 a1 a2 a3 a4 a5) 1).2.2.2.2,(Z128.md a0 a1 a2 a3 a4 a5).eY⟩:bA) 1) (Z302.aj (a0:=(⟨(⟨(Z293.md (Z128.md a0 a1 a2 a3 a4 a5) 1).2.1,(Z293.md (Z128.md a0 a1 a2 a3 a4 a5) 1).2.2.1⟩:aq),(Z128.md a0 a1 a2 a3 a4 a5).gp,(⟨(Z128.md a0 a1 a2 a3 a4 a5).aV.bk,(Z128.md a0 a1 a2 a3 a4 a5).aV.bK,(Z128.md a0 a1 a2 a3 a4 a5).aV.bW,(Z293.md (Z128.md a0 a1 a2 a3 a4 a5) 1).2.2.2.1⟩:ah),(Z293.md (Z128.md a0 a1 a2 a3 a4 a5) 1).2.2.2.2,(Z128.md a0 a1 a2 a3 a4 a5).eY⟩:bA)) (a1:=1) kg) ?_
 have h12:(Z302.md (⟨(⟨(Z293.md (Z128.md a0 a1 a2 a3 a4 a5) 1).2.1,(Z293.md (Z128.md a0 a1 a2 a3 a4 a5) 1).2.2.1⟩:aq),(Z128.md a0 a1 a2 a3 a4 a5).gp,(⟨(Z128.md a0 a1 a2 a3 a4 a5).aV.bk,(Z128.md a0 a1 a2 a3 a4 a5).aV.bK,(Z128.md a0 a1 a2 a3 a4 a5).aV.bW,(Z293.md (Z128.md a0 a1 a2 a3 a4 a5) 1).2.2.2.1⟩:ah),(Z293.md (Z128.md a0 a1 a2 a3 a4 a5) 1).2.2.2.2,(Z128.md a0 a1 a2 a3 a4 a5).eY⟩:bA) 1)=1+(Z293.sum (Z128.md a0 a1 a2 a3 a4 a5):Int):=Z302.mk (Z128.md a0 a1 a2 a3 a4 a5) 1 (by omega) (by omega)
 refine cN (dm (by omega)) ?_
 refine cN (by first | (simp only [bne_self_eq_false,beq_self_eq_true,fX,fH,Bool.not_true,Z272.md,Z269.md,Z277.md,Z279.md,Z270.md];done) | (refine bne_eq_false_iff_eq.2 ?_;omega)) ?_
 rfl
def af:cw 5 aT:=VS (live:=fun _=>[]) (nt:=151) (run:=fun _ x=>F x.1 x.2.1 x.2.2.1 x.2.2.2.1 x.2.2.2.2.1 x.2.2.2.2.2) mix aE (.cons Z9.af (.cons Z16.af (.cons Z18.af (.cons Z10.af (.cons Z29.af (.cons Z36.af (.cons Z38.af (.cons Z30.af (.cons Z128.af (.cons Z258.af (.cons Z272.af (.cons Z269.af (.cons Z277.af (.cons Z279.af (.cons Z270.af (.cons Z302.af .nil)))))))))))))))) (.cons Z285.af (.cons Z290.af (.cons Z291.af (.cons Z287.af (.cons Z293.af .nil))))) Tryz.func5 (by kernel_rfl) (fun _ _=>by kernel_rfl) (fun _ a _ _ hg=>⟨0,bt a.1 a.2.1 a.2.2.1 a.2.2.2.1 a.2.2.2.2.1 a.2.2.2.2.2 hg⟩)
def kQ (r:List L)(h:eg Ev.cells [.sl 3,aD] r):∃x:aO,aO.row x=r/\aO.Sm maxLen x:=by
 obtain ⟨l0,t0,rfl,g0,h1⟩:=h.dS
 obtain ⟨x0,rfl,s0⟩:=gP (show Ev.cells 3=[aD] from by kernel_rfl) yV g0
 obtain ⟨l1,t1,rfl,g1,h2⟩:=h1.dS
 obtain ⟨x1,rfl⟩:=gi g1
 obtain rfl:=h2.jA
 exact ⟨⟨x0,x1⟩,rfl,s0⟩
def tK (r:List L)(h:eg Ev.cells [aD,aD,aD,aD,aD,aD,aD,aD,.sl 3,aD,.sl 3,aD,aD,.sl 3,aD,.bool] r):∃x:aF,aF.row x=r/\aF.Sm maxLen x:=by
 obtain ⟨l0,t0,rfl,g0,h1⟩:=h.dS
 obtain ⟨x0,rfl⟩:=gi g0
 obtain ⟨l1,t1,rfl,g1,h2⟩:=h1.dS
 obtain ⟨x1,rfl⟩:=gi g1
 obtain ⟨l2,t2,rfl,g2,h3⟩:=h2.dS
 obtain ⟨x2,rfl⟩:=gi g2
 obtain ⟨l3,t3,rfl,g3,h4⟩:=h3.dS
 obtain ⟨x3,rfl⟩:=gi g3
 obtain ⟨l4,t4,rfl,g4,h5⟩:=h4.dS
 obtain ⟨x4,rfl⟩:=gi g4
 obtain ⟨l5,t5,rfl,g5,h6⟩:=h5.dS
 obtain ⟨x5,rfl⟩:=gi g5
 obtain ⟨l6,t6,rfl,g6,h7⟩:=h6.dS
 obtain ⟨x6,rfl⟩:=gi g6
 obtain ⟨l7,t7,rfl,g7,h8⟩:=h7.dS
 obtain ⟨x7,rfl⟩:=gi g7
 obtain ⟨r8,t8,rfl,g8,h9⟩:=eg.ny (a:=[.sl 3,aD]) (b:=[.sl 3,aD,aD,.sl 3,aD,.bool]) h8
 obtain ⟨x8,rfl,s8⟩:=kQ _ g8
 obtain ⟨r9,t9,rfl,g9,h10⟩:=eg.ny (a:=[.sl 3,aD]) (b:=[aD,.sl 3,aD,.bool]) h9
 obtain ⟨x9,rfl,s9⟩:=kQ _ g9
 obtain ⟨l10,t10,rfl,g10,h11⟩:=h10.dS
 obtain ⟨x10,rfl⟩:=gi g10
 obtain ⟨r11,t11,rfl,g11,h12⟩:=eg.ny (a:=[.sl 3,aD]) (b:=[.bool]) h11
 obtain ⟨x11,rfl,s11⟩:=kQ _ g11
 obtain ⟨l12,t12,rfl,g12,h13⟩:=h12.dS
 obtain ⟨x12,rfl⟩:=zP g12
 obtain rfl:=h13.jA
 exact ⟨⟨x0,x1,x2,x3,x4,x5,x6,x7,x8,x9,x10,x11,x12⟩,rfl,⟨s8,s9,s11⟩⟩
def vn (r:List L)(h:eg Ev.cells [aD,aD] r):∃x:bn,bn.row x=r/\bn.Sm maxLen x:=by
 obtain ⟨l0,t0,rfl,g0,h1⟩:=h.dS
 obtain ⟨x0,rfl⟩:=gi g0
 obtain ⟨l1,t1,rfl,g1,h2⟩:=h1.dS
 obtain ⟨x1,rfl⟩:=gi g1
 obtain rfl:=h2.jA
 exact ⟨⟨x0,x1⟩,rfl,trivial⟩
def gK (r:List L)(h:eg Ev.cells [aD,aD,aD,aD,aD,aD,aD,aD,.sl 3,aD,.sl 3,aD,aD,.sl 3,aD,.bool,.sl 238] r):∃x:aa,aa.row x=r/\aa.Sm maxLen x:=by
 obtain ⟨r0,t0,rfl,g0,h1⟩:=eg.ny (a:=[aD,aD,aD,aD,aD,aD,aD,aD,.sl 3,aD,.sl 3,aD,aD,.sl 3,aD,.bool]) (b:=[.sl 238]) h
 obtain ⟨x0,rfl,s0⟩:=tK _ g0
 obtain ⟨l1,t1,rfl,g1,h2⟩:=h1.dS
 obtain ⟨x1,rfl,s1⟩:=gP (show Ev.cells 238=[aD,aD] from by kernel_rfl) vn g1
 obtain rfl:=h2.jA
 exact ⟨⟨x0,x1⟩,rfl,⟨s0,s1⟩⟩
def ug (r:List L)(h:eg Ev.cells [aD,aD,aD,aD,aD,aD,aD,aD,.sl 3,aD,.sl 3,aD,aD,.sl 3,aD,.bool,.sl 238,aD,aD,aD,aD,aD,aD,aD,aD,.sl 3,aD,.sl 3,aD,aD,.sl 3,aD,.bool,.sl 238,aD,aD,aD,aD,aD,aD,aD,aD,.sl 3,aD,.sl 3,aD,aD,.sl 3,aD,.bool,.sl 238] r):∃x:az,az.row x=r/\az.Sm maxLen x:=by
 obtain ⟨r0,t0,rfl,g0,h1⟩:=eg.ny (a:=[aD,aD,aD,aD,aD,aD,aD,aD,.sl 3,aD,.sl 3,aD,aD,.sl 3,aD,.bool,.sl 238]) (b:=[aD,aD,aD,aD,aD,aD,aD,aD,.sl 3,aD,.sl 3,aD,aD,.sl 3,aD,.bool,.sl 238,aD,aD,aD,aD,aD,aD,aD,aD,.sl 3,aD,.sl 3,aD,aD,.sl 3,aD,.bool,.sl 238]) h
 obtain ⟨x0,rfl,s0⟩:=gK _ g0
 obtain ⟨r1,t1,rfl,g1,h2⟩:=eg.ny (a:=[aD,aD,aD,aD,aD,aD,aD,aD,.sl 3,aD,.sl 3,aD,aD,.sl 3,aD,.bool,.sl 238]) (b:=[aD,aD,aD,aD,aD,aD,aD,aD,.sl 3,aD,.sl 3,aD,aD,.sl 3,aD,.bool,.sl 238]) h1
 obtain ⟨x1,rfl,s1⟩:=gK _ g1
 obtain ⟨r2,t2,rfl,g2,h3⟩:=eg.ny (a:=[aD,aD,aD,aD,aD,aD,aD,aD,.sl 3,aD,.sl 3,aD,aD,.sl 3,aD,.bool,.sl 238]) (b:=[]) h2
 obtain ⟨x2,rfl,s2⟩:=gK _ g2
 obtain rfl:=h3.jA
 exact ⟨⟨x0,x1,x2⟩,rfl,⟨s0,s1,s2⟩⟩
def uz (r:List L)(h:eg Ev.cells [.sl 122,.sl 132] r):∃x:aq,aq.row x=r/\aq.Sm maxLen x:=by
 obtain ⟨l0,t0,rfl,g0,h1⟩:=h.dS
 obtain ⟨x0,rfl,s0⟩:=gP (show Ev.cells 122=[.sl 130] from by kernel_rfl) (zc (show Ev.cells 130=[aD,aD,aD,aD,aD,aD,aD,aD,.sl 3,aD,.sl 3,aD,aD,.sl 3,aD,.bool,.sl 238] from by kernel_rfl) gK) g0
 obtain ⟨l1,t1,rfl,g1,h2⟩:=h1.dS
 obtain ⟨x1,rfl,s1⟩:=gP (show Ev.cells 132=[aD,aD,aD,aD,aD,aD,aD,aD,.sl 3,aD,.sl 3,aD,aD,.sl 3,aD,.bool,.sl 238,aD,aD,aD,aD,aD,aD,aD,aD,.sl 3,aD,.sl 3,aD,aD,.sl 3,aD,.bool,.sl 238,aD,aD,aD,aD,aD,aD,aD,aD,.sl 3,aD,.sl 3,aD,aD,.sl 3,aD,.bool,.sl 238] from by kernel_rfl) ug g1
 obtain rfl:=h2.jA
 exact ⟨⟨x0,x1⟩,rfl,⟨s0,s1⟩⟩
def sN (r:List L)(h:eg Ev.cells [.str,aD,aD,.sl 9] r):∃x:ah,ah.row x=r/\ah.Sm maxLen x:=by
 obtain ⟨l0,t0,rfl,g0,h1⟩:=h.dS
 obtain ⟨x0,rfl,s0⟩:=sU g0
 obtain ⟨l1,t1,rfl,g1,h2⟩:=h1.dS
 obtain ⟨x1,rfl⟩:=gi g1
 obtain ⟨l2,t2,rfl,g2,h3⟩:=h2.dS
 obtain ⟨x2,rfl⟩:=gi g2
 obtain ⟨l3,t3,rfl,g3,h4⟩:=h3.dS
 obtain ⟨x3,rfl,s3⟩:=gP (show Ev.cells 9=[.str] from by kernel_rfl) vZ g3
 obtain rfl:=h4.jA
 exact ⟨⟨x0,x1,x2,x3⟩,rfl,⟨s0,s3⟩⟩
def tL (r:List L)(h:eg Ev.cells [.sl 130,.sl 235] r):∃x:aK,aK.row x=r/\aK.Sm maxLen x:=by
 obtain ⟨l0,t0,rfl,g0,h1⟩:=h.dS
 obtain ⟨x0,rfl,s0⟩:=gP (show Ev.cells 130=[aD,aD,aD,aD,aD,aD,aD,aD,.sl 3,aD,.sl 3,aD,aD,.sl 3,aD,.bool,.sl 238] from by kernel_rfl) gK g0
 obtain ⟨l1,t1,rfl,g1,h2⟩:=h1.dS
 obtain ⟨x1,rfl,s1⟩:=gP (show Ev.cells 235=[.str,aD,aD,.sl 9] from by kernel_rfl) sN g1
 obtain rfl:=h2.jA
 exact ⟨⟨x0,x1⟩,rfl,⟨s0,s1⟩⟩
def tc (r:List L)(h:eg Ev.cells [.sl 183,aD] r):∃x:av,av.row x=r/\av.Sm maxLen x:=by
 obtain ⟨l0,t0,rfl,g0,h1⟩:=h.dS
 obtain ⟨x0,rfl,s0⟩:=gP (show Ev.cells 183=[.sl 130,.sl 235] from by kernel_rfl) tL g0
 obtain ⟨l1,t1,rfl,g1,h2⟩:=h1.dS
 obtain ⟨x1,rfl⟩:=gi g1
 obtain rfl:=h2.jA
 exact ⟨⟨x0,x1⟩,rfl,s0⟩
def vE (r:List L)(h:eg Ev.cells [.str,aD] r):∃x:bF,bF.row x=r/\bF.Sm maxLen x:=by
 obtain ⟨l0,t0,rfl,g0,h1⟩:=h.dS
 obtain ⟨x0,rfl,s0⟩:=sU g0
 obtain ⟨l1,t1,rfl,g1,h2⟩:=h1.dS
 obtain ⟨x1,rfl⟩:=gi g1
 obtain rfl:=h2.jA
 exact ⟨⟨x0,x1⟩,rfl,s0⟩
def holds (ls:List L)(h:eg Ev.cells ([25,26,65,9,28,3].flatMap Ev.cells) ls):aT.sem ls=some [.bool true]:=by
 have hk:[25,26,65,9,28,3].flatMap Ev.cells=[.sl 122,.sl 132,.sl 78,.sl 115,.str,.sl 9,aD]:=by kernel_rfl
 rw [hk] at h
 obtain ⟨r0,t0,rfl,g0,h1⟩:=eg.ny (a:=[.sl 122,.sl 132]) (b:=[.sl 78,.sl 115,.str,.sl 9,aD]) h
 obtain ⟨x0,rfl,s0⟩:=uz _ g0
 obtain ⟨l1,t1,rfl,g1,h2⟩:=h1.dS
 obtain ⟨x1,rfl,s1⟩:=gP (show Ev.cells 78=[.sl 183,aD] from by kernel_rfl) tc g1
 obtain ⟨l2,t2,rfl,g2,h3⟩:=h2.dS
 obtain ⟨x2,rfl,s2⟩:=gP (show Ev.cells 115=[.str,aD] from by kernel_rfl) vE g2
 obtain ⟨l3,t3,rfl,g3,h4⟩:=h3.dS
 obtain ⟨x3,rfl,s3⟩:=sU g3
 obtain ⟨l4,t4,rfl,g4,h5⟩:=h4.dS
 obtain ⟨x4,rfl,s4⟩:=gP (show Ev.cells 9=[.str] from by kernel_rfl) vZ g4
 obtain ⟨l5,t5,rfl,g5,h6⟩:=h5.dS
 obtain ⟨x5,rfl⟩:=gi g5
 obtain rfl:=h6.jA
 show (R ((aq.r x0),(x1.map av.row),(x2.map bF.row),x3,(x4.map cF),x5)).map RT.enc=_
 rw [aj ⟨s0,s1,s2,s3,s4⟩]
 rfl
end Z303
end Go.DM
end
