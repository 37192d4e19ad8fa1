/- What the functions compute that the law reaches, and that the law returns true. Conditions: none. -/
import Derived.Test.YtknikjmcpjaggaaGreatResolvePetTy
import Derived.Test.YtknikjmcpjaggaaGreatResolvePetFnC
import Derived.Test.YtknikjmcpjaggaaGreatProg
import Derived.Lib.AppendZerosOnto
import Derived.Lib.Bytealg
import Derived.Laws.Externs
import Derived.Lib.Walk
import Derived.Lib.Hide
import Derived.Lib.Strings
set_option linter.all false
set_option maxRecDepth 100000
noncomputable section
namespace Go.DM
open Go.Proofs
open Go.IntKind (i64)
open Int (toNat)
open Nat (le_trans zero_le)
namespace Z284
set_option maxHeartbeats 8000000
inductive Pt where
 | p0 (a b:Int) (c:aE)
def pid:Pt->Nat
 | .p0 ..=>2
def ck:Pt->List V
 | .p0 a b c=>[.own 0,.int .i64 a,.int .i64 b]
def cj:Pt->List aY
 | .p0 a b c=>[.row 280 c]
def step (J:Pt->aI):Pt->aI
 | .p0 a b c=>(cond (decide (b<(c.length:Int))) (m2 b (c.length:Int) (m2 b (c.length:Int) (cq (Nat.beq (toNat b) (toNat b)&&true) (m2 b (c.length:Int) (cq (Nat.beq (toNat b) (toNat b)&&true) (m2 b (c.length:Int) (cq (Nat.beq (toNat b) (toNat b)&&true) (m2 b (c.length:Int) (cq (Nat.beq (toNat b) (toNat b)&&true) (m2 b (c.length:Int) (cq (Nat.beq (toNat b) (toNat b)&&true) (m2 b (c.length:Int) (cq (Nat.beq (toNat b) (toNat b)&&true) (m2 b (c.length:Int) (cq (Nat.beq (toNat b) (toNat b)&&true) (m2 b (c.length:Int) (cq (Nat.beq (toNat b) (toNat b)&&true) (cq (Nat.beq (toNat b) (toNat b)&&true) (call (Z280.R ((bK.at c (toNat b)).aS.aq.bP.aX,(i64.wrap ((i64.wrap ((i64.wrap ((i64.wrap ((i64.wrap ((i64.wrap ((i64.wrap ((i64.wrap (a+1))+1))+1))+1))+1))+1))+1))+1)))) fun v1=>(m2 b (c.length:Int) (cq (Nat.beq (toNat b) (toNat b)&&true) (m2 b (c.length:Int) (cq (Nat.beq (toNat b) (toNat b)&&true) (cq (Nat.beq (toNat b) (toNat b)&&true) (call (Z280.R ((bK.at c (toNat b)).aS.aq.bD.aX,(i64.wrap (v1.1+1)))) fun v2=>(m2 b (c.length:Int) (cq (Nat.beq (toNat b) (toNat b)&&true) (m2 b (c.length:Int) (cq (Nat.beq (toNat b) (toNat b)&&true) (m2 b (c.length:Int) (cq (Nat.beq (toNat b) (toNat b)&&true) (cq (Nat.beq (toNat b) (toNat b)&&true) (call (Z280.R ((bK.at c (toNat b)).aS.aq.bA.aX,(i64.wrap ((i64.wrap (v2.1+1))+1)))) fun v3=>(m2 b (c.length:Int) (cq (Nat.beq (toNat b) (toNat b)&&true) (m2 b (c.length:Int) (cq (Nat.beq (toNat b) (toNat b)&&true) (m2 b (c.length:Int) (cq (Nat.beq (toNat b) (toNat b)&&true) (cq (Nat.beq (toNat b) (toNat b)&&true) (call (Z281.R ((bK.at c (toNat b)).aS.cu,(i64.wrap ((i64.wrap (v3.1+1))+1)))) fun v4=>(m2 b (c.length:Int) (cq (Nat.beq (toNat b) (toNat b)&&true) (m2 b (c.length:Int) (cq (Nat.beq (toNat b) (toNat b)&&true) (m2 b (c.length:Int) (cq (Nat.beq (toNat b) (toNat b)&&true) (m2 b (c.length:Int) (cq (Nat.beq (toNat b) (toNat b)&&true) (m2 b (c.length:Int) (cq (Nat.beq (toNat b) (toNat b)&&true) (m2 b (c.length:Int) (cq (Nat.beq (toNat b) (toNat b)&&true) (m2 b (c.length:Int) (cq (Nat.beq (toNat b) (toNat b)&&true) (m2 b (c.length:Int) (cq (Nat.beq (toNat b) (toNat b)&&true) (m2 b (c.length:Int) (cq (Nat.beq (toNat b) (toNat b)&&true) (cq (Nat.beq (toNat b) (toNat b)&&true) (call (Z280.R ((bK.at c (toNat b)).fA.aq.bP.aX,(i64.wrap ((i64.wrap ((i64.wrap ((i64.wrap ((i64.wrap ((i64.wrap ((i64.wrap ((i64.wrap (v4.1+1))+1))+1))+1))+1))+1))+1))+1)))) fun v5=>(m2 b (c.length:Int) (cq (Nat.beq (toNat b) (toNat b)&&true) (m2 b (c.length:Int) (cq (Nat.beq (toNat b) (toNat b)&&true) (cq (Nat.beq (toNat b) (toNat b)&&true) (call (Z280.R ((bK.at c (toNat b)).fA.aq.bD.aX,(i64.wrap (v5.1+1)))) fun v6=>(m2 b (c.length:Int) (cq (Nat.beq (toNat b) (toNat b)&&true) (m2 b (c.length:Int) (cq (Nat.beq (toNat b) (toNat b)&&true) (m2 b (c.length:Int) (cq (Nat.beq (toNat b) (toNat b)&&true) (cq (Nat.beq (toNat b) (toNat b)&&true) (call (Z280.R ((bK.at c (toNat b)).fA.aq.bA.aX,(i64.wrap ((i64.wrap (v6.1+1))+1)))) fun v7=>(m2 b (c.length:Int) (cq (Nat.beq (toNat b) (toNat b)&&true) (m2 b (c.length:Int) (cq (Nat.beq (toNat b) (toNat b)&&true) (m2 b (c.length:Int) (cq (Nat.beq (toNat b) (toNat b)&&true) (cq (Nat.beq (toNat b) (toNat b)&&true) (call (Z281.R ((bK.at c (toNat b)).fA.cu,(i64.wrap ((i64.wrap (v7.1+1))+1)))) fun v8=>(m2 b (c.length:Int) (cq (Nat.beq (toNat b) (toNat b)&&true) (m2 b (c.length:Int) (cq (Nat.beq (toNat b) (toNat b)&&true) (m2 b (c.length:Int) (cq (Nat.beq (toNat b) (toNat b)&&true) (m2 b (c.length:Int) (cq (Nat.beq (toNat b) (toNat b)&&true) (m2 b (c.length:Int) (cq (Nat.beq (toNat b) (toNat b)&&true) (m2 b (c.length:Int) (cq (Nat.beq (toNat b) (toNat b)&&true) (m2 b (c.length:Int) (cq (Nat.beq (toNat b) (toNat b)&&true) (m2 b (c.length:Int) (cq (Nat.beq (toNat b) (toNat b)&&true) (m2 b (c.length:Int) (cq (Nat.beq (toNat b) (toNat b)&&true) (cq (Nat.beq (toNat b) (toNat b)&&true) (call (Z280.R ((bK.at c (toNat b)).fB.aq.bP.aX,(i64.wrap ((i64.wrap ((i64.wrap ((i64.wrap ((i64.wrap ((i64.wrap ((i64.wrap ((i64.wrap (v8.1+1))+1))+1))+1))+1))+1))+1))+1)))) fun v9=>(m2 b (c.length:Int) (cq (Nat.beq (toNat b) (toNat b)&&true) (m2 b (c.length:Int) (cq (Nat.beq (toNat b) (toNat b)&&true) (cq (Nat.beq (toNat b) (toNat b)&&true) (call (Z280.R ((bK.at c (toNat b)).fB.aq.bD.aX,(i64.wrap (v9.1+1)))) fun v10=>(m2 b (c.length:Int) (cq (Nat.beq (toNat b) (toNat b)&&true) (m2 b (c.length:Int) (cq (Nat.beq (toNat b) (toNat b)&&true) (m2 b (c.length:Int) (cq (Nat.beq (toNat b) (toNat b)&&true) (cq (Nat.beq (toNat b) (toNat b)&&true) (call (Z280.R ((bK.at c (toNat b)).fB.aq.bA.aX,(i64.wrap ((i64.wrap (v10.1+1))+1)))) fun v11=>(m2 b (c.length:Int) (cq (Nat.beq (toNat b) (toNat b)&&true) (m2 b (c.length:Int) (cq (Nat.beq (toNat b) (toNat b)&&true) (m2 b (c.length:Int) (cq (Nat.beq (toNat b) (toNat b)&&true) (cq (Nat.beq (toNat b) (toNat b)&&true) (call (Z281.R ((bK.at c (toNat b)).fB.cu,(i64.wrap ((i64.wrap (v11.1+1))+1)))) fun v12=>J (.p0 v12.1 (i64.wrap (b+1)) (List.set c (toNat b) (bK.enc (⟨(⟨(⟨a,(i64.wrap (a+1)),(i64.wrap ((i64.wrap (a+1))+1)),(i64.wrap ((i64.wrap ((i64.wrap (a+1))+1))+1)),(i64.wrap ((i64.wrap ((i64.wrap ((i64.wrap (a+1))+1))+1))+1)),(i64.wrap ((i64.wrap ((i64.wrap ((i64.wrap ((i64.wrap (a+1))+1))+1))+1))+1)),(i64.wrap ((i64.wrap ((i64.wrap ((i64.wrap ((i64.wrap ((i64.wrap (a+1))+1))+1))+1))+1))+1)),(i64.wrap ((i64.wrap ((i64.wrap ((i64.wrap ((i64.wrap ((i64.wrap ((i64.wrap (a+1))+1))+1))+1))+1))+1))+1)),(⟨v1.2,v1.1⟩:bE),(⟨v2.2,v2.1⟩:bE),(i64.wrap (v2.1+1)),(⟨v3.2,v3.1⟩:bE),((Int.tmod (i64.wrap (v3.1+1)) 3)==0)⟩:cg),v4.2⟩:aT),(⟨(⟨v4.1,(i64.wrap (v4.1+1)),(i64.wrap ((i64.wrap (v4.1+1))+1)),(i64.wrap ((i64.wrap ((i64.wrap (v4.1+1))+1))+1)),(i64.wrap ((i64.wrap ((i64.wrap ((i64.wrap (v4.1+1))+1))+1))+1)),(i64.wrap ((i64.wrap ((i64.wrap ((i64.wrap ((i64.wrap (v4.1+1))+1))+1))+1))+1)),(i64.wrap ((i64.wrap ((i64.wrap ((i64.wrap ((i64.wrap ((i64.wrap (v4.1+1))+1))+1))+1))+1))+1)),(i64.wrap ((i64.wrap ((i64.wrap ((i64.wrap ((i64.wrap ((i64.wrap ((i64.wrap (v4.1+1))+1))+1))+1))+1))+1))+1)),(⟨v5.2,v5.1⟩:bE),(⟨v6.2,v6.1⟩:bE),(i64.wrap (v6.1+1)),(⟨v7.2,v7.1⟩:bE),((Int.tmod (i64.wrap (v7.1+1)) 3)==0)⟩:cg),v8.2⟩:aT),(⟨(⟨v8.1,(i64.wrap (v8.1+1)),(i64.wrap ((i64.wrap (v8.1+1))+1)),(i64.wrap ((i64.wrap ((i64.wrap (v8.1+1))+1))+1)),(i64.wrap ((i64.wrap ((i64.wrap ((i64.wrap (v8.1+1))+1))+1))+1)),(i64.wrap ((i64.wrap ((i64.wrap ((i64.wrap ((i64.wrap (v8.1+1))+1))+1))+1))+1)),(i64.wrap ((i64.wrap ((i64.wrap ((i64.wrap ((i64.wrap ((i64.wrap (v8.1+1))+1))+1))+1))+1))+1)),(i64.wrap ((i64.wrap ((i64.wrap ((i64.wrap ((i64.wrap ((i64.wrap ((i64.wrap (v8.1+1))+1))+1))+1))+1))+1))+1)),(⟨v9.2,v9.1⟩:bE),(⟨v10.2,v10.1⟩:bE),(i64.wrap (v10.1+1)),(⟨v11.2,v11.1⟩:bE),((Int.tmod (i64.wrap (v11.1+1)) 3)==0)⟩:cg),v12.2⟩:aT)⟩:bK))))))))))))))))))))))))))))))))))))))))))))))))))))))))))))))))))))))))))))))))))))))))))))))))))))))))))))))))))))))))))))))))) (ret ((a,c):Int×aE)))
def start (J:Pt->aI)(x0:aE)(x1:Int):aI:=J (.p0 x1 0 x0)
def live:Nat->Live:=fun i=>match i with | 2=>[(0,none),(1,none),(5,none)] | _=>[]
def pats:List (Bool×List K):=[(false,[.sl 280]),(false,[aB])]
def res:RP:=.nX [280]
abbrev E:Env:={ T:=assoc kG,G:=dD [],nt:=493,M:=fZ [(179,Z280.aW),(332,Z281.aW)],np:=1,mt:=true }
def step_eq (I:cI)(p:Pt):cY E live I (pid p) (bQ Tryz.f176) (fH (live (pid p)) (ck p) (cj p)) (cH E Tryz.f176 res)=step (fun q=>I (pid q) (ck q) (cj q)) p:=by
 cases p<;>kernel_rfl
def start_eq (I:cI)(ls:List L):eW E live I (bQ Tryz.f176) (gC pats ls) (cH E Tryz.f176 res)=start (fun q=>I (pid q) (ck q) (cj q)) (ls.headD .hole).aQ ((aA 1 ls).headD .hole).toInt:=by kernel_rfl
def run_eq (n:Nat)(ls:List L):eO E live Tryz.f176 res n (gC pats ls)=start (iter step n) (ls.headD .hole).aQ ((aA 1 ls).headD .hole).toInt:=cA (id:=pid) (vs:=ck) (hs:=cj) (step:=step) (start:=fun J=>start J (ls.headD .hole).aQ ((aA 1 ls).headD .hole).toInt) step_eq (fun I=>start_eq I ls) n
def e1 (x:aC)(k:Int):=Z280.md ((((x.aS).aq).bP).aX) (i64.wrap ((i64.wrap ((i64.wrap ((i64.wrap ((i64.wrap ((i64.wrap ((i64.wrap ((i64.wrap (k+1))+1))+1))+1))+1))+1))+1))+1))
def e2 (x:aC)(k:Int):=Z280.md ((((x.aS).aq).bD).aX) (i64.wrap ((e1 x k).1+1))
def e3 (x:aC)(k:Int):=Z280.md ((((x.aS).aq).bA).aX) (i64.wrap ((i64.wrap ((e2 x k).1+1))+1))
def e4 (x:aC)(k:Int):=Z281.md ((x.aS).cu) (i64.wrap ((i64.wrap ((e3 x k).1+1))+1))
def e5 (x:aC)(k:Int):=Z280.md ((((x.fA).aq).bP).aX) (i64.wrap ((i64.wrap ((i64.wrap ((i64.wrap ((i64.wrap ((i64.wrap ((i64.wrap ((i64.wrap ((e4 x k).1+1))+1))+1))+1))+1))+1))+1))+1))
def e6 (x:aC)(k:Int):=Z280.md ((((x.fA).aq).bD).aX) (i64.wrap ((e5 x k).1+1))
def e7 (x:aC)(k:Int):=Z280.md ((((x.fA).aq).bA).aX) (i64.wrap ((i64.wrap ((e6 x k).1+1))+1))
def e8 (x:aC)(k:Int):=Z281.md ((x.fA).cu) (i64.wrap ((i64.wrap ((e7 x k).1+1))+1))
def e9 (x:aC)(k:Int):=Z280.md ((((x.fB).aq).bP).aX) (i64.wrap ((i64.wrap ((i64.wrap ((i64.wrap ((i64.wrap ((i64.wrap ((i64.wrap ((i64.wrap ((e8 x k).1+1))+1))+1))+1))+1))+1))+1))+1))
def uR (x:aC)(k:Int):=Z280.md ((((x.fB).aq).bD).aX) (i64.wrap ((e9 x k).1+1))
def tY (x:aC)(k:Int):=Z280.md ((((x.fB).aq).bA).aX) (i64.wrap ((i64.wrap ((uR x k).1+1))+1))
def yt (x:aC)(k:Int):=Z281.md ((x.fB).cu) (i64.wrap ((i64.wrap ((tY x k).1+1))+1))
def el (x:aC)(k:Int):Int×aC:=((yt x k).1,(⟨(⟨(⟨k,(i64.wrap (k+1)),(i64.wrap ((i64.wrap (k+1))+1)),(i64.wrap ((i64.wrap ((i64.wrap (k+1))+1))+1)),(i64.wrap ((i64.wrap ((i64.wrap ((i64.wrap (k+1))+1))+1))+1)),(i64.wrap ((i64.wrap ((i64.wrap ((i64.wrap ((i64.wrap (k+1))+1))+1))+1))+1)),(i64.wrap ((i64.wrap ((i64.wrap ((i64.wrap ((i64.wrap ((i64.wrap (k+1))+1))+1))+1))+1))+1)),(i64.wrap ((i64.wrap ((i64.wrap ((i64.wrap ((i64.wrap ((i64.wrap ((i64.wrap (k+1))+1))+1))+1))+1))+1))+1)),(⟨(e1 x k).2,(e1 x k).1⟩:aM),(⟨(e2 x k).2,(e2 x k).1⟩:aM),(i64.wrap ((e2 x k).1+1)),(⟨(e3 x k).2,(e3 x k).1⟩:aM),((Int.tmod (i64.wrap ((e3 x k).1+1)) 3)==0)⟩:aG),(e4 x k).2⟩:aa),(⟨(⟨(e4 x k).1,(i64.wrap ((e4 x k).1+1)),(i64.wrap ((i64.wrap ((e4 x k).1+1))+1)),(i64.wrap ((i64.wrap ((i64.wrap ((e4 x k).1+1))+1))+1)),(i64.wrap ((i64.wrap ((i64.wrap ((i64.wrap ((e4 x k).1+1))+1))+1))+1)),(i64.wrap ((i64.wrap ((i64.wrap ((i64.wrap ((i64.wrap ((e4 x k).1+1))+1))+1))+1))+1)),(i64.wrap ((i64.wrap ((i64.wrap ((i64.wrap ((i64.wrap ((i64.wrap ((e4 x k).1+1))+1))+1))+1))+1))+1)),(i64.wrap ((i64.wrap ((i64.wrap ((i64.wrap ((i64.wrap ((i64.wrap ((i64.wrap ((e4 x k).1+1))+1))+1))+1))+1))+1))+1)),(⟨(e5 x k).2,(e5 x k).1⟩:aM),(⟨(e6 x k).2,(e6 x k).1⟩:aM),(i64.wrap ((e6 x k).1+1)),(⟨(e7 x k).2,(e7 x k).1⟩:aM),((Int.tmod (i64.wrap ((e7 x k).1+1)) 3)==0)⟩:aG),(e8 x k).2⟩:aa),(⟨(⟨(e8 x k).1,(i64.wrap ((e8 x k).1+1)),(i64.wrap ((i64.wrap ((e8 x k).1+1))+1)),(i64.wrap ((i64.wrap ((i64.wrap ((e8 x k).1+1))+1))+1)),(i64.wrap ((i64.wrap ((i64.wrap ((i64.wrap ((e8 x k).1+1))+1))+1))+1)),(i64.wrap ((i64.wrap ((i64.wrap ((i64.wrap ((i64.wrap ((e8 x k).1+1))+1))+1))+1))+1)),(i64.wrap ((i64.wrap ((i64.wrap ((i64.wrap ((i64.wrap ((i64.wrap ((e8 x k).1+1))+1))+1))+1))+1))+1)),(i64.wrap ((i64.wrap ((i64.wrap ((i64.wrap ((i64.wrap ((i64.wrap ((i64.wrap ((e8 x k).1+1))+1))+1))+1))+1))+1))+1)),(⟨(e9 x k).2,(e9 x k).1⟩:aM),(⟨(uR x k).2,(uR x k).1⟩:aM),(i64.wrap ((uR x k).1+1)),(⟨(tY x k).2,(tY x k).1⟩:aM),((Int.tmod (i64.wrap ((tY x k).1+1)) 3)==0)⟩:aG),(yt x k).2⟩:aa)⟩:aC))
def iA (x:aC)(k:Int)(hk:eJ k):eJ (el x k).1:=(Z281.iq (cD _))
def cnt (x:aC):Nat:=39+Z280.sum ((((x.aS).aq).bP).aX)+Z280.sum ((((x.aS).aq).bD).aX)+Z280.sum ((((x.aS).aq).bA).aX)+Z281.sum ((x.aS).cu)+Z280.sum ((((x.fA).aq).bP).aX)+Z280.sum ((((x.fA).aq).bD).aX)+Z280.sum ((((x.fA).aq).bA).aX)+Z281.sum ((x.fA).cu)+Z280.sum ((((x.fB).aq).bP).aX)+Z280.sum ((((x.fB).aq).bD).aX)+Z280.sum ((((x.fB).aq).bA).aX)+Z281.sum ((x.fB).cu)
def sum (a:List aC):Nat:=(a.map cnt).sum
def md (a0:List aC)(a1:Int):Int×List aC:=jl el a0 a1
def gd (a0:List aC)(a1:Int):Prop:=eJ a1
def acc (ls:List L):aE×Int:=((ls.headD .hole).aQ,((aA 1 ls).headD .hole).toInt)
def R:(aE×Int)->Option (Int×aE):=RR (p2 gd) (u2 md)
def aj {a0 a1}(h:gd a0 a1):R ((a0.map aC.row),a1)=some ((md a0 a1).1,((md a0 a1).2.map aC.row)):=aP (a:=(a0,a1)) h
def aW:gK:=MN pats acc R
def bt (a0:List aC)(a1:Int)(hg:gd a0 a1)(h0:a0.length<=maxLen):∃n,start (iter step n) (a0.map aC.row) a1=ret (((md a0 a1).1,((md a0 a1).2.map aC.row)):Int×aE):=by
 unfold gd at hg
 show ∃n,iter step n (Pt.p0 a1 0 (a0.map aC.row))=_
 unfold md
 refine gq (el:=el) (xs:=a0) aC.zero eJ iA (pt:=fun i k c=>Pt.p0 k (i:Int) (c.map aC.row)) (out:=fun b=>ret (b.1,b.2.map aC.row)) (fun J i k c hi hc hk=>?_) (fun J k c hc=>?_) hg
 ·have hm:c.length<=maxLen:=hc ▸ h0
  simp only [step,SS]
  refine ak (aO hi) ?_
  repeat first | refine ak aJ ?_ | refine ak (aO hi) ?_ | refine ak (gS _) ?_
  refine bg ((e1 (c.getD i aC.zero) k).1,((e1 (c.getD i aC.zero) k).2.map bk)) (Z280.aj (a0:=((((c.getD i aC.zero).aS).aq).bP).aX) (a1:=i64.wrap ((i64.wrap ((i64.wrap ((i64.wrap ((i64.wrap ((i64.wrap ((i64.wrap ((i64.wrap (k+1))+1))+1))+1))+1))+1))+1))+1)) (cD _)) ?_
  repeat first | refine ak aJ ?_ | refine ak (aO hi) ?_ | refine ak (gS _) ?_
  refine bg ((e2 (c.getD i aC.zero) k).1,((e2 (c.getD i aC.zero) k).2.map bk)) (Z280.aj (a0:=((((c.getD i aC.zero).aS).aq).bD).aX) (a1:=i64.wrap ((e1 (c.getD i aC.zero) k).1+1)) (cD _)) ?_
  repeat first | refine ak aJ ?_ | refine ak (aO hi) ?_ | refine ak (gS _) ?_
  refine bg ((e3 (c.getD i aC.zero) k).1,((e3 (c.getD i aC.zero) k).2.map bk)) (Z280.aj (a0:=((((c.getD i aC.zero).aS).aq).bA).aX) (a1:=i64.wrap ((i64.wrap ((e2 (c.getD i aC.zero) k).1+1))+1)) (cD _)) ?_
  repeat first | refine ak aJ ?_ | refine ak (aO hi) ?_ | refine ak (gS _) ?_
  refine bg ((e4 (c.getD i aC.zero) k).1,((e4 (c.getD i aC.zero) k).2.map bp.row)) (Z281.aj (a0:=((c.getD i aC.zero).aS).cu) (a1:=i64.wrap ((i64.wrap ((e3 (c.getD i aC.zero) k).1+1))+1)) (cD _)) ?_
  repeat first | refine ak aJ ?_ | refine ak (aO hi) ?_ | refine ak (gS _) ?_
  refine bg ((e5 (c.getD i aC.zero) k).1,((e5 (c.getD i aC.zero) k).2.map bk)) (Z280.aj (a0:=((((c.getD i aC.zero).fA).aq).bP).aX) (a1:=i64.wrap ((i64.wrap ((i64.wrap ((i64.wrap ((i64.wrap ((i64.wrap ((i64.wrap ((i64.wrap ((e4 (c.getD i aC.zero) k).1+1))+1))+1))+1))+1))+1))+1))+1)) (cD _)) ?_
  repeat first | refine ak aJ ?_ | refine ak (aO hi) ?_ | refine ak (gS _) ?_
  refine bg ((e6 (c.getD i aC.zero) k).1,((e6 (c.getD i aC.zero) k).2.map bk)) (Z280.aj (a0:=((((c.getD i aC.zero).fA).aq).bD).aX) (a1:=i64.wrap ((e5 (c.getD i aC.zero) k).1+1)) (cD _)) ?_
  repeat first | refine ak aJ ?_ | refine ak (aO hi) ?_ | refine ak (gS _) ?_
  refine bg ((e7 (c.getD i aC.zero) k).1,((e7 (c.getD i aC.zero) k).2.map bk)) (Z280.aj (a0:=((((c.getD i aC.zero).fA).aq).bA).aX) (a1:=i64.wrap ((i64.wrap ((e6 (c.getD i aC.zero) k).1+1))+1)) (cD _)) ?_
  repeat first | refine ak aJ ?_ | refine ak (aO hi) ?_ | refine ak (gS _) ?_
  refine bg ((e8 (c.getD i aC.zero) k).1,((e8 (c.getD i aC.zero) k).2.map bp.row)) (Z281.aj (a0:=((c.getD i aC.zero).fA).cu) (a1:=i64.wrap ((i64.wrap ((e7 (c.getD i aC.zero) k).1+1))+1)) (cD _)) ?_
  repeat first | refine ak aJ ?_ | refine ak (aO hi) ?_ | refine ak (gS _) ?_
  refine bg ((e9 (c.getD i aC.zero) k).1,((e9 (c.getD i aC.zero) k).2.map bk)) (Z280.aj (a0:=((((c.getD i aC.zero).fB).aq).bP).aX) (a1:=i64.wrap ((i64.wrap ((i64.wrap ((i64.wrap ((i64.wrap ((i64.wrap ((i64.wrap ((i64.wrap ((e8 (c.getD i aC.zero) k).1+1))+1))+1))+1))+1))+1))+1))+1)) (cD _)) ?_
  repeat first | refine ak aJ ?_ | refine ak (aO hi) ?_ | refine ak (gS _) ?_
  refine bg ((uR (c.getD i aC.zero) k).1,((uR (c.getD i aC.zero) k).2.map bk)) (Z280.aj (a0:=((((c.getD i aC.zero).fB).aq).bD).aX) (a1:=i64.wrap ((e9 (c.getD i aC.zero) k).1+1)) (cD _)) ?_
  repeat first | refine ak aJ ?_ | refine ak (aO hi) ?_ | refine ak (gS _) ?_
  refine bg ((tY (c.getD i aC.zero) k).1,((tY (c.getD i aC.zero) k).2.map bk)) (Z280.aj (a0:=((((c.getD i aC.zero).fB).aq).bA).aX) (a1:=i64.wrap ((i64.wrap ((uR (c.getD i aC.zero) k).1+1))+1)) (cD _)) ?_
  repeat first | refine ak aJ ?_ | refine ak (aO hi) ?_ | refine ak (gS _) ?_
  refine bg ((yt (c.getD i aC.zero) k).1,((yt (c.getD i aC.zero) k).2.map bp.row)) (Z281.aj (a0:=((c.getD i aC.zero).fB).cu) (a1:=i64.wrap ((i64.wrap ((tY (c.getD i aC.zero) k).1+1))+1)) (cD _)) ?_
  rw [aH hi hm]
  exact congrArg (fun q=>J (Pt.p0 (el (c.getD i aC.zero) k).1 ((i+1:Nat):Int) q)) (List.map_set (f:=aC.row) (l:=c) (i:=i) (a:=(el (c.getD i aC.zero) k).2)).symm
 ·simp only [step,SS]
  refine cT (by apply decide_eq_false;omega) ?_
  rfl
def af:eY Tryz.prog Ev 176 aW:=MV (run:=fun n x=>start (iter step n) x.1 x.2) mix aF .nil (.cons Z280.af (.cons Z281.af .nil)) Tryz.func176 (by kernel_rfl) run_eq (fun ls a hl e hg=>bt a.1 a.2 hg (by have h:(ls.headD .hole).aQ.length<=maxLen:=(hl _ _ (.head _)).len;have e:a.1.map aC.row=(ls.headD .hole).aQ:=(congrArg (fun x=>x.1) e.symm);rw [<-e] at h;simpa using h))
def iq {a0:List aC}{a1:Int}(h:eJ a1):eJ (md a0 a1).1:=jG iA h
def pQ (x:aC)(k:Int)(h0:0<=k)(hb:k+(cnt x:Int)<=4611686018427387904):(el x k).1=k+cnt x:=by
 simp only [cnt,Int.natCast_add] at hb ⊢
 simp (disch:=omega) only [el,e1,e2,e3,e4,e5,e6,e7,e8,e9,uR,tY,yt,wi,Z280.kk,Z281.kk]
 all_goals first | done | omega
def kk (a0:List aC)(a1:Int)(h0:0<=a1)(hb:a1+(sum a0:Int)<=4611686018427387904):(md a0 a1).1=a1+sum a0:=gE pQ a0 a1 h0 hb
def sz (a:List aC):sum a<=60*(dU (fun y:aC=>aC.size y) a):=jH (fun x=>by
 have:=Z280.sz ((((x.aS).aq).bP).aX)
 have:=Z280.sz ((((x.aS).aq).bD).aX)
 have:=Z280.sz ((((x.aS).aq).bA).aX)
 have:=Z281.sz ((x.aS).cu)
 have:=Z280.sz ((((x.fA).aq).bP).aX)
 have:=Z280.sz ((((x.fA).aq).bD).aX)
 have:=Z280.sz ((((x.fA).aq).bA).aX)
 have:=Z281.sz ((x.fA).cu)
 have:=Z280.sz ((((x.fB).aq).bP).aX)
 have:=Z280.sz ((((x.fB).aq).bD).aX)
 have:=Z280.sz ((((x.fB).aq).bA).aX)
 have:=Z281.sz ((x.fB).cu)
 try simp only [cnt,aC.size,aa.size,aG.size,aM.size] at *
 omega) a
end Z284
namespace Z285
set_option maxHeartbeats 8000000
def F (x0:bw)(x1:Int):aI:=(call (Z283.R (x0.aK,x1)) fun v1=>(call (Z284.R (x0.bn,v1.1)) fun v2=>ret ((v2.1,v1.2,v2.2):Int×aE×aE)))
def pats:List (Bool×List K):=[(true,[.sl 92,.sl 280]),(false,[aB])]
def res:RP:=.nX [92,280]
def e1 (x:au)(k:Int):=Z283.md x.aK k
def e2 (x:au)(k:Int):=Z284.md x.bn ((e1 x k).1)
def sum (x:au):Nat:=0+Z283.sum x.aK+Z284.sum x.bn
def md (a0:au)(a1:Int):Int×List (List aa)×List aC:=((e2 a0 a1).1,(e1 a0 a1).2,(e2 a0 a1).2)
def gd (a0:au)(a1:Int):Prop:=eJ a1
def acc (ls:List L):bw×Int:=((bw.dec ls),((aA 2 ls).headD .hole).toInt)
def R:(bw×Int)->Option (Int×aE×aE):=RR (p2 gd) (u2 md)
def aj {a0 a1}(h:gd a0 a1):R ((au.r a0),a1)=some ((md a0 a1).1,((md a0 a1).2.1.map (dO aa.row)),((md a0 a1).2.2.map aC.row)):=aP (a:=(a0,a1)) h
def aW:gK:=MN pats acc R
def bt (a0:au)(a1:Int)(hg:gd a0 a1):F (au.r a0) a1=ret (((md a0 a1).1,((md a0 a1).2.1.map (dO aa.row)),((md a0 a1).2.2.map aC.row)):Int×aE×aE):=by
 unfold gd at hg
 simp only [F,SS]
 unfold md
 refine bg ((e1 a0 a1).1,((e1 a0 a1).2.map (dO aa.row))) (Z283.aj (a0:=a0.aK) (a1:=a1) hg) ?_
 refine bg ((e2 a0 a1).1,((e2 a0 a1).2.map aC.row)) (Z284.aj (a0:=a0.bn) (a1:=(e1 a0 a1).1) (Z283.iq hg)) ?_
 first | rfl | (simp only [SS];rfl)
def af:eY Tryz.prog Ev 36 aW:=MV (live:=fun _=>[]) (nt:=14) (run:=fun _ x=>F x.1 x.2) mix aF .nil (.cons Z283.af (.cons Z284.af .nil)) Tryz.func36 (by kernel_rfl) (fun _ _=>by kernel_rfl) (fun _ a _ _ hg=>⟨0,bt a.1 a.2 hg⟩)
def iq {a0:au}{a1:Int}(hk:eJ a1):eJ (md a0 a1).1:=(Z284.iq (Z283.iq hk))
def kk (x:au)(k:Int)(h0:0<=k)(hb:k+(sum x:Int)<=4611686018427387904):(md x k).1=k+sum x:=by
 simp only [sum,Int.natCast_add] at hb ⊢
 simp (disch:=omega) only [md,e1,e2,wi,Z283.kk,Z284.kk]
 all_goals first | done | omega
def sz (x:au):sum x<=60*au.size x:=by
 have:=Z283.sz x.aK
 have:=Z284.sz x.bn
 try simp only [sum,au.size] at *
 omega
def upd (x:au)(k:Int):au:=(⟨(md x k).2.1,(md x k).2.2⟩:au)
end Z285
namespace Z286
inductive Pt where
 | p0 (a:Int) (b:aD)
def pid:Pt->Nat
 | .p0 ..=>4
def ck:Pt->List V
 | .p0 a b=>[.int .i64 a,.str b]
def cj:Pt->List aY
 | .p0 a b=>[]
def step (J:Pt->aI):Pt->aI
 | .p0 a b=>(cond (decide (a>0)) (cond (decide ((((uu [[L.int (IntKind.u8.wrap (i64.wrap (48+(Int.tmod a 10))))]]).size+b.size:Nat):Int)>9223372036854775807)) none (J (.p0 (i64.wrap (Int.tdiv a 10)) ((uu [[L.int (IntKind.u8.wrap (i64.wrap (48+(Int.tmod a 10))))]])++b)))) (cond (decide ((((⟨#[109]⟩:aD).size+b.size:Nat):Int)>9223372036854775807)) none (ret (((⟨#[109]⟩:aD)++b):aD))))
def start (J:Pt->aI)(x0:Int):aI:=(cond (decide (x0<=0)) (ret ((⟨#[109,48]⟩:aD):aD)) (J (.p0 x0 ⟨#[]⟩)))
def live:Nat->Live:=fun i=>match i with | 4=>[(0,none),(3,none)] | _=>[]
def dg (a:Int):aD:=uu [[L.int (IntKind.u8.wrap (i64.wrap (48+(Int.tmod a 10))))]]
def txt:Nat->Int->aD->aD
 | 0,_,b=>b
 | n+1,a,b=>bif decide (a>0) then txt n (i64.wrap (Int.tdiv a 10)) (dg a++b) else b
def zQ (a:Int):(uu [[L.int (IntKind.u8.wrap (i64.wrap (48+(Int.tmod a 10))))]]).size=1:=rfl
def run:∀(n:Nat) (a:Int) (b:aD),n<=64->a<2^n->eJ a->b.size+n<=1000->∃m,iter step m (.p0 a b)=ret ((⟨#[109]⟩:aD)++txt n a b)
 | 0,a,b,_,h1,_,h3=>by
  refine ⟨1,?_⟩
  show step _ (.p0 a b)=_
  have e1:decide (a>0)=false:=decide_eq_false (by simp at h1;omega)
  have e2:decide ((((⟨#[109]⟩:aD).size+b.size:Nat):Int)>9223372036854775807)=false:=decide_eq_false (by have :(⟨#[109]⟩:aD).size=1:=rfl;omega)
  simp only [step,e1,e2,bq]
  rfl
 | n+1,a,b,hn,h1,h2,h3=>by
  by_cases hp:a>0
  ·have e1:decide (a>0)=true:=decide_eq_true hp
   have hq:Int.tdiv a 10=a / 10:=Int.tdiv_eq_ediv_of_nonneg (by omega)
   unfold eJ at h2
   have hw:i64.wrap (Int.tdiv a 10)=a / 10:=by rw [hq];exact wi _ (by omega)
   have hlt:a / 10<2^n:=by
    have :(2:Int)^(n+1)=2^n*2:=Int.pow_succ 2 n
    omega
   have hs:(dg a++b).size=1+b.size:=by rw [ByteArray.size_append];rfl
   obtain ⟨m,hm⟩:=run n (a / 10) (dg a++b) (by omega) hlt ⟨by omega,by omega⟩ (by rw [hs];omega)
   refine ⟨m+1,?_⟩
   show step _ (.p0 a b)=_
   have e2:decide ((((uu [[L.int (IntKind.u8.wrap (i64.wrap (48+(Int.tmod a 10))))]]).size+b.size:Nat):Int)>9223372036854775807)=false:=decide_eq_false (by rw [zQ];omega)
   simp only [step,txt,e1,e2,bh,bq,hw]
   exact hm
  ·refine ⟨1,?_⟩
   show step _ (.p0 a b)=_
   have e1:decide (a>0)=false:=decide_eq_false hp
   have e2:decide ((((⟨#[109]⟩:aD).size+b.size:Nat):Int)>9223372036854775807)=false:=decide_eq_false (by have :(⟨#[109]⟩:aD).size=1:=rfl;omega)
   simp only [step,txt,e1,e2,bq]
def md (a0:Int):aD:=(cond (decide (a0<=0)) (⟨#[109,48]⟩:aD) ((⟨#[109]⟩:aD)++txt 64 a0 ⟨#[]⟩))
def gd (a0:Int):Prop:=eJ a0
def R:=RR gd md
def aj {a0}(h:gd a0):R a0=some (md a0):=aP (a:=a0) h
def aW:=CN [pI] oS RT.dec R
def bt (a0)(hg:gd a0):∃n,start (iter step n) a0=ret (md a0):=by
 unfold gd at hg
 unfold start md
 cases h:decide (a0<=0)
 ·have h2:=hg.2
  have h3:(2:Int)^64=18446744073709551616:=by decide
  obtain ⟨m,hm⟩:=run 64 a0 ⟨#[]⟩ (Nat.le_refl _) (by rw [h3];omega) hg (by show 0+64<=1000;omega)
  exact ⟨m,hm⟩
 ·exact ⟨0,rfl⟩
def af:cz 178 aW:=L1 20 pid ck cj live step start mix aF bt .nil Tryz.func178
end Z286
namespace Z287
set_option maxHeartbeats 8000000
inductive Pt where
 | p0 (a b:Int) (c:aE)
def pid:Pt->Nat
 | .p0 ..=>2
def ck:Pt->List V
 | .p0 a b c=>[.own 0,.int .i64 a,.int .i64 b]
def cj:Pt->List aY
 | .p0 a b c=>[.row 9 c]
def step (J:Pt->aI):Pt->aI
 | .p0 a b c=>(cond (decide (b<(c.length:Int))) (call (Z286.R a) fun v1=>(m2 b (c.length:Int) (J (.p0 (i64.wrap (a+1)) (i64.wrap (b+1)) (List.set c (toNat b) [L.str v1]))))) (ret ((a,c):Int×aE)))
def start (J:Pt->aI)(x0:aE)(x1:Int):aI:=J (.p0 x1 0 x0)
def live:Nat->Live:=fun i=>match i with | 2=>[(0,none),(1,none),(5,none)] | _=>[]
def pats:List (Bool×List K):=[(false,[.sl 9]),(false,[aB])]
def res:RP:=.nX [9]
abbrev E:Env:={ T:=assoc kG,G:=dD [(178,Z286.aW)],nt:=20,M:=fZ [],np:=1,mt:=true }
def step_eq (I:cI)(p:Pt):cY E live I (pid p) (bQ Tryz.f39) (fH (live (pid p)) (ck p) (cj p)) (cH E Tryz.f39 res)=step (fun q=>I (pid q) (ck q) (cj q)) p:=by
 cases p<;>kernel_rfl
def start_eq (I:cI)(ls:List L):eW E live I (bQ Tryz.f39) (gC pats ls) (cH E Tryz.f39 res)=start (fun q=>I (pid q) (ck q) (cj q)) (ls.headD .hole).aQ ((aA 1 ls).headD .hole).toInt:=by kernel_rfl
def run_eq (n:Nat)(ls:List L):eO E live Tryz.f39 res n (gC pats ls)=start (iter step n) (ls.headD .hole).aQ ((aA 1 ls).headD .hole).toInt:=cA (id:=pid) (vs:=ck) (hs:=cj) (step:=step) (start:=fun J=>start J (ls.headD .hole).aQ ((aA 1 ls).headD .hole).toInt) step_eq (fun I=>start_eq I ls) n
def el (x:aD)(k:Int):Int×aD:=((i64.wrap (k+1)),(Z286.md k))
def iA (x:aD)(k:Int)(hk:eJ k):eJ (el x k).1:=(cD _)
def cnt (x:aD):Nat:=1
def sum (a:List aD):Nat:=(a.map cnt).sum
def md (a0:List aD)(a1:Int):Int×List aD:=jl el a0 a1
def gd (a0:List aD)(a1:Int):Prop:=eJ a1
def acc (ls:List L):aE×Int:=((ls.headD .hole).aQ,((aA 1 ls).headD .hole).toInt)
def R:(aE×Int)->Option (Int×aE):=RR (p2 gd) (u2 md)
def aj {a0 a1}(h:gd a0 a1):R ((a0.map cG),a1)=some ((md a0 a1).1,((md a0 a1).2.map cG)):=aP (a:=(a0,a1)) h
def aW:gK:=MN pats acc R
def bt (a0:List aD)(a1:Int)(hg:gd a0 a1)(h0:a0.length<=maxLen):∃n,start (iter step n) (a0.map cG) a1=ret (((md a0 a1).1,((md a0 a1).2.map cG)):Int×aE):=by
 unfold gd at hg
 show ∃n,iter step n (Pt.p0 a1 0 (a0.map cG))=_
 unfold md
 refine gq (el:=el) (xs:=a0) ⟨#[]⟩ eJ iA (pt:=fun i k c=>Pt.p0 k (i:Int) (c.map cG)) (out:=fun b=>ret (b.1,b.2.map cG)) (fun J i k c hi hc hk=>?_) (fun J k c hc=>?_) hg
 ·have hm:c.length<=maxLen:=hc ▸ h0
  simp only [step,SS]
  refine ak (aO hi) ?_
  refine bg (Z286.md k) (Z286.aj (a0:=k) hk) ?_
  refine ak aJ ?_
  refine ak (aO hi) ?_
  rw [aH hi hm]
  exact congrArg (fun q=>J (Pt.p0 (el (c.getD i ⟨#[]⟩) k).1 ((i+1:Nat):Int) q)) (List.map_set (f:=cG) (l:=c) (i:=i) (a:=(el (c.getD i ⟨#[]⟩) k).2)).symm
 ·simp only [step,SS]
  refine cT (by apply decide_eq_false;omega) ?_
  rfl
def af:eY Tryz.prog Ev 39 aW:=MV (run:=fun n x=>start (iter step n) x.1 x.2) mix aF (.cons Z286.af .nil) .nil Tryz.func39 (by kernel_rfl) run_eq (fun ls a hl e hg=>bt a.1 a.2 hg (by have h:(ls.headD .hole).aQ.length<=maxLen:=(hl _ _ (.head _)).len;have e:a.1.map cG=(ls.headD .hole).aQ:=(congrArg (fun x=>x.1) e.symm);rw [<-e] at h;simpa using h))
def iq {a0:List aD}{a1:Int}(h:eJ a1):eJ (md a0 a1).1:=jG iA h
def pQ (x:aD)(k:Int)(h0:0<=k)(hb:k+(cnt x:Int)<=4611686018427387904):(el x k).1=k+cnt x:=by
 simp only [cnt,Int.natCast_add] at hb ⊢
 simp (disch:=omega) only [el,wi]
 all_goals first | done | omega
def kk (a0:List aD)(a1:Int)(h0:0<=a1)(hb:a1+(sum a0:Int)<=4611686018427387904):(md a0 a1).1=a1+sum a0:=gE pQ a0 a1 h0 hb
def sz (a:List aD):sum a<=60*(dU (fun y:aD=>y.size) a):=jH (fun x=>by
 try simp only [cnt] at *
 omega) a
end Z287
namespace Z288
set_option maxHeartbeats 8000000
inductive Pt where
 | p0 (a b:Int) (c:aE)
def pid:Pt->Nat
 | .p0 ..=>2
def ck:Pt->List V
 | .p0 a b c=>[.own 0,.int .i64 a,.int .i64 b]
def cj:Pt->List aY
 | .p0 a b c=>[.row 61 c]
def step (J:Pt->aI):Pt->aI
 | .p0 a b c=>(cond (decide (b<(c.length:Int))) (call (Z286.R a) fun v1=>(m2 b (c.length:Int) (m2 b (c.length:Int) (cq (Nat.beq (toNat b) (toNat b)&&true) (m2 b (c.length:Int) (cq (Nat.beq (toNat b) (toNat b)&&true) (m2 b (c.length:Int) (cq (Nat.beq (toNat b) (toNat b)&&true) (cq (Nat.beq (toNat b) (toNat b)&&true) (call (Z287.R ((aV.at c (toNat b)).bH,(i64.wrap ((i64.wrap ((i64.wrap (a+1))+1))+1)))) fun v2=>J (.p0 v2.1 (i64.wrap (b+1)) (List.set c (toNat b) (aV.enc (⟨v1,(i64.wrap (a+1)),(i64.wrap ((i64.wrap (a+1))+1)),v2.2⟩:aV)))))))))))))) (ret ((a,c):Int×aE)))
def start (J:Pt->aI)(x0:aE)(x1:Int):aI:=J (.p0 x1 0 x0)
def live:Nat->Live:=fun i=>match i with | 2=>[(0,none),(1,none),(5,none)] | _=>[]
def pats:List (Bool×List K):=[(false,[.sl 61]),(false,[aB])]
def res:RP:=.nX [61]
abbrev E:Env:={ T:=assoc kG,G:=dD [(178,Z286.aW)],nt:=42,M:=fZ [(39,Z287.aW)],np:=1,mt:=true }
def step_eq (I:cI)(p:Pt):cY E live I (pid p) (bQ Tryz.f333) (fH (live (pid p)) (ck p) (cj p)) (cH E Tryz.f333 res)=step (fun q=>I (pid q) (ck q) (cj q)) p:=by
 cases p<;>kernel_rfl
def start_eq (I:cI)(ls:List L):eW E live I (bQ Tryz.f333) (gC pats ls) (cH E Tryz.f333 res)=start (fun q=>I (pid q) (ck q) (cj q)) (ls.headD .hole).aQ ((aA 1 ls).headD .hole).toInt:=by kernel_rfl
def run_eq (n:Nat)(ls:List L):eO E live Tryz.f333 res n (gC pats ls)=start (iter step n) (ls.headD .hole).aQ ((aA 1 ls).headD .hole).toInt:=cA (id:=pid) (vs:=ck) (hs:=cj) (step:=step) (start:=fun J=>start J (ls.headD .hole).aQ ((aA 1 ls).headD .hole).toInt) step_eq (fun I=>start_eq I ls) n
def e1 (x:ah)(k:Int):=Z287.md x.bH (i64.wrap ((i64.wrap ((i64.wrap (k+1))+1))+1))
def el (x:ah)(k:Int):Int×ah:=((e1 x k).1,(⟨(Z286.md k),(i64.wrap (k+1)),(i64.wrap ((i64.wrap (k+1))+1)),(e1 x k).2⟩:ah))
def iA (x:ah)(k:Int)(hk:eJ k):eJ (el x k).1:=(Z287.iq (cD _))
def cnt (x:ah):Nat:=3+Z287.sum x.bH
def sum (a:List ah):Nat:=(a.map cnt).sum
def md (a0:List ah)(a1:Int):Int×List ah:=jl el a0 a1
def gd (a0:List ah)(a1:Int):Prop:=eJ a1
def acc (ls:List L):aE×Int:=((ls.headD .hole).aQ,((aA 1 ls).headD .hole).toInt)
def R:(aE×Int)->Option (Int×aE):=RR (p2 gd) (u2 md)
def aj {a0 a1}(h:gd a0 a1):R ((a0.map ah.row),a1)=some ((md a0 a1).1,((md a0 a1).2.map ah.row)):=aP (a:=(a0,a1)) h
def aW:gK:=MN pats acc R
def bt (a0:List ah)(a1:Int)(hg:gd a0 a1)(h0:a0.length<=maxLen):∃n,start (iter step n) (a0.map ah.row) a1=ret (((md a0 a1).1,((md a0 a1).2.map ah.row)):Int×aE):=by
 unfold gd at hg
 show ∃n,iter step n (Pt.p0 a1 0 (a0.map ah.row))=_
 unfold md
 refine gq (el:=el) (xs:=a0) ah.zero eJ iA (pt:=fun i k c=>Pt.p0 k (i:Int) (c.map ah.row)) (out:=fun b=>ret (b.1,b.2.map ah.row)) (fun J i k c hi hc hk=>?_) (fun J k c hc=>?_) hg
 ·have hm:c.length<=maxLen:=hc ▸ h0
  simp only [step,SS]
  refine ak (aO hi) ?_
  refine bg (Z286.md k) (Z286.aj (a0:=k) hk) ?_
  repeat first | refine ak aJ ?_ | refine ak (aO hi) ?_ | refine ak (gS _) ?_
  refine bg ((e1 (c.getD i ah.zero) k).1,((e1 (c.getD i ah.zero) k).2.map cG)) (Z287.aj (a0:=(c.getD i ah.zero).bH) (a1:=i64.wrap ((i64.wrap ((i64.wrap (k+1))+1))+1)) (cD _)) ?_
  rw [aH hi hm]
  exact congrArg (fun q=>J (Pt.p0 (el (c.getD i ah.zero) k).1 ((i+1:Nat):Int) q)) (List.map_set (f:=ah.row) (l:=c) (i:=i) (a:=(el (c.getD i ah.zero) k).2)).symm
 ·simp only [step,SS]
  refine cT (by apply decide_eq_false;omega) ?_
  rfl
def af:eY Tryz.prog Ev 333 aW:=MV (run:=fun n x=>start (iter step n) x.1 x.2) mix aF (.cons Z286.af .nil) (.cons Z287.af .nil) Tryz.func333 (by kernel_rfl) run_eq (fun ls a hl e hg=>bt a.1 a.2 hg (by have h:(ls.headD .hole).aQ.length<=maxLen:=(hl _ _ (.head _)).len;have e:a.1.map ah.row=(ls.headD .hole).aQ:=(congrArg (fun x=>x.1) e.symm);rw [<-e] at h;simpa using h))
def iq {a0:List ah}{a1:Int}(h:eJ a1):eJ (md a0 a1).1:=jG iA h
def pQ (x:ah)(k:Int)(h0:0<=k)(hb:k+(cnt x:Int)<=4611686018427387904):(el x k).1=k+cnt x:=by
 simp only [cnt,Int.natCast_add] at hb ⊢
 simp (disch:=omega) only [el,e1,wi,Z287.kk]
 all_goals first | done | omega
def kk (a0:List ah)(a1:Int)(h0:0<=a1)(hb:a1+(sum a0:Int)<=4611686018427387904):(md a0 a1).1=a1+sum a0:=gE pQ a0 a1 h0 hb
def sz (a:List ah):sum a<=60*(dU (fun y:ah=>ah.size y) a):=jH (fun x=>by
 have:=Z287.sz x.bH
 try simp only [cnt,ah.size] at *
 omega) a
end Z288
namespace Z289
set_option maxHeartbeats 8000000
inductive Pt where
 | p0 (a b:Int) (c:aE)
def pid:Pt->Nat
 | .p0 ..=>2
def ck:Pt->List V
 | .p0 a b c=>[.own 0,.int .i64 a,.int .i64 b]
def cj:Pt->List aY
 | .p0 a b c=>[.row 293 c]
def step (J:Pt->aI):Pt->aI
 | .p0 a b c=>(cond (decide (b<(c.length:Int))) (m2 b (c.length:Int) (call (Z282.R ((dQ.at c (toNat b)).aU,a)) fun v1=>(m2 b (c.length:Int) (cq (Nat.beq (toNat b) (toNat b)&&true) (cq (Nat.beq (toNat b) (toNat b)&&true) (call (Z288.R ((dQ.at c (toNat b)).bO,v1.1)) fun v2=>J (.p0 v2.1 (i64.wrap (b+1)) (List.set c (toNat b) (dQ.enc (⟨v1.2,v2.2⟩:dQ)))))))))) (ret ((a,c):Int×aE)))
def start (J:Pt->aI)(x0:aE)(x1:Int):aI:=J (.p0 x1 0 x0)
def live:Nat->Live:=fun i=>match i with | 2=>[(0,none),(1,none),(5,none)] | _=>[]
def pats:List (Bool×List K):=[(false,[.sl 293]),(false,[aB])]
def res:RP:=.nX [293]
abbrev E:Env:={ T:=assoc kG,G:=dD [],nt:=27,M:=fZ [(331,Z282.aW),(333,Z288.aW)],np:=1,mt:=true }
def step_eq (I:cI)(p:Pt):cY E live I (pid p) (bQ Tryz.f177) (fH (live (pid p)) (ck p) (cj p)) (cH E Tryz.f177 res)=step (fun q=>I (pid q) (ck q) (cj q)) p:=by
 cases p<;>kernel_rfl
def start_eq (I:cI)(ls:List L):eW E live I (bQ Tryz.f177) (gC pats ls) (cH E Tryz.f177 res)=start (fun q=>I (pid q) (ck q) (cj q)) (ls.headD .hole).aQ ((aA 1 ls).headD .hole).toInt:=by kernel_rfl
def run_eq (n:Nat)(ls:List L):eO E live Tryz.f177 res n (gC pats ls)=start (iter step n) (ls.headD .hole).aQ ((aA 1 ls).headD .hole).toInt:=cA (id:=pid) (vs:=ck) (hs:=cj) (step:=step) (start:=fun J=>start J (ls.headD .hole).aQ ((aA 1 ls).headD .hole).toInt) step_eq (fun I=>start_eq I ls) n
def e1 (x:aL)(k:Int):=Z282.md x.aU k
def e2 (x:aL)(k:Int):=Z288.md x.bO ((e1 x k).1)
def el (x:aL)(k:Int):Int×aL:=((e2 x k).1,(⟨(e1 x k).2,(e2 x k).2⟩:aL))
def iA (x:aL)(k:Int)(hk:eJ k):eJ (el x k).1:=(Z288.iq (Z282.iq hk))
def cnt (x:aL):Nat:=0+Z282.sum x.aU+Z288.sum x.bO
def sum (a:List aL):Nat:=(a.map cnt).sum
def md (a0:List aL)(a1:Int):Int×List aL:=jl el a0 a1
def gd (a0:List aL)(a1:Int):Prop:=eJ a1
def acc (ls:List L):aE×Int:=((ls.headD .hole).aQ,((aA 1 ls).headD .hole).toInt)
def R:(aE×Int)->Option (Int×aE):=RR (p2 gd) (u2 md)
def aj {a0 a1}(h:gd a0 a1):R ((a0.map aL.row),a1)=some ((md a0 a1).1,((md a0 a1).2.map aL.row)):=aP (a:=(a0,a1)) h
def aW:gK:=MN pats acc R
def bt (a0:List aL)(a1:Int)(hg:gd a0 a1)(h0:a0.length<=maxLen):∃n,start (iter step n) (a0.map aL.row) a1=ret (((md a0 a1).1,((md a0 a1).2.map aL.row)):Int×aE):=by
 unfold gd at hg
 show ∃n,iter step n (Pt.p0 a1 0 (a0.map aL.row))=_
 unfold md
 refine gq (el:=el) (xs:=a0) aL.zero eJ iA (pt:=fun i k c=>Pt.p0 k (i:Int) (c.map aL.row)) (out:=fun b=>ret (b.1,b.2.map aL.row)) (fun J i k c hi hc hk=>?_) (fun J k c hc=>?_) hg
 ·have hm:c.length<=maxLen:=hc ▸ h0
  simp only [step,SS]
  refine ak (aO hi) ?_
  refine ak aJ ?_
  refine ak (aO hi) ?_
  refine bg ((e1 (c.getD i aL.zero) k).1,((e1 (c.getD i aL.zero) k).2.map aa.row)) (Z282.aj (a0:=(c.getD i aL.zero).aU) (a1:=k) hk) ?_
  repeat first | refine ak aJ ?_ | refine ak (aO hi) ?_ | refine ak (gS _) ?_
  refine bg ((e2 (c.getD i aL.zero) k).1,((e2 (c.getD i aL.zero) k).2.map ah.row)) (Z288.aj (a0:=(c.getD i aL.zero).bO) (a1:=(e1 (c.getD i aL.zero) k).1) (Z282.iq hk)) ?_
  rw [aH hi hm]
  exact congrArg (fun q=>J (Pt.p0 (el (c.getD i aL.zero) k).1 ((i+1:Nat):Int) q)) (List.map_set (f:=aL.row) (l:=c) (i:=i) (a:=(el (c.getD i aL.zero) k).2)).symm
 ·simp only [step,SS]
  refine cT (by apply decide_eq_false;omega) ?_
  rfl
def af:eY Tryz.prog Ev 177 aW:=MV (run:=fun n x=>start (iter step n) x.1 x.2) mix aF .nil (.cons Z282.af (.cons Z288.af .nil)) Tryz.func177 (by kernel_rfl) run_eq (fun ls a hl e hg=>bt a.1 a.2 hg (by have h:(ls.headD .hole).aQ.length<=maxLen:=(hl _ _ (.head _)).len;have e:a.1.map aL.row=(ls.headD .hole).aQ:=(congrArg (fun x=>x.1) e.symm);rw [<-e] at h;simpa using h))
def iq {a0:List aL}{a1:Int}(h:eJ a1):eJ (md a0 a1).1:=jG iA h
def pQ (x:aL)(k:Int)(h0:0<=k)(hb:k+(cnt x:Int)<=4611686018427387904):(el x k).1=k+cnt x:=by
 simp only [cnt,Int.natCast_add] at hb ⊢
 simp (disch:=omega) only [el,e1,e2,wi,Z282.kk,Z288.kk]
 all_goals first | done | omega
def kk (a0:List aL)(a1:Int)(h0:0<=a1)(hb:a1+(sum a0:Int)<=4611686018427387904):(md a0 a1).1=a1+sum a0:=gE pQ a0 a1 h0 hb
def sz (a:List aL):sum a<=60*(dU (fun y:aL=>aL.size y) a):=jH (fun x=>by
 have:=Z282.sz x.aU
 have:=Z288.sz x.bO
 try simp only [cnt,aL.size] at *
 omega) a
end Z289
namespace Z290
set_option maxHeartbeats 8000000
inductive Pt where
 | p0 (a b:Int) (c:aE)
def pid:Pt->Nat
 | .p0 ..=>2
def ck:Pt->List V
 | .p0 a b c=>[.own 0,.int .i64 a,.int .i64 b]
def cj:Pt->List aY
 | .p0 a b c=>[.row 227 c]
def step (J:Pt->aI):Pt->aI
 | .p0 a b c=>(cond (decide (b<(c.length:Int))) (m2 b (c.length:Int) (call (Z289.R ((cP.at c (toNat b)).bJ,a)) fun v1=>(m2 b (c.length:Int) (cq (Nat.beq (toNat b) (toNat b)&&true) (J (.p0 (i64.wrap (v1.1+1)) (i64.wrap (b+1)) (List.set c (toNat b) (cP.enc (⟨v1.2,v1.1⟩:cP))))))))) (ret ((a,c):Int×aE)))
def start (J:Pt->aI)(x0:aE)(x1:Int):aI:=J (.p0 x1 0 x0)
def live:Nat->Live:=fun i=>match i with | 2=>[(0,none),(1,none),(5,none)] | _=>[]
def pats:List (Bool×List K):=[(false,[.sl 227]),(false,[aB])]
def res:RP:=.nX [227]
abbrev E:Env:={ T:=assoc kG,G:=dD [],nt:=27,M:=fZ [(177,Z289.aW)],np:=1,mt:=true }
def step_eq (I:cI)(p:Pt):cY E live I (pid p) (bQ Tryz.f37) (fH (live (pid p)) (ck p) (cj p)) (cH E Tryz.f37 res)=step (fun q=>I (pid q) (ck q) (cj q)) p:=by
 cases p<;>kernel_rfl
def start_eq (I:cI)(ls:List L):eW E live I (bQ Tryz.f37) (gC pats ls) (cH E Tryz.f37 res)=start (fun q=>I (pid q) (ck q) (cj q)) (ls.headD .hole).aQ ((aA 1 ls).headD .hole).toInt:=by kernel_rfl
def run_eq (n:Nat)(ls:List L):eO E live Tryz.f37 res n (gC pats ls)=start (iter step n) (ls.headD .hole).aQ ((aA 1 ls).headD .hole).toInt:=cA (id:=pid) (vs:=ck) (hs:=cj) (step:=step) (start:=fun J=>start J (ls.headD .hole).aQ ((aA 1 ls).headD .hole).toInt) step_eq (fun I=>start_eq I ls) n
def e1 (x:ay)(k:Int):=Z289.md x.bJ k
def el (x:ay)(k:Int):Int×ay:=((i64.wrap ((e1 x k).1+1)),(⟨(e1 x k).2,(e1 x k).1⟩:ay))
def iA (x:ay)(k:Int)(hk:eJ k):eJ (el x k).1:=(cD _)
def cnt (x:ay):Nat:=1+Z289.sum x.bJ
def sum (a:List ay):Nat:=(a.map cnt).sum
def md (a0:List ay)(a1:Int):Int×List ay:=jl el a0 a1
def gd (a0:List ay)(a1:Int):Prop:=eJ a1
def acc (ls:List L):aE×Int:=((ls.headD .hole).aQ,((aA 1 ls).headD .hole).toInt)
def R:(aE×Int)->Option (Int×aE):=RR (p2 gd) (u2 md)
def aj {a0 a1}(h:gd a0 a1):R ((a0.map ay.row),a1)=some ((md a0 a1).1,((md a0 a1).2.map ay.row)):=aP (a:=(a0,a1)) h
def aW:gK:=MN pats acc R
def bt (a0:List ay)(a1:Int)(hg:gd a0 a1)(h0:a0.length<=maxLen):∃n,start (iter step n) (a0.map ay.row) a1=ret (((md a0 a1).1,((md a0 a1).2.map ay.row)):Int×aE):=by
 unfold gd at hg
 show ∃n,iter step n (Pt.p0 a1 0 (a0.map ay.row))=_
 unfold md
 refine gq (el:=el) (xs:=a0) ay.zero eJ iA (pt:=fun i k c=>Pt.p0 k (i:Int) (c.map ay.row)) (out:=fun b=>ret (b.1,b.2.map ay.row)) (fun J i k c hi hc hk=>?_) (fun J k c hc=>?_) hg
 ·have hm:c.length<=maxLen:=hc ▸ h0
  simp only [step,SS]
  refine ak (aO hi) ?_
  refine ak aJ ?_
  refine ak (aO hi) ?_
  refine bg ((e1 (c.getD i ay.zero) k).1,((e1 (c.getD i ay.zero) k).2.map aL.row)) (Z289.aj (a0:=(c.getD i ay.zero).bJ) (a1:=k) hk) ?_
  refine ak aJ ?_
  refine ak (aO hi) ?_
  refine ak (gS _) ?_
  rw [aH hi hm]
  exact congrArg (fun q=>J (Pt.p0 (el (c.getD i ay.zero) k).1 ((i+1:Nat):Int) q)) (List.map_set (f:=ay.row) (l:=c) (i:=i) (a:=(el (c.getD i ay.zero) k).2)).symm
 ·simp only [step,SS]
  refine cT (by apply decide_eq_false;omega) ?_
  rfl
def af:eY Tryz.prog Ev 37 aW:=MV (run:=fun n x=>start (iter step n) x.1 x.2) mix aF .nil (.cons Z289.af .nil) Tryz.func37 (by kernel_rfl) run_eq (fun ls a hl e hg=>bt a.1 a.2 hg (by have h:(ls.headD .hole).aQ.length<=maxLen:=(hl _ _ (.head _)).len;have e:a.1.map ay.row=(ls.headD .hole).aQ:=(congrArg (fun x=>x.1) e.symm);rw [<-e] at h;simpa using h))
def iq {a0:List ay}{a1:Int}(h:eJ a1):eJ (md a0 a1).1:=jG iA h
def pQ (x:ay)(k:Int)(h0:0<=k)(hb:k+(cnt x:Int)<=4611686018427387904):(el x k).1=k+cnt x:=by
 simp only [cnt,Int.natCast_add] at hb ⊢
 simp (disch:=omega) only [el,e1,wi,Z289.kk]
 all_goals first | done | omega
def kk (a0:List ay)(a1:Int)(h0:0<=a1)(hb:a1+(sum a0:Int)<=4611686018427387904):(md a0 a1).1=a1+sum a0:=gE pQ a0 a1 h0 hb
def sz (a:List ay):sum a<=60*(dU (fun y:ay=>ay.size y) a):=jH (fun x=>by
 have:=Z289.sz x.bJ
 try simp only [cnt,ay.size] at *
 omega) a
end Z290
namespace Z291
set_option maxHeartbeats 8000000
inductive Pt where
 | p0 (a b:Int) (c:aE)
def pid:Pt->Nat
 | .p0 ..=>2
def ck:Pt->List V
 | .p0 a b c=>[.own 0,.int .i64 a,.int .i64 b]
def cj:Pt->List aY
 | .p0 a b c=>[.row 207 c]
def step (J:Pt->aI):Pt->aI
 | .p0 a b c=>(cond (decide (b<(c.length:Int))) (call (Z286.R a) fun v1=>(m2 b (c.length:Int) (m2 b (c.length:Int) (cq (Nat.beq (toNat b) (toNat b)&&true) (J (.p0 (i64.wrap ((i64.wrap (a+1))+1)) (i64.wrap (b+1)) (List.set c (toNat b) (bF.enc (⟨v1,(i64.wrap (a+1))⟩:bF))))))))) (ret ((a,c):Int×aE)))
def start (J:Pt->aI)(x0:aE)(x1:Int):aI:=J (.p0 x1 0 x0)
def live:Nat->Live:=fun i=>match i with | 2=>[(0,none),(1,none),(5,none)] | _=>[]
def pats:List (Bool×List K):=[(false,[.sl 207]),(false,[aB])]
def res:RP:=.nX [207]
abbrev E:Env:={ T:=assoc kG,G:=dD [(178,Z286.aW)],nt:=28,M:=fZ [],np:=1,mt:=true }
def step_eq (I:cI)(p:Pt):cY E live I (pid p) (bQ Tryz.f57) (fH (live (pid p)) (ck p) (cj p)) (cH E Tryz.f57 res)=step (fun q=>I (pid q) (ck q) (cj q)) p:=by
 cases p<;>kernel_rfl
def start_eq (I:cI)(ls:List L):eW E live I (bQ Tryz.f57) (gC pats ls) (cH E Tryz.f57 res)=start (fun q=>I (pid q) (ck q) (cj q)) (ls.headD .hole).aQ ((aA 1 ls).headD .hole).toInt:=by kernel_rfl
def run_eq (n:Nat)(ls:List L):eO E live Tryz.f57 res n (gC pats ls)=start (iter step n) (ls.headD .hole).aQ ((aA 1 ls).headD .hole).toInt:=cA (id:=pid) (vs:=ck) (hs:=cj) (step:=step) (start:=fun J=>start J (ls.headD .hole).aQ ((aA 1 ls).headD .hole).toInt) step_eq (fun I=>start_eq I ls) n
def el (x:bF)(k:Int):Int×bF:=((i64.wrap ((i64.wrap (k+1))+1)),(⟨(Z286.md k),(i64.wrap (k+1))⟩:bF))
def iA (x:bF)(k:Int)(hk:eJ k):eJ (el x k).1:=(cD _)
def cnt (x:bF):Nat:=2
def sum (a:List bF):Nat:=(a.map cnt).sum
def md (a0:List bF)(a1:Int):Int×List bF:=jl el a0 a1
def gd (a0:List bF)(a1:Int):Prop:=eJ a1
def acc (ls:List L):aE×Int:=((ls.headD .hole).aQ,((aA 1 ls).headD .hole).toInt)
def R:(aE×Int)->Option (Int×aE):=RR (p2 gd) (u2 md)
def aj {a0 a1}(h:gd a0 a1):R ((a0.map bF.row),a1)=some ((md a0 a1).1,((md a0 a1).2.map bF.row)):=aP (a:=(a0,a1)) h
def aW:gK:=MN pats acc R
def bt (a0:List bF)(a1:Int)(hg:gd a0 a1)(h0:a0.length<=maxLen):∃n,start (iter step n) (a0.map bF.row) a1=ret (((md a0 a1).1,((md a0 a1).2.map bF.row)):Int×aE):=by
 unfold gd at hg
 show ∃n,iter step n (Pt.p0 a1 0 (a0.map bF.row))=_
 unfold md
 refine gq (el:=el) (xs:=a0) bF.zero eJ iA (pt:=fun i k c=>Pt.p0 k (i:Int) (c.map bF.row)) (out:=fun b=>ret (b.1,b.2.map bF.row)) (fun J i k c hi hc hk=>?_) (fun J k c hc=>?_) hg
 ·have hm:c.length<=maxLen:=hc ▸ h0
  simp only [step,SS]
  refine ak (aO hi) ?_
  refine bg (Z286.md k) (Z286.aj (a0:=k) hk) ?_
  repeat first | refine ak aJ ?_ | refine ak (aO hi) ?_ | refine ak (gS _) ?_
  rw [aH hi hm]
  exact congrArg (fun q=>J (Pt.p0 (el (c.getD i bF.zero) k).1 ((i+1:Nat):Int) q)) (List.map_set (f:=bF.row) (l:=c) (i:=i) (a:=(el (c.getD i bF.zero) k).2)).symm
 ·simp only [step,SS]
  refine cT (by apply decide_eq_false;omega) ?_
  rfl
def af:eY Tryz.prog Ev 57 aW:=MV (run:=fun n x=>start (iter step n) x.1 x.2) mix aF (.cons Z286.af .nil) .nil Tryz.func57 (by kernel_rfl) run_eq (fun ls a hl e hg=>bt a.1 a.2 hg (by have h:(ls.headD .hole).aQ.length<=maxLen:=(hl _ _ (.head _)).len;have e:a.1.map bF.row=(ls.headD .hole).aQ:=(congrArg (fun x=>x.1) e.symm);rw [<-e] at h;simpa using h))
def iq {a0:List bF}{a1:Int}(h:eJ a1):eJ (md a0 a1).1:=jG iA h
def pQ (x:bF)(k:Int)(h0:0<=k)(hb:k+(cnt x:Int)<=4611686018427387904):(el x k).1=k+cnt x:=by
 simp only [cnt,Int.natCast_add] at hb ⊢
 simp (disch:=omega) only [el,wi]
 all_goals first | done | omega
def kk (a0:List bF)(a1:Int)(h0:0<=a1)(hb:a1+(sum a0:Int)<=4611686018427387904):(md a0 a1).1=a1+sum a0:=gE pQ a0 a1 h0 hb
def sz (a:List bF):sum a<=60*(dU (fun y:bF=>bF.size y) a):=jH (fun x=>by
 try simp only [cnt,bF.size] at *
 omega) a
end Z291
namespace Z292
set_option maxHeartbeats 8000000
def F (x0:aV)(x1:Int):aI:=(call (Z287.R (x0.bH,x1)) fun v1=>ret ((v1.1,v1.2):Int×aE))
def pats:List (Bool×List K):=[(true,[.str,aB,aB,.sl 9]),(false,[aB])]
def res:RP:=.nX [9]
def e1 (x:ah)(k:Int):=Z287.md x.bH k
def sum (x:ah):Nat:=0+Z287.sum x.bH
def md (a0:ah)(a1:Int):Int×List aD:=((e1 a0 a1).1,(e1 a0 a1).2)
def gd (a0:ah)(a1:Int):Prop:=eJ a1
def acc (ls:List L):aV×Int:=((aV.dec ls),((aA 4 ls).headD .hole).toInt)
def R:(aV×Int)->Option (Int×aE):=RR (p2 gd) (u2 md)
def aj {a0 a1}(h:gd a0 a1):R ((ah.r a0),a1)=some ((md a0 a1).1,((md a0 a1).2.map cG)):=aP (a:=(a0,a1)) h
def aW:gK:=MN pats acc R
def bt (a0:ah)(a1:Int)(hg:gd a0 a1):F (ah.r a0) a1=ret (((md a0 a1).1,((md a0 a1).2.map cG)):Int×aE):=by
 unfold gd at hg
 simp only [F,SS]
 unfold md
 refine bg ((e1 a0 a1).1,((e1 a0 a1).2.map cG)) (Z287.aj (a0:=a0.bH) (a1:=a1) hg) ?_
 first | rfl | (simp only [SS];rfl)
def af:eY Tryz.prog Ev 190 aW:=MV (live:=fun _=>[]) (nt:=10) (run:=fun _ x=>F x.1 x.2) mix aF .nil (.cons Z287.af .nil) Tryz.func190 (by kernel_rfl) (fun _ _=>by kernel_rfl) (fun _ a _ _ hg=>⟨0,bt a.1 a.2 hg⟩)
def iq {a0:ah}{a1:Int}(hk:eJ a1):eJ (md a0 a1).1:=(Z287.iq hk)
def kk (x:ah)(k:Int)(h0:0<=k)(hb:k+(sum x:Int)<=4611686018427387904):(md x k).1=k+sum x:=by
 simp only [sum,Int.natCast_add] at hb ⊢
 simp (disch:=omega) only [md,e1,wi,Z287.kk]
 all_goals first | done | omega
def sz (x:ah):sum x<=60*ah.size x:=by
 have:=Z287.sz x.bH
 try simp only [sum,ah.size] at *
 omega
def upd (x:ah)(k:Int):ah:=(⟨x.aZ,x.bI,x.bX,(md x k).2⟩:ah)
end Z292
namespace Z293
set_option maxHeartbeats 8000000
def F (x0:cS)(x1:Int):aI:=(call (Z285.R (x0.bZ,x1)) fun v1=>(call (Z292.R (x0.aR,v1.1)) fun v2=>(call (Z280.R (x0.bJ,v2.1)) fun v3=>ret ((v3.1,v1.2.1,v1.2.2,v2.2,v3.2):Int×aE×aE×aE×aE))))
def pats:List (Bool×List K):=[(true,[.sl 92,.sl 280,aB,.str,aB,aB,.sl 9,.sl 3,aB]),(false,[aB])]
def res:RP:=.nX [92,280,9,3]
def e1 (x:bu)(k:Int):=Z285.md x.bZ k
def e2 (x:bu)(k:Int):=Z292.md x.aR ((e1 x k).1)
def e3 (x:bu)(k:Int):=Z280.md x.bJ ((e2 x k).1)
def sum (x:bu):Nat:=0+Z285.sum x.bZ+Z292.sum x.aR+Z280.sum x.bJ
def md (a0:bu)(a1:Int):Int×List (List aa)×List aC×List aD×List Int:=((e3 a0 a1).1,(e1 a0 a1).2.1,(e1 a0 a1).2.2,(e2 a0 a1).2,(e3 a0 a1).2)
def gd (a0:bu)(a1:Int):Prop:=eJ a1
def acc (ls:List L):cS×Int:=((cS.dec ls),((aA 9 ls).headD .hole).toInt)
def R:(cS×Int)->Option (Int×aE×aE×aE×aE):=RR (p2 gd) (u2 md)
def aj {a0 a1}(h:gd a0 a1):R ((bu.r a0),a1)=some ((md a0 a1).1,((md a0 a1).2.1.map (dO aa.row)),((md a0 a1).2.2.1.map aC.row),((md a0 a1).2.2.2.1.map cG),((md a0 a1).2.2.2.2.map bk)):=aP (a:=(a0,a1)) h
def aW:gK:=MN pats acc R
def bt (a0:bu)(a1:Int)(hg:gd a0 a1):F (bu.r a0) a1=ret (((md a0 a1).1,((md a0 a1).2.1.map (dO aa.row)),((md a0 a1).2.2.1.map aC.row),((md a0 a1).2.2.2.1.map cG),((md a0 a1).2.2.2.2.map bk)):Int×aE×aE×aE×aE):=by
 unfold gd at hg
 simp only [F,SS]
 unfold md
 refine bg ((e1 a0 a1).1,((e1 a0 a1).2.1.map (dO aa.row)),((e1 a0 a1).2.2.map aC.row)) (Z285.aj (a0:=a0.bZ) (a1:=a1) hg) ?_
 refine bg ((e2 a0 a1).1,((e2 a0 a1).2.map cG)) (Z292.aj (a0:=a0.aR) (a1:=(e1 a0 a1).1) (Z285.iq hg)) ?_
 refine bg ((e3 a0 a1).1,((e3 a0 a1).2.map bk)) (Z280.aj (a0:=a0.bJ) (a1:=(e2 a0 a1).1) (Z292.iq (Z285.iq hg))) ?_
 first | rfl | (simp only [SS];rfl)
def af:eY Tryz.prog Ev 50 aW:=MV (live:=fun _=>[]) (nt:=18) (run:=fun _ x=>F x.1 x.2) mix aF .nil (.cons Z285.af (.cons Z292.af (.cons Z280.af .nil))) Tryz.func50 (by kernel_rfl) (fun _ _=>by kernel_rfl) (fun _ a _ _ hg=>⟨0,bt a.1 a.2 hg⟩)
def iq {a0:bu}{a1:Int}(hk:eJ a1):eJ (md a0 a1).1:=(Z280.iq (Z292.iq (Z285.iq hk)))
def kk (x:bu)(k:Int)(h0:0<=k)(hb:k+(sum x:Int)<=4611686018427387904):(md x k).1=k+sum x:=by
 simp only [sum,Int.natCast_add] at hb ⊢
 simp (disch:=omega) only [md,e1,e2,e3,wi,Z285.kk,Z292.kk,Z280.kk]
 all_goals first | done | omega
def sz (x:bu):sum x<=60*bu.size x:=by
 have:=Z285.sz x.bZ
 have:=Z292.sz x.aR
 have:=Z280.sz x.bJ
 try simp only [sum,bu.size,au.size,ah.size] at *
 omega
def upd (x:bu)(k:Int):bu:=(⟨(⟨(md x k).2.1,(md x k).2.2.1⟩:au),x.fq,(⟨x.aR.aZ,x.aR.bI,x.aR.bX,(md x k).2.2.2.1⟩:ah),(md x k).2.2.2.2,x.fo⟩:bu)
end Z293
namespace Z294
set_option maxHeartbeats 8000000
inductive Pt where
 | p0 (a:aE) (b c:Int)
def pid:Pt->Nat
 | .p0 ..=>2
def ck:Pt->List V
 | .p0 a b c=>[.sl none 3 a,.int .i64 b,.int .i64 c]
def cj:Pt->List aY
 | .p0 a b c=>[]
def step (J:Pt->aI):Pt->aI
 | .p0 a b c=>(cond (decide (c<(a.length:Int))) (m2 c (a.length:Int) (cond ((jx a (toNat c)) != b) (ret ((-1):Int)) (J (.p0 a (i64.wrap (b+1)) (i64.wrap (c+1)))))) (ret (b:Int)))
def start (J:Pt->aI)(x0:aE)(x1:Int):aI:=J (.p0 x0 x1 0)
def live:Nat->Live:=fun i=>match i with | 2=>[(0,none),(1,none),(5,none)] | _=>[]
def pats:List gj:=[.rd (.sl 3),.rd (.int .i64)]
def res:RP:=.one (.rd (.int .i64))
abbrev E:Env:={ T:=assoc kG,G:=dD [],nt:=21 }
def step_eq (I:cI)(p:Pt):cY E live I (pid p) (bQ Tryz.f183) (fH (live (pid p)) (ck p) (cj p)) (cH E Tryz.f183 res)=step (fun q=>I (pid q) (ck q) (cj q)) p:=by
 cases p<;>kernel_rfl
def start_eq (I:cI)(ls:List L):eW E live I (bQ Tryz.f183) (dc pats ls) (cH E Tryz.f183 res)=start (fun q=>I (pid q) (ck q) (cj q)) (ls.headD .hole).aQ ((aA 1 ls).headD .hole).toInt:=by kernel_rfl
def run_eq (n:Nat)(ls:List L):eO E live Tryz.f183 res n (dc pats ls)=start (iter step n) (ls.headD .hole).aQ ((aA 1 ls).headD .hole).toInt:=cA (id:=pid) (vs:=ck) (hs:=cj) (step:=step) (start:=fun J=>start J (ls.headD .hole).aQ ((aA 1 ls).headD .hole).toInt) step_eq (fun I=>start_eq I ls) n
def f (x k:Int):Option Int:=(cond (x != k) none (some (i64.wrap (k+1))))
def ue (x k k2:Int)(hk:eJ k)(h:f x k=some k2):eJ k2:=by
 unfold f at h
 have h:=bL h
 injection h with h
 subst h
 exact (cD _)
def md (a0:List Int)(a1:Int):Int:=jw f a0 a1
def gd (a0:List Int)(a1:Int):Prop:=eJ a1
def acc (ls:List L):aE×Int:=((ls.headD .hole).aQ,((aA 1 ls).headD .hole).toInt)
def R:(aE×Int)->Option Int:=RR (p2 gd) (u2 md)
def aj {a0 a1}(h:gd a0 a1):R ((a0.map bk),a1)=some (md a0 a1):=aP (a:=(a0,a1)) h
def aW:ga:=CN pats res acc R
def bt (a0:List Int)(a1:Int)(hg:gd a0 a1)(h0:a0.length<=maxLen):∃n,start (iter step n) (a0.map bk) a1=ret ((md a0 a1):Int):=by
 unfold gd at hg
 show ∃n,iter step n (Pt.p0 (a0.map bk) a1 0)=_
 unfold md
 refine jt (f:=f) (xs:=a0) 0 eJ ue (pt:=fun i k=>Pt.p0 (a0.map bk) k (i:Int)) (fun J i k hi hk=>?_) (fun J k=>?_) hg
 ·simp only [step,SS]
  refine ak (aO hi) ?_
  refine ak aJ ?_
  refine ak (aO hi) ?_
  refine bN rfl ?_
  rw [aH hi h0]
  rfl
 ·simp only [step,SS]
  refine cT (by apply decide_eq_false;omega) ?_
  rfl
def af:cz 183 aW:=VV (run:=fun n x=>start (iter step n) x.1 x.2) mix aF .nil Tryz.func183 (by kernel_rfl) run_eq (fun ls a hl e hg=>bt a.1 a.2 hg (by have h:(ls.headD .hole).aQ.length<=maxLen:=hl.1.len;have e:a.1.map bk=(ls.headD .hole).aQ:=(congrArg (fun x=>x.1) e.symm);rw [<-e] at h;simpa using h))
def iq {a0:List Int}{a1:Int}(h:eJ a1):eJ (md a0 a1):=kH ue jL h
def xS (x k:Int)(h0:0<=k)(hb:k+(Z280.cnt x:Int)<=4611686018427387904):f (Z280.el x k).2 k=some (k+Z280.cnt x):=by
 simp only [Z280.cnt,Int.natCast_add] at hb ⊢
 simp (disch:=omega) only [Z280.el,f,wi,bne_self_eq_false,beq_self_eq_true,gh,Bool.not_true,bq,dA]
 all_goals first | done | omega | (congr 1<;>omega)
def mk (a0:List Int)(a1:Int)(h0:0<=a1)(hb:a1+(Z280.sum a0:Int)<=4611686018427387904):md (Z280.md a0 a1).2 a1=a1+Z280.sum a0:=iI Z280.pQ xS a0 a1 h0 hb
end Z294
namespace Z295
set_option maxHeartbeats 8000000
inductive Pt where
 | p0 (a:aE) (b c:Int)
def pid:Pt->Nat
 | .p0 ..=>2
def ck:Pt->List V
 | .p0 a b c=>[.sl none 428 a,.int .i64 b,.int .i64 c]
def cj:Pt->List aY
 | .p0 a b c=>[]
def step (J:Pt->aI):Pt->aI
 | .p0 a b c=>(cond (decide (c<(a.length:Int))) (m2 c (a.length:Int) (cond ((bp.at a (toNat c)).gU != b) (ret ((-1):Int)) (m2 c (a.length:Int) (cond ((bp.at a (toNat c)).jz != (i64.wrap (b+1))) (ret ((-1):Int)) (J (.p0 a (i64.wrap ((i64.wrap (b+1))+1)) (i64.wrap (c+1)))))))) (ret (b:Int)))
def start (J:Pt->aI)(x0:aE)(x1:Int):aI:=J (.p0 x0 x1 0)
def live:Nat->Live:=fun i=>match i with | 2=>[(0,none),(1,none),(5,none)] | _=>[]
def pats:List gj:=[.rd (.sl 428),.rd (.int .i64)]
def res:RP:=.one (.rd (.int .i64))
abbrev E:Env:={ T:=assoc kG,G:=dD [],nt:=31 }
def step_eq (I:cI)(p:Pt):cY E live I (pid p) (bQ Tryz.f335) (fH (live (pid p)) (ck p) (cj p)) (cH E Tryz.f335 res)=step (fun q=>I (pid q) (ck q) (cj q)) p:=by
 cases p<;>kernel_rfl
def start_eq (I:cI)(ls:List L):eW E live I (bQ Tryz.f335) (dc pats ls) (cH E Tryz.f335 res)=start (fun q=>I (pid q) (ck q) (cj q)) (ls.headD .hole).aQ ((aA 1 ls).headD .hole).toInt:=by kernel_rfl
def run_eq (n:Nat)(ls:List L):eO E live Tryz.f335 res n (dc pats ls)=start (iter step n) (ls.headD .hole).aQ ((aA 1 ls).headD .hole).toInt:=cA (id:=pid) (vs:=ck) (hs:=cj) (step:=step) (start:=fun J=>start J (ls.headD .hole).aQ ((aA 1 ls).headD .hole).toInt) step_eq (fun I=>start_eq I ls) n
def f (x:bp)(k:Int):Option Int:=(cond (x.gU != k) none (cond (x.jz != (i64.wrap (k+1))) none (some (i64.wrap ((i64.wrap (k+1))+1)))))
def ue (x:bp)(k k2:Int)(hk:eJ k)(h:f x k=some k2):eJ k2:=by
 unfold f at h
 have h:=bL h
 have h:=bL h
 injection h with h
 subst h
 exact (cD _)
def md (a0:List bp)(a1:Int):Int:=jw f a0 a1
def gd (a0:List bp)(a1:Int):Prop:=eJ a1
def acc (ls:List L):aE×Int:=((ls.headD .hole).aQ,((aA 1 ls).headD .hole).toInt)
def R:(aE×Int)->Option Int:=RR (p2 gd) (u2 md)
def aj {a0 a1}(h:gd a0 a1):R ((a0.map bp.row),a1)=some (md a0 a1):=aP (a:=(a0,a1)) h
def aW:ga:=CN pats res acc R
def bt (a0:List bp)(a1:Int)(hg:gd a0 a1)(h0:a0.length<=maxLen):∃n,start (iter step n) (a0.map bp.row) a1=ret ((md a0 a1):Int):=by
 unfold gd at hg
 show ∃n,iter step n (Pt.p0 (a0.map bp.row) a1 0)=_
 unfold md
 refine jt (f:=f) (xs:=a0) bp.zero eJ ue (pt:=fun i k=>Pt.p0 (a0.map bp.row) k (i:Int)) (fun J i k hi hk=>?_) (fun J k=>?_) hg
 ·simp only [step,SS]
  refine ak (aO hi) ?_
  refine ak aJ ?_
  refine ak (aO hi) ?_
  refine bN rfl ?_
  refine ak aJ ?_
  refine ak (aO hi) ?_
  refine bN rfl ?_
  rw [aH hi h0]
  rfl
 ·simp only [step,SS]
  refine cT (by apply decide_eq_false;omega) ?_
  rfl
def af:cz 335 aW:=VV (run:=fun n x=>start (iter step n) x.1 x.2) mix aF .nil Tryz.func335 (by kernel_rfl) run_eq (fun ls a hl e hg=>bt a.1 a.2 hg (by have h:(ls.headD .hole).aQ.length<=maxLen:=hl.1.len;have e:a.1.map bp.row=(ls.headD .hole).aQ:=(congrArg (fun x=>x.1) e.symm);rw [<-e] at h;simpa using h))
def iq {a0:List bp}{a1:Int}(h:eJ a1):eJ (md a0 a1):=kH ue jL h
def xS (x:bp)(k:Int)(h0:0<=k)(hb:k+(Z281.cnt x:Int)<=4611686018427387904):f (Z281.el x k).2 k=some (k+Z281.cnt x):=by
 simp only [Z281.cnt,Int.natCast_add] at hb ⊢
 simp (disch:=omega) only [Z281.el,f,wi,bne_self_eq_false,beq_self_eq_true,gh,Bool.not_true,bq,dA]
 all_goals first | done | omega | (congr 1<;>omega)
def mk (a0:List bp)(a1:Int)(h0:0<=a1)(hb:a1+(Z281.sum a0:Int)<=4611686018427387904):md (Z281.md a0 a1).2 a1=a1+Z281.sum a0:=iI Z281.pQ xS a0 a1 h0 hb
end Z295
namespace Z296
set_option maxHeartbeats 8000000
inductive Pt where
 | p0 (a:aE) (b c:Int)
def pid:Pt->Nat
 | .p0 ..=>2
def ck:Pt->List V
 | .p0 a b c=>[.sl none 123 a,.int .i64 b,.int .i64 c]
def cj:Pt->List aY
 | .p0 a b c=>[]
def step (J:Pt->aI):Pt->aI
 | .p0 a b c=>(cond (decide (c<(a.length:Int))) (m2 c (a.length:Int) (cond ((aT.at a (toNat c)).aq.bC != b) (ret ((-1):Int)) (m2 c (a.length:Int) (cond ((aT.at a (toNat c)).aq.cN != (i64.wrap (b+1))) (ret ((-1):Int)) (m2 c (a.length:Int) (cond ((aT.at a (toNat c)).aq.bI != (i64.wrap ((i64.wrap (b+1))+1))) (ret ((-1):Int)) (m2 c (a.length:Int) (cond ((aT.at a (toNat c)).aq.cK != (i64.wrap ((i64.wrap ((i64.wrap (b+1))+1))+1))) (ret ((-1):Int)) (m2 c (a.length:Int) (cond ((aT.at a (toNat c)).aq.cC != (i64.wrap ((i64.wrap ((i64.wrap ((i64.wrap (b+1))+1))+1))+1))) (ret ((-1):Int)) (m2 c (a.length:Int) (cond ((aT.at a (toNat c)).aq.cy != (i64.wrap ((i64.wrap ((i64.wrap ((i64.wrap ((i64.wrap (b+1))+1))+1))+1))+1))) (ret ((-1):Int)) (m2 c (a.length:Int) (cond ((aT.at a (toNat c)).aq.dm != (i64.wrap ((i64.wrap ((i64.wrap ((i64.wrap ((i64.wrap ((i64.wrap (b+1))+1))+1))+1))+1))+1))) (ret ((-1):Int)) (m2 c (a.length:Int) (cond ((aT.at a (toNat c)).aq.dH != (i64.wrap ((i64.wrap ((i64.wrap ((i64.wrap ((i64.wrap ((i64.wrap ((i64.wrap (b+1))+1))+1))+1))+1))+1))+1))) (ret ((-1):Int)) (m2 c (a.length:Int) (call (Z294.R ((aT.at a (toNat c)).aq.bP.aX,(i64.wrap ((i64.wrap ((i64.wrap ((i64.wrap ((i64.wrap ((i64.wrap ((i64.wrap ((i64.wrap (b+1))+1))+1))+1))+1))+1))+1))+1)))) fun v1=>(cond (decide (v1<0)) (ret ((-1):Int)) (m2 c (a.length:Int) (cond ((aT.at a (toNat c)).aq.bP.cF != v1) (ret ((-1):Int)) (m2 c (a.length:Int) (call (Z294.R ((aT.at a (toNat c)).aq.bD.aX,(i64.wrap (v1+1)))) fun v2=>(cond (decide (v2<0)) (ret ((-1):Int)) (m2 c (a.length:Int) (cond ((aT.at a (toNat c)).aq.bD.cF != v2) (ret ((-1):Int)) (m2 c (a.length:Int) (cond ((aT.at a (toNat c)).aq.dw != (i64.wrap (v2+1))) (ret ((-1):Int)) (m2 c (a.length:Int) (call (Z294.R ((aT.at a (toNat c)).aq.bA.aX,(i64.wrap ((i64.wrap (v2+1))+1)))) fun v3=>(cond (decide (v3<0)) (ret ((-1):Int)) (m2 c (a.length:Int) (cond ((aT.at a (toNat c)).aq.bA.cF != v3) (ret ((-1):Int)) (m2 c (a.length:Int) (cond (!((aT.at a (toNat c)).aq.bG==((Int.tmod (i64.wrap (v3+1)) 3)==0))) (ret ((-1):Int)) (m2 c (a.length:Int) (call (Z295.R ((aT.at a (toNat c)).cu,(i64.wrap ((i64.wrap (v3+1))+1)))) fun v4=>(cond (decide (v4<0)) (ret ((-1):Int)) (J (.p0 a v4 (i64.wrap (c+1)))))))))))))))))))))))))))))))))))))))))) (ret (b:Int)))
def start (J:Pt->aI)(x0:aE)(x1:Int):aI:=J (.p0 x0 x1 0)
def live:Nat->Live:=fun i=>match i with | 2=>[(0,none),(1,none),(5,none)] | _=>[]
def pats:List gj:=[.rd (.sl 123),.rd (.int .i64)]
def res:RP:=.one (.rd (.int .i64))
abbrev E:Env:={ T:=assoc kG,G:=dD [(183,Z294.aW),(335,Z295.aW)],nt:=190 }
def step_eq (I:cI)(p:Pt):cY E live I (pid p) (bQ Tryz.f334) (fH (live (pid p)) (ck p) (cj p)) (cH E Tryz.f334 res)=step (fun q=>I (pid q) (ck q) (cj q)) p:=by
 cases p<;>kernel_rfl
def start_eq (I:cI)(ls:List L):eW E live I (bQ Tryz.f334) (dc pats ls) (cH E Tryz.f334 res)=start (fun q=>I (pid q) (ck q) (cj q)) (ls.headD .hole).aQ ((aA 1 ls).headD .hole).toInt:=by kernel_rfl
def run_eq (n:Nat)(ls:List L):eO E live Tryz.f334 res n (dc pats ls)=start (iter step n) (ls.headD .hole).aQ ((aA 1 ls).headD .hole).toInt:=cA (id:=pid) (vs:=ck) (hs:=cj) (step:=step) (start:=fun J=>start J (ls.headD .hole).aQ ((aA 1 ls).headD .hole).toInt) step_eq (fun I=>start_eq I ls) n
def e1 (x:aa)(k:Int):=Z294.md (((x.aq).bP).aX) (i64.wrap ((i64.wrap ((i64.wrap ((i64.wrap ((i64.wrap ((i64.wrap ((i64.wrap ((i64.wrap (k+1))+1))+1))+1))+1))+1))+1))+1))
def e2 (x:aa)(k:Int):=Z294.md (((x.aq).bD).aX) (i64.wrap ((e1 x k)+1))
def e3 (x:aa)(k:Int):=Z294.md (((x.aq).bA).aX) (i64.wrap ((i64.wrap ((e2 x k)+1))+1))
def e4 (x:aa)(k:Int):=Z295.md x.cu (i64.wrap ((i64.wrap ((e3 x k)+1))+1))
def f (x:aa)(k:Int):Option Int:=(cond ((x.aq).bC != k) none (cond ((x.aq).cN != (i64.wrap (k+1))) none (cond ((x.aq).bI != (i64.wrap ((i64.wrap (k+1))+1))) none (cond ((x.aq).cK != (i64.wrap ((i64.wrap ((i64.wrap (k+1))+1))+1))) none (cond ((x.aq).cC != (i64.wrap ((i64.wrap ((i64.wrap ((i64.wrap (k+1))+1))+1))+1))) none (cond ((x.aq).cy != (i64.wrap ((i64.wrap ((i64.wrap ((i64.wrap ((i64.wrap (k+1))+1))+1))+1))+1))) none (cond ((x.aq).dm != (i64.wrap ((i64.wrap ((i64.wrap ((i64.wrap ((i64.wrap ((i64.wrap (k+1))+1))+1))+1))+1))+1))) none (cond ((x.aq).dH != (i64.wrap ((i64.wrap ((i64.wrap ((i64.wrap ((i64.wrap ((i64.wrap ((i64.wrap (k+1))+1))+1))+1))+1))+1))+1))) none (cond (decide ((e1 x k)<0)) none (cond (((x.aq).bP).cF != (e1 x k)) none (cond (decide ((e2 x k)<0)) none (cond (((x.aq).bD).cF != (e2 x k)) none (cond ((x.aq).dw != (i64.wrap ((e2 x k)+1))) none (cond (decide ((e3 x k)<0)) none (cond (((x.aq).bA).cF != (e3 x k)) none (cond (!((x.aq).bG==((Int.tmod (i64.wrap ((e3 x k)+1)) 3)==0))) none (cond (decide ((e4 x k)<0)) none (some (e4 x k)))))))))))))))))))
def ue (x:aa)(k k2:Int)(hk:eJ k)(h:f x k=some k2):eJ k2:=by
 unfold f at h
 have h:=bL h
 have h:=bL h
 have h:=bL h
 have h:=bL h
 have h:=bL h
 have h:=bL h
 have h:=bL h
 have h:=bL h
 have h:=bL h
 have h:=bL h
 have h:=bL h
 have h:=bL h
 have h:=bL h
 have h:=bL h
 have h:=bL h
 have h:=bL h
 have h:=bL h
 injection h with h
 subst h
 exact (Z295.iq (cD _))
def md (a0:List aa)(a1:Int):Int:=jw f a0 a1
def gd (a0:List aa)(a1:Int):Prop:=eJ a1
def acc (ls:List L):aE×Int:=((ls.headD .hole).aQ,((aA 1 ls).headD .hole).toInt)
def R:(aE×Int)->Option Int:=RR (p2 gd) (u2 md)
def aj {a0 a1}(h:gd a0 a1):R ((a0.map aa.row),a1)=some (md a0 a1):=aP (a:=(a0,a1)) h
def aW:ga:=CN pats res acc R
def bt (a0:List aa)(a1:Int)(hg:gd a0 a1)(h0:a0.length<=maxLen):∃n,start (iter step n) (a0.map aa.row) a1=ret ((md a0 a1):Int):=by
 unfold gd at hg
 show ∃n,iter step n (Pt.p0 (a0.map aa.row) a1 0)=_
 unfold md
 refine jt (f:=f) (xs:=a0) aa.zero eJ ue (pt:=fun i k=>Pt.p0 (a0.map aa.row) k (i:Int)) (fun J i k hi hk=>?_) (fun J k=>?_) hg
 ·simp only [step,SS]
  refine ak (aO hi) ?_
  refine ak aJ ?_
  refine ak (aO hi) ?_
  refine bN rfl ?_
  refine ak aJ ?_
  refine ak (aO hi) ?_
  refine bN rfl ?_
  refine ak aJ ?_
  refine ak (aO hi) ?_
  refine bN rfl ?_
  refine ak aJ ?_
  refine ak (aO hi) ?_
  refine bN rfl ?_
  refine ak aJ ?_
  refine ak (aO hi) ?_
  refine bN rfl ?_
  refine ak aJ ?_
  refine ak (aO hi) ?_
  refine bN rfl ?_
  refine ak aJ ?_
  refine ak (aO hi) ?_
  refine bN rfl ?_
  refine ak aJ ?_
  refine ak (aO hi) ?_
  refine bN rfl ?_
  refine ak aJ ?_
  refine ak (aO hi) ?_
  refine bg (e1 (a0.getD i aa.zero) k) (Z294.aj (a0:=(((a0.getD i aa.zero).aq).bP).aX) (a1:=i64.wrap ((i64.wrap ((i64.wrap ((i64.wrap ((i64.wrap ((i64.wrap ((i64.wrap ((i64.wrap (k+1))+1))+1))+1))+1))+1))+1))+1)) (cD _)) ?_
  refine bN rfl ?_
  refine ak aJ ?_
  refine ak (aO hi) ?_
  refine bN rfl ?_
  refine ak aJ ?_
  refine ak (aO hi) ?_
  refine bg (e2 (a0.getD i aa.zero) k) (Z294.aj (a0:=(((a0.getD i aa.zero).aq).bD).aX) (a1:=i64.wrap ((e1 (a0.getD i aa.zero) k)+1)) (cD _)) ?_
  refine bN rfl ?_
  refine ak aJ ?_
  refine ak (aO hi) ?_
  refine bN rfl ?_
  refine ak aJ ?_
  refine ak (aO hi) ?_
  refine bN rfl ?_
  refine ak aJ ?_
  refine ak (aO hi) ?_
  refine bg (e3 (a0.getD i aa.zero) k) (Z294.aj (a0:=(((a0.getD i aa.zero).aq).bA).aX) (a1:=i64.wrap ((i64.wrap ((e2 (a0.getD i aa.zero) k)+1))+1)) (cD _)) ?_
  refine bN rfl ?_
  refine ak aJ ?_
  refine ak (aO hi) ?_
  refine bN rfl ?_
  refine ak aJ ?_
  refine ak (aO hi) ?_
  refine bN rfl ?_
  refine ak aJ ?_
  refine ak (aO hi) ?_
  refine bg (e4 (a0.getD i aa.zero) k) (Z295.aj (a0:=(a0.getD i aa.zero).cu) (a1:=i64.wrap ((i64.wrap ((e3 (a0.getD i aa.zero) k)+1))+1)) (cD _)) ?_
  refine bN rfl ?_
  rw [aH hi h0]
  rfl
 ·simp only [step,SS]
  refine cT (by apply decide_eq_false;omega) ?_
  rfl
def af:cz 334 aW:=VV (run:=fun n x=>start (iter step n) x.1 x.2) mix aF (.cons Z294.af (.cons Z295.af .nil)) Tryz.func334 (by kernel_rfl) run_eq (fun ls a hl e hg=>bt a.1 a.2 hg (by have h:(ls.headD .hole).aQ.length<=maxLen:=hl.1.len;have e:a.1.map aa.row=(ls.headD .hole).aQ:=(congrArg (fun x=>x.1) e.symm);rw [<-e] at h;simpa using h))
def iq {a0:List aa}{a1:Int}(h:eJ a1):eJ (md a0 a1):=kH ue jL h
def xS (x:aa)(k:Int)(h0:0<=k)(hb:k+(Z282.cnt x:Int)<=4611686018427387904):f (Z282.el x k).2 k=some (k+Z282.cnt x):=by
 simp only [Z282.cnt,Int.natCast_add] at hb ⊢
 simp (disch:=omega) only [Z282.el,f,Z282.e1,Z282.e2,Z282.e3,Z282.e4,e1,e2,e3,e4,wi,Z280.kk,Z294.mk,Z281.kk,Z295.mk,bne_self_eq_false,beq_self_eq_true,gh,Bool.not_true,bq,dA]
 all_goals first | done | omega | (congr 1<;>omega)
def mk (a0:List aa)(a1:Int)(h0:0<=a1)(hb:a1+(Z282.sum a0:Int)<=4611686018427387904):md (Z282.md a0 a1).2 a1=a1+Z282.sum a0:=iI Z282.pQ xS a0 a1 h0 hb
end Z296
namespace Z297
set_option maxHeartbeats 8000000
inductive Pt where
 | p0 (a:aE) (b c:Int)
def pid:Pt->Nat
 | .p0 ..=>2
def ck:Pt->List V
 | .p0 a b c=>[.sl none 92 a,.int .i64 b,.int .i64 c]
def cj:Pt->List aY
 | .p0 a b c=>[]
def step (J:Pt->aI):Pt->aI
 | .p0 a b c=>(cond (decide (c<(a.length:Int))) (m2 c (a.length:Int) (call (Z296.R ((oG a (toNat c)),b)) fun v1=>(cond (decide (v1<0)) (ret ((-1):Int)) (J (.p0 a v1 (i64.wrap (c+1))))))) (ret (b:Int)))
def start (J:Pt->aI)(x0:aE)(x1:Int):aI:=J (.p0 x0 x1 0)
def live:Nat->Live:=fun i=>match i with | 2=>[(0,none),(1,none),(5,none)] | _=>[]
def pats:List gj:=[.rd (.sl 92),.rd (.int .i64)]
def res:RP:=.one (.rd (.int .i64))
abbrev E:Env:={ T:=assoc kG,G:=dD [(334,Z296.aW)],nt:=21 }
def step_eq (I:cI)(p:Pt):cY E live I (pid p) (bQ Tryz.f180) (fH (live (pid p)) (ck p) (cj p)) (cH E Tryz.f180 res)=step (fun q=>I (pid q) (ck q) (cj q)) p:=by
 cases p<;>kernel_rfl
def start_eq (I:cI)(ls:List L):eW E live I (bQ Tryz.f180) (dc pats ls) (cH E Tryz.f180 res)=start (fun q=>I (pid q) (ck q) (cj q)) (ls.headD .hole).aQ ((aA 1 ls).headD .hole).toInt:=by kernel_rfl
def run_eq (n:Nat)(ls:List L):eO E live Tryz.f180 res n (dc pats ls)=start (iter step n) (ls.headD .hole).aQ ((aA 1 ls).headD .hole).toInt:=cA (id:=pid) (vs:=ck) (hs:=cj) (step:=step) (start:=fun J=>start J (ls.headD .hole).aQ ((aA 1 ls).headD .hole).toInt) step_eq (fun I=>start_eq I ls) n
def e1 (x:List aa)(k:Int):=Z296.md x k
def f (x:List aa)(k:Int):Option Int:=(cond (decide ((e1 x k)<0)) none (some (e1 x k)))
def ue (x:List aa)(k k2:Int)(hk:eJ k)(h:f x k=some k2):eJ k2:=by
 unfold f at h
 have h:=bL h
 injection h with h
 subst h
 exact (Z296.iq hk)
def md (a0:List (List aa))(a1:Int):Int:=jw f a0 a1
def gd (a0:List (List aa))(a1:Int):Prop:=eJ a1
def acc (ls:List L):aE×Int:=((ls.headD .hole).aQ,((aA 1 ls).headD .hole).toInt)
def R:(aE×Int)->Option Int:=RR (p2 gd) (u2 md)
def aj {a0 a1}(h:gd a0 a1):R ((a0.map (dO aa.row)),a1)=some (md a0 a1):=aP (a:=(a0,a1)) h
def aW:ga:=CN pats res acc R
def bt (a0:List (List aa))(a1:Int)(hg:gd a0 a1)(h0:a0.length<=maxLen):∃n,start (iter step n) (a0.map (dO aa.row)) a1=ret ((md a0 a1):Int):=by
 unfold gd at hg
 show ∃n,iter step n (Pt.p0 (a0.map (dO aa.row)) a1 0)=_
 unfold md
 refine jt (f:=f) (xs:=a0) [] eJ ue (pt:=fun i k=>Pt.p0 (a0.map (dO aa.row)) k (i:Int)) (fun J i k hi hk=>?_) (fun J k=>?_) hg
 ·simp only [step,SS]
  refine ak (aO hi) ?_
  refine ak aJ ?_
  refine ak (aO hi) ?_
  refine bg (e1 (a0.getD i []) k) (Z296.aj (a0:=a0.getD i []) (a1:=k) hk) ?_
  refine bN rfl ?_
  rw [aH hi h0]
  rfl
 ·simp only [step,SS]
  refine cT (by apply decide_eq_false;omega) ?_
  rfl
def af:cz 180 aW:=VV (run:=fun n x=>start (iter step n) x.1 x.2) mix aF (.cons Z296.af .nil) Tryz.func180 (by kernel_rfl) run_eq (fun ls a hl e hg=>bt a.1 a.2 hg (by have h:(ls.headD .hole).aQ.length<=maxLen:=hl.1.len;have e:a.1.map (dO aa.row)=(ls.headD .hole).aQ:=(congrArg (fun x=>x.1) e.symm);rw [<-e] at h;simpa using h))
def iq {a0:List (List aa)}{a1:Int}(h:eJ a1):eJ (md a0 a1):=kH ue jL h
def xS (x:List aa)(k:Int)(h0:0<=k)(hb:k+(Z283.cnt x:Int)<=4611686018427387904):f (Z283.el x k).2 k=some (k+Z283.cnt x):=by
 simp only [Z283.cnt,Int.natCast_add] at hb ⊢
 simp (disch:=omega) only [Z283.el,f,Z283.e1,e1,wi,Z282.kk,Z296.mk,bne_self_eq_false,beq_self_eq_true,gh,Bool.not_true,bq,dA]
 all_goals first | done | omega | (congr 1<;>omega)
def mk (a0:List (List aa))(a1:Int)(h0:0<=a1)(hb:a1+(Z283.sum a0:Int)<=4611686018427387904):md (Z283.md a0 a1).2 a1=a1+Z283.sum a0:=iI Z283.pQ xS a0 a1 h0 hb
end Z297
namespace Z298
set_option maxHeartbeats 8000000
inductive Pt where
 | p0 (a:aE) (b c:Int)
def pid:Pt->Nat
 | .p0 ..=>2
def ck:Pt->List V
 | .p0 a b c=>[.sl none 280 a,.int .i64 b,.int .i64 c]
def cj:Pt->List aY
 | .p0 a b c=>[]
def step (J:Pt->aI):Pt->aI
 | .p0 a b c=>(cond (decide (c<(a.length:Int))) (m2 c (a.length:Int) (cond ((bK.at a (toNat c)).aS.aq.bC != b) (ret ((-1):Int)) (m2 c (a.length:Int) (cond ((bK.at a (toNat c)).aS.aq.cN != (i64.wrap (b+1))) (ret ((-1):Int)) (m2 c (a.length:Int) (cond ((bK.at a (toNat c)).aS.aq.bI != (i64.wrap ((i64.wrap (b+1))+1))) (ret ((-1):Int)) (m2 c (a.length:Int) (cond ((bK.at a (toNat c)).aS.aq.cK != (i64.wrap ((i64.wrap ((i64.wrap (b+1))+1))+1))) (ret ((-1):Int)) (m2 c (a.length:Int) (cond ((bK.at a (toNat c)).aS.aq.cC != (i64.wrap ((i64.wrap ((i64.wrap ((i64.wrap (b+1))+1))+1))+1))) (ret ((-1):Int)) (m2 c (a.length:Int) (cond ((bK.at a (toNat c)).aS.aq.cy != (i64.wrap ((i64.wrap ((i64.wrap ((i64.wrap ((i64.wrap (b+1))+1))+1))+1))+1))) (ret ((-1):Int)) (m2 c (a.length:Int) (cond ((bK.at a (toNat c)).aS.aq.dm != (i64.wrap ((i64.wrap ((i64.wrap ((i64.wrap ((i64.wrap ((i64.wrap (b+1))+1))+1))+1))+1))+1))) (ret ((-1):Int)) (m2 c (a.length:Int) (cond ((bK.at a (toNat c)).aS.aq.dH != (i64.wrap ((i64.wrap ((i64.wrap ((i64.wrap ((i64.wrap ((i64.wrap ((i64.wrap (b+1))+1))+1))+1))+1))+1))+1))) (ret ((-1):Int)) (m2 c (a.length:Int) (call (Z294.R ((bK.at a (toNat c)).aS.aq.bP.aX,(i64.wrap ((i64.wrap ((i64.wrap ((i64.wrap ((i64.wrap ((i64.wrap ((i64.wrap ((i64.wrap (b+1))+1))+1))+1))+1))+1))+1))+1)))) fun v1=>(cond (decide (v1<0)) (ret ((-1):Int)) (m2 c (a.length:Int) (cond ((bK.at a (toNat c)).aS.aq.bP.cF != v1) (ret ((-1):Int)) (m2 c (a.length:Int) (call (Z294.R ((bK.at a (toNat c)).aS.aq.bD.aX,(i64.wrap (v1+1)))) fun v2=>(cond (decide (v2<0)) (ret ((-1):Int)) (m2 c (a.length:Int) (cond ((bK.at a (toNat c)).aS.aq.bD.cF != v2) (ret ((-1):Int)) (m2 c (a.length:Int) (cond ((bK.at a (toNat c)).aS.aq.dw != (i64.wrap (v2+1))) (ret ((-1):Int)) (m2 c (a.length:Int) (call (Z294.R ((bK.at a (toNat c)).aS.aq.bA.aX,(i64.wrap ((i64.wrap (v2+1))+1)))) fun v3=>(cond (decide (v3<0)) (ret ((-1):Int)) (m2 c (a.length:Int) (cond ((bK.at a (toNat c)).aS.aq.bA.cF != v3) (ret ((-1):Int)) (m2 c (a.length:Int) (cond (!((bK.at a (toNat c)).aS.aq.bG==((Int.tmod (i64.wrap (v3+1)) 3)==0))) (ret ((-1):Int)) (m2 c (a.length:Int) (call (Z295.R ((bK.at a (toNat c)).aS.cu,(i64.wrap ((i64.wrap (v3+1))+1)))) fun v4=>(cond (decide (v4<0)) (ret ((-1):Int)) (m2 c (a.length:Int) (cond ((bK.at a (toNat c)).fA.aq.bC != v4) (ret ((-1):Int)) (m2 c (a.length:Int) (cond ((bK.at a (toNat c)).fA.aq.cN != (i64.wrap (v4+1))) (ret ((-1):Int)) (m2 c (a.length:Int) (cond ((bK.at a (toNat c)).fA.aq.bI != (i64.wrap ((i64.wrap (v4+1))+1))) (ret ((-1):Int)) (m2 c (a.length:Int) (cond ((bK.at a (toNat c)).fA.aq.cK != (i64.wrap ((i64.wrap ((i64.wrap (v4+1))+1))+1))) (ret ((-1):Int)) (m2 c (a.length:Int) (cond ((bK.at a (toNat c)).fA.aq.cC != (i64.wrap ((i64.wrap ((i64.wrap ((i64.wrap (v4+1))+1))+1))+1))) (ret ((-1):Int)) (m2 c (a.length:Int) (cond ((bK.at a (toNat c)).fA.aq.cy != (i64.wrap ((i64.wrap ((i64.wrap ((i64.wrap ((i64.wrap (v4+1))+1))+1))+1))+1))) (ret ((-1):Int)) (m2 c (a.length:Int) (cond ((bK.at a (toNat c)).fA.aq.dm != (i64.wrap ((i64.wrap ((i64.wrap ((i64.wrap ((i64.wrap ((i64.wrap (v4+1))+1))+1))+1))+1))+1))) (ret ((-1):Int)) (m2 c (a.length:Int) (cond ((bK.at a (toNat c)).fA.aq.dH != (i64.wrap ((i64.wrap ((i64.wrap ((i64.wrap ((i64.wrap ((i64.wrap ((i64.wrap (v4+1))+1))+1))+1))+1))+1))+1))) (ret ((-1):Int)) (m2 c (a.length:Int) (call (Z294.R ((bK.at a (toNat c)).fA.aq.bP.aX,(i64.wrap ((i64.wrap ((i64.wrap ((i64.wrap ((i64.wrap ((i64.wrap ((i64.wrap ((i64.wrap (v4+1))+1))+1))+1))+1))+1))+1))+1)))) fun v5=>(cond (decide (v5<0)) (ret ((-1):Int)) (m2 c (a.length:Int) (cond ((bK.at a (toNat c)).fA.aq.bP.cF != v5) (ret ((-1):Int)) (m2 c (a.length:Int) (call (Z294.R ((bK.at a (toNat c)).fA.aq.bD.aX,(i64.wrap (v5+1)))) fun v6=>(cond (decide (v6<0)) (ret ((-1):Int)) (m2 c (a.length:Int) (cond ((bK.at a (toNat c)).fA.aq.bD.cF != v6) (ret ((-1):Int)) (m2 c (a.length:Int) (cond ((bK.at a (toNat c)).fA.aq.dw != (i64.wrap (v6+1))) (ret ((-1):Int)) (m2 c (a.length:Int) (call (Z294.R ((bK.at a (toNat c)).fA.aq.bA.aX,(i64.wrap ((i64.wrap (v6+1))+1)))) fun v7=>(cond (decide (v7<0)) (ret ((-1):Int)) (m2 c (a.length:Int) (cond ((bK.at a (toNat c)).fA.aq.bA.cF != v7) (ret ((-1):Int)) (m2 c (a.length:Int) (cond (!((bK.at a (toNat c)).fA.aq.bG==((Int.tmod (i64.wrap (v7+1)) 3)==0))) (ret ((-1):Int)) (m2 c (a.length:Int) (call (Z295.R ((bK.at a (toNat c)).fA.cu,(i64.wrap ((i64.wrap (v7+1))+1)))) fun v8=>(cond (decide (v8<0)) (ret ((-1):Int)) (m2 c (a.length:Int) (cond ((bK.at a (toNat c)).fB.aq.bC != v8) (ret ((-1):Int)) (m2 c (a.length:Int) (cond ((bK.at a (toNat c)).fB.aq.cN != (i64.wrap (v8+1))) (ret ((-1):Int)) (m2 c (a.length:Int) (cond ((bK.at a (toNat c)).fB.aq.bI != (i64.wrap ((i64.wrap (v8+1))+1))) (ret ((-1):Int)) (m2 c (a.length:Int) (cond ((bK.at a (toNat c)).fB.aq.cK != (i64.wrap ((i64.wrap ((i64.wrap (v8+1))+1))+1))) (ret ((-1):Int)) (m2 c (a.length:Int) (cond ((bK.at a (toNat c)).fB.aq.cC != (i64.wrap ((i64.wrap ((i64.wrap ((i64.wrap (v8+1))+1))+1))+1))) (ret ((-1):Int)) (m2 c (a.length:Int) (cond ((bK.at a (toNat c)).fB.aq.cy != (i64.wrap ((i64.wrap ((i64.wrap ((i64.wrap ((i64.wrap (v8+1))+1))+1))+1))+1))) (ret ((-1):Int)) (m2 c (a.length:Int) (cond ((bK.at a (toNat c)).fB.aq.dm != (i64.wrap ((i64.wrap ((i64.wrap ((i64.wrap ((i64.wrap ((i64.wrap (v8+1))+1))+1))+1))+1))+1))) (ret ((-1):Int)) (m2 c (a.length:Int) (cond ((bK.at a (toNat c)).fB.aq.dH != (i64.wrap ((i64.wrap ((i64.wrap ((i64.wrap ((i64.wrap ((i64.wrap ((i64.wrap (v8+1))+1))+1))+1))+1))+1))+1))) (ret ((-1):Int)) (m2 c (a.length:Int) (call (Z294.R ((bK.at a (toNat c)).fB.aq.bP.aX,(i64.wrap ((i64.wrap ((i64.wrap ((i64.wrap ((i64.wrap ((i64.wrap ((i64.wrap ((i64.wrap (v8+1))+1))+1))+1))+1))+1))+1))+1)))) fun v9=>(cond (decide (v9<0)) (ret ((-1):Int)) (m2 c (a.length:Int) (cond ((bK.at a (toNat c)).fB.aq.bP.cF != v9) (ret ((-1):Int)) (m2 c (a.length:Int) (call (Z294.R ((bK.at a (toNat c)).fB.aq.bD.aX,(i64.wrap (v9+1)))) fun v10=>(cond (decide (v10<0)) (ret ((-1):Int)) (m2 c (a.length:Int) (cond ((bK.at a (toNat c)).fB.aq.bD.cF != v10) (ret ((-1):Int)) (m2 c (a.length:Int) (cond ((bK.at a (toNat c)).fB.aq.dw != (i64.wrap (v10+1))) (ret ((-1):Int)) (m2 c (a.length:Int) (call (Z294.R ((bK.at a (toNat c)).fB.aq.bA.aX,(i64.wrap ((i64.wrap (v10+1))+1)))) fun v11=>(cond (decide (v11<0)) (ret ((-1):Int)) (m2 c (a.length:Int) (cond ((bK.at a (toNat c)).fB.aq.bA.cF != v11) (ret ((-1):Int)) (m2 c (a.length:Int) (cond (!((bK.at a (toNat c)).fB.aq.bG==((Int.tmod (i64.wrap (v11+1)) 3)==0))) (ret ((-1):Int)) (m2 c (a.length:Int) (call (Z295.R ((bK.at a (toNat c)).fB.cu,(i64.wrap ((i64.wrap (v11+1))+1)))) fun v12=>(cond (decide (v12<0)) (ret ((-1):Int)) (J (.p0 a v12 (i64.wrap (c+1)))))))))))))))))))))))))))))))))))))))))))))))))))))))))))))))))))))))))))))))))))))))))))))))))))))))))))))))))))))) (ret (b:Int)))
def start (J:Pt->aI)(x0:aE)(x1:Int):aI:=J (.p0 x0 x1 0)
def live:Nat->Live:=fun i=>match i with | 2=>[(0,none),(1,none),(5,none)] | _=>[]
def pats:List gj:=[.rd (.sl 280),.rd (.int .i64)]
def res:RP:=.one (.rd (.int .i64))
abbrev E:Env:={ T:=assoc kG,G:=dD [(183,Z294.aW),(335,Z295.aW)],nt:=595 }
def step_eq (I:cI)(p:Pt):cY E live I (pid p) (bQ Tryz.f181) (fH (live (pid p)) (ck p) (cj p)) (cH E Tryz.f181 res)=step (fun q=>I (pid q) (ck q) (cj q)) p:=by
 cases p<;>kernel_rfl
def start_eq (I:cI)(ls:List L):eW E live I (bQ Tryz.f181) (dc pats ls) (cH E Tryz.f181 res)=start (fun q=>I (pid q) (ck q) (cj q)) (ls.headD .hole).aQ ((aA 1 ls).headD .hole).toInt:=by kernel_rfl
def run_eq (n:Nat)(ls:List L):eO E live Tryz.f181 res n (dc pats ls)=start (iter step n) (ls.headD .hole).aQ ((aA 1 ls).headD .hole).toInt:=cA (id:=pid) (vs:=ck) (hs:=cj) (step:=step) (start:=fun J=>start J (ls.headD .hole).aQ ((aA 1 ls).headD .hole).toInt) step_eq (fun I=>start_eq I ls) n
def e1 (x:aC)(k:Int):=Z294.md ((((x.aS).aq).bP).aX) (i64.wrap ((i64.wrap ((i64.wrap ((i64.wrap ((i64.wrap ((i64.wrap ((i64.wrap ((i64.wrap (k+1))+1))+1))+1))+1))+1))+1))+1))
def e2 (x:aC)(k:Int):=Z294.md ((((x.aS).aq).bD).aX) (i64.wrap ((e1 x k)+1))
def e3 (x:aC)(k:Int):=Z294.md ((((x.aS).aq).bA).aX) (i64.wrap ((i64.wrap ((e2 x k)+1))+1))
def e4 (x:aC)(k:Int):=Z295.md ((x.aS).cu) (i64.wrap ((i64.wrap ((e3 x k)+1))+1))
def e5 (x:aC)(k:Int):=Z294.md ((((x.fA).aq).bP).aX) (i64.wrap ((i64.wrap ((i64.wrap ((i64.wrap ((i64.wrap ((i64.wrap ((i64.wrap ((i64.wrap ((e4 x k)+1))+1))+1))+1))+1))+1))+1))+1))
def e6 (x:aC)(k:Int):=Z294.md ((((x.fA).aq).bD).aX) (i64.wrap ((e5 x k)+1))
def e7 (x:aC)(k:Int):=Z294.md ((((x.fA).aq).bA).aX) (i64.wrap ((i64.wrap ((e6 x k)+1))+1))
def e8 (x:aC)(k:Int):=Z295.md ((x.fA).cu) (i64.wrap ((i64.wrap ((e7 x k)+1))+1))
def e9 (x:aC)(k:Int):=Z294.md ((((x.fB).aq).bP).aX) (i64.wrap ((i64.wrap ((i64.wrap ((i64.wrap ((i64.wrap ((i64.wrap ((i64.wrap ((i64.wrap ((e8 x k)+1))+1))+1))+1))+1))+1))+1))+1))
def uR (x:aC)(k:Int):=Z294.md ((((x.fB).aq).bD).aX) (i64.wrap ((e9 x k)+1))
def tY (x:aC)(k:Int):=Z294.md ((((x.fB).aq).bA).aX) (i64.wrap ((i64.wrap ((uR x k)+1))+1))
def yt (x:aC)(k:Int):=Z295.md ((x.fB).cu) (i64.wrap ((i64.wrap ((tY x k)+1))+1))
def f (x:aC)(k:Int):Option Int:=(cond (((x.aS).aq).bC != k) none (cond (((x.aS).aq).cN != (i64.wrap (k+1))) none (cond (((x.aS).aq).bI != (i64.wrap ((i64.wrap (k+1))+1))) none (cond (((x.aS).aq).cK != (i64.wrap ((i64.wrap ((i64.wrap (k+1))+1))+1))) none (cond (((x.aS).aq).cC != (i64.wrap ((i64.wrap ((i64.wrap ((i64.wrap (k+1))+1))+1))+1))) none (cond (((x.aS).aq).cy != (i64.wrap ((i64.wrap ((i64.wrap ((i64.wrap ((i64.wrap (k+1))+1))+1))+1))+1))) none (cond (((x.aS).aq).dm != (i64.wrap ((i64.wrap ((i64.wrap ((i64.wrap ((i64.wrap ((i64.wrap (k+1))+1))+1))+1))+1))+1))) none (cond (((x.aS).aq).dH != (i64.wrap ((i64.wrap ((i64.wrap ((i64.wrap ((i64.wrap ((i64.wrap ((i64.wrap (k+1))+1))+1))+1))+1))+1))+1))) none (cond (decide ((e1 x k)<0)) none (cond ((((x.aS).aq).bP).cF != (e1 x k)) none (cond (decide ((e2 x k)<0)) none (cond ((((x.aS).aq).bD).cF != (e2 x k)) none (cond (((x.aS).aq).dw != (i64.wrap ((e2 x k)+1))) none (cond (decide ((e3 x k)<0)) none (cond ((((x.aS).aq).bA).cF != (e3 x k)) none (cond (!(((x.aS).aq).bG==((Int.tmod (i64.wrap ((e3 x k)+1)) 3)==0))) none (cond (decide ((e4 x k)<0)) none (cond (((x.fA).aq).bC != (e4 x k)) none (cond (((x.fA).aq).cN != (i64.wrap ((e4 x k)+1))) none (cond (((x.fA).aq).bI != (i64.wrap ((i64.wrap ((e4 x k)+1))+1))) none (cond (((x.fA).aq).cK != (i64.wrap ((i64.wrap ((i64.wrap ((e4 x k)+1))+1))+1))) none (cond (((x.fA).aq).cC != (i64.wrap ((i64.wrap ((i64.wrap ((i64.wrap ((e4 x k)+1))+1))+1))+1))) none (cond (((x.fA).aq).cy != (i64.wrap ((i64.wrap ((i64.wrap ((i64.wrap ((i64.wrap ((e4 x k)+1))+1))+1))+1))+1))) none (cond (((x.fA).aq).dm != (i64.wrap ((i64.wrap ((i64.wrap ((i64.wrap ((i64.wrap ((i64.wrap ((e4 x k)+1))+1))+1))+1))+1))+1))) none (cond (((x.fA).aq).dH != (i64.wrap ((i64.wrap ((i64.wrap ((i64.wrap ((i64.wrap ((i64.wrap ((i64.wrap ((e4 x k)+1))+1))+1))+1))+1))+1))+1))) none (cond (decide ((e5 x k)<0)) none (cond ((((x.fA).aq).bP).cF != (e5 x k)) none (cond (decide ((e6 x k)<0)) none (cond ((((x.fA).aq).bD).cF != (e6 x k)) none (cond (((x.fA).aq).dw != (i64.wrap ((e6 x k)+1))) none (cond (decide ((e7 x k)<0)) none (cond ((((x.fA).aq).bA).cF != (e7 x k)) none (cond (!(((x.fA).aq).bG==((Int.tmod (i64.wrap ((e7 x k)+1)) 3)==0))) none (cond (decide ((e8 x k)<0)) none (cond (((x.fB).aq).bC != (e8 x k)) none (cond (((x.fB).aq).cN != (i64.wrap ((e8 x k)+1))) none (cond (((x.fB).aq).bI != (i64.wrap ((i64.wrap ((e8 x k)+1))+1))) none (cond (((x.fB).aq).cK != (i64.wrap ((i64.wrap ((i64.wrap ((e8 x k)+1))+1))+1))) none (cond (((x.fB).aq).cC != (i64.wrap ((i64.wrap ((i64.wrap ((i64.wrap ((e8 x k)+1))+1))+1))+1))) none (cond (((x.fB).aq).cy != (i64.wrap ((i64.wrap ((i64.wrap ((i64.wrap ((i64.wrap ((e8 x k)+1))+1))+1))+1))+1))) none (cond (((x.fB).aq).dm != (i64.wrap ((i64.wrap ((i64.wrap ((i64.wrap ((i64.wrap ((i64.wrap ((e8 x k)+1))+1))+1))+1))+1))+1))) none (cond (((x.fB).aq).dH != (i64.wrap ((i64.wrap ((i64.wrap ((i64.wrap ((i64.wrap ((i64.wrap ((i64.wrap ((e8 x k)+1))+1))+1))+1))+1))+1))+1))) none (cond (decide ((e9 x k)<0)) none (cond ((((x.fB).aq).bP).cF != (e9 x k)) none (cond (decide ((uR x k)<0)) none (cond ((((x.fB).aq).bD).cF != (uR x k)) none (cond (((x.fB).aq).dw != (i64.wrap ((uR x k)+1))) none (cond (decide ((tY x k)<0)) none (cond ((((x.fB).aq).bA).cF != (tY x k)) none (cond (!(((x.fB).aq).bG==((Int.tmod (i64.wrap ((tY x k)+1)) 3)==0))) none (cond (decide ((yt x k)<0)) none (some (yt x k)))))))))))))))))))))))))))))))))))))))))))))))))))))
def ue (x:aC)(k k2:Int)(hk:eJ k)(h:f x k=some k2):eJ k2:=by
 unfold f at h
 have h:=bL h
 have h:=bL h
 have h:=bL h
 have h:=bL h
 have h:=bL h
 have h:=bL h
 have h:=bL h
 have h:=bL h
 have h:=bL h
 have h:=bL h
 have h:=bL h
 have h:=bL h
 have h:=bL h
 have h:=bL h
 have h:=bL h
 have h:=bL h
 have h:=bL h
 have h:=bL h
 have h:=bL h
 have h:=bL h
 have h:=bL h
 have h:=bL h
 have h:=bL h
 have h:=bL h
 have h:=bL h
 have h:=bL h
 have h:=bL h
 have h:=bL h
 have h:=bL h
 have h:=bL h
 have h:=bL h
 have h:=bL h
 have h:=bL h
 have h:=bL h
 have h:=bL h
 have h:=bL h
 have h:=bL h
 have h:=bL h
 have h:=bL h
 have h:=bL h
 have h:=bL h
 have h:=bL h
 have h:=bL h
 have h:=bL h
 have h:=bL h
 have h:=bL h
 have h:=bL h
 have h:=bL h
 have h:=bL h
 have h:=bL h
 have h:=bL h
 injection h with h
 subst h
 exact (Z295.iq (cD _))
def md (a0:List aC)(a1:Int):Int:=jw f a0 a1
def gd (a0:List aC)(a1:Int):Prop:=eJ a1
def acc (ls:List L):aE×Int:=((ls.headD .hole).aQ,((aA 1 ls).headD .hole).toInt)
def R:(aE×Int)->Option Int:=RR (p2 gd) (u2 md)
def aj {a0 a1}(h:gd a0 a1):R ((a0.map aC.row),a1)=some (md a0 a1):=aP (a:=(a0,a1)) h
def aW:ga:=CN pats res acc R
def bt (a0:List aC)(a1:Int)(hg:gd a0 a1)(h0:a0.length<=maxLen):∃n,start (iter step n) (a0.map aC.row) a1=ret ((md a0 a1):Int):=by
 unfold gd at hg
 show ∃n,iter step n (Pt.p0 (a0.map aC.row) a1 0)=_
 unfold md
 refine jt (f:=f) (xs:=a0) aC.zero eJ ue (pt:=fun i k=>Pt.p0 (a0.map aC.row) k (i:Int)) (fun J i k hi hk=>?_) (fun J k=>?_) hg
 ·simp only [step,SS]
  refine ak (aO hi) ?_
  refine ak aJ ?_
  refine ak (aO hi) ?_
  refine bN rfl ?_
  refine ak aJ ?_
  refine ak (aO hi) ?_
  refine bN rfl ?_
  refine ak aJ ?_
  refine ak (aO hi) ?_
  refine bN rfl ?_
  refine ak aJ ?_
  refine ak (aO hi) ?_
  refine bN rfl ?_
  refine ak aJ ?_
  refine ak (aO hi) ?_
  refine bN rfl ?_
  refine ak aJ ?_
  refine ak (aO hi) ?_
  refine bN rfl ?_
  refine ak aJ ?_
  refine ak (aO hi) ?_
  refine bN rfl ?_
  refine ak aJ ?_
  refine ak (aO hi) ?_
  refine bN rfl ?_
  refine ak aJ ?_
  refine ak (aO hi) ?_
  refine bg (e1 (a0.getD i aC.zero) k) (Z294.aj (a0:=((((a0.getD i aC.zero).aS).aq).bP).aX) (a1:=i64.wrap ((i64.wrap ((i64.wrap ((i64.wrap ((i64.wrap ((i64.wrap ((i64.wrap ((i64.wrap (k+1))+1))+1))+1))+1))+1))+1))+1)) (cD _)) ?_
  refine bN rfl ?_
  refine ak aJ ?_
  refine ak (aO hi) ?_
  refine bN rfl ?_
  refine ak aJ ?_
  refine ak (aO hi) ?_
  refine bg (e2 (a0.getD i aC.zero) k) (Z294.aj (a0:=((((a0.getD i aC.zero).aS).aq).bD).aX) (a1:=i64.wrap ((e1 (a0.getD i aC.zero) k)+1)) (cD _)) ?_
  refine bN rfl ?_
  refine ak aJ ?_
  refine ak (aO hi) ?_
  refine bN rfl ?_
  refine ak aJ ?_
  refine ak (aO hi) ?_
  refine bN rfl ?_
  refine ak aJ ?_
  refine ak (aO hi) ?_
  refine bg (e3 (a0.getD i aC.zero) k) (Z294.aj (a0:=((((a0.getD i aC.zero).aS).aq).bA).aX) (a1:=i64.wrap ((i64.wrap ((e2 (a0.getD i aC.zero) k)+1))+1)) (cD _)) ?_
  refine bN rfl ?_
  refine ak aJ ?_
  refine ak (aO hi) ?_
  refine bN rfl ?_
  refine ak aJ ?_
  refine ak (aO hi) ?_
  refine bN rfl ?_
  refine ak aJ ?_
  refine ak (aO hi) ?_
  refine bg (e4 (a0.getD i aC.zero) k) (Z295.aj (a0:=((a0.getD i aC.zero).aS).cu) (a1:=i64.wrap ((i64.wrap ((e3 (a0.getD i aC.zero) k)+1))+1)) (cD _)) ?_
  refine bN rfl ?_
  refine ak aJ ?_
  refine ak (aO hi) ?_
  refine bN rfl ?_
  refine ak aJ ?_
  refine ak (aO hi) ?_
  refine bN rfl ?_
  refine ak aJ ?_
  refine ak (aO hi) ?_
  refine bN rfl ?_
  refine ak aJ ?_
  refine ak (aO hi) ?_
  refine bN rfl ?_
  refine ak aJ ?_
  refine ak (aO hi) ?_
  refine bN rfl ?_
  refine ak aJ ?_
  refine ak (aO hi) ?_
  refine bN rfl ?_
  refine ak aJ ?_
  refine ak (aO hi) ?_
  refine bN rfl ?_
  refine ak aJ ?_
  refine ak (aO hi) ?_
  refine bN rfl ?_
  refine ak aJ ?_
  refine ak (aO hi) ?_
  refine bg (e5 (a0.getD i aC.zero) k) (Z294.aj (a0:=((((a0.getD i aC.zero).fA).aq).bP).aX) (a1:=i64.wrap ((i64.wrap ((i64.wrap ((i64.wrap ((i64.wrap ((i64.wrap ((i64.wrap ((i64.wrap ((e4 (a0.getD i aC.zero) k)+1))+1))+1))+1))+1))+1))+1))+1)) (cD _)) ?_
  refine bN rfl ?_
  refine ak aJ ?_
  refine ak (aO hi) ?_
  refine bN rfl ?_
  refine ak aJ ?_
  refine ak (aO hi) ?_
  refine bg (e6 (a0.getD i aC.zero) k) (Z294.aj (a0:=((((a0.getD i aC.zero).fA).aq).bD).aX) (a1:=i64.wrap ((e5 (a0.getD i aC.zero) k)+1)) (cD _)) ?_
  refine bN rfl ?_
  refine ak aJ ?_
  refine ak (aO hi) ?_
  refine bN rfl ?_
  refine ak aJ ?_
  refine ak (aO hi) ?_
  refine bN rfl ?_
  refine ak aJ ?_
  refine ak (aO hi) ?_
  refine bg (e7 (a0.getD i aC.zero) k) (Z294.aj (a0:=((((a0.getD i aC.zero).fA).aq).bA).aX) (a1:=i64.wrap ((i64.wrap ((e6 (a0.getD i aC.zero) k)+1))+1)) (cD _)) ?_
  refine bN rfl ?_
  refine ak aJ ?_
  refine ak (aO hi) ?_
  refine bN rfl ?_
  refine ak aJ ?_
  refine ak (aO hi) ?_
  refine bN rfl ?_
  refine ak aJ ?_
  refine ak (aO hi) ?_
  refine bg (e8 (a0.getD i aC.zero) k) (Z295.aj (a0:=((a0.getD i aC.zero).fA).cu) (a1:=i64.wrap ((i64.wrap ((e7 (a0.getD i aC.zero) k)+1))+1)) (cD _)) ?_
  refine bN rfl ?_
  refine ak aJ ?_
  refine ak (aO hi) ?_
  refine bN rfl ?_
  refine ak aJ ?_
  refine ak (aO hi) ?_
  refine bN rfl ?_
  refine ak aJ ?_
  refine ak (aO hi) ?_
  refine bN rfl ?_
  refine ak aJ ?_
  refine ak (aO hi) ?_
  refine bN rfl ?_
  refine ak aJ ?_
  refine ak (aO hi) ?_
  refine bN rfl ?_
  refine ak aJ ?_
  refine ak (aO hi) ?_
  refine bN rfl ?_
  refine ak aJ ?_
  refine ak (aO hi) ?_
  refine bN rfl ?_
  refine ak aJ ?_
  refine ak (aO hi) ?_
  refine bN rfl ?_
  refine ak aJ ?_
  refine ak (aO hi) ?_
  refine bg (e9 (a0.getD i aC.zero) k) (Z294.aj (a0:=((((a0.getD i aC.zero).fB).aq).bP).aX) (a1:=i64.wrap ((i64.wrap ((i64.wrap ((i64.wrap ((i64.wrap ((i64.wrap ((i64.wrap ((i64.wrap ((e8 (a0.getD i aC.zero) k)+1))+1))+1))+1))+1))+1))+1))+1)) (cD _)) ?_
  refine bN rfl ?_
  refine ak aJ ?_
  refine ak (aO hi) ?_
  refine bN rfl ?_
  refine ak aJ ?_
  refine ak (aO hi) ?_
  refine bg (uR (a0.getD i aC.zero) k) (Z294.aj (a0:=((((a0.getD i aC.zero).fB).aq).bD).aX) (a1:=i64.wrap ((e9 (a0.getD i aC.zero) k)+1)) (cD _)) ?_
  refine bN rfl ?_
  refine ak aJ ?_
  refine ak (aO hi) ?_
  refine bN rfl ?_
  refine ak aJ ?_
  refine ak (aO hi) ?_
  refine bN rfl ?_
  refine ak aJ ?_
  refine ak (aO hi) ?_
  refine bg (tY (a0.getD i aC.zero) k) (Z294.aj (a0:=((((a0.getD i aC.zero).fB).aq).bA).aX) (a1:=i64.wrap ((i64.wrap ((uR (a0.getD i aC.zero) k)+1))+1)) (cD _)) ?_
  refine bN rfl ?_
  refine ak aJ ?_
  refine ak (aO hi) ?_
  refine bN rfl ?_
  refine ak aJ ?_
  refine ak (aO hi) ?_
  refine bN rfl ?_
  refine ak aJ ?_
  refine ak (aO hi) ?_
  refine bg (yt (a0.getD i aC.zero) k) (Z295.aj (a0:=((a0.getD i aC.zero).fB).cu) (a1:=i64.wrap ((i64.wrap ((tY (a0.getD i aC.zero) k)+1))+1)) (cD _)) ?_
  refine bN rfl ?_
  rw [aH hi h0]
  rfl
 ·simp only [step,SS]
  refine cT (by apply decide_eq_false;omega) ?_
  rfl
def af:cz 181 aW:=VV (run:=fun n x=>start (iter step n) x.1 x.2) mix aF (.cons Z294.af (.cons Z295.af .nil)) Tryz.func181 (by kernel_rfl) run_eq (fun ls a hl e hg=>bt a.1 a.2 hg (by have h:(ls.headD .hole).aQ.length<=maxLen:=hl.1.len;have e:a.1.map aC.row=(ls.headD .hole).aQ:=(congrArg (fun x=>x.1) e.symm);rw [<-e] at h;simpa using h))
def iq {a0:List aC}{a1:Int}(h:eJ a1):eJ (md a0 a1):=kH ue jL h
def xS (x:aC)(k:Int)(h0:0<=k)(hb:k+(Z284.cnt x:Int)<=4611686018427387904):f (Z284.el x k).2 k=some (k+Z284.cnt x):=by
 simp only [Z284.cnt,Int.natCast_add] at hb ⊢
 simp (disch:=omega) only [Z284.el,f,Z284.e1,Z284.e2,Z284.e3,Z284.e4,Z284.e5,Z284.e6,Z284.e7,Z284.e8,Z284.e9,Z284.uR,Z284.tY,Z284.yt,e1,e2,e3,e4,e5,e6,e7,e8,e9,uR,tY,yt,wi,Z280.kk,Z294.mk,Z281.kk,Z295.mk,bne_self_eq_false,beq_self_eq_true,gh,Bool.not_true,bq,dA]
 all_goals first | done | omega | (congr 1<;>omega)
def mk (a0:List aC)(a1:Int)(h0:0<=a1)(hb:a1+(Z284.sum a0:Int)<=4611686018427387904):md (Z284.md a0 a1).2 a1=a1+Z284.sum a0:=iI Z284.pQ xS a0 a1 h0 hb
end Z298
namespace Z299
set_option maxHeartbeats 8000000
def F (x0:bw)(x1:Int):aI:=(call (Z297.R (x0.aK,x1)) fun v1=>(cond (decide (v1<0)) (ret ((-1):Int)) (call (Z298.R (x0.bn,v1)) fun v2=>(cond (decide (v2<0)) (ret ((-1):Int)) (ret (v2:Int))))))
def e1 (x:au)(k:Int):=Z297.md x.aK k
def e2 (x:au)(k:Int):=Z298.md x.bn (e1 x k)
def f (x:au)(k:Int):Option Int:=(cond (decide ((e1 x k)<0)) none (cond (decide ((e2 x k)<0)) none (some ((e2 x k):Int))))
def md (a0:au)(a1:Int):Int:=oY (f a0 a1)
def gd (a0:au)(a1:Int):Prop:=eJ a1
def R:=RR (p2 gd) (u2 md)
def aj {a0 a1}(h:gd a0 a1):R ((au.r a0),a1)=some (md a0 a1):=aP (a:=(a0,a1)) h
def aW:=CN [.agg rT,pI] oI RT.dec R
def bt (a0)(a1)(hg:gd a0 a1):F (au.r a0) a1=ret (md a0 a1):=by
 unfold gd at hg
 simp only [F,SS]
 unfold md
 refine bg (e1 a0 a1) (Z297.aj (a0:=a0.aK) (a1:=a1) hg) ?_
 refine gN rfl ?_
 refine bg (e2 a0 a1) (Z298.aj (a0:=a0.bn) (a1:=e1 a0 a1) (Z297.iq hg)) ?_
 refine gN rfl ?_
 first | rfl | (simp only [SS];rfl)
def af:cz 42 aW:=W2 18 F mix aF bt (.cons Z297.af (.cons Z298.af .nil)) Tryz.func42
def iq {a0:au}{a1:Int}(hk:eJ a1):eJ (md a0 a1):=by
 unfold md
 cases h:f a0 a1 with
 | none=>exact jL
 | some k2=>
  unfold f at h
  have h:=bL h
  have h:=bL h
  injection h with h
  subst h
  exact (Z298.iq (Z297.iq hk))
def mk (x:au)(k:Int)(h0:0<=k)(hb:k+(Z285.sum x:Int)<=4611686018427387904):md (Z285.upd x k) k=k+Z285.sum x:=by
 simp only [Z285.sum,Int.natCast_add] at hb ⊢
 simp (disch:=omega) only [Z285.md,Z285.upd,md,f,oY,Z285.e1,Z285.e2,e1,e2,wi,Z283.kk,Z297.mk,Z284.kk,Z298.mk,bq,dA]
 all_goals first | done | omega
end Z299
namespace Z300
set_option maxHeartbeats 8000000
inductive Pt where
 | p0 (a:aE) (b c:Int)
def pid:Pt->Nat
 | .p0 ..=>2
def ck:Pt->List V
 | .p0 a b c=>[.sl none 9 a,.int .i64 b,.int .i64 c]
def cj:Pt->List aY
 | .p0 a b c=>[]
def step (J:Pt->aI):Pt->aI
 | .p0 a b c=>(cond (decide (c<(a.length:Int))) (m2 c (a.length:Int) (call (Z286.R b) fun v1=>(cond (!((qi a (toNat c))==v1)) (ret ((-1):Int)) (J (.p0 a (i64.wrap (b+1)) (i64.wrap (c+1))))))) (ret (b:Int)))
def start (J:Pt->aI)(x0:aE)(x1:Int):aI:=J (.p0 x0 x1 0)
def live:Nat->Live:=fun i=>match i with | 2=>[(0,none),(1,none),(5,none)] | _=>[]
def pats:List gj:=[.rd (.sl 9),.rd (.int .i64)]
def res:RP:=.one (.rd (.int .i64))
abbrev E:Env:={ T:=assoc kG,G:=dD [(178,Z286.aW)],nt:=22 }
def step_eq (I:cI)(p:Pt):cY E live I (pid p) (bQ Tryz.f182) (fH (live (pid p)) (ck p) (cj p)) (cH E Tryz.f182 res)=step (fun q=>I (pid q) (ck q) (cj q)) p:=by
 cases p<;>kernel_rfl
def start_eq (I:cI)(ls:List L):eW E live I (bQ Tryz.f182) (dc pats ls) (cH E Tryz.f182 res)=start (fun q=>I (pid q) (ck q) (cj q)) (ls.headD .hole).aQ ((aA 1 ls).headD .hole).toInt:=by kernel_rfl
def run_eq (n:Nat)(ls:List L):eO E live Tryz.f182 res n (dc pats ls)=start (iter step n) (ls.headD .hole).aQ ((aA 1 ls).headD .hole).toInt:=cA (id:=pid) (vs:=ck) (hs:=cj) (step:=step) (start:=fun J=>start J (ls.headD .hole).aQ ((aA 1 ls).headD .hole).toInt) step_eq (fun I=>start_eq I ls) n
def f (x:aD)(k:Int):Option Int:=(cond (!(x==(Z286.md k))) none (some (i64.wrap (k+1))))
def ue (x:aD)(k k2:Int)(hk:eJ k)(h:f x k=some k2):eJ k2:=by
 unfold f at h
 have h:=bL h
 injection h with h
 subst h
 exact (cD _)
def md (a0:List aD)(a1:Int):Int:=jw f a0 a1
def gd (a0:List aD)(a1:Int):Prop:=eJ a1
def acc (ls:List L):aE×Int:=((ls.headD .hole).aQ,((aA 1 ls).headD .hole).toInt)
def R:(aE×Int)->Option Int:=RR (p2 gd) (u2 md)
def aj {a0 a1}(h:gd a0 a1):R ((a0.map cG),a1)=some (md a0 a1):=aP (a:=(a0,a1)) h
def aW:ga:=CN pats res acc R
def bt (a0:List aD)(a1:Int)(hg:gd a0 a1)(h0:a0.length<=maxLen):∃n,start (iter step n) (a0.map cG) a1=ret ((md a0 a1):Int):=by
 unfold gd at hg
 show ∃n,iter step n (Pt.p0 (a0.map cG) a1 0)=_
 unfold md
 refine jt (f:=f) (xs:=a0) ⟨#[]⟩ eJ ue (pt:=fun i k=>Pt.p0 (a0.map cG) k (i:Int)) (fun J i k hi hk=>?_) (fun J k=>?_) hg
 ·simp only [step,SS]
  refine ak (aO hi) ?_
  refine ak aJ ?_
  refine ak (aO hi) ?_
  refine bg (Z286.md k) (Z286.aj (a0:=k) hk) ?_
  refine bN rfl ?_
  rw [aH hi h0]
  rfl
 ·simp only [step,SS]
  refine cT (by apply decide_eq_false;omega) ?_
  rfl
def af:cz 182 aW:=VV (run:=fun n x=>start (iter step n) x.1 x.2) mix aF (.cons Z286.af .nil) Tryz.func182 (by kernel_rfl) run_eq (fun ls a hl e hg=>bt a.1 a.2 hg (by have h:(ls.headD .hole).aQ.length<=maxLen:=hl.1.len;have e:a.1.map cG=(ls.headD .hole).aQ:=(congrArg (fun x=>x.1) e.symm);rw [<-e] at h;simpa using h))
def iq {a0:List aD}{a1:Int}(h:eJ a1):eJ (md a0 a1):=kH ue jL h
def xS (x:aD)(k:Int)(h0:0<=k)(hb:k+(Z287.cnt x:Int)<=4611686018427387904):f (Z287.el x k).2 k=some (k+Z287.cnt x):=by
 simp only [Z287.cnt,Int.natCast_add] at hb ⊢
 simp (disch:=omega) only [Z287.el,f,wi,bne_self_eq_false,beq_self_eq_true,gh,Bool.not_true,bq,dA]
 all_goals first | done | omega | (congr 1<;>omega)
def mk (a0:List aD)(a1:Int)(h0:0<=a1)(hb:a1+(Z287.sum a0:Int)<=4611686018427387904):md (Z287.md a0 a1).2 a1=a1+Z287.sum a0:=iI Z287.pQ xS a0 a1 h0 hb
end Z300
namespace Z301
set_option maxHeartbeats 8000000
def F (x0:aV)(x1:Int):aI:=(call (Z300.R (x0.bH,x1)) fun v1=>(cond (decide (v1<0)) (ret ((-1):Int)) (ret (v1:Int))))
def e1 (x:ah)(k:Int):=Z300.md x.bH k
def f (x:ah)(k:Int):Option Int:=(cond (decide ((e1 x k)<0)) none (some ((e1 x k):Int)))
def md (a0:ah)(a1:Int):Int:=oY (f a0 a1)
def gd (a0:ah)(a1:Int):Prop:=eJ a1
def R:=RR (p2 gd) (u2 md)
def aj {a0 a1}(h:gd a0 a1):R ((ah.r a0),a1)=some (md a0 a1):=aP (a:=(a0,a1)) h
def aW:=CN [.agg rE,pI] oI RT.dec R
def bt (a0)(a1)(hg:gd a0 a1):F (ah.r a0) a1=ret (md a0 a1):=by
 unfold gd at hg
 simp only [F,SS]
 unfold md
 refine bg (e1 a0 a1) (Z300.aj (a0:=a0.bH) (a1:=a1) hg) ?_
 refine gN rfl ?_
 first | rfl | (simp only [SS];rfl)
def af:cz 191 aW:=W2 12 F mix aF bt (.cons Z300.af .nil) Tryz.func191
def iq {a0:ah}{a1:Int}(hk:eJ a1):eJ (md a0 a1):=by
 unfold md
 cases h:f a0 a1 with
 | none=>exact jL
 | some k2=>
  unfold f at h
  have h:=bL h
  injection h with h
  subst h
  exact (Z300.iq hk)
def mk (x:ah)(k:Int)(h0:0<=k)(hb:k+(Z292.sum x:Int)<=4611686018427387904):md (Z292.upd x k) k=k+Z292.sum x:=by
 simp only [Z292.sum,Int.natCast_add] at hb ⊢
 simp (disch:=omega) only [Z292.md,Z292.upd,md,f,oY,Z292.e1,e1,wi,Z287.kk,Z300.mk,bq,dA]
 all_goals first | done | omega
end Z301
namespace Z302
set_option maxHeartbeats 8000000
def F (x0:cS)(x1:Int):aI:=(call (Z299.R (x0.bZ,x1)) fun v1=>(cond (decide (v1<0)) (ret ((-1):Int)) (call (Z301.R (x0.aR,v1)) fun v2=>(cond (decide (v2<0)) (ret ((-1):Int)) (call (Z294.R (x0.bJ,v2)) fun v3=>(cond (decide (v3<0)) (ret ((-1):Int)) (ret (v3:Int))))))))
def e1 (x:bu)(k:Int):=Z299.md x.bZ k
def e2 (x:bu)(k:Int):=Z301.md x.aR (e1 x k)
def e3 (x:bu)(k:Int):=Z294.md x.bJ (e2 x k)
def f (x:bu)(k:Int):Option Int:=(cond (decide ((e1 x k)<0)) none (cond (decide ((e2 x k)<0)) none (cond (decide ((e3 x k)<0)) none (some ((e3 x k):Int)))))
def md (a0:bu)(a1:Int):Int:=oY (f a0 a1)
def gd (a0:bu)(a1:Int):Prop:=eJ a1
def R:=RR (p2 gd) (u2 md)
def aj {a0 a1}(h:gd a0 a1):R ((bu.r a0),a1)=some (md a0 a1):=aP (a:=(a0,a1)) h
def aW:=CN [.agg Bs,pI] oI RT.dec R
def bt (a0)(a1)(hg:gd a0 a1):F (bu.r a0) a1=ret (md a0 a1):=by
 unfold gd at hg
 simp only [F,SS]
 unfold md
 refine bg (e1 a0 a1) (Z299.aj (a0:=a0.bZ) (a1:=a1) hg) ?_
 refine gN rfl ?_
 refine bg (e2 a0 a1) (Z301.aj (a0:=a0.aR) (a1:=e1 a0 a1) (Z299.iq hg)) ?_
 refine gN rfl ?_
 refine bg (e3 a0 a1) (Z294.aj (a0:=a0.bJ) (a1:=e2 a0 a1) (Z301.iq (Z299.iq hg))) ?_
 refine gN rfl ?_
 first | rfl | (simp only [SS];rfl)
def af:cz 51 aW:=W2 24 F mix aF bt (.cons Z299.af (.cons Z301.af (.cons Z294.af .nil))) Tryz.func51
def mk (x:bu)(k:Int)(h0:0<=k)(hb:k+(Z293.sum x:Int)<=4611686018427387904):md (Z293.upd x k) k=k+Z293.sum x:=by
 simp only [Z293.sum,Int.natCast_add] at hb ⊢
 have heldKnown_:=@Z299.mk
 simp only [Z285.upd] at heldKnown_
 have heldEntry_:=@Z301.mk
 simp only [Z292.upd] at heldEntry_
 simp (disch:=omega) only [Z293.md,Z293.upd,md,f,oY,Z293.e1,Z293.e2,Z293.e3,e1,e2,e3,wi,Z285.kk,heldKnown_,Z292.kk,heldEntry_,Z280.kk,Z294.mk,bq,dA]
 all_goals first | done | omega
end Z302
namespace Z303
def F (x0:bw)(x1 x2:aE)(x3:aD)(x4:aE)(x5:Int):aI:=(cond (decide ((x3.size:Int)>1048576)) (ret (true:Bool)) (call (Z9.R (x0,1048576)) fun v1=>(cond (decide (v1<0)) (ret (true:Bool)) (call (Z16.R (x1,v1)) fun v2=>(cond (decide (v2<0)) (ret (true:Bool)) (call (Z18.R (x2,v2)) fun v3=>(cond (decide (v3<0)) (ret (true:Bool)) (call (Z10.R (x4,v3)) fun v4=>(cond (decide (v4<0)) (ret (true:Bool)) (call (Z29.R x0) fun v5=>(call (Z36.R x1) fun v6=>(call (Z38.R x2) fun v7=>(call (Z30.R x4) fun v8=>(call (Z128.R (v5,v6,v7,x3,v8,x5)) fun v9=>(call (Z29.R x0) fun v10=>(call (Z36.R x1) fun v11=>(call (Z38.R x2) fun v12=>(call (Z30.R x4) fun v13=>(call (Z258.R (v10,v11,v12,x3,v13,x5)) fun v14=>(call (Z272.R (v14,v9)) fun v15=>(cond (!v15) bz (call (Z29.R x0) fun v16=>(call (Z269.R (v10,v16)) fun v17=>(cond (!v17) bz (call (Z36.R x1) fun v18=>(call (Z277.R (v11,v18)) fun v19=>(cond (!v19) bz (call (Z38.R x2) fun v20=>(call (Z279.R (v12,v20)) fun v21=>(cond (!v21) bz (call (Z30.R x4) fun v22=>(call (Z270.R (v13,v22)) fun v23=>(cond (!v23) bz (call (Z285.R (v10,1)) fun v24=>(call (Z290.R (v11,v24.1)) fun v25=>(call (Z291.R (v12,v25.1)) fun v26=>(call (Z287.R (v13,v26.1)) fun v27=>(cond (decide (v27.1<0)) bz (call (Z272.R (v14,v9)) fun v28=>(cond (!v28) bz (call (Z293.R (v14,1)) fun v29=>(call (Z302.R ((⟨(⟨v29.2.1,v29.2.2.1⟩:bw),v14.fq,(⟨v14.aR.aZ,v14.aR.bI,v14.aR.bX,v29.2.2.2.1⟩:aV),v29.2.2.2.2,v14.fo⟩:cS),1)) fun v30=>(cond (decide (v30<0)) bz (cond (v30 != v29.1) bz (call (Z29.R x0) fun v31=>(call (Z36.R x1) fun v32=>(call (Z38.R x2) fun v33=>(call (Z30.R x4) fun v34=>(call (Z258.R (v31,v32,v33,x3,v34,x5)) fun v35=>(call (Z272.R (v35,v9)) fun v36=>(cond (!v36) bz (call (Z302.R ((⟨(⟨v29.2.1,v29.2.2.1⟩:bw),v14.fq,(⟨v14.aR.aZ,v14.aR.bI,v14.aR.bX,v29.2.2.2.1⟩:aV),v29.2.2.2.2,v14.fo⟩:cS),1)) fun v37=>(cond (decide (v37<0)) bz (cond (v37 != v29.1) bz (ret (true:Bool))))))))))))))))))))))))))))))))))))))))))))))))))))))))
def pats:List gj:=[.agg [.sl 338,.sl 347],.rd (.sl 218),.rd (.sl 245),.rd (.str),.rd (.sl 9),.rd (.int .i64)]
def res:RP:=.one (.rd (.bool))
def md (a0:au)(a1:List ay)(a2:List bF)(a3:aD)(a4:List aD)(a5:Int):Bool:=true
def gd (a0:au)(a1:List ay)(a2:List bF)(a3:aD)(a4:List aD)(a5:Int):Prop:=(au.Sm maxLen a0)/\(bM maxLen (fun y:ay=>ay.Sm maxLen y) a1)/\(bM maxLen (fun y:bF=>bF.Sm maxLen y) a2)/\(a3.size<=maxLen)/\(bM maxLen (fun y:aD=>y.size<=maxLen) a4)
def acc (ls:List L):bw×aE×aE×aD×aE×Int:=((bw.dec ls),((aA 2 ls).headD .hole).aQ,((aA 3 ls).headD .hole).aQ,((aA 4 ls).headD .hole).toStr,((aA 5 ls).headD .hole).aQ,((aA 6 ls).headD .hole).toInt)
def R:(bw×aE×aE×aD×aE×Int)->Option Bool:=RR (p6 gd) (u6 md)
def aj {a0 a1 a2 a3 a4 a5}(h:gd a0 a1 a2 a3 a4 a5):R ((au.r a0),(a1.map ay.row),(a2.map bF.row),a3,(a4.map cG),a5)=some (md a0 a1 a2 a3 a4 a5):=aP (a:=(a0,a1,a2,a3,a4,a5)) h
def aW:ga:=CN pats res acc R
def bt (a0:au)(a1:List ay)(a2:List bF)(a3:aD)(a4:List aD)(a5:Int)(hg:gd a0 a1 a2 a3 a4 a5):F (au.r a0) (a1.map ay.row) (a2.map bF.row) a3 (a4.map cG) a5=ret ((md a0 a1 a2 a3 a4 a5):Bool):=by
 unfold md
 show (bif (decide ((a3.size:Int)>1048576)) then ret (true:Bool) else (call (Z9.R ((au.r a0),1048576)) fun v1=>(bif (decide (v1<0)) then ret (true:Bool) else (call (Z16.R ((a1.map ay.row),v1)) fun v2=>(bif (decide (v2<0)) then ret (true:Bool) else (call (Z18.R ((a2.map bF.row),v2)) fun v3=>(bif (decide (v3<0)) then ret (true:Bool) else (call (Z10.R ((a4.map cG),v3)) fun v4=>(bif (decide (v4<0)) then ret (true:Bool) else (call (Z29.R (au.r a0)) fun v5=>(call (Z36.R (a1.map ay.row)) fun v6=>(call (Z38.R (a2.map bF.row)) fun v7=>(call (Z30.R (a4.map cG)) fun v8=>(call (Z128.R (v5,v6,v7,a3,v8,a5)) fun v9=>(call (Z29.R (au.r a0)) fun v10=>(call (Z36.R (a1.map ay.row)) fun v11=>(call (Z38.R (a2.map bF.row)) fun v12=>(call (Z30.R (a4.map cG)) fun v13=>(call (Z258.R (v10,v11,v12,a3,v13,a5)) fun v14=>(call (Z272.R (v14,v9)) fun v15=>(bif (!v15) then ret (false:Bool) else (call (Z29.R (au.r a0)) fun v16=>(call (Z269.R (v10,v16)) fun v17=>(bif (!v17) then ret (false:Bool) else (call (Z36.R (a1.map ay.row)) fun v18=>(call (Z277.R (v11,v18)) fun v19=>(bif (!v19) then ret (false:Bool) else (call (Z38.R (a2.map bF.row)) fun v20=>(call (Z279.R (v12,v20)) fun v21=>(bif (!v21) then ret (false:Bool) else (call (Z30.R (a4.map cG)) fun v22=>(call (Z270.R (v13,v22)) fun v23=>(bif (!v23) then ret (false:Bool) else (call (Z285.R (v10,1)) fun v24=>(call (Z290.R (v11,v24.1)) fun v25=>(call (Z291.R (v12,v25.1)) fun v26=>(call (Z287.R (v13,v26.1)) fun v27=>(bif (decide (v27.1<0)) then ret (false:Bool) else (call (Z272.R (v14,v9)) fun v28=>(bif (!v28) then ret (false:Bool) else (call (Z293.R (v14,1)) fun v29=>(call (Z302.R ((⟨(⟨v29.2.1,v29.2.2.1⟩:bw),v14.fq,(⟨v14.aR.aZ,v14.aR.bI,v14.aR.bX,v29.2.2.2.1⟩:aV),v29.2.2.2.2,v14.fo⟩:cS),1)) fun v30=>(bif (decide (v30<0)) then ret (false:Bool) else (bif (v30 != v29.1) then ret (false:Bool) else (call (Z29.R (au.r a0)) fun v31=>(call (Z36.R (a1.map ay.row)) fun v32=>(call (Z38.R (a2.map bF.row)) fun v33=>(call (Z30.R (a4.map cG)) fun v34=>(call (Z258.R (v31,v32,v33,a3,v34,a5)) fun v35=>(call (Z272.R (v35,v9)) fun v36=>(bif (!v36) then ret (false:Bool) else (call (Z302.R ((⟨(⟨v29.2.1,v29.2.2.1⟩:bw),v14.fq,(⟨v14.aR.aZ,v14.aR.bI,v14.aR.bX,v29.2.2.2.1⟩:aV),v29.2.2.2.2,v14.fo⟩:cS),1)) fun v37=>(cond (decide (v37<0)) bz (cond (v37 != v29.1) bz (ret (true:Bool))))))))))))))))))))))))))))))))))))))))))))))))))))))))=_
 by_cases q3:((a3.size:Int)>1048576)
 ·rw [decide_eq_true q3];rfl
 rw [decide_eq_false q3,bq]
 have s3:a3.size<=2^20:=by omega
 rw [call_eq (Z9.aj (a1:=(1048576:Int)) ⟨hg.1,by omega,by omega⟩)]
 unfold Z9.md
 by_cases c0:(1048576:Int)<(((au.size a0):Nat):Int)
 ·rw [cQ c0];rfl
 rw [dB c0,dA (by omega)]
 simp only [bq]
 have s0:au.Sm (2^20) a0:=(au.gm (by omega))
 rw [call_eq (Z16.aj (a1:=(1048576 - (((au.size a0):Nat):Int):Int)) ⟨hg.2.1,by omega,by omega⟩)]
 unfold Z16.md
 by_cases c1:(1048576 - (((au.size a0):Nat):Int):Int)<(((dU (fun y:ay=>ay.size y) a1):Nat):Int)
 ·rw [cQ c1];rfl
 rw [dB c1,dA (by omega)]
 simp only [bq]
 have s1:bM (2^20) (fun y:ay=>ay.Sm (2^20) y) a1:=(jh (f:=fun y:ay=>ay.size y) (by omega) (fun x hx=>(ay.gm hx)))
 rw [call_eq (Z18.aj (a1:=(1048576 - (((au.size a0):Nat):Int) - (((dU (fun y:ay=>ay.size y) a1):Nat):Int):Int)) ⟨hg.2.2.1,by omega,by omega⟩)]
 unfold Z18.md
 by_cases c2:(1048576 - (((au.size a0):Nat):Int) - (((dU (fun y:ay=>ay.size y) a1):Nat):Int):Int)<(((dU (fun y:bF=>bF.size y) a2):Nat):Int)
 ·rw [cQ c2];rfl
 rw [dB c2,dA (by omega)]
 simp only [bq]
 have s2:bM (2^20) (fun y:bF=>bF.Sm (2^20) y) a2:=(jh (f:=fun y:bF=>bF.size y) (by omega) (fun x hx=>(bF.gm hx)))
 rw [call_eq (Z10.aj (a1:=(1048576 - (((au.size a0):Nat):Int) - (((dU (fun y:ay=>ay.size y) a1):Nat):Int) - (((dU (fun y:bF=>bF.size y) a2):Nat):Int):Int)) ⟨hg.2.2.2.2,by omega,by omega⟩)]
 unfold Z10.md
 by_cases c4:(1048576 - (((au.size a0):Nat):Int) - (((dU (fun y:ay=>ay.size y) a1):Nat):Int) - (((dU (fun y:bF=>bF.size y) a2):Nat):Int):Int)<(((dU (fun y:aD=>y.size) a4):Nat):Int)
 ·rw [cQ c4];rfl
 rw [dB c4,dA (by omega)]
 simp only [bq]
 have s4:bM (2^20) (fun y:aD=>y.size<=(2^20)) a4:=(jh (f:=fun y:aD=>y.size) (by omega) (fun x hx=>hx))
 refine bg (au.r a0) (Z29.aj (a0:=a0) (au.cU (by decide) s0)) ?_
 refine bg (a1.map ay.row) (Z36.aj (a0:=a1) (s1.mono (by decide) (fun x hx=>(ay.cU (by decide) hx)))) ?_
 refine bg (a2.map bF.row) (Z38.aj (a0:=a2) (s2.mono (by decide) (fun x hx=>(bF.cU (by decide) hx)))) ?_
 refine bg (a4.map cG) (Z30.aj (a0:=a4) (s4.mono (by decide) (fun x hx=>(le_trans hx (by decide))))) ?_
 refine bg (bu.r (Z128.md a0 a1 a2 a3 a4 a5)) (Z128.aj (a0:=a0) (a1:=a1) (a2:=a2) (a3:=a3) (a4:=a4) (a5:=a5) (by
  have:=And.intro trivial trivial
  unfold Z128.gd
  first | exact (au.cU (by decide) s0) | refine ⟨(au.cU (by decide) s0),(s1.mono (by decide) (fun x hx=>(ay.cU (by decide) hx))),(s2.mono (by decide) (fun x hx=>(bF.cU (by decide) hx))),(s4.mono (by decide) (fun x hx=>(le_trans hx (by decide))))⟩)) ?_
 refine bg (au.r a0) (Z29.aj (a0:=a0) (au.cU (by decide) s0)) ?_
 refine bg (a1.map ay.row) (Z36.aj (a0:=a1) (s1.mono (by decide) (fun x hx=>(ay.cU (by decide) hx)))) ?_
 refine bg (a2.map bF.row) (Z38.aj (a0:=a2) (s2.mono (by decide) (fun x hx=>(bF.cU (by decide) hx)))) ?_
 refine bg (a4.map cG) (Z30.aj (a0:=a4) (s4.mono (by decide) (fun x hx=>(le_trans hx (by decide))))) ?_
 have r_:=Z258.aj (a0:=a0) (a1:=a1) (a2:=a2) (a3:=a3) (a4:=a4) (a5:=a5) (by
  have:=And.intro trivial trivial
  unfold Z258.gd
  first | exact (au.cU (by decide) s0) | refine ⟨(au.cU (by decide) s0),(s1.mono (by decide) (fun x hx=>(ay.cU (by decide) hx))),(s2.mono (by decide) (fun x hx=>(bF.cU (by decide) hx))),(s4.mono (by decide) (fun x hx=>(le_trans hx (by decide))))⟩)
 rw [Z258.br] at r_
 refine bg (bu.r (Z128.md a0 a1 a2 a3 a4 a5)) r_ ?_
 clear r_
 refine bg _ (Z272.aj (a0:=(Z128.md a0 a1 a2 a3 a4 a5)) (a1:=(Z128.md a0 a1 a2 a3 a4 a5)) trivial) ?_
 refine cT (by first | (simp only [bne_self_eq_false,beq_self_eq_true,gh,fN,Bool.not_true,Z272.md];done) | (refine bne_eq_false_iff_eq.2 ?_;omega)) ?_
 refine bg (au.r a0) (Z29.aj (a0:=a0) (au.cU (by decide) s0)) ?_
 refine bg _ (Z269.aj (a0:=a0) (a1:=a0) trivial) ?_
 refine cT (by first | (simp only [bne_self_eq_false,beq_self_eq_true,gh,fN,Bool.not_true,Z272.md,Z269.md];done) | (refine bne_eq_false_iff_eq.2 ?_;omega)) ?_
 refine bg (a1.map ay.row) (Z36.aj (a0:=a1) (s1.mono (by decide) (fun x hx=>(ay.cU (by decide) hx)))) ?_
 refine bg _ (Z277.aj (a0:=a1) (a1:=a1) trivial) ?_
 refine cT (by first | (simp only [bne_self_eq_false,beq_self_eq_true,gh,fN,Bool.not_true,Z272.md,Z269.md,Z277.md];done) | (refine bne_eq_false_iff_eq.2 ?_;omega)) ?_
 refine bg (a2.map bF.row) (Z38.aj (a0:=a2) (s2.mono (by decide) (fun x hx=>(bF.cU (by decide) hx)))) ?_
 refine bg _ (Z279.aj (a0:=a2) (a1:=a2) trivial) ?_
 refine cT (by first | (simp only [bne_self_eq_false,beq_self_eq_true,gh,fN,Bool.not_true,Z272.md,Z269.md,Z277.md,Z279.md];done) | (refine bne_eq_false_iff_eq.2 ?_;omega)) ?_
 refine bg (a4.map cG) (Z30.aj (a0:=a4) (s4.mono (by decide) (fun x hx=>(le_trans hx (by decide))))) ?_
 refine bg _ (Z270.aj (a0:=a4) (a1:=a4) trivial) ?_
 refine cT (by first | (simp only [bne_self_eq_false,beq_self_eq_true,gh,fN,Bool.not_true,Z272.md,Z269.md,Z277.md,Z279.md,Z270.md];done) | (refine bne_eq_false_iff_eq.2 ?_;omega)) ?_
 have u1:=Z285.sz a0
 refine bg ((Z285.md a0 1).1,((Z285.md a0 1).2.1.map (dO aa.row)),((Z285.md a0 1).2.2.map aC.row)) (Z285.aj (a0:=a0) (a1:=1) kK) ?_
 have k2:=Z285.kk a0 1 (by omega) (by omega)
 have u3:=Z290.sz a1
 refine bg ((Z290.md a1 ((Z285.md a0 1).1)).1,((Z290.md a1 ((Z285.md a0 1).1)).2.map ay.row)) (Z290.aj (a0:=a1) (a1:=(Z285.md a0 1).1) (Z285.iq kK)) ?_
 have k4:=Z290.kk a1 ((Z285.md a0 1).1) (by omega) (by omega)
 have u5:=Z291.sz a2
 refine bg ((Z291.md a2 ((Z290.md a1 ((Z285.md a0 1).1)).1)).1,((Z291.md a2 ((Z290.md a1 ((Z285.md a0 1).1)).1)).2.map bF.row)) (Z291.aj (a0:=a2) (a1:=(Z290.md a1 ((Z285.md a0 1).1)).1) (Z290.iq (Z285.iq kK))) ?_
 have k6:=Z291.kk a2 ((Z290.md a1 ((Z285.md a0 1).1)).1) (by omega) (by omega)
 have u7:=Z287.sz a4
 refine bg ((Z287.md a4 ((Z291.md a2 ((Z290.md a1 ((Z285.md a0 1).1)).1)).1)).1,((Z287.md a4 ((Z291.md a2 ((Z290.md a1 ((Z285.md a0 1).1)).1)).1)).2.map cG)) (Z287.aj (a0:=a4) (a1:=(Z291.md a2 ((Z290.md a1 ((Z285.md a0 1).1)).1)).1) (Z291.iq (Z290.iq (Z285.iq kK)))) ?_
 have k8:=Z287.kk a4 ((Z291.md a2 ((Z290.md a1 ((Z285.md a0 1).1)).1)).1) (by omega) (by omega)
 refine cT (dA (by omega)) ?_
 refine bg _ (Z272.aj (a0:=(Z128.md a0 a1 a2 a3 a4 a5)) (a1:=(Z128.md a0 a1 a2 a3 a4 a5)) trivial) ?_
 refine cT (by first | (simp only [bne_self_eq_false,beq_self_eq_true,gh,fN,Bool.not_true,Z272.md,Z269.md,Z277.md,Z279.md,Z270.md];done) | (refine bne_eq_false_iff_eq.2 ?_;omega)) ?_
 have u9:Z293.sum (Z128.md a0 a1 a2 a3 a4 a5)<=1000000000000000000:=(by
  have h1:=Z293.sz (Z128.md a0 a1 a2 a3 a4 a5)
  have h2:bu.size (Z128.md a0 a1 a2 a3 a4 a5)<=2^40:=by
   unfold Z128.md
   cases (Z40.md a2 a3).2
   ·have :bu.size ⟨a0,6,⟨⟨#[]⟩,0,0,[]⟩,[],0⟩=au.size a0:=rfl
    show bu.size ⟨a0,6,⟨⟨#[]⟩,0,0,[]⟩,[],0⟩<=_
    omega
   ·exact Z127.sz a0 a1 _ a4 a5 (by omega) (by omega)
  omega)
 refine bg ((Z293.md (Z128.md a0 a1 a2 a3 a4 a5) 1).1,((Z293.md (Z128.md a0 a1 a2 a3 a4 a5) 1).2.1.map (dO aa.row)),((Z293.md (Z128.md a0 a1 a2 a3 a4 a5) 1).2.2.1.map aC.row),((Z293.md (Z128.md a0 a1 a2 a3 a4 a5) 1).2.2.2.1.map cG),((Z293.md (Z128.md a0 a1 a2 a3 a4 a5) 1).2.2.2.2.map bk)) (Z293.aj (a0:=(Z128.md a0 a1 a2 a3 a4 a5)) (a1:=1) kK) ?_
 have k10:=Z293.kk (Z128.md a0 a1 a2 a3 a4 a5) 1 (by omega) (by omega)
 refine bg (Z302.md (⟨(⟨(Z293.md (Z128.md a0 a1 a2 a3 a4 a5) 1).2.1,(Z293.md (Z128.md a0 a1 a2 a3 a4 a5) 1).2.2.1⟩:au),(Z128.md a0 a1 a2 a3 a4 a5).fq,(⟨(Z128.md a0 a1 a2 a3 a4 a5).aR.aZ,(Z128.md a0 a1 a2 a3 a4 a5).aR.bI,(Z128.md a0 a1 a2 a3 a4 a5).aR.bX,(Z293.md (Z128.md a0 a1 a2 a3 a4 a5) 1).2.2.2.1⟩:ah),(Z293.md (Z128.md a0 a1 a2 a3 a4 a5) 1).2.2.2.2,(Z128.md a0 a1 a2 a3 a4 a5).fo⟩:bu) 1) (Z302.aj (a0:=(⟨(⟨(Z293.md (Z128.md a0 a1 a2 a3 a4 a5) 1).2.1,(Z293.md (Z128.md a0 a1 a2 a3 a4 a5) 1).2.2.1⟩:au),(Z128.md a0 a1 a2 a3 a4 a5).fq,(⟨(Z128.md a0 a1 a2 a3 a4 a5).aR.aZ,(Z128.md a0 a1 a2 a3 a4 a5).aR.bI,(Z128.md a0 a1 a2 a3 a4 a5).aR.bX,(Z293.md (Z128.md a0 a1 a2 a3 a4 a5) 1).2.2.2.1⟩:ah),(Z293.md (Z128.md a0 a1 a2 a3 a4 a5) 1).2.2.2.2,(Z128.md a0 a1 a2 a3 a4 a5).fo⟩:bu)) (a1:=1) kK) ?_
 have h11:(Z302.md (⟨(⟨(Z293.md (Z128.md a0 a1 a2 a3 a4 a5) 1).2.1,(Z293.md (Z128.md a0 a1 a2 a3 a4 a5) 1).2.2.1⟩:au),(Z128.md a0 a1 a2 a3 a4 a5).fq,(⟨(Z128.md a0 a1 a2 a3 a4 a5).aR.aZ,(Z128.md a0 a1 a2 a3 a4 a5).aR.bI,(Z128.md a0 a1 a2 a3 a4 a5).aR.bX,(Z293.md (Z128.md a0 a1 a2 a3 a4 a5) 1).2.2.2.1⟩:ah),(Z293.md (Z128.md a0 a1 a2 a3 a4 a5) 1).2.2.2.2,(Z128.md a0 a1 a2 a3 a4 a5).fo⟩:bu) 1)=1+(Z293.sum (Z128.md a0 a1 a2 a3 a4 a5):Int):=Z302.mk (Z128.md a0 a1 a2 a3 a4 a5) 1 (by omega) (by omega)
 refine cT (dA (by omega)) ?_
 refine cT (by first | (simp only [bne_self_eq_false,beq_self_eq_true,gh,fN,Bool.not_true,Z272.md,Z269.md,Z277.md,Z279.md,Z270.md];done) | (refine bne_eq_false_iff_eq.2 ?_;omega)) ?_
 refine bg (au.r a0) (Z29.aj (a0:=a0) (au.cU (by decide) s0)) ?_
 refine bg (a1.map ay.row) (Z36.aj (a0:=a1) (s1.mono (by decide) (fun x hx=>(ay.cU (by decide) hx)))) ?_
 refine bg (a2.map bF.row) (Z38.aj (a0:=a2) (s2.mono (by decide) (fun x hx=>(bF.cU (by decide) hx)))) ?_
 refine bg (a4.map cG) (Z30.aj (a0:=a4) (s4.mono (by decide) (fun x hx=>(le_trans hx (by decide))))) ?_
 have r_:=Z258.aj (a0:=a0) (a1:=a1) (a2:=a2) (a3:=a3) (a4:=a4) (a5:=a5) (by
  have:=And.intro trivial trivial
  unfold Z258.gd
  first | exact (au.cU (by decide) s0) | refine ⟨(au.cU (by decide) s0),(s1.mono (by decide) (fun x hx=>(ay.cU (by decide) hx))),(s2.mono (by decide) (fun x hx=>(bF.cU (by decide) hx))),(s4.mono (by decide) (fun x hx=>(le_trans hx (by decide))))⟩)
 rw [Z258.br] at r_
 refine bg (bu.r (Z128.md a0 a1 a2 a3 a4 a5)) r_ ?_
 clear r_
 refine bg _ (Z272.aj (a0:=(Z128.md a0 a1 a2 a3 a4 a5)) (a1:=(Z128.md a0 a1 a2 a3 a4 a5)) trivial) ?_
 refine cT (by first | (simp only [bne_self_eq_false,beq_self_eq_true,gh,fN,Bool.not_true,Z272.md,Z269.md,Z277.md,Z279.md,Z270.md];done) | (refine bne_eq_false_iff_eq.2 ?_;omega)) ?_
 refine bg (Z302.md (⟨(⟨(Z293.md (Z128.md a0 a1 a2 a3 a4 a5) 1).2.1,(Z293.md (Z128.md a0 a1 a2 a3 a4 a5) 1).2.2.1⟩:au),(Z128.md a0 a1 a2 a3 a4 a5).fq,(⟨(Z128.md a0 a1 a2 a3 a4 a5).aR.aZ,(Z128.md a0 a1 a2 a3 a4 a5).aR.bI,(Z128.md a0 a1 a2 a3 a4 a5).aR.bX,(Z293.md (Z128.md a0 a1 a2 a3 a4 a5) 1).2.2.2.1⟩:ah),(Z293.md (Z128.md a0 a1 a2 a3 a4 a5) 1).2.2.2.2,(Z128.md a0 a1 a2 a3 a4 a5).fo⟩:bu) 1) (Z302.aj (a0:=(⟨(⟨(Z293.md (Z128.md a0 a1 a2 a3 a4 a5) 1).2.1,(Z293.md (Z128.md a0 a1 a2 a3 a4 a5) 1).2.2.1⟩:au),(Z128.md a0 a1 a2 a3 a4 a5).fq,(⟨(Z128.md a0 a1 a2 a3 a4 a5).aR.aZ,(Z128.md a0 a1 a2 a3 a4 a5).aR.bI,(Z128.md a0 a1 a2 a3 a4 a5).aR.bX,(Z293.md (Z128.md a0 a1 a2 a3 a4 a5) 1).2.2.2.1⟩:ah),(Z293.md (Z128.md a0 a1 a2 a3 a4 a5) 1).2.2.2.2,(Z128.md a0 a1 a2 a3 a4 a5).fo⟩:bu)) (a1:=1) kK) ?_
 have h12:(Z302.md (⟨(⟨(Z293.md (Z128.md a0 a1 a2 a3 a4 a5) 1).2.1,(Z293.md (Z128.md a0 a1 a2 a3 a4 a5) 1).2.2.1⟩:au),(Z128.md a0 a1 a2 a3 a4 a5).fq,(⟨(Z128.md a0 a1 a2 a3 a4 a5).aR.aZ,(Z128.md a0 a1 a2 a3 a4 a5).aR.bI,(Z128.md a0 a1 a2 a3 a4 a5).aR.bX,(Z293.md (Z128.md a0 a1 a2 a3 a4 a5) 1).2.2.2.1⟩:ah),(Z293.md (Z128.md a0 a1 a2 a3 a4 a5) 1).2.2.2.2,(Z128.md a0 a1 a2 a3 a4 a5).fo⟩:bu) 1)=1+(Z293.sum (Z128.md a0 a1 a2 a3 a4 a5):Int):=Z302.mk (Z128.md a0 a1 a2 a3 a4 a5) 1 (by omega) (by omega)
 refine cT (dA (by omega)) ?_
 refine cT (by first | (simp only [bne_self_eq_false,beq_self_eq_true,gh,fN,Bool.not_true,Z272.md,Z269.md,Z277.md,Z279.md,Z270.md];done) | (refine bne_eq_false_iff_eq.2 ?_;omega)) ?_
 rfl
def af:cz 20 aW:=VS (live:=fun _=>[]) (nt:=151) (run:=fun _ x=>F x.1 x.2.1 x.2.2.1 x.2.2.2.1 x.2.2.2.2.1 x.2.2.2.2.2) mix aF (.cons Z9.af (.cons Z16.af (.cons Z18.af (.cons Z10.af (.cons Z29.af (.cons Z36.af (.cons Z38.af (.cons Z30.af (.cons Z128.af (.cons Z258.af (.cons Z272.af (.cons Z269.af (.cons Z277.af (.cons Z279.af (.cons Z270.af (.cons Z302.af .nil)))))))))))))))) (.cons Z285.af (.cons Z290.af (.cons Z291.af (.cons Z287.af (.cons Z293.af .nil))))) Tryz.func20 (by kernel_rfl) (fun _ _=>by kernel_rfl) (fun _ a _ _ hg=>⟨0,bt a.1 a.2.1 a.2.2.1 a.2.2.2.1 a.2.2.2.2.1 a.2.2.2.2.2 hg⟩)
def kW (r:List L)(h:eC Ev.cells [.sl 3,aB] r):∃x:aM,aM.row x=r/\aM.Sm maxLen x:=by
 obtain ⟨l0,t0,rfl,g0,h1⟩:=h.dX
 obtain ⟨x0,rfl,s0⟩:=gZ (show Ev.cells 3=[aB] from by kernel_rfl) zo g0
 obtain ⟨l1,t1,rfl,g1,h2⟩:=h1.dX
 obtain ⟨x1,rfl⟩:=gu g1
 obtain rfl:=h2.jJ
 exact ⟨⟨x0,x1⟩,rfl,s0⟩
def tS (r:List L)(h:eC Ev.cells [aB,aB,aB,aB,aB,aB,aB,aB,.sl 3,aB,.sl 3,aB,aB,.sl 3,aB,.bool] r):∃x:aG,aG.row x=r/\aG.Sm maxLen x:=by
 obtain ⟨l0,t0,rfl,g0,h1⟩:=h.dX
 obtain ⟨x0,rfl⟩:=gu g0
 obtain ⟨l1,t1,rfl,g1,h2⟩:=h1.dX
 obtain ⟨x1,rfl⟩:=gu g1
 obtain ⟨l2,t2,rfl,g2,h3⟩:=h2.dX
 obtain ⟨x2,rfl⟩:=gu g2
 obtain ⟨l3,t3,rfl,g3,h4⟩:=h3.dX
 obtain ⟨x3,rfl⟩:=gu g3
 obtain ⟨l4,t4,rfl,g4,h5⟩:=h4.dX
 obtain ⟨x4,rfl⟩:=gu g4
 obtain ⟨l5,t5,rfl,g5,h6⟩:=h5.dX
 obtain ⟨x5,rfl⟩:=gu g5
 obtain ⟨l6,t6,rfl,g6,h7⟩:=h6.dX
 obtain ⟨x6,rfl⟩:=gu g6
 obtain ⟨l7,t7,rfl,g7,h8⟩:=h7.dX
 obtain ⟨x7,rfl⟩:=gu g7
 obtain ⟨r8,t8,rfl,g8,h9⟩:=eC.nY (a:=[.sl 3,aB]) (b:=[.sl 3,aB,aB,.sl 3,aB,.bool]) h8
 obtain ⟨x8,rfl,s8⟩:=kW _ g8
 obtain ⟨r9,t9,rfl,g9,h10⟩:=eC.nY (a:=[.sl 3,aB]) (b:=[aB,.sl 3,aB,.bool]) h9
 obtain ⟨x9,rfl,s9⟩:=kW _ g9
 obtain ⟨l10,t10,rfl,g10,h11⟩:=h10.dX
 obtain ⟨x10,rfl⟩:=gu g10
 obtain ⟨r11,t11,rfl,g11,h12⟩:=eC.nY (a:=[.sl 3,aB]) (b:=[.bool]) h11
 obtain ⟨x11,rfl,s11⟩:=kW _ g11
 obtain ⟨l12,t12,rfl,g12,h13⟩:=h12.dX
 obtain ⟨x12,rfl⟩:=zG g12
 obtain rfl:=h13.jJ
 exact ⟨⟨x0,x1,x2,x3,x4,x5,x6,x7,x8,x9,x10,x11,x12⟩,rfl,⟨s8,s9,s11⟩⟩
def vK (r:List L)(h:eC Ev.cells [aB,aB] r):∃x:bp,bp.row x=r/\bp.Sm maxLen x:=by
 obtain ⟨l0,t0,rfl,g0,h1⟩:=h.dX
 obtain ⟨x0,rfl⟩:=gu g0
 obtain ⟨l1,t1,rfl,g1,h2⟩:=h1.dX
 obtain ⟨x1,rfl⟩:=gu g1
 obtain rfl:=h2.jJ
 exact ⟨⟨x0,x1⟩,rfl,trivial⟩
def gT (r:List L)(h:eC Ev.cells [aB,aB,aB,aB,aB,aB,aB,aB,.sl 3,aB,.sl 3,aB,aB,.sl 3,aB,.bool,.sl 516] r):∃x:aa,aa.row x=r/\aa.Sm maxLen x:=by
 obtain ⟨r0,t0,rfl,g0,h1⟩:=eC.nY (a:=[aB,aB,aB,aB,aB,aB,aB,aB,.sl 3,aB,.sl 3,aB,aB,.sl 3,aB,.bool]) (b:=[.sl 516]) h
 obtain ⟨x0,rfl,s0⟩:=tS _ g0
 obtain ⟨l1,t1,rfl,g1,h2⟩:=h1.dX
 obtain ⟨x1,rfl,s1⟩:=gZ (show Ev.cells 516=[aB,aB] from by kernel_rfl) vK g1
 obtain rfl:=h2.jJ
 exact ⟨⟨x0,x1⟩,rfl,⟨s0,s1⟩⟩
def uP (r:List L)(h:eC Ev.cells [aB,aB,aB,aB,aB,aB,aB,aB,.sl 3,aB,.sl 3,aB,aB,.sl 3,aB,.bool,.sl 516,aB,aB,aB,aB,aB,aB,aB,aB,.sl 3,aB,.sl 3,aB,aB,.sl 3,aB,.bool,.sl 516,aB,aB,aB,aB,aB,aB,aB,aB,.sl 3,aB,.sl 3,aB,aB,.sl 3,aB,.bool,.sl 516] r):∃x:aC,aC.row x=r/\aC.Sm maxLen x:=by
 obtain ⟨r0,t0,rfl,g0,h1⟩:=eC.nY (a:=[aB,aB,aB,aB,aB,aB,aB,aB,.sl 3,aB,.sl 3,aB,aB,.sl 3,aB,.bool,.sl 516]) (b:=[aB,aB,aB,aB,aB,aB,aB,aB,.sl 3,aB,.sl 3,aB,aB,.sl 3,aB,.bool,.sl 516,aB,aB,aB,aB,aB,aB,aB,aB,.sl 3,aB,.sl 3,aB,aB,.sl 3,aB,.bool,.sl 516]) h
 obtain ⟨x0,rfl,s0⟩:=gT _ g0
 obtain ⟨r1,t1,rfl,g1,h2⟩:=eC.nY (a:=[aB,aB,aB,aB,aB,aB,aB,aB,.sl 3,aB,.sl 3,aB,aB,.sl 3,aB,.bool,.sl 516]) (b:=[aB,aB,aB,aB,aB,aB,aB,aB,.sl 3,aB,.sl 3,aB,aB,.sl 3,aB,.bool,.sl 516]) h1
 obtain ⟨x1,rfl,s1⟩:=gT _ g1
 obtain ⟨r2,t2,rfl,g2,h3⟩:=eC.nY (a:=[aB,aB,aB,aB,aB,aB,aB,aB,.sl 3,aB,.sl 3,aB,aB,.sl 3,aB,.bool,.sl 516]) (b:=[]) h2
 obtain ⟨x2,rfl,s2⟩:=gT _ g2
 obtain rfl:=h3.jJ
 exact ⟨⟨x0,x1,x2⟩,rfl,⟨s0,s1,s2⟩⟩
def uH (r:List L)(h:eC Ev.cells [.sl 338,.sl 347] r):∃x:au,au.row x=r/\au.Sm maxLen x:=by
 obtain ⟨l0,t0,rfl,g0,h1⟩:=h.dX
 obtain ⟨x0,rfl,s0⟩:=gZ (show Ev.cells 338=[.sl 345] from by kernel_rfl) (zI (show Ev.cells 345=[aB,aB,aB,aB,aB,aB,aB,aB,.sl 3,aB,.sl 3,aB,aB,.sl 3,aB,.bool,.sl 516] from by kernel_rfl) gT) g0
 obtain ⟨l1,t1,rfl,g1,h2⟩:=h1.dX
 obtain ⟨x1,rfl,s1⟩:=gZ (show Ev.cells 347=[aB,aB,aB,aB,aB,aB,aB,aB,.sl 3,aB,.sl 3,aB,aB,.sl 3,aB,.bool,.sl 516,aB,aB,aB,aB,aB,aB,aB,aB,.sl 3,aB,.sl 3,aB,aB,.sl 3,aB,.bool,.sl 516,aB,aB,aB,aB,aB,aB,aB,aB,.sl 3,aB,.sl 3,aB,aB,.sl 3,aB,.bool,.sl 516] from by kernel_rfl) uP g1
 obtain rfl:=h2.jJ
 exact ⟨⟨x0,x1⟩,rfl,⟨s0,s1⟩⟩
def sN (r:List L)(h:eC Ev.cells [.str,aB,aB,.sl 9] r):∃x:ah,ah.row x=r/\ah.Sm maxLen x:=by
 obtain ⟨l0,t0,rfl,g0,h1⟩:=h.dX
 obtain ⟨x0,rfl,s0⟩:=tF g0
 obtain ⟨l1,t1,rfl,g1,h2⟩:=h1.dX
 obtain ⟨x1,rfl⟩:=gu g1
 obtain ⟨l2,t2,rfl,g2,h3⟩:=h2.dX
 obtain ⟨x2,rfl⟩:=gu g2
 obtain ⟨l3,t3,rfl,g3,h4⟩:=h3.dX
 obtain ⟨x3,rfl,s3⟩:=gZ (show Ev.cells 9=[.str] from by kernel_rfl) wF g3
 obtain rfl:=h4.jJ
 exact ⟨⟨x0,x1,x2,x3⟩,rfl,⟨s0,s3⟩⟩
def tU (r:List L)(h:eC Ev.cells [.sl 345,.sl 357] r):∃x:aL,aL.row x=r/\aL.Sm maxLen x:=by
 obtain ⟨l0,t0,rfl,g0,h1⟩:=h.dX
 obtain ⟨x0,rfl,s0⟩:=gZ (show Ev.cells 345=[aB,aB,aB,aB,aB,aB,aB,aB,.sl 3,aB,.sl 3,aB,aB,.sl 3,aB,.bool,.sl 516] from by kernel_rfl) gT g0
 obtain ⟨l1,t1,rfl,g1,h2⟩:=h1.dX
 obtain ⟨x1,rfl,s1⟩:=gZ (show Ev.cells 357=[.str,aB,aB,.sl 9] from by kernel_rfl) sN g1
 obtain rfl:=h2.jJ
 exact ⟨⟨x0,x1⟩,rfl,⟨s0,s1⟩⟩
def rF (r:List L)(h:eC Ev.cells [.sl 423,aB] r):∃x:ay,ay.row x=r/\ay.Sm maxLen x:=by
 obtain ⟨l0,t0,rfl,g0,h1⟩:=h.dX
 obtain ⟨x0,rfl,s0⟩:=gZ (show Ev.cells 423=[.sl 345,.sl 357] from by kernel_rfl) tU g0
 obtain ⟨l1,t1,rfl,g1,h2⟩:=h1.dX
 obtain ⟨x1,rfl⟩:=gu g1
 obtain rfl:=h2.jJ
 exact ⟨⟨x0,x1⟩,rfl,s0⟩
def vU (r:List L)(h:eC Ev.cells [.str,aB] r):∃x:bF,bF.row x=r/\bF.Sm maxLen x:=by
 obtain ⟨l0,t0,rfl,g0,h1⟩:=h.dX
 obtain ⟨x0,rfl,s0⟩:=tF g0
 obtain ⟨l1,t1,rfl,g1,h2⟩:=h1.dX
 obtain ⟨x1,rfl⟩:=gu g1
 obtain rfl:=h2.jJ
 exact ⟨⟨x0,x1⟩,rfl,s0⟩
def holds (ls:List L)(h:eC Ev.cells ([25,26,75,9,28,3].flatMap Ev.cells) ls):aW.sem ls=some [.bool true]:=by
 have hk:[25,26,75,9,28,3].flatMap Ev.cells=[.sl 338,.sl 347,.sl 218,.sl 245,.str,.sl 9,aB]:=by kernel_rfl
 rw [hk] at h
 obtain ⟨r0,t0,rfl,g0,h1⟩:=eC.nY (a:=[.sl 338,.sl 347]) (b:=[.sl 218,.sl 245,.str,.sl 9,aB]) h
 obtain ⟨x0,rfl,s0⟩:=uH _ g0
 obtain ⟨l1,t1,rfl,g1,h2⟩:=h1.dX
 obtain ⟨x1,rfl,s1⟩:=gZ (show Ev.cells 218=[.sl 423,aB] from by kernel_rfl) rF g1
 obtain ⟨l2,t2,rfl,g2,h3⟩:=h2.dX
 obtain ⟨x2,rfl,s2⟩:=gZ (show Ev.cells 245=[.str,aB] from by kernel_rfl) vU g2
 obtain ⟨l3,t3,rfl,g3,h4⟩:=h3.dX
 obtain ⟨x3,rfl,s3⟩:=tF g3
 obtain ⟨l4,t4,rfl,g4,h5⟩:=h4.dX
 obtain ⟨x4,rfl,s4⟩:=gZ (show Ev.cells 9=[.str] from by kernel_rfl) wF g4
 obtain ⟨l5,t5,rfl,g5,h6⟩:=h5.dX
 obtain ⟨x5,rfl⟩:=gu g5
 obtain rfl:=h6.jJ
 show (R ((au.r x0),(x1.map ay.row),(x2.map bF.row),x3,(x4.map cG),x5)).map RT.enc=_
 rw [aj ⟨s0,s1,s2,s3,s4⟩]
 rfl
end Z303
end Go.DM
end
