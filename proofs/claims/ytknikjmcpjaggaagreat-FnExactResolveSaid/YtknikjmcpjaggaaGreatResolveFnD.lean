/- What the functions compute that the law reaches, and that the law returns true. Conditions: none. -/
import Derived.Test.YtknikjmcpjaggaaGreatResolveTy
import Derived.Test.YtknikjmcpjaggaaGreatResolveFnC
import Derived.Test.YtknikjmcpjaggaaGreatProg
import Derived.Lib.AppendZerosOnto
import Derived.Lib.Bytealg
import Derived.Laws.Externs
import Derived.Lib.Walk
import Derived.Lib.Hide
import Derived.Lib.Strings
set_option linter.all false
set_option maxRecDepth 100000
noncomputable section
namespace Go.DM
open Go.Proofs
open Go.IntKind (i64)
open Int (toNat)
namespace Z270
set_option maxHeartbeats 8000000
inductive Pt where
 | p0 (a:Int) (b:Int) (c:List (List L))
def pid:Pt→Nat
 | .p0 ..=>2
def bY:Pt→List V
 | .p0 a b c=>[.own 0,.int .i64 a,.int .i64 b]
def bZ:Pt→List aU
 | .p0 a b c=>[.row 280 c]
def step (J:Pt→aG):Pt→aG
 | .p0 a b c=>(cond (decide (b<(c.length:Int))) (m2 b (c.length:Int) (m2 b (c.length:Int) (bX (Nat.beq (toNat b) (toNat b)&&true) (m2 b (c.length:Int) (bX (Nat.beq (toNat b) (toNat b)&&true) (m2 b (c.length:Int) (bX (Nat.beq (toNat b) (toNat b)&&true) (m2 b (c.length:Int) (bX (Nat.beq (toNat b) (toNat b)&&true) (m2 b (c.length:Int) (bX (Nat.beq (toNat b) (toNat b)&&true) (m2 b (c.length:Int) (bX (Nat.beq (toNat b) (toNat b)&&true) (m2 b (c.length:Int) (bX (Nat.beq (toNat b) (toNat b)&&true) (m2 b (c.length:Int) (bX (Nat.beq (toNat b) (toNat b)&&true) (bX (Nat.beq (toNat b) (toNat b)&&true) (call (Z266.R ((bF.at c (toNat b)).aP.aq.bJ.aT,(i64.wrap ((i64.wrap ((i64.wrap ((i64.wrap ((i64.wrap ((i64.wrap ((i64.wrap ((i64.wrap (a+1))+1))+1))+1))+1))+1))+1))+1)))) fun v1=>(m2 b (c.length:Int) (bX (Nat.beq (toNat b) (toNat b)&&true) (m2 b (c.length:Int) (bX (Nat.beq (toNat b) (toNat b)&&true) (bX (Nat.beq (toNat b) (toNat b)&&true) (call (Z266.R ((bF.at c (toNat b)).aP.aq.bw.aT,(i64.wrap (v1.1+1)))) fun v2=>(m2 b (c.length:Int) (bX (Nat.beq (toNat b) (toNat b)&&true) (m2 b (c.length:Int) (bX (Nat.beq (toNat b) (toNat b)&&true) (m2 b (c.length:Int) (bX (Nat.beq (toNat b) (toNat b)&&true) (bX (Nat.beq (toNat b) (toNat b)&&true) (call (Z266.R ((bF.at c (toNat b)).aP.aq.bp.aT,(i64.wrap ((i64.wrap (v2.1+1))+1)))) fun v3=>(m2 b (c.length:Int) (bX (Nat.beq (toNat b) (toNat b)&&true) (m2 b (c.length:Int) (bX (Nat.beq (toNat b) (toNat b)&&true) (m2 b (c.length:Int) (bX (Nat.beq (toNat b) (toNat b)&&true) (bX (Nat.beq (toNat b) (toNat b)&&true) (call (Z267.R ((bF.at c (toNat b)).aP.bW,(i64.wrap ((i64.wrap (v3.1+1))+1)))) fun v4=>(m2 b (c.length:Int) (bX (Nat.beq (toNat b) (toNat b)&&true) (m2 b (c.length:Int) (bX (Nat.beq (toNat b) (toNat b)&&true) (m2 b (c.length:Int) (bX (Nat.beq (toNat b) (toNat b)&&true) (m2 b (c.length:Int) (bX (Nat.beq (toNat b) (toNat b)&&true) (m2 b (c.length:Int) (bX (Nat.beq (toNat b) (toNat b)&&true) (m2 b (c.length:Int) (bX (Nat.beq (toNat b) (toNat b)&&true) (m2 b (c.length:Int) (bX (Nat.beq (toNat b) (toNat b)&&true) (m2 b (c.length:Int) (bX (Nat.beq (toNat b) (toNat b)&&true) (m2 b (c.length:Int) (bX (Nat.beq (toNat b) (toNat b)&&true) (bX (Nat.beq (toNat b) (toNat b)&&true) (call (Z266.R ((bF.at c (toNat b)).fA.aq.bJ.aT,(i64.wrap ((i64.wrap ((i64.wrap ((i64.wrap ((i64.wrap ((i64.wrap ((i64.wrap ((i64.wrap (v4.1+1))+1))+1))+1))+1))+1))+1))+1)))) fun v5=>(m2 b (c.length:Int) (bX (Nat.beq (toNat b) (toNat b)&&true) (m2 b (c.length:Int) (bX (Nat.beq (toNat b) (toNat b)&&true) (bX (Nat.beq (toNat b) (toNat b)&&true) (call (Z266.R ((bF.at c (toNat b)).fA.aq.bw.aT,(i64.wrap (v5.1+1)))) fun v6=>(m2 b (c.length:Int) (bX (Nat.beq (toNat b) (toNat b)&&true) (m2 b (c.length:Int) (bX (Nat.beq (toNat b) (toNat b)&&true) (m2 b (c.length:Int) (bX (Nat.beq (toNat b) (toNat b)&&true) (bX (Nat.beq (toNat b) (toNat b)&&true) (call (Z266.R ((bF.at c (toNat b)).fA.aq.bp.aT,(i64.wrap ((i64.wrap (v6.1+1))+1)))) fun v7=>(m2 b (c.length:Int) (bX (Nat.beq (toNat b) (toNat b)&&true) (m2 b (c.length:Int) (bX (Nat.beq (toNat b) (toNat b)&&true) (m2 b (c.length:Int) (bX (Nat.beq (toNat b) (toNat b)&&true) (bX (Nat.beq (toNat b) (toNat b)&&true) (call (Z267.R ((bF.at c (toNat b)).fA.bW,(i64.wrap ((i64.wrap (v7.1+1))+1)))) fun v8=>(m2 b (c.length:Int) (bX (Nat.beq (toNat b) (toNat b)&&true) (m2 b (c.length:Int) (bX (Nat.beq (toNat b) (toNat b)&&true) (m2 b (c.length:Int) (bX (Nat.beq (toNat b) (toNat b)&&true) (m2 b (c.length:Int) (bX (Nat.beq (toNat b) (toNat b)&&true) (m2 b (c.length:Int) (bX (Nat.beq (toNat b) (toNat b)&&true) (m2 b (c.length:Int) (bX (Nat.beq (toNat b) (toNat b)&&true) (m2 b (c.length:Int) (bX (Nat.beq (toNat b) (toNat b)&&true) (m2 b (c.length:Int) (bX (Nat.beq (toNat b) (toNat b)&&true) (m2 b (c.length:Int) (bX (Nat.beq (toNat b) (toNat b)&&true) (bX (Nat.beq (toNat b) (toNat b)&&true) (call (Z266.R ((bF.at c (toNat b)).fB.aq.bJ.aT,(i64.wrap ((i64.wrap ((i64.wrap ((i64.wrap ((i64.wrap ((i64.wrap ((i64.wrap ((i64.wrap (v8.1+1))+1))+1))+1))+1))+1))+1))+1)))) fun v9=>(m2 b (c.length:Int) (bX (Nat.beq (toNat b) (toNat b)&&true) (m2 b (c.length:Int) (bX (Nat.beq (toNat b) (toNat b)&&true) (bX (Nat.beq (toNat b) (toNat b)&&true) (call (Z266.R ((bF.at c (toNat b)).fB.aq.bw.aT,(i64.wrap (v9.1+1)))) fun v10=>(m2 b (c.length:Int) (bX (Nat.beq (toNat b) (toNat b)&&true) (m2 b (c.length:Int) (bX (Nat.beq (toNat b) (toNat b)&&true) (m2 b (c.length:Int) (bX (Nat.beq (toNat b) (toNat b)&&true) (bX (Nat.beq (toNat b) (toNat b)&&true) (call (Z266.R ((bF.at c (toNat b)).fB.aq.bp.aT,(i64.wrap ((i64.wrap (v10.1+1))+1)))) fun v11=>(m2 b (c.length:Int) (bX (Nat.beq (toNat b) (toNat b)&&true) (m2 b (c.length:Int) (bX (Nat.beq (toNat b) (toNat b)&&true) (m2 b (c.length:Int) (bX (Nat.beq (toNat b) (toNat b)&&true) (bX (Nat.beq (toNat b) (toNat b)&&true) (call (Z267.R ((bF.at c (toNat b)).fB.bW,(i64.wrap ((i64.wrap (v11.1+1))+1)))) fun v12=>J (.p0 v12.1 (i64.wrap (b+1)) (List.set c (toNat b) (bF.enc (⟨(⟨(⟨a,(i64.wrap (a+1)),(i64.wrap ((i64.wrap (a+1))+1)),(i64.wrap ((i64.wrap ((i64.wrap (a+1))+1))+1)),(i64.wrap ((i64.wrap ((i64.wrap ((i64.wrap (a+1))+1))+1))+1)),(i64.wrap ((i64.wrap ((i64.wrap ((i64.wrap ((i64.wrap (a+1))+1))+1))+1))+1)),(i64.wrap ((i64.wrap ((i64.wrap ((i64.wrap ((i64.wrap ((i64.wrap (a+1))+1))+1))+1))+1))+1)),(i64.wrap ((i64.wrap ((i64.wrap ((i64.wrap ((i64.wrap ((i64.wrap ((i64.wrap (a+1))+1))+1))+1))+1))+1))+1)),(⟨v1.2,v1.1⟩:bu),(⟨v2.2,v2.1⟩:bu),(i64.wrap (v2.1+1)),(⟨v3.2,v3.1⟩:bu),((Int.tmod (i64.wrap (v3.1+1)) 3)==0)⟩:bU),v4.2⟩:aO),(⟨(⟨v4.1,(i64.wrap (v4.1+1)),(i64.wrap ((i64.wrap (v4.1+1))+1)),(i64.wrap ((i64.wrap ((i64.wrap (v4.1+1))+1))+1)),(i64.wrap ((i64.wrap ((i64.wrap ((i64.wrap (v4.1+1))+1))+1))+1)),(i64.wrap ((i64.wrap ((i64.wrap ((i64.wrap ((i64.wrap (v4.1+1))+1))+1))+1))+1)),(i64.wrap ((i64.wrap ((i64.wrap ((i64.wrap ((i64.wrap ((i64.wrap (v4.1+1))+1))+1))+1))+1))+1)),(i64.wrap ((i64.wrap ((i64.wrap ((i64.wrap ((i64.wrap ((i64.wrap ((i64.wrap (v4.1+1))+1))+1))+1))+1))+1))+1)),(⟨v5.2,v5.1⟩:bu),(⟨v6.2,v6.1⟩:bu),(i64.wrap (v6.1+1)),(⟨v7.2,v7.1⟩:bu),((Int.tmod (i64.wrap (v7.1+1)) 3)==0)⟩:bU),v8.2⟩:aO),(⟨(⟨v8.1,(i64.wrap (v8.1+1)),(i64.wrap ((i64.wrap (v8.1+1))+1)),(i64.wrap ((i64.wrap ((i64.wrap (v8.1+1))+1))+1)),(i64.wrap ((i64.wrap ((i64.wrap ((i64.wrap (v8.1+1))+1))+1))+1)),(i64.wrap ((i64.wrap ((i64.wrap ((i64.wrap ((i64.wrap (v8.1+1))+1))+1))+1))+1)),(i64.wrap ((i64.wrap ((i64.wrap ((i64.wrap ((i64.wrap ((i64.wrap (v8.1+1))+1))+1))+1))+1))+1)),(i64.wrap ((i64.wrap ((i64.wrap ((i64.wrap ((i64.wrap ((i64.wrap ((i64.wrap (v8.1+1))+1))+1))+1))+1))+1))+1)),(⟨v9.2,v9.1⟩:bu),(⟨v10.2,v10.1⟩:bu),(i64.wrap (v10.1+1)),(⟨v11.2,v11.1⟩:bu),((Int.tmod (i64.wrap (v11.1+1)) 3)==0)⟩:bU),v12.2⟩:aO)⟩:bF))))))))))))))))))))))))))))))))))))))))))))))))))))))))))))))))))))))))))))))))))))))))))))))))))))))))))))))))))))))))))))))))) (ret ((a,c):Int×List (List L))))
def start (J:Pt→aG)(x0:List (List L))(x1:Int):aG:=J (.p0 x1 0 x0)
def live:Nat→Live:=fun i=>match i with | 2=>[(0,none),(1,none),(5,none)] | _=>[]
def pats:List (Bool×List K):=[(false,[.sl 280]),(false,[.int .i64])]
def res:RP:=.ot [280]
abbrev E:Env:={ T:=assoc kQ,G:=dy [],nt:=493,M:=fT [(179,Z266.aV),(332,Z267.aV)],np:=1,mt:=true }
theorem step_eq (I:cG)(p:Pt):cT E live I (pid p) (bM Tryz.f176) (fM (live (pid p)) (bY p) (bZ p)) (cH E Tryz.f176 res)=step (fun q=>I (pid q) (bY q) (bZ q)) p:=by
 cases p<;>kernel_rfl
theorem start_eq (I:cG)(ls:List L):eX E live I (bM Tryz.f176) (gL pats ls) (cH E Tryz.f176 res)=start (fun q=>I (pid q) (bY q) (bZ q)) (ls.headD .hole).aR ((aA 1 ls).headD .hole).toInt:=by kernel_rfl
theorem run_eq (n:Nat)(ls:List L):eO E live Tryz.f176 res n (gL pats ls)=start (iter step n) (ls.headD .hole).aR ((aA 1 ls).headD .hole).toInt:=cC (id:=pid) (vs:=bY) (hs:=bZ) (step:=step) (start:=fun J=>start J (ls.headD .hole).aR ((aA 1 ls).headD .hole).toInt) step_eq (fun I=>start_eq I ls) n
def e1 (x:aB)(k:Int):=Z266.md ((((x.aP).aq).bJ).aT) (i64.wrap ((i64.wrap ((i64.wrap ((i64.wrap ((i64.wrap ((i64.wrap ((i64.wrap ((i64.wrap (k+1))+1))+1))+1))+1))+1))+1))+1))
def e2 (x:aB)(k:Int):=Z266.md ((((x.aP).aq).bw).aT) (i64.wrap ((e1 x k).1+1))
def e3 (x:aB)(k:Int):=Z266.md ((((x.aP).aq).bp).aT) (i64.wrap ((i64.wrap ((e2 x k).1+1))+1))
def e4 (x:aB)(k:Int):=Z267.md ((x.aP).bW) (i64.wrap ((i64.wrap ((e3 x k).1+1))+1))
def e5 (x:aB)(k:Int):=Z266.md ((((x.fA).aq).bJ).aT) (i64.wrap ((i64.wrap ((i64.wrap ((i64.wrap ((i64.wrap ((i64.wrap ((i64.wrap ((i64.wrap ((e4 x k).1+1))+1))+1))+1))+1))+1))+1))+1))
def e6 (x:aB)(k:Int):=Z266.md ((((x.fA).aq).bw).aT) (i64.wrap ((e5 x k).1+1))
def e7 (x:aB)(k:Int):=Z266.md ((((x.fA).aq).bp).aT) (i64.wrap ((i64.wrap ((e6 x k).1+1))+1))
def e8 (x:aB)(k:Int):=Z267.md ((x.fA).bW) (i64.wrap ((i64.wrap ((e7 x k).1+1))+1))
def e9 (x:aB)(k:Int):=Z266.md ((((x.fB).aq).bJ).aT) (i64.wrap ((i64.wrap ((i64.wrap ((i64.wrap ((i64.wrap ((i64.wrap ((i64.wrap ((i64.wrap ((e8 x k).1+1))+1))+1))+1))+1))+1))+1))+1))
def uL (x:aB)(k:Int):=Z266.md ((((x.fB).aq).bw).aT) (i64.wrap ((e9 x k).1+1))
def uC (x:aB)(k:Int):=Z266.md ((((x.fB).aq).bp).aT) (i64.wrap ((i64.wrap ((uL x k).1+1))+1))
def yu (x:aB)(k:Int):=Z267.md ((x.fB).bW) (i64.wrap ((i64.wrap ((uC x k).1+1))+1))
def el (x:aB)(k:Int):Int×aB:=((yu x k).1,(⟨(⟨(⟨k,(i64.wrap (k+1)),(i64.wrap ((i64.wrap (k+1))+1)),(i64.wrap ((i64.wrap ((i64.wrap (k+1))+1))+1)),(i64.wrap ((i64.wrap ((i64.wrap ((i64.wrap (k+1))+1))+1))+1)),(i64.wrap ((i64.wrap ((i64.wrap ((i64.wrap ((i64.wrap (k+1))+1))+1))+1))+1)),(i64.wrap ((i64.wrap ((i64.wrap ((i64.wrap ((i64.wrap ((i64.wrap (k+1))+1))+1))+1))+1))+1)),(i64.wrap ((i64.wrap ((i64.wrap ((i64.wrap ((i64.wrap ((i64.wrap ((i64.wrap (k+1))+1))+1))+1))+1))+1))+1)),(⟨(e1 x k).2,(e1 x k).1⟩:aJ),(⟨(e2 x k).2,(e2 x k).1⟩:aJ),(i64.wrap ((e2 x k).1+1)),(⟨(e3 x k).2,(e3 x k).1⟩:aJ),((Int.tmod (i64.wrap ((e3 x k).1+1)) 3)==0)⟩:aC),(e4 x k).2⟩:aa),(⟨(⟨(e4 x k).1,(i64.wrap ((e4 x k).1+1)),(i64.wrap ((i64.wrap ((e4 x k).1+1))+1)),(i64.wrap ((i64.wrap ((i64.wrap ((e4 x k).1+1))+1))+1)),(i64.wrap ((i64.wrap ((i64.wrap ((i64.wrap ((e4 x k).1+1))+1))+1))+1)),(i64.wrap ((i64.wrap ((i64.wrap ((i64.wrap ((i64.wrap ((e4 x k).1+1))+1))+1))+1))+1)),(i64.wrap ((i64.wrap ((i64.wrap ((i64.wrap ((i64.wrap ((i64.wrap ((e4 x k).1+1))+1))+1))+1))+1))+1)),(i64.wrap ((i64.wrap ((i64.wrap ((i64.wrap ((i64.wrap ((i64.wrap ((i64.wrap ((e4 x k).1+1))+1))+1))+1))+1))+1))+1)),(⟨(e5 x k).2,(e5 x k).1⟩:aJ),(⟨(e6 x k).2,(e6 x k).1⟩:aJ),(i64.wrap ((e6 x k).1+1)),(⟨(e7 x k).2,(e7 x k).1⟩:aJ),((Int.tmod (i64.wrap ((e7 x k).1+1)) 3)==0)⟩:aC),(e8 x k).2⟩:aa),(⟨(⟨(e8 x k).1,(i64.wrap ((e8 x k).1+1)),(i64.wrap ((i64.wrap ((e8 x k).1+1))+1)),(i64.wrap ((i64.wrap ((i64.wrap ((e8 x k).1+1))+1))+1)),(i64.wrap ((i64.wrap ((i64.wrap ((i64.wrap ((e8 x k).1+1))+1))+1))+1)),(i64.wrap ((i64.wrap ((i64.wrap ((i64.wrap ((i64.wrap ((e8 x k).1+1))+1))+1))+1))+1)),(i64.wrap ((i64.wrap ((i64.wrap ((i64.wrap ((i64.wrap ((i64.wrap ((e8 x k).1+1))+1))+1))+1))+1))+1)),(i64.wrap ((i64.wrap ((i64.wrap ((i64.wrap ((i64.wrap ((i64.wrap ((i64.wrap ((e8 x k).1+1))+1))+1))+1))+1))+1))+1)),(⟨(e9 x k).2,(e9 x k).1⟩:aJ),(⟨(uL x k).2,(uL x k).1⟩:aJ),(i64.wrap ((uL x k).1+1)),(⟨(uC x k).2,(uC x k).1⟩:aJ),((Int.tmod (i64.wrap ((uC x k).1+1)) 3)==0)⟩:aC),(yu x k).2⟩:aa)⟩:aB))
theorem iJ (x:aB)(k:Int)(hk:eK k):eK (el x k).1:=(Z267.iq (cy _))
def cnt (x:aB):Nat:=39+Z266.sum ((((x.aP).aq).bJ).aT)+Z266.sum ((((x.aP).aq).bw).aT)+Z266.sum ((((x.aP).aq).bp).aT)+Z267.sum ((x.aP).bW)+Z266.sum ((((x.fA).aq).bJ).aT)+Z266.sum ((((x.fA).aq).bw).aT)+Z266.sum ((((x.fA).aq).bp).aT)+Z267.sum ((x.fA).bW)+Z266.sum ((((x.fB).aq).bJ).aT)+Z266.sum ((((x.fB).aq).bw).aT)+Z266.sum ((((x.fB).aq).bp).aT)+Z267.sum ((x.fB).bW)
def sum (a:List aB):Nat:=(a.map cnt).sum
def md (a0:List aB)(a1:Int):Int×List aB:=jB el a0 a1
def gd (a0:List aB)(a1:Int):Prop:=eK a1
def acc (ls:List L):List (List L)×Int:=((ls.headD .hole).aR,((aA 1 ls).headD .hole).toInt)
def R:(List (List L)×Int)→Option (Int×List (List L)):=RR (p2 gd) (u2 md)
theorem aj {a0 a1}(h:gd a0 a1):R ((a0.map aB.row),a1)=some ((md a0 a1).1,((md a0 a1).2.map aB.row)):=aM (a:=(a0,a1)) h
def aV:gH:=MN pats acc R
theorem bq (a0:List aB)(a1:Int)(hg:gd a0 a1)(h0:a0.length≤maxLen):∃n,start (iter step n) (a0.map aB.row) a1=ret (((md a0 a1).1,((md a0 a1).2.map aB.row)):Int×List (List L)):=by
 unfold gd at hg
 show ∃n,iter step n (Pt.p0 a1 0 (a0.map aB.row))=_
 unfold md
 refine gF (el:=el) (xs:=a0) aB.zero eK iJ (pt:=fun i k c=>Pt.p0 k (i:Int) (c.map aB.row)) (out:=fun b=>ret (b.1,b.2.map aB.row)) (fun J i k c hi hc hk=>?_) (fun J k c hc=>?_) hg
 ·have hm:c.length≤maxLen:=hc ▸ h0
  simp only [step,SS]
  refine ak (aL hi) ?_
  repeat first | refine ak aH ?_ | refine ak (aL hi) ?_ | refine ak (gZ _) ?_
  refine bh ((e1 (c.getD i aB.zero) k).1,((e1 (c.getD i aB.zero) k).2.map aZ)) (Z266.aj (a0:=((((c.getD i aB.zero).aP).aq).bJ).aT) (a1:=i64.wrap ((i64.wrap ((i64.wrap ((i64.wrap ((i64.wrap ((i64.wrap ((i64.wrap ((i64.wrap (k+1))+1))+1))+1))+1))+1))+1))+1)) (cy _)) ?_
  repeat first | refine ak aH ?_ | refine ak (aL hi) ?_ | refine ak (gZ _) ?_
  refine bh ((e2 (c.getD i aB.zero) k).1,((e2 (c.getD i aB.zero) k).2.map aZ)) (Z266.aj (a0:=((((c.getD i aB.zero).aP).aq).bw).aT) (a1:=i64.wrap ((e1 (c.getD i aB.zero) k).1+1)) (cy _)) ?_
  repeat first | refine ak aH ?_ | refine ak (aL hi) ?_ | refine ak (gZ _) ?_
  refine bh ((e3 (c.getD i aB.zero) k).1,((e3 (c.getD i aB.zero) k).2.map aZ)) (Z266.aj (a0:=((((c.getD i aB.zero).aP).aq).bp).aT) (a1:=i64.wrap ((i64.wrap ((e2 (c.getD i aB.zero) k).1+1))+1)) (cy _)) ?_
  repeat first | refine ak aH ?_ | refine ak (aL hi) ?_ | refine ak (gZ _) ?_
  refine bh ((e4 (c.getD i aB.zero) k).1,((e4 (c.getD i aB.zero) k).2.map aY.row)) (Z267.aj (a0:=((c.getD i aB.zero).aP).bW) (a1:=i64.wrap ((i64.wrap ((e3 (c.getD i aB.zero) k).1+1))+1)) (cy _)) ?_
  repeat first | refine ak aH ?_ | refine ak (aL hi) ?_ | refine ak (gZ _) ?_
  refine bh ((e5 (c.getD i aB.zero) k).1,((e5 (c.getD i aB.zero) k).2.map aZ)) (Z266.aj (a0:=((((c.getD i aB.zero).fA).aq).bJ).aT) (a1:=i64.wrap ((i64.wrap ((i64.wrap ((i64.wrap ((i64.wrap ((i64.wrap ((i64.wrap ((i64.wrap ((e4 (c.getD i aB.zero) k).1+1))+1))+1))+1))+1))+1))+1))+1)) (cy _)) ?_
  repeat first | refine ak aH ?_ | refine ak (aL hi) ?_ | refine ak (gZ _) ?_
  refine bh ((e6 (c.getD i aB.zero) k).1,((e6 (c.getD i aB.zero) k).2.map aZ)) (Z266.aj (a0:=((((c.getD i aB.zero).fA).aq).bw).aT) (a1:=i64.wrap ((e5 (c.getD i aB.zero) k).1+1)) (cy _)) ?_
  repeat first | refine ak aH ?_ | refine ak (aL hi) ?_ | refine ak (gZ _) ?_
  refine bh ((e7 (c.getD i aB.zero) k).1,((e7 (c.getD i aB.zero) k).2.map aZ)) (Z266.aj (a0:=((((c.getD i aB.zero).fA).aq).bp).aT) (a1:=i64.wrap ((i64.wrap ((e6 (c.getD i aB.zero) k).1+1))+1)) (cy _)) ?_
  repeat first | refine ak aH ?_ | refine ak (aL hi) ?_ | refine ak (gZ _) ?_
  refine bh ((e8 (c.getD i aB.zero) k).1,((e8 (c.getD i aB.zero) k).2.map aY.row)) (Z267.aj (a0:=((c.getD i aB.zero).fA).bW) (a1:=i64.wrap ((i64.wrap ((e7 (c.getD i aB.zero) k).1+1))+1)) (cy _)) ?_
  repeat first | refine ak aH ?_ | refine ak (aL hi) ?_ | refine ak (gZ _) ?_
  refine bh ((e9 (c.getD i aB.zero) k).1,((e9 (c.getD i aB.zero) k).2.map aZ)) (Z266.aj (a0:=((((c.getD i aB.zero).fB).aq).bJ).aT) (a1:=i64.wrap ((i64.wrap ((i64.wrap ((i64.wrap ((i64.wrap ((i64.wrap ((i64.wrap ((i64.wrap ((e8 (c.getD i aB.zero) k).1+1))+1))+1))+1))+1))+1))+1))+1)) (cy _)) ?_
  repeat first | refine ak aH ?_ | refine ak (aL hi) ?_ | refine ak (gZ _) ?_
  refine bh ((uL (c.getD i aB.zero) k).1,((uL (c.getD i aB.zero) k).2.map aZ)) (Z266.aj (a0:=((((c.getD i aB.zero).fB).aq).bw).aT) (a1:=i64.wrap ((e9 (c.getD i aB.zero) k).1+1)) (cy _)) ?_
  repeat first | refine ak aH ?_ | refine ak (aL hi) ?_ | refine ak (gZ _) ?_
  refine bh ((uC (c.getD i aB.zero) k).1,((uC (c.getD i aB.zero) k).2.map aZ)) (Z266.aj (a0:=((((c.getD i aB.zero).fB).aq).bp).aT) (a1:=i64.wrap ((i64.wrap ((uL (c.getD i aB.zero) k).1+1))+1)) (cy _)) ?_
  repeat first | refine ak aH ?_ | refine ak (aL hi) ?_ | refine ak (gZ _) ?_
  refine bh ((yu (c.getD i aB.zero) k).1,((yu (c.getD i aB.zero) k).2.map aY.row)) (Z267.aj (a0:=((c.getD i aB.zero).fB).bW) (a1:=i64.wrap ((i64.wrap ((uC (c.getD i aB.zero) k).1+1))+1)) (cy _)) ?_
  rw [aE hi hm]
  exact congrArg (fun q=>J (Pt.p0 (el (c.getD i aB.zero) k).1 ((i+1:Nat):Int) q)) (List.map_set (f:=aB.row) (l:=c) (i:=i) (a:=(el (c.getD i aB.zero) k).2)).symm
 ·simp only [step,SS]
  refine cN (by apply decide_eq_false;omega) ?_
  rfl
theorem af:eV Tryz.prog Ev 176 aV:=MV (run:=fun n x=>start (iter step n) x.1 x.2) mix aD .nil (.cons Z266.af (.cons Z267.af .nil)) Tryz.func176 (by kernel_rfl) run_eq (fun ls a hl e hg=>bq a.1 a.2 hg (by have h:(ls.headD .hole).aR.length≤maxLen:=(hl _ _ (.head _)).len;have e:a.1.map aB.row=(ls.headD .hole).aR:=(congrArg (fun x=>x.1) e.symm);rw [←e] at h;simpa using h))
theorem iq {a0:List aB}{a1:Int}(h:eK a1):eK (md a0 a1).1:=jR iJ h
theorem qE (x:aB)(k:Int)(h0:0≤k)(hb:k+(cnt x:Int)≤4611686018427387904):(el x k).1=k+cnt x:=by
 simp only [cnt,Int.natCast_add] at hb ⊢
 simp (disch:=omega) only [el,e1,e2,e3,e4,e5,e6,e7,e8,e9,uL,uC,yu,wi,Z266.kk,Z267.kk]
 all_goals first | done | omega
theorem kk (a0:List aB)(a1:Int)(h0:0≤a1)(hb:a1+(sum a0:Int)≤4611686018427387904):(md a0 a1).1=a1+sum a0:=gR qE a0 a1 h0 hb
theorem sz (a:List aB):sum a≤60*(dQ (fun y:aB=>aB.size y) a):=jQ (fun x=>by
 have:=Z266.sz ((((x.aP).aq).bJ).aT)
 have:=Z266.sz ((((x.aP).aq).bw).aT)
 have:=Z266.sz ((((x.aP).aq).bp).aT)
 have:=Z267.sz ((x.aP).bW)
 have:=Z266.sz ((((x.fA).aq).bJ).aT)
 have:=Z266.sz ((((x.fA).aq).bw).aT)
 have:=Z266.sz ((((x.fA).aq).bp).aT)
 have:=Z267.sz ((x.fA).bW)
 have:=Z266.sz ((((x.fB).aq).bJ).aT)
 have:=Z266.sz ((((x.fB).aq).bw).aT)
 have:=Z266.sz ((((x.fB).aq).bp).aT)
 have:=Z267.sz ((x.fB).bW)
 try simp only [cnt,aB.size,aa.size,aC.size,aJ.size] at *
 omega) a
end Z270
namespace Z271
set_option maxHeartbeats 8000000
def F (x0:bn)(x1:Int):aG:=(call (Z269.R (x0.aF,x1)) fun v1=>(call (Z270.R (x0.bg,v1.1)) fun v2=>ret ((v2.1,v1.2,v2.2):Int×List (List L)×List (List L))))
def pats:List (Bool×List K):=[(true,[.sl 92,.sl 280]),(false,[.int .i64])]
def res:RP:=.ot [92,280]
def e1 (x:au)(k:Int):=Z269.md x.aF k
def e2 (x:au)(k:Int):=Z270.md x.bg ((e1 x k).1)
def sum (x:au):Nat:=0+Z269.sum x.aF+Z270.sum x.bg
def md (a0:au)(a1:Int):Int×List (List aa)×List aB:=((e2 a0 a1).1,(e1 a0 a1).2,(e2 a0 a1).2)
def gd (a0:au)(a1:Int):Prop:=eK a1
def acc (ls:List L):bn×Int:=((bn.dec ls),((aA 2 ls).headD .hole).toInt)
def R:(bn×Int)→Option (Int×List (List L)×List (List L)):=RR (p2 gd) (u2 md)
theorem aj {a0 a1}(h:gd a0 a1):R ((au.r a0),a1)=some ((md a0 a1).1,((md a0 a1).2.1.map (dK aa.row)),((md a0 a1).2.2.map aB.row)):=aM (a:=(a0,a1)) h
def aV:gH:=MN pats acc R
theorem bq (a0:au)(a1:Int)(hg:gd a0 a1):F (au.r a0) a1=ret (((md a0 a1).1,((md a0 a1).2.1.map (dK aa.row)),((md a0 a1).2.2.map aB.row)):Int×List (List L)×List (List L)):=by
 unfold gd at hg
 simp only [F,SS]
 unfold md
 refine bh ((e1 a0 a1).1,((e1 a0 a1).2.map (dK aa.row))) (Z269.aj (a0:=a0.aF) (a1:=a1) hg) ?_
 refine bh ((e2 a0 a1).1,((e2 a0 a1).2.map aB.row)) (Z270.aj (a0:=a0.bg) (a1:=(e1 a0 a1).1) (Z269.iq hg)) ?_
 first | rfl | (simp only [SS];rfl)
theorem af:eV Tryz.prog Ev 36 aV:=MV (live:=fun _=>[]) (nt:=14) (run:=fun _ x=>F x.1 x.2) mix aD .nil (.cons Z269.af (.cons Z270.af .nil)) Tryz.func36 (by kernel_rfl) (fun _ _=>by kernel_rfl) (fun _ a _ _ hg=>⟨0,bq a.1 a.2 hg⟩)
theorem iq {a0:au}{a1:Int}(hk:eK a1):eK (md a0 a1).1:=(Z270.iq (Z269.iq hk))
theorem kk (x:au)(k:Int)(h0:0≤k)(hb:k+(sum x:Int)≤4611686018427387904):(md x k).1=k+sum x:=by
 simp only [sum,Int.natCast_add] at hb ⊢
 simp (disch:=omega) only [md,e1,e2,wi,Z269.kk,Z270.kk]
 all_goals first | done | omega
theorem sz (x:au):sum x≤60*au.size x:=by
 have:=Z269.sz x.aF
 have:=Z270.sz x.bg
 try simp only [sum,au.size] at *
 omega
def upd (x:au)(k:Int):au:=(⟨(md x k).2.1,(md x k).2.2⟩:au)
end Z271
namespace Z272
inductive Pt where
 | p0 (a:Int) (b:ByteArray)
def pid:Pt→Nat
 | .p0 ..=>4
def bY:Pt→List V
 | .p0 a b=>[.int .i64 a,.str b]
def bZ:Pt→List aU
 | .p0 a b=>[]
def step (J:Pt→aG):Pt→aG
 | .p0 a b=>(cond (decide (a>0)) (cond (decide ((((tM [[L.int (IntKind.u8.wrap (i64.wrap (48+(Int.tmod a 10))))]]).size+b.size:Nat):Int)>9223372036854775807)) none (J (.p0 (i64.wrap (Int.tdiv a 10)) ((tM [[L.int (IntKind.u8.wrap (i64.wrap (48+(Int.tmod a 10))))]])++b)))) (cond (decide ((((⟨#[109]⟩:ByteArray).size+b.size:Nat):Int)>9223372036854775807)) none (ret (((⟨#[109]⟩:ByteArray)++b):ByteArray))))
def start (J:Pt→aG)(x0:Int):aG:=(cond (decide (x0≤0)) (ret ((⟨#[109,48]⟩:ByteArray):ByteArray)) (J (.p0 x0 ⟨#[]⟩)))
def live:Nat→Live:=fun i=>match i with | 4=>[(0,none),(3,none)] | _=>[]
def dg (a:Int):ByteArray:=tM [[L.int (IntKind.u8.wrap (i64.wrap (48+(Int.tmod a 10))))]]
def txt:Nat→Int→ByteArray→ByteArray
 | 0,_,b=>b
 | n+1,a,b=>bif decide (a>0) then txt n (i64.wrap (Int.tdiv a 10)) (dg a++b) else b
theorem zA (a:Int):(tM [[L.int (IntKind.u8.wrap (i64.wrap (48+(Int.tmod a 10))))]]).size=1:=rfl
theorem run:∀(n:Nat) (a:Int) (b:ByteArray),n≤64→a<2^n→eK a→b.size+n≤1000→∃m,iter step m (.p0 a b)=ret ((⟨#[109]⟩:ByteArray)++txt n a b)
 | 0,a,b,_,h1,_,h3=>by
  refine ⟨1,?_⟩
  show step _ (.p0 a b)=_
  have e1:decide (a>0)=false:=decide_eq_false (by simp at h1;omega)
  have e2:decide ((((⟨#[109]⟩:ByteArray).size+b.size:Nat):Int)>9223372036854775807)=false:=decide_eq_false (by have :(⟨#[109]⟩:ByteArray).size=1:=rfl;omega)
  simp only [step,e1,e2,bk]
  rfl
 | n+1,a,b,hn,h1,h2,h3=>by
  by_cases hp:a>0
  ·have e1:decide (a>0)=true:=decide_eq_true hp
   have hq:Int.tdiv a 10=a / 10:=Int.tdiv_eq_ediv_of_nonneg (by omega)
   unfold eK at h2
   have hw:i64.wrap (Int.tdiv a 10)=a / 10:=by rw [hq];exact wi _ (by omega)
   have hlt:a / 10<2^n:=by
    have :(2:Int)^(n+1)=2^n*2:=Int.pow_succ 2 n
    omega
   have hs:(dg a++b).size=1+b.size:=by rw [ByteArray.size_append];rfl
   obtain ⟨m,hm⟩:=run n (a / 10) (dg a++b) (by omega) hlt ⟨by omega,by omega⟩ (by rw [hs];omega)
   refine ⟨m+1,?_⟩
   show step _ (.p0 a b)=_
   have e2:decide ((((tM [[L.int (IntKind.u8.wrap (i64.wrap (48+(Int.tmod a 10))))]]).size+b.size:Nat):Int)>9223372036854775807)=false:=decide_eq_false (by rw [zA];omega)
   simp only [step,txt,e1,e2,bf,bk,hw]
   exact hm
  ·refine ⟨1,?_⟩
   show step _ (.p0 a b)=_
   have e1:decide (a>0)=false:=decide_eq_false hp
   have e2:decide ((((⟨#[109]⟩:ByteArray).size+b.size:Nat):Int)>9223372036854775807)=false:=decide_eq_false (by have :(⟨#[109]⟩:ByteArray).size=1:=rfl;omega)
   simp only [step,txt,e1,e2,bk]
def md (a0:Int):ByteArray:=(cond (decide (a0≤0)) (⟨#[109,48]⟩:ByteArray) ((⟨#[109]⟩:ByteArray)++txt 64 a0 ⟨#[]⟩))
def gd (a0:Int):Prop:=eK a0
def R:=RR gd md
theorem aj {a0}(h:gd a0):R a0=some (md a0):=aM (a:=a0) h
def aV:=CN [pI] oS RT.dec R
theorem bq (a0)(hg:gd a0):∃n,start (iter step n) a0=ret (md a0):=by
 unfold gd at hg
 unfold start md
 cases h:decide (a0≤0)
 ·have h2:=hg.2
  have h3:(2:Int)^64=18446744073709551616:=by decide
  obtain ⟨m,hm⟩:=run 64 a0 ⟨#[]⟩ (Nat.le_refl _) (by rw [h3];omega) hg (by show 0+64≤1000;omega)
  exact ⟨m,hm⟩
 ·exact ⟨0,rfl⟩
theorem af:cw 178 aV:=L1 20 pid bY bZ live step start mix aD bq .nil Tryz.func178
end Z272
namespace Z273
set_option maxHeartbeats 8000000
inductive Pt where
 | p0 (a:Int) (b:Int) (c:List (List L))
def pid:Pt→Nat
 | .p0 ..=>2
def bY:Pt→List V
 | .p0 a b c=>[.own 0,.int .i64 a,.int .i64 b]
def bZ:Pt→List aU
 | .p0 a b c=>[.row 9 c]
def step (J:Pt→aG):Pt→aG
 | .p0 a b c=>(cond (decide (b<(c.length:Int))) (call (Z272.R a) fun v1=>(m2 b (c.length:Int) (J (.p0 (i64.wrap (a+1)) (i64.wrap (b+1)) (List.set c (toNat b) [L.str v1]))))) (ret ((a,c):Int×List (List L))))
def start (J:Pt→aG)(x0:List (List L))(x1:Int):aG:=J (.p0 x1 0 x0)
def live:Nat→Live:=fun i=>match i with | 2=>[(0,none),(1,none),(5,none)] | _=>[]
def pats:List (Bool×List K):=[(false,[.sl 9]),(false,[.int .i64])]
def res:RP:=.ot [9]
abbrev E:Env:={ T:=assoc kQ,G:=dy [(178,Z272.aV)],nt:=20,M:=fT [],np:=1,mt:=true }
theorem step_eq (I:cG)(p:Pt):cT E live I (pid p) (bM Tryz.f39) (fM (live (pid p)) (bY p) (bZ p)) (cH E Tryz.f39 res)=step (fun q=>I (pid q) (bY q) (bZ q)) p:=by
 cases p<;>kernel_rfl
theorem start_eq (I:cG)(ls:List L):eX E live I (bM Tryz.f39) (gL pats ls) (cH E Tryz.f39 res)=start (fun q=>I (pid q) (bY q) (bZ q)) (ls.headD .hole).aR ((aA 1 ls).headD .hole).toInt:=by kernel_rfl
theorem run_eq (n:Nat)(ls:List L):eO E live Tryz.f39 res n (gL pats ls)=start (iter step n) (ls.headD .hole).aR ((aA 1 ls).headD .hole).toInt:=cC (id:=pid) (vs:=bY) (hs:=bZ) (step:=step) (start:=fun J=>start J (ls.headD .hole).aR ((aA 1 ls).headD .hole).toInt) step_eq (fun I=>start_eq I ls) n
def el (x:ByteArray)(k:Int):Int×ByteArray:=((i64.wrap (k+1)),(Z272.md k))
theorem iJ (x:ByteArray)(k:Int)(hk:eK k):eK (el x k).1:=(cy _)
def cnt (x:ByteArray):Nat:=1
def sum (a:List ByteArray):Nat:=(a.map cnt).sum
def md (a0:List ByteArray)(a1:Int):Int×List ByteArray:=jB el a0 a1
def gd (a0:List ByteArray)(a1:Int):Prop:=eK a1
def acc (ls:List L):List (List L)×Int:=((ls.headD .hole).aR,((aA 1 ls).headD .hole).toInt)
def R:(List (List L)×Int)→Option (Int×List (List L)):=RR (p2 gd) (u2 md)
theorem aj {a0 a1}(h:gd a0 a1):R ((a0.map cA),a1)=some ((md a0 a1).1,((md a0 a1).2.map cA)):=aM (a:=(a0,a1)) h
def aV:gH:=MN pats acc R
theorem bq (a0:List ByteArray)(a1:Int)(hg:gd a0 a1)(h0:a0.length≤maxLen):∃n,start (iter step n) (a0.map cA) a1=ret (((md a0 a1).1,((md a0 a1).2.map cA)):Int×List (List L)):=by
 unfold gd at hg
 show ∃n,iter step n (Pt.p0 a1 0 (a0.map cA))=_
 unfold md
 refine gF (el:=el) (xs:=a0) ⟨#[]⟩ eK iJ (pt:=fun i k c=>Pt.p0 k (i:Int) (c.map cA)) (out:=fun b=>ret (b.1,b.2.map cA)) (fun J i k c hi hc hk=>?_) (fun J k c hc=>?_) hg
 ·have hm:c.length≤maxLen:=hc ▸ h0
  simp only [step,SS]
  refine ak (aL hi) ?_
  refine bh (Z272.md k) (Z272.aj (a0:=k) hk) ?_
  refine ak aH ?_
  refine ak (aL hi) ?_
  rw [aE hi hm]
  exact congrArg (fun q=>J (Pt.p0 (el (c.getD i ⟨#[]⟩) k).1 ((i+1:Nat):Int) q)) (List.map_set (f:=cA) (l:=c) (i:=i) (a:=(el (c.getD i ⟨#[]⟩) k).2)).symm
 ·simp only [step,SS]
  refine cN (by apply decide_eq_false;omega) ?_
  rfl
theorem af:eV Tryz.prog Ev 39 aV:=MV (run:=fun n x=>start (iter step n) x.1 x.2) mix aD (.cons Z272.af .nil) .nil Tryz.func39 (by kernel_rfl) run_eq (fun ls a hl e hg=>bq a.1 a.2 hg (by have h:(ls.headD .hole).aR.length≤maxLen:=(hl _ _ (.head _)).len;have e:a.1.map cA=(ls.headD .hole).aR:=(congrArg (fun x=>x.1) e.symm);rw [←e] at h;simpa using h))
theorem iq {a0:List ByteArray}{a1:Int}(h:eK a1):eK (md a0 a1).1:=jR iJ h
theorem qE (x:ByteArray)(k:Int)(h0:0≤k)(hb:k+(cnt x:Int)≤4611686018427387904):(el x k).1=k+cnt x:=by
 simp only [cnt,Int.natCast_add] at hb ⊢
 simp (disch:=omega) only [el,wi]
 all_goals first | done | omega
theorem kk (a0:List ByteArray)(a1:Int)(h0:0≤a1)(hb:a1+(sum a0:Int)≤4611686018427387904):(md a0 a1).1=a1+sum a0:=gR qE a0 a1 h0 hb
theorem sz (a:List ByteArray):sum a≤60*(dQ (fun y:ByteArray=>y.size) a):=jQ (fun x=>by
 try simp only [cnt] at *
 omega) a
end Z273
namespace Z274
set_option maxHeartbeats 8000000
inductive Pt where
 | p0 (a:Int) (b:Int) (c:List (List L))
def pid:Pt→Nat
 | .p0 ..=>2
def bY:Pt→List V
 | .p0 a b c=>[.own 0,.int .i64 a,.int .i64 b]
def bZ:Pt→List aU
 | .p0 a b c=>[.row 61 c]
def step (J:Pt→aG):Pt→aG
 | .p0 a b c=>(cond (decide (b<(c.length:Int))) (call (Z272.R a) fun v1=>(m2 b (c.length:Int) (m2 b (c.length:Int) (bX (Nat.beq (toNat b) (toNat b)&&true) (m2 b (c.length:Int) (bX (Nat.beq (toNat b) (toNat b)&&true) (m2 b (c.length:Int) (bX (Nat.beq (toNat b) (toNat b)&&true) (bX (Nat.beq (toNat b) (toNat b)&&true) (call (Z273.R ((aS.at c (toNat b)).bC,(i64.wrap ((i64.wrap ((i64.wrap (a+1))+1))+1)))) fun v2=>J (.p0 v2.1 (i64.wrap (b+1)) (List.set c (toNat b) (aS.enc (⟨v1,(i64.wrap (a+1)),(i64.wrap ((i64.wrap (a+1))+1)),v2.2⟩:aS)))))))))))))) (ret ((a,c):Int×List (List L))))
def start (J:Pt→aG)(x0:List (List L))(x1:Int):aG:=J (.p0 x1 0 x0)
def live:Nat→Live:=fun i=>match i with | 2=>[(0,none),(1,none),(5,none)] | _=>[]
def pats:List (Bool×List K):=[(false,[.sl 61]),(false,[.int .i64])]
def res:RP:=.ot [61]
abbrev E:Env:={ T:=assoc kQ,G:=dy [(178,Z272.aV)],nt:=42,M:=fT [(39,Z273.aV)],np:=1,mt:=true }
theorem step_eq (I:cG)(p:Pt):cT E live I (pid p) (bM Tryz.f333) (fM (live (pid p)) (bY p) (bZ p)) (cH E Tryz.f333 res)=step (fun q=>I (pid q) (bY q) (bZ q)) p:=by
 cases p<;>kernel_rfl
theorem start_eq (I:cG)(ls:List L):eX E live I (bM Tryz.f333) (gL pats ls) (cH E Tryz.f333 res)=start (fun q=>I (pid q) (bY q) (bZ q)) (ls.headD .hole).aR ((aA 1 ls).headD .hole).toInt:=by kernel_rfl
theorem run_eq (n:Nat)(ls:List L):eO E live Tryz.f333 res n (gL pats ls)=start (iter step n) (ls.headD .hole).aR ((aA 1 ls).headD .hole).toInt:=cC (id:=pid) (vs:=bY) (hs:=bZ) (step:=step) (start:=fun J=>start J (ls.headD .hole).aR ((aA 1 ls).headD .hole).toInt) step_eq (fun I=>start_eq I ls) n
def e1 (x:ah)(k:Int):=Z273.md x.bC (i64.wrap ((i64.wrap ((i64.wrap (k+1))+1))+1))
def el (x:ah)(k:Int):Int×ah:=((e1 x k).1,(⟨(Z272.md k),(i64.wrap (k+1)),(i64.wrap ((i64.wrap (k+1))+1)),(e1 x k).2⟩:ah))
theorem iJ (x:ah)(k:Int)(hk:eK k):eK (el x k).1:=(Z273.iq (cy _))
def cnt (x:ah):Nat:=3+Z273.sum x.bC
def sum (a:List ah):Nat:=(a.map cnt).sum
def md (a0:List ah)(a1:Int):Int×List ah:=jB el a0 a1
def gd (a0:List ah)(a1:Int):Prop:=eK a1
def acc (ls:List L):List (List L)×Int:=((ls.headD .hole).aR,((aA 1 ls).headD .hole).toInt)
def R:(List (List L)×Int)→Option (Int×List (List L)):=RR (p2 gd) (u2 md)
theorem aj {a0 a1}(h:gd a0 a1):R ((a0.map ah.row),a1)=some ((md a0 a1).1,((md a0 a1).2.map ah.row)):=aM (a:=(a0,a1)) h
def aV:gH:=MN pats acc R
theorem bq (a0:List ah)(a1:Int)(hg:gd a0 a1)(h0:a0.length≤maxLen):∃n,start (iter step n) (a0.map ah.row) a1=ret (((md a0 a1).1,((md a0 a1).2.map ah.row)):Int×List (List L)):=by
 unfold gd at hg
 show ∃n,iter step n (Pt.p0 a1 0 (a0.map ah.row))=_
 unfold md
 refine gF (el:=el) (xs:=a0) ah.zero eK iJ (pt:=fun i k c=>Pt.p0 k (i:Int) (c.map ah.row)) (out:=fun b=>ret (b.1,b.2.map ah.row)) (fun J i k c hi hc hk=>?_) (fun J k c hc=>?_) hg
 ·have hm:c.length≤maxLen:=hc ▸ h0
  simp only [step,SS]
  refine ak (aL hi) ?_
  refine bh (Z272.md k) (Z272.aj (a0:=k) hk) ?_
  repeat first | refine ak aH ?_ | refine ak (aL hi) ?_ | refine ak (gZ _) ?_
  refine bh ((e1 (c.getD i ah.zero) k).1,((e1 (c.getD i ah.zero) k).2.map cA)) (Z273.aj (a0:=(c.getD i ah.zero).bC) (a1:=i64.wrap ((i64.wrap ((i64.wrap (k+1))+1))+1)) (cy _)) ?_
  rw [aE hi hm]
  exact congrArg (fun q=>J (Pt.p0 (el (c.getD i ah.zero) k).1 ((i+1:Nat):Int) q)) (List.map_set (f:=ah.row) (l:=c) (i:=i) (a:=(el (c.getD i ah.zero) k).2)).symm
 ·simp only [step,SS]
  refine cN (by apply decide_eq_false;omega) ?_
  rfl
theorem af:eV Tryz.prog Ev 333 aV:=MV (run:=fun n x=>start (iter step n) x.1 x.2) mix aD (.cons Z272.af .nil) (.cons Z273.af .nil) Tryz.func333 (by kernel_rfl) run_eq (fun ls a hl e hg=>bq a.1 a.2 hg (by have h:(ls.headD .hole).aR.length≤maxLen:=(hl _ _ (.head _)).len;have e:a.1.map ah.row=(ls.headD .hole).aR:=(congrArg (fun x=>x.1) e.symm);rw [←e] at h;simpa using h))
theorem iq {a0:List ah}{a1:Int}(h:eK a1):eK (md a0 a1).1:=jR iJ h
theorem qE (x:ah)(k:Int)(h0:0≤k)(hb:k+(cnt x:Int)≤4611686018427387904):(el x k).1=k+cnt x:=by
 simp only [cnt,Int.natCast_add] at hb ⊢
 simp (disch:=omega) only [el,e1,wi,Z273.kk]
 all_goals first | done | omega
theorem kk (a0:List ah)(a1:Int)(h0:0≤a1)(hb:a1+(sum a0:Int)≤4611686018427387904):(md a0 a1).1=a1+sum a0:=gR qE a0 a1 h0 hb
theorem sz (a:List ah):sum a≤60*(dQ (fun y:ah=>ah.size y) a):=jQ (fun x=>by
 have:=Z273.sz x.bC
 try simp only [cnt,ah.size] at *
 omega) a
end Z274
namespace Z275
set_option maxHeartbeats 8000000
inductive Pt where
 | p0 (a:Int) (b:Int) (c:List (List L))
def pid:Pt→Nat
 | .p0 ..=>2
def bY:Pt→List V
 | .p0 a b c=>[.own 0,.int .i64 a,.int .i64 b]
def bZ:Pt→List aU
 | .p0 a b c=>[.row 293 c]
def step (J:Pt→aG):Pt→aG
 | .p0 a b c=>(cond (decide (b<(c.length:Int))) (m2 b (c.length:Int) (call (Z268.R ((dH.at c (toNat b)).aQ,a)) fun v1=>(m2 b (c.length:Int) (bX (Nat.beq (toNat b) (toNat b)&&true) (bX (Nat.beq (toNat b) (toNat b)&&true) (call (Z274.R ((dH.at c (toNat b)).bH,v1.1)) fun v2=>J (.p0 v2.1 (i64.wrap (b+1)) (List.set c (toNat b) (dH.enc (⟨v1.2,v2.2⟩:dH)))))))))) (ret ((a,c):Int×List (List L))))
def start (J:Pt→aG)(x0:List (List L))(x1:Int):aG:=J (.p0 x1 0 x0)
def live:Nat→Live:=fun i=>match i with | 2=>[(0,none),(1,none),(5,none)] | _=>[]
def pats:List (Bool×List K):=[(false,[.sl 293]),(false,[.int .i64])]
def res:RP:=.ot [293]
abbrev E:Env:={ T:=assoc kQ,G:=dy [],nt:=27,M:=fT [(331,Z268.aV),(333,Z274.aV)],np:=1,mt:=true }
theorem step_eq (I:cG)(p:Pt):cT E live I (pid p) (bM Tryz.f177) (fM (live (pid p)) (bY p) (bZ p)) (cH E Tryz.f177 res)=step (fun q=>I (pid q) (bY q) (bZ q)) p:=by
 cases p<;>kernel_rfl
theorem start_eq (I:cG)(ls:List L):eX E live I (bM Tryz.f177) (gL pats ls) (cH E Tryz.f177 res)=start (fun q=>I (pid q) (bY q) (bZ q)) (ls.headD .hole).aR ((aA 1 ls).headD .hole).toInt:=by kernel_rfl
theorem run_eq (n:Nat)(ls:List L):eO E live Tryz.f177 res n (gL pats ls)=start (iter step n) (ls.headD .hole).aR ((aA 1 ls).headD .hole).toInt:=cC (id:=pid) (vs:=bY) (hs:=bZ) (step:=step) (start:=fun J=>start J (ls.headD .hole).aR ((aA 1 ls).headD .hole).toInt) step_eq (fun I=>start_eq I ls) n
def e1 (x:aI)(k:Int):=Z268.md x.aQ k
def e2 (x:aI)(k:Int):=Z274.md x.bH ((e1 x k).1)
def el (x:aI)(k:Int):Int×aI:=((e2 x k).1,(⟨(e1 x k).2,(e2 x k).2⟩:aI))
theorem iJ (x:aI)(k:Int)(hk:eK k):eK (el x k).1:=(Z274.iq (Z268.iq hk))
def cnt (x:aI):Nat:=0+Z268.sum x.aQ+Z274.sum x.bH
def sum (a:List aI):Nat:=(a.map cnt).sum
def md (a0:List aI)(a1:Int):Int×List aI:=jB el a0 a1
def gd (a0:List aI)(a1:Int):Prop:=eK a1
def acc (ls:List L):List (List L)×Int:=((ls.headD .hole).aR,((aA 1 ls).headD .hole).toInt)
def R:(List (List L)×Int)→Option (Int×List (List L)):=RR (p2 gd) (u2 md)
theorem aj {a0 a1}(h:gd a0 a1):R ((a0.map aI.row),a1)=some ((md a0 a1).1,((md a0 a1).2.map aI.row)):=aM (a:=(a0,a1)) h
def aV:gH:=MN pats acc R
theorem bq (a0:List aI)(a1:Int)(hg:gd a0 a1)(h0:a0.length≤maxLen):∃n,start (iter step n) (a0.map aI.row) a1=ret (((md a0 a1).1,((md a0 a1).2.map aI.row)):Int×List (List L)):=by
 unfold gd at hg
 show ∃n,iter step n (Pt.p0 a1 0 (a0.map aI.row))=_
 unfold md
 refine gF (el:=el) (xs:=a0) aI.zero eK iJ (pt:=fun i k c=>Pt.p0 k (i:Int) (c.map aI.row)) (out:=fun b=>ret (b.1,b.2.map aI.row)) (fun J i k c hi hc hk=>?_) (fun J k c hc=>?_) hg
 ·have hm:c.length≤maxLen:=hc ▸ h0
  simp only [step,SS]
  refine ak (aL hi) ?_
  refine ak aH ?_
  refine ak (aL hi) ?_
  refine bh ((e1 (c.getD i aI.zero) k).1,((e1 (c.getD i aI.zero) k).2.map aa.row)) (Z268.aj (a0:=(c.getD i aI.zero).aQ) (a1:=k) hk) ?_
  repeat first | refine ak aH ?_ | refine ak (aL hi) ?_ | refine ak (gZ _) ?_
  refine bh ((e2 (c.getD i aI.zero) k).1,((e2 (c.getD i aI.zero) k).2.map ah.row)) (Z274.aj (a0:=(c.getD i aI.zero).bH) (a1:=(e1 (c.getD i aI.zero) k).1) (Z268.iq hk)) ?_
  rw [aE hi hm]
  exact congrArg (fun q=>J (Pt.p0 (el (c.getD i aI.zero) k).1 ((i+1:Nat):Int) q)) (List.map_set (f:=aI.row) (l:=c) (i:=i) (a:=(el (c.getD i aI.zero) k).2)).symm
 ·simp only [step,SS]
  refine cN (by apply decide_eq_false;omega) ?_
  rfl
theorem af:eV Tryz.prog Ev 177 aV:=MV (run:=fun n x=>start (iter step n) x.1 x.2) mix aD .nil (.cons Z268.af (.cons Z274.af .nil)) Tryz.func177 (by kernel_rfl) run_eq (fun ls a hl e hg=>bq a.1 a.2 hg (by have h:(ls.headD .hole).aR.length≤maxLen:=(hl _ _ (.head _)).len;have e:a.1.map aI.row=(ls.headD .hole).aR:=(congrArg (fun x=>x.1) e.symm);rw [←e] at h;simpa using h))
theorem iq {a0:List aI}{a1:Int}(h:eK a1):eK (md a0 a1).1:=jR iJ h
theorem qE (x:aI)(k:Int)(h0:0≤k)(hb:k+(cnt x:Int)≤4611686018427387904):(el x k).1=k+cnt x:=by
 simp only [cnt,Int.natCast_add] at hb ⊢
 simp (disch:=omega) only [el,e1,e2,wi,Z268.kk,Z274.kk]
 all_goals first | done | omega
theorem kk (a0:List aI)(a1:Int)(h0:0≤a1)(hb:a1+(sum a0:Int)≤4611686018427387904):(md a0 a1).1=a1+sum a0:=gR qE a0 a1 h0 hb
theorem sz (a:List aI):sum a≤60*(dQ (fun y:aI=>aI.size y) a):=jQ (fun x=>by
 have:=Z268.sz x.aQ
 have:=Z274.sz x.bH
 try simp only [cnt,aI.size] at *
 omega) a
end Z275
namespace Z276
set_option maxHeartbeats 8000000
inductive Pt where
 | p0 (a:Int) (b:Int) (c:List (List L))
def pid:Pt→Nat
 | .p0 ..=>2
def bY:Pt→List V
 | .p0 a b c=>[.own 0,.int .i64 a,.int .i64 b]
def bZ:Pt→List aU
 | .p0 a b c=>[.row 227 c]
def step (J:Pt→aG):Pt→aG
 | .p0 a b c=>(cond (decide (b<(c.length:Int))) (m2 b (c.length:Int) (call (Z275.R ((cI.at c (toNat b)).bE,a)) fun v1=>(m2 b (c.length:Int) (bX (Nat.beq (toNat b) (toNat b)&&true) (J (.p0 (i64.wrap (v1.1+1)) (i64.wrap (b+1)) (List.set c (toNat b) (cI.enc (⟨v1.2,v1.1⟩:cI))))))))) (ret ((a,c):Int×List (List L))))
def start (J:Pt→aG)(x0:List (List L))(x1:Int):aG:=J (.p0 x1 0 x0)
def live:Nat→Live:=fun i=>match i with | 2=>[(0,none),(1,none),(5,none)] | _=>[]
def pats:List (Bool×List K):=[(false,[.sl 227]),(false,[.int .i64])]
def res:RP:=.ot [227]
abbrev E:Env:={ T:=assoc kQ,G:=dy [],nt:=27,M:=fT [(177,Z275.aV)],np:=1,mt:=true }
theorem step_eq (I:cG)(p:Pt):cT E live I (pid p) (bM Tryz.f37) (fM (live (pid p)) (bY p) (bZ p)) (cH E Tryz.f37 res)=step (fun q=>I (pid q) (bY q) (bZ q)) p:=by
 cases p<;>kernel_rfl
theorem start_eq (I:cG)(ls:List L):eX E live I (bM Tryz.f37) (gL pats ls) (cH E Tryz.f37 res)=start (fun q=>I (pid q) (bY q) (bZ q)) (ls.headD .hole).aR ((aA 1 ls).headD .hole).toInt:=by kernel_rfl
theorem run_eq (n:Nat)(ls:List L):eO E live Tryz.f37 res n (gL pats ls)=start (iter step n) (ls.headD .hole).aR ((aA 1 ls).headD .hole).toInt:=cC (id:=pid) (vs:=bY) (hs:=bZ) (step:=step) (start:=fun J=>start J (ls.headD .hole).aR ((aA 1 ls).headD .hole).toInt) step_eq (fun I=>start_eq I ls) n
def e1 (x:az)(k:Int):=Z275.md x.bE k
def el (x:az)(k:Int):Int×az:=((i64.wrap ((e1 x k).1+1)),(⟨(e1 x k).2,(e1 x k).1⟩:az))
theorem iJ (x:az)(k:Int)(hk:eK k):eK (el x k).1:=(cy _)
def cnt (x:az):Nat:=1+Z275.sum x.bE
def sum (a:List az):Nat:=(a.map cnt).sum
def md (a0:List az)(a1:Int):Int×List az:=jB el a0 a1
def gd (a0:List az)(a1:Int):Prop:=eK a1
def acc (ls:List L):List (List L)×Int:=((ls.headD .hole).aR,((aA 1 ls).headD .hole).toInt)
def R:(List (List L)×Int)→Option (Int×List (List L)):=RR (p2 gd) (u2 md)
theorem aj {a0 a1}(h:gd a0 a1):R ((a0.map az.row),a1)=some ((md a0 a1).1,((md a0 a1).2.map az.row)):=aM (a:=(a0,a1)) h
def aV:gH:=MN pats acc R
theorem bq (a0:List az)(a1:Int)(hg:gd a0 a1)(h0:a0.length≤maxLen):∃n,start (iter step n) (a0.map az.row) a1=ret (((md a0 a1).1,((md a0 a1).2.map az.row)):Int×List (List L)):=by
 unfold gd at hg
 show ∃n,iter step n (Pt.p0 a1 0 (a0.map az.row))=_
 unfold md
 refine gF (el:=el) (xs:=a0) az.zero eK iJ (pt:=fun i k c=>Pt.p0 k (i:Int) (c.map az.row)) (out:=fun b=>ret (b.1,b.2.map az.row)) (fun J i k c hi hc hk=>?_) (fun J k c hc=>?_) hg
 ·have hm:c.length≤maxLen:=hc ▸ h0
  simp only [step,SS]
  refine ak (aL hi) ?_
  refine ak aH ?_
  refine ak (aL hi) ?_
  refine bh ((e1 (c.getD i az.zero) k).1,((e1 (c.getD i az.zero) k).2.map aI.row)) (Z275.aj (a0:=(c.getD i az.zero).bE) (a1:=k) hk) ?_
  refine ak aH ?_
  refine ak (aL hi) ?_
  refine ak (gZ _) ?_
  rw [aE hi hm]
  exact congrArg (fun q=>J (Pt.p0 (el (c.getD i az.zero) k).1 ((i+1:Nat):Int) q)) (List.map_set (f:=az.row) (l:=c) (i:=i) (a:=(el (c.getD i az.zero) k).2)).symm
 ·simp only [step,SS]
  refine cN (by apply decide_eq_false;omega) ?_
  rfl
theorem af:eV Tryz.prog Ev 37 aV:=MV (run:=fun n x=>start (iter step n) x.1 x.2) mix aD .nil (.cons Z275.af .nil) Tryz.func37 (by kernel_rfl) run_eq (fun ls a hl e hg=>bq a.1 a.2 hg (by have h:(ls.headD .hole).aR.length≤maxLen:=(hl _ _ (.head _)).len;have e:a.1.map az.row=(ls.headD .hole).aR:=(congrArg (fun x=>x.1) e.symm);rw [←e] at h;simpa using h))
theorem iq {a0:List az}{a1:Int}(h:eK a1):eK (md a0 a1).1:=jR iJ h
theorem qE (x:az)(k:Int)(h0:0≤k)(hb:k+(cnt x:Int)≤4611686018427387904):(el x k).1=k+cnt x:=by
 simp only [cnt,Int.natCast_add] at hb ⊢
 simp (disch:=omega) only [el,e1,wi,Z275.kk]
 all_goals first | done | omega
theorem kk (a0:List az)(a1:Int)(h0:0≤a1)(hb:a1+(sum a0:Int)≤4611686018427387904):(md a0 a1).1=a1+sum a0:=gR qE a0 a1 h0 hb
theorem sz (a:List az):sum a≤60*(dQ (fun y:az=>az.size y) a):=jQ (fun x=>by
 have:=Z275.sz x.bE
 try simp only [cnt,az.size] at *
 omega) a
end Z276
namespace Z277
set_option maxHeartbeats 8000000
def F (x0:aS)(x1:Int):aG:=(call (Z273.R (x0.bC,x1)) fun v1=>ret ((v1.1,v1.2):Int×List (List L)))
def pats:List (Bool×List K):=[(true,[.str,.int .i64,.int .i64,.sl 9]),(false,[.int .i64])]
def res:RP:=.ot [9]
def e1 (x:ah)(k:Int):=Z273.md x.bC k
def sum (x:ah):Nat:=0+Z273.sum x.bC
def md (a0:ah)(a1:Int):Int×List ByteArray:=((e1 a0 a1).1,(e1 a0 a1).2)
def gd (a0:ah)(a1:Int):Prop:=eK a1
def acc (ls:List L):aS×Int:=((aS.dec ls),((aA 4 ls).headD .hole).toInt)
def R:(aS×Int)→Option (Int×List (List L)):=RR (p2 gd) (u2 md)
theorem aj {a0 a1}(h:gd a0 a1):R ((ah.r a0),a1)=some ((md a0 a1).1,((md a0 a1).2.map cA)):=aM (a:=(a0,a1)) h
def aV:gH:=MN pats acc R
theorem bq (a0:ah)(a1:Int)(hg:gd a0 a1):F (ah.r a0) a1=ret (((md a0 a1).1,((md a0 a1).2.map cA)):Int×List (List L)):=by
 unfold gd at hg
 simp only [F,SS]
 unfold md
 refine bh ((e1 a0 a1).1,((e1 a0 a1).2.map cA)) (Z273.aj (a0:=a0.bC) (a1:=a1) hg) ?_
 first | rfl | (simp only [SS];rfl)
theorem af:eV Tryz.prog Ev 190 aV:=MV (live:=fun _=>[]) (nt:=10) (run:=fun _ x=>F x.1 x.2) mix aD .nil (.cons Z273.af .nil) Tryz.func190 (by kernel_rfl) (fun _ _=>by kernel_rfl) (fun _ a _ _ hg=>⟨0,bq a.1 a.2 hg⟩)
theorem iq {a0:ah}{a1:Int}(hk:eK a1):eK (md a0 a1).1:=(Z273.iq hk)
theorem kk (x:ah)(k:Int)(h0:0≤k)(hb:k+(sum x:Int)≤4611686018427387904):(md x k).1=k+sum x:=by
 simp only [sum,Int.natCast_add] at hb ⊢
 simp (disch:=omega) only [md,e1,wi,Z273.kk]
 all_goals first | done | omega
theorem sz (x:ah):sum x≤60*ah.size x:=by
 have:=Z273.sz x.bC
 try simp only [sum,ah.size] at *
 omega
def upd (x:ah)(k:Int):ah:=(⟨x.aW,x.bD,x.bS,(md x k).2⟩:ah)
end Z277
namespace Z278
set_option maxHeartbeats 8000000
def F (x0:cV)(x1:Int):aG:=(call (Z271.R (x0.bV,x1)) fun v1=>(call (Z277.R (x0.aN,v1.1)) fun v2=>(call (Z266.R (x0.bE,v2.1)) fun v3=>ret ((v3.1,v1.2.1,v1.2.2,v2.2,v3.2):Int×List (List L)×List (List L)×List (List L)×List (List L)))))
def pats:List (Bool×List K):=[(true,[.sl 92,.sl 280,.int .i64,.str,.int .i64,.int .i64,.sl 9,.sl 3,.int .i64]),(false,[.int .i64])]
def res:RP:=.ot [92,280,9,3]
def e1 (x:bz)(k:Int):=Z271.md x.bV k
def e2 (x:bz)(k:Int):=Z277.md x.aN ((e1 x k).1)
def e3 (x:bz)(k:Int):=Z266.md x.bE ((e2 x k).1)
def sum (x:bz):Nat:=0+Z271.sum x.bV+Z277.sum x.aN+Z266.sum x.bE
def md (a0:bz)(a1:Int):Int×List (List aa)×List aB×List ByteArray×List Int:=((e3 a0 a1).1,(e1 a0 a1).2.1,(e1 a0 a1).2.2,(e2 a0 a1).2,(e3 a0 a1).2)
def gd (a0:bz)(a1:Int):Prop:=eK a1
def acc (ls:List L):cV×Int:=((cV.dec ls),((aA 9 ls).headD .hole).toInt)
def R:(cV×Int)→Option (Int×List (List L)×List (List L)×List (List L)×List (List L)):=RR (p2 gd) (u2 md)
theorem aj {a0 a1}(h:gd a0 a1):R ((bz.r a0),a1)=some ((md a0 a1).1,((md a0 a1).2.1.map (dK aa.row)),((md a0 a1).2.2.1.map aB.row),((md a0 a1).2.2.2.1.map cA),((md a0 a1).2.2.2.2.map aZ)):=aM (a:=(a0,a1)) h
def aV:gH:=MN pats acc R
theorem bq (a0:bz)(a1:Int)(hg:gd a0 a1):F (bz.r a0) a1=ret (((md a0 a1).1,((md a0 a1).2.1.map (dK aa.row)),((md a0 a1).2.2.1.map aB.row),((md a0 a1).2.2.2.1.map cA),((md a0 a1).2.2.2.2.map aZ)):Int×List (List L)×List (List L)×List (List L)×List (List L)):=by
 unfold gd at hg
 simp only [F,SS]
 unfold md
 refine bh ((e1 a0 a1).1,((e1 a0 a1).2.1.map (dK aa.row)),((e1 a0 a1).2.2.map aB.row)) (Z271.aj (a0:=a0.bV) (a1:=a1) hg) ?_
 refine bh ((e2 a0 a1).1,((e2 a0 a1).2.map cA)) (Z277.aj (a0:=a0.aN) (a1:=(e1 a0 a1).1) (Z271.iq hg)) ?_
 refine bh ((e3 a0 a1).1,((e3 a0 a1).2.map aZ)) (Z266.aj (a0:=a0.bE) (a1:=(e2 a0 a1).1) (Z277.iq (Z271.iq hg))) ?_
 first | rfl | (simp only [SS];rfl)
theorem af:eV Tryz.prog Ev 50 aV:=MV (live:=fun _=>[]) (nt:=18) (run:=fun _ x=>F x.1 x.2) mix aD .nil (.cons Z271.af (.cons Z277.af (.cons Z266.af .nil))) Tryz.func50 (by kernel_rfl) (fun _ _=>by kernel_rfl) (fun _ a _ _ hg=>⟨0,bq a.1 a.2 hg⟩)
theorem iq {a0:bz}{a1:Int}(hk:eK a1):eK (md a0 a1).1:=(Z266.iq (Z277.iq (Z271.iq hk)))
theorem kk (x:bz)(k:Int)(h0:0≤k)(hb:k+(sum x:Int)≤4611686018427387904):(md x k).1=k+sum x:=by
 simp only [sum,Int.natCast_add] at hb ⊢
 simp (disch:=omega) only [md,e1,e2,e3,wi,Z271.kk,Z277.kk,Z266.kk]
 all_goals first | done | omega
theorem sz (x:bz):sum x≤60*bz.size x:=by
 have:=Z271.sz x.bV
 have:=Z277.sz x.aN
 have:=Z266.sz x.bE
 try simp only [sum,bz.size,au.size,ah.size] at *
 omega
def upd (x:bz)(k:Int):bz:=(⟨(⟨(md x k).2.1,(md x k).2.2.1⟩:au),x.eZ,(⟨x.aN.aW,x.aN.bD,x.aN.bS,(md x k).2.2.2.1⟩:ah),(md x k).2.2.2.2,x.eY⟩:bz)
end Z278
namespace Z279
set_option maxHeartbeats 8000000
inductive Pt where
 | p0 (a:List (List L)) (b:Int) (c:Int)
def pid:Pt→Nat
 | .p0 ..=>2
def bY:Pt→List V
 | .p0 a b c=>[.sl none 3 a,.int .i64 b,.int .i64 c]
def bZ:Pt→List aU
 | .p0 a b c=>[]
def step (J:Pt→aG):Pt→aG
 | .p0 a b c=>(cond (decide (c<(a.length:Int))) (m2 c (a.length:Int) (cond ((jv a (toNat c)) != b) (ret ((-1):Int)) (J (.p0 a (i64.wrap (b+1)) (i64.wrap (c+1)))))) (ret (b:Int)))
def start (J:Pt→aG)(x0:List (List L))(x1:Int):aG:=J (.p0 x0 x1 0)
def live:Nat→Live:=fun i=>match i with | 2=>[(0,none),(1,none),(5,none)] | _=>[]
def pats:List gq:=[.rd (.sl 3),.rd (.int .i64)]
def res:RP:=.one (.rd (.int .i64))
abbrev E:Env:={ T:=assoc kQ,G:=dy [],nt:=21 }
theorem step_eq (I:cG)(p:Pt):cT E live I (pid p) (bM Tryz.f183) (fM (live (pid p)) (bY p) (bZ p)) (cH E Tryz.f183 res)=step (fun q=>I (pid q) (bY q) (bZ q)) p:=by
 cases p<;>kernel_rfl
theorem start_eq (I:cG)(ls:List L):eX E live I (bM Tryz.f183) (cZ pats ls) (cH E Tryz.f183 res)=start (fun q=>I (pid q) (bY q) (bZ q)) (ls.headD .hole).aR ((aA 1 ls).headD .hole).toInt:=by kernel_rfl
theorem run_eq (n:Nat)(ls:List L):eO E live Tryz.f183 res n (cZ pats ls)=start (iter step n) (ls.headD .hole).aR ((aA 1 ls).headD .hole).toInt:=cC (id:=pid) (vs:=bY) (hs:=bZ) (step:=step) (start:=fun J=>start J (ls.headD .hole).aR ((aA 1 ls).headD .hole).toInt) step_eq (fun I=>start_eq I ls) n
def f (x:Int)(k:Int):Option Int:=(cond (x != k) none (some (i64.wrap (k+1))))
theorem vf (x:Int)(k k2:Int)(hk:eK k)(h:f x k=some k2):eK k2:=by
 unfold f at h
 have h:=bG h
 injection h with h
 subst h
 exact (cy _)
def md (a0:List Int)(a1:Int):Int:=jx f a0 a1
def gd (a0:List Int)(a1:Int):Prop:=eK a1
def acc (ls:List L):List (List L)×Int:=((ls.headD .hole).aR,((aA 1 ls).headD .hole).toInt)
def R:(List (List L)×Int)→Option Int:=RR (p2 gd) (u2 md)
theorem aj {a0 a1}(h:gd a0 a1):R ((a0.map aZ),a1)=some (md a0 a1):=aM (a:=(a0,a1)) h
def aV:fW:=CN pats res acc R
theorem bq (a0:List Int)(a1:Int)(hg:gd a0 a1)(h0:a0.length≤maxLen):∃n,start (iter step n) (a0.map aZ) a1=ret ((md a0 a1):Int):=by
 unfold gd at hg
 show ∃n,iter step n (Pt.p0 (a0.map aZ) a1 0)=_
 unfold md
 refine ji (f:=f) (xs:=a0) 0 eK vf (pt:=fun i k=>Pt.p0 (a0.map aZ) k (i:Int)) (fun J i k hi hk=>?_) (fun J k=>?_) hg
 ·simp only [step,SS]
  refine ak (aL hi) ?_
  refine ak aH ?_
  refine ak (aL hi) ?_
  refine bI rfl ?_
  rw [aE hi h0]
  rfl
 ·simp only [step,SS]
  refine cN (by apply decide_eq_false;omega) ?_
  rfl
theorem af:cw 183 aV:=VV (run:=fun n x=>start (iter step n) x.1 x.2) mix aD .nil Tryz.func183 (by kernel_rfl) run_eq (fun ls a hl e hg=>bq a.1 a.2 hg (by have h:(ls.headD .hole).aR.length≤maxLen:=hl.1.len;have e:a.1.map aZ=(ls.headD .hole).aR:=(congrArg (fun x=>x.1) e.symm);rw [←e] at h;simpa using h))
theorem iq {a0:List Int}{a1:Int}(h:eK a1):eK (md a0 a1):=kA vf jJ h
theorem xJ (x:Int)(k:Int)(h0:0≤k)(hb:k+(Z266.cnt x:Int)≤4611686018427387904):f (Z266.el x k).2 k=some (k+Z266.cnt x):=by
 simp only [Z266.cnt,Int.natCast_add] at hb ⊢
 simp (disch:=omega) only [Z266.el,f,wi,bne_self_eq_false,beq_self_eq_true,gr,Bool.not_true,bk,dn]
 all_goals first | done | omega | (congr 1<;>omega)
theorem mk (a0:List Int)(a1:Int)(h0:0≤a1)(hb:a1+(Z266.sum a0:Int)≤4611686018427387904):md (Z266.md a0 a1).2 a1=a1+Z266.sum a0:=iC Z266.qE xJ a0 a1 h0 hb
end Z279
namespace Z280
set_option maxHeartbeats 8000000
inductive Pt where
 | p0 (a:List (List L)) (b:Int) (c:Int)
def pid:Pt→Nat
 | .p0 ..=>2
def bY:Pt→List V
 | .p0 a b c=>[.sl none 428 a,.int .i64 b,.int .i64 c]
def bZ:Pt→List aU
 | .p0 a b c=>[]
def step (J:Pt→aG):Pt→aG
 | .p0 a b c=>(cond (decide (c<(a.length:Int))) (m2 c (a.length:Int) (cond ((aY.at a (toNat c)).gN != b) (ret ((-1):Int)) (m2 c (a.length:Int) (cond ((aY.at a (toNat c)).jw != (i64.wrap (b+1))) (ret ((-1):Int)) (J (.p0 a (i64.wrap ((i64.wrap (b+1))+1)) (i64.wrap (c+1)))))))) (ret (b:Int)))
def start (J:Pt→aG)(x0:List (List L))(x1:Int):aG:=J (.p0 x0 x1 0)
def live:Nat→Live:=fun i=>match i with | 2=>[(0,none),(1,none),(5,none)] | _=>[]
def pats:List gq:=[.rd (.sl 428),.rd (.int .i64)]
def res:RP:=.one (.rd (.int .i64))
abbrev E:Env:={ T:=assoc kQ,G:=dy [],nt:=31 }
theorem step_eq (I:cG)(p:Pt):cT E live I (pid p) (bM Tryz.f335) (fM (live (pid p)) (bY p) (bZ p)) (cH E Tryz.f335 res)=step (fun q=>I (pid q) (bY q) (bZ q)) p:=by
 cases p<;>kernel_rfl
theorem start_eq (I:cG)(ls:List L):eX E live I (bM Tryz.f335) (cZ pats ls) (cH E Tryz.f335 res)=start (fun q=>I (pid q) (bY q) (bZ q)) (ls.headD .hole).aR ((aA 1 ls).headD .hole).toInt:=by kernel_rfl
theorem run_eq (n:Nat)(ls:List L):eO E live Tryz.f335 res n (cZ pats ls)=start (iter step n) (ls.headD .hole).aR ((aA 1 ls).headD .hole).toInt:=cC (id:=pid) (vs:=bY) (hs:=bZ) (step:=step) (start:=fun J=>start J (ls.headD .hole).aR ((aA 1 ls).headD .hole).toInt) step_eq (fun I=>start_eq I ls) n
def f (x:aY)(k:Int):Option Int:=(cond (x.gN != k) none (cond (x.jw != (i64.wrap (k+1))) none (some (i64.wrap ((i64.wrap (k+1))+1)))))
theorem vf (x:aY)(k k2:Int)(hk:eK k)(h:f x k=some k2):eK k2:=by
 unfold f at h
 have h:=bG h
 have h:=bG h
 injection h with h
 subst h
 exact (cy _)
def md (a0:List aY)(a1:Int):Int:=jx f a0 a1
def gd (a0:List aY)(a1:Int):Prop:=eK a1
def acc (ls:List L):List (List L)×Int:=((ls.headD .hole).aR,((aA 1 ls).headD .hole).toInt)
def R:(List (List L)×Int)→Option Int:=RR (p2 gd) (u2 md)
theorem aj {a0 a1}(h:gd a0 a1):R ((a0.map aY.row),a1)=some (md a0 a1):=aM (a:=(a0,a1)) h
def aV:fW:=CN pats res acc R
theorem bq (a0:List aY)(a1:Int)(hg:gd a0 a1)(h0:a0.length≤maxLen):∃n,start (iter step n) (a0.map aY.row) a1=ret ((md a0 a1):Int):=by
 unfold gd at hg
 show ∃n,iter step n (Pt.p0 (a0.map aY.row) a1 0)=_
 unfold md
 refine ji (f:=f) (xs:=a0) aY.zero eK vf (pt:=fun i k=>Pt.p0 (a0.map aY.row) k (i:Int)) (fun J i k hi hk=>?_) (fun J k=>?_) hg
 ·simp only [step,SS]
  refine ak (aL hi) ?_
  refine ak aH ?_
  refine ak (aL hi) ?_
  refine bI rfl ?_
  refine ak aH ?_
  refine ak (aL hi) ?_
  refine bI rfl ?_
  rw [aE hi h0]
  rfl
 ·simp only [step,SS]
  refine cN (by apply decide_eq_false;omega) ?_
  rfl
theorem af:cw 335 aV:=VV (run:=fun n x=>start (iter step n) x.1 x.2) mix aD .nil Tryz.func335 (by kernel_rfl) run_eq (fun ls a hl e hg=>bq a.1 a.2 hg (by have h:(ls.headD .hole).aR.length≤maxLen:=hl.1.len;have e:a.1.map aY.row=(ls.headD .hole).aR:=(congrArg (fun x=>x.1) e.symm);rw [←e] at h;simpa using h))
theorem iq {a0:List aY}{a1:Int}(h:eK a1):eK (md a0 a1):=kA vf jJ h
theorem xJ (x:aY)(k:Int)(h0:0≤k)(hb:k+(Z267.cnt x:Int)≤4611686018427387904):f (Z267.el x k).2 k=some (k+Z267.cnt x):=by
 simp only [Z267.cnt,Int.natCast_add] at hb ⊢
 simp (disch:=omega) only [Z267.el,f,wi,bne_self_eq_false,beq_self_eq_true,gr,Bool.not_true,bk,dn]
 all_goals first | done | omega | (congr 1<;>omega)
theorem mk (a0:List aY)(a1:Int)(h0:0≤a1)(hb:a1+(Z267.sum a0:Int)≤4611686018427387904):md (Z267.md a0 a1).2 a1=a1+Z267.sum a0:=iC Z267.qE xJ a0 a1 h0 hb
end Z280
namespace Z281
set_option maxHeartbeats 8000000
inductive Pt where
 | p0 (a:List (List L)) (b:Int) (c:Int)
def pid:Pt→Nat
 | .p0 ..=>2
def bY:Pt→List V
 | .p0 a b c=>[.sl none 123 a,.int .i64 b,.int .i64 c]
def bZ:Pt→List aU
 | .p0 a b c=>[]
def step (J:Pt→aG):Pt→aG
 | .p0 a b c=>(cond (decide (c<(a.length:Int))) (m2 c (a.length:Int) (cond ((aO.at a (toNat c)).aq.bA != b) (ret ((-1):Int)) (m2 c (a.length:Int) (cond ((aO.at a (toNat c)).aq.cE != (i64.wrap (b+1))) (ret ((-1):Int)) (m2 c (a.length:Int) (cond ((aO.at a (toNat c)).aq.bD != (i64.wrap ((i64.wrap (b+1))+1))) (ret ((-1):Int)) (m2 c (a.length:Int) (cond ((aO.at a (toNat c)).aq.cB != (i64.wrap ((i64.wrap ((i64.wrap (b+1))+1))+1))) (ret ((-1):Int)) (m2 c (a.length:Int) (cond ((aO.at a (toNat c)).aq.cq != (i64.wrap ((i64.wrap ((i64.wrap ((i64.wrap (b+1))+1))+1))+1))) (ret ((-1):Int)) (m2 c (a.length:Int) (cond ((aO.at a (toNat c)).aq.cg != (i64.wrap ((i64.wrap ((i64.wrap ((i64.wrap ((i64.wrap (b+1))+1))+1))+1))+1))) (ret ((-1):Int)) (m2 c (a.length:Int) (cond ((aO.at a (toNat c)).aq.cS != (i64.wrap ((i64.wrap ((i64.wrap ((i64.wrap ((i64.wrap ((i64.wrap (b+1))+1))+1))+1))+1))+1))) (ret ((-1):Int)) (m2 c (a.length:Int) (cond ((aO.at a (toNat c)).aq.dz != (i64.wrap ((i64.wrap ((i64.wrap ((i64.wrap ((i64.wrap ((i64.wrap ((i64.wrap (b+1))+1))+1))+1))+1))+1))+1))) (ret ((-1):Int)) (m2 c (a.length:Int) (call (Z279.R ((aO.at a (toNat c)).aq.bJ.aT,(i64.wrap ((i64.wrap ((i64.wrap ((i64.wrap ((i64.wrap ((i64.wrap ((i64.wrap ((i64.wrap (b+1))+1))+1))+1))+1))+1))+1))+1)))) fun v1=>(cond (decide (v1<0)) (ret ((-1):Int)) (m2 c (a.length:Int) (cond ((aO.at a (toNat c)).aq.bJ.cu != v1) (ret ((-1):Int)) (m2 c (a.length:Int) (call (Z279.R ((aO.at a (toNat c)).aq.bw.aT,(i64.wrap (v1+1)))) fun v2=>(cond (decide (v2<0)) (ret ((-1):Int)) (m2 c (a.length:Int) (cond ((aO.at a (toNat c)).aq.bw.cu != v2) (ret ((-1):Int)) (m2 c (a.length:Int) (cond ((aO.at a (toNat c)).aq.cW != (i64.wrap (v2+1))) (ret ((-1):Int)) (m2 c (a.length:Int) (call (Z279.R ((aO.at a (toNat c)).aq.bp.aT,(i64.wrap ((i64.wrap (v2+1))+1)))) fun v3=>(cond (decide (v3<0)) (ret ((-1):Int)) (m2 c (a.length:Int) (cond ((aO.at a (toNat c)).aq.bp.cu != v3) (ret ((-1):Int)) (m2 c (a.length:Int) (cond (!((aO.at a (toNat c)).aq.bB==((Int.tmod (i64.wrap (v3+1)) 3)==0))) (ret ((-1):Int)) (m2 c (a.length:Int) (call (Z280.R ((aO.at a (toNat c)).bW,(i64.wrap ((i64.wrap (v3+1))+1)))) fun v4=>(cond (decide (v4<0)) (ret ((-1):Int)) (J (.p0 a v4 (i64.wrap (c+1)))))))))))))))))))))))))))))))))))))))))) (ret (b:Int)))
def start (J:Pt→aG)(x0:List (List L))(x1:Int):aG:=J (.p0 x0 x1 0)
def live:Nat→Live:=fun i=>match i with | 2=>[(0,none),(1,none),(5,none)] | _=>[]
def pats:List gq:=[.rd (.sl 123),.rd (.int .i64)]
def res:RP:=.one (.rd (.int .i64))
abbrev E:Env:={ T:=assoc kQ,G:=dy [(183,Z279.aV),(335,Z280.aV)],nt:=190 }
theorem step_eq (I:cG)(p:Pt):cT E live I (pid p) (bM Tryz.f334) (fM (live (pid p)) (bY p) (bZ p)) (cH E Tryz.f334 res)=step (fun q=>I (pid q) (bY q) (bZ q)) p:=by
 cases p<;>kernel_rfl
theorem start_eq (I:cG)(ls:List L):eX E live I (bM Tryz.f334) (cZ pats ls) (cH E Tryz.f334 res)=start (fun q=>I (pid q) (bY q) (bZ q)) (ls.headD .hole).aR ((aA 1 ls).headD .hole).toInt:=by kernel_rfl
theorem run_eq (n:Nat)(ls:List L):eO E live Tryz.f334 res n (cZ pats ls)=start (iter step n) (ls.headD .hole).aR ((aA 1 ls).headD .hole).toInt:=cC (id:=pid) (vs:=bY) (hs:=bZ) (step:=step) (start:=fun J=>start J (ls.headD .hole).aR ((aA 1 ls).headD .hole).toInt) step_eq (fun I=>start_eq I ls) n
def e1 (x:aa)(k:Int):=Z279.md (((x.aq).bJ).aT) (i64.wrap ((i64.wrap ((i64.wrap ((i64.wrap ((i64.wrap ((i64.wrap ((i64.wrap ((i64.wrap (k+1))+1))+1))+1))+1))+1))+1))+1))
def e2 (x:aa)(k:Int):=Z279.md (((x.aq).bw).aT) (i64.wrap ((e1 x k)+1))
def e3 (x:aa)(k:Int):=Z279.md (((x.aq).bp).aT) (i64.wrap ((i64.wrap ((e2 x k)+1))+1))
def e4 (x:aa)(k:Int):=Z280.md x.bW (i64.wrap ((i64.wrap ((e3 x k)+1))+1))
def f (x:aa)(k:Int):Option Int:=(cond ((x.aq).bA != k) none (cond ((x.aq).cE != (i64.wrap (k+1))) none (cond ((x.aq).bD != (i64.wrap ((i64.wrap (k+1))+1))) none (cond ((x.aq).cB != (i64.wrap ((i64.wrap ((i64.wrap (k+1))+1))+1))) none (cond ((x.aq).cq != (i64.wrap ((i64.wrap ((i64.wrap ((i64.wrap (k+1))+1))+1))+1))) none (cond ((x.aq).cg != (i64.wrap ((i64.wrap ((i64.wrap ((i64.wrap ((i64.wrap (k+1))+1))+1))+1))+1))) none (cond ((x.aq).cS != (i64.wrap ((i64.wrap ((i64.wrap ((i64.wrap ((i64.wrap ((i64.wrap (k+1))+1))+1))+1))+1))+1))) none (cond ((x.aq).dz != (i64.wrap ((i64.wrap ((i64.wrap ((i64.wrap ((i64.wrap ((i64.wrap ((i64.wrap (k+1))+1))+1))+1))+1))+1))+1))) none (cond (decide ((e1 x k)<0)) none (cond (((x.aq).bJ).cu != (e1 x k)) none (cond (decide ((e2 x k)<0)) none (cond (((x.aq).bw).cu != (e2 x k)) none (cond ((x.aq).cW != (i64.wrap ((e2 x k)+1))) none (cond (decide ((e3 x k)<0)) none (cond (((x.aq).bp).cu != (e3 x k)) none (cond (!((x.aq).bB==((Int.tmod (i64.wrap ((e3 x k)+1)) 3)==0))) none (cond (decide ((e4 x k)<0)) none (some (e4 x k)))))))))))))))))))
theorem vf (x:aa)(k k2:Int)(hk:eK k)(h:f x k=some k2):eK k2:=by
 unfold f at h
 have h:=bG h
 have h:=bG h
 have h:=bG h
 have h:=bG h
 have h:=bG h
 have h:=bG h
 have h:=bG h
 have h:=bG h
 have h:=bG h
 have h:=bG h
 have h:=bG h
 have h:=bG h
 have h:=bG h
 have h:=bG h
 have h:=bG h
 have h:=bG h
 have h:=bG h
 injection h with h
 subst h
 exact (Z280.iq (cy _))
def md (a0:List aa)(a1:Int):Int:=jx f a0 a1
def gd (a0:List aa)(a1:Int):Prop:=eK a1
def acc (ls:List L):List (List L)×Int:=((ls.headD .hole).aR,((aA 1 ls).headD .hole).toInt)
def R:(List (List L)×Int)→Option Int:=RR (p2 gd) (u2 md)
theorem aj {a0 a1}(h:gd a0 a1):R ((a0.map aa.row),a1)=some (md a0 a1):=aM (a:=(a0,a1)) h
def aV:fW:=CN pats res acc R
theorem bq (a0:List aa)(a1:Int)(hg:gd a0 a1)(h0:a0.length≤maxLen):∃n,start (iter step n) (a0.map aa.row) a1=ret ((md a0 a1):Int):=by
 unfold gd at hg
 show ∃n,iter step n (Pt.p0 (a0.map aa.row) a1 0)=_
 unfold md
 refine ji (f:=f) (xs:=a0) aa.zero eK vf (pt:=fun i k=>Pt.p0 (a0.map aa.row) k (i:Int)) (fun J i k hi hk=>?_) (fun J k=>?_) hg
 ·simp only [step,SS]
  refine ak (aL hi) ?_
  refine ak aH ?_
  refine ak (aL hi) ?_
  refine bI rfl ?_
  refine ak aH ?_
  refine ak (aL hi) ?_
  refine bI rfl ?_
  refine ak aH ?_
  refine ak (aL hi) ?_
  refine bI rfl ?_
  refine ak aH ?_
  refine ak (aL hi) ?_
  refine bI rfl ?_
  refine ak aH ?_
  refine ak (aL hi) ?_
  refine bI rfl ?_
  refine ak aH ?_
  refine ak (aL hi) ?_
  refine bI rfl ?_
  refine ak aH ?_
  refine ak (aL hi) ?_
  refine bI rfl ?_
  refine ak aH ?_
  refine ak (aL hi) ?_
  refine bI rfl ?_
  refine ak aH ?_
  refine ak (aL hi) ?_
  refine bh (e1 (a0.getD i aa.zero) k) (Z279.aj (a0:=(((a0.getD i aa.zero).aq).bJ).aT) (a1:=i64.wrap ((i64.wrap ((i64.wrap ((i64.wrap ((i64.wrap ((i64.wrap ((i64.wrap ((i64.wrap (k+1))+1))+1))+1))+1))+1))+1))+1)) (cy _)) ?_
  refine bI rfl ?_
  refine ak aH ?_
  refine ak (aL hi) ?_
  refine bI rfl ?_
  refine ak aH ?_
  refine ak (aL hi) ?_
  refine bh (e2 (a0.getD i aa.zero) k) (Z279.aj (a0:=(((a0.getD i aa.zero).aq).bw).aT) (a1:=i64.wrap ((e1 (a0.getD i aa.zero) k)+1)) (cy _)) ?_
  refine bI rfl ?_
  refine ak aH ?_
  refine ak (aL hi) ?_
  refine bI rfl ?_
  refine ak aH ?_
  refine ak (aL hi) ?_
  refine bI rfl ?_
  refine ak aH ?_
  refine ak (aL hi) ?_
  refine bh (e3 (a0.getD i aa.zero) k) (Z279.aj (a0:=(((a0.getD i aa.zero).aq).bp).aT) (a1:=i64.wrap ((i64.wrap ((e2 (a0.getD i aa.zero) k)+1))+1)) (cy _)) ?_
  refine bI rfl ?_
  refine ak aH ?_
  refine ak (aL hi) ?_
  refine bI rfl ?_
  refine ak aH ?_
  refine ak (aL hi) ?_
  refine bI rfl ?_
  refine ak aH ?_
  refine ak (aL hi) ?_
  refine bh (e4 (a0.getD i aa.zero) k) (Z280.aj (a0:=(a0.getD i aa.zero).bW) (a1:=i64.wrap ((i64.wrap ((e3 (a0.getD i aa.zero) k)+1))+1)) (cy _)) ?_
  refine bI rfl ?_
  rw [aE hi h0]
  rfl
 ·simp only [step,SS]
  refine cN (by apply decide_eq_false;omega) ?_
  rfl
theorem af:cw 334 aV:=VV (run:=fun n x=>start (iter step n) x.1 x.2) mix aD (.cons Z279.af (.cons Z280.af .nil)) Tryz.func334 (by kernel_rfl) run_eq (fun ls a hl e hg=>bq a.1 a.2 hg (by have h:(ls.headD .hole).aR.length≤maxLen:=hl.1.len;have e:a.1.map aa.row=(ls.headD .hole).aR:=(congrArg (fun x=>x.1) e.symm);rw [←e] at h;simpa using h))
theorem iq {a0:List aa}{a1:Int}(h:eK a1):eK (md a0 a1):=kA vf jJ h
theorem xJ (x:aa)(k:Int)(h0:0≤k)(hb:k+(Z268.cnt x:Int)≤4611686018427387904):f (Z268.el x k).2 k=some (k+Z268.cnt x):=by
 simp only [Z268.cnt,Int.natCast_add] at hb ⊢
 simp (disch:=omega) only [Z268.el,f,Z268.e1,Z268.e2,Z268.e3,Z268.e4,e1,e2,e3,e4,wi,Z266.kk,Z279.mk,Z267.kk,Z280.mk,bne_self_eq_false,beq_self_eq_true,gr,Bool.not_true,bk,dn]
 all_goals first | done | omega | (congr 1<;>omega)
theorem mk (a0:List aa)(a1:Int)(h0:0≤a1)(hb:a1+(Z268.sum a0:Int)≤4611686018427387904):md (Z268.md a0 a1).2 a1=a1+Z268.sum a0:=iC Z268.qE xJ a0 a1 h0 hb
end Z281
namespace Z282
set_option maxHeartbeats 8000000
inductive Pt where
 | p0 (a:List (List L)) (b:Int) (c:Int)
def pid:Pt→Nat
 | .p0 ..=>2
def bY:Pt→List V
 | .p0 a b c=>[.sl none 92 a,.int .i64 b,.int .i64 c]
def bZ:Pt→List aU
 | .p0 a b c=>[]
def step (J:Pt→aG):Pt→aG
 | .p0 a b c=>(cond (decide (c<(a.length:Int))) (m2 c (a.length:Int) (call (Z281.R ((oO a (toNat c)),b)) fun v1=>(cond (decide (v1<0)) (ret ((-1):Int)) (J (.p0 a v1 (i64.wrap (c+1))))))) (ret (b:Int)))
def start (J:Pt→aG)(x0:List (List L))(x1:Int):aG:=J (.p0 x0 x1 0)
def live:Nat→Live:=fun i=>match i with | 2=>[(0,none),(1,none),(5,none)] | _=>[]
def pats:List gq:=[.rd (.sl 92),.rd (.int .i64)]
def res:RP:=.one (.rd (.int .i64))
abbrev E:Env:={ T:=assoc kQ,G:=dy [(334,Z281.aV)],nt:=21 }
theorem step_eq (I:cG)(p:Pt):cT E live I (pid p) (bM Tryz.f180) (fM (live (pid p)) (bY p) (bZ p)) (cH E Tryz.f180 res)=step (fun q=>I (pid q) (bY q) (bZ q)) p:=by
 cases p<;>kernel_rfl
theorem start_eq (I:cG)(ls:List L):eX E live I (bM Tryz.f180) (cZ pats ls) (cH E Tryz.f180 res)=start (fun q=>I (pid q) (bY q) (bZ q)) (ls.headD .hole).aR ((aA 1 ls).headD .hole).toInt:=by kernel_rfl
theorem run_eq (n:Nat)(ls:List L):eO E live Tryz.f180 res n (cZ pats ls)=start (iter step n) (ls.headD .hole).aR ((aA 1 ls).headD .hole).toInt:=cC (id:=pid) (vs:=bY) (hs:=bZ) (step:=step) (start:=fun J=>start J (ls.headD .hole).aR ((aA 1 ls).headD .hole).toInt) step_eq (fun I=>start_eq I ls) n
def e1 (x:List aa)(k:Int):=Z281.md x k
def f (x:List aa)(k:Int):Option Int:=(cond (decide ((e1 x k)<0)) none (some (e1 x k)))
theorem vf (x:List aa)(k k2:Int)(hk:eK k)(h:f x k=some k2):eK k2:=by
 unfold f at h
 have h:=bG h
 injection h with h
 subst h
 exact (Z281.iq hk)
def md (a0:List (List aa))(a1:Int):Int:=jx f a0 a1
def gd (a0:List (List aa))(a1:Int):Prop:=eK a1
def acc (ls:List L):List (List L)×Int:=((ls.headD .hole).aR,((aA 1 ls).headD .hole).toInt)
def R:(List (List L)×Int)→Option Int:=RR (p2 gd) (u2 md)
theorem aj {a0 a1}(h:gd a0 a1):R ((a0.map (dK aa.row)),a1)=some (md a0 a1):=aM (a:=(a0,a1)) h
def aV:fW:=CN pats res acc R
theorem bq (a0:List (List aa))(a1:Int)(hg:gd a0 a1)(h0:a0.length≤maxLen):∃n,start (iter step n) (a0.map (dK aa.row)) a1=ret ((md a0 a1):Int):=by
 unfold gd at hg
 show ∃n,iter step n (Pt.p0 (a0.map (dK aa.row)) a1 0)=_
 unfold md
 refine ji (f:=f) (xs:=a0) [] eK vf (pt:=fun i k=>Pt.p0 (a0.map (dK aa.row)) k (i:Int)) (fun J i k hi hk=>?_) (fun J k=>?_) hg
 ·simp only [step,SS]
  refine ak (aL hi) ?_
  refine ak aH ?_
  refine ak (aL hi) ?_
  refine bh (e1 (a0.getD i []) k) (Z281.aj (a0:=a0.getD i []) (a1:=k) hk) ?_
  refine bI rfl ?_
  rw [aE hi h0]
  rfl
 ·simp only [step,SS]
  refine cN (by apply decide_eq_false;omega) ?_
  rfl
theorem af:cw 180 aV:=VV (run:=fun n x=>start (iter step n) x.1 x.2) mix aD (.cons Z281.af .nil) Tryz.func180 (by kernel_rfl) run_eq (fun ls a hl e hg=>bq a.1 a.2 hg (by have h:(ls.headD .hole).aR.length≤maxLen:=hl.1.len;have e:a.1.map (dK aa.row)=(ls.headD .hole).aR:=(congrArg (fun x=>x.1) e.symm);rw [←e] at h;simpa using h))
theorem iq {a0:List (List aa)}{a1:Int}(h:eK a1):eK (md a0 a1):=kA vf jJ h
theorem xJ (x:List aa)(k:Int)(h0:0≤k)(hb:k+(Z269.cnt x:Int)≤4611686018427387904):f (Z269.el x k).2 k=some (k+Z269.cnt x):=by
 simp only [Z269.cnt,Int.natCast_add] at hb ⊢
 simp (disch:=omega) only [Z269.el,f,Z269.e1,e1,wi,Z268.kk,Z281.mk,bne_self_eq_false,beq_self_eq_true,gr,Bool.not_true,bk,dn]
 all_goals first | done | omega | (congr 1<;>omega)
theorem mk (a0:List (List aa))(a1:Int)(h0:0≤a1)(hb:a1+(Z269.sum a0:Int)≤4611686018427387904):md (Z269.md a0 a1).2 a1=a1+Z269.sum a0:=iC Z269.qE xJ a0 a1 h0 hb
end Z282
namespace Z283
set_option maxHeartbeats 8000000
inductive Pt where
 | p0 (a:List (List L)) (b:Int) (c:Int)
def pid:Pt→Nat
 | .p0 ..=>2
def bY:Pt→List V
 | .p0 a b c=>[.sl none 280 a,.int .i64 b,.int .i64 c]
def bZ:Pt→List aU
 | .p0 a b c=>[]
def step (J:Pt→aG):Pt→aG
 | .p0 a b c=>(cond (decide (c<(a.length:Int))) (m2 c (a.length:Int) (cond ((bF.at a (toNat c)).aP.aq.bA != b) (ret ((-1):Int)) (m2 c (a.length:Int) (cond ((bF.at a (toNat c)).aP.aq.cE != (i64.wrap (b+1))) (ret ((-1):Int)) (m2 c (a.length:Int) (cond ((bF.at a (toNat c)).aP.aq.bD != (i64.wrap ((i64.wrap (b+1))+1))) (ret ((-1):Int)) (m2 c (a.length:Int) (cond ((bF.at a (toNat c)).aP.aq.cB != (i64.wrap ((i64.wrap ((i64.wrap (b+1))+1))+1))) (ret ((-1):Int)) (m2 c (a.length:Int) (cond ((bF.at a (toNat c)).aP.aq.cq != (i64.wrap ((i64.wrap ((i64.wrap ((i64.wrap (b+1))+1))+1))+1))) (ret ((-1):Int)) (m2 c (a.length:Int) (cond ((bF.at a (toNat c)).aP.aq.cg != (i64.wrap ((i64.wrap ((i64.wrap ((i64.wrap ((i64.wrap (b+1))+1))+1))+1))+1))) (ret ((-1):Int)) (m2 c (a.length:Int) (cond ((bF.at a (toNat c)).aP.aq.cS != (i64.wrap ((i64.wrap ((i64.wrap ((i64.wrap ((i64.wrap ((i64.wrap (b+1))+1))+1))+1))+1))+1))) (ret ((-1):Int)) (m2 c (a.length:Int) (cond ((bF.at a (toNat c)).aP.aq.dz != (i64.wrap ((i64.wrap ((i64.wrap ((i64.wrap ((i64.wrap ((i64.wrap ((i64.wrap (b+1))+1))+1))+1))+1))+1))+1))) (ret ((-1):Int)) (m2 c (a.length:Int) (call (Z279.R ((bF.at a (toNat c)).aP.aq.bJ.aT,(i64.wrap ((i64.wrap ((i64.wrap ((i64.wrap ((i64.wrap ((i64.wrap ((i64.wrap ((i64.wrap (b+1))+1))+1))+1))+1))+1))+1))+1)))) fun v1=>(cond (decide (v1<0)) (ret ((-1):Int)) (m2 c (a.length:Int) (cond ((bF.at a (toNat c)).aP.aq.bJ.cu != v1) (ret ((-1):Int)) (m2 c (a.length:Int) (call (Z279.R ((bF.at a (toNat c)).aP.aq.bw.aT,(i64.wrap (v1+1)))) fun v2=>(cond (decide (v2<0)) (ret ((-1):Int)) (m2 c (a.length:Int) (cond ((bF.at a (toNat c)).aP.aq.bw.cu != v2) (ret ((-1):Int)) (m2 c (a.length:Int) (cond ((bF.at a (toNat c)).aP.aq.cW != (i64.wrap (v2+1))) (ret ((-1):Int)) (m2 c (a.length:Int) (call (Z279.R ((bF.at a (toNat c)).aP.aq.bp.aT,(i64.wrap ((i64.wrap (v2+1))+1)))) fun v3=>(cond (decide (v3<0)) (ret ((-1):Int)) (m2 c (a.length:Int) (cond ((bF.at a (toNat c)).aP.aq.bp.cu != v3) (ret ((-1):Int)) (m2 c (a.length:Int) (cond (!((bF.at a (toNat c)).aP.aq.bB==((Int.tmod (i64.wrap (v3+1)) 3)==0))) (ret ((-1):Int)) (m2 c (a.length:Int) (call (Z280.R ((bF.at a (toNat c)).aP.bW,(i64.wrap ((i64.wrap (v3+1))+1)))) fun v4=>(cond (decide (v4<0)) (ret ((-1):Int)) (m2 c (a.length:Int) (cond ((bF.at a (toNat c)).fA.aq.bA != v4) (ret ((-1):Int)) (m2 c (a.length:Int) (cond ((bF.at a (toNat c)).fA.aq.cE != (i64.wrap (v4+1))) (ret ((-1):Int)) (m2 c (a.length:Int) (cond ((bF.at a (toNat c)).fA.aq.bD != (i64.wrap ((i64.wrap (v4+1))+1))) (ret ((-1):Int)) (m2 c (a.length:Int) (cond ((bF.at a (toNat c)).fA.aq.cB != (i64.wrap ((i64.wrap ((i64.wrap (v4+1))+1))+1))) (ret ((-1):Int)) (m2 c (a.length:Int) (cond ((bF.at a (toNat c)).fA.aq.cq != (i64.wrap ((i64.wrap ((i64.wrap ((i64.wrap (v4+1))+1))+1))+1))) (ret ((-1):Int)) (m2 c (a.length:Int) (cond ((bF.at a (toNat c)).fA.aq.cg != (i64.wrap ((i64.wrap ((i64.wrap ((i64.wrap ((i64.wrap (v4+1))+1))+1))+1))+1))) (ret ((-1):Int)) (m2 c (a.length:Int) (cond ((bF.at a (toNat c)).fA.aq.cS != (i64.wrap ((i64.wrap ((i64.wrap ((i64.wrap ((i64.wrap ((i64.wrap (v4+1))+1))+1))+1))+1))+1))) (ret ((-1):Int)) (m2 c (a.length:Int) (cond ((bF.at a (toNat c)).fA.aq.dz != (i64.wrap ((i64.wrap ((i64.wrap ((i64.wrap ((i64.wrap ((i64.wrap ((i64.wrap (v4+1))+1))+1))+1))+1))+1))+1))) (ret ((-1):Int)) (m2 c (a.length:Int) (call (Z279.R ((bF.at a (toNat c)).fA.aq.bJ.aT,(i64.wrap ((i64.wrap ((i64.wrap ((i64.wrap ((i64.wrap ((i64.wrap ((i64.wrap ((i64.wrap (v4+1))+1))+1))+1))+1))+1))+1))+1)))) fun v5=>(cond (decide (v5<0)) (ret ((-1):Int)) (m2 c (a.length:Int) (cond ((bF.at a (toNat c)).fA.aq.bJ.cu != v5) (ret ((-1):Int)) (m2 c (a.length:Int) (call (Z279.R ((bF.at a (toNat c)).fA.aq.bw.aT,(i64.wrap (v5+1)))) fun v6=>(cond (decide (v6<0)) (ret ((-1):Int)) (m2 c (a.length:Int) (cond ((bF.at a (toNat c)).fA.aq.bw.cu != v6) (ret ((-1):Int)) (m2 c (a.length:Int) (cond ((bF.at a (toNat c)).fA.aq.cW != (i64.wrap (v6+1))) (ret ((-1):Int)) (m2 c (a.length:Int) (call (Z279.R ((bF.at a (toNat c)).fA.aq.bp.aT,(i64.wrap ((i64.wrap (v6+1))+1)))) fun v7=>(cond (decide (v7<0)) (ret ((-1):Int)) (m2 c (a.length:Int) (cond ((bF.at a (toNat c)).fA.aq.bp.cu != v7) (ret ((-1):Int)) (m2 c (a.length:Int) (cond (!((bF.at a (toNat c)).fA.aq.bB==((Int.tmod (i64.wrap (v7+1)) 3)==0))) (ret ((-1):Int)) (m2 c (a.length:Int) (call (Z280.R ((bF.at a (toNat c)).fA.bW,(i64.wrap ((i64.wrap (v7+1))+1)))) fun v8=>(cond (decide (v8<0)) (ret ((-1):Int)) (m2 c (a.length:Int) (cond ((bF.at a (toNat c)).fB.aq.bA != v8) (ret ((-1):Int)) (m2 c (a.length:Int) (cond ((bF.at a (toNat c)).fB.aq.cE != (i64.wrap (v8+1))) (ret ((-1):Int)) (m2 c (a.length:Int) (cond ((bF.at a (toNat c)).fB.aq.bD != (i64.wrap ((i64.wrap (v8+1))+1))) (ret ((-1):Int)) (m2 c (a.length:Int) (cond ((bF.at a (toNat c)).fB.aq.cB != (i64.wrap ((i64.wrap ((i64.wrap (v8+1))+1))+1))) (ret ((-1):Int)) (m2 c (a.length:Int) (cond ((bF.at a (toNat c)).fB.aq.cq != (i64.wrap ((i64.wrap ((i64.wrap ((i64.wrap (v8+1))+1))+1))+1))) (ret ((-1):Int)) (m2 c (a.length:Int) (cond ((bF.at a (toNat c)).fB.aq.cg != (i64.wrap ((i64.wrap ((i64.wrap ((i64.wrap ((i64.wrap (v8+1))+1))+1))+1))+1))) (ret ((-1):Int)) (m2 c (a.length:Int) (cond ((bF.at a (toNat c)).fB.aq.cS != (i64.wrap ((i64.wrap ((i64.wrap ((i64.wrap ((i64.wrap ((i64.wrap (v8+1))+1))+1))+1))+1))+1))) (ret ((-1):Int)) (m2 c (a.length:Int) (cond ((bF.at a (toNat c)).fB.aq.dz != (i64.wrap ((i64.wrap ((i64.wrap ((i64.wrap ((i64.wrap ((i64.wrap ((i64.wrap (v8+1))+1))+1))+1))+1))+1))+1))) (ret ((-1):Int)) (m2 c (a.length:Int) (call (Z279.R ((bF.at a (toNat c)).fB.aq.bJ.aT,(i64.wrap ((i64.wrap ((i64.wrap ((i64.wrap ((i64.wrap ((i64.wrap ((i64.wrap ((i64.wrap (v8+1))+1))+1))+1))+1))+1))+1))+1)))) fun v9=>(cond (decide (v9<0)) (ret ((-1):Int)) (m2 c (a.length:Int) (cond ((bF.at a (toNat c)).fB.aq.bJ.cu != v9) (ret ((-1):Int)) (m2 c (a.length:Int) (call (Z279.R ((bF.at a (toNat c)).fB.aq.bw.aT,(i64.wrap (v9+1)))) fun v10=>(cond (decide (v10<0)) (ret ((-1):Int)) (m2 c (a.length:Int) (cond ((bF.at a (toNat c)).fB.aq.bw.cu != v10) (ret ((-1):Int)) (m2 c (a.length:Int) (cond ((bF.at a (toNat c)).fB.aq.cW != (i64.wrap (v10+1))) (ret ((-1):Int)) (m2 c (a.length:Int) (call (Z279.R ((bF.at a (toNat c)).fB.aq.bp.aT,(i64.wrap ((i64.wrap (v10+1))+1)))) fun v11=>(cond (decide (v11<0)) (ret ((-1):Int)) (m2 c (a.length:Int) (cond ((bF.at a (toNat c)).fB.aq.bp.cu != v11) (ret ((-1):Int)) (m2 c (a.length:Int) (cond (!((bF.at a (toNat c)).fB.aq.bB==((Int.tmod (i64.wrap (v11+1)) 3)==0))) (ret ((-1):Int)) (m2 c (a.length:Int) (call (Z280.R ((bF.at a (toNat c)).fB.bW,(i64.wrap ((i64.wrap (v11+1))+1)))) fun v12=>(cond (decide (v12<0)) (ret ((-1):Int)) (J (.p0 a v12 (i64.wrap (c+1)))))))))))))))))))))))))))))))))))))))))))))))))))))))))))))))))))))))))))))))))))))))))))))))))))))))))))))))))))))) (ret (b:Int)))
def start (J:Pt→aG)(x0:List (List L))(x1:Int):aG:=J (.p0 x0 x1 0)
def live:Nat→Live:=fun i=>match i with | 2=>[(0,none),(1,none),(5,none)] | _=>[]
def pats:List gq:=[.rd (.sl 280),.rd (.int .i64)]
def res:RP:=.one (.rd (.int .i64))
abbrev E:Env:={ T:=assoc kQ,G:=dy [(183,Z279.aV),(335,Z280.aV)],nt:=595 }
theorem step_eq (I:cG)(p:Pt):cT E live I (pid p) (bM Tryz.f181) (fM (live (pid p)) (bY p) (bZ p)) (cH E Tryz.f181 res)=step (fun q=>I (pid q) (bY q) (bZ q)) p:=by
 cases p<;>kernel_rfl
theorem start_eq (I:cG)(ls:List L):eX E live I (bM Tryz.f181) (cZ pats ls) (cH E Tryz.f181 res)=start (fun q=>I (pid q) (bY q) (bZ q)) (ls.headD .hole).aR ((aA 1 ls).headD .hole).toInt:=by kernel_rfl
theorem run_eq (n:Nat)(ls:List L):eO E live Tryz.f181 res n (cZ pats ls)=start (iter step n) (ls.headD .hole).aR ((aA 1 ls).headD .hole).toInt:=cC (id:=pid) (vs:=bY) (hs:=bZ) (step:=step) (start:=fun J=>start J (ls.headD .hole).aR ((aA 1 ls).headD .hole).toInt) step_eq (fun I=>start_eq I ls) n
def e1 (x:aB)(k:Int):=Z279.md ((((x.aP).aq).bJ).aT) (i64.wrap ((i64.wrap ((i64.wrap ((i64.wrap ((i64.wrap ((i64.wrap ((i64.wrap ((i64.wrap (k+1))+1))+1))+1))+1))+1))+1))+1))
def e2 (x:aB)(k:Int):=Z279.md ((((x.aP).aq).bw).aT) (i64.wrap ((e1 x k)+1))
def e3 (x:aB)(k:Int):=Z279.md ((((x.aP).aq).bp).aT) (i64.wrap ((i64.wrap ((e2 x k)+1))+1))
def e4 (x:aB)(k:Int):=Z280.md ((x.aP).bW) (i64.wrap ((i64.wrap ((e3 x k)+1))+1))
def e5 (x:aB)(k:Int):=Z279.md ((((x.fA).aq).bJ).aT) (i64.wrap ((i64.wrap ((i64.wrap ((i64.wrap ((i64.wrap ((i64.wrap ((i64.wrap ((i64.wrap ((e4 x k)+1))+1))+1))+1))+1))+1))+1))+1))
def e6 (x:aB)(k:Int):=Z279.md ((((x.fA).aq).bw).aT) (i64.wrap ((e5 x k)+1))
def e7 (x:aB)(k:Int):=Z279.md ((((x.fA).aq).bp).aT) (i64.wrap ((i64.wrap ((e6 x k)+1))+1))
def e8 (x:aB)(k:Int):=Z280.md ((x.fA).bW) (i64.wrap ((i64.wrap ((e7 x k)+1))+1))
def e9 (x:aB)(k:Int):=Z279.md ((((x.fB).aq).bJ).aT) (i64.wrap ((i64.wrap ((i64.wrap ((i64.wrap ((i64.wrap ((i64.wrap ((i64.wrap ((i64.wrap ((e8 x k)+1))+1))+1))+1))+1))+1))+1))+1))
def uL (x:aB)(k:Int):=Z279.md ((((x.fB).aq).bw).aT) (i64.wrap ((e9 x k)+1))
def uC (x:aB)(k:Int):=Z279.md ((((x.fB).aq).bp).aT) (i64.wrap ((i64.wrap ((uL x k)+1))+1))
def yu (x:aB)(k:Int):=Z280.md ((x.fB).bW) (i64.wrap ((i64.wrap ((uC x k)+1))+1))
def f (x:aB)(k:Int):Option Int:=(cond (((x.aP).aq).bA != k) none (cond (((x.aP).aq).cE != (i64.wrap (k+1))) none (cond (((x.aP).aq).bD != (i64.wrap ((i64.wrap (k+1))+1))) none (cond (((x.aP).aq).cB != (i64.wrap ((i64.wrap ((i64.wrap (k+1))+1))+1))) none (cond (((x.aP).aq).cq != (i64.wrap ((i64.wrap ((i64.wrap ((i64.wrap (k+1))+1))+1))+1))) none (cond (((x.aP).aq).cg != (i64.wrap ((i64.wrap ((i64.wrap ((i64.wrap ((i64.wrap (k+1))+1))+1))+1))+1))) none (cond (((x.aP).aq).cS != (i64.wrap ((i64.wrap ((i64.wrap ((i64.wrap ((i64.wrap ((i64.wrap (k+1))+1))+1))+1))+1))+1))) none (cond (((x.aP).aq).dz != (i64.wrap ((i64.wrap ((i64.wrap ((i64.wrap ((i64.wrap ((i64.wrap ((i64.wrap (k+1))+1))+1))+1))+1))+1))+1))) none (cond (decide ((e1 x k)<0)) none (cond ((((x.aP).aq).bJ).cu != (e1 x k)) none (cond (decide ((e2 x k)<0)) none (cond ((((x.aP).aq).bw).cu != (e2 x k)) none (cond (((x.aP).aq).cW != (i64.wrap ((e2 x k)+1))) none (cond (decide ((e3 x k)<0)) none (cond ((((x.aP).aq).bp).cu != (e3 x k)) none (cond (!(((x.aP).aq).bB==((Int.tmod (i64.wrap ((e3 x k)+1)) 3)==0))) none (cond (decide ((e4 x k)<0)) none (cond (((x.fA).aq).bA != (e4 x k)) none (cond (((x.fA).aq).cE != (i64.wrap ((e4 x k)+1))) none (cond (((x.fA).aq).bD != (i64.wrap ((i64.wrap ((e4 x k)+1))+1))) none (cond (((x.fA).aq).cB != (i64.wrap ((i64.wrap ((i64.wrap ((e4 x k)+1))+1))+1))) none (cond (((x.fA).aq).cq != (i64.wrap ((i64.wrap ((i64.wrap ((i64.wrap ((e4 x k)+1))+1))+1))+1))) none (cond (((x.fA).aq).cg != (i64.wrap ((i64.wrap ((i64.wrap ((i64.wrap ((i64.wrap ((e4 x k)+1))+1))+1))+1))+1))) none (cond (((x.fA).aq).cS != (i64.wrap ((i64.wrap ((i64.wrap ((i64.wrap ((i64.wrap ((i64.wrap ((e4 x k)+1))+1))+1))+1))+1))+1))) none (cond (((x.fA).aq).dz != (i64.wrap ((i64.wrap ((i64.wrap ((i64.wrap ((i64.wrap ((i64.wrap ((i64.wrap ((e4 x k)+1))+1))+1))+1))+1))+1))+1))) none (cond (decide ((e5 x k)<0)) none (cond ((((x.fA).aq).bJ).cu != (e5 x k)) none (cond (decide ((e6 x k)<0)) none (cond ((((x.fA).aq).bw).cu != (e6 x k)) none (cond (((x.fA).aq).cW != (i64.wrap ((e6 x k)+1))) none (cond (decide ((e7 x k)<0)) none (cond ((((x.fA).aq).bp).cu != (e7 x k)) none (cond (!(((x.fA).aq).bB==((Int.tmod (i64.wrap ((e7 x k)+1)) 3)==0))) none (cond (decide ((e8 x k)<0)) none (cond (((x.fB).aq).bA != (e8 x k)) none (cond (((x.fB).aq).cE != (i64.wrap ((e8 x k)+1))) none (cond (((x.fB).aq).bD != (i64.wrap ((i64.wrap ((e8 x k)+1))+1))) none (cond (((x.fB).aq).cB != (i64.wrap ((i64.wrap ((i64.wrap ((e8 x k)+1))+1))+1))) none (cond (((x.fB).aq).cq != (i64.wrap ((i64.wrap ((i64.wrap ((i64.wrap ((e8 x k)+1))+1))+1))+1))) none (cond (((x.fB).aq).cg != (i64.wrap ((i64.wrap ((i64.wrap ((i64.wrap ((i64.wrap ((e8 x k)+1))+1))+1))+1))+1))) none (cond (((x.fB).aq).cS != (i64.wrap ((i64.wrap ((i64.wrap ((i64.wrap ((i64.wrap ((i64.wrap ((e8 x k)+1))+1))+1))+1))+1))+1))) none (cond (((x.fB).aq).dz != (i64.wrap ((i64.wrap ((i64.wrap ((i64.wrap ((i64.wrap ((i64.wrap ((i64.wrap ((e8 x k)+1))+1))+1))+1))+1))+1))+1))) none (cond (decide ((e9 x k)<0)) none (cond ((((x.fB).aq).bJ).cu != (e9 x k)) none (cond (decide ((uL x k)<0)) none (cond ((((x.fB).aq).bw).cu != (uL x k)) none (cond (((x.fB).aq).cW != (i64.wrap ((uL x k)+1))) none (cond (decide ((uC x k)<0)) none (cond ((((x.fB).aq).bp).cu != (uC x k)) none (cond (!(((x.fB).aq).bB==((Int.tmod (i64.wrap ((uC x k)+1)) 3)==0))) none (cond (decide ((yu x k)<0)) none (some (yu x k)))))))))))))))))))))))))))))))))))))))))))))))))))))
theorem vf (x:aB)(k k2:Int)(hk:eK k)(h:f x k=some k2):eK k2:=by
 unfold f at h
 have h:=bG h
 have h:=bG h
 have h:=bG h
 have h:=bG h
 have h:=bG h
 have h:=bG h
 have h:=bG h
 have h:=bG h
 have h:=bG h
 have h:=bG h
 have h:=bG h
 have h:=bG h
 have h:=bG h
 have h:=bG h
 have h:=bG h
 have h:=bG h
 have h:=bG h
 have h:=bG h
 have h:=bG h
 have h:=bG h
 have h:=bG h
 have h:=bG h
 have h:=bG h
 have h:=bG h
 have h:=bG h
 have h:=bG h
 have h:=bG h
 have h:=bG h
 have h:=bG h
 have h:=bG h
 have h:=bG h
 have h:=bG h
 have h:=bG h
 have h:=bG h
 have h:=bG h
 have h:=bG h
 have h:=bG h
 have h:=bG h
 have h:=bG h
 have h:=bG h
 have h:=bG h
 have h:=bG h
 have h:=bG h
 have h:=bG h
 have h:=bG h
 have h:=bG h
 have h:=bG h
 have h:=bG h
 have h:=bG h
 have h:=bG h
 have h:=bG h
 injection h with h
 subst h
 exact (Z280.iq (cy _))
def md (a0:List aB)(a1:Int):Int:=jx f a0 a1
def gd (a0:List aB)(a1:Int):Prop:=eK a1
def acc (ls:List L):List (List L)×Int:=((ls.headD .hole).aR,((aA 1 ls).headD .hole).toInt)
def R:(List (List L)×Int)→Option Int:=RR (p2 gd) (u2 md)
theorem aj {a0 a1}(h:gd a0 a1):R ((a0.map aB.row),a1)=some (md a0 a1):=aM (a:=(a0,a1)) h
def aV:fW:=CN pats res acc R
theorem bq (a0:List aB)(a1:Int)(hg:gd a0 a1)(h0:a0.length≤maxLen):∃n,start (iter step n) (a0.map aB.row) a1=ret ((md a0 a1):Int):=by
 unfold gd at hg
 show ∃n,iter step n (Pt.p0 (a0.map aB.row) a1 0)=_
 unfold md
 refine ji (f:=f) (xs:=a0) aB.zero eK vf (pt:=fun i k=>Pt.p0 (a0.map aB.row) k (i:Int)) (fun J i k hi hk=>?_) (fun J k=>?_) hg
 ·simp only [step,SS]
  refine ak (aL hi) ?_
  refine ak aH ?_
  refine ak (aL hi) ?_
  refine bI rfl ?_
  refine ak aH ?_
  refine ak (aL hi) ?_
  refine bI rfl ?_
  refine ak aH ?_
  refine ak (aL hi) ?_
  refine bI rfl ?_
  refine ak aH ?_
  refine ak (aL hi) ?_
  refine bI rfl ?_
  refine ak aH ?_
  refine ak (aL hi) ?_
  refine bI rfl ?_
  refine ak aH ?_
  refine ak (aL hi) ?_
  refine bI rfl ?_
  refine ak aH ?_
  refine ak (aL hi) ?_
  refine bI rfl ?_
  refine ak aH ?_
  refine ak (aL hi) ?_
  refine bI rfl ?_
  refine ak aH ?_
  refine ak (aL hi) ?_
  refine bh (e1 (a0.getD i aB.zero) k) (Z279.aj (a0:=((((a0.getD i aB.zero).aP).aq).bJ).aT) (a1:=i64.wrap ((i64.wrap ((i64.wrap ((i64.wrap ((i64.wrap ((i64.wrap ((i64.wrap ((i64.wrap (k+1))+1))+1))+1))+1))+1))+1))+1)) (cy _)) ?_
  refine bI rfl ?_
  refine ak aH ?_
  refine ak (aL hi) ?_
  refine bI rfl ?_
  refine ak aH ?_
  refine ak (aL hi) ?_
  refine bh (e2 (a0.getD i aB.zero) k) (Z279.aj (a0:=((((a0.getD i aB.zero).aP).aq).bw).aT) (a1:=i64.wrap ((e1 (a0.getD i aB.zero) k)+1)) (cy _)) ?_
  refine bI rfl ?_
  refine ak aH ?_
  refine ak (aL hi) ?_
  refine bI rfl ?_
  refine ak aH ?_
  refine ak (aL hi) ?_
  refine bI rfl ?_
  refine ak aH ?_
  refine ak (aL hi) ?_
  refine bh (e3 (a0.getD i aB.zero) k) (Z279.aj (a0:=((((a0.getD i aB.zero).aP).aq).bp).aT) (a1:=i64.wrap ((i64.wrap ((e2 (a0.getD i aB.zero) k)+1))+1)) (cy _)) ?_
  refine bI rfl ?_
  refine ak aH ?_
  refine ak (aL hi) ?_
  refine bI rfl ?_
  refine ak aH ?_
  refine ak (aL hi) ?_
  refine bI rfl ?_
  refine ak aH ?_
  refine ak (aL hi) ?_
  refine bh (e4 (a0.getD i aB.zero) k) (Z280.aj (a0:=((a0.getD i aB.zero).aP).bW) (a1:=i64.wrap ((i64.wrap ((e3 (a0.getD i aB.zero) k)+1))+1)) (cy _)) ?_
  refine bI rfl ?_
  refine ak aH ?_
  refine ak (aL hi) ?_
  refine bI rfl ?_
  refine ak aH ?_
  refine ak (aL hi) ?_
  refine bI rfl ?_
  refine ak aH ?_
  refine ak (aL hi) ?_
  refine bI rfl ?_
  refine ak aH ?_
  refine ak (aL hi) ?_
  refine bI rfl ?_
  refine ak aH ?_
  refine ak (aL hi) ?_
  refine bI rfl ?_
  refine ak aH ?_
  refine ak (aL hi) ?_
  refine bI rfl ?_
  refine ak aH ?_
  refine ak (aL hi) ?_
  refine bI rfl ?_
  refine ak aH ?_
  refine ak (aL hi) ?_
  refine bI rfl ?_
  refine ak aH ?_
  refine ak (aL hi) ?_
  refine bh (e5 (a0.getD i aB.zero) k) (Z279.aj (a0:=((((a0.getD i aB.zero).fA).aq).bJ).aT) (a1:=i64.wrap ((i64.wrap ((i64.wrap ((i64.wrap ((i64.wrap ((i64.wrap ((i64.wrap ((i64.wrap ((e4 (a0.getD i aB.zero) k)+1))+1))+1))+1))+1))+1))+1))+1)) (cy _)) ?_
  refine bI rfl ?_
  refine ak aH ?_
  refine ak (aL hi) ?_
  refine bI rfl ?_
  refine ak aH ?_
  refine ak (aL hi) ?_
  refine bh (e6 (a0.getD i aB.zero) k) (Z279.aj (a0:=((((a0.getD i aB.zero).fA).aq).bw).aT) (a1:=i64.wrap ((e5 (a0.getD i aB.zero) k)+1)) (cy _)) ?_
  refine bI rfl ?_
  refine ak aH ?_
  refine ak (aL hi) ?_
  refine bI rfl ?_
  refine ak aH ?_
  refine ak (aL hi) ?_
  refine bI rfl ?_
  refine ak aH ?_
  refine ak (aL hi) ?_
  refine bh (e7 (a0.getD i aB.zero) k) (Z279.aj (a0:=((((a0.getD i aB.zero).fA).aq).bp).aT) (a1:=i64.wrap ((i64.wrap ((e6 (a0.getD i aB.zero) k)+1))+1)) (cy _)) ?_
  refine bI rfl ?_
  refine ak aH ?_
  refine ak (aL hi) ?_
  refine bI rfl ?_
  refine ak aH ?_
  refine ak (aL hi) ?_
  refine bI rfl ?_
  refine ak aH ?_
  refine ak (aL hi) ?_
  refine bh (e8 (a0.getD i aB.zero) k) (Z280.aj (a0:=((a0.getD i aB.zero).fA).bW) (a1:=i64.wrap ((i64.wrap ((e7 (a0.getD i aB.zero) k)+1))+1)) (cy _)) ?_
  refine bI rfl ?_
  refine ak aH ?_
  refine ak (aL hi) ?_
  refine bI rfl ?_
  refine ak aH ?_
  refine ak (aL hi) ?_
  refine bI rfl ?_
  refine ak aH ?_
  refine ak (aL hi) ?_
  refine bI rfl ?_
  refine ak aH ?_
  refine ak (aL hi) ?_
  refine bI rfl ?_
  refine ak aH ?_
  refine ak (aL hi) ?_
  refine bI rfl ?_
  refine ak aH ?_
  refine ak (aL hi) ?_
  refine bI rfl ?_
  refine ak aH ?_
  refine ak (aL hi) ?_
  refine bI rfl ?_
  refine ak aH ?_
  refine ak (aL hi) ?_
  refine bI rfl ?_
  refine ak aH ?_
  refine ak (aL hi) ?_
  refine bh (e9 (a0.getD i aB.zero) k) (Z279.aj (a0:=((((a0.getD i aB.zero).fB).aq).bJ).aT) (a1:=i64.wrap ((i64.wrap ((i64.wrap ((i64.wrap ((i64.wrap ((i64.wrap ((i64.wrap ((i64.wrap ((e8 (a0.getD i aB.zero) k)+1))+1))+1))+1))+1))+1))+1))+1)) (cy _)) ?_
  refine bI rfl ?_
  refine ak aH ?_
  refine ak (aL hi) ?_
  refine bI rfl ?_
  refine ak aH ?_
  refine ak (aL hi) ?_
  refine bh (uL (a0.getD i aB.zero) k) (Z279.aj (a0:=((((a0.getD i aB.zero).fB).aq).bw).aT) (a1:=i64.wrap ((e9 (a0.getD i aB.zero) k)+1)) (cy _)) ?_
  refine bI rfl ?_
  refine ak aH ?_
  refine ak (aL hi) ?_
  refine bI rfl ?_
  refine ak aH ?_
  refine ak (aL hi) ?_
  refine bI rfl ?_
  refine ak aH ?_
  refine ak (aL hi) ?_
  refine bh (uC (a0.getD i aB.zero) k) (Z279.aj (a0:=((((a0.getD i aB.zero).fB).aq).bp).aT) (a1:=i64.wrap ((i64.wrap ((uL (a0.getD i aB.zero) k)+1))+1)) (cy _)) ?_
  refine bI rfl ?_
  refine ak aH ?_
  refine ak (aL hi) ?_
  refine bI rfl ?_
  refine ak aH ?_
  refine ak (aL hi) ?_
  refine bI rfl ?_
  refine ak aH ?_
  refine ak (aL hi) ?_
  refine bh (yu (a0.getD i aB.zero) k) (Z280.aj (a0:=((a0.getD i aB.zero).fB).bW) (a1:=i64.wrap ((i64.wrap ((uC (a0.getD i aB.zero) k)+1))+1)) (cy _)) ?_
  refine bI rfl ?_
  rw [aE hi h0]
  rfl
 ·simp only [step,SS]
  refine cN (by apply decide_eq_false;omega) ?_
  rfl
theorem af:cw 181 aV:=VV (run:=fun n x=>start (iter step n) x.1 x.2) mix aD (.cons Z279.af (.cons Z280.af .nil)) Tryz.func181 (by kernel_rfl) run_eq (fun ls a hl e hg=>bq a.1 a.2 hg (by have h:(ls.headD .hole).aR.length≤maxLen:=hl.1.len;have e:a.1.map aB.row=(ls.headD .hole).aR:=(congrArg (fun x=>x.1) e.symm);rw [←e] at h;simpa using h))
theorem iq {a0:List aB}{a1:Int}(h:eK a1):eK (md a0 a1):=kA vf jJ h
theorem xJ (x:aB)(k:Int)(h0:0≤k)(hb:k+(Z270.cnt x:Int)≤4611686018427387904):f (Z270.el x k).2 k=some (k+Z270.cnt x):=by
 simp only [Z270.cnt,Int.natCast_add] at hb ⊢
 simp (disch:=omega) only [Z270.el,f,Z270.e1,Z270.e2,Z270.e3,Z270.e4,Z270.e5,Z270.e6,Z270.e7,Z270.e8,Z270.e9,Z270.uL,Z270.uC,Z270.yu,e1,e2,e3,e4,e5,e6,e7,e8,e9,uL,uC,yu,wi,Z266.kk,Z279.mk,Z267.kk,Z280.mk,bne_self_eq_false,beq_self_eq_true,gr,Bool.not_true,bk,dn]
 all_goals first | done | omega | (congr 1<;>omega)
theorem mk (a0:List aB)(a1:Int)(h0:0≤a1)(hb:a1+(Z270.sum a0:Int)≤4611686018427387904):md (Z270.md a0 a1).2 a1=a1+Z270.sum a0:=iC Z270.qE xJ a0 a1 h0 hb
end Z283
namespace Z284
set_option maxHeartbeats 8000000
def F (x0:bn)(x1:Int):aG:=(call (Z282.R (x0.aF,x1)) fun v1=>(cond (decide (v1<0)) (ret ((-1):Int)) (call (Z283.R (x0.bg,v1)) fun v2=>(cond (decide (v2<0)) (ret ((-1):Int)) (ret (v2:Int))))))
def e1 (x:au)(k:Int):=Z282.md x.aF k
def e2 (x:au)(k:Int):=Z283.md x.bg (e1 x k)
def f (x:au)(k:Int):Option Int:=(cond (decide ((e1 x k)<0)) none (cond (decide ((e2 x k)<0)) none (some ((e2 x k):Int))))
def md (a0:au)(a1:Int):Int:=oZ (f a0 a1)
def gd (a0:au)(a1:Int):Prop:=eK a1
def R:=RR (p2 gd) (u2 md)
theorem aj {a0 a1}(h:gd a0 a1):R ((au.r a0),a1)=some (md a0 a1):=aM (a:=(a0,a1)) h
def aV:=CN [.agg tI,pI] oI RT.dec R
theorem bq (a0)(a1)(hg:gd a0 a1):F (au.r a0) a1=ret (md a0 a1):=by
 unfold gd at hg
 simp only [F,SS]
 unfold md
 refine bh (e1 a0 a1) (Z282.aj (a0:=a0.aF) (a1:=a1) hg) ?_
 refine gB rfl ?_
 refine bh (e2 a0 a1) (Z283.aj (a0:=a0.bg) (a1:=e1 a0 a1) (Z282.iq hg)) ?_
 refine gB rfl ?_
 first | rfl | (simp only [SS];rfl)
theorem af:cw 42 aV:=W2 18 F mix aD bq (.cons Z282.af (.cons Z283.af .nil)) Tryz.func42
theorem iq {a0:au}{a1:Int}(hk:eK a1):eK (md a0 a1):=by
 unfold md
 cases h:f a0 a1 with
 | none=>exact jJ
 | some k2=>
  unfold f at h
  have h:=bG h
  have h:=bG h
  injection h with h
  subst h
  exact (Z283.iq (Z282.iq hk))
theorem mk (x:au)(k:Int)(h0:0≤k)(hb:k+(Z271.sum x:Int)≤4611686018427387904):md (Z271.upd x k) k=k+Z271.sum x:=by
 simp only [Z271.sum,Int.natCast_add] at hb ⊢
 simp (disch:=omega) only [Z271.md,Z271.upd,md,f,oZ,Z271.e1,Z271.e2,e1,e2,wi,Z269.kk,Z282.mk,Z270.kk,Z283.mk,bk,dn]
 all_goals first | done | omega
end Z284
namespace Z285
set_option maxHeartbeats 8000000
inductive Pt where
 | p0 (a:List (List L)) (b:Int) (c:Int)
def pid:Pt→Nat
 | .p0 ..=>2
def bY:Pt→List V
 | .p0 a b c=>[.sl none 9 a,.int .i64 b,.int .i64 c]
def bZ:Pt→List aU
 | .p0 a b c=>[]
def step (J:Pt→aG):Pt→aG
 | .p0 a b c=>(cond (decide (c<(a.length:Int))) (m2 c (a.length:Int) (call (Z272.R b) fun v1=>(cond (!((pZ a (toNat c))==v1)) (ret ((-1):Int)) (J (.p0 a (i64.wrap (b+1)) (i64.wrap (c+1))))))) (ret (b:Int)))
def start (J:Pt→aG)(x0:List (List L))(x1:Int):aG:=J (.p0 x0 x1 0)
def live:Nat→Live:=fun i=>match i with | 2=>[(0,none),(1,none),(5,none)] | _=>[]
def pats:List gq:=[.rd (.sl 9),.rd (.int .i64)]
def res:RP:=.one (.rd (.int .i64))
abbrev E:Env:={ T:=assoc kQ,G:=dy [(178,Z272.aV)],nt:=22 }
theorem step_eq (I:cG)(p:Pt):cT E live I (pid p) (bM Tryz.f182) (fM (live (pid p)) (bY p) (bZ p)) (cH E Tryz.f182 res)=step (fun q=>I (pid q) (bY q) (bZ q)) p:=by
 cases p<;>kernel_rfl
theorem start_eq (I:cG)(ls:List L):eX E live I (bM Tryz.f182) (cZ pats ls) (cH E Tryz.f182 res)=start (fun q=>I (pid q) (bY q) (bZ q)) (ls.headD .hole).aR ((aA 1 ls).headD .hole).toInt:=by kernel_rfl
theorem run_eq (n:Nat)(ls:List L):eO E live Tryz.f182 res n (cZ pats ls)=start (iter step n) (ls.headD .hole).aR ((aA 1 ls).headD .hole).toInt:=cC (id:=pid) (vs:=bY) (hs:=bZ) (step:=step) (start:=fun J=>start J (ls.headD .hole).aR ((aA 1 ls).headD .hole).toInt) step_eq (fun I=>start_eq I ls) n
def f (x:ByteArray)(k:Int):Option Int:=(cond (!(x==(Z272.md k))) none (some (i64.wrap (k+1))))
theorem vf (x:ByteArray)(k k2:Int)(hk:eK k)(h:f x k=some k2):eK k2:=by
 unfold f at h
 have h:=bG h
 injection h with h
 subst h
 exact (cy _)
def md (a0:List ByteArray)(a1:Int):Int:=jx f a0 a1
def gd (a0:List ByteArray)(a1:Int):Prop:=eK a1
def acc (ls:List L):List (List L)×Int:=((ls.headD .hole).aR,((aA 1 ls).headD .hole).toInt)
def R:(List (List L)×Int)→Option Int:=RR (p2 gd) (u2 md)
theorem aj {a0 a1}(h:gd a0 a1):R ((a0.map cA),a1)=some (md a0 a1):=aM (a:=(a0,a1)) h
def aV:fW:=CN pats res acc R
theorem bq (a0:List ByteArray)(a1:Int)(hg:gd a0 a1)(h0:a0.length≤maxLen):∃n,start (iter step n) (a0.map cA) a1=ret ((md a0 a1):Int):=by
 unfold gd at hg
 show ∃n,iter step n (Pt.p0 (a0.map cA) a1 0)=_
 unfold md
 refine ji (f:=f) (xs:=a0) ⟨#[]⟩ eK vf (pt:=fun i k=>Pt.p0 (a0.map cA) k (i:Int)) (fun J i k hi hk=>?_) (fun J k=>?_) hg
 ·simp only [step,SS]
  refine ak (aL hi) ?_
  refine ak aH ?_
  refine ak (aL hi) ?_
  refine bh (Z272.md k) (Z272.aj (a0:=k) hk) ?_
  refine bI rfl ?_
  rw [aE hi h0]
  rfl
 ·simp only [step,SS]
  refine cN (by apply decide_eq_false;omega) ?_
  rfl
theorem af:cw 182 aV:=VV (run:=fun n x=>start (iter step n) x.1 x.2) mix aD (.cons Z272.af .nil) Tryz.func182 (by kernel_rfl) run_eq (fun ls a hl e hg=>bq a.1 a.2 hg (by have h:(ls.headD .hole).aR.length≤maxLen:=hl.1.len;have e:a.1.map cA=(ls.headD .hole).aR:=(congrArg (fun x=>x.1) e.symm);rw [←e] at h;simpa using h))
theorem iq {a0:List ByteArray}{a1:Int}(h:eK a1):eK (md a0 a1):=kA vf jJ h
theorem xJ (x:ByteArray)(k:Int)(h0:0≤k)(hb:k+(Z273.cnt x:Int)≤4611686018427387904):f (Z273.el x k).2 k=some (k+Z273.cnt x):=by
 simp only [Z273.cnt,Int.natCast_add] at hb ⊢
 simp (disch:=omega) only [Z273.el,f,wi,bne_self_eq_false,beq_self_eq_true,gr,Bool.not_true,bk,dn]
 all_goals first | done | omega | (congr 1<;>omega)
theorem mk (a0:List ByteArray)(a1:Int)(h0:0≤a1)(hb:a1+(Z273.sum a0:Int)≤4611686018427387904):md (Z273.md a0 a1).2 a1=a1+Z273.sum a0:=iC Z273.qE xJ a0 a1 h0 hb
end Z285
namespace Z286
set_option maxHeartbeats 8000000
def F (x0:aS)(x1:Int):aG:=(call (Z285.R (x0.bC,x1)) fun v1=>(cond (decide (v1<0)) (ret ((-1):Int)) (ret (v1:Int))))
def e1 (x:ah)(k:Int):=Z285.md x.bC k
def f (x:ah)(k:Int):Option Int:=(cond (decide ((e1 x k)<0)) none (some ((e1 x k):Int)))
def md (a0:ah)(a1:Int):Int:=oZ (f a0 a1)
def gd (a0:ah)(a1:Int):Prop:=eK a1
def R:=RR (p2 gd) (u2 md)
theorem aj {a0 a1}(h:gd a0 a1):R ((ah.r a0),a1)=some (md a0 a1):=aM (a:=(a0,a1)) h
def aV:=CN [.agg ru,pI] oI RT.dec R
theorem bq (a0)(a1)(hg:gd a0 a1):F (ah.r a0) a1=ret (md a0 a1):=by
 unfold gd at hg
 simp only [F,SS]
 unfold md
 refine bh (e1 a0 a1) (Z285.aj (a0:=a0.bC) (a1:=a1) hg) ?_
 refine gB rfl ?_
 first | rfl | (simp only [SS];rfl)
theorem af:cw 191 aV:=W2 12 F mix aD bq (.cons Z285.af .nil) Tryz.func191
theorem iq {a0:ah}{a1:Int}(hk:eK a1):eK (md a0 a1):=by
 unfold md
 cases h:f a0 a1 with
 | none=>exact jJ
 | some k2=>
  unfold f at h
  have h:=bG h
  injection h with h
  subst h
  exact (Z285.iq hk)
theorem mk (x:ah)(k:Int)(h0:0≤k)(hb:k+(Z277.sum x:Int)≤4611686018427387904):md (Z277.upd x k) k=k+Z277.sum x:=by
 simp only [Z277.sum,Int.natCast_add] at hb ⊢
 simp (disch:=omega) only [Z277.md,Z277.upd,md,f,oZ,Z277.e1,e1,wi,Z273.kk,Z285.mk,bk,dn]
 all_goals first | done | omega
end Z286
namespace Z287
set_option maxHeartbeats 8000000
def F (x0:cV)(x1:Int):aG:=(call (Z284.R (x0.bV,x1)) fun v1=>(cond (decide (v1<0)) (ret ((-1):Int)) (call (Z286.R (x0.aN,v1)) fun v2=>(cond (decide (v2<0)) (ret ((-1):Int)) (call (Z279.R (x0.bE,v2)) fun v3=>(cond (decide (v3<0)) (ret ((-1):Int)) (ret (v3:Int))))))))
def e1 (x:bz)(k:Int):=Z284.md x.bV k
def e2 (x:bz)(k:Int):=Z286.md x.aN (e1 x k)
def e3 (x:bz)(k:Int):=Z279.md x.bE (e2 x k)
def f (x:bz)(k:Int):Option Int:=(cond (decide ((e1 x k)<0)) none (cond (decide ((e2 x k)<0)) none (cond (decide ((e3 x k)<0)) none (some ((e3 x k):Int)))))
def md (a0:bz)(a1:Int):Int:=oZ (f a0 a1)
def gd (a0:bz)(a1:Int):Prop:=eK a1
def R:=RR (p2 gd) (u2 md)
theorem aj {a0 a1}(h:gd a0 a1):R ((bz.r a0),a1)=some (md a0 a1):=aM (a:=(a0,a1)) h
def aV:=CN [.agg Bj,pI] oI RT.dec R
theorem bq (a0)(a1)(hg:gd a0 a1):F (bz.r a0) a1=ret (md a0 a1):=by
 unfold gd at hg
 simp only [F,SS]
 unfold md
 refine bh (e1 a0 a1) (Z284.aj (a0:=a0.bV) (a1:=a1) hg) ?_
 refine gB rfl ?_
 refine bh (e2 a0 a1) (Z286.aj (a0:=a0.aN) (a1:=e1 a0 a1) (Z284.iq hg)) ?_
 refine gB rfl ?_
 refine bh (e3 a0 a1) (Z279.aj (a0:=a0.bE) (a1:=e2 a0 a1) (Z286.iq (Z284.iq hg))) ?_
 refine gB rfl ?_
 first | rfl | (simp only [SS];rfl)
theorem af:cw 51 aV:=W2 24 F mix aD bq (.cons Z284.af (.cons Z286.af (.cons Z279.af .nil))) Tryz.func51
theorem mk (x:bz)(k:Int)(h0:0≤k)(hb:k+(Z278.sum x:Int)≤4611686018427387904):md (Z278.upd x k) k=k+Z278.sum x:=by
 simp only [Z278.sum,Int.natCast_add] at hb ⊢
 have heldKnown_:=@Z284.mk
 simp only [Z271.upd] at heldKnown_
 have heldEntry_:=@Z286.mk
 simp only [Z277.upd] at heldEntry_
 simp (disch:=omega) only [Z278.md,Z278.upd,md,f,oZ,Z278.e1,Z278.e2,Z278.e3,e1,e2,e3,wi,Z271.kk,heldKnown_,Z277.kk,heldEntry_,Z266.kk,Z279.mk,bk,dn]
 all_goals first | done | omega
end Z287
namespace Z288
def F (x0:bn)(x1:List (List L))(x2:Int)(x3:List (List L))(x4:Int):aG:=(call (Z9.R (x0,1048576)) fun v1=>(cond (decide (v1<0)) (ret (true:Bool)) (call (Z16.R (x1,v1)) fun v2=>(cond (decide (v2<0)) (ret (true:Bool)) (call (Z10.R (x3,v2)) fun v3=>(cond (decide (v3<0)) (ret (true:Bool)) (call (Z27.R x0) fun v4=>(call (Z34.R x1) fun v5=>(call (Z28.R x3) fun v6=>(call (Z121.R (v4,v5,x2,v6,x4)) fun v7=>(call (Z27.R x0) fun v8=>(call (Z34.R x1) fun v9=>(call (Z28.R x3) fun v10=>(call (Z246.R (v8,v9,x2,v10,x4)) fun v11=>(call (Z260.R (v11,v7)) fun v12=>(cond (!v12) (ret (false:Bool)) (call (Z27.R x0) fun v13=>(call (Z257.R (v8,v13)) fun v14=>(cond (!v14) (ret (false:Bool)) (call (Z34.R x1) fun v15=>(call (Z265.R (v9,v15)) fun v16=>(cond (!v16) (ret (false:Bool)) (call (Z28.R x3) fun v17=>(call (Z258.R (v10,v17)) fun v18=>(cond (!v18) (ret (false:Bool)) (call (Z271.R (v8,1)) fun v19=>(call (Z276.R (v9,v19.1)) fun v20=>(call (Z273.R (v10,v20.1)) fun v21=>(cond (decide (v21.1<0)) (ret (false:Bool)) (call (Z260.R (v11,v7)) fun v22=>(cond (!v22) (ret (false:Bool)) (call (Z278.R (v11,1)) fun v23=>(call (Z287.R ((⟨(⟨v23.2.1,v23.2.2.1⟩:bn),v11.eZ,(⟨v11.aN.aW,v11.aN.bD,v11.aN.bS,v23.2.2.2.1⟩:aS),v23.2.2.2.2,v11.eY⟩:cV),1)) fun v24=>(cond (decide (v24<0)) (ret (false:Bool)) (cond (v24 != v23.1) (ret (false:Bool)) (call (Z27.R x0) fun v25=>(call (Z34.R x1) fun v26=>(call (Z28.R x3) fun v27=>(call (Z246.R (v25,v26,x2,v27,x4)) fun v28=>(call (Z260.R (v28,v7)) fun v29=>(cond (!v29) (ret (false:Bool)) (call (Z287.R ((⟨(⟨v23.2.1,v23.2.2.1⟩:bn),v11.eZ,(⟨v11.aN.aW,v11.aN.bD,v11.aN.bS,v23.2.2.2.1⟩:aS),v23.2.2.2.2,v11.eY⟩:cV),1)) fun v30=>(cond (decide (v30<0)) (ret (false:Bool)) (cond (v30 != v23.1) (ret (false:Bool)) (ret (true:Bool))))))))))))))))))))))))))))))))))))))))))))))
def pats:List gq:=[.agg [.sl 338,.sl 347],.rd (.sl 218),.rd (.int .i64),.rd (.sl 9),.rd (.int .i64)]
def res:RP:=.one (.rd (.bool))
def md (a0:au)(a1:List az)(a2:Int)(a3:List ByteArray)(a4:Int):Bool:=true
def gd (a0:au)(a1:List az)(a2:Int)(a3:List ByteArray)(a4:Int):Prop:=(au.Sm maxLen a0)∧(bK maxLen (fun y:az=>az.Sm maxLen y) a1)∧(bK maxLen (fun y:ByteArray=>y.size≤maxLen) a3)
def acc (ls:List L):bn×List (List L)×Int×List (List L)×Int:=((bn.dec ls),((aA 2 ls).headD .hole).aR,((aA 3 ls).headD .hole).toInt,((aA 4 ls).headD .hole).aR,((aA 5 ls).headD .hole).toInt)
def R:(bn×List (List L)×Int×List (List L)×Int)→Option Bool:=RR (p5 gd) (u5 md)
theorem aj {a0 a1 a2 a3 a4}(h:gd a0 a1 a2 a3 a4):R ((au.r a0),(a1.map az.row),a2,(a3.map cA),a4)=some (md a0 a1 a2 a3 a4):=aM (a:=(a0,a1,a2,a3,a4)) h
def aV:fW:=CN pats res acc R
theorem bq (a0:au)(a1:List az)(a2:Int)(a3:List ByteArray)(a4:Int)(hg:gd a0 a1 a2 a3 a4):F (au.r a0) (a1.map az.row) a2 (a3.map cA) a4=ret ((md a0 a1 a2 a3 a4):Bool):=by
 unfold md
 show (call (Z9.R ((au.r a0),1048576)) fun v1=>(bif (decide (v1<0)) then ret (true:Bool) else (call (Z16.R ((a1.map az.row),v1)) fun v2=>(bif (decide (v2<0)) then ret (true:Bool) else (call (Z10.R ((a3.map cA),v2)) fun v3=>(bif (decide (v3<0)) then ret (true:Bool) else (call (Z27.R (au.r a0)) fun v4=>(call (Z34.R (a1.map az.row)) fun v5=>(call (Z28.R (a3.map cA)) fun v6=>(call (Z121.R (v4,v5,a2,v6,a4)) fun v7=>(call (Z27.R (au.r a0)) fun v8=>(call (Z34.R (a1.map az.row)) fun v9=>(call (Z28.R (a3.map cA)) fun v10=>(call (Z246.R (v8,v9,a2,v10,a4)) fun v11=>(call (Z260.R (v11,v7)) fun v12=>(bif (!v12) then ret (false:Bool) else (call (Z27.R (au.r a0)) fun v13=>(call (Z257.R (v8,v13)) fun v14=>(bif (!v14) then ret (false:Bool) else (call (Z34.R (a1.map az.row)) fun v15=>(call (Z265.R (v9,v15)) fun v16=>(bif (!v16) then ret (false:Bool) else (call (Z28.R (a3.map cA)) fun v17=>(call (Z258.R (v10,v17)) fun v18=>(bif (!v18) then ret (false:Bool) else (call (Z271.R (v8,1)) fun v19=>(call (Z276.R (v9,v19.1)) fun v20=>(call (Z273.R (v10,v20.1)) fun v21=>(bif (decide (v21.1<0)) then ret (false:Bool) else (call (Z260.R (v11,v7)) fun v22=>(bif (!v22) then ret (false:Bool) else (call (Z278.R (v11,1)) fun v23=>(call (Z287.R ((⟨(⟨v23.2.1,v23.2.2.1⟩:bn),v11.eZ,(⟨v11.aN.aW,v11.aN.bD,v11.aN.bS,v23.2.2.2.1⟩:aS),v23.2.2.2.2,v11.eY⟩:cV),1)) fun v24=>(bif (decide (v24<0)) then ret (false:Bool) else (bif (v24 != v23.1) then ret (false:Bool) else (call (Z27.R (au.r a0)) fun v25=>(call (Z34.R (a1.map az.row)) fun v26=>(call (Z28.R (a3.map cA)) fun v27=>(call (Z246.R (v25,v26,a2,v27,a4)) fun v28=>(call (Z260.R (v28,v7)) fun v29=>(bif (!v29) then ret (false:Bool) else (call (Z287.R ((⟨(⟨v23.2.1,v23.2.2.1⟩:bn),v11.eZ,(⟨v11.aN.aW,v11.aN.bD,v11.aN.bS,v23.2.2.2.1⟩:aS),v23.2.2.2.2,v11.eY⟩:cV),1)) fun v30=>(cond (decide (v30<0)) (ret (false:Bool)) (cond (v30 != v23.1) (ret (false:Bool)) (ret (true:Bool))))))))))))))))))))))))))))))))))))))))))))))=_
 rw [call_eq (Z9.aj (a1:=(1048576:Int)) ⟨hg.1,by omega,by omega⟩)]
 unfold Z9.md
 by_cases c0:(1048576:Int)<(((au.size a0):Nat):Int)
 ·rw [cP c0];rfl
 rw [dA c0,dn (by omega)]
 simp only [bk]
 have s0:au.Sm (2^20) a0:=(au.gx (by omega))
 rw [call_eq (Z16.aj (a1:=(1048576 - (((au.size a0):Nat):Int):Int)) ⟨hg.2.1,by omega,by omega⟩)]
 unfold Z16.md
 by_cases c1:(1048576 - (((au.size a0):Nat):Int):Int)<(((dQ (fun y:az=>az.size y) a1):Nat):Int)
 ·rw [cP c1];rfl
 rw [dA c1,dn (by omega)]
 simp only [bk]
 have s1:bK (2^20) (fun y:az=>az.Sm (2^20) y) a1:=(ju (f:=fun y:az=>az.size y) (by omega) (fun x hx=>(az.gx hx)))
 rw [call_eq (Z10.aj (a1:=(1048576 - (((au.size a0):Nat):Int) - (((dQ (fun y:az=>az.size y) a1):Nat):Int):Int)) ⟨hg.2.2,by omega,by omega⟩)]
 unfold Z10.md
 by_cases c3:(1048576 - (((au.size a0):Nat):Int) - (((dQ (fun y:az=>az.size y) a1):Nat):Int):Int)<(((dQ (fun y:ByteArray=>y.size) a3):Nat):Int)
 ·rw [cP c3];rfl
 rw [dA c3,dn (by omega)]
 simp only [bk]
 have s3:bK (2^20) (fun y:ByteArray=>y.size≤(2^20)) a3:=(ju (f:=fun y:ByteArray=>y.size) (by omega) (fun x hx=>hx))
 refine bh (au.r a0) (Z27.aj (a0:=a0) (au.dh (by decide) s0)) ?_
 refine bh (a1.map az.row) (Z34.aj (a0:=a1) (s1.mono (by decide) (fun x hx=>(az.dh (by decide) hx)))) ?_
 refine bh (a3.map cA) (Z28.aj (a0:=a3) (s3.mono (by decide) (fun x hx=>(Nat.le_trans hx (by decide))))) ?_
 refine bh (bz.r (Z121.md a0 a1 a2 a3 a4)) (Z121.aj (a0:=a0) (a1:=a1) (a2:=a2) (a3:=a3) (a4:=a4) (by
  have:=And.intro trivial trivial
  unfold Z121.gd
  first | exact (au.dh (by decide) s0) | refine ⟨(au.dh (by decide) s0),(s1.mono (by decide) (fun x hx=>(az.dh (by decide) hx))),(s3.mono (by decide) (fun x hx=>(Nat.le_trans hx (by decide))))⟩)) ?_
 refine bh (au.r a0) (Z27.aj (a0:=a0) (au.dh (by decide) s0)) ?_
 refine bh (a1.map az.row) (Z34.aj (a0:=a1) (s1.mono (by decide) (fun x hx=>(az.dh (by decide) hx)))) ?_
 refine bh (a3.map cA) (Z28.aj (a0:=a3) (s3.mono (by decide) (fun x hx=>(Nat.le_trans hx (by decide))))) ?_
 have r_:=Z246.aj (a0:=a0) (a1:=a1) (a2:=a2) (a3:=a3) (a4:=a4) (by
  have:=And.intro trivial trivial
  unfold Z246.gd
  first | exact (au.dh (by decide) s0) | refine ⟨(au.dh (by decide) s0),(s1.mono (by decide) (fun x hx=>(az.dh (by decide) hx))),(s3.mono (by decide) (fun x hx=>(Nat.le_trans hx (by decide))))⟩)
 rw [Z246.br] at r_
 refine bh (bz.r (Z121.md a0 a1 a2 a3 a4)) r_ ?_
 clear r_
 refine bh _ (Z260.aj (a0:=(Z121.md a0 a1 a2 a3 a4)) (a1:=(Z121.md a0 a1 a2 a3 a4)) trivial) ?_
 refine cN (by first | (simp only [bne_self_eq_false,beq_self_eq_true,gr,fP,Bool.not_true,Z260.md];done) | (refine bne_eq_false_iff_eq.2 ?_;omega)) ?_
 refine bh (au.r a0) (Z27.aj (a0:=a0) (au.dh (by decide) s0)) ?_
 refine bh _ (Z257.aj (a0:=a0) (a1:=a0) trivial) ?_
 refine cN (by first | (simp only [bne_self_eq_false,beq_self_eq_true,gr,fP,Bool.not_true,Z260.md,Z257.md];done) | (refine bne_eq_false_iff_eq.2 ?_;omega)) ?_
 refine bh (a1.map az.row) (Z34.aj (a0:=a1) (s1.mono (by decide) (fun x hx=>(az.dh (by decide) hx)))) ?_
 refine bh _ (Z265.aj (a0:=a1) (a1:=a1) trivial) ?_
 refine cN (by first | (simp only [bne_self_eq_false,beq_self_eq_true,gr,fP,Bool.not_true,Z260.md,Z257.md,Z265.md];done) | (refine bne_eq_false_iff_eq.2 ?_;omega)) ?_
 refine bh (a3.map cA) (Z28.aj (a0:=a3) (s3.mono (by decide) (fun x hx=>(Nat.le_trans hx (by decide))))) ?_
 refine bh _ (Z258.aj (a0:=a3) (a1:=a3) trivial) ?_
 refine cN (by first | (simp only [bne_self_eq_false,beq_self_eq_true,gr,fP,Bool.not_true,Z260.md,Z257.md,Z265.md,Z258.md];done) | (refine bne_eq_false_iff_eq.2 ?_;omega)) ?_
 have u1:=Z271.sz a0
 refine bh ((Z271.md a0 1).1,((Z271.md a0 1).2.1.map (dK aa.row)),((Z271.md a0 1).2.2.map aB.row)) (Z271.aj (a0:=a0) (a1:=1) lT) ?_
 have k2:=Z271.kk a0 1 (by omega) (by omega)
 have u3:=Z276.sz a1
 refine bh ((Z276.md a1 ((Z271.md a0 1).1)).1,((Z276.md a1 ((Z271.md a0 1).1)).2.map az.row)) (Z276.aj (a0:=a1) (a1:=(Z271.md a0 1).1) (Z271.iq lT)) ?_
 have k4:=Z276.kk a1 ((Z271.md a0 1).1) (by omega) (by omega)
 have u5:=Z273.sz a3
 refine bh ((Z273.md a3 ((Z276.md a1 ((Z271.md a0 1).1)).1)).1,((Z273.md a3 ((Z276.md a1 ((Z271.md a0 1).1)).1)).2.map cA)) (Z273.aj (a0:=a3) (a1:=(Z276.md a1 ((Z271.md a0 1).1)).1) (Z276.iq (Z271.iq lT))) ?_
 have k6:=Z273.kk a3 ((Z276.md a1 ((Z271.md a0 1).1)).1) (by omega) (by omega)
 refine cN (dn (by omega)) ?_
 refine bh _ (Z260.aj (a0:=(Z121.md a0 a1 a2 a3 a4)) (a1:=(Z121.md a0 a1 a2 a3 a4)) trivial) ?_
 refine cN (by first | (simp only [bne_self_eq_false,beq_self_eq_true,gr,fP,Bool.not_true,Z260.md,Z257.md,Z265.md,Z258.md];done) | (refine bne_eq_false_iff_eq.2 ?_;omega)) ?_
 have u7:Z278.sum (Z121.md a0 a1 a2 a3 a4)≤1000000000000000000:=(by
  have h1:=Z278.sz (Z121.md a0 a1 a2 a3 a4)
  have h2:=Z121.sz a0 a1 a2 a3 a4 (by omega) (by omega)
  omega)
 refine bh ((Z278.md (Z121.md a0 a1 a2 a3 a4) 1).1,((Z278.md (Z121.md a0 a1 a2 a3 a4) 1).2.1.map (dK aa.row)),((Z278.md (Z121.md a0 a1 a2 a3 a4) 1).2.2.1.map aB.row),((Z278.md (Z121.md a0 a1 a2 a3 a4) 1).2.2.2.1.map cA),((Z278.md (Z121.md a0 a1 a2 a3 a4) 1).2.2.2.2.map aZ)) (Z278.aj (a0:=(Z121.md a0 a1 a2 a3 a4)) (a1:=1) lT) ?_
 have k8:=Z278.kk (Z121.md a0 a1 a2 a3 a4) 1 (by omega) (by omega)
 refine bh (Z287.md (⟨(⟨(Z278.md (Z121.md a0 a1 a2 a3 a4) 1).2.1,(Z278.md (Z121.md a0 a1 a2 a3 a4) 1).2.2.1⟩:au),(Z121.md a0 a1 a2 a3 a4).eZ,(⟨(Z121.md a0 a1 a2 a3 a4).aN.aW,(Z121.md a0 a1 a2 a3 a4).aN.bD,(Z121.md a0 a1 a2 a3 a4).aN.bS,(Z278.md (Z121.md a0 a1 a2 a3 a4) 1).2.2.2.1⟩:ah),(Z278.md (Z121.md a0 a1 a2 a3 a4) 1).2.2.2.2,(Z121.md a0 a1 a2 a3 a4).eY⟩:bz) 1) (Z287.aj (a0:=(⟨(⟨(Z278.md (Z121.md a0 a1 a2 a3 a4) 1).2.1,(Z278.md (Z121.md a0 a1 a2 a3 a4) 1).2.2.1⟩:au),(Z121.md a0 a1 a2 a3 a4).eZ,(⟨(Z121.md a0 a1 a2 a3 a4).aN.aW,(Z121.md a0 a1 a2 a3 a4).aN.bD,(Z121.md a0 a1 a2 a3 a4).aN.bS,(Z278.md (Z121.md a0 a1 a2 a3 a4) 1).2.2.2.1⟩:ah),(Z278.md (Z121.md a0 a1 a2 a3 a4) 1).2.2.2.2,(Z121.md a0 a1 a2 a3 a4).eY⟩:bz)) (a1:=1) lT) ?_
 have h9:(Z287.md (⟨(⟨(Z278.md (Z121.md a0 a1 a2 a3 a4) 1).2.1,(Z278.md (Z121.md a0 a1 a2 a3 a4) 1).2.2.1⟩:au),(Z121.md a0 a1 a2 a3 a4).eZ,(⟨(Z121.md a0 a1 a2 a3 a4).aN.aW,(Z121.md a0 a1 a2 a3 a4).aN.bD,(Z121.md a0 a1 a2 a3 a4).aN.bS,(Z278.md (Z121.md a0 a1 a2 a3 a4) 1).2.2.2.1⟩:ah),(Z278.md (Z121.md a0 a1 a2 a3 a4) 1).2.2.2.2,(Z121.md a0 a1 a2 a3 a4).eY⟩:bz) 1)=1+(Z278.sum (Z121.md a0 a1 a2 a3 a4):Int):=Z287.mk (Z121.md a0 a1 a2 a3 a4) 1 (by omega) (by omega)
 refine cN (dn (by omega)) ?_
 refine cN (by first | (simp only [bne_self_eq_false,beq_self_eq_true,gr,fP,Bool.not_true,Z260.md,Z257.md,Z265.md,Z258.md];done) | (refine bne_eq_false_iff_eq.2 ?_;omega)) ?_
 refine bh (au.r a0) (Z27.aj (a0:=a0) (au.dh (by decide) s0)) ?_
 refine bh (a1.map az.row) (Z34.aj (a0:=a1) (s1.mono (by decide) (fun x hx=>(az.dh (by decide) hx)))) ?_
 refine bh (a3.map cA) (Z28.aj (a0:=a3) (s3.mono (by decide) (fun x hx=>(Nat.le_trans hx (by decide))))) ?_
 have r_:=Z246.aj (a0:=a0) (a1:=a1) (a2:=a2) (a3:=a3) (a4:=a4) (by
  have:=And.intro trivial trivial
  unfold Z246.gd
  first | exact (au.dh (by decide) s0) | refine ⟨(au.dh (by decide) s0),(s1.mono (by decide) (fun x hx=>(az.dh (by decide) hx))),(s3.mono (by decide) (fun x hx=>(Nat.le_trans hx (by decide))))⟩)
 rw [Z246.br] at r_
 refine bh (bz.r (Z121.md a0 a1 a2 a3 a4)) r_ ?_
 clear r_
 refine bh _ (Z260.aj (a0:=(Z121.md a0 a1 a2 a3 a4)) (a1:=(Z121.md a0 a1 a2 a3 a4)) trivial) ?_
 refine cN (by first | (simp only [bne_self_eq_false,beq_self_eq_true,gr,fP,Bool.not_true,Z260.md,Z257.md,Z265.md,Z258.md];done) | (refine bne_eq_false_iff_eq.2 ?_;omega)) ?_
 refine bh (Z287.md (⟨(⟨(Z278.md (Z121.md a0 a1 a2 a3 a4) 1).2.1,(Z278.md (Z121.md a0 a1 a2 a3 a4) 1).2.2.1⟩:au),(Z121.md a0 a1 a2 a3 a4).eZ,(⟨(Z121.md a0 a1 a2 a3 a4).aN.aW,(Z121.md a0 a1 a2 a3 a4).aN.bD,(Z121.md a0 a1 a2 a3 a4).aN.bS,(Z278.md (Z121.md a0 a1 a2 a3 a4) 1).2.2.2.1⟩:ah),(Z278.md (Z121.md a0 a1 a2 a3 a4) 1).2.2.2.2,(Z121.md a0 a1 a2 a3 a4).eY⟩:bz) 1) (Z287.aj (a0:=(⟨(⟨(Z278.md (Z121.md a0 a1 a2 a3 a4) 1).2.1,(Z278.md (Z121.md a0 a1 a2 a3 a4) 1).2.2.1⟩:au),(Z121.md a0 a1 a2 a3 a4).eZ,(⟨(Z121.md a0 a1 a2 a3 a4).aN.aW,(Z121.md a0 a1 a2 a3 a4).aN.bD,(Z121.md a0 a1 a2 a3 a4).aN.bS,(Z278.md (Z121.md a0 a1 a2 a3 a4) 1).2.2.2.1⟩:ah),(Z278.md (Z121.md a0 a1 a2 a3 a4) 1).2.2.2.2,(Z121.md a0 a1 a2 a3 a4).eY⟩:bz)) (a1:=1) lT) ?_
 have h10:(Z287.md (⟨(⟨(Z278.md (Z121.md a0 a1 a2 a3 a4) 1).2.1,(Z278.md (Z121.md a0 a1 a2 a3 a4) 1).2.2.1⟩:au),(Z121.md a0 a1 a2 a3 a4).eZ,(⟨(Z121.md a0 a1 a2 a3 a4).aN.aW,(Z121.md a0 a1 a2 a3 a4).aN.bD,(Z121.md a0 a1 a2 a3 a4).aN.bS,(Z278.md (Z121.md a0 a1 a2 a3 a4) 1).2.2.2.1⟩:ah),(Z278.md (Z121.md a0 a1 a2 a3 a4) 1).2.2.2.2,(Z121.md a0 a1 a2 a3 a4).eY⟩:bz) 1)=1+(Z278.sum (Z121.md a0 a1 a2 a3 a4):Int):=Z287.mk (Z121.md a0 a1 a2 a3 a4) 1 (by omega) (by omega)
 refine cN (dn (by omega)) ?_
 refine cN (by first | (simp only [bne_self_eq_false,beq_self_eq_true,gr,fP,Bool.not_true,Z260.md,Z257.md,Z265.md,Z258.md];done) | (refine bne_eq_false_iff_eq.2 ?_;omega)) ?_
 rfl
theorem af:cw 19 aV:=VS (live:=fun _=>[]) (nt:=125) (run:=fun _ x=>F x.1 x.2.1 x.2.2.1 x.2.2.2.1 x.2.2.2.2) mix aD (.cons Z9.af (.cons Z16.af (.cons Z10.af (.cons Z27.af (.cons Z34.af (.cons Z28.af (.cons Z121.af (.cons Z246.af (.cons Z260.af (.cons Z257.af (.cons Z265.af (.cons Z258.af (.cons Z287.af .nil))))))))))))) (.cons Z271.af (.cons Z276.af (.cons Z273.af (.cons Z278.af .nil)))) Tryz.func19 (by kernel_rfl) (fun _ _=>by kernel_rfl) (fun _ a _ _ hg=>⟨0,bq a.1 a.2.1 a.2.2.1 a.2.2.2.1 a.2.2.2.2 hg⟩)
theorem lH (r:List L)(h:eA Ev.cells [.sl 3,.int .i64] r):∃x:aJ,aJ.row x=r∧aJ.Sm maxLen x:=by
 obtain ⟨l0,t0,rfl,g0,h1⟩:=h.dY
 obtain ⟨x0,rfl,s0⟩:=hU (show Ev.cells 3=[.int .i64] from by kernel_rfl) zR g0
 obtain ⟨l1,t1,rfl,g1,h2⟩:=h1.dY
 obtain ⟨x1,rfl⟩:=gf g1
 obtain rfl:=h2.kg
 exact ⟨⟨x0,x1⟩,rfl,s0⟩
theorem um (r:List L)(h:eA Ev.cells [.int .i64,.int .i64,.int .i64,.int .i64,.int .i64,.int .i64,.int .i64,.int .i64,.sl 3,.int .i64,.sl 3,.int .i64,.int .i64,.sl 3,.int .i64,.bool] r):∃x:aC,aC.row x=r∧aC.Sm maxLen x:=by
 obtain ⟨l0,t0,rfl,g0,h1⟩:=h.dY
 obtain ⟨x0,rfl⟩:=gf g0
 obtain ⟨l1,t1,rfl,g1,h2⟩:=h1.dY
 obtain ⟨x1,rfl⟩:=gf g1
 obtain ⟨l2,t2,rfl,g2,h3⟩:=h2.dY
 obtain ⟨x2,rfl⟩:=gf g2
 obtain ⟨l3,t3,rfl,g3,h4⟩:=h3.dY
 obtain ⟨x3,rfl⟩:=gf g3
 obtain ⟨l4,t4,rfl,g4,h5⟩:=h4.dY
 obtain ⟨x4,rfl⟩:=gf g4
 obtain ⟨l5,t5,rfl,g5,h6⟩:=h5.dY
 obtain ⟨x5,rfl⟩:=gf g5
 obtain ⟨l6,t6,rfl,g6,h7⟩:=h6.dY
 obtain ⟨x6,rfl⟩:=gf g6
 obtain ⟨l7,t7,rfl,g7,h8⟩:=h7.dY
 obtain ⟨x7,rfl⟩:=gf g7
 obtain ⟨r8,t8,rfl,g8,h9⟩:=eA.nR (a:=[.sl 3,.int .i64]) (b:=[.sl 3,.int .i64,.int .i64,.sl 3,.int .i64,.bool]) h8
 obtain ⟨x8,rfl,s8⟩:=lH _ g8
 obtain ⟨r9,t9,rfl,g9,h10⟩:=eA.nR (a:=[.sl 3,.int .i64]) (b:=[.int .i64,.sl 3,.int .i64,.bool]) h9
 obtain ⟨x9,rfl,s9⟩:=lH _ g9
 obtain ⟨l10,t10,rfl,g10,h11⟩:=h10.dY
 obtain ⟨x10,rfl⟩:=gf g10
 obtain ⟨r11,t11,rfl,g11,h12⟩:=eA.nR (a:=[.sl 3,.int .i64]) (b:=[.bool]) h11
 obtain ⟨x11,rfl,s11⟩:=lH _ g11
 obtain ⟨l12,t12,rfl,g12,h13⟩:=h12.dY
 obtain ⟨x12,rfl⟩:=zm g12
 obtain rfl:=h13.kg
 exact ⟨⟨x0,x1,x2,x3,x4,x5,x6,x7,x8,x9,x10,x11,x12⟩,rfl,⟨s8,s9,s11⟩⟩
theorem vn (r:List L)(h:eA Ev.cells [.int .i64,.int .i64] r):∃x:aY,aY.row x=r∧aY.Sm maxLen x:=by
 obtain ⟨l0,t0,rfl,g0,h1⟩:=h.dY
 obtain ⟨x0,rfl⟩:=gf g0
 obtain ⟨l1,t1,rfl,g1,h2⟩:=h1.dY
 obtain ⟨x1,rfl⟩:=gf g1
 obtain rfl:=h2.kg
 exact ⟨⟨x0,x1⟩,rfl,trivial⟩
theorem gS (r:List L)(h:eA Ev.cells [.int .i64,.int .i64,.int .i64,.int .i64,.int .i64,.int .i64,.int .i64,.int .i64,.sl 3,.int .i64,.sl 3,.int .i64,.int .i64,.sl 3,.int .i64,.bool,.sl 516] r):∃x:aa,aa.row x=r∧aa.Sm maxLen x:=by
 obtain ⟨r0,t0,rfl,g0,h1⟩:=eA.nR (a:=[.int .i64,.int .i64,.int .i64,.int .i64,.int .i64,.int .i64,.int .i64,.int .i64,.sl 3,.int .i64,.sl 3,.int .i64,.int .i64,.sl 3,.int .i64,.bool]) (b:=[.sl 516]) h
 obtain ⟨x0,rfl,s0⟩:=um _ g0
 obtain ⟨l1,t1,rfl,g1,h2⟩:=h1.dY
 obtain ⟨x1,rfl,s1⟩:=hU (show Ev.cells 516=[.int .i64,.int .i64] from by kernel_rfl) vn g1
 obtain rfl:=h2.kg
 exact ⟨⟨x0,x1⟩,rfl,⟨s0,s1⟩⟩
theorem tK (r:List L)(h:eA Ev.cells [.int .i64,.int .i64,.int .i64,.int .i64,.int .i64,.int .i64,.int .i64,.int .i64,.sl 3,.int .i64,.sl 3,.int .i64,.int .i64,.sl 3,.int .i64,.bool,.sl 516,.int .i64,.int .i64,.int .i64,.int .i64,.int .i64,.int .i64,.int .i64,.int .i64,.sl 3,.int .i64,.sl 3,.int .i64,.int .i64,.sl 3,.int .i64,.bool,.sl 516,.int .i64,.int .i64,.int .i64,.int .i64,.int .i64,.int .i64,.int .i64,.int .i64,.sl 3,.int .i64,.sl 3,.int .i64,.int .i64,.sl 3,.int .i64,.bool,.sl 516] r):∃x:aB,aB.row x=r∧aB.Sm maxLen x:=by
 obtain ⟨r0,t0,rfl,g0,h1⟩:=eA.nR (a:=[.int .i64,.int .i64,.int .i64,.int .i64,.int .i64,.int .i64,.int .i64,.int .i64,.sl 3,.int .i64,.sl 3,.int .i64,.int .i64,.sl 3,.int .i64,.bool,.sl 516]) (b:=[.int .i64,.int .i64,.int .i64,.int .i64,.int .i64,.int .i64,.int .i64,.int .i64,.sl 3,.int .i64,.sl 3,.int .i64,.int .i64,.sl 3,.int .i64,.bool,.sl 516,.int .i64,.int .i64,.int .i64,.int .i64,.int .i64,.int .i64,.int .i64,.int .i64,.sl 3,.int .i64,.sl 3,.int .i64,.int .i64,.sl 3,.int .i64,.bool,.sl 516]) h
 obtain ⟨x0,rfl,s0⟩:=gS _ g0
 obtain ⟨r1,t1,rfl,g1,h2⟩:=eA.nR (a:=[.int .i64,.int .i64,.int .i64,.int .i64,.int .i64,.int .i64,.int .i64,.int .i64,.sl 3,.int .i64,.sl 3,.int .i64,.int .i64,.sl 3,.int .i64,.bool,.sl 516]) (b:=[.int .i64,.int .i64,.int .i64,.int .i64,.int .i64,.int .i64,.int .i64,.int .i64,.sl 3,.int .i64,.sl 3,.int .i64,.int .i64,.sl 3,.int .i64,.bool,.sl 516]) h1
 obtain ⟨x1,rfl,s1⟩:=gS _ g1
 obtain ⟨r2,t2,rfl,g2,h3⟩:=eA.nR (a:=[.int .i64,.int .i64,.int .i64,.int .i64,.int .i64,.int .i64,.int .i64,.int .i64,.sl 3,.int .i64,.sl 3,.int .i64,.int .i64,.sl 3,.int .i64,.bool,.sl 516]) (b:=[]) h2
 obtain ⟨x2,rfl,s2⟩:=gS _ g2
 obtain rfl:=h3.kg
 exact ⟨⟨x0,x1,x2⟩,rfl,⟨s0,s1,s2⟩⟩
theorem uz (r:List L)(h:eA Ev.cells [.sl 338,.sl 347] r):∃x:au,au.row x=r∧au.Sm maxLen x:=by
 obtain ⟨l0,t0,rfl,g0,h1⟩:=h.dY
 obtain ⟨x0,rfl,s0⟩:=hU (show Ev.cells 338=[.sl 345] from by kernel_rfl) (zC (show Ev.cells 345=[.int .i64,.int .i64,.int .i64,.int .i64,.int .i64,.int .i64,.int .i64,.int .i64,.sl 3,.int .i64,.sl 3,.int .i64,.int .i64,.sl 3,.int .i64,.bool,.sl 516] from by kernel_rfl) gS) g0
 obtain ⟨l1,t1,rfl,g1,h2⟩:=h1.dY
 obtain ⟨x1,rfl,s1⟩:=hU (show Ev.cells 347=[.int .i64,.int .i64,.int .i64,.int .i64,.int .i64,.int .i64,.int .i64,.int .i64,.sl 3,.int .i64,.sl 3,.int .i64,.int .i64,.sl 3,.int .i64,.bool,.sl 516,.int .i64,.int .i64,.int .i64,.int .i64,.int .i64,.int .i64,.int .i64,.int .i64,.sl 3,.int .i64,.sl 3,.int .i64,.int .i64,.sl 3,.int .i64,.bool,.sl 516,.int .i64,.int .i64,.int .i64,.int .i64,.int .i64,.int .i64,.int .i64,.int .i64,.sl 3,.int .i64,.sl 3,.int .i64,.int .i64,.sl 3,.int .i64,.bool,.sl 516] from by kernel_rfl) tK g1
 obtain rfl:=h2.kg
 exact ⟨⟨x0,x1⟩,rfl,⟨s0,s1⟩⟩
theorem tj (r:List L)(h:eA Ev.cells [.str,.int .i64,.int .i64,.sl 9] r):∃x:ah,ah.row x=r∧ah.Sm maxLen x:=by
 obtain ⟨l0,t0,rfl,g0,h1⟩:=h.dY
 obtain ⟨x0,rfl,s0⟩:=xu g0
 obtain ⟨l1,t1,rfl,g1,h2⟩:=h1.dY
 obtain ⟨x1,rfl⟩:=gf g1
 obtain ⟨l2,t2,rfl,g2,h3⟩:=h2.dY
 obtain ⟨x2,rfl⟩:=gf g2
 obtain ⟨l3,t3,rfl,g3,h4⟩:=h3.dY
 obtain ⟨x3,rfl,s3⟩:=hU (show Ev.cells 9=[.str] from by kernel_rfl) wo g3
 obtain rfl:=h4.kg
 exact ⟨⟨x0,x1,x2,x3⟩,rfl,⟨s0,s3⟩⟩
theorem tS (r:List L)(h:eA Ev.cells [.sl 345,.sl 357] r):∃x:aI,aI.row x=r∧aI.Sm maxLen x:=by
 obtain ⟨l0,t0,rfl,g0,h1⟩:=h.dY
 obtain ⟨x0,rfl,s0⟩:=hU (show Ev.cells 345=[.int .i64,.int .i64,.int .i64,.int .i64,.int .i64,.int .i64,.int .i64,.int .i64,.sl 3,.int .i64,.sl 3,.int .i64,.int .i64,.sl 3,.int .i64,.bool,.sl 516] from by kernel_rfl) gS g0
 obtain ⟨l1,t1,rfl,g1,h2⟩:=h1.dY
 obtain ⟨x1,rfl,s1⟩:=hU (show Ev.cells 357=[.str,.int .i64,.int .i64,.sl 9] from by kernel_rfl) tj g1
 obtain rfl:=h2.kg
 exact ⟨⟨x0,x1⟩,rfl,⟨s0,s1⟩⟩
theorem rF (r:List L)(h:eA Ev.cells [.sl 423,.int .i64] r):∃x:az,az.row x=r∧az.Sm maxLen x:=by
 obtain ⟨l0,t0,rfl,g0,h1⟩:=h.dY
 obtain ⟨x0,rfl,s0⟩:=hU (show Ev.cells 423=[.sl 345,.sl 357] from by kernel_rfl) tS g0
 obtain ⟨l1,t1,rfl,g1,h2⟩:=h1.dY
 obtain ⟨x1,rfl⟩:=gf g1
 obtain rfl:=h2.kg
 exact ⟨⟨x0,x1⟩,rfl,s0⟩
theorem holds (ls:List L)(h:eA Ev.cells ([25,26,3,28,3].flatMap Ev.cells) ls):aV.sem ls=some [.bool true]:=by
 have hk:[25,26,3,28,3].flatMap Ev.cells=[.sl 338,.sl 347,.sl 218,.int .i64,.sl 9,.int .i64]:=by kernel_rfl
 rw [hk] at h
 obtain ⟨r0,t0,rfl,g0,h1⟩:=eA.nR (a:=[.sl 338,.sl 347]) (b:=[.sl 218,.int .i64,.sl 9,.int .i64]) h
 obtain ⟨x0,rfl,s0⟩:=uz _ g0
 obtain ⟨l1,t1,rfl,g1,h2⟩:=h1.dY
 obtain ⟨x1,rfl,s1⟩:=hU (show Ev.cells 218=[.sl 423,.int .i64] from by kernel_rfl) rF g1
 obtain ⟨l2,t2,rfl,g2,h3⟩:=h2.dY
 obtain ⟨x2,rfl⟩:=gf g2
 obtain ⟨l3,t3,rfl,g3,h4⟩:=h3.dY
 obtain ⟨x3,rfl,s3⟩:=hU (show Ev.cells 9=[.str] from by kernel_rfl) wo g3
 obtain ⟨l4,t4,rfl,g4,h5⟩:=h4.dY
 obtain ⟨x4,rfl⟩:=gf g4
 obtain rfl:=h5.kg
 show (R ((au.r x0),(x1.map az.row),x2,(x3.map cA),x4)).map RT.enc=_
 rw [aj ⟨s0,s1,s3⟩]
 rfl
end Z288
end Go.DM
end
