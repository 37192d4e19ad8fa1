/- What the functions compute that the law reaches, and that the law returns true. Conditions: none. -/
import Derived.Test.YtbojpakoeellaaaGreatResolveTy
import Derived.Test.YtbojpakoeellaaaGreatResolveFnC
set_option linter.all false
set_option maxRecDepth 100000
noncomputable section
namespace Go.DM
open Go.Proofs
open Go.IntKind (i64)
open Int (toNat)
open Nat (le_trans zero_le)
namespace Z274
set_option maxHeartbeats 8000000
inductive Pt where
 | p0 (a b:Int) (c:aC)
def pid:Pt->Nat
 | .p0 ..=>2
def cj:Pt->List V
 | .p0 a b c=>[.own 0,.int .i64 a,.int .i64 b]
def cg:Pt->List aV
 | .p0 a b c=>[.row 57 c]
def step (J:Pt->aH):Pt->aH
 | .p0 a b c=>(cond (decide (b<(c.length:Int))) (call (Z272.R a) fun v1=>(m2 b (c.length:Int) (m2 b (c.length:Int) (bZ (fq b) (m2 b (c.length:Int) (bZ (fq b) (m2 b (c.length:Int) (bZ (fq b) (bZ (fq b) (call (Z273.R ((aU.at c (toNat b)).bH,(i64.wrap ((i64.wrap ((i64.wrap (a+1))+1))+1)))) fun v2=>J (.p0 v2.1 (i64.wrap (b+1)) (List.set c (toNat b) (aU.enc (⟨v1,(i64.wrap (a+1)),(i64.wrap ((i64.wrap (a+1))+1)),v2.2⟩:aU)))))))))))))) (ret ((a,c):Int×aC)))
def start (J:Pt->aH)(x0:aC)(x1:Int):aH:=J (.p0 x1 0 x0)
def live:Nat->Live:=fun i=>match i with | 2=>[(0,none),(1,none),(5,none)] | _=>[]
def pats:List (Bool×List K):=[(false,[.sl 57]),(false,[aB])]
def res:RP:=.nV [57]
abbrev E:Env:={ T:=assoc kL,G:=dm [(56,Z272.aW)],nt:=42,M:=fO [(24,Z273.aW)],np:=1,mt:=true }
def step_eq (I:cH)(p:Pt):cR E live I (pid p) (bQ Tryz.f96) (fE (live (pid p)) (cj p) (cg p)) (cG E Tryz.f96 res)=step (fun q=>I (pid q) (cj q) (cg q)) p:=by
 cases p<;>kernel_rfl
def start_eq (I:cH)(ls:List L):eS E live I (bQ Tryz.f96) (gK pats ls) (cG E Tryz.f96 res)=start (fun q=>I (pid q) (cj q) (cg q)) (ls.headD .hole).aS ((aA 1 ls).headD .hole).toInt:=by kernel_rfl
def run_eq (n:Nat)(ls:List L):eN E live Tryz.f96 res n (gK pats ls)=start (iter step n) (ls.headD .hole).aS ((aA 1 ls).headD .hole).toInt:=cB (id:=pid) (vs:=cj) (hs:=cg) (step:=step) (start:=fun J=>start J (ls.headD .hole).aS ((aA 1 ls).headD .hole).toInt) step_eq (fun I=>start_eq I ls) n
def e1 (x:ah)(k:Int):=Z273.md x.bH (i64.wrap ((i64.wrap ((i64.wrap (k+1))+1))+1))
def el (x:ah)(k:Int):Int×ah:=((e1 x k).1,(⟨(Z272.md k),(i64.wrap (k+1)),(i64.wrap ((i64.wrap (k+1))+1)),(e1 x k).2⟩:ah))
def iz (x:ah)(k:Int)(hk:eJ k):eJ (el x k).1:=(Z273.iq (cw _))
def cnt (x:ah):Nat:=3+Z273.sum x.bH
def sum (a:List ah):Nat:=(a.map cnt).sum
def md (a0:List ah)(a1:Int):Int×List ah:=jo el a0 a1
def gd (a0:List ah)(a1:Int):Prop:=eJ a1
def acc (ls:List L):aC×Int:=((ls.headD .hole).aS,((aA 1 ls).headD .hole).toInt)
def R:(aC×Int)->Option (Int×aC):=RR (p2 gd) (u2 md)
def aj {a0 a1}(h:gd a0 a1):R ((a0.map ah.row),a1)=some ((md a0 a1).1,((md a0 a1).2.map ah.row)):=aO (a:=(a0,a1)) h
def aW:gB:=MN pats acc R
def bw (a0:List ah)(a1:Int)(hg:gd a0 a1)(h0:a0.length<=maxLen):∃n,start (iter step n) (a0.map ah.row) a1=ret (((md a0 a1).1,((md a0 a1).2.map ah.row)):Int×aC):=by
 unfold gd at hg
 show ∃n,iter step n (Pt.p0 a1 0 (a0.map ah.row))=_
 unfold md
 refine gy (el:=el) (xs:=a0) ah.zero eJ iz (pt:=fun i k c=>Pt.p0 k (i:Int) (c.map ah.row)) (out:=fun b=>ret (b.1,b.2.map ah.row)) (fun J i k c hi hc hk=>?_) (fun J k c hc=>?_) hg
 ·have hm:c.length<=maxLen:=hc ▸ h0
  simp only [step,SS]
  refine ak (aN hi) ?_
  refine bp (Z272.md k) (Z272.aj (a0:=k) hk) ?_
  repeat first | refine ak aJ ?_ | refine ak (aN hi) ?_ | refine ak (gS _) ?_
  refine bp ((e1 (c.getD i ah.zero) k).1,((e1 (c.getD i ah.zero) k).2.map cC)) (Z273.aj (a0:=(c.getD i ah.zero).bH) (a1:=i64.wrap ((i64.wrap ((i64.wrap (k+1))+1))+1)) (cw _)) ?_
  rw [aG hi hm]
  exact congrArg (fun q=>J (Pt.p0 (el (c.getD i ah.zero) k).1 ((i+1:Nat):Int) q)) (List.map_set (f:=ah.row) (l:=c) (i:=i) (a:=(el (c.getD i ah.zero) k).2)).symm
 ·simp only [step,SS]
  refine cL (by apply decide_eq_false;omega) ?_
  rfl
def af:eR Tryz.prog Ev 96 aW:=MV (run:=fun n x=>start (iter step n) x.1 x.2) mix aF (.cons Z272.af .nil) (.cons Z273.af .nil) Tryz.func96 (by kernel_rfl) run_eq (fun ls a hl e hg=>bw a.1 a.2 hg (by have h:(ls.headD .hole).aS.length<=maxLen:=(hl _ _ (.head _)).len;have e:a.1.map ah.row=(ls.headD .hole).aS:=(congrArg (fun x=>x.1) e.symm);rw [<-e] at h;simpa using h))
def iq {a0:List ah}{a1:Int}(h:eJ a1):eJ (md a0 a1).1:=jP iz h
def qx (x:ah)(k:Int)(h0:0<=k)(hb:k+(cnt x:Int)<=4611686018427387904):(el x k).1=k+cnt x:=by
 simp only [cnt,Int.natCast_add] at hb ⊢
 simp (disch:=omega) only [el,e1,wi,Z273.kk]
 all_goals first | done | omega
def kk (a0:List ah)(a1:Int)(h0:0<=a1)(hb:a1+(sum a0:Int)<=4611686018427387904):(md a0 a1).1=a1+sum a0:=gH qx a0 a1 h0 hb
def sz (a:List ah):sum a<=60*(dP (fun y:ah=>ah.size y) a):=jM (fun x=>by
 have:=Z273.sz x.bH
 try simp only [cnt,ah.size] at *
 omega) a
end Z274
namespace Z275
set_option maxHeartbeats 8000000
inductive Pt where
 | p0 (a b:Int) (c:aC)
def pid:Pt->Nat
 | .p0 ..=>2
def cj:Pt->List V
 | .p0 a b c=>[.own 0,.int .i64 a,.int .i64 b]
def cg:Pt->List aV
 | .p0 a b c=>[.row 155 c]
def step (J:Pt->aH):Pt->aH
 | .p0 a b c=>(cond (decide (b<(c.length:Int))) (m2 b (c.length:Int) (call (Z268.R ((dJ.at c (toNat b)).aR,a)) fun v1=>(m2 b (c.length:Int) (bZ (fq b) (bZ (fq b) (call (Z274.R ((dJ.at c (toNat b)).bK,v1.1)) fun v2=>J (.p0 v2.1 (i64.wrap (b+1)) (List.set c (toNat b) (dJ.enc (⟨v1.2,v2.2⟩:dJ)))))))))) (ret ((a,c):Int×aC)))
def start (J:Pt->aH)(x0:aC)(x1:Int):aH:=J (.p0 x1 0 x0)
def live:Nat->Live:=fun i=>match i with | 2=>[(0,none),(1,none),(5,none)] | _=>[]
def pats:List (Bool×List K):=[(false,[.sl 155]),(false,[aB])]
def res:RP:=.nV [155]
abbrev E:Env:={ T:=assoc kL,G:=dm [],nt:=27,M:=fO [(94,Z268.aW),(96,Z274.aW)],np:=1,mt:=true }
def step_eq (I:cH)(p:Pt):cR E live I (pid p) (bQ Tryz.f55) (fE (live (pid p)) (cj p) (cg p)) (cG E Tryz.f55 res)=step (fun q=>I (pid q) (cj q) (cg q)) p:=by
 cases p<;>kernel_rfl
def start_eq (I:cH)(ls:List L):eS E live I (bQ Tryz.f55) (gK pats ls) (cG E Tryz.f55 res)=start (fun q=>I (pid q) (cj q) (cg q)) (ls.headD .hole).aS ((aA 1 ls).headD .hole).toInt:=by kernel_rfl
def run_eq (n:Nat)(ls:List L):eN E live Tryz.f55 res n (gK pats ls)=start (iter step n) (ls.headD .hole).aS ((aA 1 ls).headD .hole).toInt:=cB (id:=pid) (vs:=cj) (hs:=cg) (step:=step) (start:=fun J=>start J (ls.headD .hole).aS ((aA 1 ls).headD .hole).toInt) step_eq (fun I=>start_eq I ls) n
def e1 (x:aK)(k:Int):=Z268.md x.aR k
def e2 (x:aK)(k:Int):=Z274.md x.bK ((e1 x k).1)
def el (x:aK)(k:Int):Int×aK:=((e2 x k).1,(⟨(e1 x k).2,(e2 x k).2⟩:aK))
def iz (x:aK)(k:Int)(hk:eJ k):eJ (el x k).1:=(Z274.iq (Z268.iq hk))
def cnt (x:aK):Nat:=0+Z268.sum x.aR+Z274.sum x.bK
def sum (a:List aK):Nat:=(a.map cnt).sum
def md (a0:List aK)(a1:Int):Int×List aK:=jo el a0 a1
def gd (a0:List aK)(a1:Int):Prop:=eJ a1
def acc (ls:List L):aC×Int:=((ls.headD .hole).aS,((aA 1 ls).headD .hole).toInt)
def R:(aC×Int)->Option (Int×aC):=RR (p2 gd) (u2 md)
def aj {a0 a1}(h:gd a0 a1):R ((a0.map aK.row),a1)=some ((md a0 a1).1,((md a0 a1).2.map aK.row)):=aO (a:=(a0,a1)) h
def aW:gB:=MN pats acc R
def bw (a0:List aK)(a1:Int)(hg:gd a0 a1)(h0:a0.length<=maxLen):∃n,start (iter step n) (a0.map aK.row) a1=ret (((md a0 a1).1,((md a0 a1).2.map aK.row)):Int×aC):=by
 unfold gd at hg
 show ∃n,iter step n (Pt.p0 a1 0 (a0.map aK.row))=_
 unfold md
 refine gy (el:=el) (xs:=a0) aK.zero eJ iz (pt:=fun i k c=>Pt.p0 k (i:Int) (c.map aK.row)) (out:=fun b=>ret (b.1,b.2.map aK.row)) (fun J i k c hi hc hk=>?_) (fun J k c hc=>?_) hg
 ·have hm:c.length<=maxLen:=hc ▸ h0
  simp only [step,SS]
  refine ak (aN hi) ?_
  refine ak aJ ?_
  refine ak (aN hi) ?_
  refine bp ((e1 (c.getD i aK.zero) k).1,((e1 (c.getD i aK.zero) k).2.map aa.row)) (Z268.aj (a0:=(c.getD i aK.zero).aR) (a1:=k) hk) ?_
  repeat first | refine ak aJ ?_ | refine ak (aN hi) ?_ | refine ak (gS _) ?_
  refine bp ((e2 (c.getD i aK.zero) k).1,((e2 (c.getD i aK.zero) k).2.map ah.row)) (Z274.aj (a0:=(c.getD i aK.zero).bK) (a1:=(e1 (c.getD i aK.zero) k).1) (Z268.iq hk)) ?_
  rw [aG hi hm]
  exact congrArg (fun q=>J (Pt.p0 (el (c.getD i aK.zero) k).1 ((i+1:Nat):Int) q)) (List.map_set (f:=aK.row) (l:=c) (i:=i) (a:=(el (c.getD i aK.zero) k).2)).symm
 ·simp only [step,SS]
  refine cL (by apply decide_eq_false;omega) ?_
  rfl
def af:eR Tryz.prog Ev 55 aW:=MV (run:=fun n x=>start (iter step n) x.1 x.2) mix aF .nil (.cons Z268.af (.cons Z274.af .nil)) Tryz.func55 (by kernel_rfl) run_eq (fun ls a hl e hg=>bw a.1 a.2 hg (by have h:(ls.headD .hole).aS.length<=maxLen:=(hl _ _ (.head _)).len;have e:a.1.map aK.row=(ls.headD .hole).aS:=(congrArg (fun x=>x.1) e.symm);rw [<-e] at h;simpa using h))
def iq {a0:List aK}{a1:Int}(h:eJ a1):eJ (md a0 a1).1:=jP iz h
def qx (x:aK)(k:Int)(h0:0<=k)(hb:k+(cnt x:Int)<=4611686018427387904):(el x k).1=k+cnt x:=by
 simp only [cnt,Int.natCast_add] at hb ⊢
 simp (disch:=omega) only [el,e1,e2,wi,Z268.kk,Z274.kk]
 all_goals first | done | omega
def kk (a0:List aK)(a1:Int)(h0:0<=a1)(hb:a1+(sum a0:Int)<=4611686018427387904):(md a0 a1).1=a1+sum a0:=gH qx a0 a1 h0 hb
def sz (a:List aK):sum a<=60*(dP (fun y:aK=>aK.size y) a):=jM (fun x=>by
 have:=Z268.sz x.aR
 have:=Z274.sz x.bK
 try simp only [cnt,aK.size] at *
 omega) a
end Z275
namespace Z276
set_option maxHeartbeats 8000000
inductive Pt where
 | p0 (a b:Int) (c:aC)
def pid:Pt->Nat
 | .p0 ..=>2
def cj:Pt->List V
 | .p0 a b c=>[.own 0,.int .i64 a,.int .i64 b]
def cg:Pt->List aV
 | .p0 a b c=>[.row 88 c]
def step (J:Pt->aH):Pt->aH
 | .p0 a b c=>(cond (decide (b<(c.length:Int))) (m2 b (c.length:Int) (call (Z275.R ((cI.at c (toNat b)).bG,a)) fun v1=>(m2 b (c.length:Int) (bZ (fq b) (J (.p0 (i64.wrap (v1.1+1)) (i64.wrap (b+1)) (List.set c (toNat b) (cI.enc (⟨v1.2,v1.1⟩:cI))))))))) (ret ((a,c):Int×aC)))
def start (J:Pt->aH)(x0:aC)(x1:Int):aH:=J (.p0 x1 0 x0)
def live:Nat->Live:=fun i=>match i with | 2=>[(0,none),(1,none),(5,none)] | _=>[]
def pats:List (Bool×List K):=[(false,[.sl 88]),(false,[aB])]
def res:RP:=.nV [88]
abbrev E:Env:={ T:=assoc kL,G:=dm [],nt:=27,M:=fO [(55,Z275.aW)],np:=1,mt:=true }
def step_eq (I:cH)(p:Pt):cR E live I (pid p) (bQ Tryz.f22) (fE (live (pid p)) (cj p) (cg p)) (cG E Tryz.f22 res)=step (fun q=>I (pid q) (cj q) (cg q)) p:=by
 cases p<;>kernel_rfl
def start_eq (I:cH)(ls:List L):eS E live I (bQ Tryz.f22) (gK pats ls) (cG E Tryz.f22 res)=start (fun q=>I (pid q) (cj q) (cg q)) (ls.headD .hole).aS ((aA 1 ls).headD .hole).toInt:=by kernel_rfl
def run_eq (n:Nat)(ls:List L):eN E live Tryz.f22 res n (gK pats ls)=start (iter step n) (ls.headD .hole).aS ((aA 1 ls).headD .hole).toInt:=cB (id:=pid) (vs:=cj) (hs:=cg) (step:=step) (start:=fun J=>start J (ls.headD .hole).aS ((aA 1 ls).headD .hole).toInt) step_eq (fun I=>start_eq I ls) n
def e1 (x:ay)(k:Int):=Z275.md x.bG k
def el (x:ay)(k:Int):Int×ay:=((i64.wrap ((e1 x k).1+1)),(⟨(e1 x k).2,(e1 x k).1⟩:ay))
def iz (x:ay)(k:Int)(hk:eJ k):eJ (el x k).1:=(cw _)
def cnt (x:ay):Nat:=1+Z275.sum x.bG
def sum (a:List ay):Nat:=(a.map cnt).sum
def md (a0:List ay)(a1:Int):Int×List ay:=jo el a0 a1
def gd (a0:List ay)(a1:Int):Prop:=eJ a1
def acc (ls:List L):aC×Int:=((ls.headD .hole).aS,((aA 1 ls).headD .hole).toInt)
def R:(aC×Int)->Option (Int×aC):=RR (p2 gd) (u2 md)
def aj {a0 a1}(h:gd a0 a1):R ((a0.map ay.row),a1)=some ((md a0 a1).1,((md a0 a1).2.map ay.row)):=aO (a:=(a0,a1)) h
def aW:gB:=MN pats acc R
def bw (a0:List ay)(a1:Int)(hg:gd a0 a1)(h0:a0.length<=maxLen):∃n,start (iter step n) (a0.map ay.row) a1=ret (((md a0 a1).1,((md a0 a1).2.map ay.row)):Int×aC):=by
 unfold gd at hg
 show ∃n,iter step n (Pt.p0 a1 0 (a0.map ay.row))=_
 unfold md
 refine gy (el:=el) (xs:=a0) ay.zero eJ iz (pt:=fun i k c=>Pt.p0 k (i:Int) (c.map ay.row)) (out:=fun b=>ret (b.1,b.2.map ay.row)) (fun J i k c hi hc hk=>?_) (fun J k c hc=>?_) hg
 ·have hm:c.length<=maxLen:=hc ▸ h0
  simp only [step,SS]
  refine ak (aN hi) ?_
  refine ak aJ ?_
  refine ak (aN hi) ?_
  refine bp ((e1 (c.getD i ay.zero) k).1,((e1 (c.getD i ay.zero) k).2.map aK.row)) (Z275.aj (a0:=(c.getD i ay.zero).bG) (a1:=k) hk) ?_
  refine ak aJ ?_
  refine ak (aN hi) ?_
  refine ak (gS _) ?_
  rw [aG hi hm]
  exact congrArg (fun q=>J (Pt.p0 (el (c.getD i ay.zero) k).1 ((i+1:Nat):Int) q)) (List.map_set (f:=ay.row) (l:=c) (i:=i) (a:=(el (c.getD i ay.zero) k).2)).symm
 ·simp only [step,SS]
  refine cL (by apply decide_eq_false;omega) ?_
  rfl
def af:eR Tryz.prog Ev 22 aW:=MV (run:=fun n x=>start (iter step n) x.1 x.2) mix aF .nil (.cons Z275.af .nil) Tryz.func22 (by kernel_rfl) run_eq (fun ls a hl e hg=>bw a.1 a.2 hg (by have h:(ls.headD .hole).aS.length<=maxLen:=(hl _ _ (.head _)).len;have e:a.1.map ay.row=(ls.headD .hole).aS:=(congrArg (fun x=>x.1) e.symm);rw [<-e] at h;simpa using h))
def iq {a0:List ay}{a1:Int}(h:eJ a1):eJ (md a0 a1).1:=jP iz h
def qx (x:ay)(k:Int)(h0:0<=k)(hb:k+(cnt x:Int)<=4611686018427387904):(el x k).1=k+cnt x:=by
 simp only [cnt,Int.natCast_add] at hb ⊢
 simp (disch:=omega) only [el,e1,wi,Z275.kk]
 all_goals first | done | omega
def kk (a0:List ay)(a1:Int)(h0:0<=a1)(hb:a1+(sum a0:Int)<=4611686018427387904):(md a0 a1).1=a1+sum a0:=gH qx a0 a1 h0 hb
def sz (a:List ay):sum a<=60*(dP (fun y:ay=>ay.size y) a):=jM (fun x=>by
 have:=Z275.sz x.bG
 try simp only [cnt,ay.size] at *
 omega) a
end Z276
namespace Z277
set_option maxHeartbeats 8000000
def F (x0:aU)(x1:Int):aH:=(call (Z273.R (x0.bH,x1)) fun v1=>ret ((v1.1,v1.2):Int×aC))
def pats:List (Bool×List K):=[(true,[.str,aB,aB,.sl 9]),(false,[aB])]
def res:RP:=.nV [9]
def e1 (x:ah)(k:Int):=Z273.md x.bH k
def sum (x:ah):Nat:=0+Z273.sum x.bH
def md (a0:ah)(a1:Int):Int×List aD:=((e1 a0 a1).1,(e1 a0 a1).2)
def gd (a0:ah)(a1:Int):Prop:=eJ a1
def acc (ls:List L):aU×Int:=((aU.dec ls),((aA 4 ls).headD .hole).toInt)
def R:(aU×Int)->Option (Int×aC):=RR (p2 gd) (u2 md)
def aj {a0 a1}(h:gd a0 a1):R ((ah.r a0),a1)=some ((md a0 a1).1,((md a0 a1).2.map cC)):=aO (a:=(a0,a1)) h
def aW:gB:=MN pats acc R
def bw (a0:ah)(a1:Int)(hg:gd a0 a1):F (ah.r a0) a1=ret (((md a0 a1).1,((md a0 a1).2.map cC)):Int×aC):=by
 unfold gd at hg
 simp only [F,SS]
 unfold md
 refine bp ((e1 a0 a1).1,((e1 a0 a1).2.map cC)) (Z273.aj (a0:=a0.bH) (a1:=a1) hg) ?_
 first | rfl | (simp only [SS];rfl)
def af:eR Tryz.prog Ev 74 aW:=MV (live:=fun _=>[]) (nt:=10) (run:=fun _ x=>F x.1 x.2) mix aF .nil (.cons Z273.af .nil) Tryz.func74 (by kernel_rfl) (fun _ _=>by kernel_rfl) (fun _ a _ _ hg=>⟨0,bw a.1 a.2 hg⟩)
def iq {a0:ah}{a1:Int}(hk:eJ a1):eJ (md a0 a1).1:=(Z273.iq hk)
def kk (x:ah)(k:Int)(h0:0<=k)(hb:k+(sum x:Int)<=4611686018427387904):(md x k).1=k+sum x:=by
 simp only [sum,Int.natCast_add] at hb ⊢
 simp (disch:=omega) only [md,e1,wi,Z273.kk]
 all_goals first | done | omega
def sz (x:ah):sum x<=60*ah.size x:=by
 have:=Z273.sz x.bH
 try simp only [sum,ah.size] at *
 omega
def upd (x:ah)(k:Int):ah:=(⟨x.bf,x.bJ,x.bV,(md x k).2⟩:ah)
end Z277
namespace Z278
set_option maxHeartbeats 8000000
def F (x0:cX)(x1:Int):aH:=(call (Z271.R (x0.bW,x1)) fun v1=>(call (Z277.R (x0.aT,v1.1)) fun v2=>(call (Z266.R (x0.bG,v2.1)) fun v3=>ret ((v3.1,v1.2.1,v1.2.2,v2.2,v3.2):Int×aC×aC×aC×aC))))
def pats:List (Bool×List K):=[(true,[.sl 134,.sl 143,aB,.str,aB,aB,.sl 9,.sl 3,aB]),(false,[aB])]
def res:RP:=.nV [134,143,9,3]
def e1 (x:bE)(k:Int):=Z271.md x.bW k
def e2 (x:bE)(k:Int):=Z277.md x.aT ((e1 x k).1)
def e3 (x:bE)(k:Int):=Z266.md x.bG ((e2 x k).1)
def sum (x:bE):Nat:=0+Z271.sum x.bW+Z277.sum x.aT+Z266.sum x.bG
def md (a0:bE)(a1:Int):Int×List (List aa)×List az×List aD×List Int:=((e3 a0 a1).1,(e1 a0 a1).2.1,(e1 a0 a1).2.2,(e2 a0 a1).2,(e3 a0 a1).2)
def gd (a0:bE)(a1:Int):Prop:=eJ a1
def acc (ls:List L):cX×Int:=((cX.dec ls),((aA 9 ls).headD .hole).toInt)
def R:(cX×Int)->Option (Int×aC×aC×aC×aC):=RR (p2 gd) (u2 md)
def aj {a0 a1}(h:gd a0 a1):R ((bE.r a0),a1)=some ((md a0 a1).1,((md a0 a1).2.1.map (dF aa.row)),((md a0 a1).2.2.1.map az.row),((md a0 a1).2.2.2.1.map cC),((md a0 a1).2.2.2.2.map aZ)):=aO (a:=(a0,a1)) h
def aW:gB:=MN pats acc R
def bw (a0:bE)(a1:Int)(hg:gd a0 a1):F (bE.r a0) a1=ret (((md a0 a1).1,((md a0 a1).2.1.map (dF aa.row)),((md a0 a1).2.2.1.map az.row),((md a0 a1).2.2.2.1.map cC),((md a0 a1).2.2.2.2.map aZ)):Int×aC×aC×aC×aC):=by
 unfold gd at hg
 simp only [F,SS]
 unfold md
 refine bp ((e1 a0 a1).1,((e1 a0 a1).2.1.map (dF aa.row)),((e1 a0 a1).2.2.map az.row)) (Z271.aj (a0:=a0.bW) (a1:=a1) hg) ?_
 refine bp ((e2 a0 a1).1,((e2 a0 a1).2.map cC)) (Z277.aj (a0:=a0.aT) (a1:=(e1 a0 a1).1) (Z271.iq hg)) ?_
 refine bp ((e3 a0 a1).1,((e3 a0 a1).2.map aZ)) (Z266.aj (a0:=a0.bG) (a1:=(e2 a0 a1).1) (Z277.iq (Z271.iq hg))) ?_
 first | rfl | (simp only [SS];rfl)
def af:eR Tryz.prog Ev 31 aW:=MV (live:=fun _=>[]) (nt:=18) (run:=fun _ x=>F x.1 x.2) mix aF .nil (.cons Z271.af (.cons Z277.af (.cons Z266.af .nil))) Tryz.func31 (by kernel_rfl) (fun _ _=>by kernel_rfl) (fun _ a _ _ hg=>⟨0,bw a.1 a.2 hg⟩)
def iq {a0:bE}{a1:Int}(hk:eJ a1):eJ (md a0 a1).1:=(Z266.iq (Z277.iq (Z271.iq hk)))
def kk (x:bE)(k:Int)(h0:0<=k)(hb:k+(sum x:Int)<=4611686018427387904):(md x k).1=k+sum x:=by
 simp only [sum,Int.natCast_add] at hb ⊢
 simp (disch:=omega) only [md,e1,e2,e3,wi,Z271.kk,Z277.kk,Z266.kk]
 all_goals first | done | omega
def sz (x:bE):sum x<=60*bE.size x:=by
 have:=Z271.sz x.bW
 have:=Z277.sz x.aT
 have:=Z266.sz x.bG
 try simp only [sum,bE.size,aq.size,ah.size] at *
 omega
def upd (x:bE)(k:Int):bE:=(⟨(⟨(md x k).2.1,(md x k).2.2.1⟩:aq),x.gn,(⟨x.aT.bf,x.aT.bJ,x.aT.bV,(md x k).2.2.2.1⟩:ah),(md x k).2.2.2.2,x.eX⟩:bE)
end Z278
namespace Z279
set_option maxHeartbeats 8000000
inductive Pt where
 | p0 (a:aC) (b c:Int)
def pid:Pt->Nat
 | .p0 ..=>2
def cj:Pt->List V
 | .p0 a b c=>[.sl none 3 a,.int .i64 b,.int .i64 c]
def cg:Pt->List aV
 | .p0 a b c=>[]
def step (J:Pt->aH):Pt->aH
 | .p0 a b c=>(cond (decide (c<(a.length:Int))) (m2 c (a.length:Int) (cond ((jh a (toNat c)) != b) (ret ((-1):Int)) (J (.p0 a (i64.wrap (b+1)) (i64.wrap (c+1)))))) (ret (b:Int)))
def start (J:Pt->aH)(x0:aC)(x1:Int):aH:=J (.p0 x0 x1 0)
def live:Nat->Live:=fun i=>match i with | 2=>[(0,none),(1,none),(5,none)] | _=>[]
def pats:List gj:=[.rd (.sl 3),.rd (.int .i64)]
def res:RP:=.one (.rd (.int .i64))
abbrev E:Env:={ T:=assoc kL,G:=dm [],nt:=21 }
def step_eq (I:cH)(p:Pt):cR E live I (pid p) (bQ Tryz.f61) (fE (live (pid p)) (cj p) (cg p)) (cG E Tryz.f61 res)=step (fun q=>I (pid q) (cj q) (cg q)) p:=by
 cases p<;>kernel_rfl
def start_eq (I:cH)(ls:List L):eS E live I (bQ Tryz.f61) (cW pats ls) (cG E Tryz.f61 res)=start (fun q=>I (pid q) (cj q) (cg q)) (ls.headD .hole).aS ((aA 1 ls).headD .hole).toInt:=by kernel_rfl
def run_eq (n:Nat)(ls:List L):eN E live Tryz.f61 res n (cW pats ls)=start (iter step n) (ls.headD .hole).aS ((aA 1 ls).headD .hole).toInt:=cB (id:=pid) (vs:=cj) (hs:=cg) (step:=step) (start:=fun J=>start J (ls.headD .hole).aS ((aA 1 ls).headD .hole).toInt) step_eq (fun I=>start_eq I ls) n
def f (x k:Int):Option Int:=(cond (x != k) none (some (i64.wrap (k+1))))
def uH (x k k2:Int)(hk:eJ k)(h:f x k=some k2):eJ k2:=by
 unfold f at h
 have h:=bI h
 injection h with h
 subst h
 exact (cw _)
def md (a0:List Int)(a1:Int):Int:=jt f a0 a1
def gd (a0:List Int)(a1:Int):Prop:=eJ a1
def acc (ls:List L):aC×Int:=((ls.headD .hole).aS,((aA 1 ls).headD .hole).toInt)
def R:(aC×Int)->Option Int:=RR (p2 gd) (u2 md)
def aj {a0 a1}(h:gd a0 a1):R ((a0.map aZ),a1)=some (md a0 a1):=aO (a:=(a0,a1)) h
def aW:fT:=CN pats res acc R
def bw (a0:List Int)(a1:Int)(hg:gd a0 a1)(h0:a0.length<=maxLen):∃n,start (iter step n) (a0.map aZ) a1=ret ((md a0 a1):Int):=by
 unfold gd at hg
 show ∃n,iter step n (Pt.p0 (a0.map aZ) a1 0)=_
 unfold md
 refine iX (f:=f) (xs:=a0) 0 eJ uH (pt:=fun i k=>Pt.p0 (a0.map aZ) k (i:Int)) (fun J i k hi hk=>?_) (fun J k=>?_) hg
 ·simp only [step,SS]
  refine ak (aN hi) ?_
  refine ak aJ ?_
  refine ak (aN hi) ?_
  refine bL rfl ?_
  rw [aG hi h0]
  rfl
 ·simp only [step,SS]
  refine cL (by apply decide_eq_false;omega) ?_
  rfl
def af:cy 61 aW:=VV (run:=fun n x=>start (iter step n) x.1 x.2) mix aF .nil Tryz.func61 (by kernel_rfl) run_eq (fun ls a hl e hg=>bw a.1 a.2 hg (by have h:(ls.headD .hole).aS.length<=maxLen:=hl.1.len;have e:a.1.map aZ=(ls.headD .hole).aS:=(congrArg (fun x=>x.1) e.symm);rw [<-e] at h;simpa using h))
def iq {a0:List Int}{a1:Int}(h:eJ a1):eJ (md a0 a1):=kE uH jw h
def xV (x k:Int)(h0:0<=k)(hb:k+(Z266.cnt x:Int)<=4611686018427387904):f (Z266.el x k).2 k=some (k+Z266.cnt x):=by
 simp only [Z266.cnt,Int.natCast_add] at hb ⊢
 simp (disch:=omega) only [Z266.el,f,wi,bne_self_eq_false,beq_self_eq_true,gm,Bool.not_true,bq,dh]
 all_goals first | done | omega | (congr 1<;>omega)
def mk (a0:List Int)(a1:Int)(h0:0<=a1)(hb:a1+(Z266.sum a0:Int)<=4611686018427387904):md (Z266.md a0 a1).2 a1=a1+Z266.sum a0:=hU Z266.qx xV a0 a1 h0 hb
end Z279
namespace Z280
set_option maxHeartbeats 8000000
inductive Pt where
 | p0 (a:aC) (b c:Int)
def pid:Pt->Nat
 | .p0 ..=>2
def cj:Pt->List V
 | .p0 a b c=>[.sl none 190 a,.int .i64 b,.int .i64 c]
def cg:Pt->List aV
 | .p0 a b c=>[]
def step (J:Pt->aH):Pt->aH
 | .p0 a b c=>(cond (decide (c<(a.length:Int))) (m2 c (a.length:Int) (cond ((bk.at a (toNat c)).gI != b) (ret ((-1):Int)) (m2 c (a.length:Int) (cond ((bk.at a (toNat c)).jc != (i64.wrap (b+1))) (ret ((-1):Int)) (J (.p0 a (i64.wrap ((i64.wrap (b+1))+1)) (i64.wrap (c+1)))))))) (ret (b:Int)))
def start (J:Pt->aH)(x0:aC)(x1:Int):aH:=J (.p0 x0 x1 0)
def live:Nat->Live:=fun i=>match i with | 2=>[(0,none),(1,none),(5,none)] | _=>[]
def pats:List gj:=[.rd (.sl 190),.rd (.int .i64)]
def res:RP:=.one (.rd (.int .i64))
abbrev E:Env:={ T:=assoc kL,G:=dm [],nt:=31 }
def step_eq (I:cH)(p:Pt):cR E live I (pid p) (bQ Tryz.f98) (fE (live (pid p)) (cj p) (cg p)) (cG E Tryz.f98 res)=step (fun q=>I (pid q) (cj q) (cg q)) p:=by
 cases p<;>kernel_rfl
def start_eq (I:cH)(ls:List L):eS E live I (bQ Tryz.f98) (cW pats ls) (cG E Tryz.f98 res)=start (fun q=>I (pid q) (cj q) (cg q)) (ls.headD .hole).aS ((aA 1 ls).headD .hole).toInt:=by kernel_rfl
def run_eq (n:Nat)(ls:List L):eN E live Tryz.f98 res n (cW pats ls)=start (iter step n) (ls.headD .hole).aS ((aA 1 ls).headD .hole).toInt:=cB (id:=pid) (vs:=cj) (hs:=cg) (step:=step) (start:=fun J=>start J (ls.headD .hole).aS ((aA 1 ls).headD .hole).toInt) step_eq (fun I=>start_eq I ls) n
def f (x:bk)(k:Int):Option Int:=(cond (x.gI != k) none (cond (x.jc != (i64.wrap (k+1))) none (some (i64.wrap ((i64.wrap (k+1))+1)))))
def uH (x:bk)(k k2:Int)(hk:eJ k)(h:f x k=some k2):eJ k2:=by
 unfold f at h
 have h:=bI h
 have h:=bI h
 injection h with h
 subst h
 exact (cw _)
def md (a0:List bk)(a1:Int):Int:=jt f a0 a1
def gd (a0:List bk)(a1:Int):Prop:=eJ a1
def acc (ls:List L):aC×Int:=((ls.headD .hole).aS,((aA 1 ls).headD .hole).toInt)
def R:(aC×Int)->Option Int:=RR (p2 gd) (u2 md)
def aj {a0 a1}(h:gd a0 a1):R ((a0.map bk.row),a1)=some (md a0 a1):=aO (a:=(a0,a1)) h
def aW:fT:=CN pats res acc R
def bw (a0:List bk)(a1:Int)(hg:gd a0 a1)(h0:a0.length<=maxLen):∃n,start (iter step n) (a0.map bk.row) a1=ret ((md a0 a1):Int):=by
 unfold gd at hg
 show ∃n,iter step n (Pt.p0 (a0.map bk.row) a1 0)=_
 unfold md
 refine iX (f:=f) (xs:=a0) bk.zero eJ uH (pt:=fun i k=>Pt.p0 (a0.map bk.row) k (i:Int)) (fun J i k hi hk=>?_) (fun J k=>?_) hg
 ·simp only [step,SS]
  refine ak (aN hi) ?_
  refine ak aJ ?_
  refine ak (aN hi) ?_
  refine bL rfl ?_
  refine ak aJ ?_
  refine ak (aN hi) ?_
  refine bL rfl ?_
  rw [aG hi h0]
  rfl
 ·simp only [step,SS]
  refine cL (by apply decide_eq_false;omega) ?_
  rfl
def af:cy 98 aW:=VV (run:=fun n x=>start (iter step n) x.1 x.2) mix aF .nil Tryz.func98 (by kernel_rfl) run_eq (fun ls a hl e hg=>bw a.1 a.2 hg (by have h:(ls.headD .hole).aS.length<=maxLen:=hl.1.len;have e:a.1.map bk.row=(ls.headD .hole).aS:=(congrArg (fun x=>x.1) e.symm);rw [<-e] at h;simpa using h))
def iq {a0:List bk}{a1:Int}(h:eJ a1):eJ (md a0 a1):=kE uH jw h
def xV (x:bk)(k:Int)(h0:0<=k)(hb:k+(Z267.cnt x:Int)<=4611686018427387904):f (Z267.el x k).2 k=some (k+Z267.cnt x):=by
 simp only [Z267.cnt,Int.natCast_add] at hb ⊢
 simp (disch:=omega) only [Z267.el,f,wi,bne_self_eq_false,beq_self_eq_true,gm,Bool.not_true,bq,dh]
 all_goals first | done | omega | (congr 1<;>omega)
def mk (a0:List bk)(a1:Int)(h0:0<=a1)(hb:a1+(Z267.sum a0:Int)<=4611686018427387904):md (Z267.md a0 a1).2 a1=a1+Z267.sum a0:=hU Z267.qx xV a0 a1 h0 hb
end Z280
namespace Z281
set_option maxHeartbeats 8000000
inductive Pt where
 | p0 (a:aC) (b c:Int)
def pid:Pt->Nat
 | .p0 ..=>2
def cj:Pt->List V
 | .p0 a b c=>[.sl none 141 a,.int .i64 b,.int .i64 c]
def cg:Pt->List aV
 | .p0 a b c=>[]
def step (J:Pt->aH):Pt->aH
 | .p0 a b c=>(cond (decide (c<(a.length:Int))) (m2 c (a.length:Int) (cond ((aP.at a (toNat c)).an.bD != b) (ret ((-1):Int)) (m2 c (a.length:Int) (cond ((aP.at a (toNat c)).an.cD != (i64.wrap (b+1))) (ret ((-1):Int)) (m2 c (a.length:Int) (cond ((aP.at a (toNat c)).an.bJ != (i64.wrap ((i64.wrap (b+1))+1))) (ret ((-1):Int)) (m2 c (a.length:Int) (cond ((aP.at a (toNat c)).an.cA != (i64.wrap ((i64.wrap ((i64.wrap (b+1))+1))+1))) (ret ((-1):Int)) (m2 c (a.length:Int) (cond ((aP.at a (toNat c)).an.cu != (i64.wrap ((i64.wrap ((i64.wrap ((i64.wrap (b+1))+1))+1))+1))) (ret ((-1):Int)) (m2 c (a.length:Int) (cond ((aP.at a (toNat c)).an.ck != (i64.wrap ((i64.wrap ((i64.wrap ((i64.wrap ((i64.wrap (b+1))+1))+1))+1))+1))) (ret ((-1):Int)) (m2 c (a.length:Int) (cond ((aP.at a (toNat c)).an.cQ != (i64.wrap ((i64.wrap ((i64.wrap ((i64.wrap ((i64.wrap ((i64.wrap (b+1))+1))+1))+1))+1))+1))) (ret ((-1):Int)) (m2 c (a.length:Int) (cond ((aP.at a (toNat c)).an.dw != (i64.wrap ((i64.wrap ((i64.wrap ((i64.wrap ((i64.wrap ((i64.wrap ((i64.wrap (b+1))+1))+1))+1))+1))+1))+1))) (ret ((-1):Int)) (m2 c (a.length:Int) (call (Z279.R ((aP.at a (toNat c)).an.bO.aX,(i64.wrap ((i64.wrap ((i64.wrap ((i64.wrap ((i64.wrap ((i64.wrap ((i64.wrap ((i64.wrap (b+1))+1))+1))+1))+1))+1))+1))+1)))) fun v1=>(cond (decide (v1<0)) (ret ((-1):Int)) (m2 c (a.length:Int) (cond ((aP.at a (toNat c)).an.bO.cz != v1) (ret ((-1):Int)) (m2 c (a.length:Int) (call (Z279.R ((aP.at a (toNat c)).an.bA.aX,(i64.wrap (v1+1)))) fun v2=>(cond (decide (v2<0)) (ret ((-1):Int)) (m2 c (a.length:Int) (cond ((aP.at a (toNat c)).an.bA.cz != v2) (ret ((-1):Int)) (m2 c (a.length:Int) (cond ((aP.at a (toNat c)).an.cT != (i64.wrap (v2+1))) (ret ((-1):Int)) (m2 c (a.length:Int) (call (Z279.R ((aP.at a (toNat c)).an.bt.aX,(i64.wrap ((i64.wrap (v2+1))+1)))) fun v3=>(cond (decide (v3<0)) (ret ((-1):Int)) (m2 c (a.length:Int) (cond ((aP.at a (toNat c)).an.bt.cz != v3) (ret ((-1):Int)) (m2 c (a.length:Int) (cond (!((aP.at a (toNat c)).an.bC==((Int.tmod (i64.wrap (v3+1)) 3)==0))) (ret ((-1):Int)) (m2 c (a.length:Int) (call (Z280.R ((aP.at a (toNat c)).bY,(i64.wrap ((i64.wrap (v3+1))+1)))) fun v4=>(cond (decide (v4<0)) (ret ((-1):Int)) (J (.p0 a v4 (i64.wrap (c+1)))))))))))))))))))))))))))))))))))))))))) (ret (b:Int)))
def start (J:Pt->aH)(x0:aC)(x1:Int):aH:=J (.p0 x0 x1 0)
def live:Nat->Live:=fun i=>match i with | 2=>[(0,none),(1,none),(5,none)] | _=>[]
def pats:List gj:=[.rd (.sl 141),.rd (.int .i64)]
def res:RP:=.one (.rd (.int .i64))
abbrev E:Env:={ T:=assoc kL,G:=dm [(61,Z279.aW),(98,Z280.aW)],nt:=190 }
def step_eq (I:cH)(p:Pt):cR E live I (pid p) (bQ Tryz.f97) (fE (live (pid p)) (cj p) (cg p)) (cG E Tryz.f97 res)=step (fun q=>I (pid q) (cj q) (cg q)) p:=by
 cases p<;>kernel_rfl
def start_eq (I:cH)(ls:List L):eS E live I (bQ Tryz.f97) (cW pats ls) (cG E Tryz.f97 res)=start (fun q=>I (pid q) (cj q) (cg q)) (ls.headD .hole).aS ((aA 1 ls).headD .hole).toInt:=by kernel_rfl
def run_eq (n:Nat)(ls:List L):eN E live Tryz.f97 res n (cW pats ls)=start (iter step n) (ls.headD .hole).aS ((aA 1 ls).headD .hole).toInt:=cB (id:=pid) (vs:=cj) (hs:=cg) (step:=step) (start:=fun J=>start J (ls.headD .hole).aS ((aA 1 ls).headD .hole).toInt) step_eq (fun I=>start_eq I ls) n
def e1 (x:aa)(k:Int):=Z279.md (((x.an).bO).aX) (i64.wrap ((i64.wrap ((i64.wrap ((i64.wrap ((i64.wrap ((i64.wrap ((i64.wrap ((i64.wrap (k+1))+1))+1))+1))+1))+1))+1))+1))
def e2 (x:aa)(k:Int):=Z279.md (((x.an).bA).aX) (i64.wrap ((e1 x k)+1))
def e3 (x:aa)(k:Int):=Z279.md (((x.an).bt).aX) (i64.wrap ((i64.wrap ((e2 x k)+1))+1))
def e4 (x:aa)(k:Int):=Z280.md x.bY (i64.wrap ((i64.wrap ((e3 x k)+1))+1))
def f (x:aa)(k:Int):Option Int:=(cond ((x.an).bD != k) none (cond ((x.an).cD != (i64.wrap (k+1))) none (cond ((x.an).bJ != (i64.wrap ((i64.wrap (k+1))+1))) none (cond ((x.an).cA != (i64.wrap ((i64.wrap ((i64.wrap (k+1))+1))+1))) none (cond ((x.an).cu != (i64.wrap ((i64.wrap ((i64.wrap ((i64.wrap (k+1))+1))+1))+1))) none (cond ((x.an).ck != (i64.wrap ((i64.wrap ((i64.wrap ((i64.wrap ((i64.wrap (k+1))+1))+1))+1))+1))) none (cond ((x.an).cQ != (i64.wrap ((i64.wrap ((i64.wrap ((i64.wrap ((i64.wrap ((i64.wrap (k+1))+1))+1))+1))+1))+1))) none (cond ((x.an).dw != (i64.wrap ((i64.wrap ((i64.wrap ((i64.wrap ((i64.wrap ((i64.wrap ((i64.wrap (k+1))+1))+1))+1))+1))+1))+1))) none (cond (decide ((e1 x k)<0)) none (cond (((x.an).bO).cz != (e1 x k)) none (cond (decide ((e2 x k)<0)) none (cond (((x.an).bA).cz != (e2 x k)) none (cond ((x.an).cT != (i64.wrap ((e2 x k)+1))) none (cond (decide ((e3 x k)<0)) none (cond (((x.an).bt).cz != (e3 x k)) none (cond (!((x.an).bC==((Int.tmod (i64.wrap ((e3 x k)+1)) 3)==0))) none (cond (decide ((e4 x k)<0)) none (some (e4 x k)))))))))))))))))))
def uH (x:aa)(k k2:Int)(hk:eJ k)(h:f x k=some k2):eJ k2:=by
 unfold f at h
 have h:=bI h
 have h:=bI h
 have h:=bI h
 have h:=bI h
 have h:=bI h
 have h:=bI h
 have h:=bI h
 have h:=bI h
 have h:=bI h
 have h:=bI h
 have h:=bI h
 have h:=bI h
 have h:=bI h
 have h:=bI h
 have h:=bI h
 have h:=bI h
 have h:=bI h
 injection h with h
 subst h
 exact (Z280.iq (cw _))
def md (a0:List aa)(a1:Int):Int:=jt f a0 a1
def gd (a0:List aa)(a1:Int):Prop:=eJ a1
def acc (ls:List L):aC×Int:=((ls.headD .hole).aS,((aA 1 ls).headD .hole).toInt)
def R:(aC×Int)->Option Int:=RR (p2 gd) (u2 md)
def aj {a0 a1}(h:gd a0 a1):R ((a0.map aa.row),a1)=some (md a0 a1):=aO (a:=(a0,a1)) h
def aW:fT:=CN pats res acc R
def bw (a0:List aa)(a1:Int)(hg:gd a0 a1)(h0:a0.length<=maxLen):∃n,start (iter step n) (a0.map aa.row) a1=ret ((md a0 a1):Int):=by
 unfold gd at hg
 show ∃n,iter step n (Pt.p0 (a0.map aa.row) a1 0)=_
 unfold md
 refine iX (f:=f) (xs:=a0) aa.zero eJ uH (pt:=fun i k=>Pt.p0 (a0.map aa.row) k (i:Int)) (fun J i k hi hk=>?_) (fun J k=>?_) hg
 ·simp only [step,SS]
  refine ak (aN hi) ?_
  refine ak aJ ?_
  refine ak (aN hi) ?_
  refine bL rfl ?_
  refine ak aJ ?_
  refine ak (aN hi) ?_
  refine bL rfl ?_
  refine ak aJ ?_
  refine ak (aN hi) ?_
  refine bL rfl ?_
  refine ak aJ ?_
  refine ak (aN hi) ?_
  refine bL rfl ?_
  refine ak aJ ?_
  refine ak (aN hi) ?_
  refine bL rfl ?_
  refine ak aJ ?_
  refine ak (aN hi) ?_
  refine bL rfl ?_
  refine ak aJ ?_
  refine ak (aN hi) ?_
  refine bL rfl ?_
  refine ak aJ ?_
  refine ak (aN hi) ?_
  refine bL rfl ?_
  refine ak aJ ?_
  refine ak (aN hi) ?_
  refine bp (e1 (a0.getD i aa.zero) k) (Z279.aj (a0:=(((a0.getD i aa.zero).an).bO).aX) (a1:=i64.wrap ((i64.wrap ((i64.wrap ((i64.wrap ((i64.wrap ((i64.wrap ((i64.wrap ((i64.wrap (k+1))+1))+1))+1))+1))+1))+1))+1)) (cw _)) ?_
  refine bL rfl ?_
  refine ak aJ ?_
  refine ak (aN hi) ?_
  refine bL rfl ?_
  refine ak aJ ?_
  refine ak (aN hi) ?_
  refine bp (e2 (a0.getD i aa.zero) k) (Z279.aj (a0:=(((a0.getD i aa.zero).an).bA).aX) (a1:=i64.wrap ((e1 (a0.getD i aa.zero) k)+1)) (cw _)) ?_
  refine bL rfl ?_
  refine ak aJ ?_
  refine ak (aN hi) ?_
  refine bL rfl ?_
  refine ak aJ ?_
  refine ak (aN hi) ?_
  refine bL rfl ?_
  refine ak aJ ?_
  refine ak (aN hi) ?_
  refine bp (e3 (a0.getD i aa.zero) k) (Z279.aj (a0:=(((a0.getD i aa.zero).an).bt).aX) (a1:=i64.wrap ((i64.wrap ((e2 (a0.getD i aa.zero) k)+1))+1)) (cw _)) ?_
  refine bL rfl ?_
  refine ak aJ ?_
  refine ak (aN hi) ?_
  refine bL rfl ?_
  refine ak aJ ?_
  refine ak (aN hi) ?_
  refine bL rfl ?_
  refine ak aJ ?_
  refine ak (aN hi) ?_
  refine bp (e4 (a0.getD i aa.zero) k) (Z280.aj (a0:=(a0.getD i aa.zero).bY) (a1:=i64.wrap ((i64.wrap ((e3 (a0.getD i aa.zero) k)+1))+1)) (cw _)) ?_
  refine bL rfl ?_
  rw [aG hi h0]
  rfl
 ·simp only [step,SS]
  refine cL (by apply decide_eq_false;omega) ?_
  rfl
def af:cy 97 aW:=VV (run:=fun n x=>start (iter step n) x.1 x.2) mix aF (.cons Z279.af (.cons Z280.af .nil)) Tryz.func97 (by kernel_rfl) run_eq (fun ls a hl e hg=>bw a.1 a.2 hg (by have h:(ls.headD .hole).aS.length<=maxLen:=hl.1.len;have e:a.1.map aa.row=(ls.headD .hole).aS:=(congrArg (fun x=>x.1) e.symm);rw [<-e] at h;simpa using h))
def iq {a0:List aa}{a1:Int}(h:eJ a1):eJ (md a0 a1):=kE uH jw h
def xV (x:aa)(k:Int)(h0:0<=k)(hb:k+(Z268.cnt x:Int)<=4611686018427387904):f (Z268.el x k).2 k=some (k+Z268.cnt x):=by
 simp only [Z268.cnt,Int.natCast_add] at hb ⊢
 simp (disch:=omega) only [Z268.el,f,Z268.e1,Z268.e2,Z268.e3,Z268.e4,e1,e2,e3,e4,wi,Z266.kk,Z279.mk,Z267.kk,Z280.mk,bne_self_eq_false,beq_self_eq_true,gm,Bool.not_true,bq,dh]
 all_goals first | done | omega | (congr 1<;>omega)
def mk (a0:List aa)(a1:Int)(h0:0<=a1)(hb:a1+(Z268.sum a0:Int)<=4611686018427387904):md (Z268.md a0 a1).2 a1=a1+Z268.sum a0:=hU Z268.qx xV a0 a1 h0 hb
end Z281
namespace Z282
set_option maxHeartbeats 8000000
inductive Pt where
 | p0 (a:aC) (b c:Int)
def pid:Pt->Nat
 | .p0 ..=>2
def cj:Pt->List V
 | .p0 a b c=>[.sl none 134 a,.int .i64 b,.int .i64 c]
def cg:Pt->List aV
 | .p0 a b c=>[]
def step (J:Pt->aH):Pt->aH
 | .p0 a b c=>(cond (decide (c<(a.length:Int))) (m2 c (a.length:Int) (call (Z281.R ((oy a (toNat c)),b)) fun v1=>(cond (decide (v1<0)) (ret ((-1):Int)) (J (.p0 a v1 (i64.wrap (c+1))))))) (ret (b:Int)))
def start (J:Pt->aH)(x0:aC)(x1:Int):aH:=J (.p0 x0 x1 0)
def live:Nat->Live:=fun i=>match i with | 2=>[(0,none),(1,none),(5,none)] | _=>[]
def pats:List gj:=[.rd (.sl 134),.rd (.int .i64)]
def res:RP:=.one (.rd (.int .i64))
abbrev E:Env:={ T:=assoc kL,G:=dm [(97,Z281.aW)],nt:=21 }
def step_eq (I:cH)(p:Pt):cR E live I (pid p) (bQ Tryz.f58) (fE (live (pid p)) (cj p) (cg p)) (cG E Tryz.f58 res)=step (fun q=>I (pid q) (cj q) (cg q)) p:=by
 cases p<;>kernel_rfl
def start_eq (I:cH)(ls:List L):eS E live I (bQ Tryz.f58) (cW pats ls) (cG E Tryz.f58 res)=start (fun q=>I (pid q) (cj q) (cg q)) (ls.headD .hole).aS ((aA 1 ls).headD .hole).toInt:=by kernel_rfl
def run_eq (n:Nat)(ls:List L):eN E live Tryz.f58 res n (cW pats ls)=start (iter step n) (ls.headD .hole).aS ((aA 1 ls).headD .hole).toInt:=cB (id:=pid) (vs:=cj) (hs:=cg) (step:=step) (start:=fun J=>start J (ls.headD .hole).aS ((aA 1 ls).headD .hole).toInt) step_eq (fun I=>start_eq I ls) n
def e1 (x:List aa)(k:Int):=Z281.md x k
def f (x:List aa)(k:Int):Option Int:=(cond (decide ((e1 x k)<0)) none (some (e1 x k)))
def uH (x:List aa)(k k2:Int)(hk:eJ k)(h:f x k=some k2):eJ k2:=by
 unfold f at h
 have h:=bI h
 injection h with h
 subst h
 exact (Z281.iq hk)
def md (a0:List (List aa))(a1:Int):Int:=jt f a0 a1
def gd (a0:List (List aa))(a1:Int):Prop:=eJ a1
def acc (ls:List L):aC×Int:=((ls.headD .hole).aS,((aA 1 ls).headD .hole).toInt)
def R:(aC×Int)->Option Int:=RR (p2 gd) (u2 md)
def aj {a0 a1}(h:gd a0 a1):R ((a0.map (dF aa.row)),a1)=some (md a0 a1):=aO (a:=(a0,a1)) h
def aW:fT:=CN pats res acc R
def bw (a0:List (List aa))(a1:Int)(hg:gd a0 a1)(h0:a0.length<=maxLen):∃n,start (iter step n) (a0.map (dF aa.row)) a1=ret ((md a0 a1):Int):=by
 unfold gd at hg
 show ∃n,iter step n (Pt.p0 (a0.map (dF aa.row)) a1 0)=_
 unfold md
 refine iX (f:=f) (xs:=a0) [] eJ uH (pt:=fun i k=>Pt.p0 (a0.map (dF aa.row)) k (i:Int)) (fun J i k hi hk=>?_) (fun J k=>?_) hg
 ·simp only [step,SS]
  refine ak (aN hi) ?_
  refine ak aJ ?_
  refine ak (aN hi) ?_
  refine bp (e1 (a0.getD i []) k) (Z281.aj (a0:=a0.getD i []) (a1:=k) hk) ?_
  refine bL rfl ?_
  rw [aG hi h0]
  rfl
 ·simp only [step,SS]
  refine cL (by apply decide_eq_false;omega) ?_
  rfl
def af:cy 58 aW:=VV (run:=fun n x=>start (iter step n) x.1 x.2) mix aF (.cons Z281.af .nil) Tryz.func58 (by kernel_rfl) run_eq (fun ls a hl e hg=>bw a.1 a.2 hg (by have h:(ls.headD .hole).aS.length<=maxLen:=hl.1.len;have e:a.1.map (dF aa.row)=(ls.headD .hole).aS:=(congrArg (fun x=>x.1) e.symm);rw [<-e] at h;simpa using h))
def iq {a0:List (List aa)}{a1:Int}(h:eJ a1):eJ (md a0 a1):=kE uH jw h
def xV (x:List aa)(k:Int)(h0:0<=k)(hb:k+(Z269.cnt x:Int)<=4611686018427387904):f (Z269.el x k).2 k=some (k+Z269.cnt x):=by
 simp only [Z269.cnt,Int.natCast_add] at hb ⊢
 simp (disch:=omega) only [Z269.el,f,Z269.e1,e1,wi,Z268.kk,Z281.mk,bne_self_eq_false,beq_self_eq_true,gm,Bool.not_true,bq,dh]
 all_goals first | done | omega | (congr 1<;>omega)
def mk (a0:List (List aa))(a1:Int)(h0:0<=a1)(hb:a1+(Z269.sum a0:Int)<=4611686018427387904):md (Z269.md a0 a1).2 a1=a1+Z269.sum a0:=hU Z269.qx xV a0 a1 h0 hb
end Z282
namespace Z283
set_option maxHeartbeats 8000000
inductive Pt where
 | p0 (a:aC) (b c:Int)
def pid:Pt->Nat
 | .p0 ..=>2
def cj:Pt->List V
 | .p0 a b c=>[.sl none 143 a,.int .i64 b,.int .i64 c]
def cg:Pt->List aV
 | .p0 a b c=>[]
def step (J:Pt->aH):Pt->aH
 | .p0 a b c=>(cond (decide (c<(a.length:Int))) (m2 c (a.length:Int) (cond ((bF.at a (toNat c)).aQ.an.bD != b) (ret ((-1):Int)) (m2 c (a.length:Int) (cond ((bF.at a (toNat c)).aQ.an.cD != (i64.wrap (b+1))) (ret ((-1):Int)) (m2 c (a.length:Int) (cond ((bF.at a (toNat c)).aQ.an.bJ != (i64.wrap ((i64.wrap (b+1))+1))) (ret ((-1):Int)) (m2 c (a.length:Int) (cond ((bF.at a (toNat c)).aQ.an.cA != (i64.wrap ((i64.wrap ((i64.wrap (b+1))+1))+1))) (ret ((-1):Int)) (m2 c (a.length:Int) (cond ((bF.at a (toNat c)).aQ.an.cu != (i64.wrap ((i64.wrap ((i64.wrap ((i64.wrap (b+1))+1))+1))+1))) (ret ((-1):Int)) (m2 c (a.length:Int) (cond ((bF.at a (toNat c)).aQ.an.ck != (i64.wrap ((i64.wrap ((i64.wrap ((i64.wrap ((i64.wrap (b+1))+1))+1))+1))+1))) (ret ((-1):Int)) (m2 c (a.length:Int) (cond ((bF.at a (toNat c)).aQ.an.cQ != (i64.wrap ((i64.wrap ((i64.wrap ((i64.wrap ((i64.wrap ((i64.wrap (b+1))+1))+1))+1))+1))+1))) (ret ((-1):Int)) (m2 c (a.length:Int) (cond ((bF.at a (toNat c)).aQ.an.dw != (i64.wrap ((i64.wrap ((i64.wrap ((i64.wrap ((i64.wrap ((i64.wrap ((i64.wrap (b+1))+1))+1))+1))+1))+1))+1))) (ret ((-1):Int)) (m2 c (a.length:Int) (call (Z279.R ((bF.at a (toNat c)).aQ.an.bO.aX,(i64.wrap ((i64.wrap ((i64.wrap ((i64.wrap ((i64.wrap ((i64.wrap ((i64.wrap ((i64.wrap (b+1))+1))+1))+1))+1))+1))+1))+1)))) fun v1=>(cond (decide (v1<0)) (ret ((-1):Int)) (m2 c (a.length:Int) (cond ((bF.at a (toNat c)).aQ.an.bO.cz != v1) (ret ((-1):Int)) (m2 c (a.length:Int) (call (Z279.R ((bF.at a (toNat c)).aQ.an.bA.aX,(i64.wrap (v1+1)))) fun v2=>(cond (decide (v2<0)) (ret ((-1):Int)) (m2 c (a.length:Int) (cond ((bF.at a (toNat c)).aQ.an.bA.cz != v2) (ret ((-1):Int)) (m2 c (a.length:Int) (cond ((bF.at a (toNat c)).aQ.an.cT != (i64.wrap (v2+1))) (ret ((-1):Int)) (m2 c (a.length:Int) (call (Z279.R ((bF.at a (toNat c)).aQ.an.bt.aX,(i64.wrap ((i64.wrap (v2+1))+1)))) fun v3=>(cond (decide (v3<0)) (ret ((-1):Int)) (m2 c (a.length:Int) (cond ((bF.at a (toNat c)).aQ.an.bt.cz != v3) (ret ((-1):Int)) (m2 c (a.length:Int) (cond (!((bF.at a (toNat c)).aQ.an.bC==((Int.tmod (i64.wrap (v3+1)) 3)==0))) (ret ((-1):Int)) (m2 c (a.length:Int) (call (Z280.R ((bF.at a (toNat c)).aQ.bY,(i64.wrap ((i64.wrap (v3+1))+1)))) fun v4=>(cond (decide (v4<0)) (ret ((-1):Int)) (m2 c (a.length:Int) (cond ((bF.at a (toNat c)).fA.an.bD != v4) (ret ((-1):Int)) (m2 c (a.length:Int) (cond ((bF.at a (toNat c)).fA.an.cD != (i64.wrap (v4+1))) (ret ((-1):Int)) (m2 c (a.length:Int) (cond ((bF.at a (toNat c)).fA.an.bJ != (i64.wrap ((i64.wrap (v4+1))+1))) (ret ((-1):Int)) (m2 c (a.length:Int) (cond ((bF.at a (toNat c)).fA.an.cA != (i64.wrap ((i64.wrap ((i64.wrap (v4+1))+1))+1))) (ret ((-1):Int)) (m2 c (a.length:Int) (cond ((bF.at a (toNat c)).fA.an.cu != (i64.wrap ((i64.wrap ((i64.wrap ((i64.wrap (v4+1))+1))+1))+1))) (ret ((-1):Int)) (m2 c (a.length:Int) (cond ((bF.at a (toNat c)).fA.an.ck != (i64.wrap ((i64.wrap ((i64.wrap ((i64.wrap ((i64.wrap (v4+1))+1))+1))+1))+1))) (ret ((-1):Int)) (m2 c (a.length:Int) (cond ((bF.at a (toNat c)).fA.an.cQ != (i64.wrap ((i64.wrap ((i64.wrap ((i64.wrap ((i64.wrap ((i64.wrap (v4+1))+1))+1))+1))+1))+1))) (ret ((-1):Int)) (m2 c (a.length:Int) (cond ((bF.at a (toNat c)).fA.an.dw != (i64.wrap ((i64.wrap ((i64.wrap ((i64.wrap ((i64.wrap ((i64.wrap ((i64.wrap (v4+1))+1))+1))+1))+1))+1))+1))) (ret ((-1):Int)) (m2 c (a.length:Int) (call (Z279.R ((bF.at a (toNat c)).fA.an.bO.aX,(i64.wrap ((i64.wrap ((i64.wrap ((i64.wrap ((i64.wrap ((i64.wrap ((i64.wrap ((i64.wrap (v4+1))+1))+1))+1))+1))+1))+1))+1)))) fun v5=>(cond (decide (v5<0)) (ret ((-1):Int)) (m2 c (a.length:Int) (cond ((bF.at a (toNat c)).fA.an.bO.cz != v5) (ret ((-1):Int)) (m2 c (a.length:Int) (call (Z279.R ((bF.at a (toNat c)).fA.an.bA.aX,(i64.wrap (v5+1)))) fun v6=>(cond (decide (v6<0)) (ret ((-1):Int)) (m2 c (a.length:Int) (cond ((bF.at a (toNat c)).fA.an.bA.cz != v6) (ret ((-1):Int)) (m2 c (a.length:Int) (cond ((bF.at a (toNat c)).fA.an.cT != (i64.wrap (v6+1))) (ret ((-1):Int)) (m2 c (a.length:Int) (call (Z279.R ((bF.at a (toNat c)).fA.an.bt.aX,(i64.wrap ((i64.wrap (v6+1))+1)))) fun v7=>(cond (decide (v7<0)) (ret ((-1):Int)) (m2 c (a.length:Int) (cond ((bF.at a (toNat c)).fA.an.bt.cz != v7) (ret ((-1):Int)) (m2 c (a.length:Int) (cond (!((bF.at a (toNat c)).fA.an.bC==((Int.tmod (i64.wrap (v7+1)) 3)==0))) (ret ((-1):Int)) (m2 c (a.length:Int) (call (Z280.R ((bF.at a (toNat c)).fA.bY,(i64.wrap ((i64.wrap (v7+1))+1)))) fun v8=>(cond (decide (v8<0)) (ret ((-1):Int)) (m2 c (a.length:Int) (cond ((bF.at a (toNat c)).fB.an.bD != v8) (ret ((-1):Int)) (m2 c (a.length:Int) (cond ((bF.at a (toNat c)).fB.an.cD != (i64.wrap (v8+1))) (ret ((-1):Int)) (m2 c (a.length:Int) (cond ((bF.at a (toNat c)).fB.an.bJ != (i64.wrap ((i64.wrap (v8+1))+1))) (ret ((-1):Int)) (m2 c (a.length:Int) (cond ((bF.at a (toNat c)).fB.an.cA != (i64.wrap ((i64.wrap ((i64.wrap (v8+1))+1))+1))) (ret ((-1):Int)) (m2 c (a.length:Int) (cond ((bF.at a (toNat c)).fB.an.cu != (i64.wrap ((i64.wrap ((i64.wrap ((i64.wrap (v8+1))+1))+1))+1))) (ret ((-1):Int)) (m2 c (a.length:Int) (cond ((bF.at a (toNat c)).fB.an.ck != (i64.wrap ((i64.wrap ((i64.wrap ((i64.wrap ((i64.wrap (v8+1))+1))+1))+1))+1))) (ret ((-1):Int)) (m2 c (a.length:Int) (cond ((bF.at a (toNat c)).fB.an.cQ != (i64.wrap ((i64.wrap ((i64.wrap ((i64.wrap ((i64.wrap ((i64.wrap (v8+1))+1))+1))+1))+1))+1))) (ret ((-1):Int)) (m2 c (a.length:Int) (cond ((bF.at a (toNat c)).fB.an.dw != (i64.wrap ((i64.wrap ((i64.wrap ((i64.wrap ((i64.wrap ((i64.wrap ((i64.wrap (v8+1))+1))+1))+1))+1))+1))+1))) (ret ((-1):Int)) (m2 c (a.length:Int) (call (Z279.R ((bF.at a (toNat c)).fB.an.bO.aX,(i64.wrap ((i64.wrap ((i64.wrap ((i64.wrap ((i64.wrap ((i64.wrap ((i64.wrap ((i64.wrap (v8+1))+1))+1))+1))+1))+1))+1))+1)))) fun v9=>(cond (decide (v9<0)) (ret ((-1):Int)) (m2 c (a.length:Int) (cond ((bF.at a (toNat c)).fB.an.bO.cz != v9) (ret ((-1):Int)) (m2 c (a.length:Int) (call (Z279.R ((bF.at a (toNat c)).fB.an.bA.aX,(i64.wrap (v9+1)))) fun v10=>(cond (decide (v10<0)) (ret ((-1):Int)) (m2 c (a.length:Int) (cond ((bF.at a (toNat c)).fB.an.bA.cz != v10) (ret ((-1):Int)) (m2 c (a.length:Int) (cond ((bF.at a (toNat c)).fB.an.cT != (i64.wrap (v10+1))) (ret ((-1):Int)) (m2 c (a.length:Int) (call (Z279.R ((bF.at a (toNat c)).fB.an.bt.aX,(i64.wrap ((i64.wrap (v10+1))+1)))) fun v11=>(cond (decide (v11<0)) (ret ((-1):Int)) (m2 c (a.length:Int) (cond ((bF.at a (toNat c)).fB.an.bt.cz != v11) (ret ((-1):Int)) (m2 c (a.length:Int) (cond (!((bF.at a (toNat c)).fB.an.bC==((Int.tmod (i64.wrap (v11+1)) 3)==0))) (ret ((-1):Int)) (m2 c (a.length:Int) (call (Z280.R ((bF.at a (toNat c)).fB.bY,(i64.wrap ((i64.wrap (v11+1))+1)))) fun v12=>(cond (decide (v12<0)) (ret ((-1):Int)) (J (.p0 a v12 (i64.wrap (c+1)))))))))))))))))))))))))))))))))))))))))))))))))))))))))))))))))))))))))))))))))))))))))))))))))))))))))))))))))))))) (ret (b:Int)))
def start (J:Pt->aH)(x0:aC)(x1:Int):aH:=J (.p0 x0 x1 0)
def live:Nat->Live:=fun i=>match i with | 2=>[(0,none),(1,none),(5,none)] | _=>[]
def pats:List gj:=[.rd (.sl 143),.rd (.int .i64)]
def res:RP:=.one (.rd (.int .i64))
abbrev E:Env:={ T:=assoc kL,G:=dm [(61,Z279.aW),(98,Z280.aW)],nt:=595 }
def step_eq (I:cH)(p:Pt):cR E live I (pid p) (bQ Tryz.f59) (fE (live (pid p)) (cj p) (cg p)) (cG E Tryz.f59 res)=step (fun q=>I (pid q) (cj q) (cg q)) p:=by
 cases p<;>kernel_rfl
def start_eq (I:cH)(ls:List L):eS E live I (bQ Tryz.f59) (cW pats ls) (cG E Tryz.f59 res)=start (fun q=>I (pid q) (cj q) (cg q)) (ls.headD .hole).aS ((aA 1 ls).headD .hole).toInt:=by kernel_rfl
def run_eq (n:Nat)(ls:List L):eN E live Tryz.f59 res n (cW pats ls)=start (iter step n) (ls.headD .hole).aS ((aA 1 ls).headD .hole).toInt:=cB (id:=pid) (vs:=cj) (hs:=cg) (step:=step) (start:=fun J=>start J (ls.headD .hole).aS ((aA 1 ls).headD .hole).toInt) step_eq (fun I=>start_eq I ls) n
def e1 (x:az)(k:Int):=Z279.md ((((x.aQ).an).bO).aX) (i64.wrap ((i64.wrap ((i64.wrap ((i64.wrap ((i64.wrap ((i64.wrap ((i64.wrap ((i64.wrap (k+1))+1))+1))+1))+1))+1))+1))+1))
def e2 (x:az)(k:Int):=Z279.md ((((x.aQ).an).bA).aX) (i64.wrap ((e1 x k)+1))
def e3 (x:az)(k:Int):=Z279.md ((((x.aQ).an).bt).aX) (i64.wrap ((i64.wrap ((e2 x k)+1))+1))
def e4 (x:az)(k:Int):=Z280.md ((x.aQ).bY) (i64.wrap ((i64.wrap ((e3 x k)+1))+1))
def e5 (x:az)(k:Int):=Z279.md ((((x.fA).an).bO).aX) (i64.wrap ((i64.wrap ((i64.wrap ((i64.wrap ((i64.wrap ((i64.wrap ((i64.wrap ((i64.wrap ((e4 x k)+1))+1))+1))+1))+1))+1))+1))+1))
def e6 (x:az)(k:Int):=Z279.md ((((x.fA).an).bA).aX) (i64.wrap ((e5 x k)+1))
def e7 (x:az)(k:Int):=Z279.md ((((x.fA).an).bt).aX) (i64.wrap ((i64.wrap ((e6 x k)+1))+1))
def e8 (x:az)(k:Int):=Z280.md ((x.fA).bY) (i64.wrap ((i64.wrap ((e7 x k)+1))+1))
def e9 (x:az)(k:Int):=Z279.md ((((x.fB).an).bO).aX) (i64.wrap ((i64.wrap ((i64.wrap ((i64.wrap ((i64.wrap ((i64.wrap ((i64.wrap ((i64.wrap ((e8 x k)+1))+1))+1))+1))+1))+1))+1))+1))
def tT (x:az)(k:Int):=Z279.md ((((x.fB).an).bA).aX) (i64.wrap ((e9 x k)+1))
def tZ (x:az)(k:Int):=Z279.md ((((x.fB).an).bt).aX) (i64.wrap ((i64.wrap ((tT x k)+1))+1))
def xA (x:az)(k:Int):=Z280.md ((x.fB).bY) (i64.wrap ((i64.wrap ((tZ x k)+1))+1))
def f (x:az)(k:Int):Option Int:=(cond (((x.aQ).an).bD != k) none (cond (((x.aQ).an).cD != (i64.wrap (k+1))) none (cond (((x.aQ).an).bJ != (i64.wrap ((i64.wrap (k+1))+1))) none (cond (((x.aQ).an).cA != (i64.wrap ((i64.wrap ((i64.wrap (k+1))+1))+1))) none (cond (((x.aQ).an).cu != (i64.wrap ((i64.wrap ((i64.wrap ((i64.wrap (k+1))+1))+1))+1))) none (cond (((x.aQ).an).ck != (i64.wrap ((i64.wrap ((i64.wrap ((i64.wrap ((i64.wrap (k+1))+1))+1))+1))+1))) none (cond (((x.aQ).an).cQ != (i64.wrap ((i64.wrap ((i64.wrap ((i64.wrap ((i64.wrap ((i64.wrap (k+1))+1))+1))+1))+1))+1))) none (cond (((x.aQ).an).dw != (i64.wrap ((i64.wrap ((i64.wrap ((i64.wrap ((i64.wrap ((i64.wrap ((i64.wrap (k+1))+1))+1))+1))+1))+1))+1))) none (cond (decide ((e1 x k)<0)) none (cond ((((x.aQ).an).bO).cz != (e1 x k)) none (cond (decide ((e2 x k)<0)) none (cond ((((x.aQ).an).bA).cz != (e2 x k)) none (cond (((x.aQ).an).cT != (i64.wrap ((e2 x k)+1))) none (cond (decide ((e3 x k)<0)) none (cond ((((x.aQ).an).bt).cz != (e3 x k)) none (cond (!(((x.aQ).an).bC==((Int.tmod (i64.wrap ((e3 x k)+1)) 3)==0))) none (cond (decide ((e4 x k)<0)) none (cond (((x.fA).an).bD != (e4 x k)) none (cond (((x.fA).an).cD != (i64.wrap ((e4 x k)+1))) none (cond (((x.fA).an).bJ != (i64.wrap ((i64.wrap ((e4 x k)+1))+1))) none (cond (((x.fA).an).cA != (i64.wrap ((i64.wrap ((i64.wrap ((e4 x k)+1))+1))+1))) none (cond (((x.fA).an).cu != (i64.wrap ((i64.wrap ((i64.wrap ((i64.wrap ((e4 x k)+1))+1))+1))+1))) none (cond (((x.fA).an).ck != (i64.wrap ((i64.wrap ((i64.wrap ((i64.wrap ((i64.wrap ((e4 x k)+1))+1))+1))+1))+1))) none (cond (((x.fA).an).cQ != (i64.wrap ((i64.wrap ((i64.wrap ((i64.wrap ((i64.wrap ((i64.wrap ((e4 x k)+1))+1))+1))+1))+1))+1))) none (cond (((x.fA).an).dw != (i64.wrap ((i64.wrap ((i64.wrap ((i64.wrap ((i64.wrap ((i64.wrap ((i64.wrap ((e4 x k)+1))+1))+1))+1))+1))+1))+1))) none (cond (decide ((e5 x k)<0)) none (cond ((((x.fA).an).bO).cz != (e5 x k)) none (cond (decide ((e6 x k)<0)) none (cond ((((x.fA).an).bA).cz != (e6 x k)) none (cond (((x.fA).an).cT != (i64.wrap ((e6 x k)+1))) none (cond (decide ((e7 x k)<0)) none (cond ((((x.fA).an).bt).cz != (e7 x k)) none (cond (!(((x.fA).an).bC==((Int.tmod (i64.wrap ((e7 x k)+1)) 3)==0))) none (cond (decide ((e8 x k)<0)) none (cond (((x.fB).an).bD != (e8 x k)) none (cond (((x.fB).an).cD != (i64.wrap ((e8 x k)+1))) none (cond (((x.fB).an).bJ != (i64.wrap ((i64.wrap ((e8 x k)+1))+1))) none (cond (((x.fB).an).cA != (i64.wrap ((i64.wrap ((i64.wrap ((e8 x k)+1))+1))+1))) none (cond (((x.fB).an).cu != (i64.wrap ((i64.wrap ((i64.wrap ((i64.wrap ((e8 x k)+1))+1))+1))+1))) none (cond (((x.fB).an).ck != (i64.wrap ((i64.wrap ((i64.wrap ((i64.wrap ((i64.wrap ((e8 x k)+1))+1))+1))+1))+1))) none (cond (((x.fB).an).cQ != (i64.wrap ((i64.wrap ((i64.wrap ((i64.wrap ((i64.wrap ((i64.wrap ((e8 x k)+1))+1))+1))+1))+1))+1))) none (cond (((x.fB).an).dw != (i64.wrap ((i64.wrap ((i64.wrap ((i64.wrap ((i64.wrap ((i64.wrap ((i64.wrap ((e8 x k)+1))+1))+1))+1))+1))+1))+1))) none (cond (decide ((e9 x k)<0)) none (cond ((((x.fB).an).bO).cz != (e9 x k)) none (cond (decide ((tT x k)<0)) none (cond ((((x.fB).an).bA).cz != (tT x k)) none (cond (((x.fB).an).cT != (i64.wrap ((tT x k)+1))) none (cond (decide ((tZ x k)<0)) none (cond ((((x.fB).an).bt).cz != (tZ x k)) none (cond (!(((x.fB).an).bC==((Int.tmod (i64.wrap ((tZ x k)+1)) 3)==0))) none (cond (decide ((xA x k)<0)) none (some (xA x k)))))))))))))))))))))))))))))))))))))))))))))))))))))
def uH (x:az)(k k2:Int)(hk:eJ k)(h:f x k=some k2):eJ k2:=by
 unfold f at h
 have h:=bI h
 have h:=bI h
 have h:=bI h
 have h:=bI h
 have h:=bI h
 have h:=bI h
 have h:=bI h
 have h:=bI h
 have h:=bI h
 have h:=bI h
 have h:=bI h
 have h:=bI h
 have h:=bI h
 have h:=bI h
 have h:=bI h
 have h:=bI h
 have h:=bI h
 have h:=bI h
 have h:=bI h
 have h:=bI h
 have h:=bI h
 have h:=bI h
 have h:=bI h
 have h:=bI h
 have h:=bI h
 have h:=bI h
 have h:=bI h
 have h:=bI h
 have h:=bI h
 have h:=bI h
 have h:=bI h
 have h:=bI h
 have h:=bI h
 have h:=bI h
 have h:=bI h
 have h:=bI h
 have h:=bI h
 have h:=bI h
 have h:=bI h
 have h:=bI h
 have h:=bI h
 have h:=bI h
 have h:=bI h
 have h:=bI h
 have h:=bI h
 have h:=bI h
 have h:=bI h
 have h:=bI h
 have h:=bI h
 have h:=bI h
 have h:=bI h
 injection h with h
 subst h
 exact (Z280.iq (cw _))
def md (a0:List az)(a1:Int):Int:=jt f a0 a1
def gd (a0:List az)(a1:Int):Prop:=eJ a1
def acc (ls:List L):aC×Int:=((ls.headD .hole).aS,((aA 1 ls).headD .hole).toInt)
def R:(aC×Int)->Option Int:=RR (p2 gd) (u2 md)
def aj {a0 a1}(h:gd a0 a1):R ((a0.map az.row),a1)=some (md a0 a1):=aO (a:=(a0,a1)) h
def aW:fT:=CN pats res acc R
def bw (a0:List az)(a1:Int)(hg:gd a0 a1)(h0:a0.length<=maxLen):∃n,start (iter step n) (a0.map az.row) a1=ret ((md a0 a1):Int):=by
 unfold gd at hg
 show ∃n,iter step n (Pt.p0 (a0.map az.row) a1 0)=_
 unfold md
 refine iX (f:=f) (xs:=a0) az.zero eJ uH (pt:=fun i k=>Pt.p0 (a0.map az.row) k (i:Int)) (fun J i k hi hk=>?_) (fun J k=>?_) hg
 ·simp only [step,SS]
  refine ak (aN hi) ?_
  refine ak aJ ?_
  refine ak (aN hi) ?_
  refine bL rfl ?_
  refine ak aJ ?_
  refine ak (aN hi) ?_
  refine bL rfl ?_
  refine ak aJ ?_
  refine ak (aN hi) ?_
  refine bL rfl ?_
  refine ak aJ ?_
  refine ak (aN hi) ?_
  refine bL rfl ?_
  refine ak aJ ?_
  refine ak (aN hi) ?_
  refine bL rfl ?_
  refine ak aJ ?_
  refine ak (aN hi) ?_
  refine bL rfl ?_
  refine ak aJ ?_
  refine ak (aN hi) ?_
  refine bL rfl ?_
  refine ak aJ ?_
  refine ak (aN hi) ?_
  refine bL rfl ?_
  refine ak aJ ?_
  refine ak (aN hi) ?_
  refine bp (e1 (a0.getD i az.zero) k) (Z279.aj (a0:=((((a0.getD i az.zero).aQ).an).bO).aX) (a1:=i64.wrap ((i64.wrap ((i64.wrap ((i64.wrap ((i64.wrap ((i64.wrap ((i64.wrap ((i64.wrap (k+1))+1))+1))+1))+1))+1))+1))+1)) (cw _)) ?_
  refine bL rfl ?_
  refine ak aJ ?_
  refine ak (aN hi) ?_
  refine bL rfl ?_
  refine ak aJ ?_
  refine ak (aN hi) ?_
  refine bp (e2 (a0.getD i az.zero) k) (Z279.aj (a0:=((((a0.getD i az.zero).aQ).an).bA).aX) (a1:=i64.wrap ((e1 (a0.getD i az.zero) k)+1)) (cw _)) ?_
  refine bL rfl ?_
  refine ak aJ ?_
  refine ak (aN hi) ?_
  refine bL rfl ?_
  refine ak aJ ?_
  refine ak (aN hi) ?_
  refine bL rfl ?_
  refine ak aJ ?_
  refine ak (aN hi) ?_
  refine bp (e3 (a0.getD i az.zero) k) (Z279.aj (a0:=((((a0.getD i az.zero).aQ).an).bt).aX) (a1:=i64.wrap ((i64.wrap ((e2 (a0.getD i az.zero) k)+1))+1)) (cw _)) ?_
  refine bL rfl ?_
  refine ak aJ ?_
  refine ak (aN hi) ?_
  refine bL rfl ?_
  refine ak aJ ?_
  refine ak (aN hi) ?_
  refine bL rfl ?_
  refine ak aJ ?_
  refine ak (aN hi) ?_
  refine bp (e4 (a0.getD i az.zero) k) (Z280.aj (a0:=((a0.getD i az.zero).aQ).bY) (a1:=i64.wrap ((i64.wrap ((e3 (a0.getD i az.zero) k)+1))+1)) (cw _)) ?_
  refine bL rfl ?_
  refine ak aJ ?_
  refine ak (aN hi) ?_
  refine bL rfl ?_
  refine ak aJ ?_
  refine ak (aN hi) ?_
  refine bL rfl ?_
  refine ak aJ ?_
  refine ak (aN hi) ?_
  refine bL rfl ?_
  refine ak aJ ?_
  refine ak (aN hi) ?_
  refine bL rfl ?_
  refine ak aJ ?_
  refine ak (aN hi) ?_
  refine bL rfl ?_
  refine ak aJ ?_
  refine ak (aN hi) ?_
  refine bL rfl ?_
  refine ak aJ ?_
  refine ak (aN hi) ?_
  refine bL rfl ?_
  refine ak aJ ?_
  refine ak (aN hi) ?_
  refine bL rfl ?_
  refine ak aJ ?_
  refine ak (aN hi) ?_
  refine bp (e5 (a0.getD i az.zero) k) (Z279.aj (a0:=((((a0.getD i az.zero).fA).an).bO).aX) (a1:=i64.wrap ((i64.wrap ((i64.wrap ((i64.wrap ((i64.wrap ((i64.wrap ((i64.wrap ((i64.wrap ((e4 (a0.getD i az.zero) k)+1))+1))+1))+1))+1))+1))+1))+1)) (cw _)) ?_
  refine bL rfl ?_
  refine ak aJ ?_
  refine ak (aN hi) ?_
  refine bL rfl ?_
  refine ak aJ ?_
  refine ak (aN hi) ?_
  refine bp (e6 (a0.getD i az.zero) k) (Z279.aj (a0:=((((a0.getD i az.zero).fA).an).bA).aX) (a1:=i64.wrap ((e5 (a0.getD i az.zero) k)+1)) (cw _)) ?_
  refine bL rfl ?_
  refine ak aJ ?_
  refine ak (aN hi) ?_
  refine bL rfl ?_
  refine ak aJ ?_
  refine ak (aN hi) ?_
  refine bL rfl ?_
  refine ak aJ ?_
  refine ak (aN hi) ?_
  refine bp (e7 (a0.getD i az.zero) k) (Z279.aj (a0:=((((a0.getD i az.zero).fA).an).bt).aX) (a1:=i64.wrap ((i64.wrap ((e6 (a0.getD i az.zero) k)+1))+1)) (cw _)) ?_
  refine bL rfl ?_
  refine ak aJ ?_
  refine ak (aN hi) ?_
  refine bL rfl ?_
  refine ak aJ ?_
  refine ak (aN hi) ?_
  refine bL rfl ?_
  refine ak aJ ?_
  refine ak (aN hi) ?_
  refine bp (e8 (a0.getD i az.zero) k) (Z280.aj (a0:=((a0.getD i az.zero).fA).bY) (a1:=i64.wrap ((i64.wrap ((e7 (a0.getD i az.zero) k)+1))+1)) (cw _)) ?_
  refine bL rfl ?_
  refine ak aJ ?_
  refine ak (aN hi) ?_
  refine bL rfl ?_
  refine ak aJ ?_
  refine ak (aN hi) ?_
  refine bL rfl ?_
  refine ak aJ ?_
  refine ak (aN hi) ?_
  refine bL rfl ?_
  refine ak aJ ?_
  refine ak (aN hi) ?_
  refine bL rfl ?_
  refine ak aJ ?_
  refine ak (aN hi) ?_
  refine bL rfl ?_
  refine ak aJ ?_
  refine ak (aN hi) ?_
  refine bL rfl ?_
  refine ak aJ ?_
  refine ak (aN hi) ?_
  refine bL rfl ?_
  refine ak aJ ?_
  refine ak (aN hi) ?_
  refine bL rfl ?_
  refine ak aJ ?_
  refine ak (aN hi) ?_
  refine bp (e9 (a0.getD i az.zero) k) (Z279.aj (a0:=((((a0.getD i az.zero).fB).an).bO).aX) (a1:=i64.wrap ((i64.wrap ((i64.wrap ((i64.wrap ((i64.wrap ((i64.wrap ((i64.wrap ((i64.wrap ((e8 (a0.getD i az.zero) k)+1))+1))+1))+1))+1))+1))+1))+1)) (cw _)) ?_
  refine bL rfl ?_
  refine ak aJ ?_
  refine ak (aN hi) ?_
  refine bL rfl ?_
  refine ak aJ ?_
  refine ak (aN hi) ?_
  refine bp (tT (a0.getD i az.zero) k) (Z279.aj (a0:=((((a0.getD i az.zero).fB).an).bA).aX) (a1:=i64.wrap ((e9 (a0.getD i az.zero) k)+1)) (cw _)) ?_
  refine bL rfl ?_
  refine ak aJ ?_
  refine ak (aN hi) ?_
  refine bL rfl ?_
  refine ak aJ ?_
  refine ak (aN hi) ?_
  refine bL rfl ?_
  refine ak aJ ?_
  refine ak (aN hi) ?_
  refine bp (tZ (a0.getD i az.zero) k) (Z279.aj (a0:=((((a0.getD i az.zero).fB).an).bt).aX) (a1:=i64.wrap ((i64.wrap ((tT (a0.getD i az.zero) k)+1))+1)) (cw _)) ?_
  refine bL rfl ?_
  refine ak aJ ?_
  refine ak (aN hi) ?_
  refine bL rfl ?_
  refine ak aJ ?_
  refine ak (aN hi) ?_
  refine bL rfl ?_
  refine ak aJ ?_
  refine ak (aN hi) ?_
  refine bp (xA (a0.getD i az.zero) k) (Z280.aj (a0:=((a0.getD i az.zero).fB).bY) (a1:=i64.wrap ((i64.wrap ((tZ (a0.getD i az.zero) k)+1))+1)) (cw _)) ?_
  refine bL rfl ?_
  rw [aG hi h0]
  rfl
 ·simp only [step,SS]
  refine cL (by apply decide_eq_false;omega) ?_
  rfl
def af:cy 59 aW:=VV (run:=fun n x=>start (iter step n) x.1 x.2) mix aF (.cons Z279.af (.cons Z280.af .nil)) Tryz.func59 (by kernel_rfl) run_eq (fun ls a hl e hg=>bw a.1 a.2 hg (by have h:(ls.headD .hole).aS.length<=maxLen:=hl.1.len;have e:a.1.map az.row=(ls.headD .hole).aS:=(congrArg (fun x=>x.1) e.symm);rw [<-e] at h;simpa using h))
def iq {a0:List az}{a1:Int}(h:eJ a1):eJ (md a0 a1):=kE uH jw h
def xV (x:az)(k:Int)(h0:0<=k)(hb:k+(Z270.cnt x:Int)<=4611686018427387904):f (Z270.el x k).2 k=some (k+Z270.cnt x):=by
 simp only [Z270.cnt,Int.natCast_add] at hb ⊢
 simp (disch:=omega) only [Z270.el,f,Z270.e1,Z270.e2,Z270.e3,Z270.e4,Z270.e5,Z270.e6,Z270.e7,Z270.e8,Z270.e9,Z270.tT,Z270.tZ,Z270.xA,e1,e2,e3,e4,e5,e6,e7,e8,e9,tT,tZ,xA,wi,Z266.kk,Z279.mk,Z267.kk,Z280.mk,bne_self_eq_false,beq_self_eq_true,gm,Bool.not_true,bq,dh]
 all_goals first | done | omega | (congr 1<;>omega)
def mk (a0:List az)(a1:Int)(h0:0<=a1)(hb:a1+(Z270.sum a0:Int)<=4611686018427387904):md (Z270.md a0 a1).2 a1=a1+Z270.sum a0:=hU Z270.qx xV a0 a1 h0 hb
end Z283
namespace Z284
set_option maxHeartbeats 8000000
def F (x0:bu)(x1:Int):aH:=(call (Z282.R (x0.aI,x1)) fun v1=>(cond (decide (v1<0)) (ret ((-1):Int)) (call (Z283.R (x0.bn,v1)) fun v2=>(cond (decide (v2<0)) (ret ((-1):Int)) (ret (v2:Int))))))
def e1 (x:aq)(k:Int):=Z282.md x.aI k
def e2 (x:aq)(k:Int):=Z283.md x.bn (e1 x k)
def f (x:aq)(k:Int):Option Int:=(cond (decide ((e1 x k)<0)) none (cond (decide ((e2 x k)<0)) none (some ((e2 x k):Int))))
def md (a0:aq)(a1:Int):Int:=oW (f a0 a1)
def gd (a0:aq)(a1:Int):Prop:=eJ a1
def R:=RR (p2 gd) (u2 md)
def aj {a0 a1}(h:gd a0 a1):R ((aq.r a0),a1)=some (md a0 a1):=aO (a:=(a0,a1)) h
def aW:=CN [.agg tE,pI] oI RT.dec R
def bw (a0)(a1)(hg:gd a0 a1):F (aq.r a0) a1=ret (md a0 a1):=by
 unfold gd at hg
 simp only [F,SS]
 unfold md
 refine bp (e1 a0 a1) (Z282.aj (a0:=a0.aI) (a1:=a1) hg) ?_
 refine gx rfl ?_
 refine bp (e2 a0 a1) (Z283.aj (a0:=a0.bn) (a1:=e1 a0 a1) (Z282.iq hg)) ?_
 refine gx rfl ?_
 first | rfl | (simp only [SS];rfl)
def af:cy 27 aW:=W2 18 F mix aF bw (.cons Z282.af (.cons Z283.af .nil)) Tryz.func27
def iq {a0:aq}{a1:Int}(hk:eJ a1):eJ (md a0 a1):=by
 unfold md
 cases h:f a0 a1 with
 | none=>exact jw
 | some k2=>
  unfold f at h
  have h:=bI h
  have h:=bI h
  injection h with h
  subst h
  exact (Z283.iq (Z282.iq hk))
def mk (x:aq)(k:Int)(h0:0<=k)(hb:k+(Z271.sum x:Int)<=4611686018427387904):md (Z271.upd x k) k=k+Z271.sum x:=by
 simp only [Z271.sum,Int.natCast_add] at hb ⊢
 simp (disch:=omega) only [Z271.md,Z271.upd,md,f,oW,Z271.e1,Z271.e2,e1,e2,wi,Z269.kk,Z282.mk,Z270.kk,Z283.mk,bq,dh]
 all_goals first | done | omega
end Z284
namespace Z285
set_option maxHeartbeats 8000000
inductive Pt where
 | p0 (a:aC) (b c:Int)
def pid:Pt->Nat
 | .p0 ..=>2
def cj:Pt->List V
 | .p0 a b c=>[.sl none 9 a,.int .i64 b,.int .i64 c]
def cg:Pt->List aV
 | .p0 a b c=>[]
def step (J:Pt->aH):Pt->aH
 | .p0 a b c=>(cond (decide (c<(a.length:Int))) (m2 c (a.length:Int) (call (Z272.R b) fun v1=>(cond (!((pR a (toNat c))==v1)) (ret ((-1):Int)) (J (.p0 a (i64.wrap (b+1)) (i64.wrap (c+1))))))) (ret (b:Int)))
def start (J:Pt->aH)(x0:aC)(x1:Int):aH:=J (.p0 x0 x1 0)
def live:Nat->Live:=fun i=>match i with | 2=>[(0,none),(1,none),(5,none)] | _=>[]
def pats:List gj:=[.rd (.sl 9),.rd (.int .i64)]
def res:RP:=.one (.rd (.int .i64))
abbrev E:Env:={ T:=assoc kL,G:=dm [(56,Z272.aW)],nt:=22 }
def step_eq (I:cH)(p:Pt):cR E live I (pid p) (bQ Tryz.f60) (fE (live (pid p)) (cj p) (cg p)) (cG E Tryz.f60 res)=step (fun q=>I (pid q) (cj q) (cg q)) p:=by
 cases p<;>kernel_rfl
def start_eq (I:cH)(ls:List L):eS E live I (bQ Tryz.f60) (cW pats ls) (cG E Tryz.f60 res)=start (fun q=>I (pid q) (cj q) (cg q)) (ls.headD .hole).aS ((aA 1 ls).headD .hole).toInt:=by kernel_rfl
def run_eq (n:Nat)(ls:List L):eN E live Tryz.f60 res n (cW pats ls)=start (iter step n) (ls.headD .hole).aS ((aA 1 ls).headD .hole).toInt:=cB (id:=pid) (vs:=cj) (hs:=cg) (step:=step) (start:=fun J=>start J (ls.headD .hole).aS ((aA 1 ls).headD .hole).toInt) step_eq (fun I=>start_eq I ls) n
def f (x:aD)(k:Int):Option Int:=(cond (!(x==(Z272.md k))) none (some (i64.wrap (k+1))))
def uH (x:aD)(k k2:Int)(hk:eJ k)(h:f x k=some k2):eJ k2:=by
 unfold f at h
 have h:=bI h
 injection h with h
 subst h
 exact (cw _)
def md (a0:List aD)(a1:Int):Int:=jt f a0 a1
def gd (a0:List aD)(a1:Int):Prop:=eJ a1
def acc (ls:List L):aC×Int:=((ls.headD .hole).aS,((aA 1 ls).headD .hole).toInt)
def R:(aC×Int)->Option Int:=RR (p2 gd) (u2 md)
def aj {a0 a1}(h:gd a0 a1):R ((a0.map cC),a1)=some (md a0 a1):=aO (a:=(a0,a1)) h
def aW:fT:=CN pats res acc R
def bw (a0:List aD)(a1:Int)(hg:gd a0 a1)(h0:a0.length<=maxLen):∃n,start (iter step n) (a0.map cC) a1=ret ((md a0 a1):Int):=by
 unfold gd at hg
 show ∃n,iter step n (Pt.p0 (a0.map cC) a1 0)=_
 unfold md
 refine iX (f:=f) (xs:=a0) ⟨#[]⟩ eJ uH (pt:=fun i k=>Pt.p0 (a0.map cC) k (i:Int)) (fun J i k hi hk=>?_) (fun J k=>?_) hg
 ·simp only [step,SS]
  refine ak (aN hi) ?_
  refine ak aJ ?_
  refine ak (aN hi) ?_
  refine bp (Z272.md k) (Z272.aj (a0:=k) hk) ?_
  refine bL rfl ?_
  rw [aG hi h0]
  rfl
 ·simp only [step,SS]
  refine cL (by apply decide_eq_false;omega) ?_
  rfl
def af:cy 60 aW:=VV (run:=fun n x=>start (iter step n) x.1 x.2) mix aF (.cons Z272.af .nil) Tryz.func60 (by kernel_rfl) run_eq (fun ls a hl e hg=>bw a.1 a.2 hg (by have h:(ls.headD .hole).aS.length<=maxLen:=hl.1.len;have e:a.1.map cC=(ls.headD .hole).aS:=(congrArg (fun x=>x.1) e.symm);rw [<-e] at h;simpa using h))
def iq {a0:List aD}{a1:Int}(h:eJ a1):eJ (md a0 a1):=kE uH jw h
def xV (x:aD)(k:Int)(h0:0<=k)(hb:k+(Z273.cnt x:Int)<=4611686018427387904):f (Z273.el x k).2 k=some (k+Z273.cnt x):=by
 simp only [Z273.cnt,Int.natCast_add] at hb ⊢
 simp (disch:=omega) only [Z273.el,f,wi,bne_self_eq_false,beq_self_eq_true,gm,Bool.not_true,bq,dh]
 all_goals first | done | omega | (congr 1<;>omega)
def mk (a0:List aD)(a1:Int)(h0:0<=a1)(hb:a1+(Z273.sum a0:Int)<=4611686018427387904):md (Z273.md a0 a1).2 a1=a1+Z273.sum a0:=hU Z273.qx xV a0 a1 h0 hb
end Z285
namespace Z286
set_option maxHeartbeats 8000000
def F (x0:aU)(x1:Int):aH:=(call (Z285.R (x0.bH,x1)) fun v1=>(cond (decide (v1<0)) (ret ((-1):Int)) (ret (v1:Int))))
def e1 (x:ah)(k:Int):=Z285.md x.bH k
def f (x:ah)(k:Int):Option Int:=(cond (decide ((e1 x k)<0)) none (some ((e1 x k):Int)))
def md (a0:ah)(a1:Int):Int:=oW (f a0 a1)
def gd (a0:ah)(a1:Int):Prop:=eJ a1
def R:=RR (p2 gd) (u2 md)
def aj {a0 a1}(h:gd a0 a1):R ((ah.r a0),a1)=some (md a0 a1):=aO (a:=(a0,a1)) h
def aW:=CN [.agg qV,pI] oI RT.dec R
def bw (a0)(a1)(hg:gd a0 a1):F (ah.r a0) a1=ret (md a0 a1):=by
 unfold gd at hg
 simp only [F,SS]
 unfold md
 refine bp (e1 a0 a1) (Z285.aj (a0:=a0.bH) (a1:=a1) hg) ?_
 refine gx rfl ?_
 first | rfl | (simp only [SS];rfl)
def af:cy 75 aW:=W2 12 F mix aF bw (.cons Z285.af .nil) Tryz.func75
def iq {a0:ah}{a1:Int}(hk:eJ a1):eJ (md a0 a1):=by
 unfold md
 cases h:f a0 a1 with
 | none=>exact jw
 | some k2=>
  unfold f at h
  have h:=bI h
  injection h with h
  subst h
  exact (Z285.iq hk)
def mk (x:ah)(k:Int)(h0:0<=k)(hb:k+(Z277.sum x:Int)<=4611686018427387904):md (Z277.upd x k) k=k+Z277.sum x:=by
 simp only [Z277.sum,Int.natCast_add] at hb ⊢
 simp (disch:=omega) only [Z277.md,Z277.upd,md,f,oW,Z277.e1,e1,wi,Z273.kk,Z285.mk,bq,dh]
 all_goals first | done | omega
end Z286
namespace Z287
set_option maxHeartbeats 8000000
def F (x0:cX)(x1:Int):aH:=(call (Z284.R (x0.bW,x1)) fun v1=>(cond (decide (v1<0)) (ret ((-1):Int)) (call (Z286.R (x0.aT,v1)) fun v2=>(cond (decide (v2<0)) (ret ((-1):Int)) (call (Z279.R (x0.bG,v2)) fun v3=>(cond (decide (v3<0)) (ret ((-1):Int)) (ret (v3:Int))))))))
def e1 (x:bE)(k:Int):=Z284.md x.bW k
def e2 (x:bE)(k:Int):=Z286.md x.aT (e1 x k)
def e3 (x:bE)(k:Int):=Z279.md x.bG (e2 x k)
def f (x:bE)(k:Int):Option Int:=(cond (decide ((e1 x k)<0)) none (cond (decide ((e2 x k)<0)) none (cond (decide ((e3 x k)<0)) none (some ((e3 x k):Int)))))
def md (a0:bE)(a1:Int):Int:=oW (f a0 a1)
def gd (a0:bE)(a1:Int):Prop:=eJ a1
def R:=RR (p2 gd) (u2 md)
def aj {a0 a1}(h:gd a0 a1):R ((bE.r a0),a1)=some (md a0 a1):=aO (a:=(a0,a1)) h
def aW:=CN [.agg Bl,pI] oI RT.dec R
def bw (a0)(a1)(hg:gd a0 a1):F (bE.r a0) a1=ret (md a0 a1):=by
 unfold gd at hg
 simp only [F,SS]
 unfold md
 refine bp (e1 a0 a1) (Z284.aj (a0:=a0.bW) (a1:=a1) hg) ?_
 refine gx rfl ?_
 refine bp (e2 a0 a1) (Z286.aj (a0:=a0.aT) (a1:=e1 a0 a1) (Z284.iq hg)) ?_
 refine gx rfl ?_
 refine bp (e3 a0 a1) (Z279.aj (a0:=a0.bG) (a1:=e2 a0 a1) (Z286.iq (Z284.iq hg))) ?_
 refine gx rfl ?_
 first | rfl | (simp only [SS];rfl)
def af:cy 32 aW:=W2 24 F mix aF bw (.cons Z284.af (.cons Z286.af (.cons Z279.af .nil))) Tryz.func32
def mk (x:bE)(k:Int)(h0:0<=k)(hb:k+(Z278.sum x:Int)<=4611686018427387904):md (Z278.upd x k) k=k+Z278.sum x:=by
 simp only [Z278.sum,Int.natCast_add] at hb ⊢
 have heldKnown_:=@Z284.mk
 simp only [Z271.upd] at heldKnown_
 have heldEntry_:=@Z286.mk
 simp only [Z277.upd] at heldEntry_
 simp (disch:=omega) only [Z278.md,Z278.upd,md,f,oW,Z278.e1,Z278.e2,Z278.e3,e1,e2,e3,wi,Z271.kk,heldKnown_,Z277.kk,heldEntry_,Z266.kk,Z279.mk,bq,dh]
 all_goals first | done | omega
end Z287
namespace Z288
def F (x0:bu)(x1:aC)(x2:Int)(x3:aC)(x4:Int):aH:=(call (Z9.R (x0,1048576)) fun v1=>(cond (decide (v1<0)) eI (call (Z16.R (x1,v1)) fun v2=>(cond (decide (v2<0)) eI (call (Z10.R (x3,v2)) fun v3=>(cond (decide (v3<0)) eI (call (Z27.R x0) fun v4=>(call (Z34.R x1) fun v5=>(call (Z28.R x3) fun v6=>(call (Z121.R (v4,v5,x2,v6,x4)) fun v7=>(call (Z27.R x0) fun v8=>(call (Z34.R x1) fun v9=>(call (Z28.R x3) fun v10=>(call (Z246.R (v8,v9,x2,v10,x4)) fun v11=>(call (Z260.R (v11,v7)) fun v12=>(cond (!v12) bh (call (Z27.R x0) fun v13=>(call (Z257.R (v8,v13)) fun v14=>(cond (!v14) bh (call (Z34.R x1) fun v15=>(call (Z265.R (v9,v15)) fun v16=>(cond (!v16) bh (call (Z28.R x3) fun v17=>(call (Z258.R (v10,v17)) fun v18=>(cond (!v18) bh (call (Z271.R (v8,1)) fun v19=>(call (Z276.R (v9,v19.1)) fun v20=>(call (Z273.R (v10,v20.1)) fun v21=>(cond (decide (v21.1<0)) bh (call (Z260.R (v11,v7)) fun v22=>(cond (!v22) bh (call (Z278.R (v11,1)) fun v23=>(call (Z287.R ((⟨(⟨v23.2.1,v23.2.2.1⟩:bu),v11.gn,(⟨v11.aT.bf,v11.aT.bJ,v11.aT.bV,v23.2.2.2.1⟩:aU),v23.2.2.2.2,v11.eX⟩:cX),1)) fun v24=>(cond (decide (v24<0)) bh (cond (v24 != v23.1) bh (call (Z27.R x0) fun v25=>(call (Z34.R x1) fun v26=>(call (Z28.R x3) fun v27=>(call (Z246.R (v25,v26,x2,v27,x4)) fun v28=>(call (Z260.R (v28,v7)) fun v29=>(cond (!v29) bh (call (Z287.R ((⟨(⟨v23.2.1,v23.2.2.1⟩:bu),v11.gn,(⟨v11.aT.bf,v11.aT.bJ,v11.aT.bV,v23.2.2.2.1⟩:aU),v23.2.2.2.2,v11.eX⟩:cX),1)) fun v30=>(cond (decide (v30<0)) bh (cond (v30 != v23.1) bh eI))))))))))))))))))))))))))))))))))))))))))))
def pats:List gj:=[.agg [.sl 122,.sl 132],.rd (.sl 78),.rd (.int .i64),.rd (.sl 9),.rd (.int .i64)]
def res:RP:=.one (.rd (.bool))
def md (a0:aq)(a1:List ay)(a2:Int)(a3:List aD)(a4:Int):Bool:=true
def gd (a0:aq)(a1:List ay)(a2:Int)(a3:List aD)(a4:Int):Prop:=(aq.Sm maxLen a0)/\(bM maxLen (fun y:ay=>ay.Sm maxLen y) a1)/\(bM maxLen (fun y:aD=>y.size<=maxLen) a3)
def acc (ls:List L):bu×aC×Int×aC×Int:=((bu.dec ls),((aA 2 ls).headD .hole).aS,((aA 3 ls).headD .hole).toInt,((aA 4 ls).headD .hole).aS,((aA 5 ls).headD .hole).toInt)
def R:(bu×aC×Int×aC×Int)->Option Bool:=RR (p5 gd) (u5 md)
def aj {a0 a1 a2 a3 a4}(h:gd a0 a1 a2 a3 a4):R ((aq.r a0),(a1.map ay.row),a2,(a3.map cC),a4)=some (md a0 a1 a2 a3 a4):=aO (a:=(a0,a1,a2,a3,a4)) h
def aW:fT:=CN pats res acc R
def bw (a0:aq)(a1:List ay)(a2:Int)(a3:List aD)(a4:Int)(hg:gd a0 a1 a2 a3 a4):F (aq.r a0) (a1.map ay.row) a2 (a3.map cC) a4=ret ((md a0 a1 a2 a3 a4):Bool):=by
 unfold md
 show (call (Z9.R ((aq.r a0),1048576)) fun v1=>(bif (decide (v1<0)) then eI else (call (Z16.R ((a1.map ay.row),v1)) fun v2=>(bif (decide (v2<0)) then eI else (call (Z10.R ((a3.map cC),v2)) fun v3=>(bif (decide (v3<0)) then eI else (call (Z27.R (aq.r a0)) fun v4=>(call (Z34.R (a1.map ay.row)) fun v5=>(call (Z28.R (a3.map cC)) fun v6=>(call (Z121.R (v4,v5,a2,v6,a4)) fun v7=>(call (Z27.R (aq.r a0)) fun v8=>(call (Z34.R (a1.map ay.row)) fun v9=>(call (Z28.R (a3.map cC)) fun v10=>(call (Z246.R (v8,v9,a2,v10,a4)) fun v11=>(call (Z260.R (v11,v7)) fun v12=>(bif (!v12) then bh else (call (Z27.R (aq.r a0)) fun v13=>(call (Z257.R (v8,v13)) fun v14=>(bif (!v14) then bh else (call (Z34.R (a1.map ay.row)) fun v15=>(call (Z265.R (v9,v15)) fun v16=>(bif (!v16) then bh else (call (Z28.R (a3.map cC)) fun v17=>(call (Z258.R (v10,v17)) fun v18=>(bif (!v18) then bh else (call (Z271.R (v8,1)) fun v19=>(call (Z276.R (v9,v19.1)) fun v20=>(call (Z273.R (v10,v20.1)) fun v21=>(bif (decide (v21.1<0)) then bh else (call (Z260.R (v11,v7)) fun v22=>(bif (!v22) then bh else (call (Z278.R (v11,1)) fun v23=>(call (Z287.R ((⟨(⟨v23.2.1,v23.2.2.1⟩:bu),v11.gn,(⟨v11.aT.bf,v11.aT.bJ,v11.aT.bV,v23.2.2.2.1⟩:aU),v23.2.2.2.2,v11.eX⟩:cX),1)) fun v24=>(bif (decide (v24<0)) then bh else (bif (v24 != v23.1) then bh else (call (Z27.R (aq.r a0)) fun v25=>(call (Z34.R (a1.map ay.row)) fun v26=>(call (Z28.R (a3.map cC)) fun v27=>(call (Z246.R (v25,v26,a2,v27,a4)) fun v28=>(call (Z260.R (v28,v7)) fun v29=>(bif (!v29) then bh else (call (Z287.R ((⟨(⟨v23.2.1,v23.2.2.1⟩:bu),v11.gn,(⟨v11.aT.bf,v11.aT.bJ,v11.aT.bV,v23.2.2.2.1⟩:aU),v23.2.2.2.2,v11.eX⟩:cX),1)) fun v30=>(cond (decide (v30<0)) bh (cond (v30 != v23.1) bh eI))))))))))))))))))))))))))))))))))))))))))))=_
 rw [call_eq (Z9.aj (a1:=(1048576:Int)) ⟨hg.1,by omega,by omega⟩)]
 unfold Z9.md
 by_cases c0:(1048576:Int)<(((aq.size a0):Nat):Int)
 ·rw [cO c0];rfl
 rw [dn c0,dh (by omega)]
 simp only [bq]
 have s0:aq.Sm (2^20) a0:=(aq.gq (by omega))
 rw [call_eq (Z16.aj (a1:=(1048576 - (((aq.size a0):Nat):Int):Int)) ⟨hg.2.1,by omega,by omega⟩)]
 unfold Z16.md
 by_cases c1:(1048576 - (((aq.size a0):Nat):Int):Int)<(((dP (fun y:ay=>ay.size y) a1):Nat):Int)
 ·rw [cO c1];rfl
 rw [dn c1,dh (by omega)]
 simp only [bq]
 have s1:bM (2^20) (fun y:ay=>ay.Sm (2^20) y) a1:=(jf (f:=fun y:ay=>ay.size y) (by omega) (fun x hx=>(ay.gq hx)))
 rw [call_eq (Z10.aj (a1:=(1048576 - (((aq.size a0):Nat):Int) - (((dP (fun y:ay=>ay.size y) a1):Nat):Int):Int)) ⟨hg.2.2,by omega,by omega⟩)]
 unfold Z10.md
 by_cases c3:(1048576 - (((aq.size a0):Nat):Int) - (((dP (fun y:ay=>ay.size y) a1):Nat):Int):Int)<(((dP (fun y:aD=>y.size) a3):Nat):Int)
 ·rw [cO c3];rfl
 rw [dn c3,dh (by omega)]
 simp only [bq]
 have s3:bM (2^20) (fun y:aD=>y.size<=(2^20)) a3:=(jf (f:=fun y:aD=>y.size) (by omega) (fun x hx=>hx))
 refine bp (aq.r a0) (Z27.aj (a0:=a0) (aq.dc (by decide) s0)) ?_
 refine bp (a1.map ay.row) (Z34.aj (a0:=a1) (s1.mono (by decide) (fun x hx=>(ay.dc (by decide) hx)))) ?_
 refine bp (a3.map cC) (Z28.aj (a0:=a3) (s3.mono (by decide) (fun x hx=>(le_trans hx (by decide))))) ?_
 refine bp (bE.r (Z121.md a0 a1 a2 a3 a4)) (Z121.aj (a0:=a0) (a1:=a1) (a2:=a2) (a3:=a3) (a4:=a4) (by
  have:=And.intro trivial trivial
  unfold Z121.gd
  first | exact (aq.dc (by decide) s0) | refine ⟨(aq.dc (by decide) s0),(s1.mono (by decide) (fun x hx=>(ay.dc (by decide) hx))),(s3.mono (by decide) (fun x hx=>(le_trans hx (by decide))))⟩)) ?_
 refine bp (aq.r a0) (Z27.aj (a0:=a0) (aq.dc (by decide) s0)) ?_
 refine bp (a1.map ay.row) (Z34.aj (a0:=a1) (s1.mono (by decide) (fun x hx=>(ay.dc (by decide) hx)))) ?_
 refine bp (a3.map cC) (Z28.aj (a0:=a3) (s3.mono (by decide) (fun x hx=>(le_trans hx (by decide))))) ?_
 have r_:=Z246.aj (a0:=a0) (a1:=a1) (a2:=a2) (a3:=a3) (a4:=a4) (by
  have:=And.intro trivial trivial
  unfold Z246.gd
  first | exact (aq.dc (by decide) s0) | refine ⟨(aq.dc (by decide) s0),(s1.mono (by decide) (fun x hx=>(ay.dc (by decide) hx))),(s3.mono (by decide) (fun x hx=>(le_trans hx (by decide))))⟩)
 rw [Z246.br] at r_
 refine bp (bE.r (Z121.md a0 a1 a2 a3 a4)) r_ ?_
 clear r_
 refine bp _ (Z260.aj (a0:=(Z121.md a0 a1 a2 a3 a4)) (a1:=(Z121.md a0 a1 a2 a3 a4)) trivial) ?_
 refine cL (by first | (simp only [bne_self_eq_false,beq_self_eq_true,gm,fN,Bool.not_true,Z260.md];done) | (refine bne_eq_false_iff_eq.2 ?_;omega)) ?_
 refine bp (aq.r a0) (Z27.aj (a0:=a0) (aq.dc (by decide) s0)) ?_
 refine bp _ (Z257.aj (a0:=a0) (a1:=a0) trivial) ?_
 refine cL (by first | (simp only [bne_self_eq_false,beq_self_eq_true,gm,fN,Bool.not_true,Z260.md,Z257.md];done) | (refine bne_eq_false_iff_eq.2 ?_;omega)) ?_
 refine bp (a1.map ay.row) (Z34.aj (a0:=a1) (s1.mono (by decide) (fun x hx=>(ay.dc (by decide) hx)))) ?_
 refine bp _ (Z265.aj (a0:=a1) (a1:=a1) trivial) ?_
 refine cL (by first | (simp only [bne_self_eq_false,beq_self_eq_true,gm,fN,Bool.not_true,Z260.md,Z257.md,Z265.md];done) | (refine bne_eq_false_iff_eq.2 ?_;omega)) ?_
 refine bp (a3.map cC) (Z28.aj (a0:=a3) (s3.mono (by decide) (fun x hx=>(le_trans hx (by decide))))) ?_
 refine bp _ (Z258.aj (a0:=a3) (a1:=a3) trivial) ?_
 refine cL (by first | (simp only [bne_self_eq_false,beq_self_eq_true,gm,fN,Bool.not_true,Z260.md,Z257.md,Z265.md,Z258.md];done) | (refine bne_eq_false_iff_eq.2 ?_;omega)) ?_
 have u1:=Z271.sz a0
 refine bp ((Z271.md a0 1).1,((Z271.md a0 1).2.1.map (dF aa.row)),((Z271.md a0 1).2.2.map az.row)) (Z271.aj (a0:=a0) (a1:=1) lW) ?_
 have k2:=Z271.kk a0 1 (by omega) (by omega)
 have u3:=Z276.sz a1
 refine bp ((Z276.md a1 ((Z271.md a0 1).1)).1,((Z276.md a1 ((Z271.md a0 1).1)).2.map ay.row)) (Z276.aj (a0:=a1) (a1:=(Z271.md a0 1).1) (Z271.iq lW)) ?_
 have k4:=Z276.kk a1 ((Z271.md a0 1).1) (by omega) (by omega)
 have u5:=Z273.sz a3
 refine bp ((Z273.md a3 ((Z276.md a1 ((Z271.md a0 1).1)).1)).1,((Z273.md a3 ((Z276.md a1 ((Z271.md a0 1).1)).1)).2.map cC)) (Z273.aj (a0:=a3) (a1:=(Z276.md a1 ((Z271.md a0 1).1)).1) (Z276.iq (Z271.iq lW))) ?_
 have k6:=Z273.kk a3 ((Z276.md a1 ((Z271.md a0 1).1)).1) (by omega) (by omega)
 refine cL (dh (by omega)) ?_
 refine bp _ (Z260.aj (a0:=(Z121.md a0 a1 a2 a3 a4)) (a1:=(Z121.md a0 a1 a2 a3 a4)) trivial) ?_
 refine cL (by first | (simp only [bne_self_eq_false,beq_self_eq_true,gm,fN,Bool.not_true,Z260.md,Z257.md,Z265.md,Z258.md];done) | (refine bne_eq_false_iff_eq.2 ?_;omega)) ?_
 have u7:Z278.sum (Z121.md a0 a1 a2 a3 a4)<=1000000000000000000:=(by
  have h1:=Z278.sz (Z121.md a0 a1 a2 a3 a4)
  have h2:=Z121.sz a0 a1 a2 a3 a4 (by omega) (by omega)
  omega)
 refine bp ((Z278.md (Z121.md a0 a1 a2 a3 a4) 1).1,((Z278.md (Z121.md a0 a1 a2 a3 a4) 1).2.1.map (dF aa.row)),((Z278.md (Z121.md a0 a1 a2 a3 a4) 1).2.2.1.map az.row),((Z278.md (Z121.md a0 a1 a2 a3 a4) 1).2.2.2.1.map cC),((Z278.md (Z121.md a0 a1 a2 a3 a4) 1).2.2.2.2.map aZ)) (Z278.aj (a0:=(Z121.md a0 a1 a2 a3 a4)) (a1:=1) lW) ?_
 have k8:=Z278.kk (Z121.md a0 a1 a2 a3 a4) 1 (by omega) (by omega)
 refine bp (Z287.md (⟨(⟨(Z278.md (Z121.md a0 a1 a2 a3 a4) 1).2.1,(Z278.md (Z121.md a0 a1 a2 a3 a4) 1).2.2.1⟩:aq),(Z121.md a0 a1 a2 a3 a4).gn,(⟨(Z121.md a0 a1 a2 a3 a4).aT.bf,(Z121.md a0 a1 a2 a3 a4).aT.bJ,(Z121.md a0 a1 a2 a3 a4).aT.bV,(Z278.md (Z121.md a0 a1 a2 a3 a4) 1).2.2.2.1⟩:ah),(Z278.md (Z121.md a0 a1 a2 a3 a4) 1).2.2.2.2,(Z121.md a0 a1 a2 a3 a4).eX⟩:bE) 1) (Z287.aj (a0:=(⟨(⟨(Z278.md (Z121.md a0 a1 a2 a3 a4) 1).2.1,(Z278.md (Z121.md a0 a1 a2 a3 a4) 1).2.2.1⟩:aq),(Z121.md a0 a1 a2 a3 a4).gn,(⟨(Z121.md a0 a1 a2 a3 a4).aT.bf,(Z121.md a0 a1 a2 a3 a4).aT.bJ,(Z121.md a0 a1 a2 a3 a4).aT.bV,(Z278.md (Z121.md a0 a1 a2 a3 a4) 1).2.2.2.1⟩:ah),(Z278.md (Z121.md a0 a1 a2 a3 a4) 1).2.2.2.2,(Z121.md a0 a1 a2 a3 a4).eX⟩:bE)) (a1:=1) lW) ?_
 have h9:(Z287.md (⟨(⟨(Z278.md (Z121.md a0 a1 a2 a3 a4) 1).2.1,(Z278.md (Z121.md a0 a1 a2 a3 a4) 1).2.2.1⟩:aq),(Z121.md a0 a1 a2 a3 a4).gn,(⟨(Z121.md a0 a1 a2 a3 a4).aT.bf,(Z121.md a0 a1 a2 a3 a4).aT.bJ,(Z121.md a0 a1 a2 a3 a4).aT.bV,(Z278.md (Z121.md a0 a1 a2 a3 a4) 1).2.2.2.1⟩:ah),(Z278.md (Z121.md a0 a1 a2 a3 a4) 1).2.2.2.2,(Z121.md a0 a1 a2 a3 a4).eX⟩:bE) 1)=1+(Z278.sum (Z121.md a0 a1 a2 a3 a4):Int):=Z287.mk (Z121.md a0 a1 a2 a3 a4) 1 (by omega) (by omega)
 refine cL (dh (by omega)) ?_
 refine cL (by first | (simp only [bne_self_eq_false,beq_self_eq_true,gm,fN,Bool.not_true,Z260.md,Z257.md,Z265.md,Z258.md];done) | (refine bne_eq_false_iff_eq.2 ?_;omega)) ?_
 refine bp (aq.r a0) (Z27.aj (a0:=a0) (aq.dc (by decide) s0)) ?_
 refine bp (a1.map ay.row) (Z34.aj (a0:=a1) (s1.mono (by decide) (fun x hx=>(ay.dc (by decide) hx)))) ?_
 refine bp (a3.map cC) (Z28.aj (a0:=a3) (s3.mono (by decide) (fun x hx=>(le_trans hx (by decide))))) ?_
 have r_:=Z246.aj (a0:=a0) (a1:=a1) (a2:=a2) (a3:=a3) (a4:=a4) (by
  have:=And.intro trivial trivial
  unfold Z246.gd
  first | exact (aq.dc (by decide) s0) | refine ⟨(aq.dc (by decide) s0),(s1.mono (by decide) (fun x hx=>(ay.dc (by decide) hx))),(s3.mono (by decide) (fun x hx=>(le_trans hx (by decide))))⟩)
 rw [Z246.br] at r_
 refine bp (bE.r (Z121.md a0 a1 a2 a3 a4)) r_ ?_
 clear r_
 refine bp _ (Z260.aj (a0:=(Z121.md a0 a1 a2 a3 a4)) (a1:=(Z121.md a0 a1 a2 a3 a4)) trivial) ?_
 refine cL (by first | (simp only [bne_self_eq_false,beq_self_eq_true,gm,fN,Bool.not_true,Z260.md,Z257.md,Z265.md,Z258.md];done) | (refine bne_eq_false_iff_eq.2 ?_;omega)) ?_
 refine bp (Z287.md (⟨(⟨(Z278.md (Z121.md a0 a1 a2 a3 a4) 1).2.1,(Z278.md (Z121.md a0 a1 a2 a3 a4) 1).2.2.1⟩:aq),(Z121.md a0 a1 a2 a3 a4).gn,(⟨(Z121.md a0 a1 a2 a3 a4).aT.bf,(Z121.md a0 a1 a2 a3 a4).aT.bJ,(Z121.md a0 a1 a2 a3 a4).aT.bV,(Z278.md (Z121.md a0 a1 a2 a3 a4) 1).2.2.2.1⟩:ah),(Z278.md (Z121.md a0 a1 a2 a3 a4) 1).2.2.2.2,(Z121.md a0 a1 a2 a3 a4).eX⟩:bE) 1) (Z287.aj (a0:=(⟨(⟨(Z278.md (Z121.md a0 a1 a2 a3 a4) 1).2.1,(Z278.md (Z121.md a0 a1 a2 a3 a4) 1).2.2.1⟩:aq),(Z121.md a0 a1 a2 a3 a4).gn,(⟨(Z121.md a0 a1 a2 a3 a4).aT.bf,(Z121.md a0 a1 a2 a3 a4).aT.bJ,(Z121.md a0 a1 a2 a3 a4).aT.bV,(Z278.md (Z121.md a0 a1 a2 a3 a4) 1).2.2.2.1⟩:ah),(Z278.md (Z121.md a0 a1 a2 a3 a4) 1).2.2.2.2,(Z121.md a0 a1 a2 a3 a4).eX⟩:bE)) (a1:=1) lW) ?_
 have h10:(Z287.md (⟨(⟨(Z278.md (Z121.md a0 a1 a2 a3 a4) 1).2.1,(Z278.md (Z121.md a0 a1 a2 a3 a4) 1).2.2.1⟩:aq),(Z121.md a0 a1 a2 a3 a4).gn,(⟨(Z121.md a0 a1 a2 a3 a4).aT.bf,(Z121.md a0 a1 a2 a3 a4).aT.bJ,(Z121.md a0 a1 a2 a3 a4).aT.bV,(Z278.md (Z121.md a0 a1 a2 a3 a4) 1).2.2.2.1⟩:ah),(Z278.md (Z121.md a0 a1 a2 a3 a4) 1).2.2.2.2,(Z121.md a0 a1 a2 a3 a4).eX⟩:bE) 1)=1+(Z278.sum (Z121.md a0 a1 a2 a3 a4):Int):=Z287.mk (Z121.md a0 a1 a2 a3 a4) 1 (by omega) (by omega)
 refine cL (dh (by omega)) ?_
 refine cL (by first | (simp only [bne_self_eq_false,beq_self_eq_true,gm,fN,Bool.not_true,Z260.md,Z257.md,Z265.md,Z258.md];done) | (refine bne_eq_false_iff_eq.2 ?_;omega)) ?_
 rfl
def af:cy 4 aW:=VS (live:=fun _=>[]) (nt:=125) (run:=fun _ x=>F x.1 x.2.1 x.2.2.1 x.2.2.2.1 x.2.2.2.2) mix aF (.cons Z9.af (.cons Z16.af (.cons Z10.af (.cons Z27.af (.cons Z34.af (.cons Z28.af (.cons Z121.af (.cons Z246.af (.cons Z260.af (.cons Z257.af (.cons Z265.af (.cons Z258.af (.cons Z287.af .nil))))))))))))) (.cons Z271.af (.cons Z276.af (.cons Z273.af (.cons Z278.af .nil)))) Tryz.func4 (by kernel_rfl) (fun _ _=>by kernel_rfl) (fun _ a _ _ hg=>⟨0,bw a.1 a.2.1 a.2.2.1 a.2.2.2.1 a.2.2.2.2 hg⟩)
def kP (r:List L)(h:ef Ev.cells [.sl 3,aB] r):∃x:aM,aM.row x=r/\aM.Sm maxLen x:=by
 obtain ⟨l0,t0,rfl,g0,h1⟩:=h.dU
 obtain ⟨x0,rfl,s0⟩:=gW (show Ev.cells 3=[aB] from by kernel_rfl) zH g0
 obtain ⟨l1,t1,rfl,g1,h2⟩:=h1.dU
 obtain ⟨x1,rfl⟩:=ga g1
 obtain rfl:=h2.jU
 exact ⟨⟨x0,x1⟩,rfl,s0⟩
def uk (r:List L)(h:ef Ev.cells [aB,aB,aB,aB,aB,aB,aB,aB,.sl 3,aB,.sl 3,aB,aB,.sl 3,aB,.bool] r):∃x:aE,aE.row x=r/\aE.Sm maxLen x:=by
 obtain ⟨l0,t0,rfl,g0,h1⟩:=h.dU
 obtain ⟨x0,rfl⟩:=ga g0
 obtain ⟨l1,t1,rfl,g1,h2⟩:=h1.dU
 obtain ⟨x1,rfl⟩:=ga g1
 obtain ⟨l2,t2,rfl,g2,h3⟩:=h2.dU
 obtain ⟨x2,rfl⟩:=ga g2
 obtain ⟨l3,t3,rfl,g3,h4⟩:=h3.dU
 obtain ⟨x3,rfl⟩:=ga g3
 obtain ⟨l4,t4,rfl,g4,h5⟩:=h4.dU
 obtain ⟨x4,rfl⟩:=ga g4
 obtain ⟨l5,t5,rfl,g5,h6⟩:=h5.dU
 obtain ⟨x5,rfl⟩:=ga g5
 obtain ⟨l6,t6,rfl,g6,h7⟩:=h6.dU
 obtain ⟨x6,rfl⟩:=ga g6
 obtain ⟨l7,t7,rfl,g7,h8⟩:=h7.dU
 obtain ⟨x7,rfl⟩:=ga g7
 obtain ⟨r8,t8,rfl,g8,h9⟩:=ef.mY (a:=[.sl 3,aB]) (b:=[.sl 3,aB,aB,.sl 3,aB,.bool]) h8
 obtain ⟨x8,rfl,s8⟩:=kP _ g8
 obtain ⟨r9,t9,rfl,g9,h10⟩:=ef.mY (a:=[.sl 3,aB]) (b:=[aB,.sl 3,aB,.bool]) h9
 obtain ⟨x9,rfl,s9⟩:=kP _ g9
 obtain ⟨l10,t10,rfl,g10,h11⟩:=h10.dU
 obtain ⟨x10,rfl⟩:=ga g10
 obtain ⟨r11,t11,rfl,g11,h12⟩:=ef.mY (a:=[.sl 3,aB]) (b:=[.bool]) h11
 obtain ⟨x11,rfl,s11⟩:=kP _ g11
 obtain ⟨l12,t12,rfl,g12,h13⟩:=h12.dU
 obtain ⟨x12,rfl⟩:=zk g12
 obtain rfl:=h13.jU
 exact ⟨⟨x0,x1,x2,x3,x4,x5,x6,x7,x8,x9,x10,x11,x12⟩,rfl,⟨s8,s9,s11⟩⟩
def vr (r:List L)(h:ef Ev.cells [aB,aB] r):∃x:bk,bk.row x=r/\bk.Sm maxLen x:=by
 obtain ⟨l0,t0,rfl,g0,h1⟩:=h.dU
 obtain ⟨x0,rfl⟩:=ga g0
 obtain ⟨l1,t1,rfl,g1,h2⟩:=h1.dU
 obtain ⟨x1,rfl⟩:=ga g1
 obtain rfl:=h2.jU
 exact ⟨⟨x0,x1⟩,rfl,trivial⟩
def gG (r:List L)(h:ef Ev.cells [aB,aB,aB,aB,aB,aB,aB,aB,.sl 3,aB,.sl 3,aB,aB,.sl 3,aB,.bool,.sl 238] r):∃x:aa,aa.row x=r/\aa.Sm maxLen x:=by
 obtain ⟨r0,t0,rfl,g0,h1⟩:=ef.mY (a:=[aB,aB,aB,aB,aB,aB,aB,aB,.sl 3,aB,.sl 3,aB,aB,.sl 3,aB,.bool]) (b:=[.sl 238]) h
 obtain ⟨x0,rfl,s0⟩:=uk _ g0
 obtain ⟨l1,t1,rfl,g1,h2⟩:=h1.dU
 obtain ⟨x1,rfl,s1⟩:=gW (show Ev.cells 238=[aB,aB] from by kernel_rfl) vr g1
 obtain rfl:=h2.jU
 exact ⟨⟨x0,x1⟩,rfl,⟨s0,s1⟩⟩
def tS (r:List L)(h:ef Ev.cells [aB,aB,aB,aB,aB,aB,aB,aB,.sl 3,aB,.sl 3,aB,aB,.sl 3,aB,.bool,.sl 238,aB,aB,aB,aB,aB,aB,aB,aB,.sl 3,aB,.sl 3,aB,aB,.sl 3,aB,.bool,.sl 238,aB,aB,aB,aB,aB,aB,aB,aB,.sl 3,aB,.sl 3,aB,aB,.sl 3,aB,.bool,.sl 238] r):∃x:az,az.row x=r/\az.Sm maxLen x:=by
 obtain ⟨r0,t0,rfl,g0,h1⟩:=ef.mY (a:=[aB,aB,aB,aB,aB,aB,aB,aB,.sl 3,aB,.sl 3,aB,aB,.sl 3,aB,.bool,.sl 238]) (b:=[aB,aB,aB,aB,aB,aB,aB,aB,.sl 3,aB,.sl 3,aB,aB,.sl 3,aB,.bool,.sl 238,aB,aB,aB,aB,aB,aB,aB,aB,.sl 3,aB,.sl 3,aB,aB,.sl 3,aB,.bool,.sl 238]) h
 obtain ⟨x0,rfl,s0⟩:=gG _ g0
 obtain ⟨r1,t1,rfl,g1,h2⟩:=ef.mY (a:=[aB,aB,aB,aB,aB,aB,aB,aB,.sl 3,aB,.sl 3,aB,aB,.sl 3,aB,.bool,.sl 238]) (b:=[aB,aB,aB,aB,aB,aB,aB,aB,.sl 3,aB,.sl 3,aB,aB,.sl 3,aB,.bool,.sl 238]) h1
 obtain ⟨x1,rfl,s1⟩:=gG _ g1
 obtain ⟨r2,t2,rfl,g2,h3⟩:=ef.mY (a:=[aB,aB,aB,aB,aB,aB,aB,aB,.sl 3,aB,.sl 3,aB,aB,.sl 3,aB,.bool,.sl 238]) (b:=[]) h2
 obtain ⟨x2,rfl,s2⟩:=gG _ g2
 obtain rfl:=h3.jU
 exact ⟨⟨x0,x1,x2⟩,rfl,⟨s0,s1,s2⟩⟩
def ve (r:List L)(h:ef Ev.cells [.sl 122,.sl 132] r):∃x:aq,aq.row x=r/\aq.Sm maxLen x:=by
 obtain ⟨l0,t0,rfl,g0,h1⟩:=h.dU
 obtain ⟨x0,rfl,s0⟩:=gW (show Ev.cells 122=[.sl 130] from by kernel_rfl) (yW (show Ev.cells 130=[aB,aB,aB,aB,aB,aB,aB,aB,.sl 3,aB,.sl 3,aB,aB,.sl 3,aB,.bool,.sl 238] from by kernel_rfl) gG) g0
 obtain ⟨l1,t1,rfl,g1,h2⟩:=h1.dU
 obtain ⟨x1,rfl,s1⟩:=gW (show Ev.cells 132=[aB,aB,aB,aB,aB,aB,aB,aB,.sl 3,aB,.sl 3,aB,aB,.sl 3,aB,.bool,.sl 238,aB,aB,aB,aB,aB,aB,aB,aB,.sl 3,aB,.sl 3,aB,aB,.sl 3,aB,.bool,.sl 238,aB,aB,aB,aB,aB,aB,aB,aB,.sl 3,aB,.sl 3,aB,aB,.sl 3,aB,.bool,.sl 238] from by kernel_rfl) tS g1
 obtain rfl:=h2.jU
 exact ⟨⟨x0,x1⟩,rfl,⟨s0,s1⟩⟩
def sQ (r:List L)(h:ef Ev.cells [.str,aB,aB,.sl 9] r):∃x:ah,ah.row x=r/\ah.Sm maxLen x:=by
 obtain ⟨l0,t0,rfl,g0,h1⟩:=h.dU
 obtain ⟨x0,rfl,s0⟩:=xZ g0
 obtain ⟨l1,t1,rfl,g1,h2⟩:=h1.dU
 obtain ⟨x1,rfl⟩:=ga g1
 obtain ⟨l2,t2,rfl,g2,h3⟩:=h2.dU
 obtain ⟨x2,rfl⟩:=ga g2
 obtain ⟨l3,t3,rfl,g3,h4⟩:=h3.dU
 obtain ⟨x3,rfl,s3⟩:=gW (show Ev.cells 9=[.str] from by kernel_rfl) wo g3
 obtain rfl:=h4.jU
 exact ⟨⟨x0,x1,x2,x3⟩,rfl,⟨s0,s3⟩⟩
def uR (r:List L)(h:ef Ev.cells [.sl 130,.sl 235] r):∃x:aK,aK.row x=r/\aK.Sm maxLen x:=by
 obtain ⟨l0,t0,rfl,g0,h1⟩:=h.dU
 obtain ⟨x0,rfl,s0⟩:=gW (show Ev.cells 130=[aB,aB,aB,aB,aB,aB,aB,aB,.sl 3,aB,.sl 3,aB,aB,.sl 3,aB,.bool,.sl 238] from by kernel_rfl) gG g0
 obtain ⟨l1,t1,rfl,g1,h2⟩:=h1.dU
 obtain ⟨x1,rfl,s1⟩:=gW (show Ev.cells 235=[.str,aB,aB,.sl 9] from by kernel_rfl) sQ g1
 obtain rfl:=h2.jU
 exact ⟨⟨x0,x1⟩,rfl,⟨s0,s1⟩⟩
def tB (r:List L)(h:ef Ev.cells [.sl 183,aB] r):∃x:ay,ay.row x=r/\ay.Sm maxLen x:=by
 obtain ⟨l0,t0,rfl,g0,h1⟩:=h.dU
 obtain ⟨x0,rfl,s0⟩:=gW (show Ev.cells 183=[.sl 130,.sl 235] from by kernel_rfl) uR g0
 obtain ⟨l1,t1,rfl,g1,h2⟩:=h1.dU
 obtain ⟨x1,rfl⟩:=ga g1
 obtain rfl:=h2.jU
 exact ⟨⟨x0,x1⟩,rfl,s0⟩
def holds (ls:List L)(h:ef Ev.cells ([25,26,3,28,3].flatMap Ev.cells) ls):aW.sem ls=some [.bool true]:=by
 have hk:[25,26,3,28,3].flatMap Ev.cells=[.sl 122,.sl 132,.sl 78,aB,.sl 9,aB]:=by kernel_rfl
 rw [hk] at h
 obtain ⟨r0,t0,rfl,g0,h1⟩:=ef.mY (a:=[.sl 122,.sl 132]) (b:=[.sl 78,aB,.sl 9,aB]) h
 obtain ⟨x0,rfl,s0⟩:=ve _ g0
 obtain ⟨l1,t1,rfl,g1,h2⟩:=h1.dU
 obtain ⟨x1,rfl,s1⟩:=gW (show Ev.cells 78=[.sl 183,aB] from by kernel_rfl) tB g1
 obtain ⟨l2,t2,rfl,g2,h3⟩:=h2.dU
 obtain ⟨x2,rfl⟩:=ga g2
 obtain ⟨l3,t3,rfl,g3,h4⟩:=h3.dU
 obtain ⟨x3,rfl,s3⟩:=gW (show Ev.cells 9=[.str] from by kernel_rfl) wo g3
 obtain ⟨l4,t4,rfl,g4,h5⟩:=h4.dU
 obtain ⟨x4,rfl⟩:=ga g4
 obtain rfl:=h5.jU
 show (R ((aq.r x0),(x1.map ay.row),x2,(x3.map cC),x4)).map RT.enc=_
 rw [aj ⟨s0,s1,s3⟩]
 rfl
end Z288
end Go.DM
end
