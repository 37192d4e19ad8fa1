/- What the functions compute that the law reaches, and that the law returns true. Conditions: none. -/
import Derived.Test.YtbojpakoeellaaaGreatResolvePetTy
import Derived.Test.YtbojpakoeellaaaGreatResolvePetFnB
set_option linter.all false
set_option maxRecDepth 100000
noncomputable section
namespace Go.DM
open Go.Proofs
open Go.IntKind (i64)
open Int (toNat)
open Nat (le_trans zero_le)
namespace Z205
def F (x0:dL):aH:=(call (Z204.R x0) fun v1=>(cond (!v1) (ret ((-1):Int)) (call (Z186.R x0.aS) fun v2=>ret (v2.bC:Int))))
def md (a0:aK):Int:=(cond (!(Z204.md a0)) ((-1):Int) ((Z186.md a0.aS).bC:Int))
def gd (a0:aK):Prop:=(aK.Sm (2^21) a0)
def R:=RR gd md
def aj {a0}(h:gd a0):R (aK.r a0)=some (md a0):=aN (a:=a0) h
def aT:=CN [.agg sG] oI RT.dec R
def bt (a0)(hg:gd a0):F (aK.r a0)=ret (md a0):=by
 unfold gd at hg
 have H0:=hg
 unfold F md
 try simp only [SS]
 refine ct (Z204.aj H0) ?_
 refine au ret (fun _=>rfl) (fun c1=>?_)
 have dc1:=c1
 try simp only [DC] at dc1
 try have tc1:=Z204.tr (by simpa using c1)
 refine ct (Z186.aj ⟨H0.1,(by
   have:=(H0.1).1
   first | assumption | exact om)⟩) ?_
 try simp only [SS]
 all_goals exact fz
def af:cw 174 aT:=W1 10 F mix aE bt (.cons Z204.af (.cons Z186.af .nil)) Tryz.func174
def br (a0:aK):md a0=Z92.md a0:=by
 unfold md Z92.md
 rw [Z204.br]
 cases h:Z91.md a0
 ·rfl
 ·have h2:Z75.md a0.aS=true:=by
   unfold Z91.md Z76.md at h
   cases hc:Z75.md a0.aS
   ·rw [hc] at h;cases h
   ·rfl
  unfold Z186.md Z76.md
  rw [h2]
  rfl
end Z205
namespace Z206
def F (x0:dL)(x1:List L):aH:=(call (Z205.R x0) fun v1=>ret ((v1==(gm x1)):Bool))
def pats:List fY:=[.agg [.sl 141,.sl 57],.ptr [aD]]
def res:RP:=.one (.rd (.bool))
def md (a0:aK)(a1:Int):Bool:=(((Z205.md a0)==a1):Bool)
def gd (a0:aK)(a1:Int):Prop:=(aK.Sm (2^21) a0)
def acc (ls:List L):dL×Int:=((dL.dec ls),(gm (cH 1 (aA 2 ls))))
def R:(dL×Int)->Option Bool:=RR (p2 gd) (u2 md)
def aj {a0 a1}(h:gd a0 a1):R ((aK.r a0),a1)=some (md a0 a1):=aN (a:=(a0,a1)) h
def aT:fQ:=CN pats res acc R
def bt (a0:aK)(a1:Int)(p1:List L)(e1:a1=(gm p1))(hg:gd a0 a1):F (aK.r a0) p1=ret ((md a0 a1):Bool):=by
 unfold gd at hg
 have H0:=hg
 unfold F md
 try simp only [SS,<-e1]
 refine ct (Z205.aj H0) ?_
 all_goals exact fz
def mB (ls:List L)(a:aK×Int)(e:acc ls=Im.im a)(hg:(p2 gd) a):∃n:Nat,F (dL.dec ls) (cH 1 (aA 2 ls))=ret (Im.im ((u2 md) a)):=by
 have e0:(aK.r a.1)=(dL.dec ls):=(congrArg (fun x=>x.1) e.symm)
 have hn:=bt a.1 a.2 (cH 1 (aA 2 ls)) (congrArg (fun x=>x.2) e.symm) hg
 refine ⟨0,?_⟩
 rw [<-e0]
 exact hn
def af:cw 173 aT:=VP (live:=fun _=>[]) (nt:=8) (accr:=fun ls=>((dL.dec ls),(cH 1 (aA 2 ls)))) (run:=fun _ x=>F x.1 x.2) mix aE (.cons Z205.af .nil) Tryz.func173 (by kernel_rfl) (fun _ _=>by kernel_rfl) (fun ls a _ e hg=>mB ls a e hg)
end Z206
namespace Z207
inductive Pt where
 | p0 (a:aC) (b:List L) (c d:Int)
def pid:Pt->Nat
 | .p0 ..=>2
def cg:Pt->List V
 | .p0 a b c d=>[.sl none 155 a,.fn 173 [.dF none [aD] b 0],.int .i64 c,.int .i64 d]
def bZ:Pt->List aW
 | .p0 a b c d=>[]
def step (J:Pt->aH):Pt->aH
 | .p0 a b c d=>(cond (decide (d<c)) (m2 d (a.length:Int) (call (Z206.R ((dL.at a (toNat d)),(gm b))) fun v1=>(cond v1 (ret (d:Int)) (J (.p0 a b c (i64.wrap (d+1))))))) (ret ((-1):Int)))
def start (J:Pt->aH)(x0:aC)(x1:List L):aH:=J (.p0 x0 x1 (x0.length:Int) 0)
def live:Nat->Live:=fun i=>match i with | 2=>[(0,none),(1,none),(7,none),(8,none)] | _=>[]
def pats:List fY:=[.rd (.sl 155),.fn 173 [[aD]]]
def res:RP:=.one (.rd (.int .i64))
abbrev E:Env:={ T:=assoc kL,G:=dw [(173,Z206.aT)],nt:=19 }
def step_eq (I:cD)(p:Pt):cT E live I (pid p) (bO Tryz.f172) (fq (live (pid p)) (cg p) (bZ p)) (cE E Tryz.f172 res)=step (fun q=>I (pid q) (cg q) (bZ q)) p:=by
 cases p<;>kernel_rfl
def start_eq (I:cD)(ls:List L):eP E live I (bO Tryz.f172) (cV pats ls) (cE E Tryz.f172 res)=start (fun q=>I (pid q) (cg q) (bZ q)) (ls.headD .hole).aP (cH 1 (aA 1 ls)):=by kernel_rfl
def run_eq (n:Nat)(ls:List L):eJ E live Tryz.f172 res n (cV pats ls)=start (iter step n) (ls.headD .hole).aP (cH 1 (aA 1 ls)):=cy (id:=pid) (vs:=cg) (hs:=bZ) (step:=step) (start:=fun J=>start J (ls.headD .hole).aP (cH 1 (aA 1 ls))) step_eq (fun I=>start_eq I ls) n
def md (a0:List aK)(a1:Int):Int:=(dQ (S:=Unit) (β:=Int) (fun (i1:Nat) (y1:aK) (s3:Unit)=>(cond (Z206.md y1 a1) (.inr ((i1:Int):Int)) (.inl ()))) (fun (s3:Unit)=>((-1):Int)) 0 a0 ())
def gd (a0:List aK)(a1:Int):Prop:=(bL (2^21) (fun y:aK=>aK.Sm (2^21) y) a0)
def acc (ls:List L):aC×Int:=((ls.headD .hole).aP,(gm (cH 1 (aA 1 ls))))
def R:(aC×Int)->Option Int:=RR (p2 gd) (u2 md)
def aj {a0 a1}(h:gd a0 a1):R ((a0.map aK.row),a1)=some (md a0 a1):=aN (a:=(a0,a1)) h
def aT:fQ:=CN pats res acc R
def bt (a0:List aK)(a1:Int)(p1:List L)(e1:a1=(gm p1))(hg:gd a0 a1):∃n,start (iter step n) (a0.map aK.row) p1=ret ((md a0 a1):Int):=by
 unfold gd at hg
 have H0:=hg
 unfold start md
 try simp only [SS,<-e1]
 have Bh2:a0.length<=maxLen:=(by
   have:=(H0).1
   try simp only [maxLen] at *
   omega)
 refine ex_eq (out:=ret) (cR (z:=aK.zero)) ?_
 refine dK (p:=Pt.p0 (a0.map aK.row) p1 (a0.length:Int) 0) fz ?_
 refine cj (pt:=fun (i1:Nat) (s3:Unit)=>Pt.p0 (a0.map aK.row) p1 (a0.length:Int) (i1:Int)) (s:=(():Unit)) (out:=ret) (fun _ _=>True) (fun J i1 s3 h2 hih2=>?_) (fun s3 hih2=>?_) trivial
 ·simp only [step,SS,<-e1]
  have bb_:=Bh2
  simp only [maxLen] at bb_
  have:=(H0).1
  refine bz.yes (by apply decide_eq_true;omega) ?_
  refine bz.yes aI ?_
  refine bz.yes (aL h2) ?_
  refine cr (Z206.aj (bL.getD (z:=aK.zero) H0 h2)) ?_
  refine bz.bif (fun c4=>?_) (fun c4=>?_)
  ·refine bz.inr ?_
   all_goals exact fz
  ·refine bz.inl trivial ?_
   rw [aG h2 Bh2]
   all_goals exact fz
 ·simp only [step,SS,<-e1]
  have:=(H0).1
  refine dx (by apply decide_eq_false;omega) ?_
  refine ⟨0,?_⟩
  all_goals exact fz
def mB (ls:List L)(a:List aK×Int)(e:acc ls=Im.im a)(hg:(p2 gd) a):∃n:Nat,start (iter step n) ((ls.headD .hole).aP) (cH 1 (aA 1 ls))=ret (Im.im ((u2 md) a)):=by
 have e0:(a.1.map aK.row)=(ls.headD .hole).aP:=(congrArg (fun x=>x.1) e.symm)
 obtain ⟨n,hn⟩:=bt a.1 a.2 (cH 1 (aA 1 ls)) (congrArg (fun x=>x.2) e.symm) hg
 refine ⟨n,?_⟩
 rw [<-e0]
 exact hn
def af:cw 172 aT:=VP (accr:=fun ls=>((ls.headD .hole).aP,(cH 1 (aA 1 ls)))) (run:=fun n x=>start (iter step n) x.1 x.2) mix aE (.cons Z206.af .nil) Tryz.func172 (by kernel_rfl) run_eq (fun ls a _ e hg=>mB ls a e hg)
def fa (a0:List aK)(a1:Int):-1<=md a0 a1/\md a0 a1<(a0.length:Int):=by
 unfold md
 refine fD ?_ _ _
 all_goals
  intro i x s b h
  revert h
  simp only [Bool.cond_eq_ite]
  repeat' split
  all_goals (intro h;first | (cases h;rfl) | cases h)
def idx_eq (a0:List aK)(a1:Int):md a0 a1=iF (fun y=>Z206.md y a1) 0 a0:=by
 unfold md
 exact gv
end Z207
namespace Z208
def F (x0:cL)(x1:Int):aH:=(cond (decide (x1<0)) (ret ((-1):Int)) (call (Z207.R (x0.bG,x1)) fun v1=>ret (v1:Int)))
def md (a0:av)(a1:Int):Int:=(cond (decide (a1<0)) ((-1):Int) ((Z207.md a0.bG a1):Int))
def gd (a0:av)(a1:Int):Prop:=(av.Sm (2^21) a0)
def R:=RR (p2 gd) (u2 md)
def aj {a0 a1}(h:gd a0 a1):R ((av.r a0),a1)=some (md a0 a1):=aN (a:=(a0,a1)) h
def aT:=CN [.agg Ba,pI] oI RT.dec R
def bt (a0)(a1)(hg:gd a0 a1):F (av.r a0) a1=ret (md a0 a1):=by
 unfold gd at hg
 have H0:=hg
 unfold F md
 try simp only [SS]
 refine au ret (fun _=>rfl) (fun c1=>?_)
 refine ct (Z207.aj H0) ?_
 have fv1_:=Z207.fa a0.bG a1
 all_goals exact fz
def af:cw 138 aT:=W2 11 F mix aE bt (.cons Z207.af .nil) Tryz.func138
def fa (a0:av)(a1:Int):-1<=md a0 a1/\md a0 a1<(a0.bG.length:Int):=by
 unfold md
 have:=Z207.fa a0.bG a1
 cases decide (a1<0)
 ·exact this
 ·simp only [bf];omega
def br (a0:av)(a1:Int):md a0 a1=Z93.md a0 a1:=by
 unfold md Z93.md
 rw [Z207.idx_eq]
 rw [kR (p:=fun y=>(Z92.md y==a1)&&decide (a1>=0)) (fun i x s=>by cases (Z92.md x==a1)<;>cases decide (a1>=0)<;>rfl)]
 have e:(fun y=>Z206.md y a1)=fun y=>Z92.md y==a1:=by
  funext y
  unfold Z206.md
  rw [Z205.br]
 have key:∀(xs:List aK) (i:Nat),iF (fun _=>false) i xs=-1:=by
  intro xs
  induction xs with
  | nil=>intro i;rfl
  | cons x xs ih=>intro i;unfold iF;exact ih _
 rw [e]
 by_cases h:a1<0
 ·rw [decide_eq_true h,decide_eq_false (show ¬a1>=0 by omega)]
  simp only [bf,Bool.and_false,key]
 ·rw [decide_eq_false h,decide_eq_true (show a1>=0 by omega)]
  simp only [bq,Bool.and_true]
end Z208
namespace Z209
def F (x0:aU)(x1:List L):aH:=ret ((x0.bk==(sDec x1)):Bool)
def pats:List fY:=[.agg [.str,aD,aD,.sl 9],.ptr [.str]]
def res:RP:=.one (.rd (.bool))
def md (a0:ah)(a1:aB):Bool:=((a0.bk==a1):Bool)
def gd (a0:ah)(a1:aB):Prop:=True
def acc (ls:List L):aU×aB:=((aU.dec ls),(sDec (cH 1 (aA 4 ls))))
def R:(aU×aB)->Option Bool:=RR (p2 gd) (u2 md)
def aj {a0 a1}(h:gd a0 a1):R ((ah.r a0),a1)=some (md a0 a1):=aN (a:=(a0,a1)) h
def aT:fQ:=CN pats res acc R
def bt (a0:ah)(a1:aB)(p1:List L)(e1:a1=(sDec p1))(hg:gd a0 a1):F (ah.r a0) p1=ret ((md a0 a1):Bool):=by
 unfold F md
 try simp only [SS,<-e1]
 all_goals exact fz
def mB (ls:List L)(a:ah×aB)(e:acc ls=Im.im a)(hg:(p2 gd) a):∃n:Nat,F (aU.dec ls) (cH 1 (aA 4 ls))=ret (Im.im ((u2 md) a)):=by
 have e0:(ah.r a.1)=(aU.dec ls):=(congrArg (fun x=>x.1) e.symm)
 have hn:=bt a.1 a.2 (cH 1 (aA 4 ls)) (congrArg (fun x=>x.2) e.symm) hg
 refine ⟨0,?_⟩
 rw [<-e0]
 exact hn
def af:cw 218 aT:=VP (live:=fun _=>[]) (nt:=8) (accr:=fun ls=>((aU.dec ls),(cH 1 (aA 4 ls)))) (run:=fun _ x=>F x.1 x.2) mix aE .nil Tryz.func218 (by kernel_rfl) (fun _ _=>by kernel_rfl) (fun ls a _ e hg=>mB ls a e hg)
end Z209
namespace Z210
inductive Pt where
 | p0 (a:aC) (b:List L) (c d:Int)
def pid:Pt->Nat
 | .p0 ..=>2
def cg:Pt->List V
 | .p0 a b c d=>[.sl none 57 a,.fn 218 [.dF none [.str] b 0],.int .i64 c,.int .i64 d]
def bZ:Pt->List aW
 | .p0 a b c d=>[]
def step (J:Pt->aH):Pt->aH
 | .p0 a b c d=>(cond (decide (d<c)) (m2 d (a.length:Int) (call (Z209.R ((aU.at a (toNat d)),(sDec b))) fun v1=>(cond v1 (ret (d:Int)) (J (.p0 a b c (i64.wrap (d+1))))))) (ret ((-1):Int)))
def start (J:Pt->aH)(x0:aC)(x1:List L):aH:=J (.p0 x0 x1 (x0.length:Int) 0)
def live:Nat->Live:=fun i=>match i with | 2=>[(0,none),(1,none),(7,none),(8,none)] | _=>[]
def pats:List fY:=[.rd (.sl 57),.fn 218 [[.str]]]
def res:RP:=.one (.rd (.int .i64))
abbrev E:Env:={ T:=assoc kL,G:=dw [(218,Z209.aT)],nt:=19 }
def step_eq (I:cD)(p:Pt):cT E live I (pid p) (bO Tryz.f217) (fq (live (pid p)) (cg p) (bZ p)) (cE E Tryz.f217 res)=step (fun q=>I (pid q) (cg q) (bZ q)) p:=by
 cases p<;>kernel_rfl
def start_eq (I:cD)(ls:List L):eP E live I (bO Tryz.f217) (cV pats ls) (cE E Tryz.f217 res)=start (fun q=>I (pid q) (cg q) (bZ q)) (ls.headD .hole).aP (cH 1 (aA 1 ls)):=by kernel_rfl
def run_eq (n:Nat)(ls:List L):eJ E live Tryz.f217 res n (cV pats ls)=start (iter step n) (ls.headD .hole).aP (cH 1 (aA 1 ls)):=cy (id:=pid) (vs:=cg) (hs:=bZ) (step:=step) (start:=fun J=>start J (ls.headD .hole).aP (cH 1 (aA 1 ls))) step_eq (fun I=>start_eq I ls) n
def md (a0:List ah)(a1:aB):Int:=(dQ (S:=Unit) (β:=Int) (fun (i1:Nat) (y1:ah) (s3:Unit)=>(cond (Z209.md y1 a1) (.inr ((i1:Int):Int)) (.inl ()))) (fun (s3:Unit)=>((-1):Int)) 0 a0 ())
def gd (a0:List ah)(a1:aB):Prop:=(bL (2^21) (fun y:ah=>ah.Sm (2^21) y) a0)
def acc (ls:List L):aC×aB:=((ls.headD .hole).aP,(sDec (cH 1 (aA 1 ls))))
def R:(aC×aB)->Option Int:=RR (p2 gd) (u2 md)
def aj {a0 a1}(h:gd a0 a1):R ((a0.map ah.row),a1)=some (md a0 a1):=aN (a:=(a0,a1)) h
def aT:fQ:=CN pats res acc R
def bt (a0:List ah)(a1:aB)(p1:List L)(e1:a1=(sDec p1))(hg:gd a0 a1):∃n,start (iter step n) (a0.map ah.row) p1=ret ((md a0 a1):Int):=by
 unfold gd at hg
 have H0:=hg
 unfold start md
 try simp only [SS,<-e1]
 have Bh2:a0.length<=maxLen:=(by
   have:=(H0).1
   try simp only [maxLen] at *
   omega)
 refine ex_eq (out:=ret) (cR (z:=ah.zero)) ?_
 refine dK (p:=Pt.p0 (a0.map ah.row) p1 (a0.length:Int) 0) fz ?_
 refine cj (pt:=fun (i1:Nat) (s3:Unit)=>Pt.p0 (a0.map ah.row) p1 (a0.length:Int) (i1:Int)) (s:=(():Unit)) (out:=ret) (fun _ _=>True) (fun J i1 s3 h2 hih2=>?_) (fun s3 hih2=>?_) trivial
 ·simp only [step,SS,<-e1]
  have bb_:=Bh2
  simp only [maxLen] at bb_
  have:=(H0).1
  refine bz.yes (by apply decide_eq_true;omega) ?_
  refine bz.yes aI ?_
  refine bz.yes (aL h2) ?_
  refine cr (Z209.aj trivial) ?_
  refine bz.bif (fun c4=>?_) (fun c4=>?_)
  ·refine bz.inr ?_
   all_goals exact fz
  ·refine bz.inl trivial ?_
   rw [aG h2 Bh2]
   all_goals exact fz
 ·simp only [step,SS,<-e1]
  have:=(H0).1
  refine dx (by apply decide_eq_false;omega) ?_
  refine ⟨0,?_⟩
  all_goals exact fz
def mB (ls:List L)(a:List ah×aB)(e:acc ls=Im.im a)(hg:(p2 gd) a):∃n:Nat,start (iter step n) ((ls.headD .hole).aP) (cH 1 (aA 1 ls))=ret (Im.im ((u2 md) a)):=by
 have e0:(a.1.map ah.row)=(ls.headD .hole).aP:=(congrArg (fun x=>x.1) e.symm)
 obtain ⟨n,hn⟩:=bt a.1 a.2 (cH 1 (aA 1 ls)) (congrArg (fun x=>x.2) e.symm) hg
 refine ⟨n,?_⟩
 rw [<-e0]
 exact hn
def af:cw 217 aT:=VP (accr:=fun ls=>((ls.headD .hole).aP,(cH 1 (aA 1 ls)))) (run:=fun n x=>start (iter step n) x.1 x.2) mix aE (.cons Z209.af .nil) Tryz.func217 (by kernel_rfl) run_eq (fun ls a _ e hg=>mB ls a e hg)
def fa (a0:List ah)(a1:aB):-1<=md a0 a1/\md a0 a1<(a0.length:Int):=by
 unfold md
 refine fD ?_ _ _
 all_goals
  intro i x s b h
  revert h
  simp only [Bool.cond_eq_ite]
  repeat' split
  all_goals (intro h;first | (cases h;rfl) | cases h)
def idx_eq (a0:List ah)(a1:aB):md a0 a1=iF (fun y=>Z209.md y a1) 0 a0:=by
 unfold md
 exact gv
end Z210
namespace Z211
def F (x0:aC)(x1:aB):aH:=(call (Z210.R (x0,x1)) fun v1=>ret (v1:Int))
def md (a0:List ah)(a1:aB):Int:=((Z210.md a0 a1):Int)
def gd (a0:List ah)(a1:aB):Prop:=(bL (2^21) (fun y:ah=>ah.Sm (2^21) y) a0)
def R:=RR (p2 gd) (u2 md)
def aj {a0 a1}(h:gd a0 a1):R ((a0.map ah.row),a1)=some (md a0 a1):=aN (a:=(a0,a1)) h
def aT:=CN [pL 57,pS] oI RT.dec R
def bt (a0)(a1)(hg:gd a0 a1):F (a0.map ah.row) a1=ret (md a0 a1):=by
 unfold gd at hg
 have H0:=hg
 unfold F md
 try simp only [SS]
 refine ct (Z210.aj H0) ?_
 have fv1_:=Z210.fa a0 a1
 all_goals exact fz
def af:cw 176 aT:=W2 8 F mix aE bt (.cons Z210.af .nil) Tryz.func176
def fa (a0:List ah)(a1:aB):-1<=md a0 a1/\md a0 a1<(a0.length:Int):=by
 unfold md
 refine fD ?_ _ _
 all_goals
  intro i x s b h
  revert h
  simp only [Bool.cond_eq_ite]
  repeat' split
  all_goals (intro h;first | (cases h;rfl) | cases h)
def br (a0:List ah)(a1:aB):md a0 a1=Z94.md a0 a1:=by
 unfold md Z94.md
 first
 | (simp only [Z210.idx_eq];done)
 | (simp only [Z210.idx_eq];rfl)
 | rfl
end Z211
namespace Z212
def F (x0:aC):aH:=(cond x0.isEmpty (either (ret ([]:aC)) ((ck (eT ((x0.length:Int)*16)) (ret (x0:aC))))) (ck (eT ((x0.length:Int)*16)) (ret (x0:aC))))
def md (a0:List aB):List aB:=a0
def gd (a0:List aB):Prop:=bL (2^21) (fun y:aB=>y.size<=(2^21)) a0
def R:=RR gd md
def aj {a0}(h:gd a0):R (a0.map cF)=some (a0.map cF):=aN (a:=a0) h
def aT:=CN [pL 9] (oL 9) RT.dec R
def bt (a0)(hg:gd a0):F (a0.map cF)=ret ((md a0).map cF):=by
 have H0:=hg.1
 unfold F md
 have hl:eT (((a0.map cF).length:Int)*16)=true:=iJ (by simp only [List.length_map];omega)
 simp only [hl,bf]
 cases a0 with
 | nil=>exact kT
 | cons x xs=>rfl
def af:cw 135 aT:=W1 8 F mix aE bt .nil Tryz.func135
end Z212
namespace Z213
def F (x0:aU):aH:=(call (Z212.R x0.bI) fun v1=>ret ((⟨x0.bk,x0.bK,x0.bW,v1⟩:aU):aU))
def md (a0:ah):ah:=a0
def gd (a0:ah):Prop:=(ah.Sm (2^21) a0)
def R:=RR gd md
def aj {a0}(h:gd a0):R (ah.r a0)=some (ah.r a0):=aN (a:=a0) h
def aT:=CN [.agg qX] (.agg f57) RT.dec R
def bt (a0)(hg:gd a0):F (ah.r a0)=ret (ah.r (md a0)):=by
 unfold gd at hg
 have H0:=hg
 unfold F md
 try simp only [SS]
 refine ct (Z212.aj H0.2) ?_
 try simp only [SS]
 all_goals exact fz
def af:cw 136 aT:=W1 8 F mix aE bt (.cons Z212.af .nil) Tryz.func136
end Z213
namespace Z214
inductive Pt where
 | p0 (a:aC) (b:Int) (c:aC)
 | p1 (a:Int) (b c:aC)
def pid:Pt->Nat
 | .p0 ..=>4
 | .p1 ..=>4
def cg:Pt->List V
 | .p0 a b c=>[.sl none 3 a,.int .i64 b,.own 0]
 | .p1 a b c=>[.own 0,.int .i64 a,.own 1]
def bZ:Pt->List aW
 | .p0 a b c=>[.row 3 c]
 | .p1 a b c=>[.row 3 b,.row 3 c]
def step (J:Pt->aH):Pt->aH
 | .p0 a b c=>(cond (decide ((a.length:Int)>1)) (cond (decide ((mS .i64 b 1)<(a.length:Int))) (ck (decide ((0:Int)<=(mS .i64 b 1))) (ck (decide ((mS .i64 b 1)<(a.length:Int))) (ck (eT (((c.length:Int)+1)*8)) (call (Z199.R a) fun v1=>J (.p1 (i64.wrap (Int.tdiv b 2)) v1 (c++[[L.int (je a (toNat (mS .i64 b 1)))]])))))) (call (Z199.R a) fun v2=>J (.p1 (i64.wrap (Int.tdiv b 2)) v2 c))) (ret (c:aC)))
 | .p1 a b c=>(cond (decide ((b.length:Int)>1)) (cond (decide ((mS .i64 a 1)<(b.length:Int))) (ck (decide ((0:Int)<=(mS .i64 a 1))) (ck (decide ((mS .i64 a 1)<(b.length:Int))) (ck (eT (((c.length:Int)+1)*8)) (call (Z199.R b) fun v1=>J (.p1 (i64.wrap (Int.tdiv a 2)) v1 (c++[[L.int (je b (toNat (mS .i64 a 1)))]])))))) (call (Z199.R b) fun v2=>J (.p1 (i64.wrap (Int.tdiv a 2)) v2 c))) (ret (c:aC)))
def start (J:Pt->aH)(x0:aC)(x1:Int):aH:=(call (Z141.R (x1,0,(i64.wrap ((x0.length:Int) - 1)))) fun v1=>(cond (!v1) (ret ([]:aC)) (J (.p0 x0 x1 []))))
def live:Nat->Live:=fun i=>match i with | 4=>[(0,none),(1,none),(5,some 3)] | _=>[]
def BK (b:Nat)(h:b<2^40):mS .i64 (b:Int) 1=((Z96.vh b:Nat):Int):=by
 have e1:(BitVec.ofInt 64 (b:Int)).toNat=b:=by simp [BitVec.toNat_ofInt];omega
 have e2:(BitVec.ofInt 64 (1:Int)).toNat=1:=by decide
 have e3:(b ^^^ 1)=Z96.vh b:=by
  have a1:(b ^^^ 1) % 2=(b+1) % 2:=by
   have h:=Nat.xor_mod_two_pow (a:=b) (b:=1) (n:=1)
   rw [Nat.pow_one,show (1:Nat) % 2=1 from rfl] at h
   rcases Nat.mod_two_eq_zero_or_one b with e | e
   ·rw [e,show (0:Nat) ^^^ 1=1 from rfl] at h;omega
   ·rw [e,show (1:Nat) ^^^ 1=0 from rfl] at h;omega
  have a2:(b ^^^ 1) / 2=b / 2:=by rw [Nat.xor_div_two];simp
  unfold Z96.vh;split<;>omega
 show i64.wrap (((BitVec.ofInt 64 (b:Int) ^^^ BitVec.ofInt 64 1).toNat:Nat):Int)=_
 rw [BitVec.toNat_xor,e1,e2,e3,wi _ (by unfold Z96.vh;split<;>omega)]
def md (a0:List Int)(a1:Int):List Int:=Z96.md a0 a1
def gd (a0:List Int)(a1:Int):Prop:=bL (2^38) (fun y:Int=>True) a0
def R:=RR (p2 gd) (u2 md)
def aj {a0 a1}(h:gd a0 a1):R ((a0.map bh),a1)=some ((md a0 a1).map bh):=aN (a:=(a0,a1)) h
def aT:=CN [pL 3,pI] (oL 3) RT.dec R
def bt (a0)(a1)(hg:gd a0 a1):∃n,start (iter step n) (a0.map bh) a1=ret ((md a0 a1).map bh):=by
 have one:∀(i:Nat) (l c r:List Int) (n:Nat),bL (2^38) (fun y:Int=>True) l->i<2^40->c.length<2^40->(if l.length>1 then iter step n (Pt.p1 ((i / 2:Nat):Int) ((Z86.up l).map bh) ((Z96.vi i l c).map bh))=ret (r.map bh) else c=r)->
   step (iter step n) (Pt.p0 (l.map bh) (i:Int) (c.map bh))=ret (r.map bh)/\step (iter step n) (Pt.p1 (i:Int) (l.map bh) (c.map bh))=ret (r.map bh):=by
  intro i l c r n hl hi hc h
  have hs:=BK i hi
  have hd:=Z96.half i hi
  refine ⟨?_,?_⟩
  all_goals
   simp only [step,MM,List.length_map,gN,hs,hd,cB]
   by_cases h1:l.length>1
   ·rw [if_pos h1] at h
    rw [decide_eq_true (show (l.length:Int)>1 by omega),bf]
    by_cases h2:Z96.vh i<l.length
    ·rw [Z96.vi,if_pos h2,List.map_append] at h
     rw [decide_eq_true (show ((Z96.vh i:Nat):Int)<(l.length:Int) by omega),bf,decide_eq_true (show (0:Int)<=((Z96.vh i:Nat):Int) by omega),bf,bf,iJ (by omega),bf]
     exact aZ ((Z86.up l).map bh) (Z199.aj hl) h
    ·rw [Z96.vi,if_neg h2] at h
     rw [decide_eq_false (show ¬((Z96.vh i:Nat):Int)<(l.length:Int) by omega),bq]
     exact aZ ((Z86.up l).map bh) (Z199.aj hl) h
   ·rw [if_neg h1] at h
    rw [decide_eq_false (show ¬(l.length:Int)>1 by omega),bq,h]
 have key:∀(k i:Nat) (l c:List Int),bL (2^38) (fun y:Int=>True) l->l.length<=k->i<2^40->c.length+k<2^40->
   ∃n,step (iter step n) (Pt.p0 (l.map bh) (i:Int) (c.map bh))=ret ((Z96.yT k i l c).map bh)/\step (iter step n) (Pt.p1 (i:Int) (l.map bh) (c.map bh))=ret ((Z96.yT k i l c).map bh):=by
  intro k
  induction k with
  | zero=>intro i l c hl hk hi hc;exact ⟨0,one i l c _ 0 hl hi (by omega) (by rw [if_neg (by omega)];rfl)⟩
  | succ k ih=>
   intro i l c hl hk hi hc
   unfold Z96.yT
   by_cases h1:l.length>1
   ·have hu:=Z86.jX l
    have hl1:=hl.1
    have h2:(Z96.vi i l c).length<=c.length+1:=by unfold Z96.vi;split<;>simp
    obtain ⟨n,_,hn⟩:=ih (i / 2) (Z86.up l) (Z96.vi i l c) ⟨by omega,fun _ _=>trivial⟩ (by omega) (by omega) (by omega)
    rw [if_pos h1]
    exact ⟨n+1,one i l c _ (n+1) hl hi (by omega) (by rw [if_pos h1];exact hn)⟩
   ·rw [if_neg h1]
    exact ⟨0,one i l c _ 0 hl hi (by omega) (by rw [if_neg h1])⟩
 unfold gd at hg
 unfold start md Z96.md
 simp only [List.length_map]
 have hlen:=hg.1
 cases h:Z47.md a1 0 (i64.wrap ((a0.length:Int) - 1))
 ·exact ⟨0,aZ false (by rw [<-h,<-Z141.br];exact Z141.aj trivial) rfl⟩
 ·have hh:=h
  rw [wi _ (by omega)] at hh
  simp [Z47.md] at hh
  obtain ⟨i,rfl⟩:=Int.eq_ofNat_of_zero_le hh.1
  obtain ⟨n,hn,_⟩:=key a0.length i a0 [] hg (Nat.le_refl _) (by omega) (by simp only [List.length_nil];omega)
  exact ⟨n+1,aZ true (by rw [<-h,<-Z141.br];exact Z141.aj trivial) hn⟩
def af:cw 219 aT:=L2 36 pid cg bZ live step start mix aE bt (.cons Z141.af (.cons Z199.af .nil)) Tryz.func219
def len (a0:List Int)(a1:Int):(md a0 a1).length<=a0.length:=by
 intros;unfold md Z96.md
 cases Z47.md _ 0 _
 ·exact zero_le _
 ·exact le_trans (Z96.tg _ _ _ _) (by simp)
def br (a0:List Int)(a1:Int):md a0 a1=Z96.md a0 a1:=by
 unfold md Z96.md
 first
 | (simp only [Z141.br,Z199.br];done)
 | (simp only [Z141.br,Z199.br];rfl)
 | rfl
end Z214
namespace Z215
def F (x0:aC)(x1:aB):aH:=(call (Z211.R (x0,x1)) fun v1=>(cond (decide (v1<0)) (ret (((⟨0,[]⟩:bS),false):bS×Bool)) (call (Z196.R x0) fun v2=>(call (Z214.R (v2,v1)) fun v3=>ret (((⟨v1,v3⟩:bS),true):bS×Bool)))))
def md (a0:List ah)(a1:aB):aM×Bool:=(cond (decide ((Z211.md a0 a1)<0)) ((⟨0,[]⟩:aM),false) ((⟨(Z211.md a0 a1),(Z214.md (Z196.md a0) (Z211.md a0 a1))⟩:aM),true))
def gd (a0:List ah)(a1:aB):Prop:=(bL (2^21) (fun y:ah=>ah.Sm (2^21) y) a0)
def R:=RR (p2 gd) (u2 md)
def aj {a0 a1}(h:gd a0 a1):R ((a0.map ah.row),a1)=some ((aM.r (md a0 a1).1),(md a0 a1).2):=aN (a:=(a0,a1)) h
def aT:=CN [pL 57,pS] (.iE [(true,f161),(false,[fB])]) RT.dec R
def bt (a0)(a1)(hg:gd a0 a1):F (a0.map ah.row) a1=ret ((aM.r (md a0 a1).1),(md a0 a1).2):=by
 unfold gd at hg
 have H0:=hg
 unfold F md
 try simp only [SS]
 refine ct (Z211.aj H0) ?_
 have fv1_:=Z211.fa a0 a1
 refine au (fun b:aM×Bool=>ret (((aM.r b.1),b.2):bS×Bool)) (fun c1=>?_) (fun c1=>?_)
 ·all_goals exact fz
 ·have dc1:=c1
  try simp only [DC] at dc1
  refine ct (Z196.aj H0) ?_
  try simp only [SS]
  refine ct (Z214.aj ⟨(have:=Z196.len a0;have:=(H0).1;om),fun _ _=>trivial⟩) ?_
  try simp only [SS]
  all_goals exact fz
def af:cw 177 aT:=W2 19 F mix aE bt (.cons Z211.af (.cons Z196.af (.cons Z214.af .nil))) Tryz.func177
def gh {a0:List ah}{a1:aB}(hg:gd a0 a1):aM.Sm (2^21) ((md a0 a1).1):=by
 unfold gd at hg;unfold md
 cases decide (Z211.md a0 a1<0)
 ·refine ⟨?_,fun _ _=>trivial⟩
  have h:=Z214.len (Z196.md a0) (Z211.md a0 a1)
  rw [Z196.len] at h
  exact le_trans h hg.1
 ·exact bL.nil
def br (a0:List ah)(a1:aB):md a0 a1=Z97.md a0 a1:=by
 unfold md Z97.md
 first
 | (simp only [Z211.br,Z196.br,Z214.br];done)
 | (simp only [Z211.br,Z196.br,Z214.br];rfl)
 | rfl
end Z215
namespace Z216
inductive Pt where
 | p0 (a:aB) (b:Int) (c:aC) (d e:Int)
def pid:Pt->Nat
 | .p0 ..=>3
def cg:Pt->List V
 | .p0 a b c d e=>[.str a,.int .i64 b,.sl none 57 c,.int .i64 d,.int .i64 e]
def bZ:Pt->List aW
 | .p0 a b c d e=>[]
def step (J:Pt->aH):Pt->aH
 | .p0 a b c d e=>(cond (decide (e<d)) (m2 e (c.length:Int) (call (Z190.R ((aU.at c (toNat e)).bk,a)) fun v1=>(cond (decide (v1<0)) (J (.p0 a (i64.wrap (b+1)) c d (i64.wrap (e+1)))) (J (.p0 a b c d (i64.wrap (e+1))))))) (ret (b:Int)))
def start (J:Pt->aH)(x0:aC)(x1:aB):aH:=J (.p0 x1 0 x0 (x0.length:Int) 0)
def live:Nat->Live:=fun i=>match i with | 3=>[(1,none),(5,none),(8,none),(9,none),(10,none)] | _=>[]
def md (a0:List ah)(a1:aB):Int:=(dX (S:=Int) (β:=Int) (fun (y1:ah) (s3:Int)=>(cond (decide ((Z190.md (y1.bk) a1)<0)) (.inl (i64.wrap (s3+1))) (.inl s3))) (fun (s3:Int)=>(s3:Int)) a0 0)
def gd (a0:List ah)(a1:aB):Prop:=(bL (2^21) (fun y:ah=>ah.Sm (2^21) y) a0)
def R:=RR (p2 gd) (u2 md)
def aj {a0 a1}(h:gd a0 a1):R ((a0.map ah.row),a1)=some (md a0 a1):=aN (a:=(a0,a1)) h
def aT:=CN [pL 57,pS] oI RT.dec R
def bt (a0)(a1)(hg:gd a0 a1):∃n,start (iter step n) (a0.map ah.row) a1=ret (md a0 a1):=by
 unfold gd at hg
 have H0:=hg
 unfold start md
 try simp only [SS]
 have Bh2:a0.length<=maxLen:=(by
   have:=(H0).1
   try simp only [maxLen] at *
   omega)
 refine ex_eq (out:=ret) (eG (z:=ah.zero)) ?_
 refine dK (p:=Pt.p0 a1 0 (a0.map ah.row) (a0.length:Int) 0) fz ?_
 refine cj (pt:=fun (i1:Nat) (s3:Int)=>Pt.p0 a1 s3 (a0.map ah.row) (a0.length:Int) (i1:Int)) (s:=(0:Int)) (out:=ret) (fun _ _=>True) (fun J i1 s3 h2 hih2=>?_) (fun s3 hih2=>?_) trivial
 ·simp only [step,SS]
  have bb_:=Bh2
  simp only [maxLen] at bb_
  have:=(H0).1
  refine bz.yes (by apply decide_eq_true;omega) ?_
  refine bz.yes aI ?_
  refine bz.yes (aL h2) ?_
  refine cr (Z190.aj trivial) ?_
  refine bz.bif (fun c4=>?_) (fun c4=>?_)
  ·refine bz.inl trivial ?_
   rw [aG h2 Bh2]
   all_goals exact fz
  ·refine bz.inl trivial ?_
   rw [aG h2 Bh2]
   all_goals exact fz
 ·simp only [step,SS]
  have:=(H0).1
  refine dx (by apply decide_eq_false;omega) ?_
  refine ⟨0,?_⟩
  all_goals exact fz
def af:cw 222 aT:=L2 23 pid cg bZ live step start mix aE bt (.cons Z190.af .nil) Tryz.func222
def fa (a0:List ah)(a1:aB):a0.length<=2^21->0<=md a0 a1/\md a0 a1<=(a0.length:Int):=fun hl=>by
 have key:∀(xs:List ah) (s:Int),0<=s->s+xs.length<=2^22->0<=dX (S:=Int) (β:=Int) (fun (y1:ah) (s3:Int)=>(cond (decide ((Z190.md (y1.bk) a1)<0)) (.inl (i64.wrap (s3+1))) (.inl s3))) (fun (s3:Int)=>(s3:Int)) xs s/\dX (S:=Int) (β:=Int) (fun (y1:ah) (s3:Int)=>(cond (decide ((Z190.md (y1.bk) a1)<0)) (.inl (i64.wrap (s3+1))) (.inl s3))) (fun (s3:Int)=>(s3:Int)) xs s<=s+xs.length:=by
  intro xs
  induction xs with
  | nil=>intro s h0 h1;exact ⟨h0,by simp [dX]⟩
  | cons x xs ih=>
   intro s h0 h1
   simp only [List.length_cons] at h1 ⊢
   unfold dX
   cases decide (Z190.md x.bk a1<0)
   ·have:=ih s h0 (by omega)
    simp only [bq]
    omega
   ·have:=ih (s+1) (by omega) (by omega)
    simp only [bf]
    rw [wi _ (by omega)]
    omega
 have:=key a0 0 (Int.le_refl _) (by omega)
 unfold md
 omega
def br (a0:List ah)(a1:aB):md a0 a1=Z98.md a0 a1:=by
 unfold md Z98.md
 first
 | (simp only [Z190.br];done)
 | (simp only [Z190.br];rfl)
 | rfl
end Z216
namespace Z217
def F (x0:aC)(x1:aB):aH:=(call (Z191.R x0) fun v1=>(cond (!v1) (ret (((⟨0,(⟨(⟨#[]⟩:aB),0,0,[]⟩:aU),(⟨(⟨#[]⟩:aB),0,0,[]⟩:aU),(⟨0,[]⟩:bS),(⟨0,[]⟩:bS)⟩:dM),false):dM×Bool)) (call (Z142.R x1) fun v2=>(cond (!v2) (ret (((⟨0,(⟨(⟨#[]⟩:aB),0,0,[]⟩:aU),(⟨(⟨#[]⟩:aB),0,0,[]⟩:aU),(⟨0,[]⟩:bS),(⟨0,[]⟩:bS)⟩:dM),false):dM×Bool)) (call (Z211.R (x0,x1)) fun v3=>(cond (decide (v3>=0)) (ret (((⟨0,(⟨(⟨#[]⟩:aB),0,0,[]⟩:aU),(⟨(⟨#[]⟩:aB),0,0,[]⟩:aU),(⟨0,[]⟩:bS),(⟨0,[]⟩:bS)⟩:dM),false):dM×Bool)) (call (Z216.R (x0,x1)) fun v4=>(cond (decide (v4>0)) (ck (decide ((0:Int)<=(i64.wrap (v4 - 1)))) (ck (decide ((i64.wrap (v4 - 1))<(x0.length:Int))) (call (Z213.R (aU.at x0 (toNat (i64.wrap (v4 - 1))))) fun v5=>(call (Z215.R (x0,v5.bk)) fun v6=>(cond (decide (v4<(x0.length:Int))) (m2 v4 (x0.length:Int) (call (Z213.R (aU.at x0 (toNat v4))) fun v7=>(call (Z215.R (x0,v7.bk)) fun v8=>ret (((⟨v4,v5,v7,v6.1,v8.1⟩:dM),true):dM×Bool)))) (ret (((⟨v4,v5,(⟨(⟨#[]⟩:aB),0,0,[]⟩:aU),v6.1,(⟨0,[]⟩:bS)⟩:dM),true):dM×Bool))))))) (cond (decide (v4<(x0.length:Int))) (m2 v4 (x0.length:Int) (call (Z213.R (aU.at x0 (toNat v4))) fun v9=>(call (Z215.R (x0,v9.bk)) fun v10=>ret (((⟨v4,(⟨(⟨#[]⟩:aB),0,0,[]⟩:aU),v9,(⟨0,[]⟩:bS),v10.1⟩:dM),true):dM×Bool)))) (ret (((⟨v4,(⟨(⟨#[]⟩:aB),0,0,[]⟩:aU),(⟨(⟨#[]⟩:aB),0,0,[]⟩:aU),(⟨0,[]⟩:bS),(⟨0,[]⟩:bS)⟩:dM),true):dM×Bool)))))))))))
def md (a0:List ah)(a1:aB):bU×Bool:=(cond (!(Z191.md a0)) ((⟨0,(⟨((⟨#[]⟩:aB):aB),0,0,[]⟩:ah),(⟨((⟨#[]⟩:aB):aB),0,0,[]⟩:ah),(⟨0,[]⟩:aM),(⟨0,[]⟩:aM)⟩:bU),false) (cond (!(Z142.md a1)) ((⟨0,(⟨((⟨#[]⟩:aB):aB),0,0,[]⟩:ah),(⟨((⟨#[]⟩:aB):aB),0,0,[]⟩:ah),(⟨0,[]⟩:aM),(⟨0,[]⟩:aM)⟩:bU),false) (cond (decide ((Z211.md a0 a1)>=0)) ((⟨0,(⟨((⟨#[]⟩:aB):aB),0,0,[]⟩:ah),(⟨((⟨#[]⟩:aB):aB),0,0,[]⟩:ah),(⟨0,[]⟩:aM),(⟨0,[]⟩:aM)⟩:bU),false) (cond (decide ((Z216.md a0 a1)>0)) (cond (decide ((Z216.md a0 a1)<(a0.length:Int))) ((⟨(Z216.md a0 a1),(a0.getD (toNat (i64.wrap ((Z216.md a0 a1) - 1))) ah.zero),(a0.getD (toNat (Z216.md a0 a1)) ah.zero),(Z215.md a0 ((a0.getD (toNat (i64.wrap ((Z216.md a0 a1) - 1))) ah.zero).bk)).1,(Z215.md a0 ((a0.getD (toNat (Z216.md a0 a1)) ah.zero).bk)).1⟩:bU),true) ((⟨(Z216.md a0 a1),(a0.getD (toNat (i64.wrap ((Z216.md a0 a1) - 1))) ah.zero),(⟨((⟨#[]⟩:aB):aB),0,0,[]⟩:ah),(Z215.md a0 ((a0.getD (toNat (i64.wrap ((Z216.md a0 a1) - 1))) ah.zero).bk)).1,(⟨0,[]⟩:aM)⟩:bU),true)) (cond (decide ((Z216.md a0 a1)<(a0.length:Int))) ((⟨(Z216.md a0 a1),(⟨((⟨#[]⟩:aB):aB),0,0,[]⟩:ah),(a0.getD (toNat (Z216.md a0 a1)) ah.zero),(⟨0,[]⟩:aM),(Z215.md a0 ((a0.getD (toNat (Z216.md a0 a1)) ah.zero).bk)).1⟩:bU),true) ((⟨(Z216.md a0 a1),(⟨((⟨#[]⟩:aB):aB),0,0,[]⟩:ah),(⟨((⟨#[]⟩:aB):aB),0,0,[]⟩:ah),(⟨0,[]⟩:aM),(⟨0,[]⟩:aM)⟩:bU),true))))))
def gd (a0:List ah)(a1:aB):Prop:=(bL (2^21) (fun y:ah=>ah.Sm (2^21) y) a0)/\(a1.size<=(2^21))
def R:=RR (p2 gd) (u2 md)
def aj {a0 a1}(h:gd a0 a1):R ((a0.map ah.row),a1)=some ((bU.r (md a0 a1).1),(md a0 a1).2):=aN (a:=(a0,a1)) h
def aT:=CN [pL 57,pS] (.iE [(true,f163),(false,[fB])]) RT.dec R
def bt (a0)(a1)(hg:gd a0 a1):F (a0.map ah.row) a1=ret ((bU.r (md a0 a1).1),(md a0 a1).2):=by
 obtain ⟨H0,H1⟩:=hg
 unfold F md
 try simp only [SS]
 refine ct (Z191.aj H0) ?_
 refine au (fun b:bU×Bool=>ret (((bU.r b.1),b.2):dM×Bool)) (fun c1=>?_) (fun c1=>?_)
 ·all_goals exact fz
 ·have dc1:=c1
  try simp only [DC] at dc1
  refine ct (Z142.aj (le_trans H1 (by decide))) ?_
  refine au (fun b:bU×Bool=>ret (((bU.r b.1),b.2):dM×Bool)) (fun c2=>?_) (fun c2=>?_)
  ·all_goals exact fz
  ·have dc2:=c2
   try simp only [DC] at dc2
   refine ct (Z211.aj H0) ?_
   have fv3_:=Z211.fa a0 a1
   refine au (fun b:bU×Bool=>ret (((bU.r b.1),b.2):dM×Bool)) (fun c3=>?_) (fun c3=>?_)
   ·all_goals exact fz
   ·have dc3:=c3
    try simp only [DC] at dc3
    refine ct (Z216.aj H0) ?_
    have fv4_:=Z216.fa a0 a1
    refine au (fun b:bU×Bool=>ret (((bU.r b.1),b.2):dM×Bool)) (fun c4=>?_) (fun c4=>?_)
    ·have dc4:=c4
     try simp only [DC] at dc4
     refine ak (have:=(H0).1;dt) ?_
     refine ak (have:=(H0).1;have:=(H0).1;dt) ?_
     refine ct (Z213.aj (bL.getD (z:=ah.zero) H0 (by have:=(H0).1;first | assumption | omega | (simp (disch:=omega) only [wi];omega) | (simp;omega)))) ?_
     try simp only [SS]
     refine ct (Z215.aj H0) ?_
     try simp only [SS]
     refine au (fun b:bU×Bool=>ret (((bU.r b.1),b.2):dM×Bool)) (fun c5=>?_) (fun c5=>?_)
     ·have dc5:=c5
      try simp only [DC] at dc5
      refine ak (have:=(H0).1;dt) ?_
      refine ak (have:=(H0).1;have:=(H0).1;dt) ?_
      refine ct (Z213.aj (bL.getD (z:=ah.zero) H0 (by have:=(H0).1;first | assumption | omega | (simp (disch:=omega) only [wi];omega) | (simp;omega)))) ?_
      try simp only [SS]
      refine ct (Z215.aj H0) ?_
      try simp only [SS]
      all_goals exact fz
     ·all_goals exact fz
    ·have dc4:=c4
     try simp only [DC] at dc4
     refine au (fun b:bU×Bool=>ret (((bU.r b.1),b.2):dM×Bool)) (fun c6=>?_) (fun c6=>?_)
     ·have dc6:=c6
      try simp only [DC] at dc6
      refine ak (have:=(H0).1;dt) ?_
      refine ak (have:=(H0).1;have:=(H0).1;dt) ?_
      refine ct (Z213.aj (bL.getD (z:=ah.zero) H0 (by have:=(H0).1;first | assumption | omega | (simp (disch:=omega) only [wi];omega) | (simp;omega)))) ?_
      try simp only [SS]
      refine ct (Z215.aj H0) ?_
      try simp only [SS]
      all_goals exact fz
     ·all_goals exact fz
def af:cw 178 aT:=W2 68 F mix aE bt (.cons Z191.af (.cons Z142.af (.cons Z211.af (.cons Z216.af (.cons Z213.af (.cons Z215.af .nil)))))) Tryz.func178
def gh {a0:List ah}{a1:aB}(hg:gd a0 a1):bU.Sm (2^21) ((md a0 a1).1):=by
 unfold gd at hg;unfold md
 have ez:ah.Sm (2^21) ⟨⟨#[]⟩,0,0,[]⟩:=⟨zero_le _,bL.nil⟩
 have pz:aM.Sm (2^21) ⟨0,[]⟩:=bL.nil
 have he:∀i,ah.Sm (2^21) (a0.getD i ah.zero):=fun i=>bL.vp hg.1 ez
 have hp:∀x,aM.Sm (2^21) (Z215.md a0 x).1:=fun x=>Z215.gh hg.1
 simp only [Bool.cond_eq_ite]
 repeat' split
 all_goals (refine ⟨?_,?_,?_,?_⟩<;>first | exact he _ | exact hp _ | exact ez | exact pz)
def br (a0:List ah)(a1:aB):md a0 a1=Z99.md a0 a1:=by
 unfold md Z99.md
 first
 | (simp only [Z191.br,Z142.br,Z211.br,Z216.br,Z215.br];done)
 | (simp only [Z191.br,Z142.br,Z211.br,Z216.br,Z215.br];rfl)
 | rfl
end Z217
namespace Z218
def F (x0:dL)(x1:aB):aH:=(call (Z204.R x0) fun v1=>(cond (!v1) (ret ((⟨[],false,(⟨(⟨#[]⟩:aB),0,0,[]⟩:aU),(⟨0,[]⟩:bS),(⟨0,(⟨(⟨#[]⟩:aB),0,0,[]⟩:aU),(⟨(⟨#[]⟩:aB),0,0,[]⟩:aU),(⟨0,[]⟩:bS),(⟨0,[]⟩:bS)⟩:dM)⟩:bg):bg)) (call (Z142.R x1) fun v2=>(cond (!v2) (ret ((⟨[],false,(⟨(⟨#[]⟩:aB),0,0,[]⟩:aU),(⟨0,[]⟩:bS),(⟨0,(⟨(⟨#[]⟩:aB),0,0,[]⟩:aU),(⟨(⟨#[]⟩:aB),0,0,[]⟩:aU),(⟨0,[]⟩:bS),(⟨0,[]⟩:bS)⟩:dM)⟩:bg):bg)) (call (Z138.R x0.aS) fun v3=>(call (Z211.R (x0.bM,x1)) fun v4=>(cond (decide (v4>=0)) (m2 v4 (x0.bM.length:Int) (call (Z213.R (aU.at x0.bM (toNat v4))) fun v5=>(call (Z215.R (x0.bM,x1)) fun v6=>ret ((⟨v3,true,v5,v6.1,(⟨0,(⟨(⟨#[]⟩:aB),0,0,[]⟩:aU),(⟨(⟨#[]⟩:aB),0,0,[]⟩:aU),(⟨0,[]⟩:bS),(⟨0,[]⟩:bS)⟩:dM)⟩:bg):bg)))) (call (Z217.R (x0.bM,x1)) fun v7=>ret ((⟨v3,false,(⟨(⟨#[]⟩:aB),0,0,[]⟩:aU),(⟨0,[]⟩:bS),v7.1⟩:bg):bg)))))))))
def md (a0:aK)(a1:aB):ay:=(cond (!(Z204.md a0)) (⟨[],false,(⟨((⟨#[]⟩:aB):aB),0,0,[]⟩:ah),(⟨0,[]⟩:aM),(⟨0,(⟨((⟨#[]⟩:aB):aB),0,0,[]⟩:ah),(⟨((⟨#[]⟩:aB):aB),0,0,[]⟩:ah),(⟨0,[]⟩:aM),(⟨0,[]⟩:aM)⟩:bU)⟩:ay) (cond (!(Z142.md a1)) (⟨[],false,(⟨((⟨#[]⟩:aB):aB),0,0,[]⟩:ah),(⟨0,[]⟩:aM),(⟨0,(⟨((⟨#[]⟩:aB):aB),0,0,[]⟩:ah),(⟨((⟨#[]⟩:aB):aB),0,0,[]⟩:ah),(⟨0,[]⟩:aM),(⟨0,[]⟩:aM)⟩:bU)⟩:ay) (cond (decide ((Z211.md a0.bM a1)>=0)) (⟨a0.aS,true,(a0.bM.getD (toNat (Z211.md a0.bM a1)) ah.zero),(Z215.md a0.bM a1).1,(⟨0,(⟨((⟨#[]⟩:aB):aB),0,0,[]⟩:ah),(⟨((⟨#[]⟩:aB):aB),0,0,[]⟩:ah),(⟨0,[]⟩:aM),(⟨0,[]⟩:aM)⟩:bU)⟩:ay) (⟨a0.aS,false,(⟨((⟨#[]⟩:aB):aB),0,0,[]⟩:ah),(⟨0,[]⟩:aM),(Z217.md a0.bM a1).1⟩:ay))))
def gd (a0:aK)(a1:aB):Prop:=(aK.Sm (2^21) a0)/\(a1.size<=(2^21))
def R:=RR (p2 gd) (u2 md)
def aj {a0 a1}(h:gd a0 a1):R ((aK.r a0),a1)=some (ay.r (md a0 a1)):=aN (a:=(a0,a1)) h
def aT:=CN [.agg sG,pS] (.agg f165) RT.dec R
def bt (a0)(a1)(hg:gd a0 a1):F (aK.r a0) a1=ret (ay.r (md a0 a1)):=by
 obtain ⟨H0,H1⟩:=hg
 unfold F md
 try simp only [SS]
 refine ct (Z204.aj H0) ?_
 refine au (fun b:ay=>ret ((ay.r b):bg)) (fun c1=>?_) (fun c1=>?_)
 ·all_goals exact fz
 ·have dc1:=c1
  try simp only [DC] at dc1
  try have tc1:=Z204.tr (by simpa using c1)
  refine ct (Z142.aj (le_trans H1 (by decide))) ?_
  refine au (fun b:ay=>ret ((ay.r b):bg)) (fun c2=>?_) (fun c2=>?_)
  ·all_goals exact fz
  ·have dc2:=c2
   try simp only [DC] at dc2
   refine ct (Z138.aj H0.1) ?_
   try simp only [SS]
   refine ct (Z211.aj H0.2) ?_
   have fv4_:=Z211.fa a0.bM a1
   refine au (fun b:ay=>ret ((ay.r b):bg)) (fun c3=>?_) (fun c3=>?_)
   ·have dc3:=c3
    try simp only [DC] at dc3
    refine ak dt ?_
    refine ak (have:=(H0.2).1;dt) ?_
    refine ct (Z213.aj (bL.getD (z:=ah.zero) H0.2 (by first | assumption | omega | (simp (disch:=omega) only [wi];omega) | (simp;omega)))) ?_
    try simp only [SS]
    refine ct (Z215.aj H0.2) ?_
    try simp only [SS]
    all_goals exact fz
   ·refine ct (Z217.aj ⟨H0.2,H1⟩) ?_
    try simp only [SS]
    all_goals exact fz
def af:cw 139 aT:=W2 51 F mix aE bt (.cons Z204.af (.cons Z142.af (.cons Z138.af (.cons Z211.af (.cons Z213.af (.cons Z215.af (.cons Z217.af .nil))))))) Tryz.func139
def gh {a0:aK}{a1:aB}(hg:gd a0 a1):ay.Sm (2^21) (md a0 a1):=by
 unfold gd at hg;unfold md
 obtain ⟨⟨hc,hl⟩,_⟩:=hg
 have ez:ah.Sm (2^21) ⟨⟨#[]⟩,0,0,[]⟩:=⟨zero_le _,bL.nil⟩
 have pz:aM.Sm (2^21) ⟨0,[]⟩:=bL.nil
 have gz:bU.Sm (2^21) ⟨0,⟨⟨#[]⟩,0,0,[]⟩,⟨⟨#[]⟩,0,0,[]⟩,⟨0,[]⟩,⟨0,[]⟩⟩:=⟨ez,ez,pz,pz⟩
 have he:∀i,ah.Sm (2^21) (a0.bM.getD i ah.zero):=fun i=>bL.vp hl ez
 have hp:∀x,aM.Sm (2^21) (Z215.md a0.bM x).1:=fun x=>Z215.gh hl
 have hga:bU.Sm (2^21) (Z217.md a0.bM a1).1:=Z217.gh ⟨hl,by assumption⟩
 simp only [Bool.cond_eq_ite]
 repeat' split
 all_goals (refine ⟨?_,?_,?_,?_⟩<;>first | exact hc | exact bL.nil | exact he _ | exact hp _ | exact hga | exact ez | exact pz | exact gz)
def br (a0:aK)(a1:aB):md a0 a1=Z100.md a0 a1:=by
 unfold md Z100.md
 first
 | (simp only [Z204.br,Z142.br,Z211.br,Z215.br,Z217.br];done)
 | (simp only [Z204.br,Z142.br,Z211.br,Z215.br,Z217.br];rfl)
 | rfl
end Z218
namespace Z219
def F (x0:cL)(x1:Int)(x2:aB):aH:=(call (Z208.R (x0,x1)) fun v1=>(cond (decide (v1<0)) (ret ((⟨[],false,(⟨(⟨#[]⟩:aB),0,0,[]⟩:aU),(⟨0,[]⟩:bS),(⟨0,(⟨(⟨#[]⟩:aB),0,0,[]⟩:aU),(⟨(⟨#[]⟩:aB),0,0,[]⟩:aU),(⟨0,[]⟩:bS),(⟨0,[]⟩:bS)⟩:dM)⟩:bg):bg)) (cond (x0.gI==4) (ret ((⟨[],false,(⟨(⟨#[]⟩:aB),0,0,[]⟩:aU),(⟨0,[]⟩:bS),(⟨0,(⟨(⟨#[]⟩:aB),0,0,[]⟩:aU),(⟨(⟨#[]⟩:aB),0,0,[]⟩:aU),(⟨0,[]⟩:bS),(⟨0,[]⟩:bS)⟩:dM)⟩:bg):bg)) (m2 v1 (x0.bG.length:Int) (call (Z218.R ((dL.at x0.bG (toNat v1)),x2)) fun v2=>(cond (x0.gI==1) (ret ((⟨v2.aS,v2.cu,(⟨v2.aV.bk,v2.aV.bK,(i64.wrap (v2.aV.bW+1)),v2.aV.bI⟩:aU),v2.eD,v2.fV⟩:bg):bg)) (cond (x0.gI==2) (ck (decide ((0:Int)<=(cond (decide ((0:Int)<(i64.wrap ((v2.aS.length:Int) - 1)))) (i64.wrap ((v2.aS.length:Int) - 1)) 0))) (ck (decide ((cond (decide ((0:Int)<(i64.wrap ((v2.aS.length:Int) - 1)))) (i64.wrap ((v2.aS.length:Int) - 1)) 0)<=(v2.aS.length:Int))) (ret ((⟨(List.take (toNat (cond (decide ((0:Int)<(i64.wrap ((v2.aS.length:Int) - 1)))) (i64.wrap ((v2.aS.length:Int) - 1)) 0)) v2.aS),v2.cu,v2.aV,v2.eD,v2.fV⟩:bg):bg)))) (cond (x0.gI==3) (ret ((⟨v2.aS,false,(⟨(⟨#[]⟩:aB),0,0,[]⟩:aU),(⟨0,[]⟩:bS),(⟨0,(⟨(⟨#[]⟩:aB),0,0,[]⟩:aU),(⟨(⟨#[]⟩:aB),0,0,[]⟩:aU),(⟨0,[]⟩:bS),(⟨0,[]⟩:bS)⟩:dM)⟩:bg):bg)) (ret (v2:bg))))))))))
def pats:List fY:=[.agg [.sl 155,aD],.rd (.int .i64),.rd (.str)]
def res:RP:=.agg [.fr 141,.rd (.bool),.rd (.str),.rd (.int .i64),.rd (.int .i64),.fr 9,.rd (.int .i64),.fr 3,.rd (.int .i64),.rd (.str),.rd (.int .i64),.rd (.int .i64),.fr 9,.rd (.str),.rd (.int .i64),.rd (.int .i64),.fr 9,.rd (.int .i64),.fr 3,.rd (.int .i64),.fr 3]
def md (a0:av)(a1:Int)(a2:aB):ay:=(cond (decide ((Z208.md a0 a1)<0)) (⟨[],false,(⟨((⟨#[]⟩:aB):aB),0,0,[]⟩:ah),(⟨0,[]⟩:aM),(⟨0,(⟨((⟨#[]⟩:aB):aB),0,0,[]⟩:ah),(⟨((⟨#[]⟩:aB):aB),0,0,[]⟩:ah),(⟨0,[]⟩:aM),(⟨0,[]⟩:aM)⟩:bU)⟩:ay) (cond (a0.gI==4) (⟨[],false,(⟨((⟨#[]⟩:aB):aB),0,0,[]⟩:ah),(⟨0,[]⟩:aM),(⟨0,(⟨((⟨#[]⟩:aB):aB),0,0,[]⟩:ah),(⟨((⟨#[]⟩:aB):aB),0,0,[]⟩:ah),(⟨0,[]⟩:aM),(⟨0,[]⟩:aM)⟩:bU)⟩:ay) (cond (a0.gI==1) (⟨(Z218.md (a0.bG.getD (toNat (Z208.md a0 a1)) aK.zero) a2).aS,(Z218.md (a0.bG.getD (toNat (Z208.md a0 a1)) aK.zero) a2).cu,(⟨(Z218.md (a0.bG.getD (toNat (Z208.md a0 a1)) aK.zero) a2).aV.bk,(Z218.md (a0.bG.getD (toNat (Z208.md a0 a1)) aK.zero) a2).aV.bK,(i64.wrap ((Z218.md (a0.bG.getD (toNat (Z208.md a0 a1)) aK.zero) a2).aV.bW+1)),(Z218.md (a0.bG.getD (toNat (Z208.md a0 a1)) aK.zero) a2).aV.bI⟩:ah),(Z218.md (a0.bG.getD (toNat (Z208.md a0 a1)) aK.zero) a2).eD,(Z218.md (a0.bG.getD (toNat (Z208.md a0 a1)) aK.zero) a2).fV⟩:ay) (cond (a0.gI==2) (⟨(List.take (toNat (cond (decide ((0:Int)<(i64.wrap (((Z218.md (a0.bG.getD (toNat (Z208.md a0 a1)) aK.zero) a2).aS.length:Int) - 1)))) (i64.wrap (((Z218.md (a0.bG.getD (toNat (Z208.md a0 a1)) aK.zero) a2).aS.length:Int) - 1)) 0)) (Z218.md (a0.bG.getD (toNat (Z208.md a0 a1)) aK.zero) a2).aS),(Z218.md (a0.bG.getD (toNat (Z208.md a0 a1)) aK.zero) a2).cu,(Z218.md (a0.bG.getD (toNat (Z208.md a0 a1)) aK.zero) a2).aV,(Z218.md (a0.bG.getD (toNat (Z208.md a0 a1)) aK.zero) a2).eD,(Z218.md (a0.bG.getD (toNat (Z208.md a0 a1)) aK.zero) a2).fV⟩:ay) (cond (a0.gI==3) (⟨(Z218.md (a0.bG.getD (toNat (Z208.md a0 a1)) aK.zero) a2).aS,false,(⟨((⟨#[]⟩:aB):aB),0,0,[]⟩:ah),(⟨0,[]⟩:aM),(⟨0,(⟨((⟨#[]⟩:aB):aB),0,0,[]⟩:ah),(⟨((⟨#[]⟩:aB):aB),0,0,[]⟩:ah),(⟨0,[]⟩:aM),(⟨0,[]⟩:aM)⟩:bU)⟩:ay) (Z218.md (a0.bG.getD (toNat (Z208.md a0 a1)) aK.zero) a2))))))
def gd (a0:av)(a1:Int)(a2:aB):Prop:=(av.Sm (2^21) a0)/\(a2.size<=(2^21))
def acc (ls:List L):cL×Int×aB:=((cL.dec ls),((aA 2 ls).headD .hole).toInt,((aA 3 ls).headD .hole).toStr)
def R:(cL×Int×aB)->Option bg:=RR (p3 gd) (u3 md)
def aj {a0 a1 a2}(h:gd a0 a1 a2):R ((av.r a0),a1,a2)=some (ay.r (md a0 a1 a2)):=aN (a:=(a0,a1,a2)) h
def aT:fQ:=CN pats res acc R
def bt (a0:av)(a1:Int)(a2:aB)(hg:gd a0 a1 a2):F (av.r a0) a1 a2=ret ((ay.r (md a0 a1 a2)):bg):=by
 obtain ⟨H0,H2⟩:=hg
 unfold F md
 try simp only [SS]
 refine ct (Z208.aj H0) ?_
 have fv1_:=Z208.fa a0 a1
 refine au (fun b:ay=>ret ((ay.r b):bg)) (fun c1=>?_) (fun c1=>?_)
 ·all_goals exact fz
 ·have dc1:=c1
  try simp only [DC] at dc1
  refine au (fun b:ay=>ret ((ay.r b):bg)) (fun c2=>?_) (fun c2=>?_)
  ·all_goals exact fz
  ·have dc2:=c2
   try simp only [DC] at dc2
   refine ak (have:=(H0).1;dt) ?_
   refine ak (have:=(H0).1;have:=(H0).1;dt) ?_
   refine ct (Z218.aj ⟨(bL.getD (z:=aK.zero) H0 (by have:=(H0).1;first | assumption | omega | (simp (disch:=omega) only [wi];omega) | (simp;omega))),H2⟩) ?_
   try simp only [SS]
   refine au (fun b:ay=>ret ((ay.r b):bg)) (fun c3=>?_) (fun c3=>?_)
   ·all_goals exact fz
   ·have dc3:=c3
    try simp only [DC] at dc3
    refine au (fun b:ay=>ret ((ay.r b):bg)) (fun c4=>?_) (fun c4=>?_)
    ·have dc4:=c4
     try simp only [DC] at dc4
     refine ak (have:=((Z218.gh (a0:=a0.bG.getD (toNat (Z208.md a0 a1)) aK.zero) (a1:=a2) ⟨(bL.getD (z:=aK.zero) H0 (by have:=(H0).1;first | assumption | omega | (simp (disch:=omega) only [wi];omega) | (simp;omega))),H2⟩).1).1;have:=(H0).1;dt) ?_
     refine ak (have:=((Z218.gh (a0:=a0.bG.getD (toNat (Z208.md a0 a1)) aK.zero) (a1:=a2) ⟨(bL.getD (z:=aK.zero) H0 (by have:=(H0).1;first | assumption | omega | (simp (disch:=omega) only [wi];omega) | (simp;omega))),H2⟩).1).1;have:=(H0).1;dt) ?_
     all_goals exact fz
    ·refine au (fun b:ay=>ret ((ay.r b):bg)) (fun c5=>?_) (fun c5=>?_)
     ·all_goals exact fz
     ·all_goals exact fz
def af:cw 110 aT:=VT (live:=fun _=>[]) (nt:=54) (run:=fun _ x=>F x.1 x.2.1 x.2.2) mix aE (.cons Z208.af (.cons Z218.af .nil)) .nil Tryz.func110 (by kernel_rfl) (fun _ _=>by kernel_rfl) (fun _ a _ _ hg=>⟨0,bt a.1 a.2.1 a.2.2 hg⟩)
def br (a0:av)(a1:Int)(a2:aB):md a0 a1 a2=Z101.md a0 a1 a2:=by
 unfold md Z101.md
 simp only [Z208.br,Z218.br]
 generalize Z100.md (a0.bG.getD (toNat (Z93.md a0 a1)) aK.zero) a2=A
 have mx:∀n:Int,toNat (cond (decide ((0:Int)<n)) n 0)=toNat n:=by
  intro n
  by_cases h:(0:Int)<n
  ·rw [decide_eq_true h];rfl
  ·rw [decide_eq_false h];simp only [bq];omega
 have e:∀k:Nat,(⟨List.take k A.aS,A.cu,A.aV,A.eD,A.fV⟩:ay)=bif decide ((A.aS.length:Int)>0) then (⟨List.take k A.aS,A.cu,A.aV,A.eD,A.fV⟩:ay) else A:=by
  intro k
  obtain ⟨ch,f,e,p,g⟩:=A
  cases ch with
  | nil=>simp
  | cons x xs=>simp only [List.length_cons];rw [decide_eq_true (by omega)];rfl
 simp only [mx,<-e]
end Z219
namespace Z220
inductive Pt where
 | p0 (a:Int) (b:aB) (c:aC) (d e:Int) (f:aC)
def pid:Pt->Nat
 | .p0 ..=>3
def cg:Pt->List V
 | .p0 a b c d e f=>[.int .i64 a,.str b,.own 0,.sl none 88 c,.int .i64 d,.int .i64 e]
def bZ:Pt->List aW
 | .p0 a b c d e f=>[.row 165 f]
def step (J:Pt->aH):Pt->aH
 | .p0 a b c d e f=>(cond (decide (e<d)) (m2 e (c.length:Int) (call (Z219.R ((cL.at c (toNat e)),a,b)) fun v1=>(ck (eT (((f.length:Int)+1)*304)) (J (.p0 a b c d (i64.wrap (e+1)) (f++[(bg.enc v1)])))))) (ret (f:aC)))
def start (J:Pt->aH)(x0:aC)(x1:Int)(x2:aB):aH:=(ck (decide ((0:Int)<=(cond (decide ((x0.length:Int)<4)) (x0.length:Int) 4))) (ck (decide ((cond (decide ((x0.length:Int)<4)) (x0.length:Int) 4)<=(x0.length:Int))) (J (.p0 x1 x2 (List.take (toNat ((cond (decide ((x0.length:Int)<4)) (x0.length:Int) 4) - 0)) (List.drop 0 x0)) ((List.take (toNat ((cond (decide ((x0.length:Int)<4)) (x0.length:Int) 4) - 0)) (List.drop 0 x0)).length:Int) 0 []))))
def live:Nat->Live:=fun i=>match i with | 3=>[(1,none),(2,none),(7,some 165),(15,none),(16,none),(17,none)] | _=>[]
def md (a0:List av)(a1:Int)(a2:aB):List ay:=((List.take (toNat ((cond (decide ((a0.length:Int)<4)) (a0.length:Int) 4) - 0)) (List.drop 0 a0)).map (fun (y1:av)=>(Z219.md y1 a1 a2)))
def gd (a0:List av)(a1:Int)(a2:aB):Prop:=(bL (2^21) (fun y:av=>av.Sm (2^21) y) a0)/\(a2.size<=(2^21))
def R:=RR (p3 gd) (u3 md)
def aj {a0 a1 a2}(h:gd a0 a1 a2):R ((a0.map av.row),a1,a2)=some ((md a0 a1 a2).map ay.row):=aN (a:=(a0,a1,a2)) h
def aT:=CN [pL 88,pI,pS] (oL 165) RT.dec R
def bt (a0)(a1)(a2)(hg:gd a0 a1 a2):∃n,start (iter step n) (a0.map av.row) a1 a2=ret ((md a0 a1 a2).map ay.row):=by
 obtain ⟨H0,H2⟩:=hg
 unfold start md
 try simp only [SS]
 refine dI (have:=(H0).1;dt) ?_
 refine dI (have:=(H0).1;dt) ?_
 have Bh2:(List.take (toNat ((cond (decide ((a0.length:Int)<4)) (a0.length:Int) 4) - 0)) (List.drop 0 a0)).length<=maxLen:=(by
   have:=(H0).1
   have:=((bL.take (k:=(toNat ((cond (decide ((a0.length:Int)<4)) (a0.length:Int) 4) - 0))) (bL.drop (k:=0) H0))).1
   try simp only [maxLen] at *
   omega)
 refine ex_eq (out:=(fun b:List ay=>ret ((b.map ay.row):aC))) (mC (g:=fun (y1:av)=>(Z219.md y1 a1 a2)) (z:=av.zero) (t:=fun (s3:List ay)=>s3)) ?_
 refine dK (p:=Pt.p0 a1 a2 ((List.take (toNat ((cond (decide ((a0.length:Int)<4)) (a0.length:Int) 4) - 0)) (List.drop 0 a0)).map av.row) ((List.take (toNat ((cond (decide ((a0.length:Int)<4)) (a0.length:Int) 4) - 0)) (List.drop 0 a0)).length:Int) 0 ([].map ay.row)) fz ?_
 refine cj (pt:=fun (i1:Nat) (s3:List ay)=>Pt.p0 a1 a2 ((List.take (toNat ((cond (decide ((a0.length:Int)<4)) (a0.length:Int) 4) - 0)) (List.drop 0 a0)).map av.row) ((List.take (toNat ((cond (decide ((a0.length:Int)<4)) (a0.length:Int) 4) - 0)) (List.drop 0 a0)).length:Int) (i1:Int) (s3.map ay.row)) (s:=([]:List ay)) (out:=(fun b:List ay=>ret ((b.map ay.row):aC))) (fun (i1:Nat) (s3:List ay)=>s3.length<=([]:List Int).length+1*i1) (fun J i1 s3 h2 hih2=>?_) (fun s3 hih2=>?_) (by simp)
 ·simp only [step,SS]
  have gr_:=hih2
  try simp only [LN] at gr_
  have bb_:=Bh2
  simp only [maxLen] at bb_
  have:=(H0).1
  have:=((bL.take (k:=(toNat ((cond (decide ((a0.length:Int)<4)) (a0.length:Int) 4) - 0))) (bL.drop (k:=0) H0))).1
  refine bz.yes (by apply decide_eq_true;omega) ?_
  refine bz.yes aI ?_
  refine bz.yes (aL h2) ?_
  refine cr (Z219.aj ⟨(bL.getD (z:=av.zero) (bL.take (k:=(toNat ((cond (decide ((a0.length:Int)<4)) (a0.length:Int) 4) - 0))) (bL.drop (k:=0) H0)) h2),H2⟩) ?_
  try simp only [SS]
  refine bz.yes lm ?_
  refine bz.inl (by
    have g_:=hih2
    try simp only [LN] at g_ ⊢
    first | omega | (simp;done) | (simp;omega)) ?_
  rw [aG h2 Bh2]
  all_goals exact fz
 ·simp only [step,SS]
  have gr_:=hih2
  try simp only [LN] at gr_
  have:=(H0).1
  have:=((bL.take (k:=(toNat ((cond (decide ((a0.length:Int)<4)) (a0.length:Int) 4) - 0))) (bL.drop (k:=0) H0))).1
  refine dx (by apply decide_eq_false;omega) ?_
  refine ⟨0,?_⟩
  all_goals exact fz
def af:cw 71 aT:=L3 30 pid cg bZ live step start mix aE bt (.cons Z219.af .nil) Tryz.func71
def br (a0:List av)(a1:Int)(a2:aB):md a0 a1 a2=Z102.md a0 a1 a2:=by
 rw [Z102.pU]
 unfold md
 simp only [Z219.br,Int.sub_zero,List.drop_zero]
 congr 1
 by_cases h:(a0.length:Int)<4
 ·rw [decide_eq_true h,bf,List.take_of_length_le (by omega),List.take_of_length_le (by omega)]
 ·rw [decide_eq_false h];rfl
def gh {a0:List av}{a1:Int}{a2:aB}(hg:gd a0 a1 a2):bL (2^21) (fun y:ay=>ay.Sm (2^21) y) (md a0 a1 a2):=by
 rw [br]
 exact Z102.gh hg
end Z220
namespace Z221
def F (x0:aC):aH:=(call (Z185.R x0) fun v1=>(cond (!v1) (ret (((⟨0,0,0,0,0,0,0,0,(⟨[],0⟩:bD),(⟨[],0⟩:bD),0,(⟨[],0⟩:bD),false⟩:bY),false):bY×Bool)) (call (Z186.R x0) fun v2=>(call (Z135.R v2) fun v3=>ret ((v3,true):bY×Bool)))))
def md (a0:List aa):aF×Bool:=(cond (!(Z185.md a0)) ((⟨0,0,0,0,0,0,0,0,(⟨[],0⟩:aO),(⟨[],0⟩:aO),0,(⟨[],0⟩:aO),false⟩:aF),false) ((Z186.md a0),true))
def gd (a0:List aa):Prop:=(bL (2^21) (fun y:aa=>aa.Sm (2^21) y) a0)
def R:=RR gd md
def aj {a0}(h:gd a0):R (a0.map aa.row)=some ((aF.r (md a0).1),(md a0).2):=aN (a:=a0) h
def aT:=CN [pL 141] (.iE [(true,f138),(false,[fB])]) RT.dec R
def bt (a0)(hg:gd a0):F (a0.map aa.row)=ret ((aF.r (md a0).1),(md a0).2):=by
 unfold gd at hg
 have H0:=hg
 unfold F md
 try simp only [SS]
 refine ct (Z185.aj H0) ?_
 refine au (fun b:aF×Bool=>ret (((aF.r b.1),b.2):bY×Bool)) (fun c1=>?_) (fun c1=>?_)
 ·all_goals exact fz
 ·have dc1:=c1
  try simp only [DC] at dc1
  try have tc1:=Z185.tr (by simpa using c1)
  refine ct (Z186.aj ⟨H0,(by
    have:=(H0).1
    first | assumption | exact om)⟩) ?_
  try simp only [SS]
  refine ct (Z135.aj (Z186.gh (a0:=a0) ⟨H0,(by
    have:=(H0).1
    first | assumption | exact om)⟩)) ?_
  try simp only [SS]
  all_goals exact fz
def af:cw 205 aT:=W1 11 F mix aE bt (.cons Z185.af (.cons Z186.af (.cons Z135.af .nil))) Tryz.func205
def br (a0:List aa):md a0=Z76.md a0:=by
 unfold md Z76.md
 first
 | (simp only [Z185.br];done)
 | (simp only [Z185.br];rfl)
 | rfl
end Z221
namespace Z222
def F (x0:bY)(x1:Int):aH:=(call (Z141.R (x1,x0.cG,x0.cz)) fun v1=>ret (v1:Bool))
def md (a0:aF)(a1:Int):Bool:=((Z141.md a1 a0.cG a0.cz):Bool)
def gd (a0:aF)(a1:Int):Prop:=True
def R:=RR (p2 gd) (u2 md)
def aj {a0 a1}(h:gd a0 a1):R ((aF.r a0),a1)=some (md a0 a1):=aN (a:=(a0,a1)) h
def aT:=CN [.agg fW,pI] oB RT.dec R
def bt (a0)(a1)(hg:gd a0 a1):F (aF.r a0) a1=ret (md a0 a1):=by
 unfold F md
 try simp only [SS]
 refine ct (Z141.aj trivial) ?_
 all_goals exact fz
def af:cw 206 aT:=W2 11 F mix aE bt (.cons Z141.af .nil) Tryz.func206
def br (a0:aF)(a1:Int):md a0 a1=Z109.md a0 a1:=by
 unfold md Z109.md
 first
 | (simp only [Z141.br];done)
 | (simp only [Z141.br];rfl)
 | rfl
end Z222
namespace Z223
inductive Pt where
 | p0 (a b c:Int) (d:aC)
def pid:Pt->Nat
 | .p0 ..=>3
def cg:Pt->List V
 | .p0 a b c d=>[.int .i64 a,.int .i64 b,.int .i64 c,.sl none 3 d]
def bZ:Pt->List aW
 | .p0 a b c d=>[]
def step (J:Pt->aH):Pt->aH
 | .p0 a b c d=>(cond (decide (c>1)) (cond (decide ((mS .i64 b 1)>=c)) (J (.p0 a (i64.wrap (Int.tdiv b 2)) (i64.wrap (Int.tdiv (i64.wrap (c+1)) 2)) d)) (cond ((d.length:Int)==0) (ret ((0,false):Int×Bool)) (cond ((Int.tmod b 2)==0) (ck (decide ((0:Int)<(d.length:Int))) (call (Z198.R (a,(je d 0))) fun v1=>(ck (decide ((1:Int)<=(d.length:Int))) (ck (decide ((d.length:Int)<=(d.length:Int))) (J (.p0 v1 (i64.wrap (Int.tdiv b 2)) (i64.wrap (Int.tdiv (i64.wrap (c+1)) 2)) (List.take (toNat ((d.length:Int) - 1)) (List.drop 1 d)))))))) (ck (decide ((0:Int)<(d.length:Int))) (call (Z198.R ((je d 0),a)) fun v2=>(ck (decide ((1:Int)<=(d.length:Int))) (ck (decide ((d.length:Int)<=(d.length:Int))) (J (.p0 v2 (i64.wrap (Int.tdiv b 2)) (i64.wrap (Int.tdiv (i64.wrap (c+1)) 2)) (List.take (toNat ((d.length:Int) - 1)) (List.drop 1 d))))))))))) (cond (decide ((d.length:Int)>0)) (ret ((0,false):Int×Bool)) (ret ((a,true):Int×Bool))))
def start (J:Pt->aH)(x0 x1 x2:Int)(x3:aC):aH:=(cond (decide (x2<1)) (ret ((0,false):Int×Bool)) (cond (decide (x2>12)) (ret ((0,false):Int×Bool)) (call (Z141.R (x1,0,(i64.wrap (x2 - 1)))) fun v1=>(cond (!v1) (ret ((0,false):Int×Bool)) (J (.p0 x0 x1 x2 x3))))))
def live:Nat->Live:=fun i=>match i with | 3=>[(0,none),(1,none),(2,none),(3,none)] | _=>[]
def md (a0 a1 a2:Int)(a3:List Int):Int×Bool:=Z110.md a0 a1 a2 a3
def gd (a0 a1 a2:Int)(a3:List Int):Prop:=bL (2^38) (fun y:Int=>True) a3
def R:=RR (p4 gd) (u4 md)
def aj {a0 a1 a2 a3}(h:gd a0 a1 a2 a3):R (a0,a1,a2,(a3.map bh))=some ((md a0 a1 a2 a3).1,(md a0 a1 a2 a3).2):=aN (a:=(a0,a1,a2,a3)) h
def aT:=CN [pI,pI,pI,pL 3] (.iE [(false,[fI]),(false,[fB])]) RT.dec R
def bt (a0)(a1)(a2)(a3)(hg:gd a0 a1 a2 a3):∃n,start (iter step n) a0 a1 a2 (a3.map bh)=ret ((md a0 a1 a2 a3).1,(md a0 a1 a2 a3).2):=by
 have tm:∀b:Int,0<=b->b<=11->Int.tmod b 2=b % 2:=fun b h1 h2=>Int.tmod_eq_emod_of_nonneg h1
 have td:∀b:Int,0<=b->b<=13->i64.wrap (Int.tdiv b 2)=b / 2:=fun b h1 h2=>by
  rw [Int.tdiv_eq_ediv_of_nonneg h1,Go.IntWalk.i64_in _ (by omega)]
 have t1:∀b:Int,0<=b->b<=13->i64.wrap (b+1)=b+1:=fun b h1 h2=>Go.IntWalk.i64_in _ (by omega)
 have xr:∀b:Int,0<=b->b<=11->mS .i64 b 1=if b % 2=0 then b+1 else b - 1:=by
  intro b h1 h2
  have :b=0∨b=1∨b=2∨b=3∨b=4∨b=5∨b=6∨b=7∨b=8∨b=9∨b=10∨b=11:=by omega
  rcases this with h | h | h | h | h | h | h | h | h | h | h | h<;>subst h<;>decide
 have key:∀(k:Nat) (leaf i n:Int) (p:List Int),p.length<=2^38->0<=i->i<n->n<=12->n<=2^k->∃m,iter step m (Pt.p0 leaf i n (p.map bh))=ret ((Z110.tf (k+1) leaf i n p).1,(Z110.tf (k+1) leaf i n p).2):=by
  have fin:∀(leaf:Int) (p:List Int) (J:Pt->aH),step J (Pt.p0 leaf 0 1 (p.map bh))=ret ((if p.isEmpty then (leaf,true) else (0,false)).1,(if p.isEmpty then (leaf,true) else (0,false)).2):=by
   intro leaf p J
   simp only [step,List.length_map]
   refine cN (by decide) ?_
   cases p with
   | nil=>rfl
   | cons x xs=>exact ak (decide_eq_true (by simp only [List.length_cons];omega)) rfl
  intro k
  induction k with
  | zero=>
   intro leaf i n p hp h1 h2 h3 h4
   have hn:n=1:=by omega
   subst hn
   have hi:i=0:=by omega
   subst hi
   exact ⟨1,(fin leaf p _).trans rfl⟩
  | succ k ih=>
   intro leaf i n p hp h1 h2 h3 h4
   have hk:n<=2*2^k:=by rw [Int.pow_succ] at h4;omega
   unfold Z110.tf
   by_cases hn:n>1
   ·have e1:=tm i h1 (by omega)
    have e2:=td i h1 (by omega)
    have e3:=t1 n (by omega) (by omega)
    have e4:=td (n+1) (by omega) (by omega)
    have e6:=xr i h1 (by omega)
    rw [if_pos hn]
    by_cases hc:i % 2=1∨i+1<n
    ·have hx:decide (mS .i64 i 1>=n)=false:=by
      rw [e6]
      split
      ·exact decide_eq_false (by omega)
      ·exact decide_eq_false (by omega)
     rw [if_pos hc]
     cases p with
     | nil=>
      refine ⟨1,?_⟩
      show step (iter step 0) (Pt.p0 _ _ _ _)=_
      simp only [step,hx]
      exact ak (decide_eq_true (by omega)) (cN rfl (ak rfl rfl))
     | cons x xs=>
      simp only [List.length_cons] at hp
      obtain ⟨m,hm⟩:=ih (if i % 2=1 then Z85.md x leaf else Z85.md leaf x) (i / 2) ((n+1) / 2) xs (by omega) (by omega) (by omega) (by omega) (by omega)
      refine ⟨m+1,?_⟩
      show step (iter step m) (Pt.p0 _ _ _ _)=_
      have ht:List.take (toNat ((xs.length:Int)+1 - 1)) (List.drop 1 ((x::xs).map bh))=xs.map bh:=by
       simp only [List.map_cons,List.drop_succ_cons,List.drop_zero]
       exact List.take_of_length_le (by simp)
      have hl:(((x::xs).map bh).length:Int)=(xs.length:Int)+1:=by simp
      simp only [step,hx,e1,e2,e3,e4,ht,hl]
      refine ak (decide_eq_true (by omega)) (cN rfl (cN (beq_eq_false_iff_ne.2 (by omega)) ?_))
      have hat:je ((x::xs).map bh) 0=x:=rfl
      rw [hat]
      by_cases hp:i % 2=1
      ·rw [if_pos hp] at hm
       rw [hp]
       refine cN rfl (ak (decide_eq_true (by omega)) (aZ (Z85.md x leaf) (by have:=Z198.aj (a0:=x) (a1:=leaf) trivial;rw [Z198.br] at this;exact this) (ak (decide_eq_true (by omega)) (ak (decide_eq_true (by omega)) ?_))))
       rw [if_pos rfl]
       exact hm
      ·rw [if_neg hp] at hm
       have h0:i % 2=0:=by omega
       rw [h0]
       refine ak rfl (ak (decide_eq_true (by omega)) (aZ (Z85.md leaf x) (by have:=Z198.aj (a0:=leaf) (a1:=x) trivial;rw [Z198.br] at this;exact this) (ak (decide_eq_true (by omega)) (ak (decide_eq_true (by omega)) ?_))))
       rw [if_neg (by omega)]
       exact hm
    ·have hx:decide (mS .i64 i 1>=n)=true:=by
      rw [e6,if_pos (by omega)]
      exact decide_eq_true (by omega)
     rw [if_neg hc]
     obtain ⟨m,hm⟩:=ih leaf (i / 2) ((n+1) / 2) p hp (by omega) (by omega) (by omega) (by omega)
     refine ⟨m+1,?_⟩
     show step (iter step m) (Pt.p0 _ _ _ _)=_
     simp only [step,hx,e2,e3,e4]
     exact ak (decide_eq_true (by omega)) (ak rfl hm)
   ·have hn1:n=1:=by omega
    subst hn1
    have hi:i=0:=by omega
    subst hi
    refine ⟨1,(fin leaf p _).trans ?_⟩
    rw [if_neg (show ¬(1:Int)>1 by omega)]
 unfold start md Z110.md
 obtain ⟨H3,_⟩:=hg
 by_cases c1:a2<1
 ·refine ⟨0,ak (decide_eq_true c1) ?_⟩
  rw [show Z47.md a2 1 12=false from by simp [Z47.md];omega];rfl
 refine dx (decide_eq_false c1) ?_
 by_cases c2:a2>12
 ·refine ⟨0,ak (decide_eq_true c2) ?_⟩
  rw [show Z47.md a2 1 12=false from by simp [Z47.md];omega];rfl
 refine dx (decide_eq_false c2) ?_
 rw [show Z47.md a2 1 12=true from by simp [Z47.md];omega]
 simp only [Bool.not_true,bq]
 refine eV (Z47.md a1 0 (i64.wrap (a2 - 1))) (by have:=Z141.aj (a0:=a1) (a1:=0) (a2:=i64.wrap (a2 - 1)) trivial;rw [Z141.br] at this;exact this) ?_
 cases hd:Z47.md a1 0 (i64.wrap (a2 - 1))
 ·exact ⟨0,rfl⟩
 rw [Go.IntWalk.i64_in _ (by omega)] at hd
 have i2:0<=a1/\a1<=a2 - 1:=by simpa [Z47.md] using hd
 exact key 4 a0 a1 a2 a3 H3 (by omega) (by omega) (by omega) (by omega)
def af:cw 264 aT:=L4 56 pid cg bZ live step start mix aE bt (.cons Z141.af (.cons Z198.af .nil)) Tryz.func264
def br (a0 a1 a2:Int)(a3:List Int):md a0 a1 a2 a3=Z110.md a0 a1 a2 a3:=by
 unfold md Z110.md
 first
 | (simp only [Z141.br,Z198.br];done)
 | (simp only [Z141.br,Z198.br];rfl)
 | rfl
end Z223
namespace Z224
def F (x0 x1:Int)(x2:aU)(x3:bS):aH:=(call (Z195.R x2) fun v1=>(call (Z223.R (v1,x3.eA,x1,x3.bI)) fun v2=>(cond v2.2 (call (Z187.R x2) fun v3=>(cond v3 (call (Z201.R (x1,v2.1)) fun v4=>ret ((v4==x0):Bool)) aY)) aY)))
def md (a0 a1:Int)(a2:ah)(a3:aM):Bool:=(cond ((Z223.md (Z195.md a2) a3.eA a1 a3.bI).2) (cond (Z187.md a2) (((Z201.md a1 ((Z223.md (Z195.md a2) a3.eA a1 a3.bI).1))==a0):Bool) (false:Bool)) (false:Bool))
def gd (a0 a1:Int)(a2:ah)(a3:aM):Prop:=(ah.Sm (2^21) a2)/\(aM.Sm (2^21) a3)
def R:=RR (p4 gd) (u4 md)
def aj {a0 a1 a2 a3}(h:gd a0 a1 a2 a3):R (a0,a1,(ah.r a2),(aM.r a3))=some (md a0 a1 a2 a3):=aN (a:=(a0,a1,a2,a3)) h
def aT:=CN [pI,pI,.agg qX,.agg qW] oB RT.dec R
def bt (a0)(a1)(a2)(a3)(hg:gd a0 a1 a2 a3):F a0 a1 (ah.r a2) (aM.r a3)=ret (md a0 a1 a2 a3):=by
 obtain ⟨H2,H3⟩:=hg
 unfold F md
 try simp only [SS]
 refine ct (Z195.aj H2) ?_
 refine ct (Z223.aj (H3.mono (by decide) (fun x hx=>trivial))) ?_
 refine au ret (fun c1=>?_) (fun _=>rfl)
 refine ct (Z187.aj H2) ?_
 refine au ret (fun c2=>?_) (fun _=>rfl)
 refine ct (Z201.aj trivial) ?_
 all_goals exact fz
def af:cw 237 aT:=W4 34 F mix aE bt (.cons Z195.af (.cons Z223.af (.cons Z187.af (.cons Z201.af .nil)))) Tryz.func237
def br (a0 a1:Int)(a2:ah)(a3:aM):md a0 a1 a2 a3=Z111.md a0 a1 a2 a3:=by
 unfold md Z111.md
 simp only [Z223.br,Z195.br,Z187.br,Z201.br]
 cases Z77.md a2<;>cases (Z110.md (Z83.md a2) a3.eA a1 a3.bI).2<;>rfl
end Z224
namespace Z225
inductive Pt where
 | p0 (a b:aC) (c d:Int)
def pid:Pt->Nat
 | .p0 ..=>4
def cg:Pt->List V
 | .p0 a b c d=>[.sl none 9 a,.sl none 9 b,.int .i64 c,.int .i64 d]
def bZ:Pt->List aW
 | .p0 a b c d=>[]
def step (J:Pt->aH):Pt->aH
 | .p0 a b c d=>(cond (decide (d<c)) (m2 d (a.length:Int) (m2 d (b.length:Int) (cond (!((pV a (toNat d))==(pV b (toNat d)))) aY (J (.p0 a b c (i64.wrap (d+1))))))) ep)
def start (J:Pt->aH)(x0 x1:aC):aH:=(cond ((x0.length:Int) != (x1.length:Int)) aY (J (.p0 x0 x1 (x0.length:Int) 0)))
def live:Nat->Live:=fun i=>match i with | 4=>[(0,none),(1,none),(12,none),(13,none)] | _=>[]
def md (a0 a1:List aB):Bool:=(bif ((a0.length:Int) != (a1.length:Int)) then (false:Bool) else (eo (S:=Unit) (β:=Bool) (fun (i2:Nat) (s4:Unit)=>(cond (!((a0.getD i2 ⟨#[]⟩)==(a1.getD i2 ⟨#[]⟩))) (.inr (false:Bool)) (.inl ()))) (fun (s4:Unit)=>(true:Bool)) a0.length 0 ()))
def gd (a0 a1:List aB):Prop:=(bL (2^21) (fun y:aB=>y.size<=(2^21)) a0)/\(bL (2^21) (fun y:aB=>y.size<=(2^21)) a1)
def R:=RR (p2 gd) (u2 md)
def aj {a0 a1}(h:gd a0 a1):R ((a0.map cF),(a1.map cF))=some (md a0 a1):=aN (a:=(a0,a1)) h
def aT:=CN [pL 9,pL 9] oB RT.dec R
def bt (a0)(a1)(hg:gd a0 a1):∃n,start (iter step n) (a0.map cF) (a1.map cF)=ret (md a0 a1):=by
 obtain ⟨H0,H1⟩:=hg
 unfold start md
 try simp only [SS]
 refine gR ret (fun _=>⟨0,rfl⟩) (fun c1=>?_)
 have dc1:=c1
 try simp only [DC] at dc1
 have Bh3:a0.length<=maxLen:=(by
   have:=(H0).1
   try simp only [maxLen] at *
   omega)
 refine dK (p:=Pt.p0 (a0.map cF) (a1.map cF) (a0.length:Int) 0) fz ?_
 refine cj (pt:=fun (i2:Nat) (s4:Unit)=>Pt.p0 (a0.map cF) (a1.map cF) (a0.length:Int) (i2:Int)) (s:=(():Unit)) (out:=ret) (fun _ _=>True) (fun J i2 s4 h3 hih3=>?_) (fun s4 hih3=>?_) trivial
 ·simp only [step,SS]
  have bb_:=Bh3
  simp only [maxLen] at bb_
  have:=(H0).1
  refine bz.yes (by apply decide_eq_true;omega) ?_
  refine bz.yes aI ?_
  refine bz.yes (aL h3) ?_
  refine bz.yes aI ?_
  refine bz.yes (have:=(H1).1;dt) ?_
  refine bz.bif (fun _=>bz.inr rfl) (fun c5=>?_)
  refine bz.inl trivial ?_
  rw [aG h3 Bh3]
  all_goals exact fz
 ·simp only [step,SS]
  have:=(H0).1
  refine dx (by apply decide_eq_false;omega) ?_
  refine ⟨0,?_⟩
  all_goals exact fz
def af:cw 288 aT:=L2 26 pid cg bZ live step start mix aE bt .nil Tryz.func288
def md_eq (a0 a1:List aB):md a0 a1=dW a0 a1:=by
 unfold md
 refine ke (⟨#[]⟩) (fun i s h h2=>?_) (fun s=>rfl)
 simp only [bne,eZ,bool_beq,eO]
 cases dW _ _<;>rfl
end Z225
namespace Z226
def F (x0 x1:aU):aH:=(cond (x0.bk==x1.bk) (cond (x0.bK==x1.bK) (cond (x0.bW==x1.bW) (call (Z225.R (x0.bI,x1.bI)) fun v1=>ret (v1:Bool)) aY) aY) aY)
def md (a0 a1:ah):Bool:=(cond (a0.bk==a1.bk) (cond (a0.bK==a1.bK) (cond (a0.bW==a1.bW) ((Z225.md a0.bI a1.bI):Bool) (false:Bool)) (false:Bool)) (false:Bool))
def gd (a0 a1:ah):Prop:=(ah.Sm (2^21) a0)/\(ah.Sm (2^21) a1)
def R:=RR (p2 gd) (u2 md)
def aj {a0 a1}(h:gd a0 a1):R ((ah.r a0),(ah.r a1))=some (md a0 a1):=aN (a:=(a0,a1)) h
def aT:=CN [.agg qX,.agg qX] oB RT.dec R
def bt (a0)(a1)(hg:gd a0 a1):F (ah.r a0) (ah.r a1)=ret (md a0 a1):=by
 obtain ⟨H0,H1⟩:=hg
 unfold F md
 try simp only [SS]
 refine au ret (fun c1=>?_) (fun _=>rfl)
 refine au ret (fun c2=>?_) (fun _=>rfl)
 refine au ret (fun c3=>?_) (fun _=>rfl)
 refine ct (Z225.aj ⟨H0.2,H1.2⟩) ?_
 all_goals exact fz
def af:cw 266 aT:=W2 31 F mix aE bt (.cons Z225.af .nil) Tryz.func266
def md_eq (a0 a1:ah):md a0 a1=dW a0 a1:=by
 unfold md
 cases a0;cases a1
 rw [Bool.eq_iff_iff]
 simp [dc,eO,ah.mk.injEq,Z225.md_eq]
 try (constructor<;>(intro h;simp_all))
end Z226
namespace Z227
def F (x0 x1:bS):aH:=(cond (x0.eA==x1.eA) (call (Z177.R (x0.bI,x1.bI)) fun v1=>ret (v1:Bool)) aY)
def md (a0 a1:aM):Bool:=(cond (a0.eA==a1.eA) ((Z177.md a0.bI a1.bI):Bool) (false:Bool))
def gd (a0 a1:aM):Prop:=(aM.Sm (2^21) a0)/\(aM.Sm (2^21) a1)
def R:=RR (p2 gd) (u2 md)
def aj {a0 a1}(h:gd a0 a1):R ((aM.r a0),(aM.r a1))=some (md a0 a1):=aN (a:=(a0,a1)) h
def aT:=CN [.agg qW,.agg qW] oB RT.dec R
def bt (a0)(a1)(hg:gd a0 a1):F (aM.r a0) (aM.r a1)=ret (md a0 a1):=by
 obtain ⟨H0,H1⟩:=hg
 unfold F md
 try simp only [SS]
 refine au ret (fun c1=>?_) (fun _=>rfl)
 refine ct (Z177.aj ⟨(H0.mono (by decide) (fun x hx=>trivial)),(H1.mono (by decide) (fun x hx=>trivial))⟩) ?_
 all_goals exact fz
def af:cw 267 aT:=W2 17 F mix aE bt (.cons Z177.af .nil) Tryz.func267
def md_eq (a0 a1:aM):md a0 a1=dW a0 a1:=by
 unfold md
 cases a0;cases a1
 rw [Bool.eq_iff_iff]
 simp [dc,eO,aM.mk.injEq,Z177.md_eq]
 try (constructor<;>(intro h;simp_all))
end Z227
namespace Z228
def F (x0 x1:dM):aH:=(cond (x0.eA==x1.eA) (call (Z226.R (x0.aQ,x1.aQ)) fun v1=>(cond v1 (call (Z226.R (x0.cJ,x1.cJ)) fun v2=>(cond v2 (call (Z227.R (x0.eC,x1.eC)) fun v3=>(cond v3 (call (Z227.R (x0.cX,x1.cX)) fun v4=>ret (v4:Bool)) aY)) aY)) aY)) aY)
def md (a0 a1:bU):Bool:=(cond (a0.eA==a1.eA) (cond (Z226.md a0.aQ a1.aQ) (cond (Z226.md a0.cJ a1.cJ) (cond (Z227.md a0.eC a1.eC) ((Z227.md a0.cX a1.cX):Bool) (false:Bool)) (false:Bool)) (false:Bool)) (false:Bool))
def gd (a0 a1:bU):Prop:=(bU.Sm (2^21) a0)/\(bU.Sm (2^21) a1)
def R:=RR (p2 gd) (u2 md)
def aj {a0 a1}(h:gd a0 a1):R ((bU.r a0),(bU.r a1))=some (md a0 a1):=aN (a:=(a0,a1)) h
def aT:=CN [.agg vD,.agg vD] oB RT.dec R
def bt (a0)(a1)(hg:gd a0 a1):F (bU.r a0) (bU.r a1)=ret (md a0 a1):=by
 obtain ⟨H0,H1⟩:=hg
 unfold F md
 try simp only [SS]
 refine au ret (fun c1=>?_) (fun _=>rfl)
 refine ct (Z226.aj ⟨H0.1,H1.1⟩) ?_
 refine au ret (fun c2=>?_) (fun _=>rfl)
 refine ct (Z226.aj ⟨H0.2.1,H1.2.1⟩) ?_
 refine au ret (fun c3=>?_) (fun _=>rfl)
 refine ct (Z227.aj ⟨H0.2.2.1,H1.2.2.1⟩) ?_
 refine au ret (fun c4=>?_) (fun _=>rfl)
 refine ct (Z227.aj ⟨H0.2.2.2,H1.2.2.2⟩) ?_
 all_goals exact fz
def af:cw 238 aT:=W2 38 F mix aE bt (.cons Z226.af (.cons Z227.af .nil)) Tryz.func238
def md_eq (a0 a1:bU):md a0 a1=dW a0 a1:=by
 unfold md
 cases a0;cases a1
 rw [Bool.eq_iff_iff]
 simp [dc,eO,bU.mk.injEq,Z226.md_eq,Z227.md_eq]
 try (constructor<;>(intro h;simp_all))
end Z228
namespace Z229
def F (x0:aU):aH:=(call (Z226.R (x0,(⟨(⟨#[]⟩:aB),0,0,[]⟩:aU))) fun v1=>ret (v1:Bool))
def md (a0:ah):Bool:=((Z226.md a0 (⟨((⟨#[]⟩:aB):aB),0,0,[]⟩:ah)):Bool)
def gd (a0:ah):Prop:=(ah.Sm (2^21) a0)
def R:=RR gd md
def aj {a0}(h:gd a0):R (ah.r a0)=some (md a0):=aN (a:=a0) h
def aT:=CN [.agg qX] oB RT.dec R
def bt (a0)(hg:gd a0):F (ah.r a0)=ret (md a0):=by
 unfold gd at hg
 have H0:=hg
 unfold F md
 try simp only [SS]
 refine ct (Z226.aj (a1:=(⟨((⟨#[]⟩:aB):aB),0,0,[]⟩:ah)) ⟨H0,⟨(by decide),bL.nil⟩⟩) ?_
 all_goals exact fz
def af:cw 240 aT:=W1 6 F mix aE bt (.cons Z226.af .nil) Tryz.func240
end Z229
namespace Z230
def F (x0:bS):aH:=(call (Z227.R (x0,(⟨0,[]⟩:bS))) fun v1=>ret (v1:Bool))
def md (a0:aM):Bool:=((Z227.md a0 (⟨0,[]⟩:aM)):Bool)
def gd (a0:aM):Prop:=(aM.Sm (2^21) a0)
def R:=RR gd md
def aj {a0}(h:gd a0):R (aM.r a0)=some (md a0):=aN (a:=a0) h
def aT:=CN [.agg qW] oB RT.dec R
def bt (a0)(hg:gd a0):F (aM.r a0)=ret (md a0):=by
 unfold gd at hg
 have H0:=hg
 unfold F md
 try simp only [SS]
 refine ct (Z227.aj (a1:=(⟨0,[]⟩:aM)) ⟨H0,bL.nil⟩) ?_
 all_goals exact fz
def af:cw 241 aT:=W1 6 F mix aE bt (.cons Z227.af .nil) Tryz.func241
end Z230
namespace Z231
def F (x0 x1:Int)(x2:aU)(x3:bS)(x4:Int):aH:=(call (Z141.R (x4,0,(i64.wrap (x1 - 1)))) fun v1=>(cond (!v1) (call (Z229.R x2) fun v2=>(cond v2 (call (Z230.R x3) fun v3=>ret (v3:Bool)) aY)) (call (Z224.R (x0,x1,x2,x3)) fun v4=>(cond v4 (ret ((x3.eA==x4):Bool)) aY))))
def md (a0 a1:Int)(a2:ah)(a3:aM)(a4:Int):Bool:=(cond (!(Z141.md a4 0 (i64.wrap (a1 - 1)))) (cond (Z229.md a2) ((Z230.md a3):Bool) (false:Bool)) (cond (Z224.md a0 a1 a2 a3) ((a3.eA==a4):Bool) (false:Bool)))
def gd (a0 a1:Int)(a2:ah)(a3:aM)(a4:Int):Prop:=(ah.Sm (2^21) a2)/\(aM.Sm (2^21) a3)
def R:=RR (p5 gd) (u5 md)
def aj {a0 a1 a2 a3 a4}(h:gd a0 a1 a2 a3 a4):R (a0,a1,(ah.r a2),(aM.r a3),a4)=some (md a0 a1 a2 a3 a4):=aN (a:=(a0,a1,a2,a3,a4)) h
def aT:=CN [pI,pI,.agg qX,.agg qW,pI] oB RT.dec R
def bt (a0)(a1)(a2)(a3)(a4)(hg:gd a0 a1 a2 a3 a4):F a0 a1 (ah.r a2) (aM.r a3) a4=ret (md a0 a1 a2 a3 a4):=by
 obtain ⟨H2,H3⟩:=hg
 unfold F md
 try simp only [SS]
 refine ct (Z141.aj trivial) ?_
 refine au ret (fun c1=>?_) (fun c1=>?_)
 ·refine ct (Z229.aj H2) ?_
  refine au ret (fun c2=>?_) (fun _=>rfl)
  refine ct (Z230.aj H3) ?_
  all_goals exact fz
 ·refine ct (Z224.aj ⟨H2,H3⟩) ?_
  refine au ret (fun c3=>?_) (fun _=>rfl)
  all_goals exact fz
def af:cw 268 aT:=W5 33 F mix aE bt (.cons Z141.af (.cons Z229.af (.cons Z230.af (.cons Z224.af .nil)))) Tryz.func268
end Z231
namespace Z232
def F (x0 x1:Int)(x2:aB)(x3:dM):aH:=(call (Z142.R x2) fun v1=>(cond (!v1) aY (call (Z141.R (x3.eA,0,x1)) fun v2=>(cond (!v2) aY (cond (x1==0) (call (Z202.R []) fun v3=>(cond (x0 != v3) aY (call (Z231.R (x0,x1,x3.aQ,x3.eC,(i64.wrap (x3.eA - 1)))) fun v4=>(cond (!v4) aY (call (Z231.R (x0,x1,x3.cJ,x3.cX,x3.eA)) fun v5=>(cond (!v5) aY (cond (x3.eA==0) (cond (x3.eA==x1) ep (call (Z190.R (x3.cJ.bk,x2)) fun v6=>ret ((decide (v6>0)):Bool))) (call (Z190.R (x3.aQ.bk,x2)) fun v7=>(cond (decide (v7<0)) (cond (x3.eA==x1) ep (call (Z190.R (x3.cJ.bk,x2)) fun v8=>ret ((decide (v8>0)):Bool))) aY))))))))) (call (Z231.R (x0,x1,x3.aQ,x3.eC,(i64.wrap (x3.eA - 1)))) fun v9=>(cond (!v9) aY (call (Z231.R (x0,x1,x3.cJ,x3.cX,x3.eA)) fun v10=>(cond (!v10) aY (cond (x3.eA==0) (cond (x3.eA==x1) ep (call (Z190.R (x3.cJ.bk,x2)) fun v11=>ret ((decide (v11>0)):Bool))) (call (Z190.R (x3.aQ.bk,x2)) fun v12=>(cond (decide (v12<0)) (cond (x3.eA==x1) ep (call (Z190.R (x3.cJ.bk,x2)) fun v13=>ret ((decide (v13>0)):Bool))) aY))))))))))))
def md (a0 a1:Int)(a2:aB)(a3:bU):Bool:=(cond (!(Z142.md a2)) (false:Bool) (cond (!(Z141.md a3.eA 0 a1)) (false:Bool) (cond (a1==0) (cond (a0 != (Z202.md [])) (false:Bool) (cond (!(Z231.md a0 a1 a3.aQ a3.eC (i64.wrap (a3.eA - 1)))) (false:Bool) (cond (!(Z231.md a0 a1 a3.cJ a3.cX a3.eA)) (false:Bool) (cond (a3.eA==0) (cond (a3.eA==a1) (true:Bool) ((decide ((Z190.md a3.cJ.bk a2)>0)):Bool)) (cond (decide ((Z190.md a3.aQ.bk a2)<0)) (cond (a3.eA==a1) (true:Bool) ((decide ((Z190.md a3.cJ.bk a2)>0)):Bool)) (false:Bool)))))) (cond (!(Z231.md a0 a1 a3.aQ a3.eC (i64.wrap (a3.eA - 1)))) (false:Bool) (cond (!(Z231.md a0 a1 a3.cJ a3.cX a3.eA)) (false:Bool) (cond (a3.eA==0) (cond (a3.eA==a1) (true:Bool) ((decide ((Z190.md a3.cJ.bk a2)>0)):Bool)) (cond (decide ((Z190.md a3.aQ.bk a2)<0)) (cond (a3.eA==a1) (true:Bool) ((decide ((Z190.md a3.cJ.bk a2)>0)):Bool)) (false:Bool))))))))
def gd (a0 a1:Int)(a2:aB)(a3:bU):Prop:=(a2.size<=(2^21))/\(bU.Sm (2^21) a3)
def R:=RR (p4 gd) (u4 md)
def aj {a0 a1 a2 a3}(h:gd a0 a1 a2 a3):R (a0,a1,a2,(bU.r a3))=some (md a0 a1 a2 a3):=aN (a:=(a0,a1,a2,a3)) h
def aT:=CN [pI,pI,pS,.agg vD] oB RT.dec R
def bt (a0)(a1)(a2)(a3)(hg:gd a0 a1 a2 a3):F a0 a1 a2 (bU.r a3)=ret (md a0 a1 a2 a3):=by
 obtain ⟨H2,H3⟩:=hg
 unfold F md
 try simp only [SS]
 refine ct (Z142.aj (le_trans H2 (by decide))) ?_
 refine au ret (fun _=>rfl) (fun c1=>?_)
 refine ct (Z141.aj trivial) ?_
 refine au ret (fun _=>rfl) (fun c2=>?_)
 refine au ret (fun c3=>?_) (fun c3=>?_)
 ·refine aZ (Z202.md []) (rq (Z202.aj (a0:=[]) bL.nil)) ?_
  refine au ret (fun _=>rfl) (fun c4=>?_)
  refine ct (Z231.aj ⟨H3.1,H3.2.2.1⟩) ?_
  refine au ret (fun _=>rfl) (fun c5=>?_)
  refine ct (Z231.aj ⟨H3.2.1,H3.2.2.2⟩) ?_
  refine au ret (fun _=>rfl) (fun c6=>?_)
  refine au ret (fun c7=>?_) (fun c7=>?_)
  ·refine au ret (fun _=>rfl) (fun c8=>?_)
   refine ct (Z190.aj trivial) ?_
   all_goals exact fz
  ·refine ct (Z190.aj trivial) ?_
   refine au ret (fun c9=>?_) (fun _=>rfl)
   refine au ret (fun _=>rfl) (fun c10=>?_)
   refine ct (Z190.aj trivial) ?_
   all_goals exact fz
 ·refine ct (Z231.aj ⟨H3.1,H3.2.2.1⟩) ?_
  refine au ret (fun _=>rfl) (fun c11=>?_)
  refine ct (Z231.aj ⟨H3.2.1,H3.2.2.2⟩) ?_
  refine au ret (fun _=>rfl) (fun c12=>?_)
  refine au ret (fun c13=>?_) (fun c13=>?_)
  ·refine au ret (fun _=>rfl) (fun c14=>?_)
   refine ct (Z190.aj trivial) ?_
   all_goals exact fz
  ·refine ct (Z190.aj trivial) ?_
   refine au ret (fun c15=>?_) (fun _=>rfl)
   refine au ret (fun _=>rfl) (fun c16=>?_)
   refine ct (Z190.aj trivial) ?_
   all_goals exact fz
def af:cw 239 aT:=W4 76 F mix aE bt (.cons Z142.af (.cons Z141.af (.cons Z202.af (.cons Z231.af (.cons Z190.af .nil))))) Tryz.func239
def BO (a0 a1:Int)(a2:aB)(a3:bU)(hc:a1<=1000):md a0 a1 a2 a3=Z117.md a0 a1 a2 a3:=by
 unfold md Z117.md Z231.md Z116.md Z229.md Z230.md
 simp only [Z142.br,Z141.br,Z202.br,Z224.br,Z226.md_eq,Z113.md_eq,Z227.md_eq,Z114.md_eq,Z190.br,Z78.lt,Z78.gt]
 cases Z48.md a2
 ·rfl
 cases hr:Z47.md a3.eA 0 a1
 ·rfl
 have hi:0<=a3.eA/\a3.eA<=a1:=by simpa [Z47.md] using hr
 have w1:i64.wrap (a1 - 1)=a1 - 1:=Go.IntWalk.i64_in _ (by omega)
 have w2:i64.wrap (a3.eA - 1)=a3.eA - 1:=Go.IntWalk.i64_in _ (by omega)
 have e1:Z47.md (a3.eA - 1) 0 (a1 - 1)=!(a3.eA==0):=by
  rw [Bool.eq_iff_iff];simp [Z47.md];omega
 have e2:Z47.md a3.eA 0 (a1 - 1)=!(a3.eA==a1):=by
  rw [Bool.eq_iff_iff];simp [Z47.md];omega
 simp only [w1,w2,e1,e2,bne]
 generalize (a3.eA==0)=z
 generalize (a3.eA==a1)=e
 generalize (a1==0)=c0
 generalize (a0==Z89.md [])=rt
 generalize dW a3.aQ _=x1
 generalize dW a3.eC _=x2
 generalize dW a3.cJ _=x3
 generalize dW a3.cX _=x4
 generalize Z111.md a0 a1 a3.aQ a3.eC=k1
 generalize Z111.md a0 a1 a3.cJ a3.cX=k2
 generalize (a3.eC.eA==a3.eA - 1)=p1
 generalize (a3.cX.eA==a3.eA)=p2
 generalize (Z78.md a3.aQ.bk a2 == -1)=m1
 generalize (Z78.md a3.cJ.bk a2==1)=m2
 cases c0<;>cases rt<;>cases z<;>cases e<;>cases x1<;>cases x2<;>cases k1<;>cases p1<;>cases m1<;>first | rfl | (cases x3<;>cases x4<;>rfl) | (cases k2<;>cases p2<;>cases m2<;>rfl)
end Z232
namespace Z233
def F (x0:bY)(x1:aB)(x2:bg):aH:=(cond x2.cu (cond (x2.aV.bk==x1) (call (Z224.R (x0.cW,x0.cq,x2.aV,x2.eD)) fun v1=>(cond v1 (call (Z228.R (x2.fV,(⟨0,(⟨(⟨#[]⟩:aB),0,0,[]⟩:aU),(⟨(⟨#[]⟩:aB),0,0,[]⟩:aU),(⟨0,[]⟩:bS),(⟨0,[]⟩:bS)⟩:dM))) fun v2=>ret (v2:Bool)) aY)) aY) (call (Z232.R (x0.cW,x0.cq,x1,x2.fV)) fun v3=>(cond v3 (call (Z229.R x2.aV) fun v4=>(cond v4 (call (Z230.R x2.eD) fun v5=>ret (v5:Bool)) aY)) aY)))
def md (a0:aF)(a1:aB)(a2:ay):Bool:=(cond a2.cu (cond (a2.aV.bk==a1) (cond (Z224.md a0.cW a0.cq a2.aV a2.eD) ((Z228.md a2.fV (⟨0,(⟨((⟨#[]⟩:aB):aB),0,0,[]⟩:ah),(⟨((⟨#[]⟩:aB):aB),0,0,[]⟩:ah),(⟨0,[]⟩:aM),(⟨0,[]⟩:aM)⟩:bU)):Bool) (false:Bool)) (false:Bool)) (cond (Z232.md a0.cW a0.cq a1 a2.fV) (cond (Z229.md a2.aV) ((Z230.md a2.eD):Bool) (false:Bool)) (false:Bool)))
def gd (a0:aF)(a1:aB)(a2:ay):Prop:=(a1.size<=(2^21))/\(ay.Sm (2^21) a2)
def R:=RR (p3 gd) (u3 md)
def aj {a0 a1 a2}(h:gd a0 a1 a2):R ((aF.r a0),a1,(ay.r a2))=some (md a0 a1 a2):=aN (a:=(a0,a1,a2)) h
def aT:=CN [.agg fW,pS,.agg xA] oB RT.dec R
def bt (a0)(a1)(a2)(hg:gd a0 a1 a2):F (aF.r a0) a1 (ay.r a2)=ret (md a0 a1 a2):=by
 obtain ⟨H1,H2⟩:=hg
 unfold F md
 try simp only [SS]
 refine au ret (fun c1=>?_) (fun c1=>?_)
 ·refine au ret (fun c2=>?_) (fun _=>rfl)
  refine ct (Z224.aj ⟨H2.2.1,H2.2.2.1⟩) ?_
  refine au ret (fun c3=>?_) (fun _=>rfl)
  refine ct (Z228.aj (a1:=(⟨0,(⟨((⟨#[]⟩:aB):aB),0,0,[]⟩:ah),(⟨((⟨#[]⟩:aB):aB),0,0,[]⟩:ah),(⟨0,[]⟩:aM),(⟨0,[]⟩:aM)⟩:bU)) ⟨H2.2.2.2,⟨⟨(by decide),bL.nil⟩,⟨(by decide),bL.nil⟩,bL.nil,bL.nil⟩⟩) ?_
  all_goals exact fz
 ·refine ct (Z232.aj ⟨H1,H2.2.2.2⟩) ?_
  refine au ret (fun c4=>?_) (fun _=>rfl)
  refine ct (Z229.aj H2.2.1) ?_
  refine au ret (fun c5=>?_) (fun _=>rfl)
  refine ct (Z230.aj H2.2.2.1) ?_
  all_goals exact fz
def af:cw 207 aT:=W3 49 F mix aE bt (.cons Z224.af (.cons Z228.af (.cons Z232.af (.cons Z229.af (.cons Z230.af .nil))))) Tryz.func207
def BO (a0:aF)(a1:aB)(a2:ay)(hc:a0.cq<=1000):md a0 a1 a2=Z118.md a0 a1 a2:=by
 unfold md Z118.md Z116.md Z229.md Z230.md
 simp only [Z232.BO _ _ _ _ hc,Z224.br,Z226.md_eq,Z113.md_eq,Z227.md_eq,Z114.md_eq,Z228.md_eq,Z115.md_eq]
end Z233
namespace Z234
def F (x0:Int)(x1:aB)(x2:bg)(x3:Int):aH:=(call (Z221.R x2.aS) fun v1=>(cond (!v1.2) (ret (3:Int)) (cond (v1.1.bC != x0) (ret (2:Int)) (call (Z222.R (v1.1,x3)) fun v2=>(cond (!v2) (ret (4:Int)) (cond v1.1.bE (ret (5:Int)) (call (Z233.R (v1.1,x1,x2)) fun v3=>(cond (!v3) (ret (6:Int)) (ret (1:Int))))))))))
def md (a0:Int)(a1:aB)(a2:ay)(a3:Int):Int:=(cond (!(Z221.md a2.aS).2) (3:Int) (cond ((Z221.md a2.aS).1.bC != a0) (2:Int) (cond (!(Z222.md ((Z221.md a2.aS).1) a3)) (4:Int) (cond ((Z221.md a2.aS).1.bE) (5:Int) (cond (!(Z233.md ((Z221.md a2.aS).1) a1 a2)) (6:Int) (1:Int))))))
def gd (a0:Int)(a1:aB)(a2:ay)(a3:Int):Prop:=(a1.size<=(2^21))/\(ay.Sm (2^21) a2)
def R:=RR (p4 gd) (u4 md)
def aj {a0 a1 a2 a3}(h:gd a0 a1 a2 a3):R (a0,a1,(ay.r a2),a3)=some (md a0 a1 a2 a3):=aN (a:=(a0,a1,a2,a3)) h
def aT:=CN [pI,pS,.agg xA,pI] oI RT.dec R
def bt (a0)(a1)(a2)(a3)(hg:gd a0 a1 a2 a3):F a0 a1 (ay.r a2) a3=ret (md a0 a1 a2 a3):=by
 obtain ⟨H1,H2⟩:=hg
 unfold F md
 try simp only [SS]
 refine ct (Z221.aj H2.1) ?_
 try simp only [SS]
 refine au ret (fun _=>rfl) (fun c1=>?_)
 refine au ret (fun _=>rfl) (fun c2=>?_)
 refine ct (Z222.aj trivial) ?_
 refine au ret (fun _=>rfl) (fun c3=>?_)
 refine au ret (fun _=>rfl) (fun c4=>?_)
 refine ct (Z233.aj ⟨H1,H2⟩) ?_
 refine au ret (fun _=>rfl) (fun _=>rfl)
def af:cw 168 aT:=W4 39 F mix aE bt (.cons Z221.af (.cons Z222.af (.cons Z233.af .nil))) Tryz.func168
def br (a0:Int)(a1:aB)(a2:ay)(a3:Int):md a0 a1 a2 a3=Z119.md a0 a1 a2 a3:=by
 unfold md Z119.md
 simp only [Z221.br,Z222.br]
 cases hok:(Z76.md a2.aS).2
 ·rfl
 ·have:=Z53.tr (Z76.head hok).2.2
  rw [Z233.BO _ _ _ (by omega)]
end Z234
namespace Z235
def F (x0:aC)(x1:List L):aH:=(cond (decide ((x0.length:Int)>0)) (ck (decide ((0:Int)<(x0.length:Int))) (ret (((aR.at x0 0).an.bC==(gm x1)):Bool))) aY)
def pats:List fY:=[.rd (.sl 141),.ptr [aD]]
def res:RP:=.one (.rd (.bool))
def md (a0:List aa)(a1:Int):Bool:=(cond (decide ((a0.length:Int)>0)) ((((a0.getD 0 aa.zero).an).bC==a1):Bool) (false:Bool))
def gd (a0:List aa)(a1:Int):Prop:=(bL (2^21) (fun y:aa=>aa.Sm (2^21) y) a0)
def acc (ls:List L):aC×Int:=((ls.headD .hole).aP,(gm (cH 1 (aA 1 ls))))
def R:(aC×Int)->Option Bool:=RR (p2 gd) (u2 md)
def aj {a0 a1}(h:gd a0 a1):R ((a0.map aa.row),a1)=some (md a0 a1):=aN (a:=(a0,a1)) h
def aT:fQ:=CN pats res acc R
def bt (a0:List aa)(a1:Int)(p1:List L)(e1:a1=(gm p1))(hg:gd a0 a1):F (a0.map aa.row) p1=ret ((md a0 a1):Bool):=by
 unfold gd at hg
 have H0:=hg
 unfold F md
 try simp only [SS,<-e1]
 refine au ret (fun c1=>?_) (fun _=>rfl)
 have dc1:=c1
 try simp only [DC] at dc1
 refine ak (have:=(H0).1;dt) ?_
 all_goals exact fz
def mB (ls:List L)(a:List aa×Int)(e:acc ls=Im.im a)(hg:(p2 gd) a):∃n:Nat,F ((ls.headD .hole).aP) (cH 1 (aA 1 ls))=ret (Im.im ((u2 md) a)):=by
 have e0:(a.1.map aa.row)=(ls.headD .hole).aP:=(congrArg (fun x=>x.1) e.symm)
 have hn:=bt a.1 a.2 (cH 1 (aA 1 ls)) (congrArg (fun x=>x.2) e.symm) hg
 refine ⟨0,?_⟩
 rw [<-e0]
 exact hn
def af:cw 246 aT:=VP (live:=fun _=>[]) (nt:=16) (accr:=fun ls=>((ls.headD .hole).aP,(cH 1 (aA 1 ls)))) (run:=fun _ x=>F x.1 x.2) mix aE .nil Tryz.func246 (by kernel_rfl) (fun _ _=>by kernel_rfl) (fun ls a _ e hg=>mB ls a e hg)
end Z235
namespace Z236
inductive Pt where
 | p0 (a:aC) (b:List L) (c d:Int)
def pid:Pt->Nat
 | .p0 ..=>2
def cg:Pt->List V
 | .p0 a b c d=>[.sl none 134 a,.fn 246 [.dF none [aD] b 0],.int .i64 c,.int .i64 d]
def bZ:Pt->List aW
 | .p0 a b c d=>[]
def step (J:Pt->aH):Pt->aH
 | .p0 a b c d=>(cond (decide (d<c)) (m2 d (a.length:Int) (call (Z235.R ((og a (toNat d)),(gm b))) fun v1=>(cond v1 (ret (d:Int)) (J (.p0 a b c (i64.wrap (d+1))))))) (ret ((-1):Int)))
def start (J:Pt->aH)(x0:aC)(x1:List L):aH:=J (.p0 x0 x1 (x0.length:Int) 0)
def live:Nat->Live:=fun i=>match i with | 2=>[(0,none),(1,none),(7,none),(8,none)] | _=>[]
def pats:List fY:=[.rd (.sl 134),.fn 246 [[aD]]]
def res:RP:=.one (.rd (.int .i64))
abbrev E:Env:={ T:=assoc kL,G:=dw [(246,Z235.aT)],nt:=19 }
def step_eq (I:cD)(p:Pt):cT E live I (pid p) (bO Tryz.f245) (fq (live (pid p)) (cg p) (bZ p)) (cE E Tryz.f245 res)=step (fun q=>I (pid q) (cg q) (bZ q)) p:=by
 cases p<;>kernel_rfl
def start_eq (I:cD)(ls:List L):eP E live I (bO Tryz.f245) (cV pats ls) (cE E Tryz.f245 res)=start (fun q=>I (pid q) (cg q) (bZ q)) (ls.headD .hole).aP (cH 1 (aA 1 ls)):=by kernel_rfl
def run_eq (n:Nat)(ls:List L):eJ E live Tryz.f245 res n (cV pats ls)=start (iter step n) (ls.headD .hole).aP (cH 1 (aA 1 ls)):=cy (id:=pid) (vs:=cg) (hs:=bZ) (step:=step) (start:=fun J=>start J (ls.headD .hole).aP (cH 1 (aA 1 ls))) step_eq (fun I=>start_eq I ls) n
def md (a0:List (List aa))(a1:Int):Int:=(dQ (S:=Unit) (β:=Int) (fun (i1:Nat) (y1:List aa) (s3:Unit)=>(cond (Z235.md y1 a1) (.inr ((i1:Int):Int)) (.inl ()))) (fun (s3:Unit)=>((-1):Int)) 0 a0 ())
def gd (a0:List (List aa))(a1:Int):Prop:=(bL (2^21) (fun y:List aa=>bL (2^21) (fun y:aa=>aa.Sm (2^21) y) y) a0)
def acc (ls:List L):aC×Int:=((ls.headD .hole).aP,(gm (cH 1 (aA 1 ls))))
def R:(aC×Int)->Option Int:=RR (p2 gd) (u2 md)
def aj {a0 a1}(h:gd a0 a1):R ((a0.map (dG aa.row)),a1)=some (md a0 a1):=aN (a:=(a0,a1)) h
def aT:fQ:=CN pats res acc R
def bt (a0:List (List aa))(a1:Int)(p1:List L)(e1:a1=(gm p1))(hg:gd a0 a1):∃n,start (iter step n) (a0.map (dG aa.row)) p1=ret ((md a0 a1):Int):=by
 unfold gd at hg
 have H0:=hg
 unfold start md
 try simp only [SS,<-e1]
 have Bh2:a0.length<=maxLen:=(by
   have:=(H0).1
   try simp only [maxLen] at *
   omega)
 refine ex_eq (out:=ret) (cR (z:=[])) ?_
 refine dK (p:=Pt.p0 (a0.map (dG aa.row)) p1 (a0.length:Int) 0) fz ?_
 refine cj (pt:=fun (i1:Nat) (s3:Unit)=>Pt.p0 (a0.map (dG aa.row)) p1 (a0.length:Int) (i1:Int)) (s:=(():Unit)) (out:=ret) (fun _ _=>True) (fun J i1 s3 h2 hih2=>?_) (fun s3 hih2=>?_) trivial
 ·simp only [step,SS,<-e1]
  have bb_:=Bh2
  simp only [maxLen] at bb_
  have:=(H0).1
  refine bz.yes (by apply decide_eq_true;omega) ?_
  refine bz.yes aI ?_
  refine bz.yes (aL h2) ?_
  refine cr (Z235.aj (bL.getD (z:=[]) H0 h2)) ?_
  refine bz.bif (fun c4=>?_) (fun c4=>?_)
  ·refine bz.inr ?_
   all_goals exact fz
  ·refine bz.inl trivial ?_
   rw [aG h2 Bh2]
   all_goals exact fz
 ·simp only [step,SS,<-e1]
  have:=(H0).1
  refine dx (by apply decide_eq_false;omega) ?_
  refine ⟨0,?_⟩
  all_goals exact fz
def mB (ls:List L)(a:List (List aa)×Int)(e:acc ls=Im.im a)(hg:(p2 gd) a):∃n:Nat,start (iter step n) ((ls.headD .hole).aP) (cH 1 (aA 1 ls))=ret (Im.im ((u2 md) a)):=by
 have e0:(a.1.map (dG aa.row))=(ls.headD .hole).aP:=(congrArg (fun x=>x.1) e.symm)
 obtain ⟨n,hn⟩:=bt a.1 a.2 (cH 1 (aA 1 ls)) (congrArg (fun x=>x.2) e.symm) hg
 refine ⟨n,?_⟩
 rw [<-e0]
 exact hn
def af:cw 245 aT:=VP (accr:=fun ls=>((ls.headD .hole).aP,(cH 1 (aA 1 ls)))) (run:=fun n x=>start (iter step n) x.1 x.2) mix aE (.cons Z235.af .nil) Tryz.func245 (by kernel_rfl) run_eq (fun ls a _ e hg=>mB ls a e hg)
def fa (a0:List (List aa))(a1:Int):-1<=md a0 a1/\md a0 a1<(a0.length:Int):=by
 unfold md
 refine fD ?_ _ _
 all_goals
  intro i x s b h
  revert h
  simp only [Bool.cond_eq_ite]
  repeat' split
  all_goals (intro h;first | (cases h;rfl) | cases h)
def idx_eq (a0:List (List aa))(a1:Int):md a0 a1=iF (fun y=>Z235.md y a1) 0 a0:=by
 unfold md
 exact gv
end Z236
namespace Z237
def F (x0:bu)(x1:Int):aH:=(call (Z236.R (x0.aJ,x1)) fun v1=>ret (v1:Int))
def md (a0:aq)(a1:Int):Int:=((Z236.md a0.aJ a1):Int)
def gd (a0:aq)(a1:Int):Prop:=(aq.Sm (2^21) a0)
def R:=RR (p2 gd) (u2 md)
def aj {a0 a1}(h:gd a0 a1):R ((aq.r a0),a1)=some (md a0 a1):=aN (a:=(a0,a1)) h
def aT:=CN [.agg rK,pI] oI RT.dec R
def bt (a0)(a1)(hg:gd a0 a1):F (aq.r a0) a1=ret (md a0 a1):=by
 unfold gd at hg
 have H0:=hg
 unfold F md
 try simp only [SS]
 refine ct (Z236.aj H0.1) ?_
 have fv1_:=Z236.fa a0.aJ a1
 all_goals exact fz
def af:cw 210 aT:=W2 9 F mix aE bt (.cons Z236.af .nil) Tryz.func210
def fa (a0:aq)(a1:Int):-1<=md a0 a1/\md a0 a1<(a0.aJ.length:Int):=by unfold md;exact Z236.fa _ _
def br (a0:aq)(a1:Int):md a0 a1=Z103.md a0 a1:=by
 unfold md Z103.md
 rw [Z236.idx_eq]
 symm
 refine kR (fun i x s=>?_) _ _ _
 unfold Z235.md
 cases decide ((x.length:Int)>0)<;>first | rfl | (cases ((x.getD 0 aa.zero).an).bC==a1<;>rfl)
end Z237
namespace Z238
def F (x0 x1:bY):aH:=(call (Z178.R (x0.bQ,x1.bQ)) fun v1=>(cond v1 (call (Z178.R (x0.bB,x1.bB)) fun v2=>(cond v2 (call (Z178.R (x0.bw,x1.bw)) fun v3=>(cond v3 (call (Z163.R x0) fun v4=>(call (Z163.R x1) fun v5=>(call (Z177.R (v4,v5)) fun v6=>ret (v6:Bool)))) aY)) aY)) aY))
def md (a0 a1:aF):Bool:=(cond (Z178.md a0.bQ a1.bQ) (cond (Z178.md a0.bB a1.bB) (cond (Z178.md a0.bw a1.bw) ((Z177.md (Z163.md a0) (Z163.md a1)):Bool) (false:Bool)) (false:Bool)) (false:Bool))
def gd (a0 a1:aF):Prop:=(aF.Sm (2^21) a0)/\(aF.Sm (2^21) a1)
def R:=RR (p2 gd) (u2 md)
def aj {a0 a1}(h:gd a0 a1):R ((aF.r a0),(aF.r a1))=some (md a0 a1):=aN (a:=(a0,a1)) h
def aT:=CN [.agg fW,.agg fW] oB RT.dec R
def bt (a0)(a1)(hg:gd a0 a1):F (aF.r a0) (aF.r a1)=ret (md a0 a1):=by
 obtain ⟨H0,H1⟩:=hg
 unfold F md
 try simp only [SS]
 refine ct (Z178.aj ⟨H0.1,H1.1⟩) ?_
 refine au ret (fun c1=>?_) (fun _=>rfl)
 refine ct (Z178.aj ⟨H0.2.1,H1.2.1⟩) ?_
 refine au ret (fun c2=>?_) (fun _=>rfl)
 refine ct (Z178.aj ⟨H0.2.2,H1.2.2⟩) ?_
 refine au ret (fun c3=>?_) (fun _=>rfl)
 refine ct (Z163.aj H0) ?_
 try simp only [SS]
 refine ct (Z163.aj H1) ?_
 try simp only [SS]
 refine ct (Z177.aj ⟨⟨(have:=Z163.len a0;have:=(H0.1).1;have:=(H0.2.1).1;have:=(H0.2.2).1;om),fun _ _=>trivial⟩,⟨(have:=Z163.len a1;have:=(H1.1).1;have:=(H1.2.1).1;have:=(H1.2.2).1;om),fun _ _=>trivial⟩⟩) ?_
 all_goals exact fz
def af:cw 247 aT:=W2 31 F mix aE bt (.cons Z178.af (.cons Z163.af (.cons Z177.af .nil))) Tryz.func247
def md_eq (a0 a1:aF):md a0 a1=dW a0 a1:=by
 unfold md
 simp only [Z177.md_eq,Z178.md_eq,Z163.br]
 rw [Bool.eq_iff_iff]
 constructor
 ·intro h
  simp only [zW,Bool.and_eq_true] at h
  exact dc.2 (Z58.inj (dc.1 h.2.2.2))
 ·intro h
  rw [dc] at h
  rw [h]
  simp only [fH];rfl
end Z238
namespace Z239
inductive Pt where
 | p0 (a b:aC) (c d:Int)
def pid:Pt->Nat
 | .p0 ..=>4
def cg:Pt->List V
 | .p0 a b c d=>[.sl none 141 a,.sl none 141 b,.int .i64 c,.int .i64 d]
def bZ:Pt->List aW
 | .p0 a b c d=>[]
def step (J:Pt->aH):Pt->aH
 | .p0 a b c d=>(cond (decide (d<c)) (m2 d (b.length:Int) (m2 d (a.length:Int) (call (Z238.R ((aR.at b (toNat d)).an,(aR.at a (toNat d)).an)) fun v1=>(cond (!v1) aY (J (.p0 a b c (i64.wrap (d+1)))))))) ep)
def start (J:Pt->aH)(x0 x1:aC):aH:=(cond (decide ((x0.length:Int)>(x1.length:Int))) aY (J (.p0 x1 x0 (x0.length:Int) 0)))
def live:Nat->Live:=fun i=>match i with | 4=>[(1,none),(12,none),(13,none),(14,none)] | _=>[]
def md (a0 a1:List aa):Bool:=(bif (decide ((a0.length:Int)>(a1.length:Int))) then (false:Bool) else (eo (S:=Unit) (β:=Bool) (fun (i2:Nat) (s4:Unit)=>(cond (!(Z238.md ((a0.getD i2 aa.zero).an) ((a1.getD i2 aa.zero).an))) (.inr (false:Bool)) (.inl ()))) (fun (s4:Unit)=>(true:Bool)) a0.length 0 ()))
def gd (a0 a1:List aa):Prop:=(bL (2^21) (fun y:aa=>aa.Sm (2^21) y) a0)/\(bL (2^21) (fun y:aa=>aa.Sm (2^21) y) a1)
def R:=RR (p2 gd) (u2 md)
def aj {a0 a1}(h:gd a0 a1):R ((a0.map aa.row),(a1.map aa.row))=some (md a0 a1):=aN (a:=(a0,a1)) h
def aT:=CN [pL 141,pL 141] oB RT.dec R
def bt (a0)(a1)(hg:gd a0 a1):∃n,start (iter step n) (a0.map aa.row) (a1.map aa.row)=ret (md a0 a1):=by
 obtain ⟨H0,H1⟩:=hg
 unfold start md
 try simp only [SS]
 refine gR ret (fun _=>⟨0,rfl⟩) (fun c1=>?_)
 have dc1:=c1
 try simp only [DC] at dc1
 have Bh3:a0.length<=maxLen:=(by
   have:=(H0).1
   try simp only [maxLen] at *
   omega)
 refine dK (p:=Pt.p0 (a1.map aa.row) (a0.map aa.row) (a0.length:Int) 0) fz ?_
 refine cj (pt:=fun (i2:Nat) (s4:Unit)=>Pt.p0 (a1.map aa.row) (a0.map aa.row) (a0.length:Int) (i2:Int)) (s:=(():Unit)) (out:=ret) (fun _ _=>True) (fun J i2 s4 h3 hih3=>?_) (fun s4 hih3=>?_) trivial
 ·simp only [step,SS]
  have bb_:=Bh3
  simp only [maxLen] at bb_
  have:=(H0).1
  refine bz.yes (by apply decide_eq_true;omega) ?_
  refine bz.yes aI ?_
  refine bz.yes (aL h3) ?_
  refine bz.yes aI ?_
  refine bz.yes (have:=(H1).1;dt) ?_
  refine cr (Z238.aj ⟨(bL.getD (z:=aa.zero) H0 h3).1,(bL.getD (z:=aa.zero) H1 (by first | assumption | omega | (simp (disch:=omega) only [wi];omega) | (simp;omega))).1⟩) ?_
  refine bz.bif (fun _=>bz.inr rfl) (fun c5=>?_)
  refine bz.inl trivial ?_
  rw [aG h3 Bh3]
  all_goals exact fz
 ·simp only [step,SS]
  have:=(H0).1
  refine dx (by apply decide_eq_false;omega) ?_
  refine ⟨0,?_⟩
  all_goals exact fz
def af:cw 244 aT:=L2 29 pid cg bZ live step start mix aE bt (.cons Z238.af .nil) Tryz.func244
def br (a0 a1:List aa):md a0 a1=Z105.md a0 a1:=by
 unfold md Z105.md
 first
 | (simp only [Z238.md_eq,Z104.md_eq];done)
 | (simp only [Z238.md_eq,Z104.md_eq];rfl)
 | rfl
end Z239
namespace Z240
def F (x0:bu)(x1:aC):aH:=(call (Z185.R x1) fun v1=>(cond (!v1) (ret (6:Int)) (ck (decide ((0:Int)<(x1.length:Int))) (call (Z237.R (x0,(aR.at x1 0).an.bC)) fun v2=>(cond (decide (v2<0)) (ret (1:Int)) (m2 v2 (x0.aJ.length:Int) (call (Z239.R ((og x0.aJ (toNat v2)),x1)) fun v3=>(m2 v2 (x0.aJ.length:Int) (call (Z239.R (x1,(og x0.aJ (toNat v2)))) fun v4=>(cond v3 (cond v4 (ret (2:Int)) (cond v3 (ret (3:Int)) (cond v4 (ret (4:Int)) (ret (5:Int))))) (cond v3 (ret (3:Int)) (cond v4 (ret (4:Int)) (ret (5:Int))))))))))))))
def md (a0:aq)(a1:List aa):Int:=(cond (!(Z185.md a1)) (6:Int) (cond (decide ((Z237.md a0 (((a1.getD 0 aa.zero).an).bC))<0)) (1:Int) (cond (Z239.md (a0.aJ.getD (toNat (Z237.md a0 (((a1.getD 0 aa.zero).an).bC))) []) a1) (cond (Z239.md a1 (a0.aJ.getD (toNat (Z237.md a0 (((a1.getD 0 aa.zero).an).bC))) [])) (2:Int) (cond (Z239.md (a0.aJ.getD (toNat (Z237.md a0 (((a1.getD 0 aa.zero).an).bC))) []) a1) (3:Int) (cond (Z239.md a1 (a0.aJ.getD (toNat (Z237.md a0 (((a1.getD 0 aa.zero).an).bC))) [])) (4:Int) (5:Int)))) (cond (Z239.md (a0.aJ.getD (toNat (Z237.md a0 (((a1.getD 0 aa.zero).an).bC))) []) a1) (3:Int) (cond (Z239.md a1 (a0.aJ.getD (toNat (Z237.md a0 (((a1.getD 0 aa.zero).an).bC))) [])) (4:Int) (5:Int))))))
def gd (a0:aq)(a1:List aa):Prop:=(aq.Sm (2^21) a0)/\(bL (2^21) (fun y:aa=>aa.Sm (2^21) y) a1)
def R:=RR (p2 gd) (u2 md)
def aj {a0 a1}(h:gd a0 a1):R ((aq.r a0),(a1.map aa.row))=some (md a0 a1):=aN (a:=(a0,a1)) h
def aT:=CN [.agg rK,pL 141] oI RT.dec R
def bt (a0)(a1)(hg:gd a0 a1):F (aq.r a0) (a1.map aa.row)=ret (md a0 a1):=by
 obtain ⟨H0,H1⟩:=hg
 unfold F md
 try simp only [SS]
 refine ct (Z185.aj H1) ?_
 refine au ret (fun _=>rfl) (fun c1=>?_)
 have dc1:=c1
 try simp only [DC] at dc1
 try have tc1:=Z185.tr (by simpa using c1)
 refine ak (have:=(H1).1;dt) ?_
 refine ct (Z237.aj H0) ?_
 have fv2_:=Z237.fa a0 (((a1.getD 0 aa.zero).an).bC)
 refine au ret (fun _=>rfl) (fun c2=>?_)
 have dc2:=c2
 try simp only [DC] at dc2
 refine ak dt ?_
 refine ak (have:=(H0.1).1;dt) ?_
 refine ct (Z239.aj ⟨(bL.getD (z:=[]) H0.1 (by first | assumption | omega | (simp (disch:=omega) only [wi];omega) | (simp;omega))),H1⟩) ?_
 refine ak dt ?_
 refine ak (have:=(H0.1).1;dt) ?_
 refine ct (Z239.aj ⟨H1,(bL.getD (z:=[]) H0.1 (by first | assumption | omega | (simp (disch:=omega) only [wi];omega) | (simp;omega)))⟩) ?_
 refine au ret (fun c3=>?_) (fun c3=>?_)
 ·refine au ret (fun _=>rfl) (fun c4=>?_)
  refine au ret (fun _=>rfl) (fun c5=>?_)
  refine au ret (fun _=>rfl) (fun _=>rfl)
 ·refine au ret (fun _=>rfl) (fun c7=>?_)
  refine au ret (fun _=>rfl) (fun _=>rfl)
def af:cw 209 aT:=W2 43 F mix aE bt (.cons Z185.af (.cons Z237.af (.cons Z239.af .nil))) Tryz.func209
def fa (a0:aq)(a1:List aa):(md a0 a1=3->1<=a1.length/\0<=Z237.md a0 (a1.getD 0 aa.zero).an.bC)/\(md a0 a1=5->1<=a1.length/\0<=Z237.md a0 (a1.getD 0 aa.zero).an.bC):=by
 unfold md
 cases h:Z185.md a1
 ·exact ⟨fun h=>by simp at h,fun h=>by simp at h⟩
 ·have t:=Z185.tr h
  cases hf:decide (Z237.md a0 ((a1.getD 0 aa.zero).an.bC)<0)
  ·have:=of_decide_eq_false hf
   exact ⟨fun _=>⟨t.1,by omega⟩,fun _=>⟨t.1,by omega⟩⟩
  ·exact ⟨fun h=>by simp at h,fun h=>by simp at h⟩
def br (a0:aq)(a1:List aa):md a0 a1=Z106.md a0 a1:=by
 unfold md Z106.md
 first
 | (simp only [Z185.br,Z237.br,Z239.br];done)
 | (simp only [Z185.br,Z237.br,Z239.br];rfl)
 | rfl
end Z240
namespace Z241
inductive Pt where
 | p0 (a b:aC) (c d e f g h i j k l m n o:Int) (p:Bool) (q s t u v w y z w24 w25 w26 w27:Int) (w28:Bool) (w29 w30 w31 w32 w33 w34 w35 w36 w37 w38 w39 w40:Int) (w41:Bool)
def pid:Pt->Nat
 | .p0 ..=>4
def cg:Pt->List V
 | .p0 a b c d e f g h i j k l m n o p q s t u v w y z w24 w25 w26 w27 w28 w29 w30 w31 w32 w33 w34 w35 w36 w37 w38 w39 w40 w41=>[.sl none 141 a,.sl none 141 b,.cQ 0 0,.int .i64 c]
def bZ:Pt->List aW
 | .p0 a b c d e f g h i j k l m n o p q s t u v w y z w24 w25 w26 w27 w28 w29 w30 w31 w32 w33 w34 w35 w36 w37 w38 w39 w40 w41=>[.box [.int .i64 d,.int .i64 e,.int .i64 f,.int .i64 g,.int .i64 h,.int .i64 i,.int .i64 j,.int .i64 k,.nil,.int .i64 l,.nil,.int .i64 m,.int .i64 n,.nil,.int .i64 o,.bool p,.nil,.int .i64 q,.int .i64 s,.int .i64 t,.int .i64 u,.int .i64 v,.int .i64 w,.int .i64 y,.int .i64 z,.nil,.int .i64 w24,.nil,.int .i64 w25,.int .i64 w26,.nil,.int .i64 w27,.bool w28,.nil,.int .i64 w29,.int .i64 w30,.int .i64 w31,.int .i64 w32,.int .i64 w33,.int .i64 w34,.int .i64 w35,.int .i64 w36,.nil,.int .i64 w37,.nil,.int .i64 w38,.int .i64 w39,.nil,.int .i64 w40,.bool w41,.nil]]
def step (J:Pt->aH):Pt->aH
 | .p0 a b c d e f g h i j k l m n o p q s t u v w y z w24 w25 w26 w27 w28 w29 w30 w31 w32 w33 w34 w35 w36 w37 w38 w39 w40 w41=>(m2 c (a.length:Int) (m2 c (b.length:Int) (call (Z238.R ((aR.at a (toNat c)).an,(aR.at b (toNat c)).an)) fun v1=>(cond v1 (J (.p0 a b (i64.wrap (c+1)) d e f g h i j k l m n o p q s t u v w y z w24 w25 w26 w27 w28 w29 w30 w31 w32 w33 w34 w35 w36 w37 w38 w39 w40 w41)) (m2 c (a.length:Int) (call (Z137.R (aR.at a (toNat c))) fun v2=>(m2 c (b.length:Int) (call (Z137.R (aR.at b (toNat c))) fun v3=>(cond (decide (c>0)) (ck (decide ((0:Int)<=(i64.wrap (c - 1)))) (ck (decide ((i64.wrap (c - 1))<(a.length:Int))) (call (Z137.R (aR.at a (toNat (i64.wrap (c - 1))))) fun v4=>ret (((⟨v4,v2,v3⟩:bH),true):bH×Bool)))) (ret (((⟨(⟨(⟨0,0,0,0,0,0,0,0,(⟨[],0⟩:bD),(⟨[],0⟩:bD),0,(⟨[],0⟩:bD),false⟩:bY),[]⟩:aR),v2,v3⟩:bH),true):bH×Bool)))))))))))
def start (J:Pt->aH)(x0 x1:aC):aH:=(call (Z185.R x0) fun v1=>(cond (!v1) (ret (((⟨(⟨(⟨0,0,0,0,0,0,0,0,(⟨[],0⟩:bD),(⟨[],0⟩:bD),0,(⟨[],0⟩:bD),false⟩:bY),[]⟩:aR),(⟨(⟨0,0,0,0,0,0,0,0,(⟨[],0⟩:bD),(⟨[],0⟩:bD),0,(⟨[],0⟩:bD),false⟩:bY),[]⟩:aR),(⟨(⟨0,0,0,0,0,0,0,0,(⟨[],0⟩:bD),(⟨[],0⟩:bD),0,(⟨[],0⟩:bD),false⟩:bY),[]⟩:aR)⟩:bH),false):bH×Bool)) (call (Z185.R x1) fun v2=>(cond (!v2) (ret (((⟨(⟨(⟨0,0,0,0,0,0,0,0,(⟨[],0⟩:bD),(⟨[],0⟩:bD),0,(⟨[],0⟩:bD),false⟩:bY),[]⟩:aR),(⟨(⟨0,0,0,0,0,0,0,0,(⟨[],0⟩:bD),(⟨[],0⟩:bD),0,(⟨[],0⟩:bD),false⟩:bY),[]⟩:aR),(⟨(⟨0,0,0,0,0,0,0,0,(⟨[],0⟩:bD),(⟨[],0⟩:bD),0,(⟨[],0⟩:bD),false⟩:bY),[]⟩:aR)⟩:bH),false):bH×Bool)) (ck (decide ((0:Int)<(x0.length:Int))) (ck (decide ((0:Int)<(x1.length:Int))) (cond ((aR.at x0 0).an.bC != (aR.at x1 0).an.bC) (ret (((⟨(⟨(⟨0,0,0,0,0,0,0,0,(⟨[],0⟩:bD),(⟨[],0⟩:bD),0,(⟨[],0⟩:bD),false⟩:bY),[]⟩:aR),(⟨(⟨0,0,0,0,0,0,0,0,(⟨[],0⟩:bD),(⟨[],0⟩:bD),0,(⟨[],0⟩:bD),false⟩:bY),[]⟩:aR),(⟨(⟨0,0,0,0,0,0,0,0,(⟨[],0⟩:bD),(⟨[],0⟩:bD),0,(⟨[],0⟩:bD),false⟩:bY),[]⟩:aR)⟩:bH),false):bH×Bool)) (call (Z239.R (x0,x1)) fun v3=>(cond v3 (ret (((⟨(⟨(⟨0,0,0,0,0,0,0,0,(⟨[],0⟩:bD),(⟨[],0⟩:bD),0,(⟨[],0⟩:bD),false⟩:bY),[]⟩:aR),(⟨(⟨0,0,0,0,0,0,0,0,(⟨[],0⟩:bD),(⟨[],0⟩:bD),0,(⟨[],0⟩:bD),false⟩:bY),[]⟩:aR),(⟨(⟨0,0,0,0,0,0,0,0,(⟨[],0⟩:bD),(⟨[],0⟩:bD),0,(⟨[],0⟩:bD),false⟩:bY),[]⟩:aR)⟩:bH),false):bH×Bool)) (call (Z239.R (x1,x0)) fun v4=>(cond v4 (ret (((⟨(⟨(⟨0,0,0,0,0,0,0,0,(⟨[],0⟩:bD),(⟨[],0⟩:bD),0,(⟨[],0⟩:bD),false⟩:bY),[]⟩:aR),(⟨(⟨0,0,0,0,0,0,0,0,(⟨[],0⟩:bD),(⟨[],0⟩:bD),0,(⟨[],0⟩:bD),false⟩:bY),[]⟩:aR),(⟨(⟨0,0,0,0,0,0,0,0,(⟨[],0⟩:bD),(⟨[],0⟩:bD),0,(⟨[],0⟩:bD),false⟩:bY),[]⟩:aR)⟩:bH),false):bH×Bool)) (J (.p0 x0 x1 0 0 0 0 0 0 0 0 0 0 0 0 0 false 0 0 0 0 0 0 0 0 0 0 0 0 false 0 0 0 0 0 0 0 0 0 0 0 0 false)))))))))))))
def live:Nat->Live:=fun i=>match i with | 4=>[(0,none),(1,none),(4,none),(6,none)] | _=>[]
def pt (a b:aC)(c:Int):Pt:=Pt.p0 a b c 0 0 0 0 0 0 0 0 0 0 0 0 false 0 0 0 0 0 0 0 0 0 0 0 0 false 0 0 0 0 0 0 0 0 0 0 0 0 false
def md (a0 a1:List aa):az×Bool:=(cond (!(Z185.md a0)) (az.zero,false) (cond (!(Z185.md a1)) (az.zero,false) (cond (((a0.getD 0 aa.zero).an).bC != ((a1.getD 0 aa.zero).an).bC) (az.zero,false) (cond (Z239.md a0 a1) (az.zero,false) (cond (Z239.md a1 a0) (az.zero,false) (Z107.vf a0 a1 (Z107.fk a0 a1),true))))))
def gd (a0 a1:List aa):Prop:=bL (2^21) (fun y:aa=>aa.Sm (2^21) y) a0/\bL (2^21) (fun y:aa=>aa.Sm (2^21) y) a1
def R:=RR (p2 gd) (u2 md)
def aj {a0 a1}(h:gd a0 a1):R ((a0.map aa.row),(a1.map aa.row))=some ((az.r (md a0 a1).1),(md a0 a1).2):=aN (a:=(a0,a1)) h
def aT:=CN [pL 141,pL 141] (.iE [(true,f143),(false,[fB])]) RT.dec R
def bt (a0)(a1)(hg:gd a0 a1):∃n,start (iter step n) (a0.map aa.row) (a1.map aa.row)=ret ((az.r (md a0 a1).1),(md a0 a1).2):=by
 unfold gd at hg
 obtain ⟨H0,H1⟩:=hg
 have hl0:=H0.1
 have hl1:=H1.1
 have key:Z107.fk a0 a1<a0.length->Z107.fk a0 a1<a1.length->Z104.md (a0.getD (Z107.fk a0 a1) aa.zero).an (a1.getD (Z107.fk a0 a1) aa.zero).an=false->∀d k,k+d=Z107.fk a0 a1->∃n,iter step n (pt (a0.map aa.row) (a1.map aa.row) (k:Int))=ret ((az.r (Z107.vf a0 a1 (Z107.fk a0 a1)),true):bH×Bool):=by
  intro hn0 hn1 hne d
  have hR:∀k,k<a0.length->k<a1.length->Z238.R (aF.r (a0.getD k aa.zero).an,aF.r (a1.getD k aa.zero).an)=some (Z104.md (a0.getD k aa.zero).an (a1.getD k aa.zero).an):=by
   intro k h0 h1
   rw [Z238.aj ⟨(bL.getD (z:=aa.zero) H0 h0).1,(bL.getD (z:=aa.zero) H1 h1).1⟩,Z238.md_eq,Z104.md_eq]
  induction d with
  | zero=>
   intro k hk
   obtain rfl:k=Z107.fk a0 a1:=by omega
   generalize hkk:Z107.fk a0 a1=k at hn0 hn1 hne ⊢
   refine ⟨1,?_⟩
   show step (iter step 0) _=_
   have q1:(0:Int)<=(k:Int):=by omega
   have q2:(k:Int)<(a0.length:Int):=by omega
   have q3:(k:Int)<(a1.length:Int):=by omega
   simp only [pt,step,MM,S0,aa.rs,aF.rs,q1,q2,q3,decide_true,bf]
   rw [call_eq (hR k hn0 hn1),hne,bq,call_eq (Z137.aj (a0:=a0.getD k aa.zero) (bL.getD (z:=aa.zero) H0 hn0)),call_eq (Z137.aj (a0:=a1.getD k aa.zero) (bL.getD (z:=aa.zero) H1 hn1))]
   cases k with
   | zero=>rfl
   | succ k=>
    have q4:((k+1:Nat):Int)>0:=by omega
    have q5:i64.wrap (((k+1:Nat):Int) - 1)=(k:Int):=by rw [wi _ (by omega)];omega
    have q6:(0:Int)<=(k:Int):=by omega
    have q7:(k:Int)<(a0.length:Int):=by omega
    simp only [q4,q5,q6,q7,decide_true,bf,S0,aa.rs]
    rw [call_eq (Z137.aj (a0:=a0.getD k aa.zero) (bL.getD (z:=aa.zero) H0 (by omega)))]
    rfl
  | succ d ih=>
   intro k hk
   obtain ⟨n,hn⟩:=ih (k+1) (by omega)
   refine ⟨n+1,?_⟩
   show step (iter step n) _=_
   have q1:(0:Int)<=(k:Int):=by omega
   have q2:(k:Int)<(a0.length:Int):=by omega
   have q3:(k:Int)<(a1.length:Int):=by omega
   simp only [pt,step,MM,S0,aa.rs,aF.rs,q1,q2,q3,decide_true,bf]
   rw [call_eq (hR k (by omega) (by omega)),(Z107.pW a0 a1).1 k (by omega),bf,wi _ (by omega)]
   exact hn
 unfold start md
 simp only [S0,aa.rs,aF.rs]
 refine eV (Z185.md a0) (Z185.aj H0) ?_
 cases hc0:Z185.md a0
 ·exact ⟨0,rfl⟩
 simp only [Bool.not_true,bq]
 refine eV (Z185.md a1) (Z185.aj H1) ?_
 cases hc1:Z185.md a1
 ·exact ⟨0,rfl⟩
 have t0:=Z185.tr hc0
 have t1:=Z185.tr hc1
 simp only [Bool.not_true,bq]
 refine dI (decide_eq_true (by omega)) (dI (decide_eq_true (by omega)) ?_)
 cases ((a0.getD 0 aa.zero).an.bC != (a1.getD 0 aa.zero).an.bC)
 case true=>exact ⟨0,rfl⟩
 simp only [bq]
 refine eV (Z239.md a0 a1) (Z239.aj ⟨H0,H1⟩) ?_
 cases hp0:Z239.md a0 a1
 case true=>exact ⟨0,rfl⟩
 simp only [bq]
 refine eV (Z239.md a1 a0) (Z239.aj ⟨H1,H0⟩) ?_
 cases hp1:Z239.md a1 a0
 case true=>exact ⟨0,rfl⟩
 simp only [bq]
 rw [Z239.br] at hp0 hp1
 obtain ⟨h1,h2,h3⟩:=Z107.lJ hp0 hp1
 exact key h1 h2 h3 (Z107.fk a0 a1) 0 (by omega)
def af:cw 211 aT:=L2 74 pid cg bZ live step start mix aE bt (.cons Z185.af (.cons Z239.af (.cons Z238.af (.cons Z137.af .nil)))) Tryz.func211
def gh {a0 a1:List aa}(hg:gd a0 a1):az.Sm (2^21) ((md a0 a1).1):=by
 unfold gd at hg;unfold md
 have z:az.Sm (2^21) az.zero:=⟨⟨⟨bL.nil,bL.nil,bL.nil⟩,bL.nil⟩,⟨⟨bL.nil,bL.nil,bL.nil⟩,bL.nil⟩,⟨⟨bL.nil,bL.nil,bL.nil⟩,bL.nil⟩⟩
 cases Z185.md a0
 ·exact z
 cases Z185.md a1
 ·exact z
 cases ((a0.getD 0 aa.zero).an.bC != (a1.getD 0 aa.zero).an.bC)
 case true=>exact z
 cases h1:Z239.md a0 a1
 case true=>exact z
 cases h2:Z239.md a1 a0
 case true=>exact z
 rw [Z239.br] at h1 h2
 obtain ⟨h3,h4,_⟩:=Z107.lJ h1 h2
 exact Z107.vV hg.1 hg.2 h3 h4
def br (a0 a1:List aa):md a0 a1=Z107.md a0 a1:=by
 unfold md Z107.md
 first
 | (simp only [Z185.br,Z239.br,Z238.md_eq,Z104.md_eq];done)
 | (simp only [Z185.br,Z239.br,Z238.md_eq,Z104.md_eq];rfl)
 | rfl
end Z241
namespace Z242
def F (x0:bu)(x1:aC):aH:=(call (Z140.R x0) fun v1=>(call (Z240.R (x0,x1)) fun v2=>(cond (v2==1) (cond (decide ((x0.aJ.length:Int)>=8)) (ret ((v1,6):bu×Int)) (call (Z138.R x1) fun v3=>(ck (eT (((v1.aJ.length:Int)+1)*24)) (ret (((⟨(v1.aJ++[[L.sl v3]]),v1.bp⟩:bu),v2):bu×Int))))) (cond (v2==3) (ck (decide ((0:Int)<(x1.length:Int))) (call (Z237.R (x0,(aR.at x1 0).an.bC)) fun v4=>(call (Z138.R x1) fun v5=>(m2 v4 (v1.aJ.length:Int) (ret (((⟨(List.set v1.aJ (toNat v4) [L.sl v5]),v1.bp⟩:bu),v2):bu×Int)))))) (cond (v2==5) (ck (decide ((0:Int)<(x1.length:Int))) (call (Z237.R (x0,(aR.at x1 0).an.bC)) fun v6=>(m2 v6 (x0.aJ.length:Int) (call (Z241.R ((og x0.aJ (toNat v6)),x1)) fun v7=>(cond v7.2 (cond (decide ((x0.bp.length:Int)<8)) (ck (eT (((v1.bp.length:Int)+1)*600)) (ret (((⟨v1.aJ,(v1.bp++[(bH.enc v7.1)])⟩:bu),v2):bu×Int))) (ret ((v1,v2):bu×Int))) (ret ((v1,v2):bu×Int))))))) (ret ((v1,v2):bu×Int)))))))
def md (a0:aq)(a1:List aa):aq×Int:=(cond ((Z240.md a0 a1)==1) (cond (decide ((a0.aJ.length:Int)>=8)) (a0,6) ((⟨(a0.aJ++[a1]),a0.bp⟩:aq),(Z240.md a0 a1))) (cond ((Z240.md a0 a1)==3) ((⟨(List.set a0.aJ (toNat (Z237.md a0 (((a1.getD 0 aa.zero).an).bC))) a1),a0.bp⟩:aq),(Z240.md a0 a1)) (cond ((Z240.md a0 a1)==5) (cond ((Z241.md (a0.aJ.getD (toNat (Z237.md a0 (((a1.getD 0 aa.zero).an).bC))) []) a1).2) (cond (decide ((a0.bp.length:Int)<8)) ((⟨a0.aJ,(a0.bp++[(Z241.md (a0.aJ.getD (toNat (Z237.md a0 (((a1.getD 0 aa.zero).an).bC))) []) a1).1])⟩:aq),(Z240.md a0 a1)) (a0,(Z240.md a0 a1))) (a0,(Z240.md a0 a1))) (a0,(Z240.md a0 a1)))))
def gd (a0:aq)(a1:List aa):Prop:=(aq.Sm (2^21) a0)/\(bL (2^21) (fun y:aa=>aa.Sm (2^21) y) a1)
def R:=RR (p2 gd) (u2 md)
def aj {a0 a1}(h:gd a0 a1):R ((aq.r a0),(a1.map aa.row))=some ((aq.r (md a0 a1).1),(md a0 a1).2):=aN (a:=(a0,a1)) h
def aT:=CN [.agg rK,pL 141] (.iE [(true,f37),(false,[fI])]) RT.dec R
def bt (a0)(a1)(hg:gd a0 a1):F (aq.r a0) (a1.map aa.row)=ret ((aq.r (md a0 a1).1),(md a0 a1).2):=by
 obtain ⟨H0,H1⟩:=hg
 unfold F md
 try simp only [SS]
 refine ct (Z140.aj H0) ?_
 try simp only [SS]
 refine ct (Z240.aj ⟨H0,H1⟩) ?_
 have fv2_:=Z240.fa a0 a1
 refine au (fun b:aq×Int=>ret (((aq.r b.1),b.2):bu×Int)) (fun c1=>?_) (fun c1=>?_)
 ·have dc1:=c1
  try simp only [DC] at dc1
  refine au (fun b:aq×Int=>ret (((aq.r b.1),b.2):bu×Int)) (fun c2=>?_) (fun c2=>?_)
  ·all_goals exact fz
  ·have dc2:=c2
   try simp only [DC] at dc2
   refine ct (Z138.aj H1) ?_
   try simp only [SS]
   refine ak (have:=(H0.1).1;lm) ?_
   all_goals exact fz
 ·have dc1:=c1
  try simp only [DC] at dc1
  refine au (fun b:aq×Int=>ret (((aq.r b.1),b.2):bu×Int)) (fun c3=>?_) (fun c3=>?_)
  ·have dc3:=c3
   try simp only [DC] at dc3
   refine ak (have:=(H1).1;dt) ?_
   refine ct (Z237.aj H0) ?_
   have fv4_:=Z237.fa a0 (((a1.getD 0 aa.zero).an).bC)
   refine ct (Z138.aj H1) ?_
   try simp only [SS]
   refine ak dt ?_
   refine ak (have:=(H0.1).1;dt) ?_
   all_goals exact fz
  ·have dc3:=c3
   try simp only [DC] at dc3
   refine au (fun b:aq×Int=>ret (((aq.r b.1),b.2):bu×Int)) (fun c4=>?_) (fun c4=>?_)
   ·have dc4:=c4
    try simp only [DC] at dc4
    refine ak (have:=(H1).1;dt) ?_
    refine ct (Z237.aj H0) ?_
    have fv6_:=Z237.fa a0 (((a1.getD 0 aa.zero).an).bC)
    refine ak dt ?_
    refine ak (have:=(H0.1).1;dt) ?_
    refine ct (Z241.aj ⟨(bL.getD (z:=[]) H0.1 (by first | assumption | omega | (simp (disch:=omega) only [wi];omega) | (simp;omega))),H1⟩) ?_
    try simp only [SS]
    refine au (fun b:aq×Int=>ret (((aq.r b.1),b.2):bu×Int)) (fun c5=>?_) (fun c5=>?_)
    ·refine au (fun b:aq×Int=>ret (((aq.r b.1),b.2):bu×Int)) (fun c6=>?_) (fun c6=>?_)
     ·have dc6:=c6
      try simp only [DC] at dc6
      refine ak (have:=(H0.2).1;lm) ?_
      all_goals exact fz
     ·all_goals exact fz
    ·all_goals exact fz
   ·all_goals exact fz
def af:cw 170 aT:=W2 77 F mix aE bt (.cons Z140.af (.cons Z240.af (.cons Z138.af (.cons Z237.af (.cons Z241.af .nil))))) Tryz.func170
def gh {a0:aq}{a1:List aa}(hg:gd a0 a1):aq.Sm (2^21) ((md a0 a1).1):=by
 unfold gd at hg;unfold md
 obtain ⟨⟨h1,h2⟩,h3⟩:=hg
 simp only [Bool.cond_eq_ite]
 repeat' split
 all_goals (try simp only [decide_eq_true_eq,ge_iff_le] at *)
 all_goals first
  | exact ⟨h1,h2⟩
  | exact ⟨bL.app (a:=7) (b:=1) ⟨by omega,h1.2⟩ (bL.one h3) (by decide),h2⟩
  | exact ⟨bL.set h1 h3,h2⟩
  | exact ⟨h1,bL.app (a:=7) (b:=1) ⟨by omega,h2.2⟩ (bL.one (Z241.gh ⟨bL.vp h1 bL.nil,h3⟩)) (by decide)⟩
def br (a0:aq)(a1:List aa):md a0 a1=Z108.md a0 a1:=by
 unfold md Z108.md
 first
 | (simp only [Z240.br,Z237.br,Z241.br];done)
 | (simp only [Z240.br,Z237.br,Z241.br];rfl)
 | rfl
end Z242
namespace Z243
inductive Pt where
 | p0 (a b:aC) (c d:Int)
def pid:Pt->Nat
 | .p0 ..=>4
def cg:Pt->List V
 | .p0 a b c d=>[.sl none 190 a,.sl none 190 b,.int .i64 c,.int .i64 d]
def bZ:Pt->List aW
 | .p0 a b c d=>[]
def step (J:Pt->aH):Pt->aH
 | .p0 a b c d=>(cond (decide (d<c)) (m2 d (a.length:Int) (m2 d (b.length:Int) (cond (!((((bn.at a (toNat d)).gJ:Int)==(bn.at b (toNat d)).gJ)&&((((bn.at a (toNat d)).jq:Int)==(bn.at b (toNat d)).jq)&&true))) aY (J (.p0 a b c (i64.wrap (d+1))))))) ep)
def start (J:Pt->aH)(x0 x1:aC):aH:=(cond ((x0.length:Int) != (x1.length:Int)) aY (J (.p0 x0 x1 (x0.length:Int) 0)))
def live:Nat->Live:=fun i=>match i with | 4=>[(0,none),(1,none),(12,none),(13,none)] | _=>[]
def md (a0 a1:List bn):Bool:=(bif ((a0.length:Int) != (a1.length:Int)) then (false:Bool) else (eo (S:=Unit) (β:=Bool) (fun (i2:Nat) (s4:Unit)=>(cond (!((((a0.getD i2 bn.zero).gJ:Int)==(a1.getD i2 bn.zero).gJ)&&((((a0.getD i2 bn.zero).jq:Int)==(a1.getD i2 bn.zero).jq)&&true))) (.inr (false:Bool)) (.inl ()))) (fun (s4:Unit)=>(true:Bool)) a0.length 0 ()))
def gd (a0 a1:List bn):Prop:=(bL (2^21) (fun y:bn=>bn.Sm (2^21) y) a0)/\(bL (2^21) (fun y:bn=>bn.Sm (2^21) y) a1)
def R:=RR (p2 gd) (u2 md)
def aj {a0 a1}(h:gd a0 a1):R ((a0.map bn.row),(a1.map bn.row))=some (md a0 a1):=aN (a:=(a0,a1)) h
def aT:=CN [pL 190,pL 190] oB RT.dec R
def bt (a0)(a1)(hg:gd a0 a1):∃n,start (iter step n) (a0.map bn.row) (a1.map bn.row)=ret (md a0 a1):=by
 obtain ⟨H0,H1⟩:=hg
 unfold start md
 try simp only [SS]
 refine gR ret (fun _=>⟨0,rfl⟩) (fun c1=>?_)
 have dc1:=c1
 try simp only [DC] at dc1
 have Bh3:a0.length<=maxLen:=(by
   have:=(H0).1
   try simp only [maxLen] at *
   omega)
 refine dK (p:=Pt.p0 (a0.map bn.row) (a1.map bn.row) (a0.length:Int) 0) fz ?_
 refine cj (pt:=fun (i2:Nat) (s4:Unit)=>Pt.p0 (a0.map bn.row) (a1.map bn.row) (a0.length:Int) (i2:Int)) (s:=(():Unit)) (out:=ret) (fun _ _=>True) (fun J i2 s4 h3 hih3=>?_) (fun s4 hih3=>?_) trivial
 ·simp only [step,SS]
  have bb_:=Bh3
  simp only [maxLen] at bb_
  have:=(H0).1
  refine bz.yes (by apply decide_eq_true;omega) ?_
  refine bz.yes aI ?_
  refine bz.yes (aL h3) ?_
  refine bz.yes aI ?_
  refine bz.yes (have:=(H1).1;dt) ?_
  refine bz.bif (fun _=>bz.inr rfl) (fun c5=>?_)
  refine bz.inl trivial ?_
  rw [aG h3 Bh3]
  all_goals exact fz
 ·simp only [step,SS]
  have:=(H0).1
  refine dx (by apply decide_eq_false;omega) ?_
  refine ⟨0,?_⟩
  all_goals exact fz
def af:cw 302 aT:=L2 26 pid cg bZ live step start mix aE bt .nil Tryz.func302
def md_eq (a0 a1:List bn):md a0 a1=dW a0 a1:=by
 unfold md
 refine ke (bn.zero) (fun i s h h2=>?_) (fun s=>rfl)
 simp only [bne,eZ,bool_beq,eO,bn.eqc]
 cases dW _ _<;>rfl
end Z243
namespace Z244
def F (x0 x1:aR):aH:=(call (Z238.R (x0.an,x1.an)) fun v1=>(cond v1 (call (Z243.R (x0.cm,x1.cm)) fun v2=>ret (v2:Bool)) aY))
def md (a0 a1:aa):Bool:=(cond (Z238.md a0.an a1.an) ((Z243.md a0.cm a1.cm):Bool) (false:Bool))
def gd (a0 a1:aa):Prop:=(aa.Sm (2^21) a0)/\(aa.Sm (2^21) a1)
def R:=RR (p2 gd) (u2 md)
def aj {a0 a1}(h:gd a0 a1):R ((aa.r a0),(aa.r a1))=some (md a0 a1):=aN (a:=(a0,a1)) h
def aT:=CN [.agg kE,.agg kE] oB RT.dec R
def bt (a0)(a1)(hg:gd a0 a1):F (aa.r a0) (aa.r a1)=ret (md a0 a1):=by
 obtain ⟨H0,H1⟩:=hg
 unfold F md
 try simp only [SS]
 refine ct (Z238.aj ⟨H0.1,H1.1⟩) ?_
 refine au ret (fun c1=>?_) (fun _=>rfl)
 refine ct (Z243.aj ⟨H0.2,H1.2⟩) ?_
 all_goals exact fz
def af:cw 276 aT:=W2 17 F mix aE bt (.cons Z238.af (.cons Z243.af .nil)) Tryz.func276
def md_eq (a0 a1:aa):md a0 a1=dW a0 a1:=by
 unfold md
 cases a0;cases a1
 rw [Bool.eq_iff_iff]
 simp [dc,eO,aa.mk.injEq,Z238.md_eq,Z243.md_eq]
 try (constructor<;>(intro h;simp_all))
end Z244
namespace Z245
def F (x0:bH):aH:=(call (Z238.R (x0.fA.an,x0.fB.an)) fun v1=>(cond v1 aY (call (Z244.R (x0.aQ,(⟨(⟨0,0,0,0,0,0,0,0,(⟨[],0⟩:bD),(⟨[],0⟩:bD),0,(⟨[],0⟩:bD),false⟩:bY),[]⟩:aR))) fun v2=>(cond v2 (call (Z173.R x0.fA) fun v3=>(cond v3 (call (Z173.R x0.fB) fun v4=>(cond v4 (ret ((x0.fA.an.bC==x0.fB.an.bC):Bool)) aY)) aY)) (call (Z183.R (x0.aQ.an,x0.fA)) fun v5=>(cond v5 (call (Z183.R (x0.aQ.an,x0.fB)) fun v6=>ret (v6:Bool)) aY))))))
def md (a0:az):Bool:=(cond (Z238.md a0.fA.an a0.fB.an) (false:Bool) (cond (Z244.md a0.aQ (⟨(⟨0,0,0,0,0,0,0,0,(⟨[],0⟩:aO),(⟨[],0⟩:aO),0,(⟨[],0⟩:aO),false⟩:aF),[]⟩:aa)) (cond (Z173.md a0.fA) (cond (Z173.md a0.fB) ((a0.fA.an.bC==a0.fB.an.bC):Bool) (false:Bool)) (false:Bool)) (cond (Z183.md a0.aQ.an a0.fA) ((Z183.md a0.aQ.an a0.fB):Bool) (false:Bool))))
def gd (a0:az):Prop:=(az.Sm (2^21) a0)
def R:=RR gd md
def aj {a0}(h:gd a0):R (az.r a0)=some (md a0):=aN (a:=a0) h
def aT:=CN [.agg sO] oB RT.dec R
def bt (a0)(hg:gd a0):F (az.r a0)=ret (md a0):=by
 unfold gd at hg
 have H0:=hg
 unfold F md
 try simp only [SS]
 refine ct (Z238.aj ⟨H0.2.1.1,H0.2.2.1⟩) ?_
 refine au ret (fun _=>rfl) (fun c1=>?_)
 refine ct (Z244.aj (a1:=(⟨(⟨0,0,0,0,0,0,0,0,(⟨[],0⟩:aO),(⟨[],0⟩:aO),0,(⟨[],0⟩:aO),false⟩:aF),[]⟩:aa)) ⟨H0.1,⟨⟨bL.nil,bL.nil,bL.nil⟩,bL.nil⟩⟩) ?_
 refine au ret (fun c2=>?_) (fun c2=>?_)
 ·refine ct (Z173.aj H0.2.1) ?_
  refine au ret (fun c3=>?_) (fun _=>rfl)
  refine ct (Z173.aj H0.2.2) ?_
  refine au ret (fun c4=>?_) (fun _=>rfl)
  all_goals exact fz
 ·refine ct (Z183.aj ⟨H0.1.1,H0.2.1⟩) ?_
  refine au ret (fun c5=>?_) (fun _=>rfl)
  refine ct (Z183.aj ⟨H0.1.1,H0.2.2⟩) ?_
  all_goals exact fz
def af:cw 249 aT:=W1 49 F mix aE bt (.cons Z238.af (.cons Z244.af (.cons Z173.af (.cons Z183.af .nil)))) Tryz.func249
def br (a0:az):md a0=Z121.md a0:=by
 unfold md Z121.md
 first
 | (simp only [Z173.br,Z183.br,Z238.md_eq,Z244.md_eq,Z104.md_eq,Z120.md_eq];done)
 | (simp only [Z173.br,Z183.br,Z238.md_eq,Z244.md_eq,Z104.md_eq,Z120.md_eq];rfl)
 | rfl
end Z245
namespace Z246
def F (x0:bH):aH:=(call (Z245.R x0) fun v1=>(cond (!v1) (ret ((-1):Int)) (ret (x0.fA.an.bC:Int))))
def md (a0:az):Int:=(cond (!(Z245.md a0)) ((-1):Int) (a0.fA.an.bC:Int))
def gd (a0:az):Prop:=(az.Sm (2^21) a0)
def R:=RR gd md
def aj {a0}(h:gd a0):R (az.r a0)=some (md a0):=aN (a:=a0) h
def aT:=CN [.agg sO] oI RT.dec R
def bt (a0)(hg:gd a0):F (az.r a0)=ret (md a0):=by
 unfold gd at hg
 have H0:=hg
 unfold F md
 try simp only [SS]
 refine ct (Z245.aj H0) ?_
 refine au ret (fun _=>rfl) (fun c1=>?_)
 all_goals exact fz
def af:cw 214 aT:=W1 10 F mix aE bt (.cons Z245.af .nil) Tryz.func214
def br (a0:az):md a0=Z122.md a0:=by
 unfold md Z122.md
 first
 | (simp only [Z245.br];done)
 | (simp only [Z245.br];rfl)
 | rfl
end Z246
namespace Z247
def F (x0:bH)(x1:List L):aH:=(call (Z246.R x0) fun v1=>ret ((v1==(gm x1)):Bool))
def pats:List fY:=[.agg [aD,aD,aD,aD,aD,aD,aD,aD,.sl 3,aD,.sl 3,aD,aD,.sl 3,aD,.bool,.sl 190,aD,aD,aD,aD,aD,aD,aD,aD,.sl 3,aD,.sl 3,aD,aD,.sl 3,aD,.bool,.sl 190,aD,aD,aD,aD,aD,aD,aD,aD,.sl 3,aD,.sl 3,aD,aD,.sl 3,aD,.bool,.sl 190],.ptr [aD]]
def res:RP:=.one (.rd (.bool))
def md (a0:az)(a1:Int):Bool:=(((Z246.md a0)==a1):Bool)
def gd (a0:az)(a1:Int):Prop:=(az.Sm (2^21) a0)
def acc (ls:List L):bH×Int:=((bH.dec ls),(gm (cH 1 (aA 51 ls))))
def R:(bH×Int)->Option Bool:=RR (p2 gd) (u2 md)
def aj {a0 a1}(h:gd a0 a1):R ((az.r a0),a1)=some (md a0 a1):=aN (a:=(a0,a1)) h
def aT:fQ:=CN pats res acc R
def bt (a0:az)(a1:Int)(p1:List L)(e1:a1=(gm p1))(hg:gd a0 a1):F (az.r a0) p1=ret ((md a0 a1):Bool):=by
 unfold gd at hg
 have H0:=hg
 unfold F md
 try simp only [SS,<-e1]
 refine ct (Z246.aj H0) ?_
 all_goals exact fz
def mB (ls:List L)(a:az×Int)(e:acc ls=Im.im a)(hg:(p2 gd) a):∃n:Nat,F (bH.dec ls) (cH 1 (aA 51 ls))=ret (Im.im ((u2 md) a)):=by
 have e0:(az.r a.1)=(bH.dec ls):=(congrArg (fun x=>x.1) e.symm)
 have hn:=bt a.1 a.2 (cH 1 (aA 51 ls)) (congrArg (fun x=>x.2) e.symm) hg
 refine ⟨0,?_⟩
 rw [<-e0]
 exact hn
def af:cw 213 aT:=VP (live:=fun _=>[]) (nt:=8) (accr:=fun ls=>((bH.dec ls),(cH 1 (aA 51 ls)))) (run:=fun _ x=>F x.1 x.2) mix aE (.cons Z246.af .nil) Tryz.func213 (by kernel_rfl) (fun _ _=>by kernel_rfl) (fun ls a _ e hg=>mB ls a e hg)
end Z247
namespace Z248
inductive Pt where
 | p0 (a:aC) (b:List L) (c d:Int)
def pid:Pt->Nat
 | .p0 ..=>2
def cg:Pt->List V
 | .p0 a b c d=>[.sl none 143 a,.fn 213 [.dF none [aD] b 0],.int .i64 c,.int .i64 d]
def bZ:Pt->List aW
 | .p0 a b c d=>[]
def step (J:Pt->aH):Pt->aH
 | .p0 a b c d=>(cond (decide (d<c)) (m2 d (a.length:Int) (call (Z247.R ((bH.at a (toNat d)),(gm b))) fun v1=>(cond v1 (ret (d:Int)) (J (.p0 a b c (i64.wrap (d+1))))))) (ret ((-1):Int)))
def start (J:Pt->aH)(x0:aC)(x1:List L):aH:=J (.p0 x0 x1 (x0.length:Int) 0)
def live:Nat->Live:=fun i=>match i with | 2=>[(0,none),(1,none),(7,none),(8,none)] | _=>[]
def pats:List fY:=[.rd (.sl 143),.fn 213 [[aD]]]
def res:RP:=.one (.rd (.int .i64))
abbrev E:Env:={ T:=assoc kL,G:=dw [(213,Z247.aT)],nt:=19 }
def step_eq (I:cD)(p:Pt):cT E live I (pid p) (bO Tryz.f248) (fq (live (pid p)) (cg p) (bZ p)) (cE E Tryz.f248 res)=step (fun q=>I (pid q) (cg q) (bZ q)) p:=by
 cases p<;>kernel_rfl
def start_eq (I:cD)(ls:List L):eP E live I (bO Tryz.f248) (cV pats ls) (cE E Tryz.f248 res)=start (fun q=>I (pid q) (cg q) (bZ q)) (ls.headD .hole).aP (cH 1 (aA 1 ls)):=by kernel_rfl
def run_eq (n:Nat)(ls:List L):eJ E live Tryz.f248 res n (cV pats ls)=start (iter step n) (ls.headD .hole).aP (cH 1 (aA 1 ls)):=cy (id:=pid) (vs:=cg) (hs:=bZ) (step:=step) (start:=fun J=>start J (ls.headD .hole).aP (cH 1 (aA 1 ls))) step_eq (fun I=>start_eq I ls) n
def md (a0:List az)(a1:Int):Int:=(dQ (S:=Unit) (β:=Int) (fun (i1:Nat) (y1:az) (s3:Unit)=>(cond (Z247.md y1 a1) (.inr ((i1:Int):Int)) (.inl ()))) (fun (s3:Unit)=>((-1):Int)) 0 a0 ())
def gd (a0:List az)(a1:Int):Prop:=(bL (2^21) (fun y:az=>az.Sm (2^21) y) a0)
def acc (ls:List L):aC×Int:=((ls.headD .hole).aP,(gm (cH 1 (aA 1 ls))))
def R:(aC×Int)->Option Int:=RR (p2 gd) (u2 md)
def aj {a0 a1}(h:gd a0 a1):R ((a0.map az.row),a1)=some (md a0 a1):=aN (a:=(a0,a1)) h
def aT:fQ:=CN pats res acc R
def bt (a0:List az)(a1:Int)(p1:List L)(e1:a1=(gm p1))(hg:gd a0 a1):∃n,start (iter step n) (a0.map az.row) p1=ret ((md a0 a1):Int):=by
 unfold gd at hg
 have H0:=hg
 unfold start md
 try simp only [SS,<-e1]
 have Bh2:a0.length<=maxLen:=(by
   have:=(H0).1
   try simp only [maxLen] at *
   omega)
 refine ex_eq (out:=ret) (cR (z:=az.zero)) ?_
 refine dK (p:=Pt.p0 (a0.map az.row) p1 (a0.length:Int) 0) fz ?_
 refine cj (pt:=fun (i1:Nat) (s3:Unit)=>Pt.p0 (a0.map az.row) p1 (a0.length:Int) (i1:Int)) (s:=(():Unit)) (out:=ret) (fun _ _=>True) (fun J i1 s3 h2 hih2=>?_) (fun s3 hih2=>?_) trivial
 ·simp only [step,SS,<-e1]
  have bb_:=Bh2
  simp only [maxLen] at bb_
  have:=(H0).1
  refine bz.yes (by apply decide_eq_true;omega) ?_
  refine bz.yes aI ?_
  refine bz.yes (aL h2) ?_
  refine cr (Z247.aj (bL.getD (z:=az.zero) H0 h2)) ?_
  refine bz.bif (fun c4=>?_) (fun c4=>?_)
  ·refine bz.inr ?_
   all_goals exact fz
  ·refine bz.inl trivial ?_
   rw [aG h2 Bh2]
   all_goals exact fz
 ·simp only [step,SS,<-e1]
  have:=(H0).1
  refine dx (by apply decide_eq_false;omega) ?_
  refine ⟨0,?_⟩
  all_goals exact fz
def mB (ls:List L)(a:List az×Int)(e:acc ls=Im.im a)(hg:(p2 gd) a):∃n:Nat,start (iter step n) ((ls.headD .hole).aP) (cH 1 (aA 1 ls))=ret (Im.im ((u2 md) a)):=by
 have e0:(a.1.map az.row)=(ls.headD .hole).aP:=(congrArg (fun x=>x.1) e.symm)
 obtain ⟨n,hn⟩:=bt a.1 a.2 (cH 1 (aA 1 ls)) (congrArg (fun x=>x.2) e.symm) hg
 refine ⟨n,?_⟩
 rw [<-e0]
 exact hn
def af:cw 248 aT:=VP (accr:=fun ls=>((ls.headD .hole).aP,(cH 1 (aA 1 ls)))) (run:=fun n x=>start (iter step n) x.1 x.2) mix aE (.cons Z247.af .nil) Tryz.func248 (by kernel_rfl) run_eq (fun ls a _ e hg=>mB ls a e hg)
def fa (a0:List az)(a1:Int):-1<=md a0 a1/\md a0 a1<(a0.length:Int):=by
 unfold md
 refine fD ?_ _ _
 all_goals
  intro i x s b h
  revert h
  simp only [Bool.cond_eq_ite]
  repeat' split
  all_goals (intro h;first | (cases h;rfl) | cases h)
def idx_eq (a0:List az)(a1:Int):md a0 a1=iF (fun y=>Z247.md y a1) 0 a0:=by
 unfold md
 exact gv
end Z248
namespace Z249
def F (x0:aC)(x1:List L):aH:=(call (Z248.R (x0,(gm x1))) fun v1=>ret ((decide (v1>=0)):Bool))
def pats:List fY:=[.rd (.sl 143),.fn 213 [[aD]]]
def res:RP:=.one (.rd (.bool))
def md (a0:List az)(a1:Int):Bool:=((decide ((Z248.md a0 a1)>=0)):Bool)
def gd (a0:List az)(a1:Int):Prop:=(bL (2^21) (fun y:az=>az.Sm (2^21) y) a0)
def acc (ls:List L):aC×Int:=((ls.headD .hole).aP,(gm (cH 1 (aA 1 ls))))
def R:(aC×Int)->Option Bool:=RR (p2 gd) (u2 md)
def aj {a0 a1}(h:gd a0 a1):R ((a0.map az.row),a1)=some (md a0 a1):=aN (a:=(a0,a1)) h
def aT:fQ:=CN pats res acc R
def bt (a0:List az)(a1:Int)(p1:List L)(e1:a1=(gm p1))(hg:gd a0 a1):F (a0.map az.row) p1=ret ((md a0 a1):Bool):=by
 unfold gd at hg
 have H0:=hg
 unfold F md
 try simp only [SS,<-e1]
 refine ct (Z248.aj H0) ?_
 have fv1_:=Z248.fa a0 a1
 all_goals exact fz
def mB (ls:List L)(a:List az×Int)(e:acc ls=Im.im a)(hg:(p2 gd) a):∃n:Nat,F ((ls.headD .hole).aP) (cH 1 (aA 1 ls))=ret (Im.im ((u2 md) a)):=by
 have e0:(a.1.map az.row)=(ls.headD .hole).aP:=(congrArg (fun x=>x.1) e.symm)
 have hn:=bt a.1 a.2 (cH 1 (aA 1 ls)) (congrArg (fun x=>x.2) e.symm) hg
 refine ⟨0,?_⟩
 rw [<-e0]
 exact hn
def af:cw 212 aT:=VP (live:=fun _=>[]) (nt:=9) (accr:=fun ls=>((ls.headD .hole).aP,(cH 1 (aA 1 ls)))) (run:=fun _ x=>F x.1 x.2) mix aE (.cons Z248.af .nil) Tryz.func212 (by kernel_rfl) (fun _ _=>by kernel_rfl) (fun ls a _ e hg=>mB ls a e hg)
def any_eq (a0:List az)(a1:Int):md a0 a1=a0.any (fun y=>Z247.md y a1):=by
 unfold md
 rw [Z248.idx_eq]
 exact qj
end Z249
namespace Z250
def F (x0:bu)(x1:Int):aH:=(cond (decide (x1>=0)) (call (Z249.R (x0.bp,x1)) fun v1=>ret (v1:Bool)) aY)
def md (a0:aq)(a1:Int):Bool:=(cond (decide (a1>=0)) ((Z249.md a0.bp a1):Bool) (false:Bool))
def gd (a0:aq)(a1:Int):Prop:=(aq.Sm (2^21) a0)
def R:=RR (p2 gd) (u2 md)
def aj {a0 a1}(h:gd a0 a1):R ((aq.r a0),a1)=some (md a0 a1):=aN (a:=(a0,a1)) h
def aT:=CN [.agg rK,pI] oB RT.dec R
def bt (a0)(a1)(hg:gd a0 a1):F (aq.r a0) a1=ret (md a0 a1):=by
 unfold gd at hg
 have H0:=hg
 unfold F md
 try simp only [SS]
 refine au ret (fun c1=>?_) (fun _=>rfl)
 refine ct (Z249.aj H0.2) ?_
 all_goals exact fz
def af:cw 171 aT:=W2 13 F mix aE bt (.cons Z249.af .nil) Tryz.func171
def br (a0:aq)(a1:Int):md a0 a1=Z123.md a0 a1:=by
 unfold md Z123.md
 rw [Z249.any_eq]
 rw [mJ (p:=fun y=>(Z122.md y==a1)&&decide (a1>=0)) (fun x s=>by
  cases (Z122.md x==a1)<;>cases decide (a1>=0)<;>rfl) a0.bp ()]
 have e:(fun y=>Z247.md y a1)=fun y=>Z122.md y==a1:=by
  funext y
  unfold Z247.md
  rw [Z246.br]
 rw [e]
 cases decide (a1>=0)
 ·simp
 ·simp
end Z250
namespace Z251
abbrev E (n:Nat):Env:={ T:=assoc kL,G:=dw [(168,Z234.aT),(169,Z185.aT),(170,Z242.aT),(131,Z141.aT),(171,Z250.aT)],nt:=74,M:=fP [],np:=n,I:=mY [] }
def ic (n:Nat):kC:=inl (E n) Tryz.f137
def tC (n:Nat):gQ Tryz.prog Ev n 137 (ic n):=yP (mt:=false) mix aE (.cons Z234.af (.cons Z185.af (.cons Z242.af (.cons Z141.af (.cons Z250.af .nil))))) .nil .nil Tryz.func137 (by kernel_rfl)
end Z251
namespace Z252
inductive Pt where
 | p0 (a:Int) (b:aB) (c:Int) (d:aC) (e f:Int) (g:Bool) (h:aB) (i j:Int) (k l:Bool) (m:aB) (n o:Int) (p:Bool) (q s t:aC)
def pid:Pt->Nat
 | .p0 ..=>3
def cg:Pt->List V
 | .p0 a b c d e f g h i j k l m n o p q s t=>[.int .i64 a,.str b,.int .i64 c,.cQ 0 0,.cQ 1 0,.sl none 165 d,.int .i64 e,.int .i64 f,.cQ 1 0]
def bZ:Pt->List aW
 | .p0 a b c d e f g h i j k l m n o p q s t=>[.box [.nil,.nil,.bool g,.str h,.int .i64 i,.int .i64 j,.nil,.bool k,.nil],.box [.own 2,.own 3,.bool l,.str m,.int .i64 n,.int .i64 o,.nil,.bool p,.own 4],.row 134 q,.row 143 s,.row 3 t]
def step (J:Pt->aH):Pt->aH
 | .p0 a b c d e f g h i j k l m n o p q s t=>(cond (decide (f<e)) (m2 f (d.length:Int) (call (Z234.R (a,b,(bg.at d (toNat f)),c)) fun v1=>(call (Z185.R ((bg.at d (toNat f)).aS)) fun v2=>(cond v2 (ck (decide ((0:Int)<((bg.at d (toNat f)).aS.length:Int))) (cond ((aR.at ((bg.at d (toNat f)).aS) 0).an.bC==a) (call (Z242.R ((⟨q,s⟩:bu),(bg.at d (toNat f)).aS)) fun v3=>(call (Z141.R (v3.2,1,3)) fun v4=>(cond v4 (call (Z250.R (v3.1,a)) fun v5=>(cond (v1==1) (cond (!(!v5)) (ck (eT (((t.length:Int)+1)*8)) (J (.p0 a b c d e (i64.wrap (f+1)) g h i j k l m n o p v3.1.aJ v3.1.bp (t++[[L.int 3]])))) (ck (eT (((t.length:Int)+1)*8)) (cond (v1==1) (call (Z213.R ((bg.at d (toNat f)).aV)) fun v6=>ret (((⟨v3.1,(bg.at d (toNat f)).cu,v6,true,(t++[[L.int v1]])⟩:cZ),f):cZ×Int)) (J (.p0 a b c d e (i64.wrap (f+1)) g h i j k l m n o p v3.1.aJ v3.1.bp (t++[[L.int v1]])))))) (ck (eT (((t.length:Int)+1)*8)) (cond (v1==1) (call (Z213.R ((bg.at d (toNat f)).aV)) fun v7=>ret (((⟨v3.1,(bg.at d (toNat f)).cu,v7,true,(t++[[L.int v1]])⟩:cZ),f):cZ×Int)) (J (.p0 a b c d e (i64.wrap (f+1)) g h i j k l m n o p v3.1.aJ v3.1.bp (t++[[L.int v1]]))))))) (cond (v1==1) (ck (eT (((t.length:Int)+1)*8)) (J (.p0 a b c d e (i64.wrap (f+1)) g h i j k l m n o p v3.1.aJ v3.1.bp (t++[[L.int 3]])))) (ck (eT (((t.length:Int)+1)*8)) (cond (v1==1) (call (Z213.R ((bg.at d (toNat f)).aV)) fun v8=>ret (((⟨v3.1,(bg.at d (toNat f)).cu,v8,true,(t++[[L.int v1]])⟩:cZ),f):cZ×Int)) (J (.p0 a b c d e (i64.wrap (f+1)) g h i j k l m n o p v3.1.aJ v3.1.bp (t++[[L.int v1]]))))))))) (call (Z141.R (6,1,3)) fun v9=>(cond v9 (call (Z250.R ((⟨q,s⟩:bu),a)) fun v10=>(cond (v1==1) (cond (!(!v10)) (ck (eT (((t.length:Int)+1)*8)) (J (.p0 a b c d e (i64.wrap (f+1)) g h i j k l m n o p q s (t++[[L.int 3]])))) (ck (eT (((t.length:Int)+1)*8)) (cond (v1==1) (call (Z213.R ((bg.at d (toNat f)).aV)) fun v11=>ret (((⟨(⟨q,s⟩:bu),(bg.at d (toNat f)).cu,v11,true,(t++[[L.int v1]])⟩:cZ),f):cZ×Int)) (J (.p0 a b c d e (i64.wrap (f+1)) g h i j k l m n o p q s (t++[[L.int v1]])))))) (ck (eT (((t.length:Int)+1)*8)) (cond (v1==1) (call (Z213.R ((bg.at d (toNat f)).aV)) fun v12=>ret (((⟨(⟨q,s⟩:bu),(bg.at d (toNat f)).cu,v12,true,(t++[[L.int v1]])⟩:cZ),f):cZ×Int)) (J (.p0 a b c d e (i64.wrap (f+1)) g h i j k l m n o p q s (t++[[L.int v1]]))))))) (cond (v1==1) (ck (eT (((t.length:Int)+1)*8)) (J (.p0 a b c d e (i64.wrap (f+1)) g h i j k l m n o p q s (t++[[L.int 3]])))) (ck (eT (((t.length:Int)+1)*8)) (cond (v1==1) (call (Z213.R ((bg.at d (toNat f)).aV)) fun v13=>ret (((⟨(⟨q,s⟩:bu),(bg.at d (toNat f)).cu,v13,true,(t++[[L.int v1]])⟩:cZ),f):cZ×Int)) (J (.p0 a b c d e (i64.wrap (f+1)) g h i j k l m n o p q s (t++[[L.int v1]])))))))))) (call (Z141.R (6,1,3)) fun v14=>(cond v14 (call (Z250.R ((⟨q,s⟩:bu),a)) fun v15=>(cond (v1==1) (cond (!(!v15)) (ck (eT (((t.length:Int)+1)*8)) (J (.p0 a b c d e (i64.wrap (f+1)) g h i j k l m n o p q s (t++[[L.int 3]])))) (ck (eT (((t.length:Int)+1)*8)) (cond (v1==1) (call (Z213.R ((bg.at d (toNat f)).aV)) fun v16=>ret (((⟨(⟨q,s⟩:bu),(bg.at d (toNat f)).cu,v16,true,(t++[[L.int v1]])⟩:cZ),f):cZ×Int)) (J (.p0 a b c d e (i64.wrap (f+1)) g h i j k l m n o p q s (t++[[L.int v1]])))))) (ck (eT (((t.length:Int)+1)*8)) (cond (v1==1) (call (Z213.R ((bg.at d (toNat f)).aV)) fun v17=>ret (((⟨(⟨q,s⟩:bu),(bg.at d (toNat f)).cu,v17,true,(t++[[L.int v1]])⟩:cZ),f):cZ×Int)) (J (.p0 a b c d e (i64.wrap (f+1)) g h i j k l m n o p q s (t++[[L.int v1]]))))))) (cond (v1==1) (ck (eT (((t.length:Int)+1)*8)) (J (.p0 a b c d e (i64.wrap (f+1)) g h i j k l m n o p q s (t++[[L.int 3]])))) (ck (eT (((t.length:Int)+1)*8)) (cond (v1==1) (call (Z213.R ((bg.at d (toNat f)).aV)) fun v18=>ret (((⟨(⟨q,s⟩:bu),(bg.at d (toNat f)).cu,v18,true,(t++[[L.int v1]])⟩:cZ),f):cZ×Int)) (J (.p0 a b c d e (i64.wrap (f+1)) g h i j k l m n o p q s (t++[[L.int v1]])))))))))))) (ret (((⟨(⟨q,s⟩:bu),l,(⟨m,n,o,[]⟩:aU),p,t⟩:cZ),(-1)):cZ×Int)))
def start (J:Pt->aH)(x0:bu)(x1:aC)(x2:Int)(x3:aB)(x4:Int):aH:=(call (Z140.R x0) fun v1=>J (.p0 x2 x3 x4 x1 (x1.length:Int) 0 false ⟨#[]⟩ 0 0 false false ⟨#[]⟩ 0 0 false v1.aJ v1.bp []))
def live:Nat->Live:=fun i=>match i with | 3=>[(2,none),(3,none),(4,none),(10,none),(12,none),(18,none),(19,none),(20,none),(12,some 8388611)] | _=>[]
def pats:List fY:=[.agg [.sl 134,.sl 143],.rd (.sl 165),.rd (.int .i64),.rd (.str),.rd (.int .i64)]
def res:RP:=.iE [(true,[.fr 134,.fr 143,.rd (.bool),.rd (.str),.rd (.int .i64),.rd (.int .i64),.fr 9,.rd (.bool),.fr 3]),(false,[.rd (.int .i64)])]
abbrev E:Env:={ T:=assoc kL,G:=dw [(48,Z140.aT),(136,Z213.aT)],nt:=42,M:=fP [],I:=mY [(137,Z251.ic 0)] }
def step_eq (I:cD)(p:Pt):cT E live I (pid p) (bO Tryz.f109) (fq (live (pid p)) (cg p) (bZ p)) (cE E Tryz.f109 res)=step (fun q=>I (pid q) (cg q) (bZ q)) p:=by
 cases p<;>kernel_rfl
def start_eq (I:cD)(ls:List L):eP E live I (bO Tryz.f109) (cV pats ls) (cE E Tryz.f109 res)=start (fun q=>I (pid q) (cg q) (bZ q)) (bu.dec ls) ((aA 2 ls).headD .hole).aP ((aA 3 ls).headD .hole).toInt ((aA 4 ls).headD .hole).toStr ((aA 5 ls).headD .hole).toInt:=by kernel_rfl
def run_eq (n:Nat)(ls:List L):eJ E live Tryz.f109 res n (cV pats ls)=start (iter step n) (bu.dec ls) ((aA 2 ls).headD .hole).aP ((aA 3 ls).headD .hole).toInt ((aA 4 ls).headD .hole).toStr ((aA 5 ls).headD .hole).toInt:=cy (id:=pid) (vs:=cg) (hs:=bZ) (step:=step) (start:=fun J=>start J (bu.dec ls) ((aA 2 ls).headD .hole).aP ((aA 3 ls).headD .hole).toInt ((aA 4 ls).headD .hole).toStr ((aA 5 ls).headD .hole).toInt) step_eq (fun I=>start_eq I ls) n
def md (a0:aq)(a1:List ay)(a2:Int)(a3:aB)(a4:Int):bT×Int:=(dQ (S:=List (List aa)×List az×List Int) (β:=bT×Int) (fun (i1:Nat) (y1:ay) (s3:List (List aa)×List az×List Int)=>(cond (Z185.md (y1.aS)) (cond (((y1.aS.getD 0 aa.zero).an).bC==a2) (cond (Z141.md ((Z242.md (⟨s3.1,s3.2.1⟩:aq) (y1.aS)).2) 1 3) (cond ((Z234.md a2 a3 y1 a4)==1) (cond (!(!(Z250.md ((Z242.md (⟨s3.1,s3.2.1⟩:aq) (y1.aS)).1) a2))) (.inl ((Z242.md (⟨s3.1,s3.2.1⟩:aq) (y1.aS)).1.aJ,(Z242.md (⟨s3.1,s3.2.1⟩:aq) (y1.aS)).1.bp,(s3.2.2++[3]))) (cond ((Z234.md a2 a3 y1 a4)==1) (.inr ((⟨(Z242.md (⟨s3.1,s3.2.1⟩:aq) (y1.aS)).1,y1.cu,(y1.aV),true,(s3.2.2++[(Z234.md a2 a3 y1 a4)])⟩:bT),(i1:Int))) (.inl ((Z242.md (⟨s3.1,s3.2.1⟩:aq) (y1.aS)).1.aJ,(Z242.md (⟨s3.1,s3.2.1⟩:aq) (y1.aS)).1.bp,(s3.2.2++[(Z234.md a2 a3 y1 a4)]))))) (cond ((Z234.md a2 a3 y1 a4)==1) (.inr ((⟨(Z242.md (⟨s3.1,s3.2.1⟩:aq) (y1.aS)).1,y1.cu,(y1.aV),true,(s3.2.2++[(Z234.md a2 a3 y1 a4)])⟩:bT),(i1:Int))) (.inl ((Z242.md (⟨s3.1,s3.2.1⟩:aq) (y1.aS)).1.aJ,(Z242.md (⟨s3.1,s3.2.1⟩:aq) (y1.aS)).1.bp,(s3.2.2++[(Z234.md a2 a3 y1 a4)]))))) (cond ((Z234.md a2 a3 y1 a4)==1) (.inl ((Z242.md (⟨s3.1,s3.2.1⟩:aq) (y1.aS)).1.aJ,(Z242.md (⟨s3.1,s3.2.1⟩:aq) (y1.aS)).1.bp,(s3.2.2++[3]))) (cond ((Z234.md a2 a3 y1 a4)==1) (.inr ((⟨(Z242.md (⟨s3.1,s3.2.1⟩:aq) (y1.aS)).1,y1.cu,(y1.aV),true,(s3.2.2++[(Z234.md a2 a3 y1 a4)])⟩:bT),(i1:Int))) (.inl ((Z242.md (⟨s3.1,s3.2.1⟩:aq) (y1.aS)).1.aJ,(Z242.md (⟨s3.1,s3.2.1⟩:aq) (y1.aS)).1.bp,(s3.2.2++[(Z234.md a2 a3 y1 a4)])))))) (cond (Z141.md 6 1 3) (cond ((Z234.md a2 a3 y1 a4)==1) (cond (!(!(Z250.md (⟨s3.1,s3.2.1⟩:aq) a2))) (.inl (s3.1,s3.2.1,(s3.2.2++[3]))) (cond ((Z234.md a2 a3 y1 a4)==1) (.inr ((⟨(⟨s3.1,s3.2.1⟩:aq),y1.cu,(y1.aV),true,(s3.2.2++[(Z234.md a2 a3 y1 a4)])⟩:bT),(i1:Int))) (.inl (s3.1,s3.2.1,(s3.2.2++[(Z234.md a2 a3 y1 a4)]))))) (cond ((Z234.md a2 a3 y1 a4)==1) (.inr ((⟨(⟨s3.1,s3.2.1⟩:aq),y1.cu,(y1.aV),true,(s3.2.2++[(Z234.md a2 a3 y1 a4)])⟩:bT),(i1:Int))) (.inl (s3.1,s3.2.1,(s3.2.2++[(Z234.md a2 a3 y1 a4)]))))) (cond ((Z234.md a2 a3 y1 a4)==1) (.inl (s3.1,s3.2.1,(s3.2.2++[3]))) (cond ((Z234.md a2 a3 y1 a4)==1) (.inr ((⟨(⟨s3.1,s3.2.1⟩:aq),y1.cu,(y1.aV),true,(s3.2.2++[(Z234.md a2 a3 y1 a4)])⟩:bT),(i1:Int))) (.inl (s3.1,s3.2.1,(s3.2.2++[(Z234.md a2 a3 y1 a4)]))))))) (cond (Z141.md 6 1 3) (cond ((Z234.md a2 a3 y1 a4)==1) (cond (!(!(Z250.md (⟨s3.1,s3.2.1⟩:aq) a2))) (.inl (s3.1,s3.2.1,(s3.2.2++[3]))) (cond ((Z234.md a2 a3 y1 a4)==1) (.inr ((⟨(⟨s3.1,s3.2.1⟩:aq),y1.cu,(y1.aV),true,(s3.2.2++[(Z234.md a2 a3 y1 a4)])⟩:bT),(i1:Int))) (.inl (s3.1,s3.2.1,(s3.2.2++[(Z234.md a2 a3 y1 a4)]))))) (cond ((Z234.md a2 a3 y1 a4)==1) (.inr ((⟨(⟨s3.1,s3.2.1⟩:aq),y1.cu,(y1.aV),true,(s3.2.2++[(Z234.md a2 a3 y1 a4)])⟩:bT),(i1:Int))) (.inl (s3.1,s3.2.1,(s3.2.2++[(Z234.md a2 a3 y1 a4)]))))) (cond ((Z234.md a2 a3 y1 a4)==1) (.inl (s3.1,s3.2.1,(s3.2.2++[3]))) (cond ((Z234.md a2 a3 y1 a4)==1) (.inr ((⟨(⟨s3.1,s3.2.1⟩:aq),y1.cu,(y1.aV),true,(s3.2.2++[(Z234.md a2 a3 y1 a4)])⟩:bT),(i1:Int))) (.inl (s3.1,s3.2.1,(s3.2.2++[(Z234.md a2 a3 y1 a4)])))))))) (fun (s3:List (List aa)×List az×List Int)=>((⟨(⟨s3.1,s3.2.1⟩:aq),false,(⟨(⟨#[]⟩:aB),0,0,[]⟩:ah),false,s3.2.2⟩:bT),(-1))) 0 a1 (a0.aJ,a0.bp,[]))
def gd (a0:aq)(a1:List ay)(a2:Int)(a3:aB)(a4:Int):Prop:=(aq.Sm (2^21) a0)/\(bL (2^21) (fun y:ay=>ay.Sm (2^21) y) a1)/\(a3.size<=(2^21))
def acc (ls:List L):bu×aC×Int×aB×Int:=((bu.dec ls),((aA 2 ls).headD .hole).aP,((aA 3 ls).headD .hole).toInt,((aA 4 ls).headD .hole).toStr,((aA 5 ls).headD .hole).toInt)
def R:(bu×aC×Int×aB×Int)->Option (cZ×Int):=RR (p5 gd) (u5 md)
def aj {a0 a1 a2 a3 a4}(h:gd a0 a1 a2 a3 a4):R ((aq.r a0),(a1.map ay.row),a2,a3,a4)=some ((bT.r (md a0 a1 a2 a3 a4).1),(md a0 a1 a2 a3 a4).2):=aN (a:=(a0,a1,a2,a3,a4)) h
def aT:fQ:=CN pats res acc R
def bt (a0:aq)(a1:List ay)(a2:Int)(a3:aB)(a4:Int)(hg:gd a0 a1 a2 a3 a4):∃n,start (iter step n) (aq.r a0) (a1.map ay.row) a2 a3 a4=ret (((bT.r (md a0 a1 a2 a3 a4).1),(md a0 a1 a2 a3 a4).2):cZ×Int):=by
 obtain ⟨H0,H1,H3⟩:=hg
 unfold start md
 try simp only [SS]
 refine cx (Z140.aj H0) ?_
 try simp only [SS]
 have Bh2:a1.length<=maxLen:=(by
   have:=(H1).1
   try simp only [maxLen] at *
   omega)
 refine ex_eq (out:=(fun b:bT×Int=>ret (((bT.r b.1),b.2):cZ×Int))) (cR (z:=ay.zero)) ?_
 refine dK (p:=Pt.p0 a2 a3 a4 (a1.map ay.row) (a1.length:Int) 0 false (⟨#[]⟩:aB) 0 0 false false (⟨#[]⟩:aB) 0 0 false (a0.aJ.map (dG aa.row)) (a0.bp.map az.row) ([].map bh)) fz ?_
 refine cj (pt:=fun (i1:Nat) (s3:List (List aa)×List az×List Int)=>Pt.p0 a2 a3 a4 (a1.map ay.row) (a1.length:Int) (i1:Int) false (⟨#[]⟩:aB) 0 0 false false (⟨#[]⟩:aB) 0 0 false (s3.1.map (dG aa.row)) (s3.2.1.map az.row) (s3.2.2.map bh)) (s:=((a0.aJ,a0.bp,[]):List (List aa)×List az×List Int)) (out:=(fun b:bT×Int=>ret (((bT.r b.1),b.2):cZ×Int))) (fun (i1:Nat) (s3:List (List aa)×List az×List Int)=>aq.Sm (2^21) (⟨s3.1,s3.2.1⟩:aq)/\s3.2.2.length<=i1) (fun J i1 s3 h2 hih2=>?_) (fun s3 hih2=>?_) ⟨H0,zero_le _⟩
 ·simp only [step,SS]
  have gr_:=hih2
  try simp only [LN] at gr_
  have bb_:=Bh2
  simp only [maxLen] at bb_
  have:=(H1).1
  refine bz.yes (by apply decide_eq_true;omega) ?_
  refine bz.yes aI ?_
  refine bz.yes (aL h2) ?_
  refine cr (Z234.aj ⟨H3,(bL.getD (z:=ay.zero) H1 h2)⟩) ?_
  refine cr (Z185.aj (bL.getD (z:=ay.zero) H1 h2).1) ?_
  refine bz.bif (fun c4=>?_) (fun c4=>?_)
  ·try have tc4:=Z185.tr (by simpa using c4)
   refine bz.yes (have:=((bL.getD (z:=ay.zero) H1 h2).1).1;dt) ?_
   refine bz.bif (fun c5=>?_) (fun c5=>?_)
   ·have dc5:=c5
    try simp only [DC] at dc5
    refine cr (Z242.aj (a0:=(⟨s3.1,s3.2.1⟩:aq)) ⟨⟨hih2.1.1,hih2.1.2⟩,(bL.getD (z:=ay.zero) H1 h2).1⟩) ?_
    try simp only [SS]
    refine cr (Z141.aj (a0:=(Z242.md (⟨s3.1,s3.2.1⟩:aq) ((a1.getD i1 ay.zero).aS)).2) trivial) ?_
    refine bz.bif (fun c6=>?_) (fun c6=>?_)
    ·have Dc6:=c6
     try simp [Z141.md] at Dc6
     refine cr (Z250.aj (a0:=(Z242.md (⟨s3.1,s3.2.1⟩:aq) ((a1.getD i1 ay.zero).aS)).1) (Z242.gh (a0:=(⟨s3.1,s3.2.1⟩:aq)) (a1:=(a1.getD i1 ay.zero).aS) ⟨⟨hih2.1.1,hih2.1.2⟩,(bL.getD (z:=ay.zero) H1 h2).1⟩)) ?_
     refine bz.bif (fun c7=>?_) (fun c7=>?_)
     ·have dc7:=c7
      try simp only [DC] at dc7
      refine bz.bif (fun c8=>?_) (fun c8=>?_)
      ·have dc8:=c8
       try simp only [DC] at dc8
       refine bz.yes lm ?_
       refine bz.inl (by first | exact ⟨hih2.1,hJ hih2.2⟩ | exact ⟨Z242.gh ⟨hih2.1,(bL.getD H1 h2).1⟩,hJ hih2.2⟩) ?_
       rw [aG h2 Bh2]
       all_goals exact fz
      ·have dc8:=c8
       try simp only [DC] at dc8
       refine bz.yes lm ?_
       refine bz.bif (fun c9=>?_) (fun c9=>?_)
       ·refine cr (Z213.aj (bL.getD (z:=ay.zero) H1 h2).2.1) ?_
        try simp only [SS]
        refine bz.inr ?_
        all_goals exact fz
       ·refine bz.inl (by first | exact ⟨hih2.1,hJ hih2.2⟩ | exact ⟨Z242.gh ⟨hih2.1,(bL.getD H1 h2).1⟩,hJ hih2.2⟩) ?_
        rw [aG h2 Bh2]
        all_goals exact fz
     ·have dc7:=c7
      try simp only [DC] at dc7
      refine bz.yes lm ?_
      refine bz.bif (fun c10=>?_) (fun c10=>?_)
      ·refine cr (Z213.aj (bL.getD (z:=ay.zero) H1 h2).2.1) ?_
       try simp only [SS]
       refine bz.inr ?_
       all_goals exact fz
      ·refine bz.inl (by first | exact ⟨hih2.1,hJ hih2.2⟩ | exact ⟨Z242.gh ⟨hih2.1,(bL.getD H1 h2).1⟩,hJ hih2.2⟩) ?_
       rw [aG h2 Bh2]
       all_goals exact fz
    ·have Dc6:=c6
     try simp [Z141.md] at Dc6
     refine bz.bif (fun c11=>?_) (fun c11=>?_)
     ·have dc11:=c11
      try simp only [DC] at dc11
      refine bz.yes lm ?_
      refine bz.inl (by first | exact ⟨hih2.1,hJ hih2.2⟩ | exact ⟨Z242.gh ⟨hih2.1,(bL.getD H1 h2).1⟩,hJ hih2.2⟩) ?_
      rw [aG h2 Bh2]
      all_goals exact fz
     ·have dc11:=c11
      try simp only [DC] at dc11
      refine bz.yes lm ?_
      refine bz.bif (fun c12=>?_) (fun c12=>?_)
      ·refine cr (Z213.aj (bL.getD (z:=ay.zero) H1 h2).2.1) ?_
       try simp only [SS]
       refine bz.inr ?_
       all_goals exact fz
      ·refine bz.inl (by first | exact ⟨hih2.1,hJ hih2.2⟩ | exact ⟨Z242.gh ⟨hih2.1,(bL.getD H1 h2).1⟩,hJ hih2.2⟩) ?_
       rw [aG h2 Bh2]
       all_goals exact fz
   ·have dc5:=c5
    try simp only [DC] at dc5
    refine cr (Z141.aj trivial) ?_
    refine bz.bif (fun c13=>?_) (fun c13=>?_)
    ·refine cr (Z250.aj (a0:=(⟨s3.1,s3.2.1⟩:aq)) ⟨hih2.1.1,hih2.1.2⟩) ?_
     refine bz.bif (fun c14=>?_) (fun c14=>?_)
     ·have dc14:=c14
      try simp only [DC] at dc14
      refine bz.bif (fun c15=>?_) (fun c15=>?_)
      ·have dc15:=c15
       try simp only [DC] at dc15
       refine bz.yes lm ?_
       refine bz.inl (by first | exact ⟨hih2.1,hJ hih2.2⟩ | exact ⟨Z242.gh ⟨hih2.1,(bL.getD H1 h2).1⟩,hJ hih2.2⟩) ?_
       rw [aG h2 Bh2]
       all_goals exact fz
      ·have dc15:=c15
       try simp only [DC] at dc15
       refine bz.yes lm ?_
       refine bz.bif (fun c16=>?_) (fun c16=>?_)
       ·refine cr (Z213.aj (bL.getD (z:=ay.zero) H1 h2).2.1) ?_
        try simp only [SS]
        refine bz.inr ?_
        all_goals exact fz
       ·refine bz.inl (by first | exact ⟨hih2.1,hJ hih2.2⟩ | exact ⟨Z242.gh ⟨hih2.1,(bL.getD H1 h2).1⟩,hJ hih2.2⟩) ?_
        rw [aG h2 Bh2]
        all_goals exact fz
     ·have dc14:=c14
      try simp only [DC] at dc14
      refine bz.yes lm ?_
      refine bz.bif (fun c17=>?_) (fun c17=>?_)
      ·refine cr (Z213.aj (bL.getD (z:=ay.zero) H1 h2).2.1) ?_
       try simp only [SS]
       refine bz.inr ?_
       all_goals exact fz
      ·refine bz.inl (by first | exact ⟨hih2.1,hJ hih2.2⟩ | exact ⟨Z242.gh ⟨hih2.1,(bL.getD H1 h2).1⟩,hJ hih2.2⟩) ?_
       rw [aG h2 Bh2]
       all_goals exact fz
    ·refine bz.bif (fun c18=>?_) (fun c18=>?_)
     ·have dc18:=c18
      try simp only [DC] at dc18
      refine bz.yes lm ?_
      refine bz.inl (by first | exact ⟨hih2.1,hJ hih2.2⟩ | exact ⟨Z242.gh ⟨hih2.1,(bL.getD H1 h2).1⟩,hJ hih2.2⟩) ?_
      rw [aG h2 Bh2]
      all_goals exact fz
     ·have dc18:=c18
      try simp only [DC] at dc18
      refine bz.yes lm ?_
      refine bz.bif (fun c19=>?_) (fun c19=>?_)
      ·refine cr (Z213.aj (bL.getD (z:=ay.zero) H1 h2).2.1) ?_
       try simp only [SS]
       refine bz.inr ?_
       all_goals exact fz
      ·refine bz.inl (by first | exact ⟨hih2.1,hJ hih2.2⟩ | exact ⟨Z242.gh ⟨hih2.1,(bL.getD H1 h2).1⟩,hJ hih2.2⟩) ?_
       rw [aG h2 Bh2]
       all_goals exact fz
  ·try have tc4:=Z185.tr (by simpa using c4)
   refine cr (Z141.aj trivial) ?_
   refine bz.bif (fun c20=>?_) (fun c20=>?_)
   ·refine cr (Z250.aj (a0:=(⟨s3.1,s3.2.1⟩:aq)) ⟨hih2.1.1,hih2.1.2⟩) ?_
    refine bz.bif (fun c21=>?_) (fun c21=>?_)
    ·have dc21:=c21
     try simp only [DC] at dc21
     refine bz.bif (fun c22=>?_) (fun c22=>?_)
     ·have dc22:=c22
      try simp only [DC] at dc22
      refine bz.yes lm ?_
      refine bz.inl (by first | exact ⟨hih2.1,hJ hih2.2⟩ | exact ⟨Z242.gh ⟨hih2.1,(bL.getD H1 h2).1⟩,hJ hih2.2⟩) ?_
      rw [aG h2 Bh2]
      all_goals exact fz
     ·have dc22:=c22
      try simp only [DC] at dc22
      refine bz.yes lm ?_
      refine bz.bif (fun c23=>?_) (fun c23=>?_)
      ·refine cr (Z213.aj (bL.getD (z:=ay.zero) H1 h2).2.1) ?_
       try simp only [SS]
       refine bz.inr ?_
       all_goals exact fz
      ·refine bz.inl (by first | exact ⟨hih2.1,hJ hih2.2⟩ | exact ⟨Z242.gh ⟨hih2.1,(bL.getD H1 h2).1⟩,hJ hih2.2⟩) ?_
       rw [aG h2 Bh2]
       all_goals exact fz
    ·have dc21:=c21
     try simp only [DC] at dc21
     refine bz.yes lm ?_
     refine bz.bif (fun c24=>?_) (fun c24=>?_)
     ·refine cr (Z213.aj (bL.getD (z:=ay.zero) H1 h2).2.1) ?_
      try simp only [SS]
      refine bz.inr ?_
      all_goals exact fz
     ·refine bz.inl (by first | exact ⟨hih2.1,hJ hih2.2⟩ | exact ⟨Z242.gh ⟨hih2.1,(bL.getD H1 h2).1⟩,hJ hih2.2⟩) ?_
      rw [aG h2 Bh2]
      all_goals exact fz
   ·refine bz.bif (fun c25=>?_) (fun c25=>?_)
    ·have dc25:=c25
     try simp only [DC] at dc25
     refine bz.yes lm ?_
     refine bz.inl (by first | exact ⟨hih2.1,hJ hih2.2⟩ | exact ⟨Z242.gh ⟨hih2.1,(bL.getD H1 h2).1⟩,hJ hih2.2⟩) ?_
     rw [aG h2 Bh2]
     all_goals exact fz
    ·have dc25:=c25
     try simp only [DC] at dc25
     refine bz.yes lm ?_
     refine bz.bif (fun c26=>?_) (fun c26=>?_)
     ·refine cr (Z213.aj (bL.getD (z:=ay.zero) H1 h2).2.1) ?_
      try simp only [SS]
      refine bz.inr ?_
      all_goals exact fz
     ·refine bz.inl (by first | exact ⟨hih2.1,hJ hih2.2⟩ | exact ⟨Z242.gh ⟨hih2.1,(bL.getD H1 h2).1⟩,hJ hih2.2⟩) ?_
      rw [aG h2 Bh2]
      all_goals exact fz
 ·simp only [step,SS]
  have gr_:=hih2
  try simp only [LN] at gr_
  have:=(H1).1
  refine dx (by apply decide_eq_false;omega) ?_
  refine ⟨0,?_⟩
  all_goals exact fz
def af:cw 109 aT:=VI (mt:=false) (run:=fun n x=>start (iter step n) x.1 x.2.1 x.2.2.1 x.2.2.2.1 x.2.2.2.2) mix aE (.cons Z140.af (.cons Z213.af .nil)) .nil (.cons (Z251.tC 0) .nil) Tryz.func109 (by kernel_rfl) run_eq (fun _ a _ _ hg=>bt a.1 a.2.1 a.2.2.1 a.2.2.2.1 a.2.2.2.2 hg)
def qa (a0:aq)(a1:List ay)(a2:Int)(a3:aB)(a4:Int):md a0 a1 a2 a3 a4=dQ (fun i y s=>(Z124.tF a2 a3 a4 y s).map id (fun b=>(b,(i:Int)))) (fun s=>(Z124.fin s,-1)) 0 a1 (a0.aJ,a0.bp,[]):=by
 unfold md
 refine lp (fun i y _ s=>?_) (fun s=>rfl)
 have h31:((3:Int)==1)=false:=rfl
 have h61:((6:Int)==1)=false:=rfl
 have h62:((6:Int)==2)=false:=rfl
 have h63:((6:Int)==3)=false:=rfl
 have hin:∀n:Int,Z141.md n 1 3=(n==1||(n==2||n==3)):=fun n=>by
  unfold Z141.md
  rw [Bool.eq_iff_iff];simp;omega
 simp only [Z234.br,Z185.br,Z242.br,Z250.br,hin]
 unfold Z124.tF Z124.ng
 cases g1:Z75.md y.aS
 ·have e:(Z76.md y.aS).2=false:=by unfold Z76.md;rw [g1];rfl
  cases g2:(Z119.md a2 a3 y a4==1)<;>simp [e,g2,h31,h61,h62,h63,Sum.map]
 have hl:=Z75.tr g1
 have e:(Z76.md y.aS).2=true:=by unfold Z76.md;rw [g1];rfl
 have e2:(Z76.md y.aS).1.bC=(y.aS.getD 0 aa.zero).an.bC:=by
  have hi:toNat (i64.wrap ((y.aS.length:Int) - 1))=y.aS.length - 1:=by simp (disch:=omega) only [wi];omega
  have:=Z75.A9 g1 (y.aS.length - 1) (by omega)
  unfold Z76.md
  rw [g1,hi]
  exact this
 rw [e2,e]
 cases g3:((y.aS.getD 0 aa.zero).an.bC==a2)
 ·cases g2:(Z119.md a2 a3 y a4==1)<;>simp [g2,h31,h61,h62,h63,Sum.map]
 generalize Z108.md (⟨s.1,s.2.1⟩:aq) y.aS=r
 cases g2:(Z119.md a2 a3 y a4==1)<;>cases g4:(r.2==1)<;>cases g5:(r.2==2)<;>cases g6:(r.2==3)<;>cases g7:Z123.md r.1 a2<;>simp [g2,g4,g5,g6,g7,h31,Sum.map]
def BT (a0:aq)(a1:List ay)(a2:Int)(a3:aB)(a4:Int):(md a0 a1 a2 a3 a4).1=Z124.md a0 a1 a2 a3 a4:=by
 rw [qa,Z124.qa]
 exact qC (p:=Prod.fst) (fun i y s=>by cases Z124.tF a2 a3 a4 y s<;>rfl) (fun s=>rfl) a1 0 _
end Z252
namespace Z253
def F (x0:bu)(x1:aC)(x2:Int)(x3:aB)(x4:Int):aH:=(call (Z252.R (x0,x1,x2,x3,x4)) fun v1=>ret (v1.1:cZ))
def md (a0:aq)(a1:List ay)(a2:Int)(a3:aB)(a4:Int):bT:=(Z252.md a0 a1 a2 a3 a4).1
def gd (a0:aq)(a1:List ay)(a2:Int)(a3:aB)(a4:Int):Prop:=(aq.Sm (2^21) a0)/\(bL (2^21) (fun y:ay=>ay.Sm (2^21) y) a1)/\(a3.size<=(2^21))
def R:=RR (p5 gd) (u5 md)
def aj {a0 a1 a2 a3 a4}(h:gd a0 a1 a2 a3 a4):R ((aq.r a0),(a1.map ay.row),a2,a3,a4)=some (bT.r (md a0 a1 a2 a3 a4)):=aN (a:=(a0,a1,a2,a3,a4)) h
def aT:=CN [.agg rK,pL 165,pI,pS,pI] (.agg f102) RT.dec R
def bt (a0)(a1)(a2)(a3)(a4)(hg:gd a0 a1 a2 a3 a4):F (aq.r a0) (a1.map ay.row) a2 a3 a4=ret (bT.r (md a0 a1 a2 a3 a4)):=by
 obtain ⟨H0,H1,H3⟩:=hg
 unfold F md
 try simp only [SS]
 refine ct (Z252.aj ⟨H0,H1,H3⟩) ?_
 try simp only [SS]
 all_goals exact fz
def af:cw 70 aT:=W5 23 F mix aE bt (.cons Z252.af .nil) Tryz.func70
def br (a0:aq)(a1:List ay)(a2:Int)(a3:aB)(a4:Int):md a0 a1 a2 a3 a4=Z124.md a0 a1 a2 a3 a4:=by
 unfold md
 exact Z252.BT a0 a1 a2 a3 a4
end Z253
namespace Z254
def F (x0:bu)(x1:Int)(x2:aB)(x3 x4:List L):aH:=(call (Z220.R ((mh x3),x1,x2)) fun v1=>(call (Z253.R (x0,v1,x1,x2,(gm x4))) fun v2=>ret (v2:cZ)))
def pats:List fY:=[.agg [.sl 134,.sl 143],.rd (.int .i64),.rd (.str),.ptr [.sl 88],.ptr [aD]]
def res:RP:=.agg [.fr 134,.fr 143,.rd (.bool),.rd (.str),.rd (.int .i64),.rd (.int .i64),.fr 9,.rd (.bool),.fr 3]
def md (a0:aq)(a1:Int)(a2:aB)(a3:List av)(a4:Int):bT:=(Z253.md a0 (Z220.md a3 a1 a2) a1 a2 a4)
def gd (a0:aq)(a1:Int)(a2:aB)(a3:List av)(a4:Int):Prop:=(aq.Sm (2^21) a0)/\(a2.size<=(2^21))/\(bL (2^21) (fun y:av=>av.Sm (2^21) y) a3)
def acc (ls:List L):bu×Int×aB×aC×Int:=((bu.dec ls),((aA 2 ls).headD .hole).toInt,((aA 3 ls).headD .hole).toStr,(mh (cH 1 (aA 4 ls))),(gm (cH 1 (aA 5 ls))))
def R:(bu×Int×aB×aC×Int)->Option cZ:=RR (p5 gd) (u5 md)
def aj {a0 a1 a2 a3 a4}(h:gd a0 a1 a2 a3 a4):R ((aq.r a0),a1,a2,(a3.map av.row),a4)=some (bT.r (md a0 a1 a2 a3 a4)):=aN (a:=(a0,a1,a2,a3,a4)) h
def aT:fQ:=CN pats res acc R
def bt (a0:aq)(a1:Int)(a2:aB)(a3:List av)(a4:Int)(p3 p4:List L)(e3:(a3.map av.row)=(mh p3))(e4:a4=(gm p4))(hg:gd a0 a1 a2 a3 a4):F (aq.r a0) a1 a2 p3 p4=ret ((bT.r (md a0 a1 a2 a3 a4)):cZ):=by
 obtain ⟨H0,H2,H3⟩:=hg
 unfold F md
 try simp only [SS,<-e3,<-e4]
 refine ct (Z220.aj ⟨H3,H2⟩) ?_
 try simp only [SS,<-e3,<-e4]
 refine ct (Z253.aj ⟨H0,(Z220.gh (a0:=a3) (a1:=a1) (a2:=a2) ⟨H3,H2⟩),H2⟩) ?_
 try simp only [SS,<-e3,<-e4]
 all_goals exact fz
def mB (ls:List L)(a:aq×Int×aB×List av×Int)(e:acc ls=Im.im a)(hg:(p5 gd) a):∃n:Nat,F (bu.dec ls) (((aA 2 ls).headD .hole).toInt) (((aA 3 ls).headD .hole).toStr) (cH 1 (aA 4 ls)) (cH 1 (aA 5 ls))=ret (Im.im ((u5 md) a)):=by
 have e0:(aq.r a.1)=(bu.dec ls):=(congrArg (fun x=>x.1) e.symm)
 have e1:a.2.1=((aA 2 ls).headD .hole).toInt:=(congrArg (fun x=>x.2.1) e.symm)
 have e2:a.2.2.1=((aA 3 ls).headD .hole).toStr:=(congrArg (fun x=>x.2.2.1) e.symm)
 have hn:=bt a.1 a.2.1 a.2.2.1 a.2.2.2.1 a.2.2.2.2 (cH 1 (aA 4 ls)) (cH 1 (aA 5 ls)) (congrArg (fun x=>x.2.2.2.1) e.symm) (congrArg (fun x=>x.2.2.2.2) e.symm) hg
 refine ⟨0,?_⟩
 rw [<-e0,<-e1,<-e2]
 exact hn
def af:cw 69 aT:=VP (live:=fun _=>[]) (nt:=18) (accr:=fun ls=>((bu.dec ls),((aA 2 ls).headD .hole).toInt,((aA 3 ls).headD .hole).toStr,(cH 1 (aA 4 ls)),(cH 1 (aA 5 ls)))) (run:=fun _ x=>F x.1 x.2.1 x.2.2.1 x.2.2.2.1 x.2.2.2.2) mix aE (.cons Z220.af (.cons Z253.af .nil)) Tryz.func69 (by kernel_rfl) (fun _ _=>by kernel_rfl) (fun ls a _ e hg=>mB ls a e hg)
def lk (a0:aq)(a1:Int)(a2:aB)(a3:List av)(a4:Int):md a0 a1 a2 a3 a4=Z124.md a0 (Z102.md a3 a1 a2) a1 a2 a4:=by
 unfold md
 rw [Z253.br,Z220.br]
end Z254
namespace Z255
abbrev E (n:Nat):Env:={ T:=assoc kL,G:=dw [(135,Z212.aT),(107,Z146.aT),(136,Z213.aT)],nt:=83,M:=fP [],np:=n,I:=mY [] }
def ic (n:Nat):kC:=inl (E n) Tryz.f108
def tC (n:Nat):gQ Tryz.prog Ev n 108 (ic n):=yP (mt:=false) mix aE (.cons Z212.af (.cons Z146.af (.cons Z213.af .nil))) .nil .nil Tryz.func108 (by kernel_rfl)
end Z255
namespace Z256
inductive Pt where
 | p0 (a:aC) (b c:List L) (d e:Int) (f:aB) (g h i j:Int) (k:aB) (l m n:Int) (o p q s:aC)
def pid:Pt->Nat
 | .p0 ..=>6
def cg:Pt->List V
 | .p0 a b c d e f g h i j k l m n o p q s=>[.sl none 9 a,.fn 69 [.dF none [.sl 88] b 0,.dF none [aD] c 0],.cQ 0 0,.cQ 1 0,.int .i64 d,.cQ 1 0,.cQ 1 0]
def bZ:Pt->List aW
 | .p0 a b c d e f g h i j k l m n o p q s=>[.box [.nil,.nil,.int .i64 e,.str f,.int .i64 g,.int .i64 h,.nil,.nil,.int .i64 i],.box [.own 2,.own 3,.int .i64 j,.str k,.int .i64 l,.int .i64 m,.own 4,.own 5,.int .i64 n],.row 134 o,.row 143 p,.row 9 q,.row 3 s]
def step (J:Pt->aH):Pt->aH
 | .p0 a b c d e f g h i j k l m n o p q s=>(cond (j==0) (ck (decide ((0:Int)<(a.length:Int))) (call (Z254.R ((⟨o,p⟩:bu),d,(pV a 0),(mh b),(gm c))) fun v1=>(ck (eT (((s.length:Int)+1)*8)) (ck (decide ((1:Int)<=(a.length:Int))) (ck (decide ((a.length:Int)<=(a.length:Int))) (cond (!v1.jZ) (J (.p0 [] b c 0 e f g h i 3 k l m n v1.bX.aJ v1.bX.bp q (s++[[L.int d]]))) (cond (!v1.cu) (J (.p0 [] b c 0 e f g h i 2 k l m n v1.bX.aJ v1.bX.bp q (s++[[L.int d]]))) (cond (v1.aV.bK==3) (call (Z212.R v1.aV.bI) fun v2=>(ck (eT (((v2.length:Int)+((List.take (toNat ((a.length:Int) - 1)) (List.drop 1 a)).length:Int))*16)) (cond (decide (n>=3)) (J (.p0 [] b c 0 e f g h i 5 k l m n v1.bX.aJ v1.bX.bp q (s++[[L.int d]]))) (call (Z146.R (v2++(List.take (toNat ((a.length:Int) - 1)) (List.drop 1 a)))) fun v3=>(cond (!v3) (J (.p0 [] b c 0 e f g h i 5 k l m n v1.bX.aJ v1.bX.bp q (s++[[L.int d]]))) (J (.p0 (v2++(List.take (toNat ((a.length:Int) - 1)) (List.drop 1 a))) b c v1.aV.bW e f g h i j k l m (i64.wrap (n+1)) v1.bX.aJ v1.bX.bp q (s++[[L.int d]])))))))) (cond (((List.take (toNat ((a.length:Int) - 1)) (List.drop 1 a)).length:Int)==0) (call (Z213.R v1.aV) fun v4=>J (.p0 [] b c 0 e f g h i 1 v4.bk v4.bK v4.bW n v1.bX.aJ v1.bX.bp v4.bI (s++[[L.int d]]))) (cond (v1.aV.bK==2) (J (.p0 (List.take (toNat ((a.length:Int) - 1)) (List.drop 1 a)) b c v1.aV.bW e f g h i j k l m n v1.bX.aJ v1.bX.bp q (s++[[L.int d]]))) (J (.p0 [] b c 0 e f g h i 4 k l m n v1.bX.aJ v1.bX.bp q (s++[[L.int d]]))))))))))))) (ret ((⟨(⟨o,p⟩:bu),j,(⟨k,l,m,q⟩:aU),s,n⟩:cP):cP)))
def start (J:Pt->aH)(x0:bu)(x1:Int)(x2:aC)(x3 x4:List L):aH:=(call (Z140.R x0) fun v1=>(call (Z146.R x2) fun v2=>(cond (!v2) (ret ((⟨v1,6,(⟨(⟨#[]⟩:aB),0,0,[]⟩:aU),[],0⟩:cP):cP)) (J (.p0 x2 x3 x4 x1 0 ⟨#[]⟩ 0 0 0 0 ⟨#[]⟩ 0 0 0 v1.aJ v1.bp [] [])))))
def live:Nat->Live:=fun i=>match i with | 6=>[(2,some 1099511627785),(3,none),(8,none),(9,none),(10,none),(9,some 6291465),(9,some 7340035)] | _=>[]
def pats:List fY:=[.agg [.sl 134,.sl 143],.rd (.int .i64),.rd (.sl 9),.fn 69 [[.sl 88],[aD]]]
def res:RP:=.agg [.fr 134,.fr 143,.rd (.int .i64),.rd (.str),.rd (.int .i64),.rd (.int .i64),.fr 9,.fr 3,.rd (.int .i64)]
abbrev E:Env:={ T:=assoc kL,G:=dw [(48,Z140.aT),(107,Z146.aT),(69,Z254.aT)],nt:=48,M:=fP [],I:=mY [(108,Z255.ic 0)] }
def step_eq (I:cD)(p:Pt):cT E live I (pid p) (bO Tryz.f68) (fq (live (pid p)) (cg p) (bZ p)) (cE E Tryz.f68 res)=step (fun q=>I (pid q) (cg q) (bZ q)) p:=by
 cases p<;>kernel_rfl
def start_eq (I:cD)(ls:List L):eP E live I (bO Tryz.f68) (cV pats ls) (cE E Tryz.f68 res)=start (fun q=>I (pid q) (cg q) (bZ q)) (bu.dec ls) ((aA 2 ls).headD .hole).toInt ((aA 3 ls).headD .hole).aP (cH 1 (aA 4 ls)) (cH 1 (aA 5 ls)):=by kernel_rfl
def run_eq (n:Nat)(ls:List L):eJ E live Tryz.f68 res n (cV pats ls)=start (iter step n) (bu.dec ls) ((aA 2 ls).headD .hole).toInt ((aA 3 ls).headD .hole).aP (cH 1 (aA 4 ls)) (cH 1 (aA 5 ls)):=cy (id:=pid) (vs:=cg) (hs:=bZ) (step:=step) (start:=fun J=>start J (bu.dec ls) ((aA 2 ls).headD .hole).toInt ((aA 3 ls).headD .hole).aP (cH 1 (aA 4 ls)) (cH 1 (aA 5 ls))) step_eq (fun I=>start_eq I ls) n
def md (a0:aq)(a1:Int)(a2:List aB)(a3:List av)(a4:Int):bA:=(cond (!Z146.md a2) ⟨a0,6,⟨⟨#[]⟩,0,0,[]⟩,[],0⟩ ((Z127.rs (Z127.lk a3 a4) 17 () a0 [] 0 a1 a2).1))
def gd (a0:aq)(a1:Int)(a2:List aB)(a3:List av)(a4:Int):Prop:=(aq.Sm (2^21) a0)/\(bL (2^21) (fun y:aB=>y.size<=(2^21)) a2)/\(bL (2^21) (fun y:av=>av.Sm (2^21) y) a3)
def acc (ls:List L):bu×Int×aC×aC×Int:=((bu.dec ls),((aA 2 ls).headD .hole).toInt,((aA 3 ls).headD .hole).aP,(mh (cH 1 (aA 4 ls))),(gm (cH 1 (aA 5 ls))))
def R:(bu×Int×aC×aC×Int)->Option cP:=RR (p5 gd) (u5 md)
def aj {a0 a1 a2 a3 a4}(h:gd a0 a1 a2 a3 a4):R ((aq.r a0),a1,(a2.map cF),(a3.map av.row),a4)=some (bA.r (md a0 a1 a2 a3 a4)):=aN (a:=(a0,a1,a2,a3,a4)) h
def aT:fQ:=CN pats res acc R
def bt (a0:aq)(a1:Int)(a2:List aB)(a3:List av)(a4:Int)(p3 p4:List L)(e3:(a3.map av.row)=(mh p3))(e4:a4=(gm p4))(hg:gd a0 a1 a2 a3 a4):∃n,start (iter step n) (aq.r a0) a1 (a2.map cF) p3 p4=ret ((bA.r (md a0 a1 a2 a3 a4)):cP):=by
 obtain ⟨H0,H2,H3⟩:=hg
 have fin:∀(J:Pt->aH) (code:Int) (x z:Int) (xs:aC) (lab:aB) (kd vl mv:Int) (o p q s:aC),¬code=0->step J (Pt.p0 xs p3 p4 z 0 ⟨#[]⟩ 0 0 0 code lab kd vl mv o p q s)=ret (⟨⟨o,p⟩,code,⟨lab,kd,vl,q⟩,s,mv⟩:cP):=by
  intro J code x z xs lab kd vl mv o p q s h
  simp only [step]
  exact cN (beq_eq_false_iff_ne.2 h) rfl
 have key:∀(n:Nat) (k:aq) (zs:List Int) (mv z:Int) (p:List aB),aq.Sm (2^21) k->Z49.md p=true->0<=mv->mv<=3->(3 - mv)*4+(p.length:Int)<=n->zs.length+n<=100->
   ∃m,iter step m (Pt.p0 (p.map cF) p3 p4 z 0 ⟨#[]⟩ 0 0 0 0 ⟨#[]⟩ 0 0 mv (k.aJ.map (dG aa.row)) (k.bp.map az.row) [] (zs.map bh))=ret (bA.r (Z127.rs (Z127.lk a3 a4) n () k zs mv z p).1):=by
  intro n
  induction n with
  | zero=>intro k zs mv z p _ hp _ _ hm _;have:=(Z49.tr hp).1;omega
  | succ n ih=>
   intro k zs mv z p hk hp h0 h3 hm hz
   obtain ⟨⟨p1,p4'⟩,p8⟩:=Z49.tr hp
   obtain ⟨x,xs,rfl⟩:∃x xs,p=x::xs:=by
    cases p with
    | nil=>simp at p1
    | cons x xs=>exact ⟨x,xs,rfl⟩
   have hx:x.size<=2^21:=le_trans (p8 x (by simp)) (by decide)
   have hxs:∀y∈xs,y.size<=2^22:=fun y hy=>le_trans (p8 y (by simp [hy])) (by decide)
   have hask:=Z102.gh (a0:=a3) (a1:=z) (a2:=x) ⟨H3,hx⟩
   have hlk:=Z124.gh (a0:=k) (a1:=Z102.md a3 z x) (a2:=z) (a3:=x) (a4:=a4) ⟨hk,hask,hx⟩
   have hat:pV ((x::xs).map cF) 0=x:=rfl
   have ht:List.take (toNat (((xs.length+1:Nat):Int) - 1)) (List.drop 1 ((x::xs).map cF))=xs.map cF:=by
    simp only [List.map_cons,List.drop_succ_cons,List.drop_zero]
    exact List.take_of_length_le (by simp)
   simp only [List.length_cons] at p4' hm
   refine Z127.wu ?_
   simp only [step,hat,List.length_map,List.length_cons,ht,<-e3,<-e4]
   refine dI rfl (dI dt ?_)
   have hR:=Z254.aj (a0:=k) (a1:=z) (a2:=x) (a3:=a3) (a4:=a4) ⟨hk,hx,H3⟩
   rw [Z254.lk] at hR
   refine cx hR ?_
   have hcase:∀q,Z127.nx (Z124.md k (Z102.md a3 z x) z x a4) mv (x::xs)=.inl q->Z127.rs (Z127.lk a3 a4) (n+1) () k zs mv z (x::xs)=(⟨(Z124.md k (Z102.md a3 z x) z x a4).bX,q.1,q.2,zs++[z],mv⟩,()):=fun q hq=>Z127.vJ hq
   have hcase2:∀q,Z127.nx (Z124.md k (Z102.md a3 z x) z x a4) mv (x::xs)=.inr q->Z127.rs (Z127.lk a3 a4) (n+1) () k zs mv z (x::xs)=Z127.rs (Z127.lk a3 a4) n () (Z124.md k (Z102.md a3 z x) z x a4).bX (zs++[z]) q.1 q.2.1 q.2.2:=fun q hq=>Z127.vH hq
   clear hR
   revert hcase hcase2 hlk
   generalize Z124.md k (Z102.md a3 z x) z x a4=l
   intro hlk hcase hcase2
   refine dI lm (dI dt (dI dt ?_))
   obtain ⟨lk0,lf,le,ld,lc⟩:=l
   unfold Z127.nx at hcase hcase2
   have hzz:zs.map bh++[[L.int z]]=(zs++[z]).map bh:=by simp [bh]
   cases ld
   ·exact dI rfl ⟨1,(fin _ 3 0 _ _ _ _ _ _ _ _ _ _ (by decide)).trans (by rw [hcase _ rfl];exact fz)⟩
   cases lf
   ·exact dx rfl (dI rfl ⟨1,(fin _ 2 0 _ _ _ _ _ _ _ _ _ _ (by decide)).trans (by rw [hcase _ rfl];exact fz)⟩)
   simp only [Bool.not_true,bq,bf,List.tail_cons] at hcase hcase2 ⊢
   have hpl:bL (2^21) (fun y:aB=>y.size<=(2^21)) le.bI:=hlk.2.1.2
   have hpl1:le.bI.length<=2^21:=hpl.1
   refine dx rfl (dx rfl ?_)
   try simp only [SS]
   cases hk3:(le.bK==3)
   ·simp only [hk3,bq] at hcase hcase2 ⊢
    by_cases hx0:xs.length=0
    ·have e0:((xs.length:Int)==0)=true:=by simp [hx0]
     rw [e0] at hcase
     refine dI (beq_iff_eq.2 (by omega)) (cx (Z213.aj (a0:=le) hlk.2.1) ?_)
     exact ⟨1,(fin _ 1 0 _ _ _ _ _ _ _ _ _ _ (by decide)).trans (by rw [hcase _ rfl];exact fz)⟩
    ·have e0:((xs.length:Int)==0)=false:=by simpa using hx0
     rw [e0] at hcase hcase2
     refine dx (beq_eq_false_iff_ne.2 (by omega)) ?_
     cases hk2:(le.bK==2)
     ·simp only [hk2,bq] at hcase
      exact dx rfl ⟨1,(fin _ 4 0 _ _ _ _ _ _ _ _ _ _ (by decide)).trans (by rw [hcase _ rfl];exact fz)⟩
     ·simp only [hk2,bq,bf] at hcase2
      refine dI rfl ?_
      have hip:Z49.md xs=true:=Z49.tl hp hx0
      rw [hcase2 _ rfl,hzz]
      exact ih lk0 (zs++[z]) mv le.bW xs hlk.1 hip h0 h3 (by omega) (by simp;omega)
   ·simp only [hk3,bf] at hcase hcase2 ⊢
    refine cx (Z212.aj (a0:=le.bI) hpl) ?_
    refine dI (by have :(le.bI.map cF).length=le.bI.length:=List.length_map ..;have :(xs.map cF).length=xs.length:=List.length_map ..;exact iJ (by omega)) ?_
    by_cases hmv:mv>=3
    ·rw [decide_eq_true hmv] at hcase ⊢
     exact dI rfl ⟨1,(fin _ 5 0 _ _ _ _ _ _ _ _ _ _ (by decide)).trans (by rw [hcase _ rfl];exact fz)⟩
    ·rw [decide_eq_false hmv] at hcase hcase2 ⊢
     simp only [bq] at hcase hcase2 ⊢
     have e:le.bI.map cF++xs.map cF=(le.bI++xs).map cF:=by simp
     rw [e]
     have hq:=Z146.aj (a0:=le.bI++xs) ⟨by rw [List.length_append];omega,fun y hy=>(List.mem_append.1 hy).elim (fun h=>le_trans (hpl.2 y h) (by decide)) (hxs y)⟩
     rw [Z146.br] at hq
     refine cx hq ?_
     cases hip:Z49.md (le.bI++xs)
     ·rw [hip] at hcase
      exact dI rfl ⟨1,(fin _ 5 0 _ _ _ _ _ _ _ _ _ _ (by decide)).trans (by rw [hcase _ rfl];exact fz)⟩
     ·rw [hip] at hcase2
      have ht:=Z49.tr hip
      rw [hcase2 _ rfl,hzz,wi _ (by omega)]
      exact ih lk0 (zs++[z]) (mv+1) le.bW (le.bI++xs) hlk.1 hip (by omega) (by omega) (by omega) (by simp;omega)
 unfold start md
 refine cx (Z140.aj (a0:=a0) H0) ?_
 refine cx (Z146.aj (a0:=a2) (bL.mono H2 (by decide) (fun y hy=>le_trans hy (by decide)))) ?_
 cases hp:Z146.md a2
 ·exact ⟨0,rfl⟩
 ·simp only [Bool.not_true,bq]
  rw [Z146.br] at hp
  exact key 17 a0 [] 0 a1 a2 H0 hp (by decide) (by decide) (by have:=(Z49.tr hp).1;omega) (by simp)
def mB (ls:List L)(a:aq×Int×List aB×List av×Int)(e:acc ls=Im.im a)(hg:(p5 gd) a):∃n:Nat,start (iter step n) (bu.dec ls) (((aA 2 ls).headD .hole).toInt) (((aA 3 ls).headD .hole).aP) (cH 1 (aA 4 ls)) (cH 1 (aA 5 ls))=ret (Im.im ((u5 md) a)):=by
 have e0:(aq.r a.1)=(bu.dec ls):=(congrArg (fun x=>x.1) e.symm)
 have e1:a.2.1=((aA 2 ls).headD .hole).toInt:=(congrArg (fun x=>x.2.1) e.symm)
 have e2:(a.2.2.1.map cF)=((aA 3 ls).headD .hole).aP:=(congrArg (fun x=>x.2.2.1) e.symm)
 obtain ⟨n,hn⟩:=bt a.1 a.2.1 a.2.2.1 a.2.2.2.1 a.2.2.2.2 (cH 1 (aA 4 ls)) (cH 1 (aA 5 ls)) (congrArg (fun x=>x.2.2.2.1) e.symm) (congrArg (fun x=>x.2.2.2.2) e.symm) hg
 refine ⟨n,?_⟩
 rw [<-e0,<-e1,<-e2]
 exact hn
def af:cw 68 aT:=VJ (mt:=false) (accr:=fun ls=>((bu.dec ls),((aA 2 ls).headD .hole).toInt,((aA 3 ls).headD .hole).aP,(cH 1 (aA 4 ls)),(cH 1 (aA 5 ls)))) (run:=fun n x=>start (iter step n) x.1 x.2.1 x.2.2.1 x.2.2.2.1 x.2.2.2.2) mix aE (.cons Z140.af (.cons Z146.af (.cons Z254.af .nil))) .nil (.cons (Z255.tC 0) .nil) Tryz.func68 (by kernel_rfl) run_eq (fun ls a _ e hg=>mB ls a e hg)
end Z256
namespace Z257
def F (x0:bu)(x1:aC)(x2:Int)(x3:aC)(x4:Int):aH:=(call (Z256.R (x0,x2,x3,x1,x4)) fun v1=>ret (v1:cP))
def md (a0:aq)(a1:List av)(a2:Int)(a3:List aB)(a4:Int):bA:=(Z256.md a0 a2 a3 a1 a4)
def gd (a0:aq)(a1:List av)(a2:Int)(a3:List aB)(a4:Int):Prop:=(aq.Sm (2^21) a0)/\(bL (2^21) (fun y:av=>av.Sm (2^21) y) a1)/\(bL (2^21) (fun y:aB=>y.size<=(2^21)) a3)
def R:=RR (p5 gd) (u5 md)
def aj {a0 a1 a2 a3 a4}(h:gd a0 a1 a2 a3 a4):R ((aq.r a0),(a1.map av.row),a2,(a3.map cF),a4)=some (bA.r (md a0 a1 a2 a3 a4)):=aN (a:=(a0,a1,a2,a3,a4)) h
def aT:=CN [.agg rK,pL 88,pI,pL 9,pI] (.agg f60) RT.dec R
def bt (a0)(a1)(a2)(a3)(a4)(hg:gd a0 a1 a2 a3 a4):F (aq.r a0) (a1.map av.row) a2 (a3.map cF) a4=ret (bA.r (md a0 a1 a2 a3 a4)):=by
 obtain ⟨H0,H1,H3⟩:=hg
 unfold F md
 try simp only [SS]
 refine ct (Z256.aj ⟨H0,H3,H1⟩) ?_
 try simp only [SS]
 all_goals exact fz
def af:cw 29 aT:=W5 16 F mix aE bt (.cons Z256.af .nil) Tryz.func29
def br (a0:aq)(a1:List av)(a2:Int)(a3:List aB)(a4:Int):md a0 a1 a2 a3 a4=Z127.md a0 a1 a2 a3 a4:=by
 unfold md Z256.md Z127.md
 rw [Z146.br]
end Z257
namespace Z258
def F (x0:bu)(x1 x2:aC)(x3:aB)(x4:aC)(x5:Int):aH:=(call (Z132.R (x2,x3)) fun v1=>(cond (!v1.2) (call (Z140.R x0) fun v2=>ret ((⟨v2,6,(⟨(⟨#[]⟩:aB),0,0,[]⟩:aU),[],0⟩:cP):cP)) (call (Z257.R (x0,x1,v1.1,x4,x5)) fun v3=>ret (v3:cP))))
def md (a0:aq)(a1:List av)(a2:List bF)(a3:aB)(a4:List aB)(a5:Int):bA:=(cond (!(Z132.md a2 a3).2) (⟨a0,6,(⟨((⟨#[]⟩:aB):aB),0,0,[]⟩:ah),[],0⟩:bA) (Z257.md a0 a1 ((Z132.md a2 a3).1) a4 a5))
def gd (a0:aq)(a1:List av)(a2:List bF)(a3:aB)(a4:List aB)(a5:Int):Prop:=(aq.Sm (2^21) a0)/\(bL (2^21) (fun y:av=>av.Sm (2^21) y) a1)/\(bL (2^21) (fun y:bF=>bF.Sm (2^21) y) a2)/\(bL (2^21) (fun y:aB=>y.size<=(2^21)) a4)
def R:=RR (p6 gd) (u6 md)
def aj {a0 a1 a2 a3 a4 a5}(h:gd a0 a1 a2 a3 a4 a5):R ((aq.r a0),(a1.map av.row),(a2.map bF.row),a3,(a4.map cF),a5)=some (bA.r (md a0 a1 a2 a3 a4 a5)):=aN (a:=(a0,a1,a2,a3,a4,a5)) h
def aT:=CN [.agg rK,pL 88,pL 118,pS,pL 9,pI] (.agg f60) RT.dec R
def bt (a0)(a1)(a2)(a3)(a4)(a5)(hg:gd a0 a1 a2 a3 a4 a5):F (aq.r a0) (a1.map av.row) (a2.map bF.row) a3 (a4.map cF) a5=ret (bA.r (md a0 a1 a2 a3 a4 a5)):=by
 obtain ⟨H0,H1,H2,H4⟩:=hg
 unfold F md
 try simp only [SS]
 refine ct (Z132.aj H2) ?_
 refine au (fun b:bA=>ret ((bA.r b):cP)) (fun c1=>?_) (fun c1=>?_)
 ·refine ct (Z140.aj H0) ?_
  try simp only [SS]
  all_goals exact fz
 ·refine ct (Z257.aj ⟨H0,H1,H4⟩) ?_
  try simp only [SS]
  all_goals exact fz
def af:cw 36 aT:=W6 32 F mix aE bt (.cons Z132.af (.cons Z140.af (.cons Z257.af .nil))) Tryz.func36
def br (a0:aq)(a1:List av)(a2:List bF)(a3:aB)(a4:List aB)(a5:Int):md a0 a1 a2 a3 a4 a5=Z128.md a0 a1 a2 a3 a4 a5:=by
 unfold md Z128.md
 first
 | (simp only [Z132.br,Z257.br];done)
 | (simp only [Z132.br,Z257.br];rfl)
 | rfl
end Z258
namespace Z259
inductive Pt where
 | p0 (a b:aC) (c:Int)
def pid:Pt->Nat
 | .p0 ..=>4
def cg:Pt->List V
 | .p0 a b c=>[.sl none 3 a,.sl none 3 b,.int .i64 c]
def bZ:Pt->List aW
 | .p0 a b c=>[]
def step (J:Pt->aH):Pt->aH
 | .p0 a b c=>(cond (decide (c<(a.length:Int))) (m2 c (a.length:Int) (m2 c (b.length:Int) (cond ((je a (toNat c)) != (je b (toNat c))) aY (J (.p0 a b (i64.wrap (c+1))))))) ep)
def start (J:Pt->aH)(x0 x1:aC):aH:=(cond ((x0.length:Int) != (x1.length:Int)) aY (J (.p0 x0 x1 0)))
def live:Nat->Live:=fun i=>match i with | 4=>[(0,none),(1,none),(5,none)] | _=>[]
def pats:List fY:=[.rd (.sl 3),.rd (.sl 3)]
def res:RP:=.one (.rd (.bool))
abbrev E:Env:={ T:=assoc kL,G:=dw [],nt:=26 }
def step_eq (I:cD)(p:Pt):cT E live I (pid p) (bO Tryz.f73) (fq (live (pid p)) (cg p) (bZ p)) (cE E Tryz.f73 res)=step (fun q=>I (pid q) (cg q) (bZ q)) p:=by
 cases p<;>kernel_rfl
def start_eq (I:cD)(ls:List L):eP E live I (bO Tryz.f73) (cV pats ls) (cE E Tryz.f73 res)=start (fun q=>I (pid q) (cg q) (bZ q)) (ls.headD .hole).aP ((aA 1 ls).headD .hole).aP:=by kernel_rfl
def run_eq (n:Nat)(ls:List L):eJ E live Tryz.f73 res n (cV pats ls)=start (iter step n) (ls.headD .hole).aP ((aA 1 ls).headD .hole).aP:=cy (id:=pid) (vs:=cg) (hs:=bZ) (step:=step) (start:=fun J=>start J (ls.headD .hole).aP ((aA 1 ls).headD .hole).aP) step_eq (fun I=>start_eq I ls) n
def md (a0 a1:List Int):Bool:=dW a0 a1
def gd (a0 a1:List Int):Prop:=True
def acc (ls:List L):aC×aC:=((ls.headD .hole).aP,((aA 1 ls).headD .hole).aP)
def R:(aC×aC)->Option Bool:=RR (p2 gd) (u2 md)
def aj {a0 a1}(h:gd a0 a1):R ((a0.map bh),(a1.map bh))=some (md a0 a1):=aN (a:=(a0,a1)) h
def aT:fQ:=CN pats res acc R
def bt (a0 a1:List Int)(hg:gd a0 a1)(h0:a0.length<=maxLen)(h1:a1.length<=maxLen):∃n,start (iter step n) (a0.map bh) (a1.map bh)=ret ((md a0 a1):Bool):=by
 unfold start md
 simp only [List.length_map]
 refine iz (pt:=fun i=>Pt.p0 (a0.map bh) (a1.map bh) (i:Int)) (fun hl J i h h2=>?_) (fun J=>?_)
 ·simp only [step,MM,List.length_map,aL h,aL h2,aI,bf,cB,sF h,sF h2]
  rw [aG h h0]
  simp only [bne,eZ,bool_beq,eO]
  cases dW a0[i] a1[i]<;>rfl
 ·simp only [step,List.length_map,dU,bq]
def af:cw 73 aT:=VV (run:=fun n x=>start (iter step n) x.1 x.2) mix aE .nil Tryz.func73 (by kernel_rfl) run_eq (fun ls a hl e hg=>bt a.1 a.2 hg (by have h:(ls.headD .hole).aP.length<=maxLen:=hl.1.len;have e:a.1.map bh=(ls.headD .hole).aP:=(congrArg (fun x=>x.1) e.symm);rw [<-e] at h;simpa using h) (by have h:((aA 1 ls).headD .hole).aP.length<=maxLen:=hl.2.1.len;have e:a.2.map bh=((aA 1 ls).headD .hole).aP:=(congrArg (fun x=>x.2) e.symm);rw [<-e] at h;simpa using h))
end Z259
namespace Z260
def F (x0 x1:bD):aH:=(call (Z259.R (x0.aX,x1.aX)) fun v1=>(cond (!v1) aY (cond (x0.cC != x1.cC) aY ep)))
def md (a0 a1:aO):Bool:=dW a0 a1
def gd (a0 a1:aO):Prop:=True
def R:=RR (p2 gd) (u2 md)
def aj {a0 a1}(h:gd a0 a1):R ((aO.r a0),(aO.r a1))=some (md a0 a1):=aN (a:=(a0,a1)) h
def aT:=CN [.agg iU,.agg iU] oB RT.dec R
def bt (a0)(a1)(hg:gd a0 a1):F (aO.r a0) (aO.r a1)=ret (md a0 a1):=by
 unfold md
 show (call (Z259.R ((a0.aX.map bh),(a1.aX.map bh))) fun v1=>(cond (!v1) aY (cond (a0.cC != a1.cC) aY ep)))=_
 simp only [call_eq (Z259.aj (a0:=a0.aX) (a1:=a1.aX) trivial),Z259.md]
 try simp only [bne,eZ,bool_beq,eO]
 have e:dW a0 a1=(dW a0.aX a1.aX&&(dW a0.cC a1.cC&&true)):=by
  cases a0;cases a1
  rw [Bool.eq_iff_iff]
  simp only [dc,Bool.and_eq_true,aO.mk.injEq,and_true]
 rw [e]
 refine cM fun _=>?_
 refine cM fun _=>?_
 rfl
def af:cw 185 aT:=W2 16 F mix aE bt (.cons Z259.af .nil) Tryz.func185
end Z260
namespace Z261
def F (x0 x1:bY):aH:=(cond (x0.bC != x1.bC) aY (cond (x0.cI != x1.cI) aY (cond (x0.bK != x1.bK) aY (cond (x0.cG != x1.cG) aY (cond (x0.cz != x1.cz) aY (cond (x0.cq != x1.cq) aY (cond (x0.cW != x1.cW) aY (cond (x0.dy != x1.dy) aY (call (Z260.R (x0.bQ,x1.bQ)) fun v1=>(cond (!v1) aY (call (Z260.R (x0.bB,x1.bB)) fun v2=>(cond (!v2) aY (cond (x0.cY != x1.cY) aY (call (Z260.R (x0.bw,x1.bw)) fun v3=>(cond (!v3) aY (cond (!(x0.bE==x1.bE)) aY ep))))))))))))))))
def md (a0 a1:aF):Bool:=dW a0 a1
def gd (a0 a1:aF):Prop:=True
def R:=RR (p2 gd) (u2 md)
def aj {a0 a1}(h:gd a0 a1):R ((aF.r a0),(aF.r a1))=some (md a0 a1):=aN (a:=(a0,a1)) h
def aT:=CN [.agg fW,.agg fW] oB RT.dec R
def bt (a0)(a1)(hg:gd a0 a1):F (aF.r a0) (aF.r a1)=ret (md a0 a1):=by
 unfold md
 show (bif (a0.bC != a1.bC) then aY else (bif (a0.cI != a1.cI) then aY else (bif (a0.bK != a1.bK) then aY else (bif (a0.cG != a1.cG) then aY else (bif (a0.cz != a1.cz) then aY else (bif (a0.cq != a1.cq) then aY else (bif (a0.cW != a1.cW) then aY else (bif (a0.dy != a1.dy) then aY else (call (Z260.R ((aO.r a0.bQ),(aO.r a1.bQ))) fun v1=>(bif (!v1) then aY else (call (Z260.R ((aO.r a0.bB),(aO.r a1.bB))) fun v2=>(bif (!v2) then aY else (bif (a0.cY != a1.cY) then aY else (call (Z260.R ((aO.r a0.bw),(aO.r a1.bw))) fun v3=>(cond (!v3) aY (cond (!(a0.bE==a1.bE)) aY ep))))))))))))))))=_
 simp only [call_eq (Z260.aj (a0:=a0.bQ) (a1:=a1.bQ) trivial),Z260.md]
 simp only [call_eq (Z260.aj (a0:=a0.bB) (a1:=a1.bB) trivial),Z260.md]
 simp only [call_eq (Z260.aj (a0:=a0.bw) (a1:=a1.bw) trivial),Z260.md]
 try simp only [bne,eZ,bool_beq,eO]
 have e:dW a0 a1=(dW a0.bC a1.bC&&(dW a0.cI a1.cI&&(dW a0.bK a1.bK&&(dW a0.cG a1.cG&&(dW a0.cz a1.cz&&(dW a0.cq a1.cq&&(dW a0.cW a1.cW&&(dW a0.dy a1.dy&&(dW a0.bQ a1.bQ&&(dW a0.bB a1.bB&&(dW a0.cY a1.cY&&(dW a0.bw a1.bw&&(dW a0.bE a1.bE&&true))))))))))))):=by
  cases a0;cases a1
  rw [Bool.eq_iff_iff]
  simp only [dc,Bool.and_eq_true,aF.mk.injEq,and_true]
 rw [e]
 refine cM fun _=>?_
 refine cM fun _=>?_
 refine cM fun _=>?_
 refine cM fun _=>?_
 refine cM fun _=>?_
 refine cM fun _=>?_
 refine cM fun _=>?_
 refine cM fun _=>?_
 refine cM fun _=>?_
 refine cM fun _=>?_
 refine cM fun _=>?_
 refine cM fun _=>?_
 refine cM fun _=>?_
 rfl
def af:cw 150 aT:=W2 73 F mix aE bt (.cons Z260.af .nil) Tryz.func150
end Z261
namespace Z262
def F (x0 x1:bn):aH:=(cond (x0.gJ != x1.gJ) aY (cond (x0.jq != x1.jq) aY ep))
def md (a0 a1:bn):Bool:=dW a0 a1
def gd (a0 a1:bn):Prop:=True
def R:=RR (p2 gd) (u2 md)
def aj {a0 a1}(h:gd a0 a1):R (a0,a1)=some (md a0 a1):=aN (a:=(a0,a1)) h
def aT:=CN [.agg yN,.agg yN] oB RT.dec R
def bt (a0)(a1)(hg:gd a0 a1):F a0 a1=ret (md a0 a1):=by
 unfold md
 show (cond (a0.gJ != a1.gJ) aY (cond (a0.jq != a1.jq) aY ep))=_
 try simp only [bne,eZ,bool_beq,eO]
 have e:dW a0 a1=(dW a0.gJ a1.gJ&&(dW a0.jq a1.jq&&true)):=by
  cases a0;cases a1
  rw [Bool.eq_iff_iff]
  simp only [dc,Bool.and_eq_true,bn.mk.injEq,and_true]
 rw [e]
 refine cM fun _=>?_
 refine cM fun _=>?_
 rfl
def af:cw 186 aT:=W2 15 F mix aE bt .nil Tryz.func186
end Z262
namespace Z263
inductive Pt where
 | p0 (a b:aC) (c:Int)
def pid:Pt->Nat
 | .p0 ..=>4
def cg:Pt->List V
 | .p0 a b c=>[.sl none 190 a,.sl none 190 b,.int .i64 c]
def bZ:Pt->List aW
 | .p0 a b c=>[]
def step (J:Pt->aH):Pt->aH
 | .p0 a b c=>(cond (decide (c<(a.length:Int))) (m2 c (a.length:Int) (m2 c (b.length:Int) (call (Z262.R ((bn.at a (toNat c)),(bn.at b (toNat c)))) fun v1=>(cond (!v1) aY (J (.p0 a b (i64.wrap (c+1)))))))) ep)
def start (J:Pt->aH)(x0 x1:aC):aH:=(cond ((x0.length:Int) != (x1.length:Int)) aY (J (.p0 x0 x1 0)))
def live:Nat->Live:=fun i=>match i with | 4=>[(0,none),(1,none),(5,none)] | _=>[]
def pats:List fY:=[.rd (.sl 190),.rd (.sl 190)]
def res:RP:=.one (.rd (.bool))
abbrev E:Env:={ T:=assoc kL,G:=dw [(186,Z262.aT)],nt:=27 }
def step_eq (I:cD)(p:Pt):cT E live I (pid p) (bO Tryz.f151) (fq (live (pid p)) (cg p) (bZ p)) (cE E Tryz.f151 res)=step (fun q=>I (pid q) (cg q) (bZ q)) p:=by
 cases p<;>kernel_rfl
def start_eq (I:cD)(ls:List L):eP E live I (bO Tryz.f151) (cV pats ls) (cE E Tryz.f151 res)=start (fun q=>I (pid q) (cg q) (bZ q)) (ls.headD .hole).aP ((aA 1 ls).headD .hole).aP:=by kernel_rfl
def run_eq (n:Nat)(ls:List L):eJ E live Tryz.f151 res n (cV pats ls)=start (iter step n) (ls.headD .hole).aP ((aA 1 ls).headD .hole).aP:=cy (id:=pid) (vs:=cg) (hs:=bZ) (step:=step) (start:=fun J=>start J (ls.headD .hole).aP ((aA 1 ls).headD .hole).aP) step_eq (fun I=>start_eq I ls) n
def md (a0 a1:List bn):Bool:=dW a0 a1
def gd (a0 a1:List bn):Prop:=True
def acc (ls:List L):aC×aC:=((ls.headD .hole).aP,((aA 1 ls).headD .hole).aP)
def R:(aC×aC)->Option Bool:=RR (p2 gd) (u2 md)
def aj {a0 a1}(h:gd a0 a1):R ((a0.map bn.row),(a1.map bn.row))=some (md a0 a1):=aN (a:=(a0,a1)) h
def aT:fQ:=CN pats res acc R
def bt (a0 a1:List bn)(hg:gd a0 a1)(h0:a0.length<=maxLen)(h1:a1.length<=maxLen):∃n,start (iter step n) (a0.map bn.row) (a1.map bn.row)=ret ((md a0 a1):Bool):=by
 unfold start md
 simp only [List.length_map]
 refine iz (pt:=fun i=>Pt.p0 (a0.map bn.row) (a1.map bn.row) (i:Int)) (fun hl J i h h2=>?_) (fun J=>?_)
 ·simp only [step,MM,List.length_map,aL h,aL h2,aI,bf,cB,bn.dY h,bn.dY h2]
  rw [aG h h0]
  rw [call_eq (Z262.aj (a0:=a0[i]) (a1:=a1[i]) trivial),Z262.md]
  cases dW a0[i] a1[i]<;>rfl
 ·simp only [step,List.length_map,dU,bq]
def af:cw 151 aT:=VV (run:=fun n x=>start (iter step n) x.1 x.2) mix aE (.cons Z262.af .nil) Tryz.func151 (by kernel_rfl) run_eq (fun ls a hl e hg=>bt a.1 a.2 hg (by have h:(ls.headD .hole).aP.length<=maxLen:=hl.1.len;have e:a.1.map bn.row=(ls.headD .hole).aP:=(congrArg (fun x=>x.1) e.symm);rw [<-e] at h;simpa using h) (by have h:((aA 1 ls).headD .hole).aP.length<=maxLen:=hl.2.1.len;have e:a.2.map bn.row=((aA 1 ls).headD .hole).aP:=(congrArg (fun x=>x.2) e.symm);rw [<-e] at h;simpa using h))
end Z263
namespace Z264
def F (x0 x1:aR):aH:=(call (Z261.R (x0.an,x1.an)) fun v1=>(cond (!v1) aY (call (Z263.R (x0.cm,x1.cm)) fun v2=>(cond (!v2) aY ep))))
def md (a0 a1:aa):Bool:=dW a0 a1
def gd (a0 a1:aa):Prop:=True
def R:=RR (p2 gd) (u2 md)
def aj {a0 a1}(h:gd a0 a1):R ((aa.r a0),(aa.r a1))=some (md a0 a1):=aN (a:=(a0,a1)) h
def aT:=CN [.agg kE,.agg kE] oB RT.dec R
def bt (a0)(a1)(hg:gd a0 a1):F (aa.r a0) (aa.r a1)=ret (md a0 a1):=by
 unfold md
 show (call (Z261.R ((aF.r a0.an),(aF.r a1.an))) fun v1=>(bif (!v1) then aY else (call (Z263.R ((a0.cm.map bn.row),(a1.cm.map bn.row))) fun v2=>(cond (!v2) aY ep))))=_
 simp only [call_eq (Z261.aj (a0:=a0.an) (a1:=a1.an) trivial),Z261.md]
 simp only [call_eq (Z263.aj (a0:=a0.cm) (a1:=a1.cm) trivial),Z263.md]
 try simp only [bne,eZ,bool_beq,eO]
 have e:dW a0 a1=(dW a0.an a1.an&&(dW a0.cm a1.cm&&true)):=by
  cases a0;cases a1
  rw [Bool.eq_iff_iff]
  simp only [dc,Bool.and_eq_true,aa.mk.injEq,and_true]
 rw [e]
 refine cM fun _=>?_
 refine cM fun _=>?_
 rfl
def af:cw 119 aT:=W2 17 F mix aE bt (.cons Z261.af (.cons Z263.af .nil)) Tryz.func119
end Z264
namespace Z265
inductive Pt where
 | p0 (a b:aC) (c:Int)
def pid:Pt->Nat
 | .p0 ..=>4
def cg:Pt->List V
 | .p0 a b c=>[.sl none 141 a,.sl none 141 b,.int .i64 c]
def bZ:Pt->List aW
 | .p0 a b c=>[]
def step (J:Pt->aH):Pt->aH
 | .p0 a b c=>(cond (decide (c<(a.length:Int))) (m2 c (a.length:Int) (m2 c (b.length:Int) (call (Z264.R ((aR.at a (toNat c)),(aR.at b (toNat c)))) fun v1=>(cond (!v1) aY (J (.p0 a b (i64.wrap (c+1)))))))) ep)
def start (J:Pt->aH)(x0 x1:aC):aH:=(cond ((x0.length:Int) != (x1.length:Int)) aY (J (.p0 x0 x1 0)))
def live:Nat->Live:=fun i=>match i with | 4=>[(0,none),(1,none),(5,none)] | _=>[]
def pats:List fY:=[.rd (.sl 141),.rd (.sl 141)]
def res:RP:=.one (.rd (.bool))
abbrev E:Env:={ T:=assoc kL,G:=dw [(119,Z264.aT)],nt:=27 }
def step_eq (I:cD)(p:Pt):cT E live I (pid p) (bO Tryz.f91) (fq (live (pid p)) (cg p) (bZ p)) (cE E Tryz.f91 res)=step (fun q=>I (pid q) (cg q) (bZ q)) p:=by
 cases p<;>kernel_rfl
def start_eq (I:cD)(ls:List L):eP E live I (bO Tryz.f91) (cV pats ls) (cE E Tryz.f91 res)=start (fun q=>I (pid q) (cg q) (bZ q)) (ls.headD .hole).aP ((aA 1 ls).headD .hole).aP:=by kernel_rfl
def run_eq (n:Nat)(ls:List L):eJ E live Tryz.f91 res n (cV pats ls)=start (iter step n) (ls.headD .hole).aP ((aA 1 ls).headD .hole).aP:=cy (id:=pid) (vs:=cg) (hs:=bZ) (step:=step) (start:=fun J=>start J (ls.headD .hole).aP ((aA 1 ls).headD .hole).aP) step_eq (fun I=>start_eq I ls) n
def md (a0 a1:List aa):Bool:=dW a0 a1
def gd (a0 a1:List aa):Prop:=True
def acc (ls:List L):aC×aC:=((ls.headD .hole).aP,((aA 1 ls).headD .hole).aP)
def R:(aC×aC)->Option Bool:=RR (p2 gd) (u2 md)
def aj {a0 a1}(h:gd a0 a1):R ((a0.map aa.row),(a1.map aa.row))=some (md a0 a1):=aN (a:=(a0,a1)) h
def aT:fQ:=CN pats res acc R
def bt (a0 a1:List aa)(hg:gd a0 a1)(h0:a0.length<=maxLen)(h1:a1.length<=maxLen):∃n,start (iter step n) (a0.map aa.row) (a1.map aa.row)=ret ((md a0 a1):Bool):=by
 unfold start md
 simp only [List.length_map]
 refine iz (pt:=fun i=>Pt.p0 (a0.map aa.row) (a1.map aa.row) (i:Int)) (fun hl J i h h2=>?_) (fun J=>?_)
 ·simp only [step,MM,List.length_map,aL h,aL h2,aI,bf,cB,aa.dY h,aa.dY h2]
  rw [aG h h0]
  rw [call_eq (Z264.aj (a0:=a0[i]) (a1:=a1[i]) trivial),Z264.md]
  cases dW a0[i] a1[i]<;>rfl
 ·simp only [step,List.length_map,dU,bq]
def af:cw 91 aT:=VV (run:=fun n x=>start (iter step n) x.1 x.2) mix aE (.cons Z264.af .nil) Tryz.func91 (by kernel_rfl) run_eq (fun ls a hl e hg=>bt a.1 a.2 hg (by have h:(ls.headD .hole).aP.length<=maxLen:=hl.1.len;have e:a.1.map aa.row=(ls.headD .hole).aP:=(congrArg (fun x=>x.1) e.symm);rw [<-e] at h;simpa using h) (by have h:((aA 1 ls).headD .hole).aP.length<=maxLen:=hl.2.1.len;have e:a.2.map aa.row=((aA 1 ls).headD .hole).aP:=(congrArg (fun x=>x.2) e.symm);rw [<-e] at h;simpa using h))
end Z265
namespace Z266
inductive Pt where
 | p0 (a b:aC) (c:Int)
def pid:Pt->Nat
 | .p0 ..=>4
def cg:Pt->List V
 | .p0 a b c=>[.sl none 134 a,.sl none 134 b,.int .i64 c]
def bZ:Pt->List aW
 | .p0 a b c=>[]
def step (J:Pt->aH):Pt->aH
 | .p0 a b c=>(cond (decide (c<(a.length:Int))) (m2 c (a.length:Int) (m2 c (b.length:Int) (call (Z265.R ((og a (toNat c)),(og b (toNat c)))) fun v1=>(cond (!v1) aY (J (.p0 a b (i64.wrap (c+1)))))))) ep)
def start (J:Pt->aH)(x0 x1:aC):aH:=(cond ((x0.length:Int) != (x1.length:Int)) aY (J (.p0 x0 x1 0)))
def live:Nat->Live:=fun i=>match i with | 4=>[(0,none),(1,none),(5,none)] | _=>[]
def pats:List fY:=[.rd (.sl 134),.rd (.sl 134)]
def res:RP:=.one (.rd (.bool))
abbrev E:Env:={ T:=assoc kL,G:=dw [(91,Z265.aT)],nt:=27 }
def step_eq (I:cD)(p:Pt):cT E live I (pid p) (bO Tryz.f49) (fq (live (pid p)) (cg p) (bZ p)) (cE E Tryz.f49 res)=step (fun q=>I (pid q) (cg q) (bZ q)) p:=by
 cases p<;>kernel_rfl
def start_eq (I:cD)(ls:List L):eP E live I (bO Tryz.f49) (cV pats ls) (cE E Tryz.f49 res)=start (fun q=>I (pid q) (cg q) (bZ q)) (ls.headD .hole).aP ((aA 1 ls).headD .hole).aP:=by kernel_rfl
def run_eq (n:Nat)(ls:List L):eJ E live Tryz.f49 res n (cV pats ls)=start (iter step n) (ls.headD .hole).aP ((aA 1 ls).headD .hole).aP:=cy (id:=pid) (vs:=cg) (hs:=bZ) (step:=step) (start:=fun J=>start J (ls.headD .hole).aP ((aA 1 ls).headD .hole).aP) step_eq (fun I=>start_eq I ls) n
def md (a0 a1:List (List aa)):Bool:=dW a0 a1
def gd (a0 a1:List (List aa)):Prop:=True
def acc (ls:List L):aC×aC:=((ls.headD .hole).aP,((aA 1 ls).headD .hole).aP)
def R:(aC×aC)->Option Bool:=RR (p2 gd) (u2 md)
def aj {a0 a1}(h:gd a0 a1):R ((a0.map (dG aa.row)),(a1.map (dG aa.row)))=some (md a0 a1):=aN (a:=(a0,a1)) h
def aT:fQ:=CN pats res acc R
def bt (a0 a1:List (List aa))(hg:gd a0 a1)(h0:a0.length<=maxLen)(h1:a1.length<=maxLen):∃n,start (iter step n) (a0.map (dG aa.row)) (a1.map (dG aa.row))=ret ((md a0 a1):Bool):=by
 unfold start md
 simp only [List.length_map]
 refine iz (pt:=fun i=>Pt.p0 (a0.map (dG aa.row)) (a1.map (dG aa.row)) (i:Int)) (fun hl J i h h2=>?_) (fun J=>?_)
 ·simp only [step,MM,List.length_map,aL h,aL h2,aI,bf,cB,pR h,pR h2]
  rw [aG h h0]
  rw [call_eq (Z265.aj (a0:=a0[i]) (a1:=a1[i]) trivial),Z265.md]
  cases dW a0[i] a1[i]<;>rfl
 ·simp only [step,List.length_map,dU,bq]
def af:cw 49 aT:=VV (run:=fun n x=>start (iter step n) x.1 x.2) mix aE (.cons Z265.af .nil) Tryz.func49 (by kernel_rfl) run_eq (fun ls a hl e hg=>bt a.1 a.2 hg (by have h:(ls.headD .hole).aP.length<=maxLen:=hl.1.len;have e:a.1.map (dG aa.row)=(ls.headD .hole).aP:=(congrArg (fun x=>x.1) e.symm);rw [<-e] at h;simpa using h) (by have h:((aA 1 ls).headD .hole).aP.length<=maxLen:=hl.2.1.len;have e:a.2.map (dG aa.row)=((aA 1 ls).headD .hole).aP:=(congrArg (fun x=>x.2) e.symm);rw [<-e] at h;simpa using h))
end Z266
namespace Z267
def F (x0 x1:bH):aH:=(call (Z264.R (x0.aQ,x1.aQ)) fun v1=>(cond (!v1) aY (call (Z264.R (x0.fA,x1.fA)) fun v2=>(cond (!v2) aY (call (Z264.R (x0.fB,x1.fB)) fun v3=>(cond (!v3) aY ep))))))
def md (a0 a1:az):Bool:=dW a0 a1
def gd (a0 a1:az):Prop:=True
def R:=RR (p2 gd) (u2 md)
def aj {a0 a1}(h:gd a0 a1):R ((az.r a0),(az.r a1))=some (md a0 a1):=aN (a:=(a0,a1)) h
def aT:=CN [.agg sO,.agg sO] oB RT.dec R
def bt (a0)(a1)(hg:gd a0 a1):F (az.r a0) (az.r a1)=ret (md a0 a1):=by
 unfold md
 show (call (Z264.R ((aa.r a0.aQ),(aa.r a1.aQ))) fun v1=>(bif (!v1) then aY else (call (Z264.R ((aa.r a0.fA),(aa.r a1.fA))) fun v2=>(bif (!v2) then aY else (call (Z264.R ((aa.r a0.fB),(aa.r a1.fB))) fun v3=>(cond (!v3) aY ep))))))=_
 simp only [call_eq (Z264.aj (a0:=a0.aQ) (a1:=a1.aQ) trivial),Z264.md]
 simp only [call_eq (Z264.aj (a0:=a0.fA) (a1:=a1.fA) trivial),Z264.md]
 simp only [call_eq (Z264.aj (a0:=a0.fB) (a1:=a1.fB) trivial),Z264.md]
 try simp only [bne,eZ,bool_beq,eO]
 have e:dW a0 a1=(dW a0.aQ a1.aQ&&(dW a0.fA a1.fA&&(dW a0.fB a1.fB&&true))):=by
  cases a0;cases a1
  rw [Bool.eq_iff_iff]
  simp only [dc,Bool.and_eq_true,az.mk.injEq,and_true]
 rw [e]
 refine cM fun _=>?_
 refine cM fun _=>?_
 refine cM fun _=>?_
 rfl
def af:cw 92 aT:=W2 23 F mix aE bt (.cons Z264.af .nil) Tryz.func92
end Z267
namespace Z268
inductive Pt where
 | p0 (a b:aC) (c:Int)
def pid:Pt->Nat
 | .p0 ..=>4
def cg:Pt->List V
 | .p0 a b c=>[.sl none 143 a,.sl none 143 b,.int .i64 c]
def bZ:Pt->List aW
 | .p0 a b c=>[]
def step (J:Pt->aH):Pt->aH
 | .p0 a b c=>(cond (decide (c<(a.length:Int))) (m2 c (a.length:Int) (m2 c (b.length:Int) (call (Z267.R ((bH.at a (toNat c)),(bH.at b (toNat c)))) fun v1=>(cond (!v1) aY (J (.p0 a b (i64.wrap (c+1)))))))) ep)
def start (J:Pt->aH)(x0 x1:aC):aH:=(cond ((x0.length:Int) != (x1.length:Int)) aY (J (.p0 x0 x1 0)))
def live:Nat->Live:=fun i=>match i with | 4=>[(0,none),(1,none),(5,none)] | _=>[]
def pats:List fY:=[.rd (.sl 143),.rd (.sl 143)]
def res:RP:=.one (.rd (.bool))
abbrev E:Env:={ T:=assoc kL,G:=dw [(92,Z267.aT)],nt:=27 }
def step_eq (I:cD)(p:Pt):cT E live I (pid p) (bO Tryz.f50) (fq (live (pid p)) (cg p) (bZ p)) (cE E Tryz.f50 res)=step (fun q=>I (pid q) (cg q) (bZ q)) p:=by
 cases p<;>kernel_rfl
def start_eq (I:cD)(ls:List L):eP E live I (bO Tryz.f50) (cV pats ls) (cE E Tryz.f50 res)=start (fun q=>I (pid q) (cg q) (bZ q)) (ls.headD .hole).aP ((aA 1 ls).headD .hole).aP:=by kernel_rfl
def run_eq (n:Nat)(ls:List L):eJ E live Tryz.f50 res n (cV pats ls)=start (iter step n) (ls.headD .hole).aP ((aA 1 ls).headD .hole).aP:=cy (id:=pid) (vs:=cg) (hs:=bZ) (step:=step) (start:=fun J=>start J (ls.headD .hole).aP ((aA 1 ls).headD .hole).aP) step_eq (fun I=>start_eq I ls) n
def md (a0 a1:List az):Bool:=dW a0 a1
def gd (a0 a1:List az):Prop:=True
def acc (ls:List L):aC×aC:=((ls.headD .hole).aP,((aA 1 ls).headD .hole).aP)
def R:(aC×aC)->Option Bool:=RR (p2 gd) (u2 md)
def aj {a0 a1}(h:gd a0 a1):R ((a0.map az.row),(a1.map az.row))=some (md a0 a1):=aN (a:=(a0,a1)) h
def aT:fQ:=CN pats res acc R
def bt (a0 a1:List az)(hg:gd a0 a1)(h0:a0.length<=maxLen)(h1:a1.length<=maxLen):∃n,start (iter step n) (a0.map az.row) (a1.map az.row)=ret ((md a0 a1):Bool):=by
 unfold start md
 simp only [List.length_map]
 refine iz (pt:=fun i=>Pt.p0 (a0.map az.row) (a1.map az.row) (i:Int)) (fun hl J i h h2=>?_) (fun J=>?_)
 ·simp only [step,MM,List.length_map,aL h,aL h2,aI,bf,cB,az.dY h,az.dY h2]
  rw [aG h h0]
  rw [call_eq (Z267.aj (a0:=a0[i]) (a1:=a1[i]) trivial),Z267.md]
  cases dW a0[i] a1[i]<;>rfl
 ·simp only [step,List.length_map,dU,bq]
def af:cw 50 aT:=VV (run:=fun n x=>start (iter step n) x.1 x.2) mix aE (.cons Z267.af .nil) Tryz.func50 (by kernel_rfl) run_eq (fun ls a hl e hg=>bt a.1 a.2 hg (by have h:(ls.headD .hole).aP.length<=maxLen:=hl.1.len;have e:a.1.map az.row=(ls.headD .hole).aP:=(congrArg (fun x=>x.1) e.symm);rw [<-e] at h;simpa using h) (by have h:((aA 1 ls).headD .hole).aP.length<=maxLen:=hl.2.1.len;have e:a.2.map az.row=((aA 1 ls).headD .hole).aP:=(congrArg (fun x=>x.2) e.symm);rw [<-e] at h;simpa using h))
end Z268
namespace Z269
def F (x0 x1:bu):aH:=(call (Z266.R (x0.aJ,x1.aJ)) fun v1=>(cond (!v1) aY (call (Z268.R (x0.bp,x1.bp)) fun v2=>(cond (!v2) aY ep))))
def md (a0 a1:aq):Bool:=dW a0 a1
def gd (a0 a1:aq):Prop:=True
def R:=RR (p2 gd) (u2 md)
def aj {a0 a1}(h:gd a0 a1):R ((aq.r a0),(aq.r a1))=some (md a0 a1):=aN (a:=(a0,a1)) h
def aT:=CN [.agg rK,.agg rK] oB RT.dec R
def bt (a0)(a1)(hg:gd a0 a1):F (aq.r a0) (aq.r a1)=ret (md a0 a1):=by
 unfold md
 show (call (Z266.R ((a0.aJ.map (dG aa.row)),(a1.aJ.map (dG aa.row)))) fun v1=>(bif (!v1) then aY else (call (Z268.R ((a0.bp.map az.row),(a1.bp.map az.row))) fun v2=>(cond (!v2) aY ep))))=_
 simp only [call_eq (Z266.aj (a0:=a0.aJ) (a1:=a1.aJ) trivial),Z266.md]
 simp only [call_eq (Z268.aj (a0:=a0.bp) (a1:=a1.bp) trivial),Z268.md]
 try simp only [bne,eZ,bool_beq,eO]
 have e:dW a0 a1=(dW a0.aJ a1.aJ&&(dW a0.bp a1.bp&&true)):=by
  cases a0;cases a1
  rw [Bool.eq_iff_iff]
  simp only [dc,Bool.and_eq_true,aq.mk.injEq,and_true]
 rw [e]
 refine cM fun _=>?_
 refine cM fun _=>?_
 rfl
def af:cw 17 aT:=W2 17 F mix aE bt (.cons Z266.af (.cons Z268.af .nil)) Tryz.func17
end Z269
namespace Z270
inductive Pt where
 | p0 (a b:aC) (c:Int)
def pid:Pt->Nat
 | .p0 ..=>4
def cg:Pt->List V
 | .p0 a b c=>[.sl none 9 a,.sl none 9 b,.int .i64 c]
def bZ:Pt->List aW
 | .p0 a b c=>[]
def step (J:Pt->aH):Pt->aH
 | .p0 a b c=>(cond (decide (c<(a.length:Int))) (m2 c (a.length:Int) (m2 c (b.length:Int) (cond (!((pV a (toNat c))==(pV b (toNat c)))) aY (J (.p0 a b (i64.wrap (c+1))))))) ep)
def start (J:Pt->aH)(x0 x1:aC):aH:=(cond ((x0.length:Int) != (x1.length:Int)) aY (J (.p0 x0 x1 0)))
def live:Nat->Live:=fun i=>match i with | 4=>[(0,none),(1,none),(5,none)] | _=>[]
def pats:List fY:=[.rd (.sl 9),.rd (.sl 9)]
def res:RP:=.one (.rd (.bool))
abbrev E:Env:={ T:=assoc kL,G:=dw [],nt:=26 }
def step_eq (I:cD)(p:Pt):cT E live I (pid p) (bO Tryz.f20) (fq (live (pid p)) (cg p) (bZ p)) (cE E Tryz.f20 res)=step (fun q=>I (pid q) (cg q) (bZ q)) p:=by
 cases p<;>kernel_rfl
def start_eq (I:cD)(ls:List L):eP E live I (bO Tryz.f20) (cV pats ls) (cE E Tryz.f20 res)=start (fun q=>I (pid q) (cg q) (bZ q)) (ls.headD .hole).aP ((aA 1 ls).headD .hole).aP:=by kernel_rfl
def run_eq (n:Nat)(ls:List L):eJ E live Tryz.f20 res n (cV pats ls)=start (iter step n) (ls.headD .hole).aP ((aA 1 ls).headD .hole).aP:=cy (id:=pid) (vs:=cg) (hs:=bZ) (step:=step) (start:=fun J=>start J (ls.headD .hole).aP ((aA 1 ls).headD .hole).aP) step_eq (fun I=>start_eq I ls) n
def md (a0 a1:List aB):Bool:=dW a0 a1
def gd (a0 a1:List aB):Prop:=True
def acc (ls:List L):aC×aC:=((ls.headD .hole).aP,((aA 1 ls).headD .hole).aP)
def R:(aC×aC)->Option Bool:=RR (p2 gd) (u2 md)
def aj {a0 a1}(h:gd a0 a1):R ((a0.map cF),(a1.map cF))=some (md a0 a1):=aN (a:=(a0,a1)) h
def aT:fQ:=CN pats res acc R
def bt (a0 a1:List aB)(hg:gd a0 a1)(h0:a0.length<=maxLen)(h1:a1.length<=maxLen):∃n,start (iter step n) (a0.map cF) (a1.map cF)=ret ((md a0 a1):Bool):=by
 unfold start md
 simp only [List.length_map]
 refine iz (pt:=fun i=>Pt.p0 (a0.map cF) (a1.map cF) (i:Int)) (fun hl J i h h2=>?_) (fun J=>?_)
 ·simp only [step,MM,List.length_map,aL h,aL h2,aI,bf,cB,pP h,pP h2]
  rw [aG h h0]
  simp only [bne,eZ,bool_beq,eO]
  cases dW a0[i] a1[i]<;>rfl
 ·simp only [step,List.length_map,dU,bq]
def af:cw 20 aT:=VV (run:=fun n x=>start (iter step n) x.1 x.2) mix aE .nil Tryz.func20 (by kernel_rfl) run_eq (fun ls a hl e hg=>bt a.1 a.2 hg (by have h:(ls.headD .hole).aP.length<=maxLen:=hl.1.len;have e:a.1.map cF=(ls.headD .hole).aP:=(congrArg (fun x=>x.1) e.symm);rw [<-e] at h;simpa using h) (by have h:((aA 1 ls).headD .hole).aP.length<=maxLen:=hl.2.1.len;have e:a.2.map cF=((aA 1 ls).headD .hole).aP:=(congrArg (fun x=>x.2) e.symm);rw [<-e] at h;simpa using h))
end Z270
namespace Z271
def F (x0 x1:aU):aH:=(cond (!(x0.bk==x1.bk)) aY (cond (x0.bK != x1.bK) aY (cond (x0.bW != x1.bW) aY (call (Z270.R (x0.bI,x1.bI)) fun v1=>(cond (!v1) aY ep)))))
def md (a0 a1:ah):Bool:=dW a0 a1
def gd (a0 a1:ah):Prop:=True
def R:=RR (p2 gd) (u2 md)
def aj {a0 a1}(h:gd a0 a1):R ((ah.r a0),(ah.r a1))=some (md a0 a1):=aN (a:=(a0,a1)) h
def aT:=CN [.agg qX,.agg qX] oB RT.dec R
def bt (a0)(a1)(hg:gd a0 a1):F (ah.r a0) (ah.r a1)=ret (md a0 a1):=by
 unfold md
 show (bif (!(a0.bk==a1.bk)) then aY else (bif (a0.bK != a1.bK) then aY else (bif (a0.bW != a1.bW) then aY else (call (Z270.R ((a0.bI.map cF),(a1.bI.map cF))) fun v1=>(cond (!v1) aY ep)))))=_
 simp only [call_eq (Z270.aj (a0:=a0.bI) (a1:=a1.bI) trivial),Z270.md]
 try simp only [bne,eZ,bool_beq,eO]
 have e:dW a0 a1=(dW a0.bk a1.bk&&(dW a0.bK a1.bK&&(dW a0.bW a1.bW&&(dW a0.bI a1.bI&&true)))):=by
  cases a0;cases a1
  rw [Bool.eq_iff_iff]
  simp only [dc,Bool.and_eq_true,ah.mk.injEq,and_true]
 rw [e]
 refine cM fun _=>?_
 refine cM fun _=>?_
 refine cM fun _=>?_
 refine cM fun _=>?_
 rfl
def af:cw 72 aT:=W2 26 F mix aE bt (.cons Z270.af .nil) Tryz.func72
end Z271
namespace Z272
def F (x0 x1:cP):aH:=(call (Z269.R (x0.bX,x1.bX)) fun v1=>(cond (!v1) aY (cond (x0.gp != x1.gp) aY (call (Z271.R (x0.aV,x1.aV)) fun v2=>(cond (!v2) aY (call (Z259.R (x0.bG,x1.bG)) fun v3=>(cond (!v3) aY (cond (x0.eY != x1.eY) aY ep))))))))
def md (a0 a1:bA):Bool:=dW a0 a1
def gd (a0 a1:bA):Prop:=True
def R:=RR (p2 gd) (u2 md)
def aj {a0 a1}(h:gd a0 a1):R ((bA.r a0),(bA.r a1))=some (md a0 a1):=aN (a:=(a0,a1)) h
def aT:=CN [.agg Bl,.agg Bl] oB RT.dec R
def bt (a0)(a1)(hg:gd a0 a1):F (bA.r a0) (bA.r a1)=ret (md a0 a1):=by
 unfold md
 show (call (Z269.R ((aq.r a0.bX),(aq.r a1.bX))) fun v1=>(bif (!v1) then aY else (bif (a0.gp != a1.gp) then aY else (call (Z271.R ((ah.r a0.aV),(ah.r a1.aV))) fun v2=>(bif (!v2) then aY else (call (Z259.R ((a0.bG.map bh),(a1.bG.map bh))) fun v3=>(cond (!v3) aY (cond (a0.eY != a1.eY) aY ep))))))))=_
 simp only [call_eq (Z269.aj (a0:=a0.bX) (a1:=a1.bX) trivial),Z269.md]
 simp only [call_eq (Z271.aj (a0:=a0.aV) (a1:=a1.aV) trivial),Z271.md]
 simp only [call_eq (Z259.aj (a0:=a0.bG) (a1:=a1.bG) trivial),Z259.md]
 try simp only [bne,eZ,bool_beq,eO]
 have e:dW a0 a1=(dW a0.bX a1.bX&&(dW a0.gp a1.gp&&(dW a0.aV a1.aV&&(dW a0.bG a1.bG&&(dW a0.eY a1.eY&&true))))):=by
  cases a0;cases a1
  rw [Bool.eq_iff_iff]
  simp only [dc,Bool.and_eq_true,bA.mk.injEq,and_true]
 rw [e]
 refine cM fun _=>?_
 refine cM fun _=>?_
 refine cM fun _=>?_
 refine cM fun _=>?_
 refine cM fun _=>?_
 rfl
def af:cw 30 aT:=W2 33 F mix aE bt (.cons Z269.af (.cons Z271.af (.cons Z259.af .nil))) Tryz.func30
end Z272
namespace Z273
inductive Pt where
 | p0 (a b:aC) (c:Int)
def pid:Pt->Nat
 | .p0 ..=>4
def cg:Pt->List V
 | .p0 a b c=>[.sl none 57 a,.sl none 57 b,.int .i64 c]
def bZ:Pt->List aW
 | .p0 a b c=>[]
def step (J:Pt->aH):Pt->aH
 | .p0 a b c=>(cond (decide (c<(a.length:Int))) (m2 c (a.length:Int) (m2 c (b.length:Int) (call (Z271.R ((aU.at a (toNat c)),(aU.at b (toNat c)))) fun v1=>(cond (!v1) aY (J (.p0 a b (i64.wrap (c+1)))))))) ep)
def start (J:Pt->aH)(x0 x1:aC):aH:=(cond ((x0.length:Int) != (x1.length:Int)) aY (J (.p0 x0 x1 0)))
def live:Nat->Live:=fun i=>match i with | 4=>[(0,none),(1,none),(5,none)] | _=>[]
def pats:List fY:=[.rd (.sl 57),.rd (.sl 57)]
def res:RP:=.one (.rd (.bool))
abbrev E:Env:={ T:=assoc kL,G:=dw [(72,Z271.aT)],nt:=27 }
def step_eq (I:cD)(p:Pt):cT E live I (pid p) (bO Tryz.f152) (fq (live (pid p)) (cg p) (bZ p)) (cE E Tryz.f152 res)=step (fun q=>I (pid q) (cg q) (bZ q)) p:=by
 cases p<;>kernel_rfl
def start_eq (I:cD)(ls:List L):eP E live I (bO Tryz.f152) (cV pats ls) (cE E Tryz.f152 res)=start (fun q=>I (pid q) (cg q) (bZ q)) (ls.headD .hole).aP ((aA 1 ls).headD .hole).aP:=by kernel_rfl
def run_eq (n:Nat)(ls:List L):eJ E live Tryz.f152 res n (cV pats ls)=start (iter step n) (ls.headD .hole).aP ((aA 1 ls).headD .hole).aP:=cy (id:=pid) (vs:=cg) (hs:=bZ) (step:=step) (start:=fun J=>start J (ls.headD .hole).aP ((aA 1 ls).headD .hole).aP) step_eq (fun I=>start_eq I ls) n
def md (a0 a1:List ah):Bool:=dW a0 a1
def gd (a0 a1:List ah):Prop:=True
def acc (ls:List L):aC×aC:=((ls.headD .hole).aP,((aA 1 ls).headD .hole).aP)
def R:(aC×aC)->Option Bool:=RR (p2 gd) (u2 md)
def aj {a0 a1}(h:gd a0 a1):R ((a0.map ah.row),(a1.map ah.row))=some (md a0 a1):=aN (a:=(a0,a1)) h
def aT:fQ:=CN pats res acc R
def bt (a0 a1:List ah)(hg:gd a0 a1)(h0:a0.length<=maxLen)(h1:a1.length<=maxLen):∃n,start (iter step n) (a0.map ah.row) (a1.map ah.row)=ret ((md a0 a1):Bool):=by
 unfold start md
 simp only [List.length_map]
 refine iz (pt:=fun i=>Pt.p0 (a0.map ah.row) (a1.map ah.row) (i:Int)) (fun hl J i h h2=>?_) (fun J=>?_)
 ·simp only [step,MM,List.length_map,aL h,aL h2,aI,bf,cB,ah.dY h,ah.dY h2]
  rw [aG h h0]
  rw [call_eq (Z271.aj (a0:=a0[i]) (a1:=a1[i]) trivial),Z271.md]
  cases dW a0[i] a1[i]<;>rfl
 ·simp only [step,List.length_map,dU,bq]
def af:cw 152 aT:=VV (run:=fun n x=>start (iter step n) x.1 x.2) mix aE (.cons Z271.af .nil) Tryz.func152 (by kernel_rfl) run_eq (fun ls a hl e hg=>bt a.1 a.2 hg (by have h:(ls.headD .hole).aP.length<=maxLen:=hl.1.len;have e:a.1.map ah.row=(ls.headD .hole).aP:=(congrArg (fun x=>x.1) e.symm);rw [<-e] at h;simpa using h) (by have h:((aA 1 ls).headD .hole).aP.length<=maxLen:=hl.2.1.len;have e:a.2.map ah.row=((aA 1 ls).headD .hole).aP:=(congrArg (fun x=>x.2) e.symm);rw [<-e] at h;simpa using h))
end Z273
namespace Z274
def F (x0 x1:dL):aH:=(call (Z265.R (x0.aS,x1.aS)) fun v1=>(cond (!v1) aY (call (Z273.R (x0.bM,x1.bM)) fun v2=>(cond (!v2) aY ep))))
def md (a0 a1:aK):Bool:=dW a0 a1
def gd (a0 a1:aK):Prop:=True
def R:=RR (p2 gd) (u2 md)
def aj {a0 a1}(h:gd a0 a1):R ((aK.r a0),(aK.r a1))=some (md a0 a1):=aN (a:=(a0,a1)) h
def aT:=CN [.agg sG,.agg sG] oB RT.dec R
def bt (a0)(a1)(hg:gd a0 a1):F (aK.r a0) (aK.r a1)=ret (md a0 a1):=by
 unfold md
 show (call (Z265.R ((a0.aS.map aa.row),(a1.aS.map aa.row))) fun v1=>(bif (!v1) then aY else (call (Z273.R ((a0.bM.map ah.row),(a1.bM.map ah.row))) fun v2=>(cond (!v2) aY ep))))=_
 simp only [call_eq (Z265.aj (a0:=a0.aS) (a1:=a1.aS) trivial),Z265.md]
 simp only [call_eq (Z273.aj (a0:=a0.bM) (a1:=a1.bM) trivial),Z273.md]
 try simp only [bne,eZ,bool_beq,eO]
 have e:dW a0 a1=(dW a0.aS a1.aS&&(dW a0.bM a1.bM&&true)):=by
  cases a0;cases a1
  rw [Bool.eq_iff_iff]
  simp only [dc,Bool.and_eq_true,aK.mk.injEq,and_true]
 rw [e]
 refine cM fun _=>?_
 refine cM fun _=>?_
 rfl
def af:cw 120 aT:=W2 17 F mix aE bt (.cons Z265.af (.cons Z273.af .nil)) Tryz.func120
end Z274
namespace Z275
inductive Pt where
 | p0 (a b:aC) (c:Int)
def pid:Pt->Nat
 | .p0 ..=>4
def cg:Pt->List V
 | .p0 a b c=>[.sl none 155 a,.sl none 155 b,.int .i64 c]
def bZ:Pt->List aW
 | .p0 a b c=>[]
def step (J:Pt->aH):Pt->aH
 | .p0 a b c=>(cond (decide (c<(a.length:Int))) (m2 c (a.length:Int) (m2 c (b.length:Int) (call (Z274.R ((dL.at a (toNat c)),(dL.at b (toNat c)))) fun v1=>(cond (!v1) aY (J (.p0 a b (i64.wrap (c+1)))))))) ep)
def start (J:Pt->aH)(x0 x1:aC):aH:=(cond ((x0.length:Int) != (x1.length:Int)) aY (J (.p0 x0 x1 0)))
def live:Nat->Live:=fun i=>match i with | 4=>[(0,none),(1,none),(5,none)] | _=>[]
def pats:List fY:=[.rd (.sl 155),.rd (.sl 155)]
def res:RP:=.one (.rd (.bool))
abbrev E:Env:={ T:=assoc kL,G:=dw [(120,Z274.aT)],nt:=27 }
def step_eq (I:cD)(p:Pt):cT E live I (pid p) (bO Tryz.f93) (fq (live (pid p)) (cg p) (bZ p)) (cE E Tryz.f93 res)=step (fun q=>I (pid q) (cg q) (bZ q)) p:=by
 cases p<;>kernel_rfl
def start_eq (I:cD)(ls:List L):eP E live I (bO Tryz.f93) (cV pats ls) (cE E Tryz.f93 res)=start (fun q=>I (pid q) (cg q) (bZ q)) (ls.headD .hole).aP ((aA 1 ls).headD .hole).aP:=by kernel_rfl
def run_eq (n:Nat)(ls:List L):eJ E live Tryz.f93 res n (cV pats ls)=start (iter step n) (ls.headD .hole).aP ((aA 1 ls).headD .hole).aP:=cy (id:=pid) (vs:=cg) (hs:=bZ) (step:=step) (start:=fun J=>start J (ls.headD .hole).aP ((aA 1 ls).headD .hole).aP) step_eq (fun I=>start_eq I ls) n
def md (a0 a1:List aK):Bool:=dW a0 a1
def gd (a0 a1:List aK):Prop:=True
def acc (ls:List L):aC×aC:=((ls.headD .hole).aP,((aA 1 ls).headD .hole).aP)
def R:(aC×aC)->Option Bool:=RR (p2 gd) (u2 md)
def aj {a0 a1}(h:gd a0 a1):R ((a0.map aK.row),(a1.map aK.row))=some (md a0 a1):=aN (a:=(a0,a1)) h
def aT:fQ:=CN pats res acc R
def bt (a0 a1:List aK)(hg:gd a0 a1)(h0:a0.length<=maxLen)(h1:a1.length<=maxLen):∃n,start (iter step n) (a0.map aK.row) (a1.map aK.row)=ret ((md a0 a1):Bool):=by
 unfold start md
 simp only [List.length_map]
 refine iz (pt:=fun i=>Pt.p0 (a0.map aK.row) (a1.map aK.row) (i:Int)) (fun hl J i h h2=>?_) (fun J=>?_)
 ·simp only [step,MM,List.length_map,aL h,aL h2,aI,bf,cB,aK.dY h,aK.dY h2]
  rw [aG h h0]
  rw [call_eq (Z274.aj (a0:=a0[i]) (a1:=a1[i]) trivial),Z274.md]
  cases dW a0[i] a1[i]<;>rfl
 ·simp only [step,List.length_map,dU,bq]
def af:cw 93 aT:=VV (run:=fun n x=>start (iter step n) x.1 x.2) mix aE (.cons Z274.af .nil) Tryz.func93 (by kernel_rfl) run_eq (fun ls a hl e hg=>bt a.1 a.2 hg (by have h:(ls.headD .hole).aP.length<=maxLen:=hl.1.len;have e:a.1.map aK.row=(ls.headD .hole).aP:=(congrArg (fun x=>x.1) e.symm);rw [<-e] at h;simpa using h) (by have h:((aA 1 ls).headD .hole).aP.length<=maxLen:=hl.2.1.len;have e:a.2.map aK.row=((aA 1 ls).headD .hole).aP:=(congrArg (fun x=>x.2) e.symm);rw [<-e] at h;simpa using h))
end Z275
namespace Z276
def F (x0 x1:cL):aH:=(call (Z275.R (x0.bG,x1.bG)) fun v1=>(cond (!v1) aY (cond (x0.gI != x1.gI) aY ep)))
def md (a0 a1:av):Bool:=dW a0 a1
def gd (a0 a1:av):Prop:=True
def R:=RR (p2 gd) (u2 md)
def aj {a0 a1}(h:gd a0 a1):R ((av.r a0),(av.r a1))=some (md a0 a1):=aN (a:=(a0,a1)) h
def aT:=CN [.agg Ba,.agg Ba] oB RT.dec R
def bt (a0)(a1)(hg:gd a0 a1):F (av.r a0) (av.r a1)=ret (md a0 a1):=by
 unfold md
 show (call (Z275.R ((a0.bG.map aK.row),(a1.bG.map aK.row))) fun v1=>(cond (!v1) aY (cond (a0.gI != a1.gI) aY ep)))=_
 simp only [call_eq (Z275.aj (a0:=a0.bG) (a1:=a1.bG) trivial),Z275.md]
 try simp only [bne,eZ,bool_beq,eO]
 have e:dW a0 a1=(dW a0.bG a1.bG&&(dW a0.gI a1.gI&&true)):=by
  cases a0;cases a1
  rw [Bool.eq_iff_iff]
  simp only [dc,Bool.and_eq_true,av.mk.injEq,and_true]
 rw [e]
 refine cM fun _=>?_
 refine cM fun _=>?_
 rfl
def af:cw 51 aT:=W2 16 F mix aE bt (.cons Z275.af .nil) Tryz.func51
end Z276
namespace Z277
inductive Pt where
 | p0 (a b:aC) (c:Int)
def pid:Pt->Nat
 | .p0 ..=>4
def cg:Pt->List V
 | .p0 a b c=>[.sl none 88 a,.sl none 88 b,.int .i64 c]
def bZ:Pt->List aW
 | .p0 a b c=>[]
def step (J:Pt->aH):Pt->aH
 | .p0 a b c=>(cond (decide (c<(a.length:Int))) (m2 c (a.length:Int) (m2 c (b.length:Int) (call (Z276.R ((cL.at a (toNat c)),(cL.at b (toNat c)))) fun v1=>(cond (!v1) aY (J (.p0 a b (i64.wrap (c+1)))))))) ep)
def start (J:Pt->aH)(x0 x1:aC):aH:=(cond ((x0.length:Int) != (x1.length:Int)) aY (J (.p0 x0 x1 0)))
def live:Nat->Live:=fun i=>match i with | 4=>[(0,none),(1,none),(5,none)] | _=>[]
def pats:List fY:=[.rd (.sl 88),.rd (.sl 88)]
def res:RP:=.one (.rd (.bool))
abbrev E:Env:={ T:=assoc kL,G:=dw [(51,Z276.aT)],nt:=27 }
def step_eq (I:cD)(p:Pt):cT E live I (pid p) (bO Tryz.f18) (fq (live (pid p)) (cg p) (bZ p)) (cE E Tryz.f18 res)=step (fun q=>I (pid q) (cg q) (bZ q)) p:=by
 cases p<;>kernel_rfl
def start_eq (I:cD)(ls:List L):eP E live I (bO Tryz.f18) (cV pats ls) (cE E Tryz.f18 res)=start (fun q=>I (pid q) (cg q) (bZ q)) (ls.headD .hole).aP ((aA 1 ls).headD .hole).aP:=by kernel_rfl
def run_eq (n:Nat)(ls:List L):eJ E live Tryz.f18 res n (cV pats ls)=start (iter step n) (ls.headD .hole).aP ((aA 1 ls).headD .hole).aP:=cy (id:=pid) (vs:=cg) (hs:=bZ) (step:=step) (start:=fun J=>start J (ls.headD .hole).aP ((aA 1 ls).headD .hole).aP) step_eq (fun I=>start_eq I ls) n
def md (a0 a1:List av):Bool:=dW a0 a1
def gd (a0 a1:List av):Prop:=True
def acc (ls:List L):aC×aC:=((ls.headD .hole).aP,((aA 1 ls).headD .hole).aP)
def R:(aC×aC)->Option Bool:=RR (p2 gd) (u2 md)
def aj {a0 a1}(h:gd a0 a1):R ((a0.map av.row),(a1.map av.row))=some (md a0 a1):=aN (a:=(a0,a1)) h
def aT:fQ:=CN pats res acc R
def bt (a0 a1:List av)(hg:gd a0 a1)(h0:a0.length<=maxLen)(h1:a1.length<=maxLen):∃n,start (iter step n) (a0.map av.row) (a1.map av.row)=ret ((md a0 a1):Bool):=by
 unfold start md
 simp only [List.length_map]
 refine iz (pt:=fun i=>Pt.p0 (a0.map av.row) (a1.map av.row) (i:Int)) (fun hl J i h h2=>?_) (fun J=>?_)
 ·simp only [step,MM,List.length_map,aL h,aL h2,aI,bf,cB,av.dY h,av.dY h2]
  rw [aG h h0]
  rw [call_eq (Z276.aj (a0:=a0[i]) (a1:=a1[i]) trivial),Z276.md]
  cases dW a0[i] a1[i]<;>rfl
 ·simp only [step,List.length_map,dU,bq]
def af:cw 18 aT:=VV (run:=fun n x=>start (iter step n) x.1 x.2) mix aE (.cons Z276.af .nil) Tryz.func18 (by kernel_rfl) run_eq (fun ls a hl e hg=>bt a.1 a.2 hg (by have h:(ls.headD .hole).aP.length<=maxLen:=hl.1.len;have e:a.1.map av.row=(ls.headD .hole).aP:=(congrArg (fun x=>x.1) e.symm);rw [<-e] at h;simpa using h) (by have h:((aA 1 ls).headD .hole).aP.length<=maxLen:=hl.2.1.len;have e:a.2.map av.row=((aA 1 ls).headD .hole).aP:=(congrArg (fun x=>x.2) e.symm);rw [<-e] at h;simpa using h))
end Z277
namespace Z278
def F (x0 x1:bF):aH:=(cond (!(x0.fName==x1.fName)) aY (cond (x0.bC != x1.bC) aY ep))
def md (a0 a1:bF):Bool:=dW a0 a1
def gd (a0 a1:bF):Prop:=True
def R:=RR (p2 gd) (u2 md)
def aj {a0 a1}(h:gd a0 a1):R (a0,a1)=some (md a0 a1):=aN (a:=(a0,a1)) h
def aT:=CN [.agg AM,.agg AM] oB RT.dec R
def bt (a0)(a1)(hg:gd a0 a1):F a0 a1=ret (md a0 a1):=by
 unfold md
 show (cond (!(a0.fName==a1.fName)) aY (cond (a0.bC != a1.bC) aY ep))=_
 try simp only [bne,eZ,bool_beq,eO]
 have e:dW a0 a1=(dW a0.fName a1.fName&&(dW a0.bC a1.bC&&true)):=by
  cases a0;cases a1
  rw [Bool.eq_iff_iff]
  simp only [dc,Bool.and_eq_true,bF.mk.injEq,and_true]
 rw [e]
 refine cM fun _=>?_
 refine cM fun _=>?_
 rfl
def af:cw 80 aT:=W2 15 F mix aE bt .nil Tryz.func80
end Z278
namespace Z279
inductive Pt where
 | p0 (a b:aC) (c:Int)
def pid:Pt->Nat
 | .p0 ..=>4
def cg:Pt->List V
 | .p0 a b c=>[.sl none 118 a,.sl none 118 b,.int .i64 c]
def bZ:Pt->List aW
 | .p0 a b c=>[]
def step (J:Pt->aH):Pt->aH
 | .p0 a b c=>(cond (decide (c<(a.length:Int))) (m2 c (a.length:Int) (m2 c (b.length:Int) (call (Z278.R ((bF.at a (toNat c)),(bF.at b (toNat c)))) fun v1=>(cond (!v1) aY (J (.p0 a b (i64.wrap (c+1)))))))) ep)
def start (J:Pt->aH)(x0 x1:aC):aH:=(cond ((x0.length:Int) != (x1.length:Int)) aY (J (.p0 x0 x1 0)))
def live:Nat->Live:=fun i=>match i with | 4=>[(0,none),(1,none),(5,none)] | _=>[]
def pats:List fY:=[.rd (.sl 118),.rd (.sl 118)]
def res:RP:=.one (.rd (.bool))
abbrev E:Env:={ T:=assoc kL,G:=dw [(80,Z278.aT)],nt:=27 }
def step_eq (I:cD)(p:Pt):cT E live I (pid p) (bO Tryz.f37) (fq (live (pid p)) (cg p) (bZ p)) (cE E Tryz.f37 res)=step (fun q=>I (pid q) (cg q) (bZ q)) p:=by
 cases p<;>kernel_rfl
def start_eq (I:cD)(ls:List L):eP E live I (bO Tryz.f37) (cV pats ls) (cE E Tryz.f37 res)=start (fun q=>I (pid q) (cg q) (bZ q)) (ls.headD .hole).aP ((aA 1 ls).headD .hole).aP:=by kernel_rfl
def run_eq (n:Nat)(ls:List L):eJ E live Tryz.f37 res n (cV pats ls)=start (iter step n) (ls.headD .hole).aP ((aA 1 ls).headD .hole).aP:=cy (id:=pid) (vs:=cg) (hs:=bZ) (step:=step) (start:=fun J=>start J (ls.headD .hole).aP ((aA 1 ls).headD .hole).aP) step_eq (fun I=>start_eq I ls) n
def md (a0 a1:List bF):Bool:=dW a0 a1
def gd (a0 a1:List bF):Prop:=True
def acc (ls:List L):aC×aC:=((ls.headD .hole).aP,((aA 1 ls).headD .hole).aP)
def R:(aC×aC)->Option Bool:=RR (p2 gd) (u2 md)
def aj {a0 a1}(h:gd a0 a1):R ((a0.map bF.row),(a1.map bF.row))=some (md a0 a1):=aN (a:=(a0,a1)) h
def aT:fQ:=CN pats res acc R
def bt (a0 a1:List bF)(hg:gd a0 a1)(h0:a0.length<=maxLen)(h1:a1.length<=maxLen):∃n,start (iter step n) (a0.map bF.row) (a1.map bF.row)=ret ((md a0 a1):Bool):=by
 unfold start md
 simp only [List.length_map]
 refine iz (pt:=fun i=>Pt.p0 (a0.map bF.row) (a1.map bF.row) (i:Int)) (fun hl J i h h2=>?_) (fun J=>?_)
 ·simp only [step,MM,List.length_map,aL h,aL h2,aI,bf,cB,bF.dY h,bF.dY h2]
  rw [aG h h0]
  rw [call_eq (Z278.aj (a0:=a0[i]) (a1:=a1[i]) trivial),Z278.md]
  cases dW a0[i] a1[i]<;>rfl
 ·simp only [step,List.length_map,dU,bq]
def af:cw 37 aT:=VV (run:=fun n x=>start (iter step n) x.1 x.2) mix aE (.cons Z278.af .nil) Tryz.func37 (by kernel_rfl) run_eq (fun ls a hl e hg=>bt a.1 a.2 hg (by have h:(ls.headD .hole).aP.length<=maxLen:=hl.1.len;have e:a.1.map bF.row=(ls.headD .hole).aP:=(congrArg (fun x=>x.1) e.symm);rw [<-e] at h;simpa using h) (by have h:((aA 1 ls).headD .hole).aP.length<=maxLen:=hl.2.1.len;have e:a.2.map bF.row=((aA 1 ls).headD .hole).aP:=(congrArg (fun x=>x.2) e.symm);rw [<-e] at h;simpa using h))
end Z279
namespace Z280
set_option maxHeartbeats 8000000
inductive Pt where
 | p0 (a b:Int) (c:aC)
def pid:Pt->Nat
 | .p0 ..=>2
def cg:Pt->List V
 | .p0 a b c=>[.own 0,.int .i64 a,.int .i64 b]
def bZ:Pt->List aW
 | .p0 a b c=>[.row 3 c]
def step (J:Pt->aH):Pt->aH
 | .p0 a b c=>(cond (decide (b<(c.length:Int))) (m2 b (c.length:Int) (J (.p0 (i64.wrap (a+1)) (i64.wrap (b+1)) (List.set c (toNat b) [L.int a])))) (ret ((a,c):Int×aC)))
def start (J:Pt->aH)(x0:aC)(x1:Int):aH:=J (.p0 x1 0 x0)
def live:Nat->Live:=fun i=>match i with | 2=>[(0,none),(1,none),(5,none)] | _=>[]
def pats:List (Bool×List K):=[(false,[.sl 3]),(false,[aD])]
def res:RP:=.nH [3]
abbrev E:Env:={ T:=assoc kL,G:=dw [],nt:=19,M:=fP [],np:=1,mt:=true }
def step_eq (I:cD)(p:Pt):cT E live I (pid p) (bO Tryz.f57) (fq (live (pid p)) (cg p) (bZ p)) (cE E Tryz.f57 res)=step (fun q=>I (pid q) (cg q) (bZ q)) p:=by
 cases p<;>kernel_rfl
def start_eq (I:cD)(ls:List L):eP E live I (bO Tryz.f57) (gB pats ls) (cE E Tryz.f57 res)=start (fun q=>I (pid q) (cg q) (bZ q)) (ls.headD .hole).aP ((aA 1 ls).headD .hole).toInt:=by kernel_rfl
def run_eq (n:Nat)(ls:List L):eJ E live Tryz.f57 res n (gB pats ls)=start (iter step n) (ls.headD .hole).aP ((aA 1 ls).headD .hole).toInt:=cy (id:=pid) (vs:=cg) (hs:=bZ) (step:=step) (start:=fun J=>start J (ls.headD .hole).aP ((aA 1 ls).headD .hole).toInt) step_eq (fun I=>start_eq I ls) n
def el (x k:Int):Int×Int:=((i64.wrap (k+1)),(k))
def gZ (x k:Int)(hk:eB k):eB (el x k).1:=(cA _)
def cnt (x:Int):Nat:=1
def sum (a:List Int):Nat:=(a.map cnt).sum
def md (a0:List Int)(a1:Int):Int×List Int:=iW el a0 a1
def gd (a0:List Int)(a1:Int):Prop:=eB a1
def acc (ls:List L):aC×Int:=((ls.headD .hole).aP,((aA 1 ls).headD .hole).toInt)
def R:(aC×Int)->Option (Int×aC):=RR (p2 gd) (u2 md)
def aj {a0 a1}(h:gd a0 a1):R ((a0.map bh),a1)=some ((md a0 a1).1,((md a0 a1).2.map bh)):=aN (a:=(a0,a1)) h
def aT:gD:=MN pats acc R
def bt (a0:List Int)(a1:Int)(hg:gd a0 a1)(h0:a0.length<=maxLen):∃n,start (iter step n) (a0.map bh) a1=ret (((md a0 a1).1,((md a0 a1).2.map bh)):Int×aC):=by
 unfold gd at hg
 show ∃n,iter step n (Pt.p0 a1 0 (a0.map bh))=_
 unfold md
 refine gf (el:=el) (xs:=a0) 0 eB gZ (pt:=fun i k c=>Pt.p0 k (i:Int) (c.map bh)) (out:=fun b=>ret (b.1,b.2.map bh)) (fun J i k c hi hc hk=>?_) (fun J k c hc=>?_) hg
 ·have hm:c.length<=maxLen:=hc ▸ h0
  simp only [step,SS]
  refine ak (aL hi) ?_
  refine ak aI ?_
  refine ak (aL hi) ?_
  rw [aG hi hm]
  exact congrArg (fun q=>J (Pt.p0 (el (c.getD i 0) k).1 ((i+1:Nat):Int) q)) (List.map_set (f:=bh) (l:=c) (i:=i) (a:=(el (c.getD i 0) k).2)).symm
 ·simp only [step,SS]
  refine cN (by apply decide_eq_false;omega) ?_
  rfl
def af:eR Tryz.prog Ev 57 aT:=MV (run:=fun n x=>start (iter step n) x.1 x.2) mix aE .nil .nil Tryz.func57 (by kernel_rfl) run_eq (fun ls a hl e hg=>bt a.1 a.2 hg (by have h:(ls.headD .hole).aP.length<=maxLen:=(hl _ _ (.head _)).len;have e:a.1.map bh=(ls.headD .hole).aP:=(congrArg (fun x=>x.1) e.symm);rw [<-e] at h;simpa using h))
def iq {a0:List Int}{a1:Int}(h:eB a1):eB (md a0 a1).1:=jf gZ h
def pE (x k:Int)(h0:0<=k)(hb:k+(cnt x:Int)<=4611686018427387904):(el x k).1=k+cnt x:=by
 simp only [cnt,Int.natCast_add] at hb ⊢
 simp (disch:=omega) only [el,wi]
 all_goals first | done | omega
def kk (a0:List Int)(a1:Int)(h0:0<=a1)(hb:a1+(sum a0:Int)<=4611686018427387904):(md a0 a1).1=a1+sum a0:=gx pE a0 a1 h0 hb
def sz (a:List Int):sum a<=60*(dO (fun y:Int=>0) a):=jo (fun x=>by
 try simp only [cnt] at *
 omega) a
end Z280
namespace Z281
set_option maxHeartbeats 8000000
inductive Pt where
 | p0 (a b:Int) (c:aC)
def pid:Pt->Nat
 | .p0 ..=>2
def cg:Pt->List V
 | .p0 a b c=>[.own 0,.int .i64 a,.int .i64 b]
def bZ:Pt->List aW
 | .p0 a b c=>[.row 190 c]
def step (J:Pt->aH):Pt->aH
 | .p0 a b c=>(cond (decide (b<(c.length:Int))) (m2 b (c.length:Int) (m2 b (c.length:Int) (ck (fu b) (J (.p0 (i64.wrap ((i64.wrap (a+1))+1)) (i64.wrap (b+1)) (List.set c (toNat b) (bn.enc (⟨a,(i64.wrap (a+1))⟩:bn)))))))) (ret ((a,c):Int×aC)))
def start (J:Pt->aH)(x0:aC)(x1:Int):aH:=J (.p0 x1 0 x0)
def live:Nat->Live:=fun i=>match i with | 2=>[(0,none),(1,none),(5,none)] | _=>[]
def pats:List (Bool×List K):=[(false,[.sl 190]),(false,[aD])]
def res:RP:=.nH [190]
abbrev E:Env:={ T:=assoc kL,G:=dw [],nt:=27,M:=fP [],np:=1,mt:=true }
def step_eq (I:cD)(p:Pt):cT E live I (pid p) (bO Tryz.f95) (fq (live (pid p)) (cg p) (bZ p)) (cE E Tryz.f95 res)=step (fun q=>I (pid q) (cg q) (bZ q)) p:=by
 cases p<;>kernel_rfl
def start_eq (I:cD)(ls:List L):eP E live I (bO Tryz.f95) (gB pats ls) (cE E Tryz.f95 res)=start (fun q=>I (pid q) (cg q) (bZ q)) (ls.headD .hole).aP ((aA 1 ls).headD .hole).toInt:=by kernel_rfl
def run_eq (n:Nat)(ls:List L):eJ E live Tryz.f95 res n (gB pats ls)=start (iter step n) (ls.headD .hole).aP ((aA 1 ls).headD .hole).toInt:=cy (id:=pid) (vs:=cg) (hs:=bZ) (step:=step) (start:=fun J=>start J (ls.headD .hole).aP ((aA 1 ls).headD .hole).toInt) step_eq (fun I=>start_eq I ls) n
def el (x:bn)(k:Int):Int×bn:=((i64.wrap ((i64.wrap (k+1))+1)),(⟨k,(i64.wrap (k+1))⟩:bn))
def gZ (x:bn)(k:Int)(hk:eB k):eB (el x k).1:=(cA _)
def cnt (x:bn):Nat:=2
def sum (a:List bn):Nat:=(a.map cnt).sum
def md (a0:List bn)(a1:Int):Int×List bn:=iW el a0 a1
def gd (a0:List bn)(a1:Int):Prop:=eB a1
def acc (ls:List L):aC×Int:=((ls.headD .hole).aP,((aA 1 ls).headD .hole).toInt)
def R:(aC×Int)->Option (Int×aC):=RR (p2 gd) (u2 md)
def aj {a0 a1}(h:gd a0 a1):R ((a0.map bn.row),a1)=some ((md a0 a1).1,((md a0 a1).2.map bn.row)):=aN (a:=(a0,a1)) h
def aT:gD:=MN pats acc R
def bt (a0:List bn)(a1:Int)(hg:gd a0 a1)(h0:a0.length<=maxLen):∃n,start (iter step n) (a0.map bn.row) a1=ret (((md a0 a1).1,((md a0 a1).2.map bn.row)):Int×aC):=by
 unfold gd at hg
 show ∃n,iter step n (Pt.p0 a1 0 (a0.map bn.row))=_
 unfold md
 refine gf (el:=el) (xs:=a0) bn.zero eB gZ (pt:=fun i k c=>Pt.p0 k (i:Int) (c.map bn.row)) (out:=fun b=>ret (b.1,b.2.map bn.row)) (fun J i k c hi hc hk=>?_) (fun J k c hc=>?_) hg
 ·have hm:c.length<=maxLen:=hc ▸ h0
  simp only [step,SS]
  refine ak (aL hi) ?_
  repeat first | refine ak aI ?_ | refine ak (aL hi) ?_ | refine ak (gO _) ?_
  rw [aG hi hm]
  exact congrArg (fun q=>J (Pt.p0 (el (c.getD i bn.zero) k).1 ((i+1:Nat):Int) q)) (List.map_set (f:=bn.row) (l:=c) (i:=i) (a:=(el (c.getD i bn.zero) k).2)).symm
 ·simp only [step,SS]
  refine cN (by apply decide_eq_false;omega) ?_
  rfl
def af:eR Tryz.prog Ev 95 aT:=MV (run:=fun n x=>start (iter step n) x.1 x.2) mix aE .nil .nil Tryz.func95 (by kernel_rfl) run_eq (fun ls a hl e hg=>bt a.1 a.2 hg (by have h:(ls.headD .hole).aP.length<=maxLen:=(hl _ _ (.head _)).len;have e:a.1.map bn.row=(ls.headD .hole).aP:=(congrArg (fun x=>x.1) e.symm);rw [<-e] at h;simpa using h))
def iq {a0:List bn}{a1:Int}(h:eB a1):eB (md a0 a1).1:=jf gZ h
def pE (x:bn)(k:Int)(h0:0<=k)(hb:k+(cnt x:Int)<=4611686018427387904):(el x k).1=k+cnt x:=by
 simp only [cnt,Int.natCast_add] at hb ⊢
 simp (disch:=omega) only [el,wi]
 all_goals first | done | omega
def kk (a0:List bn)(a1:Int)(h0:0<=a1)(hb:a1+(sum a0:Int)<=4611686018427387904):(md a0 a1).1=a1+sum a0:=gx pE a0 a1 h0 hb
def sz (a:List bn):sum a<=60*(dO (fun y:bn=>bn.size y) a):=jo (fun x=>by
 try simp only [cnt,bn.size] at *
 omega) a
end Z281
namespace Z282
set_option maxHeartbeats 8000000
inductive Pt where
 | p0 (a b:Int) (c:aC)
def pid:Pt->Nat
 | .p0 ..=>2
def cg:Pt->List V
 | .p0 a b c=>[.own 0,.int .i64 a,.int .i64 b]
def bZ:Pt->List aW
 | .p0 a b c=>[.row 141 c]
def step (J:Pt->aH):Pt->aH
 | .p0 a b c=>(cond (decide (b<(c.length:Int))) (m2 b (c.length:Int) (m2 b (c.length:Int) (ck (fu b) (m2 b (c.length:Int) (ck (fu b) (m2 b (c.length:Int) (ck (fu b) (m2 b (c.length:Int) (ck (fu b) (m2 b (c.length:Int) (ck (fu b) (m2 b (c.length:Int) (ck (fu b) (m2 b (c.length:Int) (ck (fu b) (m2 b (c.length:Int) (ck (fu b) (ck (fu b) (call (Z280.R ((aR.at c (toNat b)).an.bQ.aX,(i64.wrap ((i64.wrap ((i64.wrap ((i64.wrap ((i64.wrap ((i64.wrap ((i64.wrap ((i64.wrap (a+1))+1))+1))+1))+1))+1))+1))+1)))) fun v1=>(m2 b (c.length:Int) (ck (fu b) (m2 b (c.length:Int) (ck (fu b) (ck (fu b) (call (Z280.R ((aR.at c (toNat b)).an.bB.aX,(i64.wrap (v1.1+1)))) fun v2=>(m2 b (c.length:Int) (ck (fu b) (m2 b (c.length:Int) (ck (fu b) (m2 b (c.length:Int) (ck (fu b) (ck (fu b) (call (Z280.R ((aR.at c (toNat b)).an.bw.aX,(i64.wrap ((i64.wrap (v2.1+1))+1)))) fun v3=>(m2 b (c.length:Int) (ck (fu b) (m2 b (c.length:Int) (ck (fu b) (m2 b (c.length:Int) (ck (fu b) (ck (fu b) (call (Z281.R ((aR.at c (toNat b)).cm,(i64.wrap ((i64.wrap (v3.1+1))+1)))) fun v4=>J (.p0 v4.1 (i64.wrap (b+1)) (List.set c (toNat b) (aR.enc (⟨(⟨a,(i64.wrap (a+1)),(i64.wrap ((i64.wrap (a+1))+1)),(i64.wrap ((i64.wrap ((i64.wrap (a+1))+1))+1)),(i64.wrap ((i64.wrap ((i64.wrap ((i64.wrap (a+1))+1))+1))+1)),(i64.wrap ((i64.wrap ((i64.wrap ((i64.wrap ((i64.wrap (a+1))+1))+1))+1))+1)),(i64.wrap ((i64.wrap ((i64.wrap ((i64.wrap ((i64.wrap ((i64.wrap (a+1))+1))+1))+1))+1))+1)),(i64.wrap ((i64.wrap ((i64.wrap ((i64.wrap ((i64.wrap ((i64.wrap ((i64.wrap (a+1))+1))+1))+1))+1))+1))+1)),(⟨v1.2,v1.1⟩:bD),(⟨v2.2,v2.1⟩:bD),(i64.wrap (v2.1+1)),(⟨v3.2,v3.1⟩:bD),((Int.tmod (i64.wrap (v3.1+1)) 3)==0)⟩:bY),v4.2⟩:aR))))))))))))))))))))))))))))))))))))))))))))) (ret ((a,c):Int×aC)))
def start (J:Pt->aH)(x0:aC)(x1:Int):aH:=J (.p0 x1 0 x0)
def live:Nat->Live:=fun i=>match i with | 2=>[(0,none),(1,none),(5,none)] | _=>[]
def pats:List (Bool×List K):=[(false,[.sl 141]),(false,[aD])]
def res:RP:=.nH [141]
abbrev E:Env:={ T:=assoc kL,G:=dw [],nt:=156,M:=fP [(57,Z280.aT),(95,Z281.aT)],np:=1,mt:=true }
def step_eq (I:cD)(p:Pt):cT E live I (pid p) (bO Tryz.f94) (fq (live (pid p)) (cg p) (bZ p)) (cE E Tryz.f94 res)=step (fun q=>I (pid q) (cg q) (bZ q)) p:=by
 cases p<;>kernel_rfl
def start_eq (I:cD)(ls:List L):eP E live I (bO Tryz.f94) (gB pats ls) (cE E Tryz.f94 res)=start (fun q=>I (pid q) (cg q) (bZ q)) (ls.headD .hole).aP ((aA 1 ls).headD .hole).toInt:=by kernel_rfl
def run_eq (n:Nat)(ls:List L):eJ E live Tryz.f94 res n (gB pats ls)=start (iter step n) (ls.headD .hole).aP ((aA 1 ls).headD .hole).toInt:=cy (id:=pid) (vs:=cg) (hs:=bZ) (step:=step) (start:=fun J=>start J (ls.headD .hole).aP ((aA 1 ls).headD .hole).toInt) step_eq (fun I=>start_eq I ls) n
def e1 (x:aa)(k:Int):=Z280.md (((x.an).bQ).aX) (i64.wrap ((i64.wrap ((i64.wrap ((i64.wrap ((i64.wrap ((i64.wrap ((i64.wrap ((i64.wrap (k+1))+1))+1))+1))+1))+1))+1))+1))
def e2 (x:aa)(k:Int):=Z280.md (((x.an).bB).aX) (i64.wrap ((e1 x k).1+1))
def e3 (x:aa)(k:Int):=Z280.md (((x.an).bw).aX) (i64.wrap ((i64.wrap ((e2 x k).1+1))+1))
def e4 (x:aa)(k:Int):=Z281.md x.cm (i64.wrap ((i64.wrap ((e3 x k).1+1))+1))
def el (x:aa)(k:Int):Int×aa:=((e4 x k).1,(⟨(⟨k,(i64.wrap (k+1)),(i64.wrap ((i64.wrap (k+1))+1)),(i64.wrap ((i64.wrap ((i64.wrap (k+1))+1))+1)),(i64.wrap ((i64.wrap ((i64.wrap ((i64.wrap (k+1))+1))+1))+1)),(i64.wrap ((i64.wrap ((i64.wrap ((i64.wrap ((i64.wrap (k+1))+1))+1))+1))+1)),(i64.wrap ((i64.wrap ((i64.wrap ((i64.wrap ((i64.wrap ((i64.wrap (k+1))+1))+1))+1))+1))+1)),(i64.wrap ((i64.wrap ((i64.wrap ((i64.wrap ((i64.wrap ((i64.wrap ((i64.wrap (k+1))+1))+1))+1))+1))+1))+1)),(⟨(e1 x k).2,(e1 x k).1⟩:aO),(⟨(e2 x k).2,(e2 x k).1⟩:aO),(i64.wrap ((e2 x k).1+1)),(⟨(e3 x k).2,(e3 x k).1⟩:aO),((Int.tmod (i64.wrap ((e3 x k).1+1)) 3)==0)⟩:aF),(e4 x k).2⟩:aa))
def gZ (x:aa)(k:Int)(hk:eB k):eB (el x k).1:=(Z281.iq (cA _))
def cnt (x:aa):Nat:=13+Z280.sum (((x.an).bQ).aX)+Z280.sum (((x.an).bB).aX)+Z280.sum (((x.an).bw).aX)+Z281.sum x.cm
def sum (a:List aa):Nat:=(a.map cnt).sum
def md (a0:List aa)(a1:Int):Int×List aa:=iW el a0 a1
def gd (a0:List aa)(a1:Int):Prop:=eB a1
def acc (ls:List L):aC×Int:=((ls.headD .hole).aP,((aA 1 ls).headD .hole).toInt)
def R:(aC×Int)->Option (Int×aC):=RR (p2 gd) (u2 md)
def aj {a0 a1}(h:gd a0 a1):R ((a0.map aa.row),a1)=some ((md a0 a1).1,((md a0 a1).2.map aa.row)):=aN (a:=(a0,a1)) h
def aT:gD:=MN pats acc R
def bt (a0:List aa)(a1:Int)(hg:gd a0 a1)(h0:a0.length<=maxLen):∃n,start (iter step n) (a0.map aa.row) a1=ret (((md a0 a1).1,((md a0 a1).2.map aa.row)):Int×aC):=by
 unfold gd at hg
 show ∃n,iter step n (Pt.p0 a1 0 (a0.map aa.row))=_
 unfold md
 refine gf (el:=el) (xs:=a0) aa.zero eB gZ (pt:=fun i k c=>Pt.p0 k (i:Int) (c.map aa.row)) (out:=fun b=>ret (b.1,b.2.map aa.row)) (fun J i k c hi hc hk=>?_) (fun J k c hc=>?_) hg
 ·have hm:c.length<=maxLen:=hc ▸ h0
  simp only [step,SS]
  refine ak (aL hi) ?_
  repeat first | refine ak aI ?_ | refine ak (aL hi) ?_ | refine ak (gO _) ?_
  refine aZ ((e1 (c.getD i aa.zero) k).1,((e1 (c.getD i aa.zero) k).2.map bh)) (Z280.aj (a0:=(((c.getD i aa.zero).an).bQ).aX) (a1:=i64.wrap ((i64.wrap ((i64.wrap ((i64.wrap ((i64.wrap ((i64.wrap ((i64.wrap ((i64.wrap (k+1))+1))+1))+1))+1))+1))+1))+1)) (cA _)) ?_
  repeat first | refine ak aI ?_ | refine ak (aL hi) ?_ | refine ak (gO _) ?_
  refine aZ ((e2 (c.getD i aa.zero) k).1,((e2 (c.getD i aa.zero) k).2.map bh)) (Z280.aj (a0:=(((c.getD i aa.zero).an).bB).aX) (a1:=i64.wrap ((e1 (c.getD i aa.zero) k).1+1)) (cA _)) ?_
  repeat first | refine ak aI ?_ | refine ak (aL hi) ?_ | refine ak (gO _) ?_
  refine aZ ((e3 (c.getD i aa.zero) k).1,((e3 (c.getD i aa.zero) k).2.map bh)) (Z280.aj (a0:=(((c.getD i aa.zero).an).bw).aX) (a1:=i64.wrap ((i64.wrap ((e2 (c.getD i aa.zero) k).1+1))+1)) (cA _)) ?_
  repeat first | refine ak aI ?_ | refine ak (aL hi) ?_ | refine ak (gO _) ?_
  refine aZ ((e4 (c.getD i aa.zero) k).1,((e4 (c.getD i aa.zero) k).2.map bn.row)) (Z281.aj (a0:=(c.getD i aa.zero).cm) (a1:=i64.wrap ((i64.wrap ((e3 (c.getD i aa.zero) k).1+1))+1)) (cA _)) ?_
  rw [aG hi hm]
  exact congrArg (fun q=>J (Pt.p0 (el (c.getD i aa.zero) k).1 ((i+1:Nat):Int) q)) (List.map_set (f:=aa.row) (l:=c) (i:=i) (a:=(el (c.getD i aa.zero) k).2)).symm
 ·simp only [step,SS]
  refine cN (by apply decide_eq_false;omega) ?_
  rfl
def af:eR Tryz.prog Ev 94 aT:=MV (run:=fun n x=>start (iter step n) x.1 x.2) mix aE .nil (.cons Z280.af (.cons Z281.af .nil)) Tryz.func94 (by kernel_rfl) run_eq (fun ls a hl e hg=>bt a.1 a.2 hg (by have h:(ls.headD .hole).aP.length<=maxLen:=(hl _ _ (.head _)).len;have e:a.1.map aa.row=(ls.headD .hole).aP:=(congrArg (fun x=>x.1) e.symm);rw [<-e] at h;simpa using h))
def iq {a0:List aa}{a1:Int}(h:eB a1):eB (md a0 a1).1:=jf gZ h
def pE (x:aa)(k:Int)(h0:0<=k)(hb:k+(cnt x:Int)<=4611686018427387904):(el x k).1=k+cnt x:=by
 simp only [cnt,Int.natCast_add] at hb ⊢
 simp (disch:=omega) only [el,e1,e2,e3,e4,wi,Z280.kk,Z281.kk]
 all_goals first | done | omega
def kk (a0:List aa)(a1:Int)(h0:0<=a1)(hb:a1+(sum a0:Int)<=4611686018427387904):(md a0 a1).1=a1+sum a0:=gx pE a0 a1 h0 hb
def sz (a:List aa):sum a<=60*(dO (fun y:aa=>aa.size y) a):=jo (fun x=>by
 have:=Z280.sz (((x.an).bQ).aX)
 have:=Z280.sz (((x.an).bB).aX)
 have:=Z280.sz (((x.an).bw).aX)
 have:=Z281.sz x.cm
 try simp only [cnt,aa.size,aF.size,aO.size] at *
 omega) a
end Z282
namespace Z283
set_option maxHeartbeats 8000000
inductive Pt where
 | p0 (a b:Int) (c:aC)
def pid:Pt->Nat
 | .p0 ..=>2
def cg:Pt->List V
 | .p0 a b c=>[.own 0,.int .i64 a,.int .i64 b]
def bZ:Pt->List aW
 | .p0 a b c=>[.row 134 c]
def step (J:Pt->aH):Pt->aH
 | .p0 a b c=>(cond (decide (b<(c.length:Int))) (m2 b (c.length:Int) (call (Z282.R ((og c (toNat b)),a)) fun v1=>J (.p0 v1.1 (i64.wrap (b+1)) (List.set c (toNat b) [L.sl v1.2])))) (ret ((a,c):Int×aC)))
def start (J:Pt->aH)(x0:aC)(x1:Int):aH:=J (.p0 x1 0 x0)
def live:Nat->Live:=fun i=>match i with | 2=>[(0,none),(1,none),(5,none)] | _=>[]
def pats:List (Bool×List K):=[(false,[.sl 134]),(false,[aD])]
def res:RP:=.nH [134]
abbrev E:Env:={ T:=assoc kL,G:=dw [],nt:=19,M:=fP [(94,Z282.aT)],np:=1,mt:=true }
def step_eq (I:cD)(p:Pt):cT E live I (pid p) (bO Tryz.f53) (fq (live (pid p)) (cg p) (bZ p)) (cE E Tryz.f53 res)=step (fun q=>I (pid q) (cg q) (bZ q)) p:=by
 cases p<;>kernel_rfl
def start_eq (I:cD)(ls:List L):eP E live I (bO Tryz.f53) (gB pats ls) (cE E Tryz.f53 res)=start (fun q=>I (pid q) (cg q) (bZ q)) (ls.headD .hole).aP ((aA 1 ls).headD .hole).toInt:=by kernel_rfl
def run_eq (n:Nat)(ls:List L):eJ E live Tryz.f53 res n (gB pats ls)=start (iter step n) (ls.headD .hole).aP ((aA 1 ls).headD .hole).toInt:=cy (id:=pid) (vs:=cg) (hs:=bZ) (step:=step) (start:=fun J=>start J (ls.headD .hole).aP ((aA 1 ls).headD .hole).toInt) step_eq (fun I=>start_eq I ls) n
def e1 (x:List aa)(k:Int):=Z282.md x k
def el (x:List aa)(k:Int):Int×(List aa):=((e1 x k).1,((e1 x k).2))
def gZ (x:List aa)(k:Int)(hk:eB k):eB (el x k).1:=(Z282.iq hk)
def cnt (x:List aa):Nat:=0+Z282.sum x
def sum (a:List (List aa)):Nat:=(a.map cnt).sum
def md (a0:List (List aa))(a1:Int):Int×List (List aa):=iW el a0 a1
def gd (a0:List (List aa))(a1:Int):Prop:=eB a1
def acc (ls:List L):aC×Int:=((ls.headD .hole).aP,((aA 1 ls).headD .hole).toInt)
def R:(aC×Int)->Option (Int×aC):=RR (p2 gd) (u2 md)
def aj {a0 a1}(h:gd a0 a1):R ((a0.map (dG aa.row)),a1)=some ((md a0 a1).1,((md a0 a1).2.map (dG aa.row))):=aN (a:=(a0,a1)) h
def aT:gD:=MN pats acc R
def bt (a0:List (List aa))(a1:Int)(hg:gd a0 a1)(h0:a0.length<=maxLen):∃n,start (iter step n) (a0.map (dG aa.row)) a1=ret (((md a0 a1).1,((md a0 a1).2.map (dG aa.row))):Int×aC):=by
 unfold gd at hg
 show ∃n,iter step n (Pt.p0 a1 0 (a0.map (dG aa.row)))=_
 unfold md
 refine gf (el:=el) (xs:=a0) [] eB gZ (pt:=fun i k c=>Pt.p0 k (i:Int) (c.map (dG aa.row))) (out:=fun b=>ret (b.1,b.2.map (dG aa.row))) (fun J i k c hi hc hk=>?_) (fun J k c hc=>?_) hg
 ·have hm:c.length<=maxLen:=hc ▸ h0
  simp only [step,SS]
  refine ak (aL hi) ?_
  refine ak aI ?_
  refine ak (aL hi) ?_
  refine aZ ((e1 (c.getD i []) k).1,((e1 (c.getD i []) k).2.map aa.row)) (Z282.aj (a0:=c.getD i []) (a1:=k) hk) ?_
  rw [aG hi hm]
  exact congrArg (fun q=>J (Pt.p0 (el (c.getD i []) k).1 ((i+1:Nat):Int) q)) (List.map_set (f:=(dG aa.row)) (l:=c) (i:=i) (a:=(el (c.getD i []) k).2)).symm
 ·simp only [step,SS]
  refine cN (by apply decide_eq_false;omega) ?_
  rfl
def af:eR Tryz.prog Ev 53 aT:=MV (run:=fun n x=>start (iter step n) x.1 x.2) mix aE .nil (.cons Z282.af .nil) Tryz.func53 (by kernel_rfl) run_eq (fun ls a hl e hg=>bt a.1 a.2 hg (by have h:(ls.headD .hole).aP.length<=maxLen:=(hl _ _ (.head _)).len;have e:a.1.map (dG aa.row)=(ls.headD .hole).aP:=(congrArg (fun x=>x.1) e.symm);rw [<-e] at h;simpa using h))
def iq {a0:List (List aa)}{a1:Int}(h:eB a1):eB (md a0 a1).1:=jf gZ h
def pE (x:List aa)(k:Int)(h0:0<=k)(hb:k+(cnt x:Int)<=4611686018427387904):(el x k).1=k+cnt x:=by
 simp only [cnt,Int.natCast_add] at hb ⊢
 simp (disch:=omega) only [el,e1,wi,Z282.kk]
 all_goals first | done | omega
def kk (a0:List (List aa))(a1:Int)(h0:0<=a1)(hb:a1+(sum a0:Int)<=4611686018427387904):(md a0 a1).1=a1+sum a0:=gx pE a0 a1 h0 hb
def sz (a:List (List aa)):sum a<=60*(dO (fun y:List aa=>dO (fun y:aa=>aa.size y) y) a):=jo (fun x=>by
 have:=Z282.sz x
 try simp only [cnt] at *
 omega) a
end Z283
end Go.DM
end
