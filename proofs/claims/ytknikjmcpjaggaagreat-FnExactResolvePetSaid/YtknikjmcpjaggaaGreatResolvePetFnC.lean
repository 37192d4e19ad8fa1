/- What the functions compute that the law reaches, and that the law returns true. Conditions: none. -/
import Derived.Test.YtknikjmcpjaggaaGreatResolvePetTy
import Derived.Test.YtknikjmcpjaggaaGreatResolvePetFnB
import Derived.Test.YtknikjmcpjaggaaGreatProg
import Derived.Lib.AppendZerosOnto
import Derived.Lib.Bytealg
import Derived.Laws.Externs
import Derived.Lib.Walk
import Derived.Lib.Hide
import Derived.Lib.Strings
set_option linter.all false
set_option maxRecDepth 100000
noncomputable section
namespace Go.DM
open Go.Proofs
open Go.IntKind (i64)
open Int (toNat)
open Nat (le_trans zero_le)
namespace Z205
def F (x0:dQ):aI:=(call (Z204.R x0) fun v1=>(cond (!v1) (ret ((-1):Int)) (call (Z186.R x0.aU) fun v2=>ret (v2.bC:Int))))
def md (a0:aL):Int:=(cond (!(Z204.md a0)) ((-1):Int) ((Z186.md a0.aU).bC:Int))
def gd (a0:aL):Prop:=(aL.Sm (2^21) a0)
def R:=RR gd md
def aj {a0}(h:gd a0):R (aL.r a0)=some (md a0):=aP (a:=a0) h
def aW:=CN [.agg sU] oI RT.dec R
def bt (a0)(hg:gd a0):F (aL.r a0)=ret (md a0):=by
 unfold gd at hg
 have H0:=hg
 unfold F md
 try simp only [SS]
 refine ct (Z204.aj H0) ?_
 refine av ret (fun _=>rfl) (fun c1=>?_)
 have dc1:=c1
 try simp only [DC] at dc1
 try have tc1:=Z204.tr (by simpa using c1)
 refine ct (Z186.aj ⟨H0.1,(by
   have:=(H0.1).1
   first | assumption | exact om)⟩) ?_
 try simp only [SS]
 all_goals exact fz
def af:cz 509 aW:=W1 10 F mix aF bt (.cons Z204.af (.cons Z186.af .nil)) Tryz.func509
def br (a0:aL):md a0=Z92.md a0:=by
 unfold md Z92.md
 rw [Z204.br]
 cases h:Z91.md a0
 ·rfl
 ·have h2:Z75.md a0.aU=true:=by
   unfold Z91.md Z76.md at h
   cases hc:Z75.md a0.aU
   ·rw [hc] at h;cases h
   ·rfl
  unfold Z186.md Z76.md
  rw [h2]
  rfl
end Z205
namespace Z206
def F (x0:dQ)(x1:List L):aI:=(call (Z205.R x0) fun v1=>ret ((v1==(gx x1)):Bool))
def pats:List gj:=[.agg [.sl 123,.sl 61],.ptr [aB]]
def res:RP:=.one (.rd (.bool))
def md (a0:aL)(a1:Int):Bool:=(((Z205.md a0)==a1):Bool)
def gd (a0:aL)(a1:Int):Prop:=(aL.Sm (2^21) a0)
def acc (ls:List L):dQ×Int:=((dQ.dec ls),(gx (cM 1 (aA 2 ls))))
def R:(dQ×Int)->Option Bool:=RR (p2 gd) (u2 md)
def aj {a0 a1}(h:gd a0 a1):R ((aL.r a0),a1)=some (md a0 a1):=aP (a:=(a0,a1)) h
def aW:ga:=CN pats res acc R
def bt (a0:aL)(a1:Int)(p1:List L)(e1:a1=(gx p1))(hg:gd a0 a1):F (aL.r a0) p1=ret ((md a0 a1):Bool):=by
 unfold gd at hg
 have H0:=hg
 unfold F md
 try simp only [SS,<-e1]
 refine ct (Z205.aj H0) ?_
 all_goals exact fz
def mY (ls:List L)(a:aL×Int)(e:acc ls=Im.im a)(hg:(p2 gd) a):∃n:Nat,F (dQ.dec ls) (cM 1 (aA 2 ls))=ret (Im.im ((u2 md) a)):=by
 have e0:(aL.r a.1)=(dQ.dec ls):=(congrArg (fun x=>x.1) e.symm)
 have hn:=bt a.1 a.2 (cM 1 (aA 2 ls)) (congrArg (fun x=>x.2) e.symm) hg
 refine ⟨0,?_⟩
 rw [<-e0]
 exact hn
def af:cz 508 aW:=VP (live:=fun _=>[]) (nt:=8) (accr:=fun ls=>((dQ.dec ls),(cM 1 (aA 2 ls)))) (run:=fun _ x=>F x.1 x.2) mix aF (.cons Z205.af .nil) Tryz.func508 (by kernel_rfl) (fun _ _=>by kernel_rfl) (fun ls a _ e hg=>mY ls a e hg)
end Z206
namespace Z207
inductive Pt where
 | p0 (a:aE) (b:List L) (c d:Int)
def pid:Pt->Nat
 | .p0 ..=>2
def ck:Pt->List V
 | .p0 a b c d=>[.sl none 293 a,.fn 508 [.dK none [aB] b 0],.int .i64 c,.int .i64 d]
def cj:Pt->List aY
 | .p0 a b c d=>[]
def step (J:Pt->aI):Pt->aI
 | .p0 a b c d=>(cond (decide (d<c)) (m2 d (a.length:Int) (call (Z206.R ((dQ.at a (toNat d)),(gx b))) fun v1=>(cond v1 (ret (d:Int)) (J (.p0 a b c (i64.wrap (d+1))))))) (ret ((-1):Int)))
def start (J:Pt->aI)(x0:aE)(x1:List L):aI:=J (.p0 x0 x1 (x0.length:Int) 0)
def live:Nat->Live:=fun i=>match i with | 2=>[(0,none),(1,none),(7,none),(8,none)] | _=>[]
def pats:List gj:=[.rd (.sl 293),.fn 508 [[aB]]]
def res:RP:=.one (.rd (.int .i64))
abbrev E:Env:={ T:=assoc kG,G:=dD [(508,Z206.aW)],nt:=19 }
def step_eq (I:cI)(p:Pt):cY E live I (pid p) (bQ Tryz.f507) (fH (live (pid p)) (ck p) (cj p)) (cH E Tryz.f507 res)=step (fun q=>I (pid q) (ck q) (cj q)) p:=by
 cases p<;>kernel_rfl
def start_eq (I:cI)(ls:List L):eW E live I (bQ Tryz.f507) (dc pats ls) (cH E Tryz.f507 res)=start (fun q=>I (pid q) (ck q) (cj q)) (ls.headD .hole).aQ (cM 1 (aA 1 ls)):=by kernel_rfl
def run_eq (n:Nat)(ls:List L):eO E live Tryz.f507 res n (dc pats ls)=start (iter step n) (ls.headD .hole).aQ (cM 1 (aA 1 ls)):=cA (id:=pid) (vs:=ck) (hs:=cj) (step:=step) (start:=fun J=>start J (ls.headD .hole).aQ (cM 1 (aA 1 ls))) step_eq (fun I=>start_eq I ls) n
def md (a0:List aL)(a1:Int):Int:=(dW (S:=Unit) (β:=Int) (fun (i1:Nat) (y1:aL) (s3:Unit)=>(cond (Z206.md y1 a1) (.inr ((i1:Int):Int)) (.inl ()))) (fun (s3:Unit)=>((-1):Int)) 0 a0 ())
def gd (a0:List aL)(a1:Int):Prop:=(bM (2^21) (fun y:aL=>aL.Sm (2^21) y) a0)
def acc (ls:List L):aE×Int:=((ls.headD .hole).aQ,(gx (cM 1 (aA 1 ls))))
def R:(aE×Int)->Option Int:=RR (p2 gd) (u2 md)
def aj {a0 a1}(h:gd a0 a1):R ((a0.map aL.row),a1)=some (md a0 a1):=aP (a:=(a0,a1)) h
def aW:ga:=CN pats res acc R
def bt (a0:List aL)(a1:Int)(p1:List L)(e1:a1=(gx p1))(hg:gd a0 a1):∃n,start (iter step n) (a0.map aL.row) p1=ret ((md a0 a1):Int):=by
 unfold gd at hg
 have H0:=hg
 unfold start md
 try simp only [SS,<-e1]
 have Bh2:a0.length<=maxLen:=(by
   have:=(H0).1
   try simp only [maxLen] at *
   omega)
 refine ex_eq (out:=ret) (cX (z:=aL.zero)) ?_
 refine dP (p:=Pt.p0 (a0.map aL.row) p1 (a0.length:Int) 0) fz ?_
 refine cm (pt:=fun (i1:Nat) (s3:Unit)=>Pt.p0 (a0.map aL.row) p1 (a0.length:Int) (i1:Int)) (s:=(():Unit)) (out:=ret) (fun _ _=>True) (fun J i1 s3 h2 hih2=>?_) (fun s3 hih2=>?_) trivial
 ·simp only [step,SS,<-e1]
  have bb_:=Bh2
  simp only [maxLen] at bb_
  have:=(H0).1
  refine bB.yes (by apply decide_eq_true;omega) ?_
  refine bB.yes aJ ?_
  refine bB.yes (aO h2) ?_
  refine cr (Z206.aj (bM.getD (z:=aL.zero) H0 h2)) ?_
  refine bB.bif (fun c4=>?_) (fun c4=>?_)
  ·refine bB.inr ?_
   all_goals exact fz
  ·refine bB.inl trivial ?_
   rw [aH h2 Bh2]
   all_goals exact fz
 ·simp only [step,SS,<-e1]
  have:=(H0).1
  refine dF (by apply decide_eq_false;omega) ?_
  refine ⟨0,?_⟩
  all_goals exact fz
def mY (ls:List L)(a:List aL×Int)(e:acc ls=Im.im a)(hg:(p2 gd) a):∃n:Nat,start (iter step n) ((ls.headD .hole).aQ) (cM 1 (aA 1 ls))=ret (Im.im ((u2 md) a)):=by
 have e0:(a.1.map aL.row)=(ls.headD .hole).aQ:=(congrArg (fun x=>x.1) e.symm)
 obtain ⟨n,hn⟩:=bt a.1 a.2 (cM 1 (aA 1 ls)) (congrArg (fun x=>x.2) e.symm) hg
 refine ⟨n,?_⟩
 rw [<-e0]
 exact hn
def af:cz 507 aW:=VP (accr:=fun ls=>((ls.headD .hole).aQ,(cM 1 (aA 1 ls)))) (run:=fun n x=>start (iter step n) x.1 x.2) mix aF (.cons Z206.af .nil) Tryz.func507 (by kernel_rfl) run_eq (fun ls a _ e hg=>mY ls a e hg)
def fa (a0:List aL)(a1:Int):-1<=md a0 a1/\md a0 a1<(a0.length:Int):=by
 unfold md
 refine fK ?_ _ _
 all_goals
  intro i x s b h
  revert h
  simp only [Bool.cond_eq_ite]
  repeat' split
  all_goals (intro h;first | (cases h;rfl) | cases h)
def idx_eq (a0:List aL)(a1:Int):md a0 a1=iT (fun y=>Z206.md y a1) 0 a0:=by
 unfold md
 exact gI
end Z207
namespace Z208
def F (x0:cP)(x1:Int):aI:=(cond (decide (x1<0)) (ret ((-1):Int)) (call (Z207.R (x0.bJ,x1)) fun v1=>ret (v1:Int)))
def md (a0:ay)(a1:Int):Int:=(cond (decide (a1<0)) ((-1):Int) ((Z207.md a0.bJ a1):Int))
def gd (a0:ay)(a1:Int):Prop:=(ay.Sm (2^21) a0)
def R:=RR (p2 gd) (u2 md)
def aj {a0 a1}(h:gd a0 a1):R ((ay.r a0),a1)=some (md a0 a1):=aP (a:=(a0,a1)) h
def aW:=CN [.agg yU,pI] oI RT.dec R
def bt (a0)(a1)(hg:gd a0 a1):F (ay.r a0) a1=ret (md a0 a1):=by
 unfold gd at hg
 have H0:=hg
 unfold F md
 try simp only [SS]
 refine av ret (fun _=>rfl) (fun c1=>?_)
 refine ct (Z207.aj H0) ?_
 have fv1_:=Z207.fa a0.bJ a1
 all_goals exact fz
def af:cz 436 aW:=W2 11 F mix aF bt (.cons Z207.af .nil) Tryz.func436
def fa (a0:ay)(a1:Int):-1<=md a0 a1/\md a0 a1<(a0.bJ.length:Int):=by
 unfold md
 have:=Z207.fa a0.bJ a1
 cases decide (a1<0)
 ·exact this
 ·simp only [bh];omega
def br (a0:ay)(a1:Int):md a0 a1=Z93.md a0 a1:=by
 unfold md Z93.md
 rw [Z207.idx_eq]
 rw [lC (p:=fun y=>(Z92.md y==a1)&&decide (a1>=0)) (fun i x s=>by cases (Z92.md x==a1)<;>cases decide (a1>=0)<;>rfl)]
 have e:(fun y=>Z206.md y a1)=fun y=>Z92.md y==a1:=by
  funext y
  unfold Z206.md
  rw [Z205.br]
 have key:∀(xs:List aL) (i:Nat),iT (fun _=>false) i xs=-1:=by
  intro xs
  induction xs with
  | nil=>intro i;rfl
  | cons x xs ih=>intro i;unfold iT;exact ih _
 rw [e]
 by_cases h:a1<0
 ·rw [decide_eq_true h,decide_eq_false (show ¬a1>=0 by omega)]
  simp only [bh,Bool.and_false,key]
 ·rw [decide_eq_false h,decide_eq_true (show a1>=0 by omega)]
  simp only [bq,Bool.and_true]
end Z208
namespace Z209
def F (x0:aV)(x1:List L):aI:=ret ((x0.aZ==(sDec x1)):Bool)
def pats:List gj:=[.agg [.str,aB,aB,.sl 9],.ptr [.str]]
def res:RP:=.one (.rd (.bool))
def md (a0:ah)(a1:aD):Bool:=((a0.aZ==a1):Bool)
def gd (a0:ah)(a1:aD):Prop:=True
def acc (ls:List L):aV×aD:=((aV.dec ls),(sDec (cM 1 (aA 4 ls))))
def R:(aV×aD)->Option Bool:=RR (p2 gd) (u2 md)
def aj {a0 a1}(h:gd a0 a1):R ((ah.r a0),a1)=some (md a0 a1):=aP (a:=(a0,a1)) h
def aW:ga:=CN pats res acc R
def bt (a0:ah)(a1:aD)(p1:List L)(e1:a1=(sDec p1))(hg:gd a0 a1):F (ah.r a0) p1=ret ((md a0 a1):Bool):=by
 unfold F md
 try simp only [SS,<-e1]
 all_goals exact fz
def mY (ls:List L)(a:ah×aD)(e:acc ls=Im.im a)(hg:(p2 gd) a):∃n:Nat,F (aV.dec ls) (cM 1 (aA 4 ls))=ret (Im.im ((u2 md) a)):=by
 have e0:(ah.r a.1)=(aV.dec ls):=(congrArg (fun x=>x.1) e.symm)
 have hn:=bt a.1 a.2 (cM 1 (aA 4 ls)) (congrArg (fun x=>x.2) e.symm) hg
 refine ⟨0,?_⟩
 rw [<-e0]
 exact hn
def af:cz 562 aW:=VP (live:=fun _=>[]) (nt:=8) (accr:=fun ls=>((aV.dec ls),(cM 1 (aA 4 ls)))) (run:=fun _ x=>F x.1 x.2) mix aF .nil Tryz.func562 (by kernel_rfl) (fun _ _=>by kernel_rfl) (fun ls a _ e hg=>mY ls a e hg)
end Z209
namespace Z210
inductive Pt where
 | p0 (a:aE) (b:List L) (c d:Int)
def pid:Pt->Nat
 | .p0 ..=>2
def ck:Pt->List V
 | .p0 a b c d=>[.sl none 61 a,.fn 562 [.dK none [.str] b 0],.int .i64 c,.int .i64 d]
def cj:Pt->List aY
 | .p0 a b c d=>[]
def step (J:Pt->aI):Pt->aI
 | .p0 a b c d=>(cond (decide (d<c)) (m2 d (a.length:Int) (call (Z209.R ((aV.at a (toNat d)),(sDec b))) fun v1=>(cond v1 (ret (d:Int)) (J (.p0 a b c (i64.wrap (d+1))))))) (ret ((-1):Int)))
def start (J:Pt->aI)(x0:aE)(x1:List L):aI:=J (.p0 x0 x1 (x0.length:Int) 0)
def live:Nat->Live:=fun i=>match i with | 2=>[(0,none),(1,none),(7,none),(8,none)] | _=>[]
def pats:List gj:=[.rd (.sl 61),.fn 562 [[.str]]]
def res:RP:=.one (.rd (.int .i64))
abbrev E:Env:={ T:=assoc kG,G:=dD [(562,Z209.aW)],nt:=19 }
def step_eq (I:cI)(p:Pt):cY E live I (pid p) (bQ Tryz.f561) (fH (live (pid p)) (ck p) (cj p)) (cH E Tryz.f561 res)=step (fun q=>I (pid q) (ck q) (cj q)) p:=by
 cases p<;>kernel_rfl
def start_eq (I:cI)(ls:List L):eW E live I (bQ Tryz.f561) (dc pats ls) (cH E Tryz.f561 res)=start (fun q=>I (pid q) (ck q) (cj q)) (ls.headD .hole).aQ (cM 1 (aA 1 ls)):=by kernel_rfl
def run_eq (n:Nat)(ls:List L):eO E live Tryz.f561 res n (dc pats ls)=start (iter step n) (ls.headD .hole).aQ (cM 1 (aA 1 ls)):=cA (id:=pid) (vs:=ck) (hs:=cj) (step:=step) (start:=fun J=>start J (ls.headD .hole).aQ (cM 1 (aA 1 ls))) step_eq (fun I=>start_eq I ls) n
def md (a0:List ah)(a1:aD):Int:=(dW (S:=Unit) (β:=Int) (fun (i1:Nat) (y1:ah) (s3:Unit)=>(cond (Z209.md y1 a1) (.inr ((i1:Int):Int)) (.inl ()))) (fun (s3:Unit)=>((-1):Int)) 0 a0 ())
def gd (a0:List ah)(a1:aD):Prop:=(bM (2^21) (fun y:ah=>ah.Sm (2^21) y) a0)
def acc (ls:List L):aE×aD:=((ls.headD .hole).aQ,(sDec (cM 1 (aA 1 ls))))
def R:(aE×aD)->Option Int:=RR (p2 gd) (u2 md)
def aj {a0 a1}(h:gd a0 a1):R ((a0.map ah.row),a1)=some (md a0 a1):=aP (a:=(a0,a1)) h
def aW:ga:=CN pats res acc R
def bt (a0:List ah)(a1:aD)(p1:List L)(e1:a1=(sDec p1))(hg:gd a0 a1):∃n,start (iter step n) (a0.map ah.row) p1=ret ((md a0 a1):Int):=by
 unfold gd at hg
 have H0:=hg
 unfold start md
 try simp only [SS,<-e1]
 have Bh2:a0.length<=maxLen:=(by
   have:=(H0).1
   try simp only [maxLen] at *
   omega)
 refine ex_eq (out:=ret) (cX (z:=ah.zero)) ?_
 refine dP (p:=Pt.p0 (a0.map ah.row) p1 (a0.length:Int) 0) fz ?_
 refine cm (pt:=fun (i1:Nat) (s3:Unit)=>Pt.p0 (a0.map ah.row) p1 (a0.length:Int) (i1:Int)) (s:=(():Unit)) (out:=ret) (fun _ _=>True) (fun J i1 s3 h2 hih2=>?_) (fun s3 hih2=>?_) trivial
 ·simp only [step,SS,<-e1]
  have bb_:=Bh2
  simp only [maxLen] at bb_
  have:=(H0).1
  refine bB.yes (by apply decide_eq_true;omega) ?_
  refine bB.yes aJ ?_
  refine bB.yes (aO h2) ?_
  refine cr (Z209.aj trivial) ?_
  refine bB.bif (fun c4=>?_) (fun c4=>?_)
  ·refine bB.inr ?_
   all_goals exact fz
  ·refine bB.inl trivial ?_
   rw [aH h2 Bh2]
   all_goals exact fz
 ·simp only [step,SS,<-e1]
  have:=(H0).1
  refine dF (by apply decide_eq_false;omega) ?_
  refine ⟨0,?_⟩
  all_goals exact fz
def mY (ls:List L)(a:List ah×aD)(e:acc ls=Im.im a)(hg:(p2 gd) a):∃n:Nat,start (iter step n) ((ls.headD .hole).aQ) (cM 1 (aA 1 ls))=ret (Im.im ((u2 md) a)):=by
 have e0:(a.1.map ah.row)=(ls.headD .hole).aQ:=(congrArg (fun x=>x.1) e.symm)
 obtain ⟨n,hn⟩:=bt a.1 a.2 (cM 1 (aA 1 ls)) (congrArg (fun x=>x.2) e.symm) hg
 refine ⟨n,?_⟩
 rw [<-e0]
 exact hn
def af:cz 561 aW:=VP (accr:=fun ls=>((ls.headD .hole).aQ,(cM 1 (aA 1 ls)))) (run:=fun n x=>start (iter step n) x.1 x.2) mix aF (.cons Z209.af .nil) Tryz.func561 (by kernel_rfl) run_eq (fun ls a _ e hg=>mY ls a e hg)
def fa (a0:List ah)(a1:aD):-1<=md a0 a1/\md a0 a1<(a0.length:Int):=by
 unfold md
 refine fK ?_ _ _
 all_goals
  intro i x s b h
  revert h
  simp only [Bool.cond_eq_ite]
  repeat' split
  all_goals (intro h;first | (cases h;rfl) | cases h)
def idx_eq (a0:List ah)(a1:aD):md a0 a1=iT (fun y=>Z209.md y a1) 0 a0:=by
 unfold md
 exact gI
end Z210
namespace Z211
def F (x0:aE)(x1:aD):aI:=(call (Z210.R (x0,x1)) fun v1=>ret (v1:Int))
def md (a0:List ah)(a1:aD):Int:=((Z210.md a0 a1):Int)
def gd (a0:List ah)(a1:aD):Prop:=(bM (2^21) (fun y:ah=>ah.Sm (2^21) y) a0)
def R:=RR (p2 gd) (u2 md)
def aj {a0 a1}(h:gd a0 a1):R ((a0.map ah.row),a1)=some (md a0 a1):=aP (a:=(a0,a1)) h
def aW:=CN [pL 61,pS] oI RT.dec R
def bt (a0)(a1)(hg:gd a0 a1):F (a0.map ah.row) a1=ret (md a0 a1):=by
 unfold gd at hg
 have H0:=hg
 unfold F md
 try simp only [SS]
 refine ct (Z210.aj H0) ?_
 have fv1_:=Z210.fa a0 a1
 all_goals exact fz
def af:cz 511 aW:=W2 8 F mix aF bt (.cons Z210.af .nil) Tryz.func511
def fa (a0:List ah)(a1:aD):-1<=md a0 a1/\md a0 a1<(a0.length:Int):=by
 unfold md
 refine fK ?_ _ _
 all_goals
  intro i x s b h
  revert h
  simp only [Bool.cond_eq_ite]
  repeat' split
  all_goals (intro h;first | (cases h;rfl) | cases h)
def br (a0:List ah)(a1:aD):md a0 a1=Z94.md a0 a1:=by
 unfold md Z94.md
 first
 | (simp only [Z210.idx_eq];done)
 | (simp only [Z210.idx_eq];rfl)
 | rfl
end Z211
namespace Z212
def F (x0:aE):aI:=(cond x0.isEmpty (either (ret ([]:aE)) ((cq (ff ((x0.length:Int)*16)) (ret (x0:aE))))) (cq (ff ((x0.length:Int)*16)) (ret (x0:aE))))
def md (a0:List aD):List aD:=a0
def gd (a0:List aD):Prop:=bM (2^21) (fun y:aD=>y.size<=(2^21)) a0
def R:=RR gd md
def aj {a0}(h:gd a0):R (a0.map cG)=some (a0.map cG):=aP (a:=a0) h
def aW:=CN [pL 9] (oL 9) RT.dec R
def bt (a0)(hg:gd a0):F (a0.map cG)=ret ((md a0).map cG):=by
 have H0:=hg.1
 unfold F md
 have hl:ff (((a0.map cG).length:Int)*16)=true:=iP (by simp only [List.length_map];omega)
 simp only [hl,bh]
 cases a0 with
 | nil=>exact kX
 | cons x xs=>rfl
def af:cz 294 aW:=W1 8 F mix aF bt .nil Tryz.func294
end Z212
namespace Z213
def F (x0:aV):aI:=(call (Z212.R x0.bH) fun v1=>ret ((⟨x0.aZ,x0.bI,x0.bX,v1⟩:aV):aV))
def md (a0:ah):ah:=a0
def gd (a0:ah):Prop:=(ah.Sm (2^21) a0)
def R:=RR gd md
def aj {a0}(h:gd a0):R (ah.r a0)=some (ah.r a0):=aP (a:=a0) h
def aW:=CN [.agg rE] (.agg f61) RT.dec R
def bt (a0)(hg:gd a0):F (ah.r a0)=ret (ah.r (md a0)):=by
 unfold gd at hg
 have H0:=hg
 unfold F md
 try simp only [SS]
 refine ct (Z212.aj H0.2) ?_
 try simp only [SS]
 all_goals exact fz
def af:cz 280 aW:=W1 8 F mix aF bt (.cons Z212.af .nil) Tryz.func280
end Z213
namespace Z214
inductive Pt where
 | p0 (a:aE) (b:Int) (c:aE)
 | p1 (a:Int) (b c:aE)
def pid:Pt->Nat
 | .p0 ..=>4
 | .p1 ..=>4
def ck:Pt->List V
 | .p0 a b c=>[.sl none 3 a,.int .i64 b,.own 0]
 | .p1 a b c=>[.own 0,.int .i64 a,.own 1]
def cj:Pt->List aY
 | .p0 a b c=>[.row 3 c]
 | .p1 a b c=>[.row 3 b,.row 3 c]
def step (J:Pt->aI):Pt->aI
 | .p0 a b c=>(cond (decide ((a.length:Int)>1)) (cond (decide ((nk .i64 b 1)<(a.length:Int))) (cq (decide ((0:Int)<=(nk .i64 b 1))) (cq (decide ((nk .i64 b 1)<(a.length:Int))) (cq (ff (((c.length:Int)+1)*8)) (call (Z199.R a) fun v1=>J (.p1 (i64.wrap (Int.tdiv b 2)) v1 (c++[[L.int (jx a (toNat (nk .i64 b 1)))]])))))) (call (Z199.R a) fun v2=>J (.p1 (i64.wrap (Int.tdiv b 2)) v2 c))) (ret (c:aE)))
 | .p1 a b c=>(cond (decide ((b.length:Int)>1)) (cond (decide ((nk .i64 a 1)<(b.length:Int))) (cq (decide ((0:Int)<=(nk .i64 a 1))) (cq (decide ((nk .i64 a 1)<(b.length:Int))) (cq (ff (((c.length:Int)+1)*8)) (call (Z199.R b) fun v1=>J (.p1 (i64.wrap (Int.tdiv a 2)) v1 (c++[[L.int (jx b (toNat (nk .i64 a 1)))]])))))) (call (Z199.R b) fun v2=>J (.p1 (i64.wrap (Int.tdiv a 2)) v2 c))) (ret (c:aE)))
def start (J:Pt->aI)(x0:aE)(x1:Int):aI:=(call (Z141.R (x1,0,(i64.wrap ((x0.length:Int) - 1)))) fun v1=>(cond (!v1) (ret ([]:aE)) (J (.p0 x0 x1 []))))
def live:Nat->Live:=fun i=>match i with | 4=>[(0,none),(1,none),(5,some 3)] | _=>[]
def BN (b:Nat)(h:b<2^40):nk .i64 (b:Int) 1=((Z96.vp b:Nat):Int):=by
 have e1:(BitVec.ofInt 64 (b:Int)).toNat=b:=by simp [BitVec.toNat_ofInt];omega
 have e2:(BitVec.ofInt 64 (1:Int)).toNat=1:=by decide
 have e3:(b ^^^ 1)=Z96.vp b:=by
  have a1:(b ^^^ 1) % 2=(b+1) % 2:=by
   have h:=Nat.xor_mod_two_pow (a:=b) (b:=1) (n:=1)
   rw [Nat.pow_one,show (1:Nat) % 2=1 from rfl] at h
   rcases Nat.mod_two_eq_zero_or_one b with e | e
   ·rw [e,show (0:Nat) ^^^ 1=1 from rfl] at h;omega
   ·rw [e,show (1:Nat) ^^^ 1=0 from rfl] at h;omega
  have a2:(b ^^^ 1) / 2=b / 2:=by rw [Nat.xor_div_two];simp
  unfold Z96.vp;split<;>omega
 show i64.wrap (((BitVec.ofInt 64 (b:Int) ^^^ BitVec.ofInt 64 1).toNat:Nat):Int)=_
 rw [BitVec.toNat_xor,e1,e2,e3,wi _ (by unfold Z96.vp;split<;>omega)]
def md (a0:List Int)(a1:Int):List Int:=Z96.md a0 a1
def gd (a0:List Int)(a1:Int):Prop:=bM (2^38) (fun y:Int=>True) a0
def R:=RR (p2 gd) (u2 md)
def aj {a0 a1}(h:gd a0 a1):R ((a0.map bk),a1)=some ((md a0 a1).map bk):=aP (a:=(a0,a1)) h
def aW:=CN [pL 3,pI] (oL 3) RT.dec R
def bt (a0)(a1)(hg:gd a0 a1):∃n,start (iter step n) (a0.map bk) a1=ret ((md a0 a1).map bk):=by
 have one:∀(i:Nat) (l c r:List Int) (n:Nat),bM (2^38) (fun y:Int=>True) l->i<2^40->c.length<2^40->(if l.length>1 then iter step n (Pt.p1 ((i / 2:Nat):Int) ((Z86.up l).map bk) ((Z96.vo i l c).map bk))=ret (r.map bk) else c=r)->
   step (iter step n) (Pt.p0 (l.map bk) (i:Int) (c.map bk))=ret (r.map bk)/\step (iter step n) (Pt.p1 (i:Int) (l.map bk) (c.map bk))=ret (r.map bk):=by
  intro i l c r n hl hi hc h
  have hs:=BN i hi
  have hd:=Z96.half i hi
  refine ⟨?_,?_⟩
  all_goals
   simp only [step,MM,List.length_map,gR,hs,hd,cE]
   by_cases h1:l.length>1
   ·rw [if_pos h1] at h
    rw [decide_eq_true (show (l.length:Int)>1 by omega),bh]
    by_cases h2:Z96.vp i<l.length
    ·rw [Z96.vo,if_pos h2,List.map_append] at h
     rw [decide_eq_true (show ((Z96.vp i:Nat):Int)<(l.length:Int) by omega),bh,decide_eq_true (show (0:Int)<=((Z96.vp i:Nat):Int) by omega),bh,bh,iP (by omega),bh]
     exact bg ((Z86.up l).map bk) (Z199.aj hl) h
    ·rw [Z96.vo,if_neg h2] at h
     rw [decide_eq_false (show ¬((Z96.vp i:Nat):Int)<(l.length:Int) by omega),bq]
     exact bg ((Z86.up l).map bk) (Z199.aj hl) h
   ·rw [if_neg h1] at h
    rw [decide_eq_false (show ¬(l.length:Int)>1 by omega),bq,h]
 have key:∀(k i:Nat) (l c:List Int),bM (2^38) (fun y:Int=>True) l->l.length<=k->i<2^40->c.length+k<2^40->
   ∃n,step (iter step n) (Pt.p0 (l.map bk) (i:Int) (c.map bk))=ret ((Z96.zc k i l c).map bk)/\step (iter step n) (Pt.p1 (i:Int) (l.map bk) (c.map bk))=ret ((Z96.zc k i l c).map bk):=by
  intro k
  induction k with
  | zero=>intro i l c hl hk hi hc;exact ⟨0,one i l c _ 0 hl hi (by omega) (by rw [if_neg (by omega)];rfl)⟩
  | succ k ih=>
   intro i l c hl hk hi hc
   unfold Z96.zc
   by_cases h1:l.length>1
   ·have hu:=Z86.ku l
    have hl1:=hl.1
    have h2:(Z96.vo i l c).length<=c.length+1:=by unfold Z96.vo;split<;>simp
    obtain ⟨n,_,hn⟩:=ih (i / 2) (Z86.up l) (Z96.vo i l c) ⟨by omega,fun _ _=>trivial⟩ (by omega) (by omega) (by omega)
    rw [if_pos h1]
    exact ⟨n+1,one i l c _ (n+1) hl hi (by omega) (by rw [if_pos h1];exact hn)⟩
   ·rw [if_neg h1]
    exact ⟨0,one i l c _ 0 hl hi (by omega) (by rw [if_neg h1])⟩
 unfold gd at hg
 unfold start md Z96.md
 simp only [List.length_map]
 have hlen:=hg.1
 cases h:Z47.md a1 0 (i64.wrap ((a0.length:Int) - 1))
 ·exact ⟨0,bg false (by rw [<-h,<-Z141.br];exact Z141.aj trivial) rfl⟩
 ·have hh:=h
  rw [wi _ (by omega)] at hh
  simp [Z47.md] at hh
  obtain ⟨i,rfl⟩:=Int.eq_ofNat_of_zero_le hh.1
  obtain ⟨n,hn,_⟩:=key a0.length i a0 [] hg (Nat.le_refl _) (by omega) (by simp only [List.length_nil];omega)
  exact ⟨n+1,bg true (by rw [<-h,<-Z141.br];exact Z141.aj trivial) hn⟩
def af:cz 563 aW:=L2 36 pid ck cj live step start mix aF bt (.cons Z141.af (.cons Z199.af .nil)) Tryz.func563
def len (a0:List Int)(a1:Int):(md a0 a1).length<=a0.length:=by
 intros;unfold md Z96.md
 cases Z47.md _ 0 _
 ·exact zero_le _
 ·exact le_trans (Z96.sZ _ _ _ _) (by simp)
def br (a0:List Int)(a1:Int):md a0 a1=Z96.md a0 a1:=by
 unfold md Z96.md
 first
 | (simp only [Z141.br,Z199.br];done)
 | (simp only [Z141.br,Z199.br];rfl)
 | rfl
end Z214
namespace Z215
def F (x0:aE)(x1:aD):aI:=(call (Z211.R (x0,x1)) fun v1=>(cond (decide (v1<0)) (ret (((⟨0,[]⟩:bS),false):bS×Bool)) (call (Z196.R x0) fun v2=>(call (Z214.R (v2,v1)) fun v3=>ret (((⟨v1,v3⟩:bS),true):bS×Bool)))))
def md (a0:List ah)(a1:aD):aN×Bool:=(cond (decide ((Z211.md a0 a1)<0)) ((⟨0,[]⟩:aN),false) ((⟨(Z211.md a0 a1),(Z214.md (Z196.md a0) (Z211.md a0 a1))⟩:aN),true))
def gd (a0:List ah)(a1:aD):Prop:=(bM (2^21) (fun y:ah=>ah.Sm (2^21) y) a0)
def R:=RR (p2 gd) (u2 md)
def aj {a0 a1}(h:gd a0 a1):R ((a0.map ah.row),a1)=some ((aN.r (md a0 a1).1),(md a0 a1).2):=aP (a:=(a0,a1)) h
def aW:=CN [pL 61,pS] (.iQ [(true,f128),(false,[fB])]) RT.dec R
def bt (a0)(a1)(hg:gd a0 a1):F (a0.map ah.row) a1=ret ((aN.r (md a0 a1).1),(md a0 a1).2):=by
 unfold gd at hg
 have H0:=hg
 unfold F md
 try simp only [SS]
 refine ct (Z211.aj H0) ?_
 have fv1_:=Z211.fa a0 a1
 refine av (fun b:aN×Bool=>ret (((aN.r b.1),b.2):bS×Bool)) (fun c1=>?_) (fun c1=>?_)
 ·all_goals exact fz
 ·have dc1:=c1
  try simp only [DC] at dc1
  refine ct (Z196.aj H0) ?_
  try simp only [SS]
  refine ct (Z214.aj ⟨(have:=Z196.len a0;have:=(H0).1;om),fun _ _=>trivial⟩) ?_
  try simp only [SS]
  all_goals exact fz
def af:cz 512 aW:=W2 19 F mix aF bt (.cons Z211.af (.cons Z196.af (.cons Z214.af .nil))) Tryz.func512
def gw {a0:List ah}{a1:aD}(hg:gd a0 a1):aN.Sm (2^21) ((md a0 a1).1):=by
 unfold gd at hg;unfold md
 cases decide (Z211.md a0 a1<0)
 ·refine ⟨?_,fun _ _=>trivial⟩
  have h:=Z214.len (Z196.md a0) (Z211.md a0 a1)
  rw [Z196.len] at h
  exact le_trans h hg.1
 ·exact bM.nil
def br (a0:List ah)(a1:aD):md a0 a1=Z97.md a0 a1:=by
 unfold md Z97.md
 first
 | (simp only [Z211.br,Z196.br,Z214.br];done)
 | (simp only [Z211.br,Z196.br,Z214.br];rfl)
 | rfl
end Z215
namespace Z216
inductive Pt where
 | p0 (a:aD) (b:Int) (c:aE) (d e:Int)
def pid:Pt->Nat
 | .p0 ..=>3
def ck:Pt->List V
 | .p0 a b c d e=>[.str a,.int .i64 b,.sl none 61 c,.int .i64 d,.int .i64 e]
def cj:Pt->List aY
 | .p0 a b c d e=>[]
def step (J:Pt->aI):Pt->aI
 | .p0 a b c d e=>(cond (decide (e<d)) (m2 e (c.length:Int) (call (Z190.R ((aV.at c (toNat e)).aZ,a)) fun v1=>(cond (decide (v1<0)) (J (.p0 a (i64.wrap (b+1)) c d (i64.wrap (e+1)))) (J (.p0 a b c d (i64.wrap (e+1))))))) (ret (b:Int)))
def start (J:Pt->aI)(x0:aE)(x1:aD):aI:=J (.p0 x1 0 x0 (x0.length:Int) 0)
def live:Nat->Live:=fun i=>match i with | 3=>[(1,none),(5,none),(8,none),(9,none),(10,none)] | _=>[]
def md (a0:List ah)(a1:aD):Int:=(ep (S:=Int) (β:=Int) (fun (y1:ah) (s3:Int)=>(cond (decide ((Z190.md (y1.aZ) a1)<0)) (.inl (i64.wrap (s3+1))) (.inl s3))) (fun (s3:Int)=>(s3:Int)) a0 0)
def gd (a0:List ah)(a1:aD):Prop:=(bM (2^21) (fun y:ah=>ah.Sm (2^21) y) a0)
def R:=RR (p2 gd) (u2 md)
def aj {a0 a1}(h:gd a0 a1):R ((a0.map ah.row),a1)=some (md a0 a1):=aP (a:=(a0,a1)) h
def aW:=CN [pL 61,pS] oI RT.dec R
def bt (a0)(a1)(hg:gd a0 a1):∃n,start (iter step n) (a0.map ah.row) a1=ret (md a0 a1):=by
 unfold gd at hg
 have H0:=hg
 unfold start md
 try simp only [SS]
 have Bh2:a0.length<=maxLen:=(by
   have:=(H0).1
   try simp only [maxLen] at *
   omega)
 refine ex_eq (out:=ret) (eM (z:=ah.zero)) ?_
 refine dP (p:=Pt.p0 a1 0 (a0.map ah.row) (a0.length:Int) 0) fz ?_
 refine cm (pt:=fun (i1:Nat) (s3:Int)=>Pt.p0 a1 s3 (a0.map ah.row) (a0.length:Int) (i1:Int)) (s:=(0:Int)) (out:=ret) (fun _ _=>True) (fun J i1 s3 h2 hih2=>?_) (fun s3 hih2=>?_) trivial
 ·simp only [step,SS]
  have bb_:=Bh2
  simp only [maxLen] at bb_
  have:=(H0).1
  refine bB.yes (by apply decide_eq_true;omega) ?_
  refine bB.yes aJ ?_
  refine bB.yes (aO h2) ?_
  refine cr (Z190.aj trivial) ?_
  refine bB.bif (fun c4=>?_) (fun c4=>?_)
  ·refine bB.inl trivial ?_
   rw [aH h2 Bh2]
   all_goals exact fz
  ·refine bB.inl trivial ?_
   rw [aH h2 Bh2]
   all_goals exact fz
 ·simp only [step,SS]
  have:=(H0).1
  refine dF (by apply decide_eq_false;omega) ?_
  refine ⟨0,?_⟩
  all_goals exact fz
def af:cz 566 aW:=L2 23 pid ck cj live step start mix aF bt (.cons Z190.af .nil) Tryz.func566
def fa (a0:List ah)(a1:aD):a0.length<=2^21->0<=md a0 a1/\md a0 a1<=(a0.length:Int):=fun hl=>by
 have key:∀(xs:List ah) (s:Int),0<=s->s+xs.length<=2^22->0<=ep (S:=Int) (β:=Int) (fun (y1:ah) (s3:Int)=>(cond (decide ((Z190.md (y1.aZ) a1)<0)) (.inl (i64.wrap (s3+1))) (.inl s3))) (fun (s3:Int)=>(s3:Int)) xs s/\ep (S:=Int) (β:=Int) (fun (y1:ah) (s3:Int)=>(cond (decide ((Z190.md (y1.aZ) a1)<0)) (.inl (i64.wrap (s3+1))) (.inl s3))) (fun (s3:Int)=>(s3:Int)) xs s<=s+xs.length:=by
  intro xs
  induction xs with
  | nil=>intro s h0 h1;exact ⟨h0,by simp [ep]⟩
  | cons x xs ih=>
   intro s h0 h1
   simp only [List.length_cons] at h1 ⊢
   unfold ep
   cases decide (Z190.md x.aZ a1<0)
   ·have:=ih s h0 (by omega)
    simp only [bq]
    omega
   ·have:=ih (s+1) (by omega) (by omega)
    simp only [bh]
    rw [wi _ (by omega)]
    omega
 have:=key a0 0 (Int.le_refl _) (by omega)
 unfold md
 omega
def br (a0:List ah)(a1:aD):md a0 a1=Z98.md a0 a1:=by
 unfold md Z98.md
 first
 | (simp only [Z190.br];done)
 | (simp only [Z190.br];rfl)
 | rfl
end Z216
namespace Z217
def F (x0:aE)(x1:aD):aI:=(call (Z191.R x0) fun v1=>(cond (!v1) (ret (((⟨0,(⟨(⟨#[]⟩:aD),0,0,[]⟩:aV),(⟨(⟨#[]⟩:aD),0,0,[]⟩:aV),(⟨0,[]⟩:bS),(⟨0,[]⟩:bS)⟩:dS),false):dS×Bool)) (call (Z142.R x1) fun v2=>(cond (!v2) (ret (((⟨0,(⟨(⟨#[]⟩:aD),0,0,[]⟩:aV),(⟨(⟨#[]⟩:aD),0,0,[]⟩:aV),(⟨0,[]⟩:bS),(⟨0,[]⟩:bS)⟩:dS),false):dS×Bool)) (call (Z211.R (x0,x1)) fun v3=>(cond (decide (v3>=0)) (ret (((⟨0,(⟨(⟨#[]⟩:aD),0,0,[]⟩:aV),(⟨(⟨#[]⟩:aD),0,0,[]⟩:aV),(⟨0,[]⟩:bS),(⟨0,[]⟩:bS)⟩:dS),false):dS×Bool)) (call (Z216.R (x0,x1)) fun v4=>(cond (decide (v4>0)) (cq (decide ((0:Int)<=(i64.wrap (v4 - 1)))) (cq (decide ((i64.wrap (v4 - 1))<(x0.length:Int))) (call (Z213.R (aV.at x0 (toNat (i64.wrap (v4 - 1))))) fun v5=>(call (Z215.R (x0,v5.aZ)) fun v6=>(cond (decide (v4<(x0.length:Int))) (m2 v4 (x0.length:Int) (call (Z213.R (aV.at x0 (toNat v4))) fun v7=>(call (Z215.R (x0,v7.aZ)) fun v8=>ret (((⟨v4,v5,v7,v6.1,v8.1⟩:dS),true):dS×Bool)))) (ret (((⟨v4,v5,(⟨(⟨#[]⟩:aD),0,0,[]⟩:aV),v6.1,(⟨0,[]⟩:bS)⟩:dS),true):dS×Bool))))))) (cond (decide (v4<(x0.length:Int))) (m2 v4 (x0.length:Int) (call (Z213.R (aV.at x0 (toNat v4))) fun v9=>(call (Z215.R (x0,v9.aZ)) fun v10=>ret (((⟨v4,(⟨(⟨#[]⟩:aD),0,0,[]⟩:aV),v9,(⟨0,[]⟩:bS),v10.1⟩:dS),true):dS×Bool)))) (ret (((⟨v4,(⟨(⟨#[]⟩:aD),0,0,[]⟩:aV),(⟨(⟨#[]⟩:aD),0,0,[]⟩:aV),(⟨0,[]⟩:bS),(⟨0,[]⟩:bS)⟩:dS),true):dS×Bool)))))))))))
def md (a0:List ah)(a1:aD):bV×Bool:=(cond (!(Z191.md a0)) ((⟨0,(⟨((⟨#[]⟩:aD):aD),0,0,[]⟩:ah),(⟨((⟨#[]⟩:aD):aD),0,0,[]⟩:ah),(⟨0,[]⟩:aN),(⟨0,[]⟩:aN)⟩:bV),false) (cond (!(Z142.md a1)) ((⟨0,(⟨((⟨#[]⟩:aD):aD),0,0,[]⟩:ah),(⟨((⟨#[]⟩:aD):aD),0,0,[]⟩:ah),(⟨0,[]⟩:aN),(⟨0,[]⟩:aN)⟩:bV),false) (cond (decide ((Z211.md a0 a1)>=0)) ((⟨0,(⟨((⟨#[]⟩:aD):aD),0,0,[]⟩:ah),(⟨((⟨#[]⟩:aD):aD),0,0,[]⟩:ah),(⟨0,[]⟩:aN),(⟨0,[]⟩:aN)⟩:bV),false) (cond (decide ((Z216.md a0 a1)>0)) (cond (decide ((Z216.md a0 a1)<(a0.length:Int))) ((⟨(Z216.md a0 a1),(a0.getD (toNat (i64.wrap ((Z216.md a0 a1) - 1))) ah.zero),(a0.getD (toNat (Z216.md a0 a1)) ah.zero),(Z215.md a0 ((a0.getD (toNat (i64.wrap ((Z216.md a0 a1) - 1))) ah.zero).aZ)).1,(Z215.md a0 ((a0.getD (toNat (Z216.md a0 a1)) ah.zero).aZ)).1⟩:bV),true) ((⟨(Z216.md a0 a1),(a0.getD (toNat (i64.wrap ((Z216.md a0 a1) - 1))) ah.zero),(⟨((⟨#[]⟩:aD):aD),0,0,[]⟩:ah),(Z215.md a0 ((a0.getD (toNat (i64.wrap ((Z216.md a0 a1) - 1))) ah.zero).aZ)).1,(⟨0,[]⟩:aN)⟩:bV),true)) (cond (decide ((Z216.md a0 a1)<(a0.length:Int))) ((⟨(Z216.md a0 a1),(⟨((⟨#[]⟩:aD):aD),0,0,[]⟩:ah),(a0.getD (toNat (Z216.md a0 a1)) ah.zero),(⟨0,[]⟩:aN),(Z215.md a0 ((a0.getD (toNat (Z216.md a0 a1)) ah.zero).aZ)).1⟩:bV),true) ((⟨(Z216.md a0 a1),(⟨((⟨#[]⟩:aD):aD),0,0,[]⟩:ah),(⟨((⟨#[]⟩:aD):aD),0,0,[]⟩:ah),(⟨0,[]⟩:aN),(⟨0,[]⟩:aN)⟩:bV),true))))))
def gd (a0:List ah)(a1:aD):Prop:=(bM (2^21) (fun y:ah=>ah.Sm (2^21) y) a0)/\(a1.size<=(2^21))
def R:=RR (p2 gd) (u2 md)
def aj {a0 a1}(h:gd a0 a1):R ((a0.map ah.row),a1)=some ((bV.r (md a0 a1).1),(md a0 a1).2):=aP (a:=(a0,a1)) h
def aW:=CN [pL 61,pS] (.iQ [(true,f130),(false,[fB])]) RT.dec R
def bt (a0)(a1)(hg:gd a0 a1):F (a0.map ah.row) a1=ret ((bV.r (md a0 a1).1),(md a0 a1).2):=by
 obtain ⟨H0,H1⟩:=hg
 unfold F md
 try simp only [SS]
 refine ct (Z191.aj H0) ?_
 refine av (fun b:bV×Bool=>ret (((bV.r b.1),b.2):dS×Bool)) (fun c1=>?_) (fun c1=>?_)
 ·all_goals exact fz
 ·have dc1:=c1
  try simp only [DC] at dc1
  refine ct (Z142.aj (le_trans H1 (by decide))) ?_
  refine av (fun b:bV×Bool=>ret (((bV.r b.1),b.2):dS×Bool)) (fun c2=>?_) (fun c2=>?_)
  ·all_goals exact fz
  ·have dc2:=c2
   try simp only [DC] at dc2
   refine ct (Z211.aj H0) ?_
   have fv3_:=Z211.fa a0 a1
   refine av (fun b:bV×Bool=>ret (((bV.r b.1),b.2):dS×Bool)) (fun c3=>?_) (fun c3=>?_)
   ·all_goals exact fz
   ·have dc3:=c3
    try simp only [DC] at dc3
    refine ct (Z216.aj H0) ?_
    have fv4_:=Z216.fa a0 a1
    refine av (fun b:bV×Bool=>ret (((bV.r b.1),b.2):dS×Bool)) (fun c4=>?_) (fun c4=>?_)
    ·have dc4:=c4
     try simp only [DC] at dc4
     refine ak (have:=(H0).1;dt) ?_
     refine ak (have:=(H0).1;have:=(H0).1;dt) ?_
     refine ct (Z213.aj (bM.getD (z:=ah.zero) H0 (by have:=(H0).1;first | assumption | omega | (simp (disch:=omega) only [wi];omega) | (simp;omega)))) ?_
     try simp only [SS]
     refine ct (Z215.aj H0) ?_
     try simp only [SS]
     refine av (fun b:bV×Bool=>ret (((bV.r b.1),b.2):dS×Bool)) (fun c5=>?_) (fun c5=>?_)
     ·have dc5:=c5
      try simp only [DC] at dc5
      refine ak (have:=(H0).1;dt) ?_
      refine ak (have:=(H0).1;have:=(H0).1;dt) ?_
      refine ct (Z213.aj (bM.getD (z:=ah.zero) H0 (by have:=(H0).1;first | assumption | omega | (simp (disch:=omega) only [wi];omega) | (simp;omega)))) ?_
      try simp only [SS]
      refine ct (Z215.aj H0) ?_
      try simp only [SS]
      all_goals exact fz
     ·all_goals exact fz
    ·have dc4:=c4
     try simp only [DC] at dc4
     refine av (fun b:bV×Bool=>ret (((bV.r b.1),b.2):dS×Bool)) (fun c6=>?_) (fun c6=>?_)
     ·have dc6:=c6
      try simp only [DC] at dc6
      refine ak (have:=(H0).1;dt) ?_
      refine ak (have:=(H0).1;have:=(H0).1;dt) ?_
      refine ct (Z213.aj (bM.getD (z:=ah.zero) H0 (by have:=(H0).1;first | assumption | omega | (simp (disch:=omega) only [wi];omega) | (simp;omega)))) ?_
      try simp only [SS]
      refine ct (Z215.aj H0) ?_
      try simp only [SS]
      all_goals exact fz
     ·all_goals exact fz
def af:cz 513 aW:=W2 68 F mix aF bt (.cons Z191.af (.cons Z142.af (.cons Z211.af (.cons Z216.af (.cons Z213.af (.cons Z215.af .nil)))))) Tryz.func513
def gw {a0:List ah}{a1:aD}(hg:gd a0 a1):bV.Sm (2^21) ((md a0 a1).1):=by
 unfold gd at hg;unfold md
 have ez:ah.Sm (2^21) ⟨⟨#[]⟩,0,0,[]⟩:=⟨zero_le _,bM.nil⟩
 have pz:aN.Sm (2^21) ⟨0,[]⟩:=bM.nil
 have he:∀i,ah.Sm (2^21) (a0.getD i ah.zero):=fun i=>bM.vO hg.1 ez
 have hp:∀x,aN.Sm (2^21) (Z215.md a0 x).1:=fun x=>Z215.gw hg.1
 simp only [Bool.cond_eq_ite]
 repeat' split
 all_goals (refine ⟨?_,?_,?_,?_⟩<;>first | exact he _ | exact hp _ | exact ez | exact pz)
def br (a0:List ah)(a1:aD):md a0 a1=Z99.md a0 a1:=by
 unfold md Z99.md
 first
 | (simp only [Z191.br,Z142.br,Z211.br,Z216.br,Z215.br];done)
 | (simp only [Z191.br,Z142.br,Z211.br,Z216.br,Z215.br];rfl)
 | rfl
end Z217
namespace Z218
def F (x0:dQ)(x1:aD):aI:=(call (Z204.R x0) fun v1=>(cond (!v1) (ret ((⟨[],false,(⟨(⟨#[]⟩:aD),0,0,[]⟩:aV),(⟨0,[]⟩:bS),(⟨0,(⟨(⟨#[]⟩:aD),0,0,[]⟩:aV),(⟨(⟨#[]⟩:aD),0,0,[]⟩:aV),(⟨0,[]⟩:bS),(⟨0,[]⟩:bS)⟩:dS)⟩:bf):bf)) (call (Z142.R x1) fun v2=>(cond (!v2) (ret ((⟨[],false,(⟨(⟨#[]⟩:aD),0,0,[]⟩:aV),(⟨0,[]⟩:bS),(⟨0,(⟨(⟨#[]⟩:aD),0,0,[]⟩:aV),(⟨(⟨#[]⟩:aD),0,0,[]⟩:aV),(⟨0,[]⟩:bS),(⟨0,[]⟩:bS)⟩:dS)⟩:bf):bf)) (call (Z138.R x0.aU) fun v3=>(call (Z211.R (x0.bO,x1)) fun v4=>(cond (decide (v4>=0)) (m2 v4 (x0.bO.length:Int) (call (Z213.R (aV.at x0.bO (toNat v4))) fun v5=>(call (Z215.R (x0.bO,x1)) fun v6=>ret ((⟨v3,true,v5,v6.1,(⟨0,(⟨(⟨#[]⟩:aD),0,0,[]⟩:aV),(⟨(⟨#[]⟩:aD),0,0,[]⟩:aV),(⟨0,[]⟩:bS),(⟨0,[]⟩:bS)⟩:dS)⟩:bf):bf)))) (call (Z217.R (x0.bO,x1)) fun v7=>ret ((⟨v3,false,(⟨(⟨#[]⟩:aD),0,0,[]⟩:aV),(⟨0,[]⟩:bS),v7.1⟩:bf):bf)))))))))
def md (a0:aL)(a1:aD):az:=(cond (!(Z204.md a0)) (⟨[],false,(⟨((⟨#[]⟩:aD):aD),0,0,[]⟩:ah),(⟨0,[]⟩:aN),(⟨0,(⟨((⟨#[]⟩:aD):aD),0,0,[]⟩:ah),(⟨((⟨#[]⟩:aD):aD),0,0,[]⟩:ah),(⟨0,[]⟩:aN),(⟨0,[]⟩:aN)⟩:bV)⟩:az) (cond (!(Z142.md a1)) (⟨[],false,(⟨((⟨#[]⟩:aD):aD),0,0,[]⟩:ah),(⟨0,[]⟩:aN),(⟨0,(⟨((⟨#[]⟩:aD):aD),0,0,[]⟩:ah),(⟨((⟨#[]⟩:aD):aD),0,0,[]⟩:ah),(⟨0,[]⟩:aN),(⟨0,[]⟩:aN)⟩:bV)⟩:az) (cond (decide ((Z211.md a0.bO a1)>=0)) (⟨a0.aU,true,(a0.bO.getD (toNat (Z211.md a0.bO a1)) ah.zero),(Z215.md a0.bO a1).1,(⟨0,(⟨((⟨#[]⟩:aD):aD),0,0,[]⟩:ah),(⟨((⟨#[]⟩:aD):aD),0,0,[]⟩:ah),(⟨0,[]⟩:aN),(⟨0,[]⟩:aN)⟩:bV)⟩:az) (⟨a0.aU,false,(⟨((⟨#[]⟩:aD):aD),0,0,[]⟩:ah),(⟨0,[]⟩:aN),(Z217.md a0.bO a1).1⟩:az))))
def gd (a0:aL)(a1:aD):Prop:=(aL.Sm (2^21) a0)/\(a1.size<=(2^21))
def R:=RR (p2 gd) (u2 md)
def aj {a0 a1}(h:gd a0 a1):R ((aL.r a0),a1)=some (az.r (md a0 a1)):=aP (a:=(a0,a1)) h
def aW:=CN [.agg sU,pS] (.agg f132) RT.dec R
def bt (a0)(a1)(hg:gd a0 a1):F (aL.r a0) a1=ret (az.r (md a0 a1)):=by
 obtain ⟨H0,H1⟩:=hg
 unfold F md
 try simp only [SS]
 refine ct (Z204.aj H0) ?_
 refine av (fun b:az=>ret ((az.r b):bf)) (fun c1=>?_) (fun c1=>?_)
 ·all_goals exact fz
 ·have dc1:=c1
  try simp only [DC] at dc1
  try have tc1:=Z204.tr (by simpa using c1)
  refine ct (Z142.aj (le_trans H1 (by decide))) ?_
  refine av (fun b:az=>ret ((az.r b):bf)) (fun c2=>?_) (fun c2=>?_)
  ·all_goals exact fz
  ·have dc2:=c2
   try simp only [DC] at dc2
   refine ct (Z138.aj H0.1) ?_
   try simp only [SS]
   refine ct (Z211.aj H0.2) ?_
   have fv4_:=Z211.fa a0.bO a1
   refine av (fun b:az=>ret ((az.r b):bf)) (fun c3=>?_) (fun c3=>?_)
   ·have dc3:=c3
    try simp only [DC] at dc3
    refine ak dt ?_
    refine ak (have:=(H0.2).1;dt) ?_
    refine ct (Z213.aj (bM.getD (z:=ah.zero) H0.2 (by first | assumption | omega | (simp (disch:=omega) only [wi];omega) | (simp;omega)))) ?_
    try simp only [SS]
    refine ct (Z215.aj H0.2) ?_
    try simp only [SS]
    all_goals exact fz
   ·refine ct (Z217.aj ⟨H0.2,H1⟩) ?_
    try simp only [SS]
    all_goals exact fz
def af:cz 437 aW:=W2 51 F mix aF bt (.cons Z204.af (.cons Z142.af (.cons Z138.af (.cons Z211.af (.cons Z213.af (.cons Z215.af (.cons Z217.af .nil))))))) Tryz.func437
def gw {a0:aL}{a1:aD}(hg:gd a0 a1):az.Sm (2^21) (md a0 a1):=by
 unfold gd at hg;unfold md
 obtain ⟨⟨hc,hl⟩,_⟩:=hg
 have ez:ah.Sm (2^21) ⟨⟨#[]⟩,0,0,[]⟩:=⟨zero_le _,bM.nil⟩
 have pz:aN.Sm (2^21) ⟨0,[]⟩:=bM.nil
 have gz:bV.Sm (2^21) ⟨0,⟨⟨#[]⟩,0,0,[]⟩,⟨⟨#[]⟩,0,0,[]⟩,⟨0,[]⟩,⟨0,[]⟩⟩:=⟨ez,ez,pz,pz⟩
 have he:∀i,ah.Sm (2^21) (a0.bO.getD i ah.zero):=fun i=>bM.vO hl ez
 have hp:∀x,aN.Sm (2^21) (Z215.md a0.bO x).1:=fun x=>Z215.gw hl
 have hga:bV.Sm (2^21) (Z217.md a0.bO a1).1:=Z217.gw ⟨hl,by assumption⟩
 simp only [Bool.cond_eq_ite]
 repeat' split
 all_goals (refine ⟨?_,?_,?_,?_⟩<;>first | exact hc | exact bM.nil | exact he _ | exact hp _ | exact hga | exact ez | exact pz | exact gz)
def br (a0:aL)(a1:aD):md a0 a1=Z100.md a0 a1:=by
 unfold md Z100.md
 first
 | (simp only [Z204.br,Z142.br,Z211.br,Z215.br,Z217.br];done)
 | (simp only [Z204.br,Z142.br,Z211.br,Z215.br,Z217.br];rfl)
 | rfl
end Z218
namespace Z219
def F (x0:cP)(x1:Int)(x2:aD):aI:=(call (Z208.R (x0,x1)) fun v1=>(cond (decide (v1<0)) (ret ((⟨[],false,(⟨(⟨#[]⟩:aD),0,0,[]⟩:aV),(⟨0,[]⟩:bS),(⟨0,(⟨(⟨#[]⟩:aD),0,0,[]⟩:aV),(⟨(⟨#[]⟩:aD),0,0,[]⟩:aV),(⟨0,[]⟩:bS),(⟨0,[]⟩:bS)⟩:dS)⟩:bf):bf)) (cond (x0.gW==4) (ret ((⟨[],false,(⟨(⟨#[]⟩:aD),0,0,[]⟩:aV),(⟨0,[]⟩:bS),(⟨0,(⟨(⟨#[]⟩:aD),0,0,[]⟩:aV),(⟨(⟨#[]⟩:aD),0,0,[]⟩:aV),(⟨0,[]⟩:bS),(⟨0,[]⟩:bS)⟩:dS)⟩:bf):bf)) (m2 v1 (x0.bJ.length:Int) (call (Z218.R ((dQ.at x0.bJ (toNat v1)),x2)) fun v2=>(cond (x0.gW==1) (ret ((⟨v2.aU,v2.cw,(⟨v2.aR.aZ,v2.aR.bI,(i64.wrap (v2.aR.bX+1)),v2.aR.bH⟩:aV),v2.eE,v2.eX⟩:bf):bf)) (cond (x0.gW==2) (cq (decide ((0:Int)<=(cond (decide ((0:Int)<(i64.wrap ((v2.aU.length:Int) - 1)))) (i64.wrap ((v2.aU.length:Int) - 1)) 0))) (cq (decide ((cond (decide ((0:Int)<(i64.wrap ((v2.aU.length:Int) - 1)))) (i64.wrap ((v2.aU.length:Int) - 1)) 0)<=(v2.aU.length:Int))) (ret ((⟨(List.take (toNat (cond (decide ((0:Int)<(i64.wrap ((v2.aU.length:Int) - 1)))) (i64.wrap ((v2.aU.length:Int) - 1)) 0)) v2.aU),v2.cw,v2.aR,v2.eE,v2.eX⟩:bf):bf)))) (cond (x0.gW==3) (ret ((⟨v2.aU,false,(⟨(⟨#[]⟩:aD),0,0,[]⟩:aV),(⟨0,[]⟩:bS),(⟨0,(⟨(⟨#[]⟩:aD),0,0,[]⟩:aV),(⟨(⟨#[]⟩:aD),0,0,[]⟩:aV),(⟨0,[]⟩:bS),(⟨0,[]⟩:bS)⟩:dS)⟩:bf):bf)) (ret (v2:bf))))))))))
def pats:List gj:=[.agg [.sl 293,aB],.rd (.int .i64),.rd (.str)]
def res:RP:=.agg [.fr 123,.rd (.bool),.rd (.str),.rd (.int .i64),.rd (.int .i64),.fr 9,.rd (.int .i64),.fr 3,.rd (.int .i64),.rd (.str),.rd (.int .i64),.rd (.int .i64),.fr 9,.rd (.str),.rd (.int .i64),.rd (.int .i64),.fr 9,.rd (.int .i64),.fr 3,.rd (.int .i64),.fr 3]
def md (a0:ay)(a1:Int)(a2:aD):az:=(cond (decide ((Z208.md a0 a1)<0)) (⟨[],false,(⟨((⟨#[]⟩:aD):aD),0,0,[]⟩:ah),(⟨0,[]⟩:aN),(⟨0,(⟨((⟨#[]⟩:aD):aD),0,0,[]⟩:ah),(⟨((⟨#[]⟩:aD):aD),0,0,[]⟩:ah),(⟨0,[]⟩:aN),(⟨0,[]⟩:aN)⟩:bV)⟩:az) (cond (a0.gW==4) (⟨[],false,(⟨((⟨#[]⟩:aD):aD),0,0,[]⟩:ah),(⟨0,[]⟩:aN),(⟨0,(⟨((⟨#[]⟩:aD):aD),0,0,[]⟩:ah),(⟨((⟨#[]⟩:aD):aD),0,0,[]⟩:ah),(⟨0,[]⟩:aN),(⟨0,[]⟩:aN)⟩:bV)⟩:az) (cond (a0.gW==1) (⟨(Z218.md (a0.bJ.getD (toNat (Z208.md a0 a1)) aL.zero) a2).aU,(Z218.md (a0.bJ.getD (toNat (Z208.md a0 a1)) aL.zero) a2).cw,(⟨(Z218.md (a0.bJ.getD (toNat (Z208.md a0 a1)) aL.zero) a2).aR.aZ,(Z218.md (a0.bJ.getD (toNat (Z208.md a0 a1)) aL.zero) a2).aR.bI,(i64.wrap ((Z218.md (a0.bJ.getD (toNat (Z208.md a0 a1)) aL.zero) a2).aR.bX+1)),(Z218.md (a0.bJ.getD (toNat (Z208.md a0 a1)) aL.zero) a2).aR.bH⟩:ah),(Z218.md (a0.bJ.getD (toNat (Z208.md a0 a1)) aL.zero) a2).eE,(Z218.md (a0.bJ.getD (toNat (Z208.md a0 a1)) aL.zero) a2).eX⟩:az) (cond (a0.gW==2) (⟨(List.take (toNat (cond (decide ((0:Int)<(i64.wrap (((Z218.md (a0.bJ.getD (toNat (Z208.md a0 a1)) aL.zero) a2).aU.length:Int) - 1)))) (i64.wrap (((Z218.md (a0.bJ.getD (toNat (Z208.md a0 a1)) aL.zero) a2).aU.length:Int) - 1)) 0)) (Z218.md (a0.bJ.getD (toNat (Z208.md a0 a1)) aL.zero) a2).aU),(Z218.md (a0.bJ.getD (toNat (Z208.md a0 a1)) aL.zero) a2).cw,(Z218.md (a0.bJ.getD (toNat (Z208.md a0 a1)) aL.zero) a2).aR,(Z218.md (a0.bJ.getD (toNat (Z208.md a0 a1)) aL.zero) a2).eE,(Z218.md (a0.bJ.getD (toNat (Z208.md a0 a1)) aL.zero) a2).eX⟩:az) (cond (a0.gW==3) (⟨(Z218.md (a0.bJ.getD (toNat (Z208.md a0 a1)) aL.zero) a2).aU,false,(⟨((⟨#[]⟩:aD):aD),0,0,[]⟩:ah),(⟨0,[]⟩:aN),(⟨0,(⟨((⟨#[]⟩:aD):aD),0,0,[]⟩:ah),(⟨((⟨#[]⟩:aD):aD),0,0,[]⟩:ah),(⟨0,[]⟩:aN),(⟨0,[]⟩:aN)⟩:bV)⟩:az) (Z218.md (a0.bJ.getD (toNat (Z208.md a0 a1)) aL.zero) a2))))))
def gd (a0:ay)(a1:Int)(a2:aD):Prop:=(ay.Sm (2^21) a0)/\(a2.size<=(2^21))
def acc (ls:List L):cP×Int×aD:=((cP.dec ls),((aA 2 ls).headD .hole).toInt,((aA 3 ls).headD .hole).toStr)
def R:(cP×Int×aD)->Option bf:=RR (p3 gd) (u3 md)
def aj {a0 a1 a2}(h:gd a0 a1 a2):R ((ay.r a0),a1,a2)=some (az.r (md a0 a1 a2)):=aP (a:=(a0,a1,a2)) h
def aW:ga:=CN pats res acc R
def bt (a0:ay)(a1:Int)(a2:aD)(hg:gd a0 a1 a2):F (ay.r a0) a1 a2=ret ((az.r (md a0 a1 a2)):bf):=by
 obtain ⟨H0,H2⟩:=hg
 unfold F md
 try simp only [SS]
 refine ct (Z208.aj H0) ?_
 have fv1_:=Z208.fa a0 a1
 refine av (fun b:az=>ret ((az.r b):bf)) (fun c1=>?_) (fun c1=>?_)
 ·all_goals exact fz
 ·have dc1:=c1
  try simp only [DC] at dc1
  refine av (fun b:az=>ret ((az.r b):bf)) (fun c2=>?_) (fun c2=>?_)
  ·all_goals exact fz
  ·have dc2:=c2
   try simp only [DC] at dc2
   refine ak (have:=(H0).1;dt) ?_
   refine ak (have:=(H0).1;have:=(H0).1;dt) ?_
   refine ct (Z218.aj ⟨(bM.getD (z:=aL.zero) H0 (by have:=(H0).1;first | assumption | omega | (simp (disch:=omega) only [wi];omega) | (simp;omega))),H2⟩) ?_
   try simp only [SS]
   refine av (fun b:az=>ret ((az.r b):bf)) (fun c3=>?_) (fun c3=>?_)
   ·all_goals exact fz
   ·have dc3:=c3
    try simp only [DC] at dc3
    refine av (fun b:az=>ret ((az.r b):bf)) (fun c4=>?_) (fun c4=>?_)
    ·have dc4:=c4
     try simp only [DC] at dc4
     refine ak (have:=((Z218.gw (a0:=a0.bJ.getD (toNat (Z208.md a0 a1)) aL.zero) (a1:=a2) ⟨(bM.getD (z:=aL.zero) H0 (by have:=(H0).1;first | assumption | omega | (simp (disch:=omega) only [wi];omega) | (simp;omega))),H2⟩).1).1;have:=(H0).1;dt) ?_
     refine ak (have:=((Z218.gw (a0:=a0.bJ.getD (toNat (Z208.md a0 a1)) aL.zero) (a1:=a2) ⟨(bM.getD (z:=aL.zero) H0 (by have:=(H0).1;first | assumption | omega | (simp (disch:=omega) only [wi];omega) | (simp;omega))),H2⟩).1).1;have:=(H0).1;dt) ?_
     all_goals exact fz
    ·refine av (fun b:az=>ret ((az.r b):bf)) (fun c5=>?_) (fun c5=>?_)
     ·all_goals exact fz
     ·all_goals exact fz
def af:cz 346 aW:=VT (live:=fun _=>[]) (nt:=54) (run:=fun _ x=>F x.1 x.2.1 x.2.2) mix aF (.cons Z208.af (.cons Z218.af .nil)) .nil Tryz.func346 (by kernel_rfl) (fun _ _=>by kernel_rfl) (fun _ a _ _ hg=>⟨0,bt a.1 a.2.1 a.2.2 hg⟩)
def br (a0:ay)(a1:Int)(a2:aD):md a0 a1 a2=Z101.md a0 a1 a2:=by
 unfold md Z101.md
 simp only [Z208.br,Z218.br]
 generalize Z100.md (a0.bJ.getD (toNat (Z93.md a0 a1)) aL.zero) a2=A
 have mx:∀n:Int,toNat (cond (decide ((0:Int)<n)) n 0)=toNat n:=by
  intro n
  by_cases h:(0:Int)<n
  ·rw [decide_eq_true h];rfl
  ·rw [decide_eq_false h];simp only [bq];omega
 have e:∀k:Nat,(⟨List.take k A.aU,A.cw,A.aR,A.eE,A.eX⟩:az)=bif decide ((A.aU.length:Int)>0) then (⟨List.take k A.aU,A.cw,A.aR,A.eE,A.eX⟩:az) else A:=by
  intro k
  obtain ⟨ch,f,e,p,g⟩:=A
  cases ch with
  | nil=>simp
  | cons x xs=>simp only [List.length_cons];rw [decide_eq_true (by omega)];rfl
 simp only [mx,<-e]
end Z219
namespace Z220
inductive Pt where
 | p0 (a:Int) (b:aD) (c:aE) (d e:Int) (f:aE)
def pid:Pt->Nat
 | .p0 ..=>3
def ck:Pt->List V
 | .p0 a b c d e f=>[.int .i64 a,.str b,.own 0,.sl none 227 c,.int .i64 d,.int .i64 e]
def cj:Pt->List aY
 | .p0 a b c d e f=>[.row 132 f]
def step (J:Pt->aI):Pt->aI
 | .p0 a b c d e f=>(cond (decide (e<d)) (m2 e (c.length:Int) (call (Z219.R ((cP.at c (toNat e)),a,b)) fun v1=>(cq (ff (((f.length:Int)+1)*304)) (J (.p0 a b c d (i64.wrap (e+1)) (f++[(bf.enc v1)])))))) (ret (f:aE)))
def start (J:Pt->aI)(x0:aE)(x1:Int)(x2:aD):aI:=(cq (decide ((0:Int)<=(cond (decide ((x0.length:Int)<4)) (x0.length:Int) 4))) (cq (decide ((cond (decide ((x0.length:Int)<4)) (x0.length:Int) 4)<=(x0.length:Int))) (J (.p0 x1 x2 (List.take (toNat ((cond (decide ((x0.length:Int)<4)) (x0.length:Int) 4) - 0)) (List.drop 0 x0)) ((List.take (toNat ((cond (decide ((x0.length:Int)<4)) (x0.length:Int) 4) - 0)) (List.drop 0 x0)).length:Int) 0 []))))
def live:Nat->Live:=fun i=>match i with | 3=>[(1,none),(2,none),(7,some 132),(15,none),(16,none),(17,none)] | _=>[]
def md (a0:List ay)(a1:Int)(a2:aD):List az:=((List.take (toNat ((cond (decide ((a0.length:Int)<4)) (a0.length:Int) 4) - 0)) (List.drop 0 a0)).map (fun (y1:ay)=>(Z219.md y1 a1 a2)))
def gd (a0:List ay)(a1:Int)(a2:aD):Prop:=(bM (2^21) (fun y:ay=>ay.Sm (2^21) y) a0)/\(a2.size<=(2^21))
def R:=RR (p3 gd) (u3 md)
def aj {a0 a1 a2}(h:gd a0 a1 a2):R ((a0.map ay.row),a1,a2)=some ((md a0 a1 a2).map az.row):=aP (a:=(a0,a1,a2)) h
def aW:=CN [pL 227,pI,pS] (oL 132) RT.dec R
def bt (a0)(a1)(a2)(hg:gd a0 a1 a2):∃n,start (iter step n) (a0.map ay.row) a1 a2=ret ((md a0 a1 a2).map az.row):=by
 obtain ⟨H0,H2⟩:=hg
 unfold start md
 try simp only [SS]
 refine dN (have:=(H0).1;dt) ?_
 refine dN (have:=(H0).1;dt) ?_
 have Bh2:(List.take (toNat ((cond (decide ((a0.length:Int)<4)) (a0.length:Int) 4) - 0)) (List.drop 0 a0)).length<=maxLen:=(by
   have:=(H0).1
   have:=((bM.take (k:=(toNat ((cond (decide ((a0.length:Int)<4)) (a0.length:Int) 4) - 0))) (bM.drop (k:=0) H0))).1
   try simp only [maxLen] at *
   omega)
 refine ex_eq (out:=(fun b:List az=>ret ((b.map az.row):aE))) (ny (g:=fun (y1:ay)=>(Z219.md y1 a1 a2)) (z:=ay.zero) (t:=fun (s3:List az)=>s3)) ?_
 refine dP (p:=Pt.p0 a1 a2 ((List.take (toNat ((cond (decide ((a0.length:Int)<4)) (a0.length:Int) 4) - 0)) (List.drop 0 a0)).map ay.row) ((List.take (toNat ((cond (decide ((a0.length:Int)<4)) (a0.length:Int) 4) - 0)) (List.drop 0 a0)).length:Int) 0 ([].map az.row)) fz ?_
 refine cm (pt:=fun (i1:Nat) (s3:List az)=>Pt.p0 a1 a2 ((List.take (toNat ((cond (decide ((a0.length:Int)<4)) (a0.length:Int) 4) - 0)) (List.drop 0 a0)).map ay.row) ((List.take (toNat ((cond (decide ((a0.length:Int)<4)) (a0.length:Int) 4) - 0)) (List.drop 0 a0)).length:Int) (i1:Int) (s3.map az.row)) (s:=([]:List az)) (out:=(fun b:List az=>ret ((b.map az.row):aE))) (fun (i1:Nat) (s3:List az)=>s3.length<=([]:List Int).length+1*i1) (fun J i1 s3 h2 hih2=>?_) (fun s3 hih2=>?_) (by simp)
 ·simp only [step,SS]
  have gr_:=hih2
  try simp only [LN] at gr_
  have bb_:=Bh2
  simp only [maxLen] at bb_
  have:=(H0).1
  have:=((bM.take (k:=(toNat ((cond (decide ((a0.length:Int)<4)) (a0.length:Int) 4) - 0))) (bM.drop (k:=0) H0))).1
  refine bB.yes (by apply decide_eq_true;omega) ?_
  refine bB.yes aJ ?_
  refine bB.yes (aO h2) ?_
  refine cr (Z219.aj ⟨(bM.getD (z:=ay.zero) (bM.take (k:=(toNat ((cond (decide ((a0.length:Int)<4)) (a0.length:Int) 4) - 0))) (bM.drop (k:=0) H0)) h2),H2⟩) ?_
  try simp only [SS]
  refine bB.yes lm ?_
  refine bB.inl (by
    have g_:=hih2
    try simp only [LN] at g_ ⊢
    first | omega | (simp;done) | (simp;omega)) ?_
  rw [aH h2 Bh2]
  all_goals exact fz
 ·simp only [step,SS]
  have gr_:=hih2
  try simp only [LN] at gr_
  have:=(H0).1
  have:=((bM.take (k:=(toNat ((cond (decide ((a0.length:Int)<4)) (a0.length:Int) 4) - 0))) (bM.drop (k:=0) H0))).1
  refine dF (by apply decide_eq_false;omega) ?_
  refine ⟨0,?_⟩
  all_goals exact fz
def af:cz 216 aW:=L3 30 pid ck cj live step start mix aF bt (.cons Z219.af .nil) Tryz.func216
def br (a0:List ay)(a1:Int)(a2:aD):md a0 a1 a2=Z102.md a0 a1 a2:=by
 rw [Z102.qd]
 unfold md
 simp only [Z219.br,Int.sub_zero,List.drop_zero]
 congr 1
 by_cases h:(a0.length:Int)<4
 ·rw [decide_eq_true h,bh,List.take_of_length_le (by omega),List.take_of_length_le (by omega)]
 ·rw [decide_eq_false h];rfl
def gw {a0:List ay}{a1:Int}{a2:aD}(hg:gd a0 a1 a2):bM (2^21) (fun y:az=>az.Sm (2^21) y) (md a0 a1 a2):=by
 rw [br]
 exact Z102.gw hg
end Z220
namespace Z221
def F (x0:aE):aI:=(call (Z185.R x0) fun v1=>(cond (!v1) (ret (((⟨0,0,0,0,0,0,0,0,(⟨[],0⟩:bE),(⟨[],0⟩:bE),0,(⟨[],0⟩:bE),false⟩:cg),false):cg×Bool)) (call (Z186.R x0) fun v2=>(call (Z135.R v2) fun v3=>ret ((v3,true):cg×Bool)))))
def md (a0:List aa):aG×Bool:=(cond (!(Z185.md a0)) ((⟨0,0,0,0,0,0,0,0,(⟨[],0⟩:aM),(⟨[],0⟩:aM),0,(⟨[],0⟩:aM),false⟩:aG),false) ((Z186.md a0),true))
def gd (a0:List aa):Prop:=(bM (2^21) (fun y:aa=>aa.Sm (2^21) y) a0)
def R:=RR gd md
def aj {a0}(h:gd a0):R (a0.map aa.row)=some ((aG.r (md a0).1),(md a0).2):=aP (a:=a0) h
def aW:=CN [pL 123] (.iQ [(true,f102),(false,[fB])]) RT.dec R
def bt (a0)(hg:gd a0):F (a0.map aa.row)=ret ((aG.r (md a0).1),(md a0).2):=by
 unfold gd at hg
 have H0:=hg
 unfold F md
 try simp only [SS]
 refine ct (Z185.aj H0) ?_
 refine av (fun b:aG×Bool=>ret (((aG.r b.1),b.2):cg×Bool)) (fun c1=>?_) (fun c1=>?_)
 ·all_goals exact fz
 ·have dc1:=c1
  try simp only [DC] at dc1
  try have tc1:=Z185.tr (by simpa using c1)
  refine ct (Z186.aj ⟨H0,(by
    have:=(H0).1
    first | assumption | exact om)⟩) ?_
  try simp only [SS]
  refine ct (Z135.aj (Z186.gw (a0:=a0) ⟨H0,(by
    have:=(H0).1
    first | assumption | exact om)⟩)) ?_
  try simp only [SS]
  all_goals exact fz
def af:cz 226 aW:=W1 11 F mix aF bt (.cons Z185.af (.cons Z186.af (.cons Z135.af .nil))) Tryz.func226
def br (a0:List aa):md a0=Z76.md a0:=by
 unfold md Z76.md
 first
 | (simp only [Z185.br];done)
 | (simp only [Z185.br];rfl)
 | rfl
end Z221
namespace Z222
def F (x0:cg)(x1:Int):aI:=(call (Z141.R (x1,x0.cK,x0.cC)) fun v1=>ret (v1:Bool))
def md (a0:aG)(a1:Int):Bool:=((Z141.md a1 a0.cK a0.cC):Bool)
def gd (a0:aG)(a1:Int):Prop:=True
def R:=RR (p2 gd) (u2 md)
def aj {a0 a1}(h:gd a0 a1):R ((aG.r a0),a1)=some (md a0 a1):=aP (a:=(a0,a1)) h
def aW:=CN [.agg gi,pI] oB RT.dec R
def bt (a0)(a1)(hg:gd a0 a1):F (aG.r a0) a1=ret (md a0 a1):=by
 unfold F md
 try simp only [SS]
 refine ct (Z141.aj trivial) ?_
 all_goals exact fz
def af:cz 383 aW:=W2 11 F mix aF bt (.cons Z141.af .nil) Tryz.func383
def br (a0:aG)(a1:Int):md a0 a1=Z109.md a0 a1:=by
 unfold md Z109.md
 first
 | (simp only [Z141.br];done)
 | (simp only [Z141.br];rfl)
 | rfl
end Z222
namespace Z223
inductive Pt where
 | p0 (a b c:Int) (d:aE)
def pid:Pt->Nat
 | .p0 ..=>3
def ck:Pt->List V
 | .p0 a b c d=>[.int .i64 a,.int .i64 b,.int .i64 c,.sl none 3 d]
def cj:Pt->List aY
 | .p0 a b c d=>[]
def step (J:Pt->aI):Pt->aI
 | .p0 a b c d=>(cond (decide (c>1)) (cond (decide ((nk .i64 b 1)>=c)) (J (.p0 a (i64.wrap (Int.tdiv b 2)) (i64.wrap (Int.tdiv (i64.wrap (c+1)) 2)) d)) (cond ((d.length:Int)==0) (ret ((0,false):Int×Bool)) (cond ((Int.tmod b 2)==0) (cq (decide ((0:Int)<(d.length:Int))) (call (Z198.R (a,(jx d 0))) fun v1=>(cq (decide ((1:Int)<=(d.length:Int))) (cq (decide ((d.length:Int)<=(d.length:Int))) (J (.p0 v1 (i64.wrap (Int.tdiv b 2)) (i64.wrap (Int.tdiv (i64.wrap (c+1)) 2)) (List.take (toNat ((d.length:Int) - 1)) (List.drop 1 d)))))))) (cq (decide ((0:Int)<(d.length:Int))) (call (Z198.R ((jx d 0),a)) fun v2=>(cq (decide ((1:Int)<=(d.length:Int))) (cq (decide ((d.length:Int)<=(d.length:Int))) (J (.p0 v2 (i64.wrap (Int.tdiv b 2)) (i64.wrap (Int.tdiv (i64.wrap (c+1)) 2)) (List.take (toNat ((d.length:Int) - 1)) (List.drop 1 d))))))))))) (cond (decide ((d.length:Int)>0)) (ret ((0,false):Int×Bool)) (ret ((a,true):Int×Bool))))
def start (J:Pt->aI)(x0 x1 x2:Int)(x3:aE):aI:=(cond (decide (x2<1)) (ret ((0,false):Int×Bool)) (cond (decide (x2>12)) (ret ((0,false):Int×Bool)) (call (Z141.R (x1,0,(i64.wrap (x2 - 1)))) fun v1=>(cond (!v1) (ret ((0,false):Int×Bool)) (J (.p0 x0 x1 x2 x3))))))
def live:Nat->Live:=fun i=>match i with | 3=>[(0,none),(1,none),(2,none),(3,none)] | _=>[]
def md (a0 a1 a2:Int)(a3:List Int):Int×Bool:=Z110.md a0 a1 a2 a3
def gd (a0 a1 a2:Int)(a3:List Int):Prop:=bM (2^38) (fun y:Int=>True) a3
def R:=RR (p4 gd) (u4 md)
def aj {a0 a1 a2 a3}(h:gd a0 a1 a2 a3):R (a0,a1,a2,(a3.map bk))=some ((md a0 a1 a2 a3).1,(md a0 a1 a2 a3).2):=aP (a:=(a0,a1,a2,a3)) h
def aW:=CN [pI,pI,pI,pL 3] (.iQ [(false,[fI]),(false,[fB])]) RT.dec R
def bt (a0)(a1)(a2)(a3)(hg:gd a0 a1 a2 a3):∃n,start (iter step n) a0 a1 a2 (a3.map bk)=ret ((md a0 a1 a2 a3).1,(md a0 a1 a2 a3).2):=by
 have tm:∀b:Int,0<=b->b<=11->Int.tmod b 2=b % 2:=fun b h1 h2=>Int.tmod_eq_emod_of_nonneg h1
 have td:∀b:Int,0<=b->b<=13->i64.wrap (Int.tdiv b 2)=b / 2:=fun b h1 h2=>by
  rw [Int.tdiv_eq_ediv_of_nonneg h1,Go.IntWalk.i64_in _ (by omega)]
 have t1:∀b:Int,0<=b->b<=13->i64.wrap (b+1)=b+1:=fun b h1 h2=>Go.IntWalk.i64_in _ (by omega)
 have xr:∀b:Int,0<=b->b<=11->nk .i64 b 1=if b % 2=0 then b+1 else b - 1:=by
  intro b h1 h2
  have :b=0∨b=1∨b=2∨b=3∨b=4∨b=5∨b=6∨b=7∨b=8∨b=9∨b=10∨b=11:=by omega
  rcases this with h | h | h | h | h | h | h | h | h | h | h | h<;>subst h<;>decide
 have key:∀(k:Nat) (leaf i n:Int) (p:List Int),p.length<=2^38->0<=i->i<n->n<=12->n<=2^k->∃m,iter step m (Pt.p0 leaf i n (p.map bk))=ret ((Z110.tf (k+1) leaf i n p).1,(Z110.tf (k+1) leaf i n p).2):=by
  have fin:∀(leaf:Int) (p:List Int) (J:Pt->aI),step J (Pt.p0 leaf 0 1 (p.map bk))=ret ((if p.isEmpty then (leaf,true) else (0,false)).1,(if p.isEmpty then (leaf,true) else (0,false)).2):=by
   intro leaf p J
   simp only [step,List.length_map]
   refine cT (by decide) ?_
   cases p with
   | nil=>rfl
   | cons x xs=>exact ak (decide_eq_true (by simp only [List.length_cons];omega)) rfl
  intro k
  induction k with
  | zero=>
   intro leaf i n p hp h1 h2 h3 h4
   have hn:n=1:=by omega
   subst hn
   have hi:i=0:=by omega
   subst hi
   exact ⟨1,(fin leaf p _).trans rfl⟩
  | succ k ih=>
   intro leaf i n p hp h1 h2 h3 h4
   have hk:n<=2*2^k:=by rw [Int.pow_succ] at h4;omega
   unfold Z110.tf
   by_cases hn:n>1
   ·have e1:=tm i h1 (by omega)
    have e2:=td i h1 (by omega)
    have e3:=t1 n (by omega) (by omega)
    have e4:=td (n+1) (by omega) (by omega)
    have e6:=xr i h1 (by omega)
    rw [if_pos hn]
    by_cases hc:i % 2=1∨i+1<n
    ·have hx:decide (nk .i64 i 1>=n)=false:=by
      rw [e6]
      split
      ·exact decide_eq_false (by omega)
      ·exact decide_eq_false (by omega)
     rw [if_pos hc]
     cases p with
     | nil=>
      refine ⟨1,?_⟩
      show step (iter step 0) (Pt.p0 _ _ _ _)=_
      simp only [step,hx]
      exact ak (decide_eq_true (by omega)) (cT rfl (ak rfl rfl))
     | cons x xs=>
      simp only [List.length_cons] at hp
      obtain ⟨m,hm⟩:=ih (if i % 2=1 then Z85.md x leaf else Z85.md leaf x) (i / 2) ((n+1) / 2) xs (by omega) (by omega) (by omega) (by omega) (by omega)
      refine ⟨m+1,?_⟩
      show step (iter step m) (Pt.p0 _ _ _ _)=_
      have ht:List.take (toNat ((xs.length:Int)+1 - 1)) (List.drop 1 ((x::xs).map bk))=xs.map bk:=by
       simp only [List.map_cons,List.drop_succ_cons,List.drop_zero]
       exact List.take_of_length_le (by simp)
      have hl:(((x::xs).map bk).length:Int)=(xs.length:Int)+1:=by simp
      simp only [step,hx,e1,e2,e3,e4,ht,hl]
      refine ak (decide_eq_true (by omega)) (cT rfl (cT (beq_eq_false_iff_ne.2 (by omega)) ?_))
      have hat:jx ((x::xs).map bk) 0=x:=rfl
      rw [hat]
      by_cases hp:i % 2=1
      ·rw [if_pos hp] at hm
       rw [hp]
       refine cT rfl (ak (decide_eq_true (by omega)) (bg (Z85.md x leaf) (by have:=Z198.aj (a0:=x) (a1:=leaf) trivial;rw [Z198.br] at this;exact this) (ak (decide_eq_true (by omega)) (ak (decide_eq_true (by omega)) ?_))))
       rw [if_pos rfl]
       exact hm
      ·rw [if_neg hp] at hm
       have h0:i % 2=0:=by omega
       rw [h0]
       refine ak rfl (ak (decide_eq_true (by omega)) (bg (Z85.md leaf x) (by have:=Z198.aj (a0:=leaf) (a1:=x) trivial;rw [Z198.br] at this;exact this) (ak (decide_eq_true (by omega)) (ak (decide_eq_true (by omega)) ?_))))
       rw [if_neg (by omega)]
       exact hm
    ·have hx:decide (nk .i64 i 1>=n)=true:=by
      rw [e6,if_pos (by omega)]
      exact decide_eq_true (by omega)
     rw [if_neg hc]
     obtain ⟨m,hm⟩:=ih leaf (i / 2) ((n+1) / 2) p hp (by omega) (by omega) (by omega) (by omega)
     refine ⟨m+1,?_⟩
     show step (iter step m) (Pt.p0 _ _ _ _)=_
     simp only [step,hx,e2,e3,e4]
     exact ak (decide_eq_true (by omega)) (ak rfl hm)
   ·have hn1:n=1:=by omega
    subst hn1
    have hi:i=0:=by omega
    subst hi
    refine ⟨1,(fin leaf p _).trans ?_⟩
    rw [if_neg (show ¬(1:Int)>1 by omega)]
 unfold start md Z110.md
 obtain ⟨H3,_⟩:=hg
 by_cases c1:a2<1
 ·refine ⟨0,ak (decide_eq_true c1) ?_⟩
  rw [show Z47.md a2 1 12=false from by simp [Z47.md];omega];rfl
 refine dF (decide_eq_false c1) ?_
 by_cases c2:a2>12
 ·refine ⟨0,ak (decide_eq_true c2) ?_⟩
  rw [show Z47.md a2 1 12=false from by simp [Z47.md];omega];rfl
 refine dF (decide_eq_false c2) ?_
 rw [show Z47.md a2 1 12=true from by simp [Z47.md];omega]
 simp only [Bool.not_true,bq]
 refine fm (Z47.md a1 0 (i64.wrap (a2 - 1))) (by have:=Z141.aj (a0:=a1) (a1:=0) (a2:=i64.wrap (a2 - 1)) trivial;rw [Z141.br] at this;exact this) ?_
 cases hd:Z47.md a1 0 (i64.wrap (a2 - 1))
 ·exact ⟨0,rfl⟩
 rw [Go.IntWalk.i64_in _ (by omega)] at hd
 have i2:0<=a1/\a1<=a2 - 1:=by simpa [Z47.md] using hd
 exact key 4 a0 a1 a2 a3 H3 (by omega) (by omega) (by omega) (by omega)
def af:cz 540 aW:=L4 56 pid ck cj live step start mix aF bt (.cons Z141.af (.cons Z198.af .nil)) Tryz.func540
def br (a0 a1 a2:Int)(a3:List Int):md a0 a1 a2 a3=Z110.md a0 a1 a2 a3:=by
 unfold md Z110.md
 first
 | (simp only [Z141.br,Z198.br];done)
 | (simp only [Z141.br,Z198.br];rfl)
 | rfl
end Z223
namespace Z224
def F (x0 x1:Int)(x2:aV)(x3:bS):aI:=(call (Z195.R x2) fun v1=>(call (Z223.R (v1,x3.eF,x1,x3.bH)) fun v2=>(cond v2.2 (call (Z187.R x2) fun v3=>(cond v3 (call (Z201.R (x1,v2.1)) fun v4=>ret ((v4==x0):Bool)) bz)) bz)))
def md (a0 a1:Int)(a2:ah)(a3:aN):Bool:=(cond ((Z223.md (Z195.md a2) a3.eF a1 a3.bH).2) (cond (Z187.md a2) (((Z201.md a1 ((Z223.md (Z195.md a2) a3.eF a1 a3.bH).1))==a0):Bool) (false:Bool)) (false:Bool))
def gd (a0 a1:Int)(a2:ah)(a3:aN):Prop:=(ah.Sm (2^21) a2)/\(aN.Sm (2^21) a3)
def R:=RR (p4 gd) (u4 md)
def aj {a0 a1 a2 a3}(h:gd a0 a1 a2 a3):R (a0,a1,(ah.r a2),(aN.r a3))=some (md a0 a1 a2 a3):=aP (a:=(a0,a1,a2,a3)) h
def aW:=CN [pI,pI,.agg rE,.agg rB] oB RT.dec R
def bt (a0)(a1)(a2)(a3)(hg:gd a0 a1 a2 a3):F a0 a1 (ah.r a2) (aN.r a3)=ret (md a0 a1 a2 a3):=by
 obtain ⟨H2,H3⟩:=hg
 unfold F md
 try simp only [SS]
 refine ct (Z195.aj H2) ?_
 refine ct (Z223.aj (H3.mono (by decide) (fun x hx=>trivial))) ?_
 refine av ret (fun c1=>?_) (fun _=>rfl)
 refine ct (Z187.aj H2) ?_
 refine av ret (fun c2=>?_) (fun _=>rfl)
 refine ct (Z201.aj trivial) ?_
 all_goals exact fz
def af:cz 465 aW:=W4 34 F mix aF bt (.cons Z195.af (.cons Z223.af (.cons Z187.af (.cons Z201.af .nil)))) Tryz.func465
def br (a0 a1:Int)(a2:ah)(a3:aN):md a0 a1 a2 a3=Z111.md a0 a1 a2 a3:=by
 unfold md Z111.md
 simp only [Z223.br,Z195.br,Z187.br,Z201.br]
 cases Z77.md a2<;>cases (Z110.md (Z83.md a2) a3.eF a1 a3.bH).2<;>rfl
end Z224
namespace Z225
inductive Pt where
 | p0 (a b:aE) (c d:Int)
def pid:Pt->Nat
 | .p0 ..=>4
def ck:Pt->List V
 | .p0 a b c d=>[.sl none 9 a,.sl none 9 b,.int .i64 c,.int .i64 d]
def cj:Pt->List aY
 | .p0 a b c d=>[]
def step (J:Pt->aI):Pt->aI
 | .p0 a b c d=>(cond (decide (d<c)) (m2 d (a.length:Int) (m2 d (b.length:Int) (cond (!((qi a (toNat d))==(qi b (toNat d)))) bz (J (.p0 a b c (i64.wrap (d+1))))))) (ret (true:Bool)))
def start (J:Pt->aI)(x0 x1:aE):aI:=(cond ((x0.length:Int) != (x1.length:Int)) bz (J (.p0 x0 x1 (x0.length:Int) 0)))
def live:Nat->Live:=fun i=>match i with | 4=>[(0,none),(1,none),(12,none),(13,none)] | _=>[]
def md (a0 a1:List aD):Bool:=(bif ((a0.length:Int) != (a1.length:Int)) then (false:Bool) else (eD (S:=Unit) (β:=Bool) (fun (i2:Nat) (s4:Unit)=>(cond (!((a0.getD i2 ⟨#[]⟩)==(a1.getD i2 ⟨#[]⟩))) (.inr (false:Bool)) (.inl ()))) (fun (s4:Unit)=>(true:Bool)) a0.length 0 ()))
def gd (a0 a1:List aD):Prop:=(bM (2^21) (fun y:aD=>y.size<=(2^21)) a0)/\(bM (2^21) (fun y:aD=>y.size<=(2^21)) a1)
def R:=RR (p2 gd) (u2 md)
def aj {a0 a1}(h:gd a0 a1):R ((a0.map cG),(a1.map cG))=some (md a0 a1):=aP (a:=(a0,a1)) h
def aW:=CN [pL 9,pL 9] oB RT.dec R
def bt (a0)(a1)(hg:gd a0 a1):∃n,start (iter step n) (a0.map cG) (a1.map cG)=ret (md a0 a1):=by
 obtain ⟨H0,H1⟩:=hg
 unfold start md
 try simp only [SS]
 refine hU ret (fun _=>⟨0,rfl⟩) (fun c1=>?_)
 have dc1:=c1
 try simp only [DC] at dc1
 have Bh3:a0.length<=maxLen:=(by
   have:=(H0).1
   try simp only [maxLen] at *
   omega)
 refine dP (p:=Pt.p0 (a0.map cG) (a1.map cG) (a0.length:Int) 0) fz ?_
 refine cm (pt:=fun (i2:Nat) (s4:Unit)=>Pt.p0 (a0.map cG) (a1.map cG) (a0.length:Int) (i2:Int)) (s:=(():Unit)) (out:=ret) (fun _ _=>True) (fun J i2 s4 h3 hih3=>?_) (fun s4 hih3=>?_) trivial
 ·simp only [step,SS]
  have bb_:=Bh3
  simp only [maxLen] at bb_
  have:=(H0).1
  refine bB.yes (by apply decide_eq_true;omega) ?_
  refine bB.yes aJ ?_
  refine bB.yes (aO h3) ?_
  refine bB.yes aJ ?_
  refine bB.yes (have:=(H1).1;dt) ?_
  refine bB.bif (fun _=>bB.inr rfl) (fun c5=>?_)
  refine bB.inl trivial ?_
  rw [aH h3 Bh3]
  all_goals exact fz
 ·simp only [step,SS]
  have:=(H0).1
  refine dF (by apply decide_eq_false;omega) ?_
  refine ⟨0,?_⟩
  all_goals exact fz
def af:cz 289 aW:=L2 26 pid ck cj live step start mix aF bt .nil Tryz.func289
def md_eq (a0 a1:List aD):md a0 a1=eg a0 a1:=by
 unfold md
 refine kA (⟨#[]⟩) (fun i s h h2=>?_) (fun s=>rfl)
 simp only [bne,fC,bool_beq,eV]
 cases eg _ _<;>rfl
end Z225
namespace Z226
def F (x0 x1:aV):aI:=(cond (x0.aZ==x1.aZ) (cond (x0.bI==x1.bI) (cond (x0.bX==x1.bX) (call (Z225.R (x0.bH,x1.bH)) fun v1=>ret (v1:Bool)) bz) bz) bz)
def md (a0 a1:ah):Bool:=(cond (a0.aZ==a1.aZ) (cond (a0.bI==a1.bI) (cond (a0.bX==a1.bX) ((Z225.md a0.bH a1.bH):Bool) (false:Bool)) (false:Bool)) (false:Bool))
def gd (a0 a1:ah):Prop:=(ah.Sm (2^21) a0)/\(ah.Sm (2^21) a1)
def R:=RR (p2 gd) (u2 md)
def aj {a0 a1}(h:gd a0 a1):R ((ah.r a0),(ah.r a1))=some (md a0 a1):=aP (a:=(a0,a1)) h
def aW:=CN [.agg rE,.agg rE] oB RT.dec R
def bt (a0)(a1)(hg:gd a0 a1):F (ah.r a0) (ah.r a1)=ret (md a0 a1):=by
 obtain ⟨H0,H1⟩:=hg
 unfold F md
 try simp only [SS]
 refine av ret (fun c1=>?_) (fun _=>rfl)
 refine av ret (fun c2=>?_) (fun _=>rfl)
 refine av ret (fun c3=>?_) (fun _=>rfl)
 refine ct (Z225.aj ⟨H0.2,H1.2⟩) ?_
 all_goals exact fz
def af:cz 110 aW:=W2 31 F mix aF bt (.cons Z225.af .nil) Tryz.func110
def md_eq (a0 a1:ah):md a0 a1=eg a0 a1:=by
 unfold md
 cases a0;cases a1
 rw [Bool.eq_iff_iff]
 simp [dy,eV,ah.mk.injEq,Z225.md_eq]
 try (constructor<;>(intro h;simp_all))
end Z226
namespace Z227
def F (x0 x1:bS):aI:=(cond (x0.eF==x1.eF) (call (Z177.R (x0.bH,x1.bH)) fun v1=>ret (v1:Bool)) bz)
def md (a0 a1:aN):Bool:=(cond (a0.eF==a1.eF) ((Z177.md a0.bH a1.bH):Bool) (false:Bool))
def gd (a0 a1:aN):Prop:=(aN.Sm (2^21) a0)/\(aN.Sm (2^21) a1)
def R:=RR (p2 gd) (u2 md)
def aj {a0 a1}(h:gd a0 a1):R ((aN.r a0),(aN.r a1))=some (md a0 a1):=aP (a:=(a0,a1)) h
def aW:=CN [.agg rB,.agg rB] oB RT.dec R
def bt (a0)(a1)(hg:gd a0 a1):F (aN.r a0) (aN.r a1)=ret (md a0 a1):=by
 obtain ⟨H0,H1⟩:=hg
 unfold F md
 try simp only [SS]
 refine av ret (fun c1=>?_) (fun _=>rfl)
 refine ct (Z177.aj ⟨(H0.mono (by decide) (fun x hx=>trivial)),(H1.mono (by decide) (fun x hx=>trivial))⟩) ?_
 all_goals exact fz
def af:cz 273 aW:=W2 17 F mix aF bt (.cons Z177.af .nil) Tryz.func273
def md_eq (a0 a1:aN):md a0 a1=eg a0 a1:=by
 unfold md
 cases a0;cases a1
 rw [Bool.eq_iff_iff]
 simp [dy,eV,aN.mk.injEq,Z177.md_eq]
 try (constructor<;>(intro h;simp_all))
end Z227
namespace Z228
def F (x0 x1:dS):aI:=(cond (x0.eF==x1.eF) (call (Z226.R (x0.aS,x1.aS)) fun v1=>(cond v1 (call (Z226.R (x0.cJ,x1.cJ)) fun v2=>(cond v2 (call (Z227.R (x0.eH,x1.eH)) fun v3=>(cond v3 (call (Z227.R (x0.dh,x1.dh)) fun v4=>ret (v4:Bool)) bz)) bz)) bz)) bz)
def md (a0 a1:bV):Bool:=(cond (a0.eF==a1.eF) (cond (Z226.md a0.aS a1.aS) (cond (Z226.md a0.cJ a1.cJ) (cond (Z227.md a0.eH a1.eH) ((Z227.md a0.dh a1.dh):Bool) (false:Bool)) (false:Bool)) (false:Bool)) (false:Bool))
def gd (a0 a1:bV):Prop:=(bV.Sm (2^21) a0)/\(bV.Sm (2^21) a1)
def R:=RR (p2 gd) (u2 md)
def aj {a0 a1}(h:gd a0 a1):R ((bV.r a0),(bV.r a1))=some (md a0 a1):=aP (a:=(a0,a1)) h
def aW:=CN [.agg vX,.agg vX] oB RT.dec R
def bt (a0)(a1)(hg:gd a0 a1):F (bV.r a0) (bV.r a1)=ret (md a0 a1):=by
 obtain ⟨H0,H1⟩:=hg
 unfold F md
 try simp only [SS]
 refine av ret (fun c1=>?_) (fun _=>rfl)
 refine ct (Z226.aj ⟨H0.1,H1.1⟩) ?_
 refine av ret (fun c2=>?_) (fun _=>rfl)
 refine ct (Z226.aj ⟨H0.2.1,H1.2.1⟩) ?_
 refine av ret (fun c3=>?_) (fun _=>rfl)
 refine ct (Z227.aj ⟨H0.2.2.1,H1.2.2.1⟩) ?_
 refine av ret (fun c4=>?_) (fun _=>rfl)
 refine ct (Z227.aj ⟨H0.2.2.2,H1.2.2.2⟩) ?_
 all_goals exact fz
def af:cz 274 aW:=W2 38 F mix aF bt (.cons Z226.af (.cons Z227.af .nil)) Tryz.func274
def md_eq (a0 a1:bV):md a0 a1=eg a0 a1:=by
 unfold md
 cases a0;cases a1
 rw [Bool.eq_iff_iff]
 simp [dy,eV,bV.mk.injEq,Z226.md_eq,Z227.md_eq]
 try (constructor<;>(intro h;simp_all))
end Z228
namespace Z229
def F (x0:aV):aI:=(call (Z226.R (x0,(⟨(⟨#[]⟩:aD),0,0,[]⟩:aV))) fun v1=>ret (v1:Bool))
def md (a0:ah):Bool:=((Z226.md a0 (⟨((⟨#[]⟩:aD):aD),0,0,[]⟩:ah)):Bool)
def gd (a0:ah):Prop:=(ah.Sm (2^21) a0)
def R:=RR gd md
def aj {a0}(h:gd a0):R (ah.r a0)=some (md a0):=aP (a:=a0) h
def aW:=CN [.agg rE] oB RT.dec R
def bt (a0)(hg:gd a0):F (ah.r a0)=ret (md a0):=by
 unfold gd at hg
 have H0:=hg
 unfold F md
 try simp only [SS]
 refine ct (Z226.aj (a1:=(⟨((⟨#[]⟩:aD):aD),0,0,[]⟩:ah)) ⟨H0,⟨(by decide),bM.nil⟩⟩) ?_
 all_goals exact fz
def af:cz 467 aW:=W1 6 F mix aF bt (.cons Z226.af .nil) Tryz.func467
end Z229
namespace Z230
def F (x0:bS):aI:=(call (Z227.R (x0,(⟨0,[]⟩:bS))) fun v1=>ret (v1:Bool))
def md (a0:aN):Bool:=((Z227.md a0 (⟨0,[]⟩:aN)):Bool)
def gd (a0:aN):Prop:=(aN.Sm (2^21) a0)
def R:=RR gd md
def aj {a0}(h:gd a0):R (aN.r a0)=some (md a0):=aP (a:=a0) h
def aW:=CN [.agg rB] oB RT.dec R
def bt (a0)(hg:gd a0):F (aN.r a0)=ret (md a0):=by
 unfold gd at hg
 have H0:=hg
 unfold F md
 try simp only [SS]
 refine ct (Z227.aj (a1:=(⟨0,[]⟩:aN)) ⟨H0,bM.nil⟩) ?_
 all_goals exact fz
def af:cz 468 aW:=W1 6 F mix aF bt (.cons Z227.af .nil) Tryz.func468
end Z230
namespace Z231
def F (x0 x1:Int)(x2:aV)(x3:bS)(x4:Int):aI:=(call (Z141.R (x4,0,(i64.wrap (x1 - 1)))) fun v1=>(cond (!v1) (call (Z229.R x2) fun v2=>(cond v2 (call (Z230.R x3) fun v3=>ret (v3:Bool)) bz)) (call (Z224.R (x0,x1,x2,x3)) fun v4=>(cond v4 (ret ((x3.eF==x4):Bool)) bz))))
def md (a0 a1:Int)(a2:ah)(a3:aN)(a4:Int):Bool:=(cond (!(Z141.md a4 0 (i64.wrap (a1 - 1)))) (cond (Z229.md a2) ((Z230.md a3):Bool) (false:Bool)) (cond (Z224.md a0 a1 a2 a3) ((a3.eF==a4):Bool) (false:Bool)))
def gd (a0 a1:Int)(a2:ah)(a3:aN)(a4:Int):Prop:=(ah.Sm (2^21) a2)/\(aN.Sm (2^21) a3)
def R:=RR (p5 gd) (u5 md)
def aj {a0 a1 a2 a3 a4}(h:gd a0 a1 a2 a3 a4):R (a0,a1,(ah.r a2),(aN.r a3),a4)=some (md a0 a1 a2 a3 a4):=aP (a:=(a0,a1,a2,a3,a4)) h
def aW:=CN [pI,pI,.agg rE,.agg rB,pI] oB RT.dec R
def bt (a0)(a1)(a2)(a3)(a4)(hg:gd a0 a1 a2 a3 a4):F a0 a1 (ah.r a2) (aN.r a3) a4=ret (md a0 a1 a2 a3 a4):=by
 obtain ⟨H2,H3⟩:=hg
 unfold F md
 try simp only [SS]
 refine ct (Z141.aj trivial) ?_
 refine av ret (fun c1=>?_) (fun c1=>?_)
 ·refine ct (Z229.aj H2) ?_
  refine av ret (fun c2=>?_) (fun _=>rfl)
  refine ct (Z230.aj H3) ?_
  all_goals exact fz
 ·refine ct (Z224.aj ⟨H2,H3⟩) ?_
  refine av ret (fun c3=>?_) (fun _=>rfl)
  all_goals exact fz
def af:cz 544 aW:=W5 33 F mix aF bt (.cons Z141.af (.cons Z229.af (.cons Z230.af (.cons Z224.af .nil)))) Tryz.func544
end Z231
namespace Z232
def F (x0 x1:Int)(x2:aD)(x3:dS):aI:=(call (Z142.R x2) fun v1=>(cond (!v1) bz (call (Z141.R (x3.eF,0,x1)) fun v2=>(cond (!v2) bz (cond (x1==0) (call (Z202.R []) fun v3=>(cond (x0 != v3) bz (call (Z231.R (x0,x1,x3.aS,x3.eH,(i64.wrap (x3.eF - 1)))) fun v4=>(cond (!v4) bz (call (Z231.R (x0,x1,x3.cJ,x3.dh,x3.eF)) fun v5=>(cond (!v5) bz (cond (x3.eF==0) (cond (x3.eF==x1) (ret (true:Bool)) (call (Z190.R (x3.cJ.aZ,x2)) fun v6=>ret ((decide (v6>0)):Bool))) (call (Z190.R (x3.aS.aZ,x2)) fun v7=>(cond (decide (v7<0)) (cond (x3.eF==x1) (ret (true:Bool)) (call (Z190.R (x3.cJ.aZ,x2)) fun v8=>ret ((decide (v8>0)):Bool))) bz))))))))) (call (Z231.R (x0,x1,x3.aS,x3.eH,(i64.wrap (x3.eF - 1)))) fun v9=>(cond (!v9) bz (call (Z231.R (x0,x1,x3.cJ,x3.dh,x3.eF)) fun v10=>(cond (!v10) bz (cond (x3.eF==0) (cond (x3.eF==x1) (ret (true:Bool)) (call (Z190.R (x3.cJ.aZ,x2)) fun v11=>ret ((decide (v11>0)):Bool))) (call (Z190.R (x3.aS.aZ,x2)) fun v12=>(cond (decide (v12<0)) (cond (x3.eF==x1) (ret (true:Bool)) (call (Z190.R (x3.cJ.aZ,x2)) fun v13=>ret ((decide (v13>0)):Bool))) bz))))))))))))
def md (a0 a1:Int)(a2:aD)(a3:bV):Bool:=(cond (!(Z142.md a2)) (false:Bool) (cond (!(Z141.md a3.eF 0 a1)) (false:Bool) (cond (a1==0) (cond (a0 != (Z202.md [])) (false:Bool) (cond (!(Z231.md a0 a1 a3.aS a3.eH (i64.wrap (a3.eF - 1)))) (false:Bool) (cond (!(Z231.md a0 a1 a3.cJ a3.dh a3.eF)) (false:Bool) (cond (a3.eF==0) (cond (a3.eF==a1) (true:Bool) ((decide ((Z190.md a3.cJ.aZ a2)>0)):Bool)) (cond (decide ((Z190.md a3.aS.aZ a2)<0)) (cond (a3.eF==a1) (true:Bool) ((decide ((Z190.md a3.cJ.aZ a2)>0)):Bool)) (false:Bool)))))) (cond (!(Z231.md a0 a1 a3.aS a3.eH (i64.wrap (a3.eF - 1)))) (false:Bool) (cond (!(Z231.md a0 a1 a3.cJ a3.dh a3.eF)) (false:Bool) (cond (a3.eF==0) (cond (a3.eF==a1) (true:Bool) ((decide ((Z190.md a3.cJ.aZ a2)>0)):Bool)) (cond (decide ((Z190.md a3.aS.aZ a2)<0)) (cond (a3.eF==a1) (true:Bool) ((decide ((Z190.md a3.cJ.aZ a2)>0)):Bool)) (false:Bool))))))))
def gd (a0 a1:Int)(a2:aD)(a3:bV):Prop:=(a2.size<=(2^21))/\(bV.Sm (2^21) a3)
def R:=RR (p4 gd) (u4 md)
def aj {a0 a1 a2 a3}(h:gd a0 a1 a2 a3):R (a0,a1,a2,(bV.r a3))=some (md a0 a1 a2 a3):=aP (a:=(a0,a1,a2,a3)) h
def aW:=CN [pI,pI,pS,.agg vX] oB RT.dec R
def bt (a0)(a1)(a2)(a3)(hg:gd a0 a1 a2 a3):F a0 a1 a2 (bV.r a3)=ret (md a0 a1 a2 a3):=by
 obtain ⟨H2,H3⟩:=hg
 unfold F md
 try simp only [SS]
 refine ct (Z142.aj (le_trans H2 (by decide))) ?_
 refine av ret (fun _=>rfl) (fun c1=>?_)
 refine ct (Z141.aj trivial) ?_
 refine av ret (fun _=>rfl) (fun c2=>?_)
 refine av ret (fun c3=>?_) (fun c3=>?_)
 ·refine bg (Z202.md []) (rq (Z202.aj (a0:=[]) bM.nil)) ?_
  refine av ret (fun _=>rfl) (fun c4=>?_)
  refine ct (Z231.aj ⟨H3.1,H3.2.2.1⟩) ?_
  refine av ret (fun _=>rfl) (fun c5=>?_)
  refine ct (Z231.aj ⟨H3.2.1,H3.2.2.2⟩) ?_
  refine av ret (fun _=>rfl) (fun c6=>?_)
  refine av ret (fun c7=>?_) (fun c7=>?_)
  ·refine av ret (fun _=>rfl) (fun c8=>?_)
   refine ct (Z190.aj trivial) ?_
   all_goals exact fz
  ·refine ct (Z190.aj trivial) ?_
   refine av ret (fun c9=>?_) (fun _=>rfl)
   refine av ret (fun _=>rfl) (fun c10=>?_)
   refine ct (Z190.aj trivial) ?_
   all_goals exact fz
 ·refine ct (Z231.aj ⟨H3.1,H3.2.2.1⟩) ?_
  refine av ret (fun _=>rfl) (fun c11=>?_)
  refine ct (Z231.aj ⟨H3.2.1,H3.2.2.2⟩) ?_
  refine av ret (fun _=>rfl) (fun c12=>?_)
  refine av ret (fun c13=>?_) (fun c13=>?_)
  ·refine av ret (fun _=>rfl) (fun c14=>?_)
   refine ct (Z190.aj trivial) ?_
   all_goals exact fz
  ·refine ct (Z190.aj trivial) ?_
   refine av ret (fun c15=>?_) (fun _=>rfl)
   refine av ret (fun _=>rfl) (fun c16=>?_)
   refine ct (Z190.aj trivial) ?_
   all_goals exact fz
def af:cz 466 aW:=W4 76 F mix aF bt (.cons Z142.af (.cons Z141.af (.cons Z202.af (.cons Z231.af (.cons Z190.af .nil))))) Tryz.func466
def Ca (a0 a1:Int)(a2:aD)(a3:bV)(hc:a1<=1000):md a0 a1 a2 a3=Z117.md a0 a1 a2 a3:=by
 unfold md Z117.md Z231.md Z116.md Z229.md Z230.md
 simp only [Z142.br,Z141.br,Z202.br,Z224.br,Z226.md_eq,Z113.md_eq,Z227.md_eq,Z114.md_eq,Z190.br,Z78.lt,Z78.gt]
 cases Z48.md a2
 ·rfl
 cases hr:Z47.md a3.eF 0 a1
 ·rfl
 have hi:0<=a3.eF/\a3.eF<=a1:=by simpa [Z47.md] using hr
 have w1:i64.wrap (a1 - 1)=a1 - 1:=Go.IntWalk.i64_in _ (by omega)
 have w2:i64.wrap (a3.eF - 1)=a3.eF - 1:=Go.IntWalk.i64_in _ (by omega)
 have e1:Z47.md (a3.eF - 1) 0 (a1 - 1)=!(a3.eF==0):=by
  rw [Bool.eq_iff_iff];simp [Z47.md];omega
 have e2:Z47.md a3.eF 0 (a1 - 1)=!(a3.eF==a1):=by
  rw [Bool.eq_iff_iff];simp [Z47.md];omega
 simp only [w1,w2,e1,e2,bne]
 generalize (a3.eF==0)=z
 generalize (a3.eF==a1)=e
 generalize (a1==0)=c0
 generalize (a0==Z89.md [])=rt
 generalize eg a3.aS _=x1
 generalize eg a3.eH _=x2
 generalize eg a3.cJ _=x3
 generalize eg a3.dh _=x4
 generalize Z111.md a0 a1 a3.aS a3.eH=k1
 generalize Z111.md a0 a1 a3.cJ a3.dh=k2
 generalize (a3.eH.eF==a3.eF - 1)=p1
 generalize (a3.dh.eF==a3.eF)=p2
 generalize (Z78.md a3.aS.aZ a2 == -1)=m1
 generalize (Z78.md a3.cJ.aZ a2==1)=m2
 cases c0<;>cases rt<;>cases z<;>cases e<;>cases x1<;>cases x2<;>cases k1<;>cases p1<;>cases m1<;>first | rfl | (cases x3<;>cases x4<;>rfl) | (cases k2<;>cases p2<;>cases m2<;>rfl)
end Z232
namespace Z233
def F (x0:cg)(x1:aD)(x2:bf):aI:=(cond x2.cw (cond (x2.aR.aZ==x1) (call (Z224.R (x0.dm,x0.cy,x2.aR,x2.eE)) fun v1=>(cond v1 (call (Z228.R (x2.eX,(⟨0,(⟨(⟨#[]⟩:aD),0,0,[]⟩:aV),(⟨(⟨#[]⟩:aD),0,0,[]⟩:aV),(⟨0,[]⟩:bS),(⟨0,[]⟩:bS)⟩:dS))) fun v2=>ret (v2:Bool)) bz)) bz) (call (Z232.R (x0.dm,x0.cy,x1,x2.eX)) fun v3=>(cond v3 (call (Z229.R x2.aR) fun v4=>(cond v4 (call (Z230.R x2.eE) fun v5=>ret (v5:Bool)) bz)) bz)))
def md (a0:aG)(a1:aD)(a2:az):Bool:=(cond a2.cw (cond (a2.aR.aZ==a1) (cond (Z224.md a0.dm a0.cy a2.aR a2.eE) ((Z228.md a2.eX (⟨0,(⟨((⟨#[]⟩:aD):aD),0,0,[]⟩:ah),(⟨((⟨#[]⟩:aD):aD),0,0,[]⟩:ah),(⟨0,[]⟩:aN),(⟨0,[]⟩:aN)⟩:bV)):Bool) (false:Bool)) (false:Bool)) (cond (Z232.md a0.dm a0.cy a1 a2.eX) (cond (Z229.md a2.aR) ((Z230.md a2.eE):Bool) (false:Bool)) (false:Bool)))
def gd (a0:aG)(a1:aD)(a2:az):Prop:=(a1.size<=(2^21))/\(az.Sm (2^21) a2)
def R:=RR (p3 gd) (u3 md)
def aj {a0 a1 a2}(h:gd a0 a1 a2):R ((aG.r a0),a1,(az.r a2))=some (md a0 a1 a2):=aP (a:=(a0,a1,a2)) h
def aW:=CN [.agg gi,pS,.agg yz] oB RT.dec R
def bt (a0)(a1)(a2)(hg:gd a0 a1 a2):F (aG.r a0) a1 (az.r a2)=ret (md a0 a1 a2):=by
 obtain ⟨H1,H2⟩:=hg
 unfold F md
 try simp only [SS]
 refine av ret (fun c1=>?_) (fun c1=>?_)
 ·refine av ret (fun c2=>?_) (fun _=>rfl)
  refine ct (Z224.aj ⟨H2.2.1,H2.2.2.1⟩) ?_
  refine av ret (fun c3=>?_) (fun _=>rfl)
  refine ct (Z228.aj (a1:=(⟨0,(⟨((⟨#[]⟩:aD):aD),0,0,[]⟩:ah),(⟨((⟨#[]⟩:aD):aD),0,0,[]⟩:ah),(⟨0,[]⟩:aN),(⟨0,[]⟩:aN)⟩:bV)) ⟨H2.2.2.2,⟨⟨(by decide),bM.nil⟩,⟨(by decide),bM.nil⟩,bM.nil,bM.nil⟩⟩) ?_
  all_goals exact fz
 ·refine ct (Z232.aj ⟨H1,H2.2.2.2⟩) ?_
  refine av ret (fun c4=>?_) (fun _=>rfl)
  refine ct (Z229.aj H2.2.1) ?_
  refine av ret (fun c5=>?_) (fun _=>rfl)
  refine ct (Z230.aj H2.2.2.1) ?_
  all_goals exact fz
def af:cz 384 aW:=W3 49 F mix aF bt (.cons Z224.af (.cons Z228.af (.cons Z232.af (.cons Z229.af (.cons Z230.af .nil))))) Tryz.func384
def Ca (a0:aG)(a1:aD)(a2:az)(hc:a0.cy<=1000):md a0 a1 a2=Z118.md a0 a1 a2:=by
 unfold md Z118.md Z116.md Z229.md Z230.md
 simp only [Z232.Ca _ _ _ _ hc,Z224.br,Z226.md_eq,Z113.md_eq,Z227.md_eq,Z114.md_eq,Z228.md_eq,Z115.md_eq]
end Z233
namespace Z234
def F (x0:Int)(x1:aD)(x2:bf)(x3:Int):aI:=(call (Z221.R x2.aU) fun v1=>(cond (!v1.2) (ret (3:Int)) (cond (v1.1.bC != x0) (ret (2:Int)) (call (Z222.R (v1.1,x3)) fun v2=>(cond (!v2) (ret (4:Int)) (cond v1.1.bG (ret (5:Int)) (call (Z233.R (v1.1,x1,x2)) fun v3=>(cond (!v3) (ret (6:Int)) (ret (1:Int))))))))))
def md (a0:Int)(a1:aD)(a2:az)(a3:Int):Int:=(cond (!(Z221.md a2.aU).2) (3:Int) (cond ((Z221.md a2.aU).1.bC != a0) (2:Int) (cond (!(Z222.md ((Z221.md a2.aU).1) a3)) (4:Int) (cond ((Z221.md a2.aU).1.bG) (5:Int) (cond (!(Z233.md ((Z221.md a2.aU).1) a1 a2)) (6:Int) (1:Int))))))
def gd (a0:Int)(a1:aD)(a2:az)(a3:Int):Prop:=(a1.size<=(2^21))/\(az.Sm (2^21) a2)
def R:=RR (p4 gd) (u4 md)
def aj {a0 a1 a2 a3}(h:gd a0 a1 a2 a3):R (a0,a1,(az.r a2),a3)=some (md a0 a1 a2 a3):=aP (a:=(a0,a1,a2,a3)) h
def aW:=CN [pI,pS,.agg yz,pI] oI RT.dec R
def bt (a0)(a1)(a2)(a3)(hg:gd a0 a1 a2 a3):F a0 a1 (az.r a2) a3=ret (md a0 a1 a2 a3):=by
 obtain ⟨H1,H2⟩:=hg
 unfold F md
 try simp only [SS]
 refine ct (Z221.aj H2.1) ?_
 try simp only [SS]
 refine av ret (fun _=>rfl) (fun c1=>?_)
 refine av ret (fun _=>rfl) (fun c2=>?_)
 refine ct (Z222.aj trivial) ?_
 refine av ret (fun _=>rfl) (fun c3=>?_)
 refine av ret (fun _=>rfl) (fun c4=>?_)
 refine ct (Z233.aj ⟨H1,H2⟩) ?_
 refine av ret (fun _=>rfl) (fun _=>rfl)
def af:cz 264 aW:=W4 39 F mix aF bt (.cons Z221.af (.cons Z222.af (.cons Z233.af .nil))) Tryz.func264
def br (a0:Int)(a1:aD)(a2:az)(a3:Int):md a0 a1 a2 a3=Z119.md a0 a1 a2 a3:=by
 unfold md Z119.md
 simp only [Z221.br,Z222.br]
 cases hok:(Z76.md a2.aU).2
 ·rfl
 ·have:=Z53.tr (Z76.head hok).2.2
  rw [Z233.Ca _ _ _ (by omega)]
end Z234
namespace Z235
def F (x0:aE)(x1:List L):aI:=(cond (decide ((x0.length:Int)>0)) (cq (decide ((0:Int)<(x0.length:Int))) (ret (((aT.at x0 0).aq.bC==(gx x1)):Bool))) bz)
def pats:List gj:=[.rd (.sl 123),.ptr [aB]]
def res:RP:=.one (.rd (.bool))
def md (a0:List aa)(a1:Int):Bool:=(cond (decide ((a0.length:Int)>0)) ((((a0.getD 0 aa.zero).aq).bC==a1):Bool) (false:Bool))
def gd (a0:List aa)(a1:Int):Prop:=(bM (2^21) (fun y:aa=>aa.Sm (2^21) y) a0)
def acc (ls:List L):aE×Int:=((ls.headD .hole).aQ,(gx (cM 1 (aA 1 ls))))
def R:(aE×Int)->Option Bool:=RR (p2 gd) (u2 md)
def aj {a0 a1}(h:gd a0 a1):R ((a0.map aa.row),a1)=some (md a0 a1):=aP (a:=(a0,a1)) h
def aW:ga:=CN pats res acc R
def bt (a0:List aa)(a1:Int)(p1:List L)(e1:a1=(gx p1))(hg:gd a0 a1):F (a0.map aa.row) p1=ret ((md a0 a1):Bool):=by
 unfold gd at hg
 have H0:=hg
 unfold F md
 try simp only [SS,<-e1]
 refine av ret (fun c1=>?_) (fun _=>rfl)
 have dc1:=c1
 try simp only [DC] at dc1
 refine ak (have:=(H0).1;dt) ?_
 all_goals exact fz
def mY (ls:List L)(a:List aa×Int)(e:acc ls=Im.im a)(hg:(p2 gd) a):∃n:Nat,F ((ls.headD .hole).aQ) (cM 1 (aA 1 ls))=ret (Im.im ((u2 md) a)):=by
 have e0:(a.1.map aa.row)=(ls.headD .hole).aQ:=(congrArg (fun x=>x.1) e.symm)
 have hn:=bt a.1 a.2 (cM 1 (aA 1 ls)) (congrArg (fun x=>x.2) e.symm) hg
 refine ⟨0,?_⟩
 rw [<-e0]
 exact hn
def af:cz 366 aW:=VP (live:=fun _=>[]) (nt:=16) (accr:=fun ls=>((ls.headD .hole).aQ,(cM 1 (aA 1 ls)))) (run:=fun _ x=>F x.1 x.2) mix aF .nil Tryz.func366 (by kernel_rfl) (fun _ _=>by kernel_rfl) (fun ls a _ e hg=>mY ls a e hg)
end Z235
namespace Z236
inductive Pt where
 | p0 (a:aE) (b:List L) (c d:Int)
def pid:Pt->Nat
 | .p0 ..=>2
def ck:Pt->List V
 | .p0 a b c d=>[.sl none 92 a,.fn 366 [.dK none [aB] b 0],.int .i64 c,.int .i64 d]
def cj:Pt->List aY
 | .p0 a b c d=>[]
def step (J:Pt->aI):Pt->aI
 | .p0 a b c d=>(cond (decide (d<c)) (m2 d (a.length:Int) (call (Z235.R ((oG a (toNat d)),(gx b))) fun v1=>(cond v1 (ret (d:Int)) (J (.p0 a b c (i64.wrap (d+1))))))) (ret ((-1):Int)))
def start (J:Pt->aI)(x0:aE)(x1:List L):aI:=J (.p0 x0 x1 (x0.length:Int) 0)
def live:Nat->Live:=fun i=>match i with | 2=>[(0,none),(1,none),(7,none),(8,none)] | _=>[]
def pats:List gj:=[.rd (.sl 92),.fn 366 [[aB]]]
def res:RP:=.one (.rd (.int .i64))
abbrev E:Env:={ T:=assoc kG,G:=dD [(366,Z235.aW)],nt:=19 }
def step_eq (I:cI)(p:Pt):cY E live I (pid p) (bQ Tryz.f365) (fH (live (pid p)) (ck p) (cj p)) (cH E Tryz.f365 res)=step (fun q=>I (pid q) (ck q) (cj q)) p:=by
 cases p<;>kernel_rfl
def start_eq (I:cI)(ls:List L):eW E live I (bQ Tryz.f365) (dc pats ls) (cH E Tryz.f365 res)=start (fun q=>I (pid q) (ck q) (cj q)) (ls.headD .hole).aQ (cM 1 (aA 1 ls)):=by kernel_rfl
def run_eq (n:Nat)(ls:List L):eO E live Tryz.f365 res n (dc pats ls)=start (iter step n) (ls.headD .hole).aQ (cM 1 (aA 1 ls)):=cA (id:=pid) (vs:=ck) (hs:=cj) (step:=step) (start:=fun J=>start J (ls.headD .hole).aQ (cM 1 (aA 1 ls))) step_eq (fun I=>start_eq I ls) n
def md (a0:List (List aa))(a1:Int):Int:=(dW (S:=Unit) (β:=Int) (fun (i1:Nat) (y1:List aa) (s3:Unit)=>(cond (Z235.md y1 a1) (.inr ((i1:Int):Int)) (.inl ()))) (fun (s3:Unit)=>((-1):Int)) 0 a0 ())
def gd (a0:List (List aa))(a1:Int):Prop:=(bM (2^21) (fun y:List aa=>bM (2^21) (fun y:aa=>aa.Sm (2^21) y) y) a0)
def acc (ls:List L):aE×Int:=((ls.headD .hole).aQ,(gx (cM 1 (aA 1 ls))))
def R:(aE×Int)->Option Int:=RR (p2 gd) (u2 md)
def aj {a0 a1}(h:gd a0 a1):R ((a0.map (dO aa.row)),a1)=some (md a0 a1):=aP (a:=(a0,a1)) h
def aW:ga:=CN pats res acc R
def bt (a0:List (List aa))(a1:Int)(p1:List L)(e1:a1=(gx p1))(hg:gd a0 a1):∃n,start (iter step n) (a0.map (dO aa.row)) p1=ret ((md a0 a1):Int):=by
 unfold gd at hg
 have H0:=hg
 unfold start md
 try simp only [SS,<-e1]
 have Bh2:a0.length<=maxLen:=(by
   have:=(H0).1
   try simp only [maxLen] at *
   omega)
 refine ex_eq (out:=ret) (cX (z:=[])) ?_
 refine dP (p:=Pt.p0 (a0.map (dO aa.row)) p1 (a0.length:Int) 0) fz ?_
 refine cm (pt:=fun (i1:Nat) (s3:Unit)=>Pt.p0 (a0.map (dO aa.row)) p1 (a0.length:Int) (i1:Int)) (s:=(():Unit)) (out:=ret) (fun _ _=>True) (fun J i1 s3 h2 hih2=>?_) (fun s3 hih2=>?_) trivial
 ·simp only [step,SS,<-e1]
  have bb_:=Bh2
  simp only [maxLen] at bb_
  have:=(H0).1
  refine bB.yes (by apply decide_eq_true;omega) ?_
  refine bB.yes aJ ?_
  refine bB.yes (aO h2) ?_
  refine cr (Z235.aj (bM.getD (z:=[]) H0 h2)) ?_
  refine bB.bif (fun c4=>?_) (fun c4=>?_)
  ·refine bB.inr ?_
   all_goals exact fz
  ·refine bB.inl trivial ?_
   rw [aH h2 Bh2]
   all_goals exact fz
 ·simp only [step,SS,<-e1]
  have:=(H0).1
  refine dF (by apply decide_eq_false;omega) ?_
  refine ⟨0,?_⟩
  all_goals exact fz
def mY (ls:List L)(a:List (List aa)×Int)(e:acc ls=Im.im a)(hg:(p2 gd) a):∃n:Nat,start (iter step n) ((ls.headD .hole).aQ) (cM 1 (aA 1 ls))=ret (Im.im ((u2 md) a)):=by
 have e0:(a.1.map (dO aa.row))=(ls.headD .hole).aQ:=(congrArg (fun x=>x.1) e.symm)
 obtain ⟨n,hn⟩:=bt a.1 a.2 (cM 1 (aA 1 ls)) (congrArg (fun x=>x.2) e.symm) hg
 refine ⟨n,?_⟩
 rw [<-e0]
 exact hn
def af:cz 365 aW:=VP (accr:=fun ls=>((ls.headD .hole).aQ,(cM 1 (aA 1 ls)))) (run:=fun n x=>start (iter step n) x.1 x.2) mix aF (.cons Z235.af .nil) Tryz.func365 (by kernel_rfl) run_eq (fun ls a _ e hg=>mY ls a e hg)
def fa (a0:List (List aa))(a1:Int):-1<=md a0 a1/\md a0 a1<(a0.length:Int):=by
 unfold md
 refine fK ?_ _ _
 all_goals
  intro i x s b h
  revert h
  simp only [Bool.cond_eq_ite]
  repeat' split
  all_goals (intro h;first | (cases h;rfl) | cases h)
def idx_eq (a0:List (List aa))(a1:Int):md a0 a1=iT (fun y=>Z235.md y a1) 0 a0:=by
 unfold md
 exact gI
end Z236
namespace Z237
def F (x0:bw)(x1:Int):aI:=(call (Z236.R (x0.aK,x1)) fun v1=>ret (v1:Int))
def md (a0:au)(a1:Int):Int:=((Z236.md a0.aK a1):Int)
def gd (a0:au)(a1:Int):Prop:=(au.Sm (2^21) a0)
def R:=RR (p2 gd) (u2 md)
def aj {a0 a1}(h:gd a0 a1):R ((au.r a0),a1)=some (md a0 a1):=aP (a:=(a0,a1)) h
def aW:=CN [.agg rT,pI] oI RT.dec R
def bt (a0)(a1)(hg:gd a0 a1):F (au.r a0) a1=ret (md a0 a1):=by
 unfold gd at hg
 have H0:=hg
 unfold F md
 try simp only [SS]
 refine ct (Z236.aj H0.1) ?_
 have fv1_:=Z236.fa a0.aK a1
 all_goals exact fz
def af:cz 242 aW:=W2 9 F mix aF bt (.cons Z236.af .nil) Tryz.func242
def fa (a0:au)(a1:Int):-1<=md a0 a1/\md a0 a1<(a0.aK.length:Int):=by unfold md;exact Z236.fa _ _
def br (a0:au)(a1:Int):md a0 a1=Z103.md a0 a1:=by
 unfold md Z103.md
 rw [Z236.idx_eq]
 symm
 refine lC (fun i x s=>?_) _ _ _
 unfold Z235.md
 cases decide ((x.length:Int)>0)<;>first | rfl | (cases ((x.getD 0 aa.zero).aq).bC==a1<;>rfl)
end Z237
namespace Z238
def F (x0 x1:cg):aI:=(call (Z178.R (x0.bP,x1.bP)) fun v1=>(cond v1 (call (Z178.R (x0.bD,x1.bD)) fun v2=>(cond v2 (call (Z178.R (x0.bA,x1.bA)) fun v3=>(cond v3 (call (Z163.R x0) fun v4=>(call (Z163.R x1) fun v5=>(call (Z177.R (v4,v5)) fun v6=>ret (v6:Bool)))) bz)) bz)) bz))
def md (a0 a1:aG):Bool:=(cond (Z178.md a0.bP a1.bP) (cond (Z178.md a0.bD a1.bD) (cond (Z178.md a0.bA a1.bA) ((Z177.md (Z163.md a0) (Z163.md a1)):Bool) (false:Bool)) (false:Bool)) (false:Bool))
def gd (a0 a1:aG):Prop:=(aG.Sm (2^21) a0)/\(aG.Sm (2^21) a1)
def R:=RR (p2 gd) (u2 md)
def aj {a0 a1}(h:gd a0 a1):R ((aG.r a0),(aG.r a1))=some (md a0 a1):=aP (a:=(a0,a1)) h
def aW:=CN [.agg gi,.agg gi] oB RT.dec R
def bt (a0)(a1)(hg:gd a0 a1):F (aG.r a0) (aG.r a1)=ret (md a0 a1):=by
 obtain ⟨H0,H1⟩:=hg
 unfold F md
 try simp only [SS]
 refine ct (Z178.aj ⟨H0.1,H1.1⟩) ?_
 refine av ret (fun c1=>?_) (fun _=>rfl)
 refine ct (Z178.aj ⟨H0.2.1,H1.2.1⟩) ?_
 refine av ret (fun c2=>?_) (fun _=>rfl)
 refine ct (Z178.aj ⟨H0.2.2,H1.2.2⟩) ?_
 refine av ret (fun c3=>?_) (fun _=>rfl)
 refine ct (Z163.aj H0) ?_
 try simp only [SS]
 refine ct (Z163.aj H1) ?_
 try simp only [SS]
 refine ct (Z177.aj ⟨⟨(have:=Z163.len a0;have:=(H0.1).1;have:=(H0.2.1).1;have:=(H0.2.2).1;om),fun _ _=>trivial⟩,⟨(have:=Z163.len a1;have:=(H1.1).1;have:=(H1.2.1).1;have:=(H1.2.2).1;om),fun _ _=>trivial⟩⟩) ?_
 all_goals exact fz
def af:cz 255 aW:=W2 31 F mix aF bt (.cons Z178.af (.cons Z163.af (.cons Z177.af .nil))) Tryz.func255
def md_eq (a0 a1:aG):md a0 a1=eg a0 a1:=by
 unfold md
 simp only [Z177.md_eq,Z178.md_eq,Z163.br]
 rw [Bool.eq_iff_iff]
 constructor
 ·intro h
  simp only [zY,Bool.and_eq_true] at h
  exact dy.2 (Z58.inj (dy.1 h.2.2.2))
 ·intro h
  rw [dy] at h
  rw [h]
  simp only [fN];rfl
end Z238
namespace Z239
inductive Pt where
 | p0 (a b:aE) (c d:Int)
def pid:Pt->Nat
 | .p0 ..=>4
def ck:Pt->List V
 | .p0 a b c d=>[.sl none 123 a,.sl none 123 b,.int .i64 c,.int .i64 d]
def cj:Pt->List aY
 | .p0 a b c d=>[]
def step (J:Pt->aI):Pt->aI
 | .p0 a b c d=>(cond (decide (d<c)) (m2 d (b.length:Int) (m2 d (a.length:Int) (call (Z238.R ((aT.at b (toNat d)).aq,(aT.at a (toNat d)).aq)) fun v1=>(cond (!v1) bz (J (.p0 a b c (i64.wrap (d+1)))))))) (ret (true:Bool)))
def start (J:Pt->aI)(x0 x1:aE):aI:=(cond (decide ((x0.length:Int)>(x1.length:Int))) bz (J (.p0 x1 x0 (x0.length:Int) 0)))
def live:Nat->Live:=fun i=>match i with | 4=>[(1,none),(12,none),(13,none),(14,none)] | _=>[]
def md (a0 a1:List aa):Bool:=(bif (decide ((a0.length:Int)>(a1.length:Int))) then (false:Bool) else (eD (S:=Unit) (β:=Bool) (fun (i2:Nat) (s4:Unit)=>(cond (!(Z238.md ((a0.getD i2 aa.zero).aq) ((a1.getD i2 aa.zero).aq))) (.inr (false:Bool)) (.inl ()))) (fun (s4:Unit)=>(true:Bool)) a0.length 0 ()))
def gd (a0 a1:List aa):Prop:=(bM (2^21) (fun y:aa=>aa.Sm (2^21) y) a0)/\(bM (2^21) (fun y:aa=>aa.Sm (2^21) y) a1)
def R:=RR (p2 gd) (u2 md)
def aj {a0 a1}(h:gd a0 a1):R ((a0.map aa.row),(a1.map aa.row))=some (md a0 a1):=aP (a:=(a0,a1)) h
def aW:=CN [pL 123,pL 123] oB RT.dec R
def bt (a0)(a1)(hg:gd a0 a1):∃n,start (iter step n) (a0.map aa.row) (a1.map aa.row)=ret (md a0 a1):=by
 obtain ⟨H0,H1⟩:=hg
 unfold start md
 try simp only [SS]
 refine hU ret (fun _=>⟨0,rfl⟩) (fun c1=>?_)
 have dc1:=c1
 try simp only [DC] at dc1
 have Bh3:a0.length<=maxLen:=(by
   have:=(H0).1
   try simp only [maxLen] at *
   omega)
 refine dP (p:=Pt.p0 (a1.map aa.row) (a0.map aa.row) (a0.length:Int) 0) fz ?_
 refine cm (pt:=fun (i2:Nat) (s4:Unit)=>Pt.p0 (a1.map aa.row) (a0.map aa.row) (a0.length:Int) (i2:Int)) (s:=(():Unit)) (out:=ret) (fun _ _=>True) (fun J i2 s4 h3 hih3=>?_) (fun s4 hih3=>?_) trivial
 ·simp only [step,SS]
  have bb_:=Bh3
  simp only [maxLen] at bb_
  have:=(H0).1
  refine bB.yes (by apply decide_eq_true;omega) ?_
  refine bB.yes aJ ?_
  refine bB.yes (aO h3) ?_
  refine bB.yes aJ ?_
  refine bB.yes (have:=(H1).1;dt) ?_
  refine cr (Z238.aj ⟨(bM.getD (z:=aa.zero) H0 h3).1,(bM.getD (z:=aa.zero) H1 (by first | assumption | omega | (simp (disch:=omega) only [wi];omega) | (simp;omega))).1⟩) ?_
  refine bB.bif (fun _=>bB.inr rfl) (fun c5=>?_)
  refine bB.inl trivial ?_
  rw [aH h3 Bh3]
  all_goals exact fz
 ·simp only [step,SS]
  have:=(H0).1
  refine dF (by apply decide_eq_false;omega) ?_
  refine ⟨0,?_⟩
  all_goals exact fz
def af:cz 88 aW:=L2 29 pid ck cj live step start mix aF bt (.cons Z238.af .nil) Tryz.func88
def br (a0 a1:List aa):md a0 a1=Z105.md a0 a1:=by
 unfold md Z105.md
 first
 | (simp only [Z238.md_eq,Z104.md_eq];done)
 | (simp only [Z238.md_eq,Z104.md_eq];rfl)
 | rfl
end Z239
namespace Z240
def F (x0:bw)(x1:aE):aI:=(call (Z185.R x1) fun v1=>(cond (!v1) (ret (6:Int)) (cq (decide ((0:Int)<(x1.length:Int))) (call (Z237.R (x0,(aT.at x1 0).aq.bC)) fun v2=>(cond (decide (v2<0)) (ret (1:Int)) (m2 v2 (x0.aK.length:Int) (call (Z239.R ((oG x0.aK (toNat v2)),x1)) fun v3=>(m2 v2 (x0.aK.length:Int) (call (Z239.R (x1,(oG x0.aK (toNat v2)))) fun v4=>(cond v3 (cond v4 (ret (2:Int)) (cond v3 (ret (3:Int)) (cond v4 (ret (4:Int)) (ret (5:Int))))) (cond v3 (ret (3:Int)) (cond v4 (ret (4:Int)) (ret (5:Int))))))))))))))
def md (a0:au)(a1:List aa):Int:=(cond (!(Z185.md a1)) (6:Int) (cond (decide ((Z237.md a0 (((a1.getD 0 aa.zero).aq).bC))<0)) (1:Int) (cond (Z239.md (a0.aK.getD (toNat (Z237.md a0 (((a1.getD 0 aa.zero).aq).bC))) []) a1) (cond (Z239.md a1 (a0.aK.getD (toNat (Z237.md a0 (((a1.getD 0 aa.zero).aq).bC))) [])) (2:Int) (cond (Z239.md (a0.aK.getD (toNat (Z237.md a0 (((a1.getD 0 aa.zero).aq).bC))) []) a1) (3:Int) (cond (Z239.md a1 (a0.aK.getD (toNat (Z237.md a0 (((a1.getD 0 aa.zero).aq).bC))) [])) (4:Int) (5:Int)))) (cond (Z239.md (a0.aK.getD (toNat (Z237.md a0 (((a1.getD 0 aa.zero).aq).bC))) []) a1) (3:Int) (cond (Z239.md a1 (a0.aK.getD (toNat (Z237.md a0 (((a1.getD 0 aa.zero).aq).bC))) [])) (4:Int) (5:Int))))))
def gd (a0:au)(a1:List aa):Prop:=(au.Sm (2^21) a0)/\(bM (2^21) (fun y:aa=>aa.Sm (2^21) y) a1)
def R:=RR (p2 gd) (u2 md)
def aj {a0 a1}(h:gd a0 a1):R ((au.r a0),(a1.map aa.row))=some (md a0 a1):=aP (a:=(a0,a1)) h
def aW:=CN [.agg rT,pL 123] oI RT.dec R
def bt (a0)(a1)(hg:gd a0 a1):F (au.r a0) (a1.map aa.row)=ret (md a0 a1):=by
 obtain ⟨H0,H1⟩:=hg
 unfold F md
 try simp only [SS]
 refine ct (Z185.aj H1) ?_
 refine av ret (fun _=>rfl) (fun c1=>?_)
 have dc1:=c1
 try simp only [DC] at dc1
 try have tc1:=Z185.tr (by simpa using c1)
 refine ak (have:=(H1).1;dt) ?_
 refine ct (Z237.aj H0) ?_
 have fv2_:=Z237.fa a0 (((a1.getD 0 aa.zero).aq).bC)
 refine av ret (fun _=>rfl) (fun c2=>?_)
 have dc2:=c2
 try simp only [DC] at dc2
 refine ak dt ?_
 refine ak (have:=(H0.1).1;dt) ?_
 refine ct (Z239.aj ⟨(bM.getD (z:=[]) H0.1 (by first | assumption | omega | (simp (disch:=omega) only [wi];omega) | (simp;omega))),H1⟩) ?_
 refine ak dt ?_
 refine ak (have:=(H0.1).1;dt) ?_
 refine ct (Z239.aj ⟨H1,(bM.getD (z:=[]) H0.1 (by first | assumption | omega | (simp (disch:=omega) only [wi];omega) | (simp;omega)))⟩) ?_
 refine av ret (fun c3=>?_) (fun c3=>?_)
 ·refine av ret (fun _=>rfl) (fun c4=>?_)
  refine av ret (fun _=>rfl) (fun c5=>?_)
  refine av ret (fun _=>rfl) (fun _=>rfl)
 ·refine av ret (fun _=>rfl) (fun c7=>?_)
  refine av ret (fun _=>rfl) (fun _=>rfl)
def af:cz 90 aW:=W2 43 F mix aF bt (.cons Z185.af (.cons Z237.af (.cons Z239.af .nil))) Tryz.func90
def fa (a0:au)(a1:List aa):(md a0 a1=3->1<=a1.length/\0<=Z237.md a0 (a1.getD 0 aa.zero).aq.bC)/\(md a0 a1=5->1<=a1.length/\0<=Z237.md a0 (a1.getD 0 aa.zero).aq.bC):=by
 unfold md
 cases h:Z185.md a1
 ·exact ⟨fun h=>by simp at h,fun h=>by simp at h⟩
 ·have t:=Z185.tr h
  cases hf:decide (Z237.md a0 ((a1.getD 0 aa.zero).aq.bC)<0)
  ·have:=of_decide_eq_false hf
   exact ⟨fun _=>⟨t.1,by omega⟩,fun _=>⟨t.1,by omega⟩⟩
  ·exact ⟨fun h=>by simp at h,fun h=>by simp at h⟩
def br (a0:au)(a1:List aa):md a0 a1=Z106.md a0 a1:=by
 unfold md Z106.md
 first
 | (simp only [Z185.br,Z237.br,Z239.br];done)
 | (simp only [Z185.br,Z237.br,Z239.br];rfl)
 | rfl
end Z240
namespace Z241
inductive Pt where
 | p0 (a b:aE) (c d e f g h i j k l m n o:Int) (p:Bool) (q s t u v w y z w24 w25 w26 w27:Int) (w28:Bool) (w29 w30 w31 w32 w33 w34 w35 w36 w37 w38 w39 w40:Int) (w41:Bool)
def pid:Pt->Nat
 | .p0 ..=>4
def ck:Pt->List V
 | .p0 a b c d e f g h i j k l m n o p q s t u v w y z w24 w25 w26 w27 w28 w29 w30 w31 w32 w33 w34 w35 w36 w37 w38 w39 w40 w41=>[.sl none 123 a,.sl none 123 b,.dz 0 0,.int .i64 c]
def cj:Pt->List aY
 | .p0 a b c d e f g h i j k l m n o p q s t u v w y z w24 w25 w26 w27 w28 w29 w30 w31 w32 w33 w34 w35 w36 w37 w38 w39 w40 w41=>[.box [.int .i64 d,.int .i64 e,.int .i64 f,.int .i64 g,.int .i64 h,.int .i64 i,.int .i64 j,.int .i64 k,.nil,.int .i64 l,.nil,.int .i64 m,.int .i64 n,.nil,.int .i64 o,.bool p,.nil,.int .i64 q,.int .i64 s,.int .i64 t,.int .i64 u,.int .i64 v,.int .i64 w,.int .i64 y,.int .i64 z,.nil,.int .i64 w24,.nil,.int .i64 w25,.int .i64 w26,.nil,.int .i64 w27,.bool w28,.nil,.int .i64 w29,.int .i64 w30,.int .i64 w31,.int .i64 w32,.int .i64 w33,.int .i64 w34,.int .i64 w35,.int .i64 w36,.nil,.int .i64 w37,.nil,.int .i64 w38,.int .i64 w39,.nil,.int .i64 w40,.bool w41,.nil]]
def step (J:Pt->aI):Pt->aI
 | .p0 a b c d e f g h i j k l m n o p q s t u v w y z w24 w25 w26 w27 w28 w29 w30 w31 w32 w33 w34 w35 w36 w37 w38 w39 w40 w41=>(m2 c (a.length:Int) (m2 c (b.length:Int) (call (Z238.R ((aT.at a (toNat c)).aq,(aT.at b (toNat c)).aq)) fun v1=>(cond v1 (J (.p0 a b (i64.wrap (c+1)) d e f g h i j k l m n o p q s t u v w y z w24 w25 w26 w27 w28 w29 w30 w31 w32 w33 w34 w35 w36 w37 w38 w39 w40 w41)) (m2 c (a.length:Int) (call (Z137.R (aT.at a (toNat c))) fun v2=>(m2 c (b.length:Int) (call (Z137.R (aT.at b (toNat c))) fun v3=>(cond (decide (c>0)) (cq (decide ((0:Int)<=(i64.wrap (c - 1)))) (cq (decide ((i64.wrap (c - 1))<(a.length:Int))) (call (Z137.R (aT.at a (toNat (i64.wrap (c - 1))))) fun v4=>ret (((⟨v4,v2,v3⟩:bK),true):bK×Bool)))) (ret (((⟨(⟨(⟨0,0,0,0,0,0,0,0,(⟨[],0⟩:bE),(⟨[],0⟩:bE),0,(⟨[],0⟩:bE),false⟩:cg),[]⟩:aT),v2,v3⟩:bK),true):bK×Bool)))))))))))
def start (J:Pt->aI)(x0 x1:aE):aI:=(call (Z185.R x0) fun v1=>(cond (!v1) (ret (((⟨(⟨(⟨0,0,0,0,0,0,0,0,(⟨[],0⟩:bE),(⟨[],0⟩:bE),0,(⟨[],0⟩:bE),false⟩:cg),[]⟩:aT),(⟨(⟨0,0,0,0,0,0,0,0,(⟨[],0⟩:bE),(⟨[],0⟩:bE),0,(⟨[],0⟩:bE),false⟩:cg),[]⟩:aT),(⟨(⟨0,0,0,0,0,0,0,0,(⟨[],0⟩:bE),(⟨[],0⟩:bE),0,(⟨[],0⟩:bE),false⟩:cg),[]⟩:aT)⟩:bK),false):bK×Bool)) (call (Z185.R x1) fun v2=>(cond (!v2) (ret (((⟨(⟨(⟨0,0,0,0,0,0,0,0,(⟨[],0⟩:bE),(⟨[],0⟩:bE),0,(⟨[],0⟩:bE),false⟩:cg),[]⟩:aT),(⟨(⟨0,0,0,0,0,0,0,0,(⟨[],0⟩:bE),(⟨[],0⟩:bE),0,(⟨[],0⟩:bE),false⟩:cg),[]⟩:aT),(⟨(⟨0,0,0,0,0,0,0,0,(⟨[],0⟩:bE),(⟨[],0⟩:bE),0,(⟨[],0⟩:bE),false⟩:cg),[]⟩:aT)⟩:bK),false):bK×Bool)) (cq (decide ((0:Int)<(x0.length:Int))) (cq (decide ((0:Int)<(x1.length:Int))) (cond ((aT.at x0 0).aq.bC != (aT.at x1 0).aq.bC) (ret (((⟨(⟨(⟨0,0,0,0,0,0,0,0,(⟨[],0⟩:bE),(⟨[],0⟩:bE),0,(⟨[],0⟩:bE),false⟩:cg),[]⟩:aT),(⟨(⟨0,0,0,0,0,0,0,0,(⟨[],0⟩:bE),(⟨[],0⟩:bE),0,(⟨[],0⟩:bE),false⟩:cg),[]⟩:aT),(⟨(⟨0,0,0,0,0,0,0,0,(⟨[],0⟩:bE),(⟨[],0⟩:bE),0,(⟨[],0⟩:bE),false⟩:cg),[]⟩:aT)⟩:bK),false):bK×Bool)) (call (Z239.R (x0,x1)) fun v3=>(cond v3 (ret (((⟨(⟨(⟨0,0,0,0,0,0,0,0,(⟨[],0⟩:bE),(⟨[],0⟩:bE),0,(⟨[],0⟩:bE),false⟩:cg),[]⟩:aT),(⟨(⟨0,0,0,0,0,0,0,0,(⟨[],0⟩:bE),(⟨[],0⟩:bE),0,(⟨[],0⟩:bE),false⟩:cg),[]⟩:aT),(⟨(⟨0,0,0,0,0,0,0,0,(⟨[],0⟩:bE),(⟨[],0⟩:bE),0,(⟨[],0⟩:bE),false⟩:cg),[]⟩:aT)⟩:bK),false):bK×Bool)) (call (Z239.R (x1,x0)) fun v4=>(cond v4 (ret (((⟨(⟨(⟨0,0,0,0,0,0,0,0,(⟨[],0⟩:bE),(⟨[],0⟩:bE),0,(⟨[],0⟩:bE),false⟩:cg),[]⟩:aT),(⟨(⟨0,0,0,0,0,0,0,0,(⟨[],0⟩:bE),(⟨[],0⟩:bE),0,(⟨[],0⟩:bE),false⟩:cg),[]⟩:aT),(⟨(⟨0,0,0,0,0,0,0,0,(⟨[],0⟩:bE),(⟨[],0⟩:bE),0,(⟨[],0⟩:bE),false⟩:cg),[]⟩:aT)⟩:bK),false):bK×Bool)) (J (.p0 x0 x1 0 0 0 0 0 0 0 0 0 0 0 0 0 false 0 0 0 0 0 0 0 0 0 0 0 0 false 0 0 0 0 0 0 0 0 0 0 0 0 false)))))))))))))
def live:Nat->Live:=fun i=>match i with | 4=>[(0,none),(1,none),(4,none),(6,none)] | _=>[]
def pt (a b:aE)(c:Int):Pt:=Pt.p0 a b c 0 0 0 0 0 0 0 0 0 0 0 0 false 0 0 0 0 0 0 0 0 0 0 0 0 false 0 0 0 0 0 0 0 0 0 0 0 0 false
def md (a0 a1:List aa):aC×Bool:=(cond (!(Z185.md a0)) (aC.zero,false) (cond (!(Z185.md a1)) (aC.zero,false) (cond (((a0.getD 0 aa.zero).aq).bC != ((a1.getD 0 aa.zero).aq).bC) (aC.zero,false) (cond (Z239.md a0 a1) (aC.zero,false) (cond (Z239.md a1 a0) (aC.zero,false) (Z107.uX a0 a1 (Z107.fk a0 a1),true))))))
def gd (a0 a1:List aa):Prop:=bM (2^21) (fun y:aa=>aa.Sm (2^21) y) a0/\bM (2^21) (fun y:aa=>aa.Sm (2^21) y) a1
def R:=RR (p2 gd) (u2 md)
def aj {a0 a1}(h:gd a0 a1):R ((a0.map aa.row),(a1.map aa.row))=some ((aC.r (md a0 a1).1),(md a0 a1).2):=aP (a:=(a0,a1)) h
def aW:=CN [pL 123,pL 123] (.iQ [(true,f280),(false,[fB])]) RT.dec R
def bt (a0)(a1)(hg:gd a0 a1):∃n,start (iter step n) (a0.map aa.row) (a1.map aa.row)=ret ((aC.r (md a0 a1).1),(md a0 a1).2):=by
 unfold gd at hg
 obtain ⟨H0,H1⟩:=hg
 have hl0:=H0.1
 have hl1:=H1.1
 have key:Z107.fk a0 a1<a0.length->Z107.fk a0 a1<a1.length->Z104.md (a0.getD (Z107.fk a0 a1) aa.zero).aq (a1.getD (Z107.fk a0 a1) aa.zero).aq=false->∀d k,k+d=Z107.fk a0 a1->∃n,iter step n (pt (a0.map aa.row) (a1.map aa.row) (k:Int))=ret ((aC.r (Z107.uX a0 a1 (Z107.fk a0 a1)),true):bK×Bool):=by
  intro hn0 hn1 hne d
  have hR:∀k,k<a0.length->k<a1.length->Z238.R (aG.r (a0.getD k aa.zero).aq,aG.r (a1.getD k aa.zero).aq)=some (Z104.md (a0.getD k aa.zero).aq (a1.getD k aa.zero).aq):=by
   intro k h0 h1
   rw [Z238.aj ⟨(bM.getD (z:=aa.zero) H0 h0).1,(bM.getD (z:=aa.zero) H1 h1).1⟩,Z238.md_eq,Z104.md_eq]
  induction d with
  | zero=>
   intro k hk
   obtain rfl:k=Z107.fk a0 a1:=by omega
   generalize hkk:Z107.fk a0 a1=k at hn0 hn1 hne ⊢
   refine ⟨1,?_⟩
   show step (iter step 0) _=_
   have q1:(0:Int)<=(k:Int):=by omega
   have q2:(k:Int)<(a0.length:Int):=by omega
   have q3:(k:Int)<(a1.length:Int):=by omega
   simp only [pt,step,MM,S0,aa.rs,aG.rs,q1,q2,q3,decide_true,bh]
   rw [call_eq (hR k hn0 hn1),hne,bq,call_eq (Z137.aj (a0:=a0.getD k aa.zero) (bM.getD (z:=aa.zero) H0 hn0)),call_eq (Z137.aj (a0:=a1.getD k aa.zero) (bM.getD (z:=aa.zero) H1 hn1))]
   cases k with
   | zero=>rfl
   | succ k=>
    have q4:((k+1:Nat):Int)>0:=by omega
    have q5:i64.wrap (((k+1:Nat):Int) - 1)=(k:Int):=by rw [wi _ (by omega)];omega
    have q6:(0:Int)<=(k:Int):=by omega
    have q7:(k:Int)<(a0.length:Int):=by omega
    simp only [q4,q5,q6,q7,decide_true,bh,S0,aa.rs]
    rw [call_eq (Z137.aj (a0:=a0.getD k aa.zero) (bM.getD (z:=aa.zero) H0 (by omega)))]
    rfl
  | succ d ih=>
   intro k hk
   obtain ⟨n,hn⟩:=ih (k+1) (by omega)
   refine ⟨n+1,?_⟩
   show step (iter step n) _=_
   have q1:(0:Int)<=(k:Int):=by omega
   have q2:(k:Int)<(a0.length:Int):=by omega
   have q3:(k:Int)<(a1.length:Int):=by omega
   simp only [pt,step,MM,S0,aa.rs,aG.rs,q1,q2,q3,decide_true,bh]
   rw [call_eq (hR k (by omega) (by omega)),(Z107.pX a0 a1).1 k (by omega),bh,wi _ (by omega)]
   exact hn
 unfold start md
 simp only [S0,aa.rs,aG.rs]
 refine fm (Z185.md a0) (Z185.aj H0) ?_
 cases hc0:Z185.md a0
 ·exact ⟨0,rfl⟩
 simp only [Bool.not_true,bq]
 refine fm (Z185.md a1) (Z185.aj H1) ?_
 cases hc1:Z185.md a1
 ·exact ⟨0,rfl⟩
 have t0:=Z185.tr hc0
 have t1:=Z185.tr hc1
 simp only [Bool.not_true,bq]
 refine dN (decide_eq_true (by omega)) (dN (decide_eq_true (by omega)) ?_)
 cases ((a0.getD 0 aa.zero).aq.bC != (a1.getD 0 aa.zero).aq.bC)
 case true=>exact ⟨0,rfl⟩
 simp only [bq]
 refine fm (Z239.md a0 a1) (Z239.aj ⟨H0,H1⟩) ?_
 cases hp0:Z239.md a0 a1
 case true=>exact ⟨0,rfl⟩
 simp only [bq]
 refine fm (Z239.md a1 a0) (Z239.aj ⟨H1,H0⟩) ?_
 cases hp1:Z239.md a1 a0
 case true=>exact ⟨0,rfl⟩
 simp only [bq]
 rw [Z239.br] at hp0 hp1
 obtain ⟨h1,h2,h3⟩:=Z107.lO hp0 hp1
 exact key h1 h2 h3 (Z107.fk a0 a1) 0 (by omega)
def af:cz 243 aW:=L2 74 pid ck cj live step start mix aF bt (.cons Z185.af (.cons Z239.af (.cons Z238.af (.cons Z137.af .nil)))) Tryz.func243
def gw {a0 a1:List aa}(hg:gd a0 a1):aC.Sm (2^21) ((md a0 a1).1):=by
 unfold gd at hg;unfold md
 have z:aC.Sm (2^21) aC.zero:=⟨⟨⟨bM.nil,bM.nil,bM.nil⟩,bM.nil⟩,⟨⟨bM.nil,bM.nil,bM.nil⟩,bM.nil⟩,⟨⟨bM.nil,bM.nil,bM.nil⟩,bM.nil⟩⟩
 cases Z185.md a0
 ·exact z
 cases Z185.md a1
 ·exact z
 cases ((a0.getD 0 aa.zero).aq.bC != (a1.getD 0 aa.zero).aq.bC)
 case true=>exact z
 cases h1:Z239.md a0 a1
 case true=>exact z
 cases h2:Z239.md a1 a0
 case true=>exact z
 rw [Z239.br] at h1 h2
 obtain ⟨h3,h4,_⟩:=Z107.lO h1 h2
 exact Z107.wk hg.1 hg.2 h3 h4
def br (a0 a1:List aa):md a0 a1=Z107.md a0 a1:=by
 unfold md Z107.md
 first
 | (simp only [Z185.br,Z239.br,Z238.md_eq,Z104.md_eq];done)
 | (simp only [Z185.br,Z239.br,Z238.md_eq,Z104.md_eq];rfl)
 | rfl
end Z241
namespace Z242
def F (x0:bw)(x1:aE):aI:=(call (Z140.R x0) fun v1=>(call (Z240.R (x0,x1)) fun v2=>(cond (v2==1) (cond (decide ((x0.aK.length:Int)>=8)) (ret ((v1,6):bw×Int)) (call (Z138.R x1) fun v3=>(cq (ff (((v1.aK.length:Int)+1)*24)) (ret (((⟨(v1.aK++[[L.sl v3]]),v1.bn⟩:bw),v2):bw×Int))))) (cond (v2==3) (cq (decide ((0:Int)<(x1.length:Int))) (call (Z237.R (x0,(aT.at x1 0).aq.bC)) fun v4=>(call (Z138.R x1) fun v5=>(m2 v4 (v1.aK.length:Int) (ret (((⟨(List.set v1.aK (toNat v4) [L.sl v5]),v1.bn⟩:bw),v2):bw×Int)))))) (cond (v2==5) (cq (decide ((0:Int)<(x1.length:Int))) (call (Z237.R (x0,(aT.at x1 0).aq.bC)) fun v6=>(m2 v6 (x0.aK.length:Int) (call (Z241.R ((oG x0.aK (toNat v6)),x1)) fun v7=>(cond v7.2 (cond (decide ((x0.bn.length:Int)<8)) (cq (ff (((v1.bn.length:Int)+1)*600)) (ret (((⟨v1.aK,(v1.bn++[(bK.enc v7.1)])⟩:bw),v2):bw×Int))) (ret ((v1,v2):bw×Int))) (ret ((v1,v2):bw×Int))))))) (ret ((v1,v2):bw×Int)))))))
def md (a0:au)(a1:List aa):au×Int:=(cond ((Z240.md a0 a1)==1) (cond (decide ((a0.aK.length:Int)>=8)) (a0,6) ((⟨(a0.aK++[a1]),a0.bn⟩:au),(Z240.md a0 a1))) (cond ((Z240.md a0 a1)==3) ((⟨(List.set a0.aK (toNat (Z237.md a0 (((a1.getD 0 aa.zero).aq).bC))) a1),a0.bn⟩:au),(Z240.md a0 a1)) (cond ((Z240.md a0 a1)==5) (cond ((Z241.md (a0.aK.getD (toNat (Z237.md a0 (((a1.getD 0 aa.zero).aq).bC))) []) a1).2) (cond (decide ((a0.bn.length:Int)<8)) ((⟨a0.aK,(a0.bn++[(Z241.md (a0.aK.getD (toNat (Z237.md a0 (((a1.getD 0 aa.zero).aq).bC))) []) a1).1])⟩:au),(Z240.md a0 a1)) (a0,(Z240.md a0 a1))) (a0,(Z240.md a0 a1))) (a0,(Z240.md a0 a1)))))
def gd (a0:au)(a1:List aa):Prop:=(au.Sm (2^21) a0)/\(bM (2^21) (fun y:aa=>aa.Sm (2^21) y) a1)
def R:=RR (p2 gd) (u2 md)
def aj {a0 a1}(h:gd a0 a1):R ((au.r a0),(a1.map aa.row))=some ((au.r (md a0 a1).1),(md a0 a1).2):=aP (a:=(a0,a1)) h
def aW:=CN [.agg rT,pL 123] (.iQ [(true,f37),(false,[fI])]) RT.dec R
def bt (a0)(a1)(hg:gd a0 a1):F (au.r a0) (a1.map aa.row)=ret ((au.r (md a0 a1).1),(md a0 a1).2):=by
 obtain ⟨H0,H1⟩:=hg
 unfold F md
 try simp only [SS]
 refine ct (Z140.aj H0) ?_
 try simp only [SS]
 refine ct (Z240.aj ⟨H0,H1⟩) ?_
 have fv2_:=Z240.fa a0 a1
 refine av (fun b:au×Int=>ret (((au.r b.1),b.2):bw×Int)) (fun c1=>?_) (fun c1=>?_)
 ·have dc1:=c1
  try simp only [DC] at dc1
  refine av (fun b:au×Int=>ret (((au.r b.1),b.2):bw×Int)) (fun c2=>?_) (fun c2=>?_)
  ·all_goals exact fz
  ·have dc2:=c2
   try simp only [DC] at dc2
   refine ct (Z138.aj H1) ?_
   try simp only [SS]
   refine ak (have:=(H0.1).1;lm) ?_
   all_goals exact fz
 ·have dc1:=c1
  try simp only [DC] at dc1
  refine av (fun b:au×Int=>ret (((au.r b.1),b.2):bw×Int)) (fun c3=>?_) (fun c3=>?_)
  ·have dc3:=c3
   try simp only [DC] at dc3
   refine ak (have:=(H1).1;dt) ?_
   refine ct (Z237.aj H0) ?_
   have fv4_:=Z237.fa a0 (((a1.getD 0 aa.zero).aq).bC)
   refine ct (Z138.aj H1) ?_
   try simp only [SS]
   refine ak dt ?_
   refine ak (have:=(H0.1).1;dt) ?_
   all_goals exact fz
  ·have dc3:=c3
   try simp only [DC] at dc3
   refine av (fun b:au×Int=>ret (((au.r b.1),b.2):bw×Int)) (fun c4=>?_) (fun c4=>?_)
   ·have dc4:=c4
    try simp only [DC] at dc4
    refine ak (have:=(H1).1;dt) ?_
    refine ct (Z237.aj H0) ?_
    have fv6_:=Z237.fa a0 (((a1.getD 0 aa.zero).aq).bC)
    refine ak dt ?_
    refine ak (have:=(H0.1).1;dt) ?_
    refine ct (Z241.aj ⟨(bM.getD (z:=[]) H0.1 (by first | assumption | omega | (simp (disch:=omega) only [wi];omega) | (simp;omega))),H1⟩) ?_
    try simp only [SS]
    refine av (fun b:au×Int=>ret (((au.r b.1),b.2):bw×Int)) (fun c5=>?_) (fun c5=>?_)
    ·refine av (fun b:au×Int=>ret (((au.r b.1),b.2):bw×Int)) (fun c6=>?_) (fun c6=>?_)
     ·have dc6:=c6
      try simp only [DC] at dc6
      refine ak (have:=(H0.2).1;lm) ?_
      all_goals exact fz
     ·all_goals exact fz
    ·all_goals exact fz
   ·all_goals exact fz
def af:cz 82 aW:=W2 77 F mix aF bt (.cons Z140.af (.cons Z240.af (.cons Z138.af (.cons Z237.af (.cons Z241.af .nil))))) Tryz.func82
def gw {a0:au}{a1:List aa}(hg:gd a0 a1):au.Sm (2^21) ((md a0 a1).1):=by
 unfold gd at hg;unfold md
 obtain ⟨⟨h1,h2⟩,h3⟩:=hg
 simp only [Bool.cond_eq_ite]
 repeat' split
 all_goals (try simp only [decide_eq_true_eq,ge_iff_le] at *)
 all_goals first
  | exact ⟨h1,h2⟩
  | exact ⟨bM.app (a:=7) (b:=1) ⟨by omega,h1.2⟩ (bM.one h3) (by decide),h2⟩
  | exact ⟨bM.set h1 h3,h2⟩
  | exact ⟨h1,bM.app (a:=7) (b:=1) ⟨by omega,h2.2⟩ (bM.one (Z241.gw ⟨bM.vO h1 bM.nil,h3⟩)) (by decide)⟩
def br (a0:au)(a1:List aa):md a0 a1=Z108.md a0 a1:=by
 unfold md Z108.md
 first
 | (simp only [Z240.br,Z237.br,Z241.br];done)
 | (simp only [Z240.br,Z237.br,Z241.br];rfl)
 | rfl
end Z242
namespace Z243
inductive Pt where
 | p0 (a b:aE) (c d:Int)
def pid:Pt->Nat
 | .p0 ..=>4
def ck:Pt->List V
 | .p0 a b c d=>[.sl none 428 a,.sl none 428 b,.int .i64 c,.int .i64 d]
def cj:Pt->List aY
 | .p0 a b c d=>[]
def step (J:Pt->aI):Pt->aI
 | .p0 a b c d=>(cond (decide (d<c)) (m2 d (a.length:Int) (m2 d (b.length:Int) (cond (!((((bp.at a (toNat d)).gU:Int)==(bp.at b (toNat d)).gU)&&((((bp.at a (toNat d)).jz:Int)==(bp.at b (toNat d)).jz)&&true))) bz (J (.p0 a b c (i64.wrap (d+1))))))) (ret (true:Bool)))
def start (J:Pt->aI)(x0 x1:aE):aI:=(cond ((x0.length:Int) != (x1.length:Int)) bz (J (.p0 x0 x1 (x0.length:Int) 0)))
def live:Nat->Live:=fun i=>match i with | 4=>[(0,none),(1,none),(12,none),(13,none)] | _=>[]
def md (a0 a1:List bp):Bool:=(bif ((a0.length:Int) != (a1.length:Int)) then (false:Bool) else (eD (S:=Unit) (β:=Bool) (fun (i2:Nat) (s4:Unit)=>(cond (!((((a0.getD i2 bp.zero).gU:Int)==(a1.getD i2 bp.zero).gU)&&((((a0.getD i2 bp.zero).jz:Int)==(a1.getD i2 bp.zero).jz)&&true))) (.inr (false:Bool)) (.inl ()))) (fun (s4:Unit)=>(true:Bool)) a0.length 0 ()))
def gd (a0 a1:List bp):Prop:=(bM (2^21) (fun y:bp=>bp.Sm (2^21) y) a0)/\(bM (2^21) (fun y:bp=>bp.Sm (2^21) y) a1)
def R:=RR (p2 gd) (u2 md)
def aj {a0 a1}(h:gd a0 a1):R ((a0.map bp.row),(a1.map bp.row))=some (md a0 a1):=aP (a:=(a0,a1)) h
def aW:=CN [pL 428,pL 428] oB RT.dec R
def bt (a0)(a1)(hg:gd a0 a1):∃n,start (iter step n) (a0.map bp.row) (a1.map bp.row)=ret (md a0 a1):=by
 obtain ⟨H0,H1⟩:=hg
 unfold start md
 try simp only [SS]
 refine hU ret (fun _=>⟨0,rfl⟩) (fun c1=>?_)
 have dc1:=c1
 try simp only [DC] at dc1
 have Bh3:a0.length<=maxLen:=(by
   have:=(H0).1
   try simp only [maxLen] at *
   omega)
 refine dP (p:=Pt.p0 (a0.map bp.row) (a1.map bp.row) (a0.length:Int) 0) fz ?_
 refine cm (pt:=fun (i2:Nat) (s4:Unit)=>Pt.p0 (a0.map bp.row) (a1.map bp.row) (a0.length:Int) (i2:Int)) (s:=(():Unit)) (out:=ret) (fun _ _=>True) (fun J i2 s4 h3 hih3=>?_) (fun s4 hih3=>?_) trivial
 ·simp only [step,SS]
  have bb_:=Bh3
  simp only [maxLen] at bb_
  have:=(H0).1
  refine bB.yes (by apply decide_eq_true;omega) ?_
  refine bB.yes aJ ?_
  refine bB.yes (aO h3) ?_
  refine bB.yes aJ ?_
  refine bB.yes (have:=(H1).1;dt) ?_
  refine bB.bif (fun _=>bB.inr rfl) (fun c5=>?_)
  refine bB.inl trivial ?_
  rw [aH h3 Bh3]
  all_goals exact fz
 ·simp only [step,SS]
  have:=(H0).1
  refine dF (by apply decide_eq_false;omega) ?_
  refine ⟨0,?_⟩
  all_goals exact fz
def af:cz 453 aW:=L2 26 pid ck cj live step start mix aF bt .nil Tryz.func453
def md_eq (a0 a1:List bp):md a0 a1=eg a0 a1:=by
 unfold md
 refine kA (bp.zero) (fun i s h h2=>?_) (fun s=>rfl)
 simp only [bne,fC,bool_beq,eV,bp.eqc]
 cases eg _ _<;>rfl
end Z243
namespace Z244
def F (x0 x1:aT):aI:=(call (Z238.R (x0.aq,x1.aq)) fun v1=>(cond v1 (call (Z243.R (x0.cu,x1.cu)) fun v2=>ret (v2:Bool)) bz))
def md (a0 a1:aa):Bool:=(cond (Z238.md a0.aq a1.aq) ((Z243.md a0.cu a1.cu):Bool) (false:Bool))
def gd (a0 a1:aa):Prop:=(aa.Sm (2^21) a0)/\(aa.Sm (2^21) a1)
def R:=RR (p2 gd) (u2 md)
def aj {a0 a1}(h:gd a0 a1):R ((aa.r a0),(aa.r a1))=some (md a0 a1):=aP (a:=(a0,a1)) h
def aW:=CN [.agg kI,.agg kI] oB RT.dec R
def bt (a0)(a1)(hg:gd a0 a1):F (aa.r a0) (aa.r a1)=ret (md a0 a1):=by
 obtain ⟨H0,H1⟩:=hg
 unfold F md
 try simp only [SS]
 refine ct (Z238.aj ⟨H0.1,H1.1⟩) ?_
 refine av ret (fun c1=>?_) (fun _=>rfl)
 refine ct (Z243.aj ⟨H0.2,H1.2⟩) ?_
 all_goals exact fz
def af:cz 370 aW:=W2 17 F mix aF bt (.cons Z238.af (.cons Z243.af .nil)) Tryz.func370
def md_eq (a0 a1:aa):md a0 a1=eg a0 a1:=by
 unfold md
 cases a0;cases a1
 rw [Bool.eq_iff_iff]
 simp [dy,eV,aa.mk.injEq,Z238.md_eq,Z243.md_eq]
 try (constructor<;>(intro h;simp_all))
end Z244
namespace Z245
def F (x0:bK):aI:=(call (Z238.R (x0.fA.aq,x0.fB.aq)) fun v1=>(cond v1 bz (call (Z244.R (x0.aS,(⟨(⟨0,0,0,0,0,0,0,0,(⟨[],0⟩:bE),(⟨[],0⟩:bE),0,(⟨[],0⟩:bE),false⟩:cg),[]⟩:aT))) fun v2=>(cond v2 (call (Z173.R x0.fA) fun v3=>(cond v3 (call (Z173.R x0.fB) fun v4=>(cond v4 (ret ((x0.fA.aq.bC==x0.fB.aq.bC):Bool)) bz)) bz)) (call (Z183.R (x0.aS.aq,x0.fA)) fun v5=>(cond v5 (call (Z183.R (x0.aS.aq,x0.fB)) fun v6=>ret (v6:Bool)) bz))))))
def md (a0:aC):Bool:=(cond (Z238.md a0.fA.aq a0.fB.aq) (false:Bool) (cond (Z244.md a0.aS (⟨(⟨0,0,0,0,0,0,0,0,(⟨[],0⟩:aM),(⟨[],0⟩:aM),0,(⟨[],0⟩:aM),false⟩:aG),[]⟩:aa)) (cond (Z173.md a0.fA) (cond (Z173.md a0.fB) ((a0.fA.aq.bC==a0.fB.aq.bC):Bool) (false:Bool)) (false:Bool)) (cond (Z183.md a0.aS.aq a0.fA) ((Z183.md a0.aS.aq a0.fB):Bool) (false:Bool))))
def gd (a0:aC):Prop:=(aC.Sm (2^21) a0)
def R:=RR gd md
def aj {a0}(h:gd a0):R (aC.r a0)=some (md a0):=aP (a:=a0) h
def aW:=CN [.agg tH] oB RT.dec R
def bt (a0)(hg:gd a0):F (aC.r a0)=ret (md a0):=by
 unfold gd at hg
 have H0:=hg
 unfold F md
 try simp only [SS]
 refine ct (Z238.aj ⟨H0.2.1.1,H0.2.2.1⟩) ?_
 refine av ret (fun _=>rfl) (fun c1=>?_)
 refine ct (Z244.aj (a1:=(⟨(⟨0,0,0,0,0,0,0,0,(⟨[],0⟩:aM),(⟨[],0⟩:aM),0,(⟨[],0⟩:aM),false⟩:aG),[]⟩:aa)) ⟨H0.1,⟨⟨bM.nil,bM.nil,bM.nil⟩,bM.nil⟩⟩) ?_
 refine av ret (fun c2=>?_) (fun c2=>?_)
 ·refine ct (Z173.aj H0.2.1) ?_
  refine av ret (fun c3=>?_) (fun _=>rfl)
  refine ct (Z173.aj H0.2.2) ?_
  refine av ret (fun c4=>?_) (fun _=>rfl)
  all_goals exact fz
 ·refine ct (Z183.aj ⟨H0.1.1,H0.2.1⟩) ?_
  refine av ret (fun c5=>?_) (fun _=>rfl)
  refine ct (Z183.aj ⟨H0.1.1,H0.2.2⟩) ?_
  all_goals exact fz
def af:cz 253 aW:=W1 49 F mix aF bt (.cons Z238.af (.cons Z244.af (.cons Z173.af (.cons Z183.af .nil)))) Tryz.func253
def br (a0:aC):md a0=Z121.md a0:=by
 unfold md Z121.md
 first
 | (simp only [Z173.br,Z183.br,Z238.md_eq,Z244.md_eq,Z104.md_eq,Z120.md_eq];done)
 | (simp only [Z173.br,Z183.br,Z238.md_eq,Z244.md_eq,Z104.md_eq,Z120.md_eq];rfl)
 | rfl
end Z245
namespace Z246
def F (x0:bK):aI:=(call (Z245.R x0) fun v1=>(cond (!v1) (ret ((-1):Int)) (ret (x0.fA.aq.bC:Int))))
def md (a0:aC):Int:=(cond (!(Z245.md a0)) ((-1):Int) (a0.fA.aq.bC:Int))
def gd (a0:aC):Prop:=(aC.Sm (2^21) a0)
def R:=RR gd md
def aj {a0}(h:gd a0):R (aC.r a0)=some (md a0):=aP (a:=a0) h
def aW:=CN [.agg tH] oI RT.dec R
def bt (a0)(hg:gd a0):F (aC.r a0)=ret (md a0):=by
 unfold gd at hg
 have H0:=hg
 unfold F md
 try simp only [SS]
 refine ct (Z245.aj H0) ?_
 refine av ret (fun _=>rfl) (fun c1=>?_)
 all_goals exact fz
def af:cz 257 aW:=W1 10 F mix aF bt (.cons Z245.af .nil) Tryz.func257
def br (a0:aC):md a0=Z122.md a0:=by
 unfold md Z122.md
 first
 | (simp only [Z245.br];done)
 | (simp only [Z245.br];rfl)
 | rfl
end Z246
namespace Z247
def F (x0:bK)(x1:List L):aI:=(call (Z246.R x0) fun v1=>ret ((v1==(gx x1)):Bool))
def pats:List gj:=[.agg [aB,aB,aB,aB,aB,aB,aB,aB,.sl 3,aB,.sl 3,aB,aB,.sl 3,aB,.bool,.sl 428,aB,aB,aB,aB,aB,aB,aB,aB,.sl 3,aB,.sl 3,aB,aB,.sl 3,aB,.bool,.sl 428,aB,aB,aB,aB,aB,aB,aB,aB,.sl 3,aB,.sl 3,aB,aB,.sl 3,aB,.bool,.sl 428],.ptr [aB]]
def res:RP:=.one (.rd (.bool))
def md (a0:aC)(a1:Int):Bool:=(((Z246.md a0)==a1):Bool)
def gd (a0:aC)(a1:Int):Prop:=(aC.Sm (2^21) a0)
def acc (ls:List L):bK×Int:=((bK.dec ls),(gx (cM 1 (aA 51 ls))))
def R:(bK×Int)->Option Bool:=RR (p2 gd) (u2 md)
def aj {a0 a1}(h:gd a0 a1):R ((aC.r a0),a1)=some (md a0 a1):=aP (a:=(a0,a1)) h
def aW:ga:=CN pats res acc R
def bt (a0:aC)(a1:Int)(p1:List L)(e1:a1=(gx p1))(hg:gd a0 a1):F (aC.r a0) p1=ret ((md a0 a1):Bool):=by
 unfold gd at hg
 have H0:=hg
 unfold F md
 try simp only [SS,<-e1]
 refine ct (Z246.aj H0) ?_
 all_goals exact fz
def mY (ls:List L)(a:aC×Int)(e:acc ls=Im.im a)(hg:(p2 gd) a):∃n:Nat,F (bK.dec ls) (cM 1 (aA 51 ls))=ret (Im.im ((u2 md) a)):=by
 have e0:(aC.r a.1)=(bK.dec ls):=(congrArg (fun x=>x.1) e.symm)
 have hn:=bt a.1 a.2 (cM 1 (aA 51 ls)) (congrArg (fun x=>x.2) e.symm) hg
 refine ⟨0,?_⟩
 rw [<-e0]
 exact hn
def af:cz 256 aW:=VP (live:=fun _=>[]) (nt:=8) (accr:=fun ls=>((bK.dec ls),(cM 1 (aA 51 ls)))) (run:=fun _ x=>F x.1 x.2) mix aF (.cons Z246.af .nil) Tryz.func256 (by kernel_rfl) (fun _ _=>by kernel_rfl) (fun ls a _ e hg=>mY ls a e hg)
end Z247
namespace Z248
inductive Pt where
 | p0 (a:aE) (b:List L) (c d:Int)
def pid:Pt->Nat
 | .p0 ..=>2
def ck:Pt->List V
 | .p0 a b c d=>[.sl none 280 a,.fn 256 [.dK none [aB] b 0],.int .i64 c,.int .i64 d]
def cj:Pt->List aY
 | .p0 a b c d=>[]
def step (J:Pt->aI):Pt->aI
 | .p0 a b c d=>(cond (decide (d<c)) (m2 d (a.length:Int) (call (Z247.R ((bK.at a (toNat d)),(gx b))) fun v1=>(cond v1 (ret (d:Int)) (J (.p0 a b c (i64.wrap (d+1))))))) (ret ((-1):Int)))
def start (J:Pt->aI)(x0:aE)(x1:List L):aI:=J (.p0 x0 x1 (x0.length:Int) 0)
def live:Nat->Live:=fun i=>match i with | 2=>[(0,none),(1,none),(7,none),(8,none)] | _=>[]
def pats:List gj:=[.rd (.sl 280),.fn 256 [[aB]]]
def res:RP:=.one (.rd (.int .i64))
abbrev E:Env:={ T:=assoc kG,G:=dD [(256,Z247.aW)],nt:=19 }
def step_eq (I:cI)(p:Pt):cY E live I (pid p) (bQ Tryz.f371) (fH (live (pid p)) (ck p) (cj p)) (cH E Tryz.f371 res)=step (fun q=>I (pid q) (ck q) (cj q)) p:=by
 cases p<;>kernel_rfl
def start_eq (I:cI)(ls:List L):eW E live I (bQ Tryz.f371) (dc pats ls) (cH E Tryz.f371 res)=start (fun q=>I (pid q) (ck q) (cj q)) (ls.headD .hole).aQ (cM 1 (aA 1 ls)):=by kernel_rfl
def run_eq (n:Nat)(ls:List L):eO E live Tryz.f371 res n (dc pats ls)=start (iter step n) (ls.headD .hole).aQ (cM 1 (aA 1 ls)):=cA (id:=pid) (vs:=ck) (hs:=cj) (step:=step) (start:=fun J=>start J (ls.headD .hole).aQ (cM 1 (aA 1 ls))) step_eq (fun I=>start_eq I ls) n
def md (a0:List aC)(a1:Int):Int:=(dW (S:=Unit) (β:=Int) (fun (i1:Nat) (y1:aC) (s3:Unit)=>(cond (Z247.md y1 a1) (.inr ((i1:Int):Int)) (.inl ()))) (fun (s3:Unit)=>((-1):Int)) 0 a0 ())
def gd (a0:List aC)(a1:Int):Prop:=(bM (2^21) (fun y:aC=>aC.Sm (2^21) y) a0)
def acc (ls:List L):aE×Int:=((ls.headD .hole).aQ,(gx (cM 1 (aA 1 ls))))
def R:(aE×Int)->Option Int:=RR (p2 gd) (u2 md)
def aj {a0 a1}(h:gd a0 a1):R ((a0.map aC.row),a1)=some (md a0 a1):=aP (a:=(a0,a1)) h
def aW:ga:=CN pats res acc R
def bt (a0:List aC)(a1:Int)(p1:List L)(e1:a1=(gx p1))(hg:gd a0 a1):∃n,start (iter step n) (a0.map aC.row) p1=ret ((md a0 a1):Int):=by
 unfold gd at hg
 have H0:=hg
 unfold start md
 try simp only [SS,<-e1]
 have Bh2:a0.length<=maxLen:=(by
   have:=(H0).1
   try simp only [maxLen] at *
   omega)
 refine ex_eq (out:=ret) (cX (z:=aC.zero)) ?_
 refine dP (p:=Pt.p0 (a0.map aC.row) p1 (a0.length:Int) 0) fz ?_
 refine cm (pt:=fun (i1:Nat) (s3:Unit)=>Pt.p0 (a0.map aC.row) p1 (a0.length:Int) (i1:Int)) (s:=(():Unit)) (out:=ret) (fun _ _=>True) (fun J i1 s3 h2 hih2=>?_) (fun s3 hih2=>?_) trivial
 ·simp only [step,SS,<-e1]
  have bb_:=Bh2
  simp only [maxLen] at bb_
  have:=(H0).1
  refine bB.yes (by apply decide_eq_true;omega) ?_
  refine bB.yes aJ ?_
  refine bB.yes (aO h2) ?_
  refine cr (Z247.aj (bM.getD (z:=aC.zero) H0 h2)) ?_
  refine bB.bif (fun c4=>?_) (fun c4=>?_)
  ·refine bB.inr ?_
   all_goals exact fz
  ·refine bB.inl trivial ?_
   rw [aH h2 Bh2]
   all_goals exact fz
 ·simp only [step,SS,<-e1]
  have:=(H0).1
  refine dF (by apply decide_eq_false;omega) ?_
  refine ⟨0,?_⟩
  all_goals exact fz
def mY (ls:List L)(a:List aC×Int)(e:acc ls=Im.im a)(hg:(p2 gd) a):∃n:Nat,start (iter step n) ((ls.headD .hole).aQ) (cM 1 (aA 1 ls))=ret (Im.im ((u2 md) a)):=by
 have e0:(a.1.map aC.row)=(ls.headD .hole).aQ:=(congrArg (fun x=>x.1) e.symm)
 obtain ⟨n,hn⟩:=bt a.1 a.2 (cM 1 (aA 1 ls)) (congrArg (fun x=>x.2) e.symm) hg
 refine ⟨n,?_⟩
 rw [<-e0]
 exact hn
def af:cz 371 aW:=VP (accr:=fun ls=>((ls.headD .hole).aQ,(cM 1 (aA 1 ls)))) (run:=fun n x=>start (iter step n) x.1 x.2) mix aF (.cons Z247.af .nil) Tryz.func371 (by kernel_rfl) run_eq (fun ls a _ e hg=>mY ls a e hg)
def fa (a0:List aC)(a1:Int):-1<=md a0 a1/\md a0 a1<(a0.length:Int):=by
 unfold md
 refine fK ?_ _ _
 all_goals
  intro i x s b h
  revert h
  simp only [Bool.cond_eq_ite]
  repeat' split
  all_goals (intro h;first | (cases h;rfl) | cases h)
def idx_eq (a0:List aC)(a1:Int):md a0 a1=iT (fun y=>Z247.md y a1) 0 a0:=by
 unfold md
 exact gI
end Z248
namespace Z249
def F (x0:aE)(x1:List L):aI:=(call (Z248.R (x0,(gx x1))) fun v1=>ret ((decide (v1>=0)):Bool))
def pats:List gj:=[.rd (.sl 280),.fn 256 [[aB]]]
def res:RP:=.one (.rd (.bool))
def md (a0:List aC)(a1:Int):Bool:=((decide ((Z248.md a0 a1)>=0)):Bool)
def gd (a0:List aC)(a1:Int):Prop:=(bM (2^21) (fun y:aC=>aC.Sm (2^21) y) a0)
def acc (ls:List L):aE×Int:=((ls.headD .hole).aQ,(gx (cM 1 (aA 1 ls))))
def R:(aE×Int)->Option Bool:=RR (p2 gd) (u2 md)
def aj {a0 a1}(h:gd a0 a1):R ((a0.map aC.row),a1)=some (md a0 a1):=aP (a:=(a0,a1)) h
def aW:ga:=CN pats res acc R
def bt (a0:List aC)(a1:Int)(p1:List L)(e1:a1=(gx p1))(hg:gd a0 a1):F (a0.map aC.row) p1=ret ((md a0 a1):Bool):=by
 unfold gd at hg
 have H0:=hg
 unfold F md
 try simp only [SS,<-e1]
 refine ct (Z248.aj H0) ?_
 have fv1_:=Z248.fa a0 a1
 all_goals exact fz
def mY (ls:List L)(a:List aC×Int)(e:acc ls=Im.im a)(hg:(p2 gd) a):∃n:Nat,F ((ls.headD .hole).aQ) (cM 1 (aA 1 ls))=ret (Im.im ((u2 md) a)):=by
 have e0:(a.1.map aC.row)=(ls.headD .hole).aQ:=(congrArg (fun x=>x.1) e.symm)
 have hn:=bt a.1 a.2 (cM 1 (aA 1 ls)) (congrArg (fun x=>x.2) e.symm) hg
 refine ⟨0,?_⟩
 rw [<-e0]
 exact hn
def af:cz 251 aW:=VP (live:=fun _=>[]) (nt:=9) (accr:=fun ls=>((ls.headD .hole).aQ,(cM 1 (aA 1 ls)))) (run:=fun _ x=>F x.1 x.2) mix aF (.cons Z248.af .nil) Tryz.func251 (by kernel_rfl) (fun _ _=>by kernel_rfl) (fun ls a _ e hg=>mY ls a e hg)
def any_eq (a0:List aC)(a1:Int):md a0 a1=a0.any (fun y=>Z247.md y a1):=by
 unfold md
 rw [Z248.idx_eq]
 exact qV
end Z249
namespace Z250
def F (x0:bw)(x1:Int):aI:=(cond (decide (x1>=0)) (call (Z249.R (x0.bn,x1)) fun v1=>ret (v1:Bool)) bz)
def md (a0:au)(a1:Int):Bool:=(cond (decide (a1>=0)) ((Z249.md a0.bn a1):Bool) (false:Bool))
def gd (a0:au)(a1:Int):Prop:=(au.Sm (2^21) a0)
def R:=RR (p2 gd) (u2 md)
def aj {a0 a1}(h:gd a0 a1):R ((au.r a0),a1)=some (md a0 a1):=aP (a:=(a0,a1)) h
def aW:=CN [.agg rT,pI] oB RT.dec R
def bt (a0)(a1)(hg:gd a0 a1):F (au.r a0) a1=ret (md a0 a1):=by
 unfold gd at hg
 have H0:=hg
 unfold F md
 try simp only [SS]
 refine av ret (fun c1=>?_) (fun _=>rfl)
 refine ct (Z249.aj H0.2) ?_
 all_goals exact fz
def af:cz 89 aW:=W2 13 F mix aF bt (.cons Z249.af .nil) Tryz.func89
def br (a0:au)(a1:Int):md a0 a1=Z123.md a0 a1:=by
 unfold md Z123.md
 rw [Z249.any_eq]
 rw [mP (p:=fun y=>(Z122.md y==a1)&&decide (a1>=0)) (fun x s=>by
  cases (Z122.md x==a1)<;>cases decide (a1>=0)<;>rfl) a0.bn ()]
 have e:(fun y=>Z247.md y a1)=fun y=>Z122.md y==a1:=by
  funext y
  unfold Z247.md
  rw [Z246.br]
 rw [e]
 cases decide (a1>=0)
 ·simp
 ·simp
end Z250
namespace Z251
abbrev E (n:Nat):Env:={ T:=assoc kG,G:=dD [(264,Z234.aW),(219,Z185.aW),(82,Z242.aW),(348,Z141.aW),(89,Z250.aW)],nt:=74,M:=fZ [],np:=n,I:=nW [] }
def ic (n:Nat):mu:=inl (E n) Tryz.f347
def tJ (n:Nat):hO Tryz.prog Ev n 347 (ic n):=yg (mt:=false) mix aF (.cons Z234.af (.cons Z185.af (.cons Z242.af (.cons Z141.af (.cons Z250.af .nil))))) .nil .nil Tryz.func347 (by kernel_rfl)
end Z251
namespace Z252
inductive Pt where
 | p0 (a:Int) (b:aD) (c:Int) (d:aE) (e f:Int) (g:Bool) (h:aD) (i j:Int) (k l:Bool) (m:aD) (n o:Int) (p:Bool) (q s t:aE)
def pid:Pt->Nat
 | .p0 ..=>3
def ck:Pt->List V
 | .p0 a b c d e f g h i j k l m n o p q s t=>[.int .i64 a,.str b,.int .i64 c,.dz 0 0,.dz 1 0,.sl none 132 d,.int .i64 e,.int .i64 f,.dz 1 0]
def cj:Pt->List aY
 | .p0 a b c d e f g h i j k l m n o p q s t=>[.box [.nil,.nil,.bool g,.str h,.int .i64 i,.int .i64 j,.nil,.bool k,.nil],.box [.own 2,.own 3,.bool l,.str m,.int .i64 n,.int .i64 o,.nil,.bool p,.own 4],.row 92 q,.row 280 s,.row 3 t]
def step (J:Pt->aI):Pt->aI
 | .p0 a b c d e f g h i j k l m n o p q s t=>(cond (decide (f<e)) (m2 f (d.length:Int) (call (Z234.R (a,b,(bf.at d (toNat f)),c)) fun v1=>(call (Z185.R ((bf.at d (toNat f)).aU)) fun v2=>(cond v2 (cq (decide ((0:Int)<((bf.at d (toNat f)).aU.length:Int))) (cond ((aT.at ((bf.at d (toNat f)).aU) 0).aq.bC==a) (call (Z242.R ((⟨q,s⟩:bw),(bf.at d (toNat f)).aU)) fun v3=>(call (Z141.R (v3.2,1,3)) fun v4=>(cond v4 (call (Z250.R (v3.1,a)) fun v5=>(cond (v1==1) (cond (!(!v5)) (cq (ff (((t.length:Int)+1)*8)) (J (.p0 a b c d e (i64.wrap (f+1)) g h i j k l m n o p v3.1.aK v3.1.bn (t++[[L.int 3]])))) (cq (ff (((t.length:Int)+1)*8)) (cond (v1==1) (call (Z213.R ((bf.at d (toNat f)).aR)) fun v6=>ret (((⟨v3.1,(bf.at d (toNat f)).cw,v6,true,(t++[[L.int v1]])⟩:dx),f):dx×Int)) (J (.p0 a b c d e (i64.wrap (f+1)) g h i j k l m n o p v3.1.aK v3.1.bn (t++[[L.int v1]])))))) (cq (ff (((t.length:Int)+1)*8)) (cond (v1==1) (call (Z213.R ((bf.at d (toNat f)).aR)) fun v7=>ret (((⟨v3.1,(bf.at d (toNat f)).cw,v7,true,(t++[[L.int v1]])⟩:dx),f):dx×Int)) (J (.p0 a b c d e (i64.wrap (f+1)) g h i j k l m n o p v3.1.aK v3.1.bn (t++[[L.int v1]]))))))) (cond (v1==1) (cq (ff (((t.length:Int)+1)*8)) (J (.p0 a b c d e (i64.wrap (f+1)) g h i j k l m n o p v3.1.aK v3.1.bn (t++[[L.int 3]])))) (cq (ff (((t.length:Int)+1)*8)) (cond (v1==1) (call (Z213.R ((bf.at d (toNat f)).aR)) fun v8=>ret (((⟨v3.1,(bf.at d (toNat f)).cw,v8,true,(t++[[L.int v1]])⟩:dx),f):dx×Int)) (J (.p0 a b c d e (i64.wrap (f+1)) g h i j k l m n o p v3.1.aK v3.1.bn (t++[[L.int v1]]))))))))) (call (Z141.R (6,1,3)) fun v9=>(cond v9 (call (Z250.R ((⟨q,s⟩:bw),a)) fun v10=>(cond (v1==1) (cond (!(!v10)) (cq (ff (((t.length:Int)+1)*8)) (J (.p0 a b c d e (i64.wrap (f+1)) g h i j k l m n o p q s (t++[[L.int 3]])))) (cq (ff (((t.length:Int)+1)*8)) (cond (v1==1) (call (Z213.R ((bf.at d (toNat f)).aR)) fun v11=>ret (((⟨(⟨q,s⟩:bw),(bf.at d (toNat f)).cw,v11,true,(t++[[L.int v1]])⟩:dx),f):dx×Int)) (J (.p0 a b c d e (i64.wrap (f+1)) g h i j k l m n o p q s (t++[[L.int v1]])))))) (cq (ff (((t.length:Int)+1)*8)) (cond (v1==1) (call (Z213.R ((bf.at d (toNat f)).aR)) fun v12=>ret (((⟨(⟨q,s⟩:bw),(bf.at d (toNat f)).cw,v12,true,(t++[[L.int v1]])⟩:dx),f):dx×Int)) (J (.p0 a b c d e (i64.wrap (f+1)) g h i j k l m n o p q s (t++[[L.int v1]]))))))) (cond (v1==1) (cq (ff (((t.length:Int)+1)*8)) (J (.p0 a b c d e (i64.wrap (f+1)) g h i j k l m n o p q s (t++[[L.int 3]])))) (cq (ff (((t.length:Int)+1)*8)) (cond (v1==1) (call (Z213.R ((bf.at d (toNat f)).aR)) fun v13=>ret (((⟨(⟨q,s⟩:bw),(bf.at d (toNat f)).cw,v13,true,(t++[[L.int v1]])⟩:dx),f):dx×Int)) (J (.p0 a b c d e (i64.wrap (f+1)) g h i j k l m n o p q s (t++[[L.int v1]])))))))))) (call (Z141.R (6,1,3)) fun v14=>(cond v14 (call (Z250.R ((⟨q,s⟩:bw),a)) fun v15=>(cond (v1==1) (cond (!(!v15)) (cq (ff (((t.length:Int)+1)*8)) (J (.p0 a b c d e (i64.wrap (f+1)) g h i j k l m n o p q s (t++[[L.int 3]])))) (cq (ff (((t.length:Int)+1)*8)) (cond (v1==1) (call (Z213.R ((bf.at d (toNat f)).aR)) fun v16=>ret (((⟨(⟨q,s⟩:bw),(bf.at d (toNat f)).cw,v16,true,(t++[[L.int v1]])⟩:dx),f):dx×Int)) (J (.p0 a b c d e (i64.wrap (f+1)) g h i j k l m n o p q s (t++[[L.int v1]])))))) (cq (ff (((t.length:Int)+1)*8)) (cond (v1==1) (call (Z213.R ((bf.at d (toNat f)).aR)) fun v17=>ret (((⟨(⟨q,s⟩:bw),(bf.at d (toNat f)).cw,v17,true,(t++[[L.int v1]])⟩:dx),f):dx×Int)) (J (.p0 a b c d e (i64.wrap (f+1)) g h i j k l m n o p q s (t++[[L.int v1]]))))))) (cond (v1==1) (cq (ff (((t.length:Int)+1)*8)) (J (.p0 a b c d e (i64.wrap (f+1)) g h i j k l m n o p q s (t++[[L.int 3]])))) (cq (ff (((t.length:Int)+1)*8)) (cond (v1==1) (call (Z213.R ((bf.at d (toNat f)).aR)) fun v18=>ret (((⟨(⟨q,s⟩:bw),(bf.at d (toNat f)).cw,v18,true,(t++[[L.int v1]])⟩:dx),f):dx×Int)) (J (.p0 a b c d e (i64.wrap (f+1)) g h i j k l m n o p q s (t++[[L.int v1]])))))))))))) (ret (((⟨(⟨q,s⟩:bw),l,(⟨m,n,o,[]⟩:aV),p,t⟩:dx),(-1)):dx×Int)))
def start (J:Pt->aI)(x0:bw)(x1:aE)(x2:Int)(x3:aD)(x4:Int):aI:=(call (Z140.R x0) fun v1=>J (.p0 x2 x3 x4 x1 (x1.length:Int) 0 false ⟨#[]⟩ 0 0 false false ⟨#[]⟩ 0 0 false v1.aK v1.bn []))
def live:Nat->Live:=fun i=>match i with | 3=>[(2,none),(3,none),(4,none),(10,none),(12,none),(18,none),(19,none),(20,none),(12,some 8388611)] | _=>[]
def pats:List gj:=[.agg [.sl 92,.sl 280],.rd (.sl 132),.rd (.int .i64),.rd (.str),.rd (.int .i64)]
def res:RP:=.iQ [(true,[.fr 92,.fr 280,.rd (.bool),.rd (.str),.rd (.int .i64),.rd (.int .i64),.fr 9,.rd (.bool),.fr 3]),(false,[.rd (.int .i64)])]
abbrev E:Env:={ T:=assoc kG,G:=dD [(170,Z140.aW),(280,Z213.aW)],nt:=42,M:=fZ [],I:=nW [(347,Z251.ic 0)] }
def step_eq (I:cI)(p:Pt):cY E live I (pid p) (bQ Tryz.f217) (fH (live (pid p)) (ck p) (cj p)) (cH E Tryz.f217 res)=step (fun q=>I (pid q) (ck q) (cj q)) p:=by
 cases p<;>kernel_rfl
def start_eq (I:cI)(ls:List L):eW E live I (bQ Tryz.f217) (dc pats ls) (cH E Tryz.f217 res)=start (fun q=>I (pid q) (ck q) (cj q)) (bw.dec ls) ((aA 2 ls).headD .hole).aQ ((aA 3 ls).headD .hole).toInt ((aA 4 ls).headD .hole).toStr ((aA 5 ls).headD .hole).toInt:=by kernel_rfl
def run_eq (n:Nat)(ls:List L):eO E live Tryz.f217 res n (dc pats ls)=start (iter step n) (bw.dec ls) ((aA 2 ls).headD .hole).aQ ((aA 3 ls).headD .hole).toInt ((aA 4 ls).headD .hole).toStr ((aA 5 ls).headD .hole).toInt:=cA (id:=pid) (vs:=ck) (hs:=cj) (step:=step) (start:=fun J=>start J (bw.dec ls) ((aA 2 ls).headD .hole).aQ ((aA 3 ls).headD .hole).toInt ((aA 4 ls).headD .hole).toStr ((aA 5 ls).headD .hole).toInt) step_eq (fun I=>start_eq I ls) n
def md (a0:au)(a1:List az)(a2:Int)(a3:aD)(a4:Int):bT×Int:=(dW (S:=List (List aa)×List aC×List Int) (β:=bT×Int) (fun (i1:Nat) (y1:az) (s3:List (List aa)×List aC×List Int)=>(cond (Z185.md (y1.aU)) (cond (((y1.aU.getD 0 aa.zero).aq).bC==a2) (cond (Z141.md ((Z242.md (⟨s3.1,s3.2.1⟩:au) (y1.aU)).2) 1 3) (cond ((Z234.md a2 a3 y1 a4)==1) (cond (!(!(Z250.md ((Z242.md (⟨s3.1,s3.2.1⟩:au) (y1.aU)).1) a2))) (.inl ((Z242.md (⟨s3.1,s3.2.1⟩:au) (y1.aU)).1.aK,(Z242.md (⟨s3.1,s3.2.1⟩:au) (y1.aU)).1.bn,(s3.2.2++[3]))) (cond ((Z234.md a2 a3 y1 a4)==1) (.inr ((⟨(Z242.md (⟨s3.1,s3.2.1⟩:au) (y1.aU)).1,y1.cw,(y1.aR),true,(s3.2.2++[(Z234.md a2 a3 y1 a4)])⟩:bT),(i1:Int))) (.inl ((Z242.md (⟨s3.1,s3.2.1⟩:au) (y1.aU)).1.aK,(Z242.md (⟨s3.1,s3.2.1⟩:au) (y1.aU)).1.bn,(s3.2.2++[(Z234.md a2 a3 y1 a4)]))))) (cond ((Z234.md a2 a3 y1 a4)==1) (.inr ((⟨(Z242.md (⟨s3.1,s3.2.1⟩:au) (y1.aU)).1,y1.cw,(y1.aR),true,(s3.2.2++[(Z234.md a2 a3 y1 a4)])⟩:bT),(i1:Int))) (.inl ((Z242.md (⟨s3.1,s3.2.1⟩:au) (y1.aU)).1.aK,(Z242.md (⟨s3.1,s3.2.1⟩:au) (y1.aU)).1.bn,(s3.2.2++[(Z234.md a2 a3 y1 a4)]))))) (cond ((Z234.md a2 a3 y1 a4)==1) (.inl ((Z242.md (⟨s3.1,s3.2.1⟩:au) (y1.aU)).1.aK,(Z242.md (⟨s3.1,s3.2.1⟩:au) (y1.aU)).1.bn,(s3.2.2++[3]))) (cond ((Z234.md a2 a3 y1 a4)==1) (.inr ((⟨(Z242.md (⟨s3.1,s3.2.1⟩:au) (y1.aU)).1,y1.cw,(y1.aR),true,(s3.2.2++[(Z234.md a2 a3 y1 a4)])⟩:bT),(i1:Int))) (.inl ((Z242.md (⟨s3.1,s3.2.1⟩:au) (y1.aU)).1.aK,(Z242.md (⟨s3.1,s3.2.1⟩:au) (y1.aU)).1.bn,(s3.2.2++[(Z234.md a2 a3 y1 a4)])))))) (cond (Z141.md 6 1 3) (cond ((Z234.md a2 a3 y1 a4)==1) (cond (!(!(Z250.md (⟨s3.1,s3.2.1⟩:au) a2))) (.inl (s3.1,s3.2.1,(s3.2.2++[3]))) (cond ((Z234.md a2 a3 y1 a4)==1) (.inr ((⟨(⟨s3.1,s3.2.1⟩:au),y1.cw,(y1.aR),true,(s3.2.2++[(Z234.md a2 a3 y1 a4)])⟩:bT),(i1:Int))) (.inl (s3.1,s3.2.1,(s3.2.2++[(Z234.md a2 a3 y1 a4)]))))) (cond ((Z234.md a2 a3 y1 a4)==1) (.inr ((⟨(⟨s3.1,s3.2.1⟩:au),y1.cw,(y1.aR),true,(s3.2.2++[(Z234.md a2 a3 y1 a4)])⟩:bT),(i1:Int))) (.inl (s3.1,s3.2.1,(s3.2.2++[(Z234.md a2 a3 y1 a4)]))))) (cond ((Z234.md a2 a3 y1 a4)==1) (.inl (s3.1,s3.2.1,(s3.2.2++[3]))) (cond ((Z234.md a2 a3 y1 a4)==1) (.inr ((⟨(⟨s3.1,s3.2.1⟩:au),y1.cw,(y1.aR),true,(s3.2.2++[(Z234.md a2 a3 y1 a4)])⟩:bT),(i1:Int))) (.inl (s3.1,s3.2.1,(s3.2.2++[(Z234.md a2 a3 y1 a4)]))))))) (cond (Z141.md 6 1 3) (cond ((Z234.md a2 a3 y1 a4)==1) (cond (!(!(Z250.md (⟨s3.1,s3.2.1⟩:au) a2))) (.inl (s3.1,s3.2.1,(s3.2.2++[3]))) (cond ((Z234.md a2 a3 y1 a4)==1) (.inr ((⟨(⟨s3.1,s3.2.1⟩:au),y1.cw,(y1.aR),true,(s3.2.2++[(Z234.md a2 a3 y1 a4)])⟩:bT),(i1:Int))) (.inl (s3.1,s3.2.1,(s3.2.2++[(Z234.md a2 a3 y1 a4)]))))) (cond ((Z234.md a2 a3 y1 a4)==1) (.inr ((⟨(⟨s3.1,s3.2.1⟩:au),y1.cw,(y1.aR),true,(s3.2.2++[(Z234.md a2 a3 y1 a4)])⟩:bT),(i1:Int))) (.inl (s3.1,s3.2.1,(s3.2.2++[(Z234.md a2 a3 y1 a4)]))))) (cond ((Z234.md a2 a3 y1 a4)==1) (.inl (s3.1,s3.2.1,(s3.2.2++[3]))) (cond ((Z234.md a2 a3 y1 a4)==1) (.inr ((⟨(⟨s3.1,s3.2.1⟩:au),y1.cw,(y1.aR),true,(s3.2.2++[(Z234.md a2 a3 y1 a4)])⟩:bT),(i1:Int))) (.inl (s3.1,s3.2.1,(s3.2.2++[(Z234.md a2 a3 y1 a4)])))))))) (fun (s3:List (List aa)×List aC×List Int)=>((⟨(⟨s3.1,s3.2.1⟩:au),false,(⟨(⟨#[]⟩:aD),0,0,[]⟩:ah),false,s3.2.2⟩:bT),(-1))) 0 a1 (a0.aK,a0.bn,[]))
def gd (a0:au)(a1:List az)(a2:Int)(a3:aD)(a4:Int):Prop:=(au.Sm (2^21) a0)/\(bM (2^21) (fun y:az=>az.Sm (2^21) y) a1)/\(a3.size<=(2^21))
def acc (ls:List L):bw×aE×Int×aD×Int:=((bw.dec ls),((aA 2 ls).headD .hole).aQ,((aA 3 ls).headD .hole).toInt,((aA 4 ls).headD .hole).toStr,((aA 5 ls).headD .hole).toInt)
def R:(bw×aE×Int×aD×Int)->Option (dx×Int):=RR (p5 gd) (u5 md)
def aj {a0 a1 a2 a3 a4}(h:gd a0 a1 a2 a3 a4):R ((au.r a0),(a1.map az.row),a2,a3,a4)=some ((bT.r (md a0 a1 a2 a3 a4).1),(md a0 a1 a2 a3 a4).2):=aP (a:=(a0,a1,a2,a3,a4)) h
def aW:ga:=CN pats res acc R
def bt (a0:au)(a1:List az)(a2:Int)(a3:aD)(a4:Int)(hg:gd a0 a1 a2 a3 a4):∃n,start (iter step n) (au.r a0) (a1.map az.row) a2 a3 a4=ret (((bT.r (md a0 a1 a2 a3 a4).1),(md a0 a1 a2 a3 a4).2):dx×Int):=by
 obtain ⟨H0,H1,H3⟩:=hg
 unfold start md
 try simp only [SS]
 refine cx (Z140.aj H0) ?_
 try simp only [SS]
 have Bh2:a1.length<=maxLen:=(by
   have:=(H1).1
   try simp only [maxLen] at *
   omega)
 refine ex_eq (out:=(fun b:bT×Int=>ret (((bT.r b.1),b.2):dx×Int))) (cX (z:=az.zero)) ?_
 refine dP (p:=Pt.p0 a2 a3 a4 (a1.map az.row) (a1.length:Int) 0 false (⟨#[]⟩:aD) 0 0 false false (⟨#[]⟩:aD) 0 0 false (a0.aK.map (dO aa.row)) (a0.bn.map aC.row) ([].map bk)) fz ?_
 refine cm (pt:=fun (i1:Nat) (s3:List (List aa)×List aC×List Int)=>Pt.p0 a2 a3 a4 (a1.map az.row) (a1.length:Int) (i1:Int) false (⟨#[]⟩:aD) 0 0 false false (⟨#[]⟩:aD) 0 0 false (s3.1.map (dO aa.row)) (s3.2.1.map aC.row) (s3.2.2.map bk)) (s:=((a0.aK,a0.bn,[]):List (List aa)×List aC×List Int)) (out:=(fun b:bT×Int=>ret (((bT.r b.1),b.2):dx×Int))) (fun (i1:Nat) (s3:List (List aa)×List aC×List Int)=>au.Sm (2^21) (⟨s3.1,s3.2.1⟩:au)/\s3.2.2.length<=i1) (fun J i1 s3 h2 hih2=>?_) (fun s3 hih2=>?_) ⟨H0,zero_le _⟩
 ·simp only [step,SS]
  have gr_:=hih2
  try simp only [LN] at gr_
  have bb_:=Bh2
  simp only [maxLen] at bb_
  have:=(H1).1
  refine bB.yes (by apply decide_eq_true;omega) ?_
  refine bB.yes aJ ?_
  refine bB.yes (aO h2) ?_
  refine cr (Z234.aj ⟨H3,(bM.getD (z:=az.zero) H1 h2)⟩) ?_
  refine cr (Z185.aj (bM.getD (z:=az.zero) H1 h2).1) ?_
  refine bB.bif (fun c4=>?_) (fun c4=>?_)
  ·try have tc4:=Z185.tr (by simpa using c4)
   refine bB.yes (have:=((bM.getD (z:=az.zero) H1 h2).1).1;dt) ?_
   refine bB.bif (fun c5=>?_) (fun c5=>?_)
   ·have dc5:=c5
    try simp only [DC] at dc5
    refine cr (Z242.aj (a0:=(⟨s3.1,s3.2.1⟩:au)) ⟨⟨hih2.1.1,hih2.1.2⟩,(bM.getD (z:=az.zero) H1 h2).1⟩) ?_
    try simp only [SS]
    refine cr (Z141.aj (a0:=(Z242.md (⟨s3.1,s3.2.1⟩:au) ((a1.getD i1 az.zero).aU)).2) trivial) ?_
    refine bB.bif (fun c6=>?_) (fun c6=>?_)
    ·have Dc6:=c6
     try simp [Z141.md] at Dc6
     refine cr (Z250.aj (a0:=(Z242.md (⟨s3.1,s3.2.1⟩:au) ((a1.getD i1 az.zero).aU)).1) (Z242.gw (a0:=(⟨s3.1,s3.2.1⟩:au)) (a1:=(a1.getD i1 az.zero).aU) ⟨⟨hih2.1.1,hih2.1.2⟩,(bM.getD (z:=az.zero) H1 h2).1⟩)) ?_
     refine bB.bif (fun c7=>?_) (fun c7=>?_)
     ·have dc7:=c7
      try simp only [DC] at dc7
      refine bB.bif (fun c8=>?_) (fun c8=>?_)
      ·have dc8:=c8
       try simp only [DC] at dc8
       refine bB.yes lm ?_
       refine bB.inl (by first | exact ⟨hih2.1,iD hih2.2⟩ | exact ⟨Z242.gw ⟨hih2.1,(bM.getD H1 h2).1⟩,iD hih2.2⟩) ?_
       rw [aH h2 Bh2]
       all_goals exact fz
      ·have dc8:=c8
       try simp only [DC] at dc8
       refine bB.yes lm ?_
       refine bB.bif (fun c9=>?_) (fun c9=>?_)
       ·refine cr (Z213.aj (bM.getD (z:=az.zero) H1 h2).2.1) ?_
        try simp only [SS]
        refine bB.inr ?_
        all_goals exact fz
       ·refine bB.inl (by first | exact ⟨hih2.1,iD hih2.2⟩ | exact ⟨Z242.gw ⟨hih2.1,(bM.getD H1 h2).1⟩,iD hih2.2⟩) ?_
        rw [aH h2 Bh2]
        all_goals exact fz
     ·have dc7:=c7
      try simp only [DC] at dc7
      refine bB.yes lm ?_
      refine bB.bif (fun c10=>?_) (fun c10=>?_)
      ·refine cr (Z213.aj (bM.getD (z:=az.zero) H1 h2).2.1) ?_
       try simp only [SS]
       refine bB.inr ?_
       all_goals exact fz
      ·refine bB.inl (by first | exact ⟨hih2.1,iD hih2.2⟩ | exact ⟨Z242.gw ⟨hih2.1,(bM.getD H1 h2).1⟩,iD hih2.2⟩) ?_
       rw [aH h2 Bh2]
       all_goals exact fz
    ·have Dc6:=c6
     try simp [Z141.md] at Dc6
     refine bB.bif (fun c11=>?_) (fun c11=>?_)
     ·have dc11:=c11
      try simp only [DC] at dc11
      refine bB.yes lm ?_
      refine bB.inl (by first | exact ⟨hih2.1,iD hih2.2⟩ | exact ⟨Z242.gw ⟨hih2.1,(bM.getD H1 h2).1⟩,iD hih2.2⟩) ?_
      rw [aH h2 Bh2]
      all_goals exact fz
     ·have dc11:=c11
      try simp only [DC] at dc11
      refine bB.yes lm ?_
      refine bB.bif (fun c12=>?_) (fun c12=>?_)
      ·refine cr (Z213.aj (bM.getD (z:=az.zero) H1 h2).2.1) ?_
       try simp only [SS]
       refine bB.inr ?_
       all_goals exact fz
      ·refine bB.inl (by first | exact ⟨hih2.1,iD hih2.2⟩ | exact ⟨Z242.gw ⟨hih2.1,(bM.getD H1 h2).1⟩,iD hih2.2⟩) ?_
       rw [aH h2 Bh2]
       all_goals exact fz
   ·have dc5:=c5
    try simp only [DC] at dc5
    refine cr (Z141.aj trivial) ?_
    refine bB.bif (fun c13=>?_) (fun c13=>?_)
    ·refine cr (Z250.aj (a0:=(⟨s3.1,s3.2.1⟩:au)) ⟨hih2.1.1,hih2.1.2⟩) ?_
     refine bB.bif (fun c14=>?_) (fun c14=>?_)
     ·have dc14:=c14
      try simp only [DC] at dc14
      refine bB.bif (fun c15=>?_) (fun c15=>?_)
      ·have dc15:=c15
       try simp only [DC] at dc15
       refine bB.yes lm ?_
       refine bB.inl (by first | exact ⟨hih2.1,iD hih2.2⟩ | exact ⟨Z242.gw ⟨hih2.1,(bM.getD H1 h2).1⟩,iD hih2.2⟩) ?_
       rw [aH h2 Bh2]
       all_goals exact fz
      ·have dc15:=c15
       try simp only [DC] at dc15
       refine bB.yes lm ?_
       refine bB.bif (fun c16=>?_) (fun c16=>?_)
       ·refine cr (Z213.aj (bM.getD (z:=az.zero) H1 h2).2.1) ?_
        try simp only [SS]
        refine bB.inr ?_
        all_goals exact fz
       ·refine bB.inl (by first | exact ⟨hih2.1,iD hih2.2⟩ | exact ⟨Z242.gw ⟨hih2.1,(bM.getD H1 h2).1⟩,iD hih2.2⟩) ?_
        rw [aH h2 Bh2]
        all_goals exact fz
     ·have dc14:=c14
      try simp only [DC] at dc14
      refine bB.yes lm ?_
      refine bB.bif (fun c17=>?_) (fun c17=>?_)
      ·refine cr (Z213.aj (bM.getD (z:=az.zero) H1 h2).2.1) ?_
       try simp only [SS]
       refine bB.inr ?_
       all_goals exact fz
      ·refine bB.inl (by first | exact ⟨hih2.1,iD hih2.2⟩ | exact ⟨Z242.gw ⟨hih2.1,(bM.getD H1 h2).1⟩,iD hih2.2⟩) ?_
       rw [aH h2 Bh2]
       all_goals exact fz
    ·refine bB.bif (fun c18=>?_) (fun c18=>?_)
     ·have dc18:=c18
      try simp only [DC] at dc18
      refine bB.yes lm ?_
      refine bB.inl (by first | exact ⟨hih2.1,iD hih2.2⟩ | exact ⟨Z242.gw ⟨hih2.1,(bM.getD H1 h2).1⟩,iD hih2.2⟩) ?_
      rw [aH h2 Bh2]
      all_goals exact fz
     ·have dc18:=c18
      try simp only [DC] at dc18
      refine bB.yes lm ?_
      refine bB.bif (fun c19=>?_) (fun c19=>?_)
      ·refine cr (Z213.aj (bM.getD (z:=az.zero) H1 h2).2.1) ?_
       try simp only [SS]
       refine bB.inr ?_
       all_goals exact fz
      ·refine bB.inl (by first | exact ⟨hih2.1,iD hih2.2⟩ | exact ⟨Z242.gw ⟨hih2.1,(bM.getD H1 h2).1⟩,iD hih2.2⟩) ?_
       rw [aH h2 Bh2]
       all_goals exact fz
  ·try have tc4:=Z185.tr (by simpa using c4)
   refine cr (Z141.aj trivial) ?_
   refine bB.bif (fun c20=>?_) (fun c20=>?_)
   ·refine cr (Z250.aj (a0:=(⟨s3.1,s3.2.1⟩:au)) ⟨hih2.1.1,hih2.1.2⟩) ?_
    refine bB.bif (fun c21=>?_) (fun c21=>?_)
    ·have dc21:=c21
     try simp only [DC] at dc21
     refine bB.bif (fun c22=>?_) (fun c22=>?_)
     ·have dc22:=c22
      try simp only [DC] at dc22
      refine bB.yes lm ?_
      refine bB.inl (by first | exact ⟨hih2.1,iD hih2.2⟩ | exact ⟨Z242.gw ⟨hih2.1,(bM.getD H1 h2).1⟩,iD hih2.2⟩) ?_
      rw [aH h2 Bh2]
      all_goals exact fz
     ·have dc22:=c22
      try simp only [DC] at dc22
      refine bB.yes lm ?_
      refine bB.bif (fun c23=>?_) (fun c23=>?_)
      ·refine cr (Z213.aj (bM.getD (z:=az.zero) H1 h2).2.1) ?_
       try simp only [SS]
       refine bB.inr ?_
       all_goals exact fz
      ·refine bB.inl (by first | exact ⟨hih2.1,iD hih2.2⟩ | exact ⟨Z242.gw ⟨hih2.1,(bM.getD H1 h2).1⟩,iD hih2.2⟩) ?_
       rw [aH h2 Bh2]
       all_goals exact fz
    ·have dc21:=c21
     try simp only [DC] at dc21
     refine bB.yes lm ?_
     refine bB.bif (fun c24=>?_) (fun c24=>?_)
     ·refine cr (Z213.aj (bM.getD (z:=az.zero) H1 h2).2.1) ?_
      try simp only [SS]
      refine bB.inr ?_
      all_goals exact fz
     ·refine bB.inl (by first | exact ⟨hih2.1,iD hih2.2⟩ | exact ⟨Z242.gw ⟨hih2.1,(bM.getD H1 h2).1⟩,iD hih2.2⟩) ?_
      rw [aH h2 Bh2]
      all_goals exact fz
   ·refine bB.bif (fun c25=>?_) (fun c25=>?_)
    ·have dc25:=c25
     try simp only [DC] at dc25
     refine bB.yes lm ?_
     refine bB.inl (by first | exact ⟨hih2.1,iD hih2.2⟩ | exact ⟨Z242.gw ⟨hih2.1,(bM.getD H1 h2).1⟩,iD hih2.2⟩) ?_
     rw [aH h2 Bh2]
     all_goals exact fz
    ·have dc25:=c25
     try simp only [DC] at dc25
     refine bB.yes lm ?_
     refine bB.bif (fun c26=>?_) (fun c26=>?_)
     ·refine cr (Z213.aj (bM.getD (z:=az.zero) H1 h2).2.1) ?_
      try simp only [SS]
      refine bB.inr ?_
      all_goals exact fz
     ·refine bB.inl (by first | exact ⟨hih2.1,iD hih2.2⟩ | exact ⟨Z242.gw ⟨hih2.1,(bM.getD H1 h2).1⟩,iD hih2.2⟩) ?_
      rw [aH h2 Bh2]
      all_goals exact fz
 ·simp only [step,SS]
  have gr_:=hih2
  try simp only [LN] at gr_
  have:=(H1).1
  refine dF (by apply decide_eq_false;omega) ?_
  refine ⟨0,?_⟩
  all_goals exact fz
def af:cz 217 aW:=VI (mt:=false) (run:=fun n x=>start (iter step n) x.1 x.2.1 x.2.2.1 x.2.2.2.1 x.2.2.2.2) mix aF (.cons Z140.af (.cons Z213.af .nil)) .nil (.cons (Z251.tJ 0) .nil) Tryz.func217 (by kernel_rfl) run_eq (fun _ a _ _ hg=>bt a.1 a.2.1 a.2.2.1 a.2.2.2.1 a.2.2.2.2 hg)
def qI (a0:au)(a1:List az)(a2:Int)(a3:aD)(a4:Int):md a0 a1 a2 a3 a4=dW (fun i y s=>(Z124.tN a2 a3 a4 y s).map id (fun b=>(b,(i:Int)))) (fun s=>(Z124.fin s,-1)) 0 a1 (a0.aK,a0.bn,[]):=by
 unfold md
 refine kZ (fun i y _ s=>?_) (fun s=>rfl)
 have h31:((3:Int)==1)=false:=rfl
 have h61:((6:Int)==1)=false:=rfl
 have h62:((6:Int)==2)=false:=rfl
 have h63:((6:Int)==3)=false:=rfl
 have hin:∀n:Int,Z141.md n 1 3=(n==1||(n==2||n==3)):=fun n=>by
  unfold Z141.md
  rw [Bool.eq_iff_iff];simp;omega
 simp only [Z234.br,Z185.br,Z242.br,Z250.br,hin]
 unfold Z124.tN Z124.nK
 cases g1:Z75.md y.aU
 ·have e:(Z76.md y.aU).2=false:=by unfold Z76.md;rw [g1];rfl
  cases g2:(Z119.md a2 a3 y a4==1)<;>simp [e,g2,h31,h61,h62,h63,Sum.map]
 have hl:=Z75.tr g1
 have e:(Z76.md y.aU).2=true:=by unfold Z76.md;rw [g1];rfl
 have e2:(Z76.md y.aU).1.bC=(y.aU.getD 0 aa.zero).aq.bC:=by
  have hi:toNat (i64.wrap ((y.aU.length:Int) - 1))=y.aU.length - 1:=by simp (disch:=omega) only [wi];omega
  have:=Z75.Bn g1 (y.aU.length - 1) (by omega)
  unfold Z76.md
  rw [g1,hi]
  exact this
 rw [e2,e]
 cases g3:((y.aU.getD 0 aa.zero).aq.bC==a2)
 ·cases g2:(Z119.md a2 a3 y a4==1)<;>simp [g2,h31,h61,h62,h63,Sum.map]
 generalize Z108.md (⟨s.1,s.2.1⟩:au) y.aU=r
 cases g2:(Z119.md a2 a3 y a4==1)<;>cases g4:(r.2==1)<;>cases g5:(r.2==2)<;>cases g6:(r.2==3)<;>cases g7:Z123.md r.1 a2<;>simp [g2,g4,g5,g6,g7,h31,Sum.map]
def CB (a0:au)(a1:List az)(a2:Int)(a3:aD)(a4:Int):(md a0 a1 a2 a3 a4).1=Z124.md a0 a1 a2 a3 a4:=by
 rw [qI,Z124.qI]
 exact qx (p:=Prod.fst) (fun i y s=>by cases Z124.tN a2 a3 a4 y s<;>rfl) (fun s=>rfl) a1 0 _
end Z252
namespace Z253
def F (x0:bw)(x1:aE)(x2:Int)(x3:aD)(x4:Int):aI:=(call (Z252.R (x0,x1,x2,x3,x4)) fun v1=>ret (v1.1:dx))
def md (a0:au)(a1:List az)(a2:Int)(a3:aD)(a4:Int):bT:=(Z252.md a0 a1 a2 a3 a4).1
def gd (a0:au)(a1:List az)(a2:Int)(a3:aD)(a4:Int):Prop:=(au.Sm (2^21) a0)/\(bM (2^21) (fun y:az=>az.Sm (2^21) y) a1)/\(a3.size<=(2^21))
def R:=RR (p5 gd) (u5 md)
def aj {a0 a1 a2 a3 a4}(h:gd a0 a1 a2 a3 a4):R ((au.r a0),(a1.map az.row),a2,a3,a4)=some (bT.r (md a0 a1 a2 a3 a4)):=aP (a:=(a0,a1,a2,a3,a4)) h
def aW:=CN [.agg rT,pL 132,pI,pS,pI] (.agg f169) RT.dec R
def bt (a0)(a1)(a2)(a3)(a4)(hg:gd a0 a1 a2 a3 a4):F (au.r a0) (a1.map az.row) a2 a3 a4=ret (bT.r (md a0 a1 a2 a3 a4)):=by
 obtain ⟨H0,H1,H3⟩:=hg
 unfold F md
 try simp only [SS]
 refine ct (Z252.aj ⟨H0,H1,H3⟩) ?_
 try simp only [SS]
 all_goals exact fz
def af:cz 118 aW:=W5 23 F mix aF bt (.cons Z252.af .nil) Tryz.func118
def br (a0:au)(a1:List az)(a2:Int)(a3:aD)(a4:Int):md a0 a1 a2 a3 a4=Z124.md a0 a1 a2 a3 a4:=by
 unfold md
 exact Z252.CB a0 a1 a2 a3 a4
end Z253
namespace Z254
def F (x0:bw)(x1:Int)(x2:aD)(x3 x4:List L):aI:=(call (Z220.R ((mw x3),x1,x2)) fun v1=>(call (Z253.R (x0,v1,x1,x2,(gx x4))) fun v2=>ret (v2:dx)))
def pats:List gj:=[.agg [.sl 92,.sl 280],.rd (.int .i64),.rd (.str),.ptr [.sl 227],.ptr [aB]]
def res:RP:=.agg [.fr 92,.fr 280,.rd (.bool),.rd (.str),.rd (.int .i64),.rd (.int .i64),.fr 9,.rd (.bool),.fr 3]
def md (a0:au)(a1:Int)(a2:aD)(a3:List ay)(a4:Int):bT:=(Z253.md a0 (Z220.md a3 a1 a2) a1 a2 a4)
def gd (a0:au)(a1:Int)(a2:aD)(a3:List ay)(a4:Int):Prop:=(au.Sm (2^21) a0)/\(a2.size<=(2^21))/\(bM (2^21) (fun y:ay=>ay.Sm (2^21) y) a3)
def acc (ls:List L):bw×Int×aD×aE×Int:=((bw.dec ls),((aA 2 ls).headD .hole).toInt,((aA 3 ls).headD .hole).toStr,(mw (cM 1 (aA 4 ls))),(gx (cM 1 (aA 5 ls))))
def R:(bw×Int×aD×aE×Int)->Option dx:=RR (p5 gd) (u5 md)
def aj {a0 a1 a2 a3 a4}(h:gd a0 a1 a2 a3 a4):R ((au.r a0),a1,a2,(a3.map ay.row),a4)=some (bT.r (md a0 a1 a2 a3 a4)):=aP (a:=(a0,a1,a2,a3,a4)) h
def aW:ga:=CN pats res acc R
def bt (a0:au)(a1:Int)(a2:aD)(a3:List ay)(a4:Int)(p3 p4:List L)(e3:(a3.map ay.row)=(mw p3))(e4:a4=(gx p4))(hg:gd a0 a1 a2 a3 a4):F (au.r a0) a1 a2 p3 p4=ret ((bT.r (md a0 a1 a2 a3 a4)):dx):=by
 obtain ⟨H0,H2,H3⟩:=hg
 unfold F md
 try simp only [SS,<-e3,<-e4]
 refine ct (Z220.aj ⟨H3,H2⟩) ?_
 try simp only [SS,<-e3,<-e4]
 refine ct (Z253.aj ⟨H0,(Z220.gw (a0:=a3) (a1:=a1) (a2:=a2) ⟨H3,H2⟩),H2⟩) ?_
 try simp only [SS,<-e3,<-e4]
 all_goals exact fz
def mY (ls:List L)(a:au×Int×aD×List ay×Int)(e:acc ls=Im.im a)(hg:(p5 gd) a):∃n:Nat,F (bw.dec ls) (((aA 2 ls).headD .hole).toInt) (((aA 3 ls).headD .hole).toStr) (cM 1 (aA 4 ls)) (cM 1 (aA 5 ls))=ret (Im.im ((u5 md) a)):=by
 have e0:(au.r a.1)=(bw.dec ls):=(congrArg (fun x=>x.1) e.symm)
 have e1:a.2.1=((aA 2 ls).headD .hole).toInt:=(congrArg (fun x=>x.2.1) e.symm)
 have e2:a.2.2.1=((aA 3 ls).headD .hole).toStr:=(congrArg (fun x=>x.2.2.1) e.symm)
 have hn:=bt a.1 a.2.1 a.2.2.1 a.2.2.2.1 a.2.2.2.2 (cM 1 (aA 4 ls)) (cM 1 (aA 5 ls)) (congrArg (fun x=>x.2.2.2.1) e.symm) (congrArg (fun x=>x.2.2.2.2) e.symm) hg
 refine ⟨0,?_⟩
 rw [<-e0,<-e1,<-e2]
 exact hn
def af:cz 307 aW:=VP (live:=fun _=>[]) (nt:=18) (accr:=fun ls=>((bw.dec ls),((aA 2 ls).headD .hole).toInt,((aA 3 ls).headD .hole).toStr,(cM 1 (aA 4 ls)),(cM 1 (aA 5 ls)))) (run:=fun _ x=>F x.1 x.2.1 x.2.2.1 x.2.2.2.1 x.2.2.2.2) mix aF (.cons Z220.af (.cons Z253.af .nil)) Tryz.func307 (by kernel_rfl) (fun _ _=>by kernel_rfl) (fun ls a _ e hg=>mY ls a e hg)
def lk (a0:au)(a1:Int)(a2:aD)(a3:List ay)(a4:Int):md a0 a1 a2 a3 a4=Z124.md a0 (Z102.md a3 a1 a2) a1 a2 a4:=by
 unfold md
 rw [Z253.br,Z220.br]
end Z254
namespace Z255
abbrev E (n:Nat):Env:={ T:=assoc kG,G:=dD [(294,Z212.aW),(298,Z146.aW),(280,Z213.aW)],nt:=83,M:=fZ [],np:=n,I:=nW [] }
def ic (n:Nat):mu:=inl (E n) Tryz.f345
def tJ (n:Nat):hO Tryz.prog Ev n 345 (ic n):=yg (mt:=false) mix aF (.cons Z212.af (.cons Z146.af (.cons Z213.af .nil))) .nil .nil Tryz.func345 (by kernel_rfl)
end Z255
namespace Z256
inductive Pt where
 | p0 (a:aE) (b c:List L) (d e:Int) (f:aD) (g h i j:Int) (k:aD) (l m n:Int) (o p q s:aE)
def pid:Pt->Nat
 | .p0 ..=>6
def ck:Pt->List V
 | .p0 a b c d e f g h i j k l m n o p q s=>[.sl none 9 a,.fn 307 [.dK none [.sl 227] b 0,.dK none [aB] c 0],.dz 0 0,.dz 1 0,.int .i64 d,.dz 1 0,.dz 1 0]
def cj:Pt->List aY
 | .p0 a b c d e f g h i j k l m n o p q s=>[.box [.nil,.nil,.int .i64 e,.str f,.int .i64 g,.int .i64 h,.nil,.nil,.int .i64 i],.box [.own 2,.own 3,.int .i64 j,.str k,.int .i64 l,.int .i64 m,.own 4,.own 5,.int .i64 n],.row 92 o,.row 280 p,.row 9 q,.row 3 s]
def step (J:Pt->aI):Pt->aI
 | .p0 a b c d e f g h i j k l m n o p q s=>(cond (j==0) (cq (decide ((0:Int)<(a.length:Int))) (call (Z254.R ((⟨o,p⟩:bw),d,(qi a 0),(mw b),(gx c))) fun v1=>(cq (ff (((s.length:Int)+1)*8)) (cq (decide ((1:Int)<=(a.length:Int))) (cq (decide ((a.length:Int)<=(a.length:Int))) (cond (!v1.kr) (J (.p0 [] b c 0 e f g h i 3 k l m n v1.bZ.aK v1.bZ.bn q (s++[[L.int d]]))) (cond (!v1.cw) (J (.p0 [] b c 0 e f g h i 2 k l m n v1.bZ.aK v1.bZ.bn q (s++[[L.int d]]))) (cond (v1.aR.bI==3) (call (Z212.R v1.aR.bH) fun v2=>(cq (ff (((v2.length:Int)+((List.take (toNat ((a.length:Int) - 1)) (List.drop 1 a)).length:Int))*16)) (cond (decide (n>=3)) (J (.p0 [] b c 0 e f g h i 5 k l m n v1.bZ.aK v1.bZ.bn q (s++[[L.int d]]))) (call (Z146.R (v2++(List.take (toNat ((a.length:Int) - 1)) (List.drop 1 a)))) fun v3=>(cond (!v3) (J (.p0 [] b c 0 e f g h i 5 k l m n v1.bZ.aK v1.bZ.bn q (s++[[L.int d]]))) (J (.p0 (v2++(List.take (toNat ((a.length:Int) - 1)) (List.drop 1 a))) b c v1.aR.bX e f g h i j k l m (i64.wrap (n+1)) v1.bZ.aK v1.bZ.bn q (s++[[L.int d]])))))))) (cond (((List.take (toNat ((a.length:Int) - 1)) (List.drop 1 a)).length:Int)==0) (call (Z213.R v1.aR) fun v4=>J (.p0 [] b c 0 e f g h i 1 v4.aZ v4.bI v4.bX n v1.bZ.aK v1.bZ.bn v4.bH (s++[[L.int d]]))) (cond (v1.aR.bI==2) (J (.p0 (List.take (toNat ((a.length:Int) - 1)) (List.drop 1 a)) b c v1.aR.bX e f g h i j k l m n v1.bZ.aK v1.bZ.bn q (s++[[L.int d]]))) (J (.p0 [] b c 0 e f g h i 4 k l m n v1.bZ.aK v1.bZ.bn q (s++[[L.int d]]))))))))))))) (ret ((⟨(⟨o,p⟩:bw),j,(⟨k,l,m,q⟩:aV),s,n⟩:cS):cS)))
def start (J:Pt->aI)(x0:bw)(x1:Int)(x2:aE)(x3 x4:List L):aI:=(call (Z140.R x0) fun v1=>(call (Z146.R x2) fun v2=>(cond (!v2) (ret ((⟨v1,6,(⟨(⟨#[]⟩:aD),0,0,[]⟩:aV),[],0⟩:cS):cS)) (J (.p0 x2 x3 x4 x1 0 ⟨#[]⟩ 0 0 0 0 ⟨#[]⟩ 0 0 0 v1.aK v1.bn [] [])))))
def live:Nat->Live:=fun i=>match i with | 6=>[(2,some 1099511627785),(3,none),(8,none),(9,none),(10,none),(9,some 6291465),(9,some 7340035)] | _=>[]
def pats:List gj:=[.agg [.sl 92,.sl 280],.rd (.int .i64),.rd (.sl 9),.fn 307 [[.sl 227],[aB]]]
def res:RP:=.agg [.fr 92,.fr 280,.rd (.int .i64),.rd (.str),.rd (.int .i64),.rd (.int .i64),.fr 9,.fr 3,.rd (.int .i64)]
abbrev E:Env:={ T:=assoc kG,G:=dD [(170,Z140.aW),(298,Z146.aW),(307,Z254.aW)],nt:=48,M:=fZ [],I:=nW [(345,Z255.ic 0)] }
def step_eq (I:cI)(p:Pt):cY E live I (pid p) (bQ Tryz.f214) (fH (live (pid p)) (ck p) (cj p)) (cH E Tryz.f214 res)=step (fun q=>I (pid q) (ck q) (cj q)) p:=by
 cases p<;>kernel_rfl
def start_eq (I:cI)(ls:List L):eW E live I (bQ Tryz.f214) (dc pats ls) (cH E Tryz.f214 res)=start (fun q=>I (pid q) (ck q) (cj q)) (bw.dec ls) ((aA 2 ls).headD .hole).toInt ((aA 3 ls).headD .hole).aQ (cM 1 (aA 4 ls)) (cM 1 (aA 5 ls)):=by kernel_rfl
def run_eq (n:Nat)(ls:List L):eO E live Tryz.f214 res n (dc pats ls)=start (iter step n) (bw.dec ls) ((aA 2 ls).headD .hole).toInt ((aA 3 ls).headD .hole).aQ (cM 1 (aA 4 ls)) (cM 1 (aA 5 ls)):=cA (id:=pid) (vs:=ck) (hs:=cj) (step:=step) (start:=fun J=>start J (bw.dec ls) ((aA 2 ls).headD .hole).toInt ((aA 3 ls).headD .hole).aQ (cM 1 (aA 4 ls)) (cM 1 (aA 5 ls))) step_eq (fun I=>start_eq I ls) n
def md (a0:au)(a1:Int)(a2:List aD)(a3:List ay)(a4:Int):bu:=(cond (!Z146.md a2) ⟨a0,6,⟨⟨#[]⟩,0,0,[]⟩,[],0⟩ ((Z127.rs (Z127.lk a3 a4) 17 () a0 [] 0 a1 a2).1))
def gd (a0:au)(a1:Int)(a2:List aD)(a3:List ay)(a4:Int):Prop:=(au.Sm (2^21) a0)/\(bM (2^21) (fun y:aD=>y.size<=(2^21)) a2)/\(bM (2^21) (fun y:ay=>ay.Sm (2^21) y) a3)
def acc (ls:List L):bw×Int×aE×aE×Int:=((bw.dec ls),((aA 2 ls).headD .hole).toInt,((aA 3 ls).headD .hole).aQ,(mw (cM 1 (aA 4 ls))),(gx (cM 1 (aA 5 ls))))
def R:(bw×Int×aE×aE×Int)->Option cS:=RR (p5 gd) (u5 md)
def aj {a0 a1 a2 a3 a4}(h:gd a0 a1 a2 a3 a4):R ((au.r a0),a1,(a2.map cG),(a3.map ay.row),a4)=some (bu.r (md a0 a1 a2 a3 a4)):=aP (a:=(a0,a1,a2,a3,a4)) h
def aW:ga:=CN pats res acc R
def bt (a0:au)(a1:Int)(a2:List aD)(a3:List ay)(a4:Int)(p3 p4:List L)(e3:(a3.map ay.row)=(mw p3))(e4:a4=(gx p4))(hg:gd a0 a1 a2 a3 a4):∃n,start (iter step n) (au.r a0) a1 (a2.map cG) p3 p4=ret ((bu.r (md a0 a1 a2 a3 a4)):cS):=by
 obtain ⟨H0,H2,H3⟩:=hg
 have fin:∀(J:Pt->aI) (code:Int) (x z:Int) (xs:aE) (lab:aD) (kd vl mv:Int) (o p q s:aE),¬code=0->step J (Pt.p0 xs p3 p4 z 0 ⟨#[]⟩ 0 0 0 code lab kd vl mv o p q s)=ret (⟨⟨o,p⟩,code,⟨lab,kd,vl,q⟩,s,mv⟩:cS):=by
  intro J code x z xs lab kd vl mv o p q s h
  simp only [step]
  exact cT (beq_eq_false_iff_ne.2 h) rfl
 have key:∀(n:Nat) (k:au) (zs:List Int) (mv z:Int) (p:List aD),au.Sm (2^21) k->Z49.md p=true->0<=mv->mv<=3->(3 - mv)*4+(p.length:Int)<=n->zs.length+n<=100->
   ∃m,iter step m (Pt.p0 (p.map cG) p3 p4 z 0 ⟨#[]⟩ 0 0 0 0 ⟨#[]⟩ 0 0 mv (k.aK.map (dO aa.row)) (k.bn.map aC.row) [] (zs.map bk))=ret (bu.r (Z127.rs (Z127.lk a3 a4) n () k zs mv z p).1):=by
  intro n
  induction n with
  | zero=>intro k zs mv z p _ hp _ _ hm _;have:=(Z49.tr hp).1;omega
  | succ n ih=>
   intro k zs mv z p hk hp h0 h3 hm hz
   obtain ⟨⟨p1,p4'⟩,p8⟩:=Z49.tr hp
   obtain ⟨x,xs,rfl⟩:∃x xs,p=x::xs:=by
    cases p with
    | nil=>simp at p1
    | cons x xs=>exact ⟨x,xs,rfl⟩
   have hx:x.size<=2^21:=le_trans (p8 x (by simp)) (by decide)
   have hxs:∀y∈xs,y.size<=2^22:=fun y hy=>le_trans (p8 y (by simp [hy])) (by decide)
   have hask:=Z102.gw (a0:=a3) (a1:=z) (a2:=x) ⟨H3,hx⟩
   have hlk:=Z124.gw (a0:=k) (a1:=Z102.md a3 z x) (a2:=z) (a3:=x) (a4:=a4) ⟨hk,hask,hx⟩
   have hat:qi ((x::xs).map cG) 0=x:=rfl
   have ht:List.take (toNat (((xs.length+1:Nat):Int) - 1)) (List.drop 1 ((x::xs).map cG))=xs.map cG:=by
    simp only [List.map_cons,List.drop_succ_cons,List.drop_zero]
    exact List.take_of_length_le (by simp)
   simp only [List.length_cons] at p4' hm
   refine Z127.wJ ?_
   simp only [step,hat,List.length_map,List.length_cons,ht,<-e3,<-e4]
   refine dN rfl (dN dt ?_)
   have hR:=Z254.aj (a0:=k) (a1:=z) (a2:=x) (a3:=a3) (a4:=a4) ⟨hk,hx,H3⟩
   rw [Z254.lk] at hR
   refine cx hR ?_
   have hcase:∀q,Z127.nx (Z124.md k (Z102.md a3 z x) z x a4) mv (x::xs)=.inl q->Z127.rs (Z127.lk a3 a4) (n+1) () k zs mv z (x::xs)=(⟨(Z124.md k (Z102.md a3 z x) z x a4).bZ,q.1,q.2,zs++[z],mv⟩,()):=fun q hq=>Z127.vP hq
   have hcase2:∀q,Z127.nx (Z124.md k (Z102.md a3 z x) z x a4) mv (x::xs)=.inr q->Z127.rs (Z127.lk a3 a4) (n+1) () k zs mv z (x::xs)=Z127.rs (Z127.lk a3 a4) n () (Z124.md k (Z102.md a3 z x) z x a4).bZ (zs++[z]) q.1 q.2.1 q.2.2:=fun q hq=>Z127.vu hq
   clear hR
   revert hcase hcase2 hlk
   generalize Z124.md k (Z102.md a3 z x) z x a4=l
   intro hlk hcase hcase2
   refine dN lm (dN dt (dN dt ?_))
   obtain ⟨lk0,lf,le,ld,lc⟩:=l
   unfold Z127.nx at hcase hcase2
   have hzz:zs.map bk++[[L.int z]]=(zs++[z]).map bk:=by simp [bk]
   cases ld
   ·exact dN rfl ⟨1,(fin _ 3 0 _ _ _ _ _ _ _ _ _ _ (by decide)).trans (by rw [hcase _ rfl];exact fz)⟩
   cases lf
   ·exact dF rfl (dN rfl ⟨1,(fin _ 2 0 _ _ _ _ _ _ _ _ _ _ (by decide)).trans (by rw [hcase _ rfl];exact fz)⟩)
   simp only [Bool.not_true,bq,bh,List.tail_cons] at hcase hcase2 ⊢
   have hpl:bM (2^21) (fun y:aD=>y.size<=(2^21)) le.bH:=hlk.2.1.2
   have hpl1:le.bH.length<=2^21:=hpl.1
   refine dF rfl (dF rfl ?_)
   try simp only [SS]
   cases hk3:(le.bI==3)
   ·simp only [hk3,bq] at hcase hcase2 ⊢
    by_cases hx0:xs.length=0
    ·have e0:((xs.length:Int)==0)=true:=by simp [hx0]
     rw [e0] at hcase
     refine dN (beq_iff_eq.2 (by omega)) (cx (Z213.aj (a0:=le) hlk.2.1) ?_)
     exact ⟨1,(fin _ 1 0 _ _ _ _ _ _ _ _ _ _ (by decide)).trans (by rw [hcase _ rfl];exact fz)⟩
    ·have e0:((xs.length:Int)==0)=false:=by simpa using hx0
     rw [e0] at hcase hcase2
     refine dF (beq_eq_false_iff_ne.2 (by omega)) ?_
     cases hk2:(le.bI==2)
     ·simp only [hk2,bq] at hcase
      exact dF rfl ⟨1,(fin _ 4 0 _ _ _ _ _ _ _ _ _ _ (by decide)).trans (by rw [hcase _ rfl];exact fz)⟩
     ·simp only [hk2,bq,bh] at hcase2
      refine dN rfl ?_
      have hip:Z49.md xs=true:=Z49.tl hp hx0
      rw [hcase2 _ rfl,hzz]
      exact ih lk0 (zs++[z]) mv le.bX xs hlk.1 hip h0 h3 (by omega) (by simp;omega)
   ·simp only [hk3,bh] at hcase hcase2 ⊢
    refine cx (Z212.aj (a0:=le.bH) hpl) ?_
    refine dN (by have :(le.bH.map cG).length=le.bH.length:=List.length_map ..;have :(xs.map cG).length=xs.length:=List.length_map ..;exact iP (by omega)) ?_
    by_cases hmv:mv>=3
    ·rw [decide_eq_true hmv] at hcase ⊢
     exact dN rfl ⟨1,(fin _ 5 0 _ _ _ _ _ _ _ _ _ _ (by decide)).trans (by rw [hcase _ rfl];exact fz)⟩
    ·rw [decide_eq_false hmv] at hcase hcase2 ⊢
     simp only [bq] at hcase hcase2 ⊢
     have e:le.bH.map cG++xs.map cG=(le.bH++xs).map cG:=by simp
     rw [e]
     have hq:=Z146.aj (a0:=le.bH++xs) ⟨by rw [List.length_append];omega,fun y hy=>(List.mem_append.1 hy).elim (fun h=>le_trans (hpl.2 y h) (by decide)) (hxs y)⟩
     rw [Z146.br] at hq
     refine cx hq ?_
     cases hip:Z49.md (le.bH++xs)
     ·rw [hip] at hcase
      exact dN rfl ⟨1,(fin _ 5 0 _ _ _ _ _ _ _ _ _ _ (by decide)).trans (by rw [hcase _ rfl];exact fz)⟩
     ·rw [hip] at hcase2
      have ht:=Z49.tr hip
      rw [hcase2 _ rfl,hzz,wi _ (by omega)]
      exact ih lk0 (zs++[z]) (mv+1) le.bX (le.bH++xs) hlk.1 hip (by omega) (by omega) (by omega) (by simp;omega)
 unfold start md
 refine cx (Z140.aj (a0:=a0) H0) ?_
 refine cx (Z146.aj (a0:=a2) (bM.mono H2 (by decide) (fun y hy=>le_trans hy (by decide)))) ?_
 cases hp:Z146.md a2
 ·exact ⟨0,rfl⟩
 ·simp only [Bool.not_true,bq]
  rw [Z146.br] at hp
  exact key 17 a0 [] 0 a1 a2 H0 hp (by decide) (by decide) (by have:=(Z49.tr hp).1;omega) (by simp)
def mY (ls:List L)(a:au×Int×List aD×List ay×Int)(e:acc ls=Im.im a)(hg:(p5 gd) a):∃n:Nat,start (iter step n) (bw.dec ls) (((aA 2 ls).headD .hole).toInt) (((aA 3 ls).headD .hole).aQ) (cM 1 (aA 4 ls)) (cM 1 (aA 5 ls))=ret (Im.im ((u5 md) a)):=by
 have e0:(au.r a.1)=(bw.dec ls):=(congrArg (fun x=>x.1) e.symm)
 have e1:a.2.1=((aA 2 ls).headD .hole).toInt:=(congrArg (fun x=>x.2.1) e.symm)
 have e2:(a.2.2.1.map cG)=((aA 3 ls).headD .hole).aQ:=(congrArg (fun x=>x.2.2.1) e.symm)
 obtain ⟨n,hn⟩:=bt a.1 a.2.1 a.2.2.1 a.2.2.2.1 a.2.2.2.2 (cM 1 (aA 4 ls)) (cM 1 (aA 5 ls)) (congrArg (fun x=>x.2.2.2.1) e.symm) (congrArg (fun x=>x.2.2.2.2) e.symm) hg
 refine ⟨n,?_⟩
 rw [<-e0,<-e1,<-e2]
 exact hn
def af:cz 214 aW:=VJ (mt:=false) (accr:=fun ls=>((bw.dec ls),((aA 2 ls).headD .hole).toInt,((aA 3 ls).headD .hole).aQ,(cM 1 (aA 4 ls)),(cM 1 (aA 5 ls)))) (run:=fun n x=>start (iter step n) x.1 x.2.1 x.2.2.1 x.2.2.2.1 x.2.2.2.2) mix aF (.cons Z140.af (.cons Z146.af (.cons Z254.af .nil))) .nil (.cons (Z255.tJ 0) .nil) Tryz.func214 (by kernel_rfl) run_eq (fun ls a _ e hg=>mY ls a e hg)
end Z256
namespace Z257
def F (x0:bw)(x1:aE)(x2:Int)(x3:aE)(x4:Int):aI:=(call (Z256.R (x0,x2,x3,x1,x4)) fun v1=>ret (v1:cS))
def md (a0:au)(a1:List ay)(a2:Int)(a3:List aD)(a4:Int):bu:=(Z256.md a0 a2 a3 a1 a4)
def gd (a0:au)(a1:List ay)(a2:Int)(a3:List aD)(a4:Int):Prop:=(au.Sm (2^21) a0)/\(bM (2^21) (fun y:ay=>ay.Sm (2^21) y) a1)/\(bM (2^21) (fun y:aD=>y.size<=(2^21)) a3)
def R:=RR (p5 gd) (u5 md)
def aj {a0 a1 a2 a3 a4}(h:gd a0 a1 a2 a3 a4):R ((au.r a0),(a1.map ay.row),a2,(a3.map cG),a4)=some (bu.r (md a0 a1 a2 a3 a4)):=aP (a:=(a0,a1,a2,a3,a4)) h
def aW:=CN [.agg rT,pL 227,pI,pL 9,pI] (.agg f64) RT.dec R
def bt (a0)(a1)(a2)(a3)(a4)(hg:gd a0 a1 a2 a3 a4):F (au.r a0) (a1.map ay.row) a2 (a3.map cG) a4=ret (bu.r (md a0 a1 a2 a3 a4)):=by
 obtain ⟨H0,H1,H3⟩:=hg
 unfold F md
 try simp only [SS]
 refine ct (Z256.aj ⟨H0,H3,H1⟩) ?_
 try simp only [SS]
 all_goals exact fz
def af:cz 127 aW:=W5 16 F mix aF bt (.cons Z256.af .nil) Tryz.func127
def br (a0:au)(a1:List ay)(a2:Int)(a3:List aD)(a4:Int):md a0 a1 a2 a3 a4=Z127.md a0 a1 a2 a3 a4:=by
 unfold md Z256.md Z127.md
 rw [Z146.br]
end Z257
namespace Z258
def F (x0:bw)(x1 x2:aE)(x3:aD)(x4:aE)(x5:Int):aI:=(call (Z132.R (x2,x3)) fun v1=>(cond (!v1.2) (call (Z140.R x0) fun v2=>ret ((⟨v2,6,(⟨(⟨#[]⟩:aD),0,0,[]⟩:aV),[],0⟩:cS):cS)) (call (Z257.R (x0,x1,v1.1,x4,x5)) fun v3=>ret (v3:cS))))
def md (a0:au)(a1:List ay)(a2:List bF)(a3:aD)(a4:List aD)(a5:Int):bu:=(cond (!(Z132.md a2 a3).2) (⟨a0,6,(⟨((⟨#[]⟩:aD):aD),0,0,[]⟩:ah),[],0⟩:bu) (Z257.md a0 a1 ((Z132.md a2 a3).1) a4 a5))
def gd (a0:au)(a1:List ay)(a2:List bF)(a3:aD)(a4:List aD)(a5:Int):Prop:=(au.Sm (2^21) a0)/\(bM (2^21) (fun y:ay=>ay.Sm (2^21) y) a1)/\(bM (2^21) (fun y:bF=>bF.Sm (2^21) y) a2)/\(bM (2^21) (fun y:aD=>y.size<=(2^21)) a4)
def R:=RR (p6 gd) (u6 md)
def aj {a0 a1 a2 a3 a4 a5}(h:gd a0 a1 a2 a3 a4 a5):R ((au.r a0),(a1.map ay.row),(a2.map bF.row),a3,(a4.map cG),a5)=some (bu.r (md a0 a1 a2 a3 a4 a5)):=aP (a:=(a0,a1,a2,a3,a4,a5)) h
def aW:=CN [.agg rT,pL 227,pL 207,pS,pL 9,pI] (.agg f64) RT.dec R
def bt (a0)(a1)(a2)(a3)(a4)(a5)(hg:gd a0 a1 a2 a3 a4 a5):F (au.r a0) (a1.map ay.row) (a2.map bF.row) a3 (a4.map cG) a5=ret (bu.r (md a0 a1 a2 a3 a4 a5)):=by
 obtain ⟨H0,H1,H2,H4⟩:=hg
 unfold F md
 try simp only [SS]
 refine ct (Z132.aj H2) ?_
 refine av (fun b:bu=>ret ((bu.r b):cS)) (fun c1=>?_) (fun c1=>?_)
 ·refine ct (Z140.aj H0) ?_
  try simp only [SS]
  all_goals exact fz
 ·refine ct (Z257.aj ⟨H0,H1,H4⟩) ?_
  try simp only [SS]
  all_goals exact fz
def af:cz 158 aW:=W6 32 F mix aF bt (.cons Z132.af (.cons Z140.af (.cons Z257.af .nil))) Tryz.func158
def br (a0:au)(a1:List ay)(a2:List bF)(a3:aD)(a4:List aD)(a5:Int):md a0 a1 a2 a3 a4 a5=Z128.md a0 a1 a2 a3 a4 a5:=by
 unfold md Z128.md
 first
 | (simp only [Z132.br,Z257.br];done)
 | (simp only [Z132.br,Z257.br];rfl)
 | rfl
end Z258
namespace Z259
inductive Pt where
 | p0 (a b:aE) (c:Int)
def pid:Pt->Nat
 | .p0 ..=>4
def ck:Pt->List V
 | .p0 a b c=>[.sl none 3 a,.sl none 3 b,.int .i64 c]
def cj:Pt->List aY
 | .p0 a b c=>[]
def step (J:Pt->aI):Pt->aI
 | .p0 a b c=>(cond (decide (c<(a.length:Int))) (m2 c (a.length:Int) (m2 c (b.length:Int) (cond ((jx a (toNat c)) != (jx b (toNat c))) bz (J (.p0 a b (i64.wrap (c+1))))))) (ret (true:Bool)))
def start (J:Pt->aI)(x0 x1:aE):aI:=(cond ((x0.length:Int) != (x1.length:Int)) bz (J (.p0 x0 x1 0)))
def live:Nat->Live:=fun i=>match i with | 4=>[(0,none),(1,none),(5,none)] | _=>[]
def pats:List gj:=[.rd (.sl 3),.rd (.sl 3)]
def res:RP:=.one (.rd (.bool))
abbrev E:Env:={ T:=assoc kG,G:=dD [],nt:=26 }
def step_eq (I:cI)(p:Pt):cY E live I (pid p) (bQ Tryz.f187) (fH (live (pid p)) (ck p) (cj p)) (cH E Tryz.f187 res)=step (fun q=>I (pid q) (ck q) (cj q)) p:=by
 cases p<;>kernel_rfl
def start_eq (I:cI)(ls:List L):eW E live I (bQ Tryz.f187) (dc pats ls) (cH E Tryz.f187 res)=start (fun q=>I (pid q) (ck q) (cj q)) (ls.headD .hole).aQ ((aA 1 ls).headD .hole).aQ:=by kernel_rfl
def run_eq (n:Nat)(ls:List L):eO E live Tryz.f187 res n (dc pats ls)=start (iter step n) (ls.headD .hole).aQ ((aA 1 ls).headD .hole).aQ:=cA (id:=pid) (vs:=ck) (hs:=cj) (step:=step) (start:=fun J=>start J (ls.headD .hole).aQ ((aA 1 ls).headD .hole).aQ) step_eq (fun I=>start_eq I ls) n
def md (a0 a1:List Int):Bool:=eg a0 a1
def gd (a0 a1:List Int):Prop:=True
def acc (ls:List L):aE×aE:=((ls.headD .hole).aQ,((aA 1 ls).headD .hole).aQ)
def R:(aE×aE)->Option Bool:=RR (p2 gd) (u2 md)
def aj {a0 a1}(h:gd a0 a1):R ((a0.map bk),(a1.map bk))=some (md a0 a1):=aP (a:=(a0,a1)) h
def aW:ga:=CN pats res acc R
def bt (a0 a1:List Int)(hg:gd a0 a1)(h0:a0.length<=maxLen)(h1:a1.length<=maxLen):∃n,start (iter step n) (a0.map bk) (a1.map bk)=ret ((md a0 a1):Bool):=by
 unfold start md
 simp only [List.length_map]
 refine iO (pt:=fun i=>Pt.p0 (a0.map bk) (a1.map bk) (i:Int)) (fun hl J i h h2=>?_) (fun J=>?_)
 ·simp only [step,MM,List.length_map,aO h,aO h2,aJ,bh,cE,tj h,tj h2]
  rw [aH h h0]
  simp only [bne,fC,bool_beq,eV]
  cases eg a0[i] a1[i]<;>rfl
 ·simp only [step,List.length_map,dZ,bq]
def af:cz 187 aW:=VV (run:=fun n x=>start (iter step n) x.1 x.2) mix aF .nil Tryz.func187 (by kernel_rfl) run_eq (fun ls a hl e hg=>bt a.1 a.2 hg (by have h:(ls.headD .hole).aQ.length<=maxLen:=hl.1.len;have e:a.1.map bk=(ls.headD .hole).aQ:=(congrArg (fun x=>x.1) e.symm);rw [<-e] at h;simpa using h) (by have h:((aA 1 ls).headD .hole).aQ.length<=maxLen:=hl.2.1.len;have e:a.2.map bk=((aA 1 ls).headD .hole).aQ:=(congrArg (fun x=>x.2) e.symm);rw [<-e] at h;simpa using h))
end Z259
namespace Z260
def F (x0 x1:bE):aI:=(call (Z259.R (x0.aX,x1.aX)) fun v1=>(cond (!v1) bz (cond (x0.cF != x1.cF) bz (ret (true:Bool)))))
def md (a0 a1:aM):Bool:=eg a0 a1
def gd (a0 a1:aM):Prop:=True
def R:=RR (p2 gd) (u2 md)
def aj {a0 a1}(h:gd a0 a1):R ((aM.r a0),(aM.r a1))=some (md a0 a1):=aP (a:=(a0,a1)) h
def aW:=CN [.agg qa,.agg qa] oB RT.dec R
def bt (a0)(a1)(hg:gd a0 a1):F (aM.r a0) (aM.r a1)=ret (md a0 a1):=by
 unfold md
 show (call (Z259.R ((a0.aX.map bk),(a1.aX.map bk))) fun v1=>(cond (!v1) bz (cond (a0.cF != a1.cF) bz (ret (true:Bool)))))=_
 simp only [call_eq (Z259.aj (a0:=a0.aX) (a1:=a1.aX) trivial),Z259.md]
 try simp only [bne,fC,bool_beq,eV]
 have e:eg a0 a1=(eg a0.aX a1.aX&&(eg a0.cF a1.cF&&true)):=by
  cases a0;cases a1
  rw [Bool.eq_iff_iff]
  simp only [dy,Bool.and_eq_true,aM.mk.injEq,and_true]
 rw [e]
 refine cR fun _=>?_
 refine cR fun _=>?_
 rfl
def af:cz 553 aW:=W2 16 F mix aF bt (.cons Z259.af .nil) Tryz.func553
end Z260
namespace Z261
def F (x0 x1:cg):aI:=(cond (x0.bC != x1.bC) bz (cond (x0.cN != x1.cN) bz (cond (x0.bI != x1.bI) bz (cond (x0.cK != x1.cK) bz (cond (x0.cC != x1.cC) bz (cond (x0.cy != x1.cy) bz (cond (x0.dm != x1.dm) bz (cond (x0.dH != x1.dH) bz (call (Z260.R (x0.bP,x1.bP)) fun v1=>(cond (!v1) bz (call (Z260.R (x0.bD,x1.bD)) fun v2=>(cond (!v2) bz (cond (x0.dw != x1.dw) bz (call (Z260.R (x0.bA,x1.bA)) fun v3=>(cond (!v3) bz (cond (!(x0.bG==x1.bG)) bz (ret (true:Bool))))))))))))))))))
def md (a0 a1:aG):Bool:=eg a0 a1
def gd (a0 a1:aG):Prop:=True
def R:=RR (p2 gd) (u2 md)
def aj {a0 a1}(h:gd a0 a1):R ((aG.r a0),(aG.r a1))=some (md a0 a1):=aP (a:=(a0,a1)) h
def aW:=CN [.agg gi,.agg gi] oB RT.dec R
def bt (a0)(a1)(hg:gd a0 a1):F (aG.r a0) (aG.r a1)=ret (md a0 a1):=by
 unfold md
 show (bif (a0.bC != a1.bC) then ret (false:Bool) else (bif (a0.cN != a1.cN) then ret (false:Bool) else (bif (a0.bI != a1.bI) then ret (false:Bool) else (bif (a0.cK != a1.cK) then ret (false:Bool) else (bif (a0.cC != a1.cC) then ret (false:Bool) else (bif (a0.cy != a1.cy) then ret (false:Bool) else (bif (a0.dm != a1.dm) then ret (false:Bool) else (bif (a0.dH != a1.dH) then ret (false:Bool) else (call (Z260.R ((aM.r a0.bP),(aM.r a1.bP))) fun v1=>(bif (!v1) then ret (false:Bool) else (call (Z260.R ((aM.r a0.bD),(aM.r a1.bD))) fun v2=>(bif (!v2) then ret (false:Bool) else (bif (a0.dw != a1.dw) then ret (false:Bool) else (call (Z260.R ((aM.r a0.bA),(aM.r a1.bA))) fun v3=>(cond (!v3) bz (cond (!(a0.bG==a1.bG)) bz (ret (true:Bool))))))))))))))))))=_
 simp only [call_eq (Z260.aj (a0:=a0.bP) (a1:=a1.bP) trivial),Z260.md]
 simp only [call_eq (Z260.aj (a0:=a0.bD) (a1:=a1.bD) trivial),Z260.md]
 simp only [call_eq (Z260.aj (a0:=a0.bA) (a1:=a1.bA) trivial),Z260.md]
 try simp only [bne,fC,bool_beq,eV]
 have e:eg a0 a1=(eg a0.bC a1.bC&&(eg a0.cN a1.cN&&(eg a0.bI a1.bI&&(eg a0.cK a1.cK&&(eg a0.cC a1.cC&&(eg a0.cy a1.cy&&(eg a0.dm a1.dm&&(eg a0.dH a1.dH&&(eg a0.bP a1.bP&&(eg a0.bD a1.bD&&(eg a0.dw a1.dw&&(eg a0.bA a1.bA&&(eg a0.bG a1.bG&&true))))))))))))):=by
  cases a0;cases a1
  rw [Bool.eq_iff_iff]
  simp only [dy,Bool.and_eq_true,aG.mk.injEq,and_true]
 rw [e]
 refine cR fun _=>?_
 refine cR fun _=>?_
 refine cR fun _=>?_
 refine cR fun _=>?_
 refine cR fun _=>?_
 refine cR fun _=>?_
 refine cR fun _=>?_
 refine cR fun _=>?_
 refine cR fun _=>?_
 refine cR fun _=>?_
 refine cR fun _=>?_
 refine cR fun _=>?_
 refine cR fun _=>?_
 rfl
def af:cz 492 aW:=W2 73 F mix aF bt (.cons Z260.af .nil) Tryz.func492
end Z261
namespace Z262
def F (x0 x1:bp):aI:=(cond (x0.gU != x1.gU) bz (cond (x0.jz != x1.jz) bz (ret (true:Bool))))
def md (a0 a1:bp):Bool:=eg a0 a1
def gd (a0 a1:bp):Prop:=True
def R:=RR (p2 gd) (u2 md)
def aj {a0 a1}(h:gd a0 a1):R (a0,a1)=some (md a0 a1):=aP (a:=(a0,a1)) h
def aW:=CN [.agg xZ,.agg xZ] oB RT.dec R
def bt (a0)(a1)(hg:gd a0 a1):F a0 a1=ret (md a0 a1):=by
 unfold md
 show (cond (a0.gU != a1.gU) bz (cond (a0.jz != a1.jz) bz (ret (true:Bool))))=_
 try simp only [bne,fC,bool_beq,eV]
 have e:eg a0 a1=(eg a0.gU a1.gU&&(eg a0.jz a1.jz&&true)):=by
  cases a0;cases a1
  rw [Bool.eq_iff_iff]
  simp only [dy,Bool.and_eq_true,bp.mk.injEq,and_true]
 rw [e]
 refine cR fun _=>?_
 refine cR fun _=>?_
 rfl
def af:cz 554 aW:=W2 15 F mix aF bt .nil Tryz.func554
end Z262
namespace Z263
inductive Pt where
 | p0 (a b:aE) (c:Int)
def pid:Pt->Nat
 | .p0 ..=>4
def ck:Pt->List V
 | .p0 a b c=>[.sl none 428 a,.sl none 428 b,.int .i64 c]
def cj:Pt->List aY
 | .p0 a b c=>[]
def step (J:Pt->aI):Pt->aI
 | .p0 a b c=>(cond (decide (c<(a.length:Int))) (m2 c (a.length:Int) (m2 c (b.length:Int) (call (Z262.R ((bp.at a (toNat c)),(bp.at b (toNat c)))) fun v1=>(cond (!v1) bz (J (.p0 a b (i64.wrap (c+1)))))))) (ret (true:Bool)))
def start (J:Pt->aI)(x0 x1:aE):aI:=(cond ((x0.length:Int) != (x1.length:Int)) bz (J (.p0 x0 x1 0)))
def live:Nat->Live:=fun i=>match i with | 4=>[(0,none),(1,none),(5,none)] | _=>[]
def pats:List gj:=[.rd (.sl 428),.rd (.sl 428)]
def res:RP:=.one (.rd (.bool))
abbrev E:Env:={ T:=assoc kG,G:=dD [(554,Z262.aW)],nt:=27 }
def step_eq (I:cI)(p:Pt):cY E live I (pid p) (bQ Tryz.f493) (fH (live (pid p)) (ck p) (cj p)) (cH E Tryz.f493 res)=step (fun q=>I (pid q) (ck q) (cj q)) p:=by
 cases p<;>kernel_rfl
def start_eq (I:cI)(ls:List L):eW E live I (bQ Tryz.f493) (dc pats ls) (cH E Tryz.f493 res)=start (fun q=>I (pid q) (ck q) (cj q)) (ls.headD .hole).aQ ((aA 1 ls).headD .hole).aQ:=by kernel_rfl
def run_eq (n:Nat)(ls:List L):eO E live Tryz.f493 res n (dc pats ls)=start (iter step n) (ls.headD .hole).aQ ((aA 1 ls).headD .hole).aQ:=cA (id:=pid) (vs:=ck) (hs:=cj) (step:=step) (start:=fun J=>start J (ls.headD .hole).aQ ((aA 1 ls).headD .hole).aQ) step_eq (fun I=>start_eq I ls) n
def md (a0 a1:List bp):Bool:=eg a0 a1
def gd (a0 a1:List bp):Prop:=True
def acc (ls:List L):aE×aE:=((ls.headD .hole).aQ,((aA 1 ls).headD .hole).aQ)
def R:(aE×aE)->Option Bool:=RR (p2 gd) (u2 md)
def aj {a0 a1}(h:gd a0 a1):R ((a0.map bp.row),(a1.map bp.row))=some (md a0 a1):=aP (a:=(a0,a1)) h
def aW:ga:=CN pats res acc R
def bt (a0 a1:List bp)(hg:gd a0 a1)(h0:a0.length<=maxLen)(h1:a1.length<=maxLen):∃n,start (iter step n) (a0.map bp.row) (a1.map bp.row)=ret ((md a0 a1):Bool):=by
 unfold start md
 simp only [List.length_map]
 refine iO (pt:=fun i=>Pt.p0 (a0.map bp.row) (a1.map bp.row) (i:Int)) (fun hl J i h h2=>?_) (fun J=>?_)
 ·simp only [step,MM,List.length_map,aO h,aO h2,aJ,bh,cE,bp.eA h,bp.eA h2]
  rw [aH h h0]
  rw [call_eq (Z262.aj (a0:=a0[i]) (a1:=a1[i]) trivial),Z262.md]
  cases eg a0[i] a1[i]<;>rfl
 ·simp only [step,List.length_map,dZ,bq]
def af:cz 493 aW:=VV (run:=fun n x=>start (iter step n) x.1 x.2) mix aF (.cons Z262.af .nil) Tryz.func493 (by kernel_rfl) run_eq (fun ls a hl e hg=>bt a.1 a.2 hg (by have h:(ls.headD .hole).aQ.length<=maxLen:=hl.1.len;have e:a.1.map bp.row=(ls.headD .hole).aQ:=(congrArg (fun x=>x.1) e.symm);rw [<-e] at h;simpa using h) (by have h:((aA 1 ls).headD .hole).aQ.length<=maxLen:=hl.2.1.len;have e:a.2.map bp.row=((aA 1 ls).headD .hole).aQ:=(congrArg (fun x=>x.2) e.symm);rw [<-e] at h;simpa using h))
end Z263
namespace Z264
def F (x0 x1:aT):aI:=(call (Z261.R (x0.aq,x1.aq)) fun v1=>(cond (!v1) bz (call (Z263.R (x0.cu,x1.cu)) fun v2=>(cond (!v2) bz (ret (true:Bool))))))
def md (a0 a1:aa):Bool:=eg a0 a1
def gd (a0 a1:aa):Prop:=True
def R:=RR (p2 gd) (u2 md)
def aj {a0 a1}(h:gd a0 a1):R ((aa.r a0),(aa.r a1))=some (md a0 a1):=aP (a:=(a0,a1)) h
def aW:=CN [.agg kI,.agg kI] oB RT.dec R
def bt (a0)(a1)(hg:gd a0 a1):F (aa.r a0) (aa.r a1)=ret (md a0 a1):=by
 unfold md
 show (call (Z261.R ((aG.r a0.aq),(aG.r a1.aq))) fun v1=>(bif (!v1) then ret (false:Bool) else (call (Z263.R ((a0.cu.map bp.row),(a1.cu.map bp.row))) fun v2=>(cond (!v2) bz (ret (true:Bool))))))=_
 simp only [call_eq (Z261.aj (a0:=a0.aq) (a1:=a1.aq) trivial),Z261.md]
 simp only [call_eq (Z263.aj (a0:=a0.cu) (a1:=a1.cu) trivial),Z263.md]
 try simp only [bne,fC,bool_beq,eV]
 have e:eg a0 a1=(eg a0.aq a1.aq&&(eg a0.cu a1.cu&&true)):=by
  cases a0;cases a1
  rw [Bool.eq_iff_iff]
  simp only [dy,Bool.and_eq_true,aa.mk.injEq,and_true]
 rw [e]
 refine cR fun _=>?_
 refine cR fun _=>?_
 rfl
def af:cz 426 aW:=W2 17 F mix aF bt (.cons Z261.af (.cons Z263.af .nil)) Tryz.func426
end Z264
namespace Z265
inductive Pt where
 | p0 (a b:aE) (c:Int)
def pid:Pt->Nat
 | .p0 ..=>4
def ck:Pt->List V
 | .p0 a b c=>[.sl none 123 a,.sl none 123 b,.int .i64 c]
def cj:Pt->List aY
 | .p0 a b c=>[]
def step (J:Pt->aI):Pt->aI
 | .p0 a b c=>(cond (decide (c<(a.length:Int))) (m2 c (a.length:Int) (m2 c (b.length:Int) (call (Z264.R ((aT.at a (toNat c)),(aT.at b (toNat c)))) fun v1=>(cond (!v1) bz (J (.p0 a b (i64.wrap (c+1)))))))) (ret (true:Bool)))
def start (J:Pt->aI)(x0 x1:aE):aI:=(cond ((x0.length:Int) != (x1.length:Int)) bz (J (.p0 x0 x1 0)))
def live:Nat->Live:=fun i=>match i with | 4=>[(0,none),(1,none),(5,none)] | _=>[]
def pats:List gj:=[.rd (.sl 123),.rd (.sl 123)]
def res:RP:=.one (.rd (.bool))
abbrev E:Env:={ T:=assoc kG,G:=dD [(426,Z264.aW)],nt:=27 }
def step_eq (I:cI)(p:Pt):cY E live I (pid p) (bQ Tryz.f328) (fH (live (pid p)) (ck p) (cj p)) (cH E Tryz.f328 res)=step (fun q=>I (pid q) (ck q) (cj q)) p:=by
 cases p<;>kernel_rfl
def start_eq (I:cI)(ls:List L):eW E live I (bQ Tryz.f328) (dc pats ls) (cH E Tryz.f328 res)=start (fun q=>I (pid q) (ck q) (cj q)) (ls.headD .hole).aQ ((aA 1 ls).headD .hole).aQ:=by kernel_rfl
def run_eq (n:Nat)(ls:List L):eO E live Tryz.f328 res n (dc pats ls)=start (iter step n) (ls.headD .hole).aQ ((aA 1 ls).headD .hole).aQ:=cA (id:=pid) (vs:=ck) (hs:=cj) (step:=step) (start:=fun J=>start J (ls.headD .hole).aQ ((aA 1 ls).headD .hole).aQ) step_eq (fun I=>start_eq I ls) n
def md (a0 a1:List aa):Bool:=eg a0 a1
def gd (a0 a1:List aa):Prop:=True
def acc (ls:List L):aE×aE:=((ls.headD .hole).aQ,((aA 1 ls).headD .hole).aQ)
def R:(aE×aE)->Option Bool:=RR (p2 gd) (u2 md)
def aj {a0 a1}(h:gd a0 a1):R ((a0.map aa.row),(a1.map aa.row))=some (md a0 a1):=aP (a:=(a0,a1)) h
def aW:ga:=CN pats res acc R
def bt (a0 a1:List aa)(hg:gd a0 a1)(h0:a0.length<=maxLen)(h1:a1.length<=maxLen):∃n,start (iter step n) (a0.map aa.row) (a1.map aa.row)=ret ((md a0 a1):Bool):=by
 unfold start md
 simp only [List.length_map]
 refine iO (pt:=fun i=>Pt.p0 (a0.map aa.row) (a1.map aa.row) (i:Int)) (fun hl J i h h2=>?_) (fun J=>?_)
 ·simp only [step,MM,List.length_map,aO h,aO h2,aJ,bh,cE,aa.eA h,aa.eA h2]
  rw [aH h h0]
  rw [call_eq (Z264.aj (a0:=a0[i]) (a1:=a1[i]) trivial),Z264.md]
  cases eg a0[i] a1[i]<;>rfl
 ·simp only [step,List.length_map,dZ,bq]
def af:cz 328 aW:=VV (run:=fun n x=>start (iter step n) x.1 x.2) mix aF (.cons Z264.af .nil) Tryz.func328 (by kernel_rfl) run_eq (fun ls a hl e hg=>bt a.1 a.2 hg (by have h:(ls.headD .hole).aQ.length<=maxLen:=hl.1.len;have e:a.1.map aa.row=(ls.headD .hole).aQ:=(congrArg (fun x=>x.1) e.symm);rw [<-e] at h;simpa using h) (by have h:((aA 1 ls).headD .hole).aQ.length<=maxLen:=hl.2.1.len;have e:a.2.map aa.row=((aA 1 ls).headD .hole).aQ:=(congrArg (fun x=>x.2) e.symm);rw [<-e] at h;simpa using h))
end Z265
namespace Z266
inductive Pt where
 | p0 (a b:aE) (c:Int)
def pid:Pt->Nat
 | .p0 ..=>4
def ck:Pt->List V
 | .p0 a b c=>[.sl none 92 a,.sl none 92 b,.int .i64 c]
def cj:Pt->List aY
 | .p0 a b c=>[]
def step (J:Pt->aI):Pt->aI
 | .p0 a b c=>(cond (decide (c<(a.length:Int))) (m2 c (a.length:Int) (m2 c (b.length:Int) (call (Z265.R ((oG a (toNat c)),(oG b (toNat c)))) fun v1=>(cond (!v1) bz (J (.p0 a b (i64.wrap (c+1)))))))) (ret (true:Bool)))
def start (J:Pt->aI)(x0 x1:aE):aI:=(cond ((x0.length:Int) != (x1.length:Int)) bz (J (.p0 x0 x1 0)))
def live:Nat->Live:=fun i=>match i with | 4=>[(0,none),(1,none),(5,none)] | _=>[]
def pats:List gj:=[.rd (.sl 92),.rd (.sl 92)]
def res:RP:=.one (.rd (.bool))
abbrev E:Env:={ T:=assoc kG,G:=dD [(328,Z265.aW)],nt:=27 }
def step_eq (I:cI)(p:Pt):cY E live I (pid p) (bQ Tryz.f171) (fH (live (pid p)) (ck p) (cj p)) (cH E Tryz.f171 res)=step (fun q=>I (pid q) (ck q) (cj q)) p:=by
 cases p<;>kernel_rfl
def start_eq (I:cI)(ls:List L):eW E live I (bQ Tryz.f171) (dc pats ls) (cH E Tryz.f171 res)=start (fun q=>I (pid q) (ck q) (cj q)) (ls.headD .hole).aQ ((aA 1 ls).headD .hole).aQ:=by kernel_rfl
def run_eq (n:Nat)(ls:List L):eO E live Tryz.f171 res n (dc pats ls)=start (iter step n) (ls.headD .hole).aQ ((aA 1 ls).headD .hole).aQ:=cA (id:=pid) (vs:=ck) (hs:=cj) (step:=step) (start:=fun J=>start J (ls.headD .hole).aQ ((aA 1 ls).headD .hole).aQ) step_eq (fun I=>start_eq I ls) n
def md (a0 a1:List (List aa)):Bool:=eg a0 a1
def gd (a0 a1:List (List aa)):Prop:=True
def acc (ls:List L):aE×aE:=((ls.headD .hole).aQ,((aA 1 ls).headD .hole).aQ)
def R:(aE×aE)->Option Bool:=RR (p2 gd) (u2 md)
def aj {a0 a1}(h:gd a0 a1):R ((a0.map (dO aa.row)),(a1.map (dO aa.row)))=some (md a0 a1):=aP (a:=(a0,a1)) h
def aW:ga:=CN pats res acc R
def bt (a0 a1:List (List aa))(hg:gd a0 a1)(h0:a0.length<=maxLen)(h1:a1.length<=maxLen):∃n,start (iter step n) (a0.map (dO aa.row)) (a1.map (dO aa.row))=ret ((md a0 a1):Bool):=by
 unfold start md
 simp only [List.length_map]
 refine iO (pt:=fun i=>Pt.p0 (a0.map (dO aa.row)) (a1.map (dO aa.row)) (i:Int)) (fun hl J i h h2=>?_) (fun J=>?_)
 ·simp only [step,MM,List.length_map,aO h,aO h2,aJ,bh,cE,qe h,qe h2]
  rw [aH h h0]
  rw [call_eq (Z265.aj (a0:=a0[i]) (a1:=a1[i]) trivial),Z265.md]
  cases eg a0[i] a1[i]<;>rfl
 ·simp only [step,List.length_map,dZ,bq]
def af:cz 171 aW:=VV (run:=fun n x=>start (iter step n) x.1 x.2) mix aF (.cons Z265.af .nil) Tryz.func171 (by kernel_rfl) run_eq (fun ls a hl e hg=>bt a.1 a.2 hg (by have h:(ls.headD .hole).aQ.length<=maxLen:=hl.1.len;have e:a.1.map (dO aa.row)=(ls.headD .hole).aQ:=(congrArg (fun x=>x.1) e.symm);rw [<-e] at h;simpa using h) (by have h:((aA 1 ls).headD .hole).aQ.length<=maxLen:=hl.2.1.len;have e:a.2.map (dO aa.row)=((aA 1 ls).headD .hole).aQ:=(congrArg (fun x=>x.2) e.symm);rw [<-e] at h;simpa using h))
end Z266
namespace Z267
def F (x0 x1:bK):aI:=(call (Z264.R (x0.aS,x1.aS)) fun v1=>(cond (!v1) bz (call (Z264.R (x0.fA,x1.fA)) fun v2=>(cond (!v2) bz (call (Z264.R (x0.fB,x1.fB)) fun v3=>(cond (!v3) bz (ret (true:Bool))))))))
def md (a0 a1:aC):Bool:=eg a0 a1
def gd (a0 a1:aC):Prop:=True
def R:=RR (p2 gd) (u2 md)
def aj {a0 a1}(h:gd a0 a1):R ((aC.r a0),(aC.r a1))=some (md a0 a1):=aP (a:=(a0,a1)) h
def aW:=CN [.agg tH,.agg tH] oB RT.dec R
def bt (a0)(a1)(hg:gd a0 a1):F (aC.r a0) (aC.r a1)=ret (md a0 a1):=by
 unfold md
 show (call (Z264.R ((aa.r a0.aS),(aa.r a1.aS))) fun v1=>(bif (!v1) then ret (false:Bool) else (call (Z264.R ((aa.r a0.fA),(aa.r a1.fA))) fun v2=>(bif (!v2) then ret (false:Bool) else (call (Z264.R ((aa.r a0.fB),(aa.r a1.fB))) fun v3=>(cond (!v3) bz (ret (true:Bool))))))))=_
 simp only [call_eq (Z264.aj (a0:=a0.aS) (a1:=a1.aS) trivial),Z264.md]
 simp only [call_eq (Z264.aj (a0:=a0.fA) (a1:=a1.fA) trivial),Z264.md]
 simp only [call_eq (Z264.aj (a0:=a0.fB) (a1:=a1.fB) trivial),Z264.md]
 try simp only [bne,fC,bool_beq,eV]
 have e:eg a0 a1=(eg a0.aS a1.aS&&(eg a0.fA a1.fA&&(eg a0.fB a1.fB&&true))):=by
  cases a0;cases a1
  rw [Bool.eq_iff_iff]
  simp only [dy,Bool.and_eq_true,aC.mk.injEq,and_true]
 rw [e]
 refine cR fun _=>?_
 refine cR fun _=>?_
 refine cR fun _=>?_
 rfl
def af:cz 329 aW:=W2 23 F mix aF bt (.cons Z264.af .nil) Tryz.func329
end Z267
namespace Z268
inductive Pt where
 | p0 (a b:aE) (c:Int)
def pid:Pt->Nat
 | .p0 ..=>4
def ck:Pt->List V
 | .p0 a b c=>[.sl none 280 a,.sl none 280 b,.int .i64 c]
def cj:Pt->List aY
 | .p0 a b c=>[]
def step (J:Pt->aI):Pt->aI
 | .p0 a b c=>(cond (decide (c<(a.length:Int))) (m2 c (a.length:Int) (m2 c (b.length:Int) (call (Z267.R ((bK.at a (toNat c)),(bK.at b (toNat c)))) fun v1=>(cond (!v1) bz (J (.p0 a b (i64.wrap (c+1)))))))) (ret (true:Bool)))
def start (J:Pt->aI)(x0 x1:aE):aI:=(cond ((x0.length:Int) != (x1.length:Int)) bz (J (.p0 x0 x1 0)))
def live:Nat->Live:=fun i=>match i with | 4=>[(0,none),(1,none),(5,none)] | _=>[]
def pats:List gj:=[.rd (.sl 280),.rd (.sl 280)]
def res:RP:=.one (.rd (.bool))
abbrev E:Env:={ T:=assoc kG,G:=dD [(329,Z267.aW)],nt:=27 }
def step_eq (I:cI)(p:Pt):cY E live I (pid p) (bQ Tryz.f172) (fH (live (pid p)) (ck p) (cj p)) (cH E Tryz.f172 res)=step (fun q=>I (pid q) (ck q) (cj q)) p:=by
 cases p<;>kernel_rfl
def start_eq (I:cI)(ls:List L):eW E live I (bQ Tryz.f172) (dc pats ls) (cH E Tryz.f172 res)=start (fun q=>I (pid q) (ck q) (cj q)) (ls.headD .hole).aQ ((aA 1 ls).headD .hole).aQ:=by kernel_rfl
def run_eq (n:Nat)(ls:List L):eO E live Tryz.f172 res n (dc pats ls)=start (iter step n) (ls.headD .hole).aQ ((aA 1 ls).headD .hole).aQ:=cA (id:=pid) (vs:=ck) (hs:=cj) (step:=step) (start:=fun J=>start J (ls.headD .hole).aQ ((aA 1 ls).headD .hole).aQ) step_eq (fun I=>start_eq I ls) n
def md (a0 a1:List aC):Bool:=eg a0 a1
def gd (a0 a1:List aC):Prop:=True
def acc (ls:List L):aE×aE:=((ls.headD .hole).aQ,((aA 1 ls).headD .hole).aQ)
def R:(aE×aE)->Option Bool:=RR (p2 gd) (u2 md)
def aj {a0 a1}(h:gd a0 a1):R ((a0.map aC.row),(a1.map aC.row))=some (md a0 a1):=aP (a:=(a0,a1)) h
def aW:ga:=CN pats res acc R
def bt (a0 a1:List aC)(hg:gd a0 a1)(h0:a0.length<=maxLen)(h1:a1.length<=maxLen):∃n,start (iter step n) (a0.map aC.row) (a1.map aC.row)=ret ((md a0 a1):Bool):=by
 unfold start md
 simp only [List.length_map]
 refine iO (pt:=fun i=>Pt.p0 (a0.map aC.row) (a1.map aC.row) (i:Int)) (fun hl J i h h2=>?_) (fun J=>?_)
 ·simp only [step,MM,List.length_map,aO h,aO h2,aJ,bh,cE,aC.eA h,aC.eA h2]
  rw [aH h h0]
  rw [call_eq (Z267.aj (a0:=a0[i]) (a1:=a1[i]) trivial),Z267.md]
  cases eg a0[i] a1[i]<;>rfl
 ·simp only [step,List.length_map,dZ,bq]
def af:cz 172 aW:=VV (run:=fun n x=>start (iter step n) x.1 x.2) mix aF (.cons Z267.af .nil) Tryz.func172 (by kernel_rfl) run_eq (fun ls a hl e hg=>bt a.1 a.2 hg (by have h:(ls.headD .hole).aQ.length<=maxLen:=hl.1.len;have e:a.1.map aC.row=(ls.headD .hole).aQ:=(congrArg (fun x=>x.1) e.symm);rw [<-e] at h;simpa using h) (by have h:((aA 1 ls).headD .hole).aQ.length<=maxLen:=hl.2.1.len;have e:a.2.map aC.row=((aA 1 ls).headD .hole).aQ:=(congrArg (fun x=>x.2) e.symm);rw [<-e] at h;simpa using h))
end Z268
namespace Z269
def F (x0 x1:bw):aI:=(call (Z266.R (x0.aK,x1.aK)) fun v1=>(cond (!v1) bz (call (Z268.R (x0.bn,x1.bn)) fun v2=>(cond (!v2) bz (ret (true:Bool))))))
def md (a0 a1:au):Bool:=eg a0 a1
def gd (a0 a1:au):Prop:=True
def R:=RR (p2 gd) (u2 md)
def aj {a0 a1}(h:gd a0 a1):R ((au.r a0),(au.r a1))=some (md a0 a1):=aP (a:=(a0,a1)) h
def aW:=CN [.agg rT,.agg rT] oB RT.dec R
def bt (a0)(a1)(hg:gd a0 a1):F (au.r a0) (au.r a1)=ret (md a0 a1):=by
 unfold md
 show (call (Z266.R ((a0.aK.map (dO aa.row)),(a1.aK.map (dO aa.row)))) fun v1=>(bif (!v1) then ret (false:Bool) else (call (Z268.R ((a0.bn.map aC.row),(a1.bn.map aC.row))) fun v2=>(cond (!v2) bz (ret (true:Bool))))))=_
 simp only [call_eq (Z266.aj (a0:=a0.aK) (a1:=a1.aK) trivial),Z266.md]
 simp only [call_eq (Z268.aj (a0:=a0.bn) (a1:=a1.bn) trivial),Z268.md]
 try simp only [bne,fC,bool_beq,eV]
 have e:eg a0 a1=(eg a0.aK a1.aK&&(eg a0.bn a1.bn&&true)):=by
  cases a0;cases a1
  rw [Bool.eq_iff_iff]
  simp only [dy,Bool.and_eq_true,au.mk.injEq,and_true]
 rw [e]
 refine cR fun _=>?_
 refine cR fun _=>?_
 rfl
def af:cz 32 aW:=W2 17 F mix aF bt (.cons Z266.af (.cons Z268.af .nil)) Tryz.func32
end Z269
namespace Z270
inductive Pt where
 | p0 (a b:aE) (c:Int)
def pid:Pt->Nat
 | .p0 ..=>4
def ck:Pt->List V
 | .p0 a b c=>[.sl none 9 a,.sl none 9 b,.int .i64 c]
def cj:Pt->List aY
 | .p0 a b c=>[]
def step (J:Pt->aI):Pt->aI
 | .p0 a b c=>(cond (decide (c<(a.length:Int))) (m2 c (a.length:Int) (m2 c (b.length:Int) (cond (!((qi a (toNat c))==(qi b (toNat c)))) bz (J (.p0 a b (i64.wrap (c+1))))))) (ret (true:Bool)))
def start (J:Pt->aI)(x0 x1:aE):aI:=(cond ((x0.length:Int) != (x1.length:Int)) bz (J (.p0 x0 x1 0)))
def live:Nat->Live:=fun i=>match i with | 4=>[(0,none),(1,none),(5,none)] | _=>[]
def pats:List gj:=[.rd (.sl 9),.rd (.sl 9)]
def res:RP:=.one (.rd (.bool))
abbrev E:Env:={ T:=assoc kG,G:=dD [],nt:=26 }
def step_eq (I:cI)(p:Pt):cY E live I (pid p) (bQ Tryz.f35) (fH (live (pid p)) (ck p) (cj p)) (cH E Tryz.f35 res)=step (fun q=>I (pid q) (ck q) (cj q)) p:=by
 cases p<;>kernel_rfl
def start_eq (I:cI)(ls:List L):eW E live I (bQ Tryz.f35) (dc pats ls) (cH E Tryz.f35 res)=start (fun q=>I (pid q) (ck q) (cj q)) (ls.headD .hole).aQ ((aA 1 ls).headD .hole).aQ:=by kernel_rfl
def run_eq (n:Nat)(ls:List L):eO E live Tryz.f35 res n (dc pats ls)=start (iter step n) (ls.headD .hole).aQ ((aA 1 ls).headD .hole).aQ:=cA (id:=pid) (vs:=ck) (hs:=cj) (step:=step) (start:=fun J=>start J (ls.headD .hole).aQ ((aA 1 ls).headD .hole).aQ) step_eq (fun I=>start_eq I ls) n
def md (a0 a1:List aD):Bool:=eg a0 a1
def gd (a0 a1:List aD):Prop:=True
def acc (ls:List L):aE×aE:=((ls.headD .hole).aQ,((aA 1 ls).headD .hole).aQ)
def R:(aE×aE)->Option Bool:=RR (p2 gd) (u2 md)
def aj {a0 a1}(h:gd a0 a1):R ((a0.map cG),(a1.map cG))=some (md a0 a1):=aP (a:=(a0,a1)) h
def aW:ga:=CN pats res acc R
def bt (a0 a1:List aD)(hg:gd a0 a1)(h0:a0.length<=maxLen)(h1:a1.length<=maxLen):∃n,start (iter step n) (a0.map cG) (a1.map cG)=ret ((md a0 a1):Bool):=by
 unfold start md
 simp only [List.length_map]
 refine iO (pt:=fun i=>Pt.p0 (a0.map cG) (a1.map cG) (i:Int)) (fun hl J i h h2=>?_) (fun J=>?_)
 ·simp only [step,MM,List.length_map,aO h,aO h2,aJ,bh,cE,pW h,pW h2]
  rw [aH h h0]
  simp only [bne,fC,bool_beq,eV]
  cases eg a0[i] a1[i]<;>rfl
 ·simp only [step,List.length_map,dZ,bq]
def af:cz 35 aW:=VV (run:=fun n x=>start (iter step n) x.1 x.2) mix aF .nil Tryz.func35 (by kernel_rfl) run_eq (fun ls a hl e hg=>bt a.1 a.2 hg (by have h:(ls.headD .hole).aQ.length<=maxLen:=hl.1.len;have e:a.1.map cG=(ls.headD .hole).aQ:=(congrArg (fun x=>x.1) e.symm);rw [<-e] at h;simpa using h) (by have h:((aA 1 ls).headD .hole).aQ.length<=maxLen:=hl.2.1.len;have e:a.2.map cG=((aA 1 ls).headD .hole).aQ:=(congrArg (fun x=>x.2) e.symm);rw [<-e] at h;simpa using h))
end Z270
namespace Z271
def F (x0 x1:aV):aI:=(cond (!(x0.aZ==x1.aZ)) bz (cond (x0.bI != x1.bI) bz (cond (x0.bX != x1.bX) bz (call (Z270.R (x0.bH,x1.bH)) fun v1=>(cond (!v1) bz (ret (true:Bool)))))))
def md (a0 a1:ah):Bool:=eg a0 a1
def gd (a0 a1:ah):Prop:=True
def R:=RR (p2 gd) (u2 md)
def aj {a0 a1}(h:gd a0 a1):R ((ah.r a0),(ah.r a1))=some (md a0 a1):=aP (a:=(a0,a1)) h
def aW:=CN [.agg rE,.agg rE] oB RT.dec R
def bt (a0)(a1)(hg:gd a0 a1):F (ah.r a0) (ah.r a1)=ret (md a0 a1):=by
 unfold md
 show (bif (!(a0.aZ==a1.aZ)) then ret (false:Bool) else (bif (a0.bI != a1.bI) then ret (false:Bool) else (bif (a0.bX != a1.bX) then ret (false:Bool) else (call (Z270.R ((a0.bH.map cG),(a1.bH.map cG))) fun v1=>(cond (!v1) bz (ret (true:Bool)))))))=_
 simp only [call_eq (Z270.aj (a0:=a0.bH) (a1:=a1.bH) trivial),Z270.md]
 try simp only [bne,fC,bool_beq,eV]
 have e:eg a0 a1=(eg a0.aZ a1.aZ&&(eg a0.bI a1.bI&&(eg a0.bX a1.bX&&(eg a0.bH a1.bH&&true)))):=by
  cases a0;cases a1
  rw [Bool.eq_iff_iff]
  simp only [dy,Bool.and_eq_true,ah.mk.injEq,and_true]
 rw [e]
 refine cR fun _=>?_
 refine cR fun _=>?_
 refine cR fun _=>?_
 refine cR fun _=>?_
 rfl
def af:cz 186 aW:=W2 26 F mix aF bt (.cons Z270.af .nil) Tryz.func186
end Z271
namespace Z272
def F (x0 x1:cS):aI:=(call (Z269.R (x0.bZ,x1.bZ)) fun v1=>(cond (!v1) bz (cond (x0.fq != x1.fq) bz (call (Z271.R (x0.aR,x1.aR)) fun v2=>(cond (!v2) bz (call (Z259.R (x0.bJ,x1.bJ)) fun v3=>(cond (!v3) bz (cond (x0.fo != x1.fo) bz (ret (true:Bool))))))))))
def md (a0 a1:bu):Bool:=eg a0 a1
def gd (a0 a1:bu):Prop:=True
def R:=RR (p2 gd) (u2 md)
def aj {a0 a1}(h:gd a0 a1):R ((bu.r a0),(bu.r a1))=some (md a0 a1):=aP (a:=(a0,a1)) h
def aW:=CN [.agg Bs,.agg Bs] oB RT.dec R
def bt (a0)(a1)(hg:gd a0 a1):F (bu.r a0) (bu.r a1)=ret (md a0 a1):=by
 unfold md
 show (call (Z269.R ((au.r a0.bZ),(au.r a1.bZ))) fun v1=>(bif (!v1) then ret (false:Bool) else (bif (a0.fq != a1.fq) then ret (false:Bool) else (call (Z271.R ((ah.r a0.aR),(ah.r a1.aR))) fun v2=>(bif (!v2) then ret (false:Bool) else (call (Z259.R ((a0.bJ.map bk),(a1.bJ.map bk))) fun v3=>(cond (!v3) bz (cond (a0.fo != a1.fo) bz (ret (true:Bool))))))))))=_
 simp only [call_eq (Z269.aj (a0:=a0.bZ) (a1:=a1.bZ) trivial),Z269.md]
 simp only [call_eq (Z271.aj (a0:=a0.aR) (a1:=a1.aR) trivial),Z271.md]
 simp only [call_eq (Z259.aj (a0:=a0.bJ) (a1:=a1.bJ) trivial),Z259.md]
 try simp only [bne,fC,bool_beq,eV]
 have e:eg a0 a1=(eg a0.bZ a1.bZ&&(eg a0.fq a1.fq&&(eg a0.aR a1.aR&&(eg a0.bJ a1.bJ&&(eg a0.fo a1.fo&&true))))):=by
  cases a0;cases a1
  rw [Bool.eq_iff_iff]
  simp only [dy,Bool.and_eq_true,bu.mk.injEq,and_true]
 rw [e]
 refine cR fun _=>?_
 refine cR fun _=>?_
 refine cR fun _=>?_
 refine cR fun _=>?_
 refine cR fun _=>?_
 rfl
def af:cz 47 aW:=W2 33 F mix aF bt (.cons Z269.af (.cons Z271.af (.cons Z259.af .nil))) Tryz.func47
end Z272
namespace Z273
inductive Pt where
 | p0 (a b:aE) (c:Int)
def pid:Pt->Nat
 | .p0 ..=>4
def ck:Pt->List V
 | .p0 a b c=>[.sl none 61 a,.sl none 61 b,.int .i64 c]
def cj:Pt->List aY
 | .p0 a b c=>[]
def step (J:Pt->aI):Pt->aI
 | .p0 a b c=>(cond (decide (c<(a.length:Int))) (m2 c (a.length:Int) (m2 c (b.length:Int) (call (Z271.R ((aV.at a (toNat c)),(aV.at b (toNat c)))) fun v1=>(cond (!v1) bz (J (.p0 a b (i64.wrap (c+1)))))))) (ret (true:Bool)))
def start (J:Pt->aI)(x0 x1:aE):aI:=(cond ((x0.length:Int) != (x1.length:Int)) bz (J (.p0 x0 x1 0)))
def live:Nat->Live:=fun i=>match i with | 4=>[(0,none),(1,none),(5,none)] | _=>[]
def pats:List gj:=[.rd (.sl 61),.rd (.sl 61)]
def res:RP:=.one (.rd (.bool))
abbrev E:Env:={ T:=assoc kG,G:=dD [(186,Z271.aW)],nt:=27 }
def step_eq (I:cI)(p:Pt):cY E live I (pid p) (bQ Tryz.f494) (fH (live (pid p)) (ck p) (cj p)) (cH E Tryz.f494 res)=step (fun q=>I (pid q) (ck q) (cj q)) p:=by
 cases p<;>kernel_rfl
def start_eq (I:cI)(ls:List L):eW E live I (bQ Tryz.f494) (dc pats ls) (cH E Tryz.f494 res)=start (fun q=>I (pid q) (ck q) (cj q)) (ls.headD .hole).aQ ((aA 1 ls).headD .hole).aQ:=by kernel_rfl
def run_eq (n:Nat)(ls:List L):eO E live Tryz.f494 res n (dc pats ls)=start (iter step n) (ls.headD .hole).aQ ((aA 1 ls).headD .hole).aQ:=cA (id:=pid) (vs:=ck) (hs:=cj) (step:=step) (start:=fun J=>start J (ls.headD .hole).aQ ((aA 1 ls).headD .hole).aQ) step_eq (fun I=>start_eq I ls) n
def md (a0 a1:List ah):Bool:=eg a0 a1
def gd (a0 a1:List ah):Prop:=True
def acc (ls:List L):aE×aE:=((ls.headD .hole).aQ,((aA 1 ls).headD .hole).aQ)
def R:(aE×aE)->Option Bool:=RR (p2 gd) (u2 md)
def aj {a0 a1}(h:gd a0 a1):R ((a0.map ah.row),(a1.map ah.row))=some (md a0 a1):=aP (a:=(a0,a1)) h
def aW:ga:=CN pats res acc R
def bt (a0 a1:List ah)(hg:gd a0 a1)(h0:a0.length<=maxLen)(h1:a1.length<=maxLen):∃n,start (iter step n) (a0.map ah.row) (a1.map ah.row)=ret ((md a0 a1):Bool):=by
 unfold start md
 simp only [List.length_map]
 refine iO (pt:=fun i=>Pt.p0 (a0.map ah.row) (a1.map ah.row) (i:Int)) (fun hl J i h h2=>?_) (fun J=>?_)
 ·simp only [step,MM,List.length_map,aO h,aO h2,aJ,bh,cE,ah.eA h,ah.eA h2]
  rw [aH h h0]
  rw [call_eq (Z271.aj (a0:=a0[i]) (a1:=a1[i]) trivial),Z271.md]
  cases eg a0[i] a1[i]<;>rfl
 ·simp only [step,List.length_map,dZ,bq]
def af:cz 494 aW:=VV (run:=fun n x=>start (iter step n) x.1 x.2) mix aF (.cons Z271.af .nil) Tryz.func494 (by kernel_rfl) run_eq (fun ls a hl e hg=>bt a.1 a.2 hg (by have h:(ls.headD .hole).aQ.length<=maxLen:=hl.1.len;have e:a.1.map ah.row=(ls.headD .hole).aQ:=(congrArg (fun x=>x.1) e.symm);rw [<-e] at h;simpa using h) (by have h:((aA 1 ls).headD .hole).aQ.length<=maxLen:=hl.2.1.len;have e:a.2.map ah.row=((aA 1 ls).headD .hole).aQ:=(congrArg (fun x=>x.2) e.symm);rw [<-e] at h;simpa using h))
end Z273
namespace Z274
def F (x0 x1:dQ):aI:=(call (Z265.R (x0.aU,x1.aU)) fun v1=>(cond (!v1) bz (call (Z273.R (x0.bO,x1.bO)) fun v2=>(cond (!v2) bz (ret (true:Bool))))))
def md (a0 a1:aL):Bool:=eg a0 a1
def gd (a0 a1:aL):Prop:=True
def R:=RR (p2 gd) (u2 md)
def aj {a0 a1}(h:gd a0 a1):R ((aL.r a0),(aL.r a1))=some (md a0 a1):=aP (a:=(a0,a1)) h
def aW:=CN [.agg sU,.agg sU] oB RT.dec R
def bt (a0)(a1)(hg:gd a0 a1):F (aL.r a0) (aL.r a1)=ret (md a0 a1):=by
 unfold md
 show (call (Z265.R ((a0.aU.map aa.row),(a1.aU.map aa.row))) fun v1=>(bif (!v1) then ret (false:Bool) else (call (Z273.R ((a0.bO.map ah.row),(a1.bO.map ah.row))) fun v2=>(cond (!v2) bz (ret (true:Bool))))))=_
 simp only [call_eq (Z265.aj (a0:=a0.aU) (a1:=a1.aU) trivial),Z265.md]
 simp only [call_eq (Z273.aj (a0:=a0.bO) (a1:=a1.bO) trivial),Z273.md]
 try simp only [bne,fC,bool_beq,eV]
 have e:eg a0 a1=(eg a0.aU a1.aU&&(eg a0.bO a1.bO&&true)):=by
  cases a0;cases a1
  rw [Bool.eq_iff_iff]
  simp only [dy,Bool.and_eq_true,aL.mk.injEq,and_true]
 rw [e]
 refine cR fun _=>?_
 refine cR fun _=>?_
 rfl
def af:cz 427 aW:=W2 17 F mix aF bt (.cons Z265.af (.cons Z273.af .nil)) Tryz.func427
end Z274
namespace Z275
inductive Pt where
 | p0 (a b:aE) (c:Int)
def pid:Pt->Nat
 | .p0 ..=>4
def ck:Pt->List V
 | .p0 a b c=>[.sl none 293 a,.sl none 293 b,.int .i64 c]
def cj:Pt->List aY
 | .p0 a b c=>[]
def step (J:Pt->aI):Pt->aI
 | .p0 a b c=>(cond (decide (c<(a.length:Int))) (m2 c (a.length:Int) (m2 c (b.length:Int) (call (Z274.R ((dQ.at a (toNat c)),(dQ.at b (toNat c)))) fun v1=>(cond (!v1) bz (J (.p0 a b (i64.wrap (c+1)))))))) (ret (true:Bool)))
def start (J:Pt->aI)(x0 x1:aE):aI:=(cond ((x0.length:Int) != (x1.length:Int)) bz (J (.p0 x0 x1 0)))
def live:Nat->Live:=fun i=>match i with | 4=>[(0,none),(1,none),(5,none)] | _=>[]
def pats:List gj:=[.rd (.sl 293),.rd (.sl 293)]
def res:RP:=.one (.rd (.bool))
abbrev E:Env:={ T:=assoc kG,G:=dD [(427,Z274.aW)],nt:=27 }
def step_eq (I:cI)(p:Pt):cY E live I (pid p) (bQ Tryz.f330) (fH (live (pid p)) (ck p) (cj p)) (cH E Tryz.f330 res)=step (fun q=>I (pid q) (ck q) (cj q)) p:=by
 cases p<;>kernel_rfl
def start_eq (I:cI)(ls:List L):eW E live I (bQ Tryz.f330) (dc pats ls) (cH E Tryz.f330 res)=start (fun q=>I (pid q) (ck q) (cj q)) (ls.headD .hole).aQ ((aA 1 ls).headD .hole).aQ:=by kernel_rfl
def run_eq (n:Nat)(ls:List L):eO E live Tryz.f330 res n (dc pats ls)=start (iter step n) (ls.headD .hole).aQ ((aA 1 ls).headD .hole).aQ:=cA (id:=pid) (vs:=ck) (hs:=cj) (step:=step) (start:=fun J=>start J (ls.headD .hole).aQ ((aA 1 ls).headD .hole).aQ) step_eq (fun I=>start_eq I ls) n
def md (a0 a1:List aL):Bool:=eg a0 a1
def gd (a0 a1:List aL):Prop:=True
def acc (ls:List L):aE×aE:=((ls.headD .hole).aQ,((aA 1 ls).headD .hole).aQ)
def R:(aE×aE)->Option Bool:=RR (p2 gd) (u2 md)
def aj {a0 a1}(h:gd a0 a1):R ((a0.map aL.row),(a1.map aL.row))=some (md a0 a1):=aP (a:=(a0,a1)) h
def aW:ga:=CN pats res acc R
def bt (a0 a1:List aL)(hg:gd a0 a1)(h0:a0.length<=maxLen)(h1:a1.length<=maxLen):∃n,start (iter step n) (a0.map aL.row) (a1.map aL.row)=ret ((md a0 a1):Bool):=by
 unfold start md
 simp only [List.length_map]
 refine iO (pt:=fun i=>Pt.p0 (a0.map aL.row) (a1.map aL.row) (i:Int)) (fun hl J i h h2=>?_) (fun J=>?_)
 ·simp only [step,MM,List.length_map,aO h,aO h2,aJ,bh,cE,aL.eA h,aL.eA h2]
  rw [aH h h0]
  rw [call_eq (Z274.aj (a0:=a0[i]) (a1:=a1[i]) trivial),Z274.md]
  cases eg a0[i] a1[i]<;>rfl
 ·simp only [step,List.length_map,dZ,bq]
def af:cz 330 aW:=VV (run:=fun n x=>start (iter step n) x.1 x.2) mix aF (.cons Z274.af .nil) Tryz.func330 (by kernel_rfl) run_eq (fun ls a hl e hg=>bt a.1 a.2 hg (by have h:(ls.headD .hole).aQ.length<=maxLen:=hl.1.len;have e:a.1.map aL.row=(ls.headD .hole).aQ:=(congrArg (fun x=>x.1) e.symm);rw [<-e] at h;simpa using h) (by have h:((aA 1 ls).headD .hole).aQ.length<=maxLen:=hl.2.1.len;have e:a.2.map aL.row=((aA 1 ls).headD .hole).aQ:=(congrArg (fun x=>x.2) e.symm);rw [<-e] at h;simpa using h))
end Z275
namespace Z276
def F (x0 x1:cP):aI:=(call (Z275.R (x0.bJ,x1.bJ)) fun v1=>(cond (!v1) bz (cond (x0.gW != x1.gW) bz (ret (true:Bool)))))
def md (a0 a1:ay):Bool:=eg a0 a1
def gd (a0 a1:ay):Prop:=True
def R:=RR (p2 gd) (u2 md)
def aj {a0 a1}(h:gd a0 a1):R ((ay.r a0),(ay.r a1))=some (md a0 a1):=aP (a:=(a0,a1)) h
def aW:=CN [.agg yU,.agg yU] oB RT.dec R
def bt (a0)(a1)(hg:gd a0 a1):F (ay.r a0) (ay.r a1)=ret (md a0 a1):=by
 unfold md
 show (call (Z275.R ((a0.bJ.map aL.row),(a1.bJ.map aL.row))) fun v1=>(cond (!v1) bz (cond (a0.gW != a1.gW) bz (ret (true:Bool)))))=_
 simp only [call_eq (Z275.aj (a0:=a0.bJ) (a1:=a1.bJ) trivial),Z275.md]
 try simp only [bne,fC,bool_beq,eV]
 have e:eg a0 a1=(eg a0.bJ a1.bJ&&(eg a0.gW a1.gW&&true)):=by
  cases a0;cases a1
  rw [Bool.eq_iff_iff]
  simp only [dy,Bool.and_eq_true,ay.mk.injEq,and_true]
 rw [e]
 refine cR fun _=>?_
 refine cR fun _=>?_
 rfl
def af:cz 173 aW:=W2 16 F mix aF bt (.cons Z275.af .nil) Tryz.func173
end Z276
namespace Z277
inductive Pt where
 | p0 (a b:aE) (c:Int)
def pid:Pt->Nat
 | .p0 ..=>4
def ck:Pt->List V
 | .p0 a b c=>[.sl none 227 a,.sl none 227 b,.int .i64 c]
def cj:Pt->List aY
 | .p0 a b c=>[]
def step (J:Pt->aI):Pt->aI
 | .p0 a b c=>(cond (decide (c<(a.length:Int))) (m2 c (a.length:Int) (m2 c (b.length:Int) (call (Z276.R ((cP.at a (toNat c)),(cP.at b (toNat c)))) fun v1=>(cond (!v1) bz (J (.p0 a b (i64.wrap (c+1)))))))) (ret (true:Bool)))
def start (J:Pt->aI)(x0 x1:aE):aI:=(cond ((x0.length:Int) != (x1.length:Int)) bz (J (.p0 x0 x1 0)))
def live:Nat->Live:=fun i=>match i with | 4=>[(0,none),(1,none),(5,none)] | _=>[]
def pats:List gj:=[.rd (.sl 227),.rd (.sl 227)]
def res:RP:=.one (.rd (.bool))
abbrev E:Env:={ T:=assoc kG,G:=dD [(173,Z276.aW)],nt:=27 }
def step_eq (I:cI)(p:Pt):cY E live I (pid p) (bQ Tryz.f33) (fH (live (pid p)) (ck p) (cj p)) (cH E Tryz.f33 res)=step (fun q=>I (pid q) (ck q) (cj q)) p:=by
 cases p<;>kernel_rfl
def start_eq (I:cI)(ls:List L):eW E live I (bQ Tryz.f33) (dc pats ls) (cH E Tryz.f33 res)=start (fun q=>I (pid q) (ck q) (cj q)) (ls.headD .hole).aQ ((aA 1 ls).headD .hole).aQ:=by kernel_rfl
def run_eq (n:Nat)(ls:List L):eO E live Tryz.f33 res n (dc pats ls)=start (iter step n) (ls.headD .hole).aQ ((aA 1 ls).headD .hole).aQ:=cA (id:=pid) (vs:=ck) (hs:=cj) (step:=step) (start:=fun J=>start J (ls.headD .hole).aQ ((aA 1 ls).headD .hole).aQ) step_eq (fun I=>start_eq I ls) n
def md (a0 a1:List ay):Bool:=eg a0 a1
def gd (a0 a1:List ay):Prop:=True
def acc (ls:List L):aE×aE:=((ls.headD .hole).aQ,((aA 1 ls).headD .hole).aQ)
def R:(aE×aE)->Option Bool:=RR (p2 gd) (u2 md)
def aj {a0 a1}(h:gd a0 a1):R ((a0.map ay.row),(a1.map ay.row))=some (md a0 a1):=aP (a:=(a0,a1)) h
def aW:ga:=CN pats res acc R
def bt (a0 a1:List ay)(hg:gd a0 a1)(h0:a0.length<=maxLen)(h1:a1.length<=maxLen):∃n,start (iter step n) (a0.map ay.row) (a1.map ay.row)=ret ((md a0 a1):Bool):=by
 unfold start md
 simp only [List.length_map]
 refine iO (pt:=fun i=>Pt.p0 (a0.map ay.row) (a1.map ay.row) (i:Int)) (fun hl J i h h2=>?_) (fun J=>?_)
 ·simp only [step,MM,List.length_map,aO h,aO h2,aJ,bh,cE,ay.eA h,ay.eA h2]
  rw [aH h h0]
  rw [call_eq (Z276.aj (a0:=a0[i]) (a1:=a1[i]) trivial),Z276.md]
  cases eg a0[i] a1[i]<;>rfl
 ·simp only [step,List.length_map,dZ,bq]
def af:cz 33 aW:=VV (run:=fun n x=>start (iter step n) x.1 x.2) mix aF (.cons Z276.af .nil) Tryz.func33 (by kernel_rfl) run_eq (fun ls a hl e hg=>bt a.1 a.2 hg (by have h:(ls.headD .hole).aQ.length<=maxLen:=hl.1.len;have e:a.1.map ay.row=(ls.headD .hole).aQ:=(congrArg (fun x=>x.1) e.symm);rw [<-e] at h;simpa using h) (by have h:((aA 1 ls).headD .hole).aQ.length<=maxLen:=hl.2.1.len;have e:a.2.map ay.row=((aA 1 ls).headD .hole).aQ:=(congrArg (fun x=>x.2) e.symm);rw [<-e] at h;simpa using h))
end Z277
namespace Z278
def F (x0 x1:bF):aI:=(cond (!(x0.fName==x1.fName)) bz (cond (x0.bC != x1.bC) bz (ret (true:Bool))))
def md (a0 a1:bF):Bool:=eg a0 a1
def gd (a0 a1:bF):Prop:=True
def R:=RR (p2 gd) (u2 md)
def aj {a0 a1}(h:gd a0 a1):R (a0,a1)=some (md a0 a1):=aP (a:=(a0,a1)) h
def aW:=CN [.agg As,.agg As] oB RT.dec R
def bt (a0)(a1)(hg:gd a0 a1):F a0 a1=ret (md a0 a1):=by
 unfold md
 show (cond (!(a0.fName==a1.fName)) bz (cond (a0.bC != a1.bC) bz (ret (true:Bool))))=_
 try simp only [bne,fC,bool_beq,eV]
 have e:eg a0 a1=(eg a0.fName a1.fName&&(eg a0.bC a1.bC&&true)):=by
  cases a0;cases a1
  rw [Bool.eq_iff_iff]
  simp only [dy,Bool.and_eq_true,bF.mk.injEq,and_true]
 rw [e]
 refine cR fun _=>?_
 refine cR fun _=>?_
 rfl
def af:cz 206 aW:=W2 15 F mix aF bt .nil Tryz.func206
end Z278
namespace Z279
inductive Pt where
 | p0 (a b:aE) (c:Int)
def pid:Pt->Nat
 | .p0 ..=>4
def ck:Pt->List V
 | .p0 a b c=>[.sl none 207 a,.sl none 207 b,.int .i64 c]
def cj:Pt->List aY
 | .p0 a b c=>[]
def step (J:Pt->aI):Pt->aI
 | .p0 a b c=>(cond (decide (c<(a.length:Int))) (m2 c (a.length:Int) (m2 c (b.length:Int) (call (Z278.R ((bF.at a (toNat c)),(bF.at b (toNat c)))) fun v1=>(cond (!v1) bz (J (.p0 a b (i64.wrap (c+1)))))))) (ret (true:Bool)))
def start (J:Pt->aI)(x0 x1:aE):aI:=(cond ((x0.length:Int) != (x1.length:Int)) bz (J (.p0 x0 x1 0)))
def live:Nat->Live:=fun i=>match i with | 4=>[(0,none),(1,none),(5,none)] | _=>[]
def pats:List gj:=[.rd (.sl 207),.rd (.sl 207)]
def res:RP:=.one (.rd (.bool))
abbrev E:Env:={ T:=assoc kG,G:=dD [(206,Z278.aW)],nt:=27 }
def step_eq (I:cI)(p:Pt):cY E live I (pid p) (bQ Tryz.f56) (fH (live (pid p)) (ck p) (cj p)) (cH E Tryz.f56 res)=step (fun q=>I (pid q) (ck q) (cj q)) p:=by
 cases p<;>kernel_rfl
def start_eq (I:cI)(ls:List L):eW E live I (bQ Tryz.f56) (dc pats ls) (cH E Tryz.f56 res)=start (fun q=>I (pid q) (ck q) (cj q)) (ls.headD .hole).aQ ((aA 1 ls).headD .hole).aQ:=by kernel_rfl
def run_eq (n:Nat)(ls:List L):eO E live Tryz.f56 res n (dc pats ls)=start (iter step n) (ls.headD .hole).aQ ((aA 1 ls).headD .hole).aQ:=cA (id:=pid) (vs:=ck) (hs:=cj) (step:=step) (start:=fun J=>start J (ls.headD .hole).aQ ((aA 1 ls).headD .hole).aQ) step_eq (fun I=>start_eq I ls) n
def md (a0 a1:List bF):Bool:=eg a0 a1
def gd (a0 a1:List bF):Prop:=True
def acc (ls:List L):aE×aE:=((ls.headD .hole).aQ,((aA 1 ls).headD .hole).aQ)
def R:(aE×aE)->Option Bool:=RR (p2 gd) (u2 md)
def aj {a0 a1}(h:gd a0 a1):R ((a0.map bF.row),(a1.map bF.row))=some (md a0 a1):=aP (a:=(a0,a1)) h
def aW:ga:=CN pats res acc R
def bt (a0 a1:List bF)(hg:gd a0 a1)(h0:a0.length<=maxLen)(h1:a1.length<=maxLen):∃n,start (iter step n) (a0.map bF.row) (a1.map bF.row)=ret ((md a0 a1):Bool):=by
 unfold start md
 simp only [List.length_map]
 refine iO (pt:=fun i=>Pt.p0 (a0.map bF.row) (a1.map bF.row) (i:Int)) (fun hl J i h h2=>?_) (fun J=>?_)
 ·simp only [step,MM,List.length_map,aO h,aO h2,aJ,bh,cE,bF.eA h,bF.eA h2]
  rw [aH h h0]
  rw [call_eq (Z278.aj (a0:=a0[i]) (a1:=a1[i]) trivial),Z278.md]
  cases eg a0[i] a1[i]<;>rfl
 ·simp only [step,List.length_map,dZ,bq]
def af:cz 56 aW:=VV (run:=fun n x=>start (iter step n) x.1 x.2) mix aF (.cons Z278.af .nil) Tryz.func56 (by kernel_rfl) run_eq (fun ls a hl e hg=>bt a.1 a.2 hg (by have h:(ls.headD .hole).aQ.length<=maxLen:=hl.1.len;have e:a.1.map bF.row=(ls.headD .hole).aQ:=(congrArg (fun x=>x.1) e.symm);rw [<-e] at h;simpa using h) (by have h:((aA 1 ls).headD .hole).aQ.length<=maxLen:=hl.2.1.len;have e:a.2.map bF.row=((aA 1 ls).headD .hole).aQ:=(congrArg (fun x=>x.2) e.symm);rw [<-e] at h;simpa using h))
end Z279
namespace Z280
set_option maxHeartbeats 8000000
inductive Pt where
 | p0 (a b:Int) (c:aE)
def pid:Pt->Nat
 | .p0 ..=>2
def ck:Pt->List V
 | .p0 a b c=>[.own 0,.int .i64 a,.int .i64 b]
def cj:Pt->List aY
 | .p0 a b c=>[.row 3 c]
def step (J:Pt->aI):Pt->aI
 | .p0 a b c=>(cond (decide (b<(c.length:Int))) (m2 b (c.length:Int) (J (.p0 (i64.wrap (a+1)) (i64.wrap (b+1)) (List.set c (toNat b) [L.int a])))) (ret ((a,c):Int×aE)))
def start (J:Pt->aI)(x0:aE)(x1:Int):aI:=J (.p0 x1 0 x0)
def live:Nat->Live:=fun i=>match i with | 2=>[(0,none),(1,none),(5,none)] | _=>[]
def pats:List (Bool×List K):=[(false,[.sl 3]),(false,[aB])]
def res:RP:=.nX [3]
abbrev E:Env:={ T:=assoc kG,G:=dD [],nt:=19,M:=fZ [],np:=1,mt:=true }
def step_eq (I:cI)(p:Pt):cY E live I (pid p) (bQ Tryz.f179) (fH (live (pid p)) (ck p) (cj p)) (cH E Tryz.f179 res)=step (fun q=>I (pid q) (ck q) (cj q)) p:=by
 cases p<;>kernel_rfl
def start_eq (I:cI)(ls:List L):eW E live I (bQ Tryz.f179) (gC pats ls) (cH E Tryz.f179 res)=start (fun q=>I (pid q) (ck q) (cj q)) (ls.headD .hole).aQ ((aA 1 ls).headD .hole).toInt:=by kernel_rfl
def run_eq (n:Nat)(ls:List L):eO E live Tryz.f179 res n (gC pats ls)=start (iter step n) (ls.headD .hole).aQ ((aA 1 ls).headD .hole).toInt:=cA (id:=pid) (vs:=ck) (hs:=cj) (step:=step) (start:=fun J=>start J (ls.headD .hole).aQ ((aA 1 ls).headD .hole).toInt) step_eq (fun I=>start_eq I ls) n
def el (x k:Int):Int×Int:=((i64.wrap (k+1)),(k))
def iA (x k:Int)(hk:eJ k):eJ (el x k).1:=(cD _)
def cnt (x:Int):Nat:=1
def sum (a:List Int):Nat:=(a.map cnt).sum
def md (a0:List Int)(a1:Int):Int×List Int:=jl el a0 a1
def gd (a0:List Int)(a1:Int):Prop:=eJ a1
def acc (ls:List L):aE×Int:=((ls.headD .hole).aQ,((aA 1 ls).headD .hole).toInt)
def R:(aE×Int)->Option (Int×aE):=RR (p2 gd) (u2 md)
def aj {a0 a1}(h:gd a0 a1):R ((a0.map bk),a1)=some ((md a0 a1).1,((md a0 a1).2.map bk)):=aP (a:=(a0,a1)) h
def aW:gK:=MN pats acc R
def bt (a0:List Int)(a1:Int)(hg:gd a0 a1)(h0:a0.length<=maxLen):∃n,start (iter step n) (a0.map bk) a1=ret (((md a0 a1).1,((md a0 a1).2.map bk)):Int×aE):=by
 unfold gd at hg
 show ∃n,iter step n (Pt.p0 a1 0 (a0.map bk))=_
 unfold md
 refine gq (el:=el) (xs:=a0) 0 eJ iA (pt:=fun i k c=>Pt.p0 k (i:Int) (c.map bk)) (out:=fun b=>ret (b.1,b.2.map bk)) (fun J i k c hi hc hk=>?_) (fun J k c hc=>?_) hg
 ·have hm:c.length<=maxLen:=hc ▸ h0
  simp only [step,SS]
  refine ak (aO hi) ?_
  refine ak aJ ?_
  refine ak (aO hi) ?_
  rw [aH hi hm]
  exact congrArg (fun q=>J (Pt.p0 (el (c.getD i 0) k).1 ((i+1:Nat):Int) q)) (List.map_set (f:=bk) (l:=c) (i:=i) (a:=(el (c.getD i 0) k).2)).symm
 ·simp only [step,SS]
  refine cT (by apply decide_eq_false;omega) ?_
  rfl
def af:eY Tryz.prog Ev 179 aW:=MV (run:=fun n x=>start (iter step n) x.1 x.2) mix aF .nil .nil Tryz.func179 (by kernel_rfl) run_eq (fun ls a hl e hg=>bt a.1 a.2 hg (by have h:(ls.headD .hole).aQ.length<=maxLen:=(hl _ _ (.head _)).len;have e:a.1.map bk=(ls.headD .hole).aQ:=(congrArg (fun x=>x.1) e.symm);rw [<-e] at h;simpa using h))
def iq {a0:List Int}{a1:Int}(h:eJ a1):eJ (md a0 a1).1:=jG iA h
def pQ (x k:Int)(h0:0<=k)(hb:k+(cnt x:Int)<=4611686018427387904):(el x k).1=k+cnt x:=by
 simp only [cnt,Int.natCast_add] at hb ⊢
 simp (disch:=omega) only [el,wi]
 all_goals first | done | omega
def kk (a0:List Int)(a1:Int)(h0:0<=a1)(hb:a1+(sum a0:Int)<=4611686018427387904):(md a0 a1).1=a1+sum a0:=gE pQ a0 a1 h0 hb
def sz (a:List Int):sum a<=60*(dU (fun y:Int=>0) a):=jH (fun x=>by
 try simp only [cnt] at *
 omega) a
end Z280
namespace Z281
set_option maxHeartbeats 8000000
inductive Pt where
 | p0 (a b:Int) (c:aE)
def pid:Pt->Nat
 | .p0 ..=>2
def ck:Pt->List V
 | .p0 a b c=>[.own 0,.int .i64 a,.int .i64 b]
def cj:Pt->List aY
 | .p0 a b c=>[.row 428 c]
def step (J:Pt->aI):Pt->aI
 | .p0 a b c=>(cond (decide (b<(c.length:Int))) (m2 b (c.length:Int) (m2 b (c.length:Int) (cq (Nat.beq (toNat b) (toNat b)&&true) (J (.p0 (i64.wrap ((i64.wrap (a+1))+1)) (i64.wrap (b+1)) (List.set c (toNat b) (bp.enc (⟨a,(i64.wrap (a+1))⟩:bp)))))))) (ret ((a,c):Int×aE)))
def start (J:Pt->aI)(x0:aE)(x1:Int):aI:=J (.p0 x1 0 x0)
def live:Nat->Live:=fun i=>match i with | 2=>[(0,none),(1,none),(5,none)] | _=>[]
def pats:List (Bool×List K):=[(false,[.sl 428]),(false,[aB])]
def res:RP:=.nX [428]
abbrev E:Env:={ T:=assoc kG,G:=dD [],nt:=27,M:=fZ [],np:=1,mt:=true }
def step_eq (I:cI)(p:Pt):cY E live I (pid p) (bQ Tryz.f332) (fH (live (pid p)) (ck p) (cj p)) (cH E Tryz.f332 res)=step (fun q=>I (pid q) (ck q) (cj q)) p:=by
 cases p<;>kernel_rfl
def start_eq (I:cI)(ls:List L):eW E live I (bQ Tryz.f332) (gC pats ls) (cH E Tryz.f332 res)=start (fun q=>I (pid q) (ck q) (cj q)) (ls.headD .hole).aQ ((aA 1 ls).headD .hole).toInt:=by kernel_rfl
def run_eq (n:Nat)(ls:List L):eO E live Tryz.f332 res n (gC pats ls)=start (iter step n) (ls.headD .hole).aQ ((aA 1 ls).headD .hole).toInt:=cA (id:=pid) (vs:=ck) (hs:=cj) (step:=step) (start:=fun J=>start J (ls.headD .hole).aQ ((aA 1 ls).headD .hole).toInt) step_eq (fun I=>start_eq I ls) n
def el (x:bp)(k:Int):Int×bp:=((i64.wrap ((i64.wrap (k+1))+1)),(⟨k,(i64.wrap (k+1))⟩:bp))
def iA (x:bp)(k:Int)(hk:eJ k):eJ (el x k).1:=(cD _)
def cnt (x:bp):Nat:=2
def sum (a:List bp):Nat:=(a.map cnt).sum
def md (a0:List bp)(a1:Int):Int×List bp:=jl el a0 a1
def gd (a0:List bp)(a1:Int):Prop:=eJ a1
def acc (ls:List L):aE×Int:=((ls.headD .hole).aQ,((aA 1 ls).headD .hole).toInt)
def R:(aE×Int)->Option (Int×aE):=RR (p2 gd) (u2 md)
def aj {a0 a1}(h:gd a0 a1):R ((a0.map bp.row),a1)=some ((md a0 a1).1,((md a0 a1).2.map bp.row)):=aP (a:=(a0,a1)) h
def aW:gK:=MN pats acc R
def bt (a0:List bp)(a1:Int)(hg:gd a0 a1)(h0:a0.length<=maxLen):∃n,start (iter step n) (a0.map bp.row) a1=ret (((md a0 a1).1,((md a0 a1).2.map bp.row)):Int×aE):=by
 unfold gd at hg
 show ∃n,iter step n (Pt.p0 a1 0 (a0.map bp.row))=_
 unfold md
 refine gq (el:=el) (xs:=a0) bp.zero eJ iA (pt:=fun i k c=>Pt.p0 k (i:Int) (c.map bp.row)) (out:=fun b=>ret (b.1,b.2.map bp.row)) (fun J i k c hi hc hk=>?_) (fun J k c hc=>?_) hg
 ·have hm:c.length<=maxLen:=hc ▸ h0
  simp only [step,SS]
  refine ak (aO hi) ?_
  repeat first | refine ak aJ ?_ | refine ak (aO hi) ?_ | refine ak (gS _) ?_
  rw [aH hi hm]
  exact congrArg (fun q=>J (Pt.p0 (el (c.getD i bp.zero) k).1 ((i+1:Nat):Int) q)) (List.map_set (f:=bp.row) (l:=c) (i:=i) (a:=(el (c.getD i bp.zero) k).2)).symm
 ·simp only [step,SS]
  refine cT (by apply decide_eq_false;omega) ?_
  rfl
def af:eY Tryz.prog Ev 332 aW:=MV (run:=fun n x=>start (iter step n) x.1 x.2) mix aF .nil .nil Tryz.func332 (by kernel_rfl) run_eq (fun ls a hl e hg=>bt a.1 a.2 hg (by have h:(ls.headD .hole).aQ.length<=maxLen:=(hl _ _ (.head _)).len;have e:a.1.map bp.row=(ls.headD .hole).aQ:=(congrArg (fun x=>x.1) e.symm);rw [<-e] at h;simpa using h))
def iq {a0:List bp}{a1:Int}(h:eJ a1):eJ (md a0 a1).1:=jG iA h
def pQ (x:bp)(k:Int)(h0:0<=k)(hb:k+(cnt x:Int)<=4611686018427387904):(el x k).1=k+cnt x:=by
 simp only [cnt,Int.natCast_add] at hb ⊢
 simp (disch:=omega) only [el,wi]
 all_goals first | done | omega
def kk (a0:List bp)(a1:Int)(h0:0<=a1)(hb:a1+(sum a0:Int)<=4611686018427387904):(md a0 a1).1=a1+sum a0:=gE pQ a0 a1 h0 hb
def sz (a:List bp):sum a<=60*(dU (fun y:bp=>bp.size y) a):=jH (fun x=>by
 try simp only [cnt,bp.size] at *
 omega) a
end Z281
namespace Z282
set_option maxHeartbeats 8000000
inductive Pt where
 | p0 (a b:Int) (c:aE)
def pid:Pt->Nat
 | .p0 ..=>2
def ck:Pt->List V
 | .p0 a b c=>[.own 0,.int .i64 a,.int .i64 b]
def cj:Pt->List aY
 | .p0 a b c=>[.row 123 c]
def step (J:Pt->aI):Pt->aI
 | .p0 a b c=>(cond (decide (b<(c.length:Int))) (m2 b (c.length:Int) (m2 b (c.length:Int) (cq (Nat.beq (toNat b) (toNat b)&&true) (m2 b (c.length:Int) (cq (Nat.beq (toNat b) (toNat b)&&true) (m2 b (c.length:Int) (cq (Nat.beq (toNat b) (toNat b)&&true) (m2 b (c.length:Int) (cq (Nat.beq (toNat b) (toNat b)&&true) (m2 b (c.length:Int) (cq (Nat.beq (toNat b) (toNat b)&&true) (m2 b (c.length:Int) (cq (Nat.beq (toNat b) (toNat b)&&true) (m2 b (c.length:Int) (cq (Nat.beq (toNat b) (toNat b)&&true) (m2 b (c.length:Int) (cq (Nat.beq (toNat b) (toNat b)&&true) (cq (Nat.beq (toNat b) (toNat b)&&true) (call (Z280.R ((aT.at c (toNat b)).aq.bP.aX,(i64.wrap ((i64.wrap ((i64.wrap ((i64.wrap ((i64.wrap ((i64.wrap ((i64.wrap ((i64.wrap (a+1))+1))+1))+1))+1))+1))+1))+1)))) fun v1=>(m2 b (c.length:Int) (cq (Nat.beq (toNat b) (toNat b)&&true) (m2 b (c.length:Int) (cq (Nat.beq (toNat b) (toNat b)&&true) (cq (Nat.beq (toNat b) (toNat b)&&true) (call (Z280.R ((aT.at c (toNat b)).aq.bD.aX,(i64.wrap (v1.1+1)))) fun v2=>(m2 b (c.length:Int) (cq (Nat.beq (toNat b) (toNat b)&&true) (m2 b (c.length:Int) (cq (Nat.beq (toNat b) (toNat b)&&true) (m2 b (c.length:Int) (cq (Nat.beq (toNat b) (toNat b)&&true) (cq (Nat.beq (toNat b) (toNat b)&&true) (call (Z280.R ((aT.at c (toNat b)).aq.bA.aX,(i64.wrap ((i64.wrap (v2.1+1))+1)))) fun v3=>(m2 b (c.length:Int) (cq (Nat.beq (toNat b) (toNat b)&&true) (m2 b (c.length:Int) (cq (Nat.beq (toNat b) (toNat b)&&true) (m2 b (c.length:Int) (cq (Nat.beq (toNat b) (toNat b)&&true) (cq (Nat.beq (toNat b) (toNat b)&&true) (call (Z281.R ((aT.at c (toNat b)).cu,(i64.wrap ((i64.wrap (v3.1+1))+1)))) fun v4=>J (.p0 v4.1 (i64.wrap (b+1)) (List.set c (toNat b) (aT.enc (⟨(⟨a,(i64.wrap (a+1)),(i64.wrap ((i64.wrap (a+1))+1)),(i64.wrap ((i64.wrap ((i64.wrap (a+1))+1))+1)),(i64.wrap ((i64.wrap ((i64.wrap ((i64.wrap (a+1))+1))+1))+1)),(i64.wrap ((i64.wrap ((i64.wrap ((i64.wrap ((i64.wrap (a+1))+1))+1))+1))+1)),(i64.wrap ((i64.wrap ((i64.wrap ((i64.wrap ((i64.wrap ((i64.wrap (a+1))+1))+1))+1))+1))+1)),(i64.wrap ((i64.wrap ((i64.wrap ((i64.wrap ((i64.wrap ((i64.wrap ((i64.wrap (a+1))+1))+1))+1))+1))+1))+1)),(⟨v1.2,v1.1⟩:bE),(⟨v2.2,v2.1⟩:bE),(i64.wrap (v2.1+1)),(⟨v3.2,v3.1⟩:bE),((Int.tmod (i64.wrap (v3.1+1)) 3)==0)⟩:cg),v4.2⟩:aT))))))))))))))))))))))))))))))))))))))))))))) (ret ((a,c):Int×aE)))
def start (J:Pt->aI)(x0:aE)(x1:Int):aI:=J (.p0 x1 0 x0)
def live:Nat->Live:=fun i=>match i with | 2=>[(0,none),(1,none),(5,none)] | _=>[]
def pats:List (Bool×List K):=[(false,[.sl 123]),(false,[aB])]
def res:RP:=.nX [123]
abbrev E:Env:={ T:=assoc kG,G:=dD [],nt:=156,M:=fZ [(179,Z280.aW),(332,Z281.aW)],np:=1,mt:=true }
def step_eq (I:cI)(p:Pt):cY E live I (pid p) (bQ Tryz.f331) (fH (live (pid p)) (ck p) (cj p)) (cH E Tryz.f331 res)=step (fun q=>I (pid q) (ck q) (cj q)) p:=by
 cases p<;>kernel_rfl
def start_eq (I:cI)(ls:List L):eW E live I (bQ Tryz.f331) (gC pats ls) (cH E Tryz.f331 res)=start (fun q=>I (pid q) (ck q) (cj q)) (ls.headD .hole).aQ ((aA 1 ls).headD .hole).toInt:=by kernel_rfl
def run_eq (n:Nat)(ls:List L):eO E live Tryz.f331 res n (gC pats ls)=start (iter step n) (ls.headD .hole).aQ ((aA 1 ls).headD .hole).toInt:=cA (id:=pid) (vs:=ck) (hs:=cj) (step:=step) (start:=fun J=>start J (ls.headD .hole).aQ ((aA 1 ls).headD .hole).toInt) step_eq (fun I=>start_eq I ls) n
def e1 (x:aa)(k:Int):=Z280.md (((x.aq).bP).aX) (i64.wrap ((i64.wrap ((i64.wrap ((i64.wrap ((i64.wrap ((i64.wrap ((i64.wrap ((i64.wrap (k+1))+1))+1))+1))+1))+1))+1))+1))
def e2 (x:aa)(k:Int):=Z280.md (((x.aq).bD).aX) (i64.wrap ((e1 x k).1+1))
def e3 (x:aa)(k:Int):=Z280.md (((x.aq).bA).aX) (i64.wrap ((i64.wrap ((e2 x k).1+1))+1))
def e4 (x:aa)(k:Int):=Z281.md x.cu (i64.wrap ((i64.wrap ((e3 x k).1+1))+1))
def el (x:aa)(k:Int):Int×aa:=((e4 x k).1,(⟨(⟨k,(i64.wrap (k+1)),(i64.wrap ((i64.wrap (k+1))+1)),(i64.wrap ((i64.wrap ((i64.wrap (k+1))+1))+1)),(i64.wrap ((i64.wrap ((i64.wrap ((i64.wrap (k+1))+1))+1))+1)),(i64.wrap ((i64.wrap ((i64.wrap ((i64.wrap ((i64.wrap (k+1))+1))+1))+1))+1)),(i64.wrap ((i64.wrap ((i64.wrap ((i64.wrap ((i64.wrap ((i64.wrap (k+1))+1))+1))+1))+1))+1)),(i64.wrap ((i64.wrap ((i64.wrap ((i64.wrap ((i64.wrap ((i64.wrap ((i64.wrap (k+1))+1))+1))+1))+1))+1))+1)),(⟨(e1 x k).2,(e1 x k).1⟩:aM),(⟨(e2 x k).2,(e2 x k).1⟩:aM),(i64.wrap ((e2 x k).1+1)),(⟨(e3 x k).2,(e3 x k).1⟩:aM),((Int.tmod (i64.wrap ((e3 x k).1+1)) 3)==0)⟩:aG),(e4 x k).2⟩:aa))
def iA (x:aa)(k:Int)(hk:eJ k):eJ (el x k).1:=(Z281.iq (cD _))
def cnt (x:aa):Nat:=13+Z280.sum (((x.aq).bP).aX)+Z280.sum (((x.aq).bD).aX)+Z280.sum (((x.aq).bA).aX)+Z281.sum x.cu
def sum (a:List aa):Nat:=(a.map cnt).sum
def md (a0:List aa)(a1:Int):Int×List aa:=jl el a0 a1
def gd (a0:List aa)(a1:Int):Prop:=eJ a1
def acc (ls:List L):aE×Int:=((ls.headD .hole).aQ,((aA 1 ls).headD .hole).toInt)
def R:(aE×Int)->Option (Int×aE):=RR (p2 gd) (u2 md)
def aj {a0 a1}(h:gd a0 a1):R ((a0.map aa.row),a1)=some ((md a0 a1).1,((md a0 a1).2.map aa.row)):=aP (a:=(a0,a1)) h
def aW:gK:=MN pats acc R
def bt (a0:List aa)(a1:Int)(hg:gd a0 a1)(h0:a0.length<=maxLen):∃n,start (iter step n) (a0.map aa.row) a1=ret (((md a0 a1).1,((md a0 a1).2.map aa.row)):Int×aE):=by
 unfold gd at hg
 show ∃n,iter step n (Pt.p0 a1 0 (a0.map aa.row))=_
 unfold md
 refine gq (el:=el) (xs:=a0) aa.zero eJ iA (pt:=fun i k c=>Pt.p0 k (i:Int) (c.map aa.row)) (out:=fun b=>ret (b.1,b.2.map aa.row)) (fun J i k c hi hc hk=>?_) (fun J k c hc=>?_) hg
 ·have hm:c.length<=maxLen:=hc ▸ h0
  simp only [step,SS]
  refine ak (aO hi) ?_
  repeat first | refine ak aJ ?_ | refine ak (aO hi) ?_ | refine ak (gS _) ?_
  refine bg ((e1 (c.getD i aa.zero) k).1,((e1 (c.getD i aa.zero) k).2.map bk)) (Z280.aj (a0:=(((c.getD i aa.zero).aq).bP).aX) (a1:=i64.wrap ((i64.wrap ((i64.wrap ((i64.wrap ((i64.wrap ((i64.wrap ((i64.wrap ((i64.wrap (k+1))+1))+1))+1))+1))+1))+1))+1)) (cD _)) ?_
  repeat first | refine ak aJ ?_ | refine ak (aO hi) ?_ | refine ak (gS _) ?_
  refine bg ((e2 (c.getD i aa.zero) k).1,((e2 (c.getD i aa.zero) k).2.map bk)) (Z280.aj (a0:=(((c.getD i aa.zero).aq).bD).aX) (a1:=i64.wrap ((e1 (c.getD i aa.zero) k).1+1)) (cD _)) ?_
  repeat first | refine ak aJ ?_ | refine ak (aO hi) ?_ | refine ak (gS _) ?_
  refine bg ((e3 (c.getD i aa.zero) k).1,((e3 (c.getD i aa.zero) k).2.map bk)) (Z280.aj (a0:=(((c.getD i aa.zero).aq).bA).aX) (a1:=i64.wrap ((i64.wrap ((e2 (c.getD i aa.zero) k).1+1))+1)) (cD _)) ?_
  repeat first | refine ak aJ ?_ | refine ak (aO hi) ?_ | refine ak (gS _) ?_
  refine bg ((e4 (c.getD i aa.zero) k).1,((e4 (c.getD i aa.zero) k).2.map bp.row)) (Z281.aj (a0:=(c.getD i aa.zero).cu) (a1:=i64.wrap ((i64.wrap ((e3 (c.getD i aa.zero) k).1+1))+1)) (cD _)) ?_
  rw [aH hi hm]
  exact congrArg (fun q=>J (Pt.p0 (el (c.getD i aa.zero) k).1 ((i+1:Nat):Int) q)) (List.map_set (f:=aa.row) (l:=c) (i:=i) (a:=(el (c.getD i aa.zero) k).2)).symm
 ·simp only [step,SS]
  refine cT (by apply decide_eq_false;omega) ?_
  rfl
def af:eY Tryz.prog Ev 331 aW:=MV (run:=fun n x=>start (iter step n) x.1 x.2) mix aF .nil (.cons Z280.af (.cons Z281.af .nil)) Tryz.func331 (by kernel_rfl) run_eq (fun ls a hl e hg=>bt a.1 a.2 hg (by have h:(ls.headD .hole).aQ.length<=maxLen:=(hl _ _ (.head _)).len;have e:a.1.map aa.row=(ls.headD .hole).aQ:=(congrArg (fun x=>x.1) e.symm);rw [<-e] at h;simpa using h))
def iq {a0:List aa}{a1:Int}(h:eJ a1):eJ (md a0 a1).1:=jG iA h
def pQ (x:aa)(k:Int)(h0:0<=k)(hb:k+(cnt x:Int)<=4611686018427387904):(el x k).1=k+cnt x:=by
 simp only [cnt,Int.natCast_add] at hb ⊢
 simp (disch:=omega) only [el,e1,e2,e3,e4,wi,Z280.kk,Z281.kk]
 all_goals first | done | omega
def kk (a0:List aa)(a1:Int)(h0:0<=a1)(hb:a1+(sum a0:Int)<=4611686018427387904):(md a0 a1).1=a1+sum a0:=gE pQ a0 a1 h0 hb
def sz (a:List aa):sum a<=60*(dU (fun y:aa=>aa.size y) a):=jH (fun x=>by
 have:=Z280.sz (((x.aq).bP).aX)
 have:=Z280.sz (((x.aq).bD).aX)
 have:=Z280.sz (((x.aq).bA).aX)
 have:=Z281.sz x.cu
 try simp only [cnt,aa.size,aG.size,aM.size] at *
 omega) a
end Z282
namespace Z283
set_option maxHeartbeats 8000000
inductive Pt where
 | p0 (a b:Int) (c:aE)
def pid:Pt->Nat
 | .p0 ..=>2
def ck:Pt->List V
 | .p0 a b c=>[.own 0,.int .i64 a,.int .i64 b]
def cj:Pt->List aY
 | .p0 a b c=>[.row 92 c]
def step (J:Pt->aI):Pt->aI
 | .p0 a b c=>(cond (decide (b<(c.length:Int))) (m2 b (c.length:Int) (call (Z282.R ((oG c (toNat b)),a)) fun v1=>J (.p0 v1.1 (i64.wrap (b+1)) (List.set c (toNat b) [L.sl v1.2])))) (ret ((a,c):Int×aE)))
def start (J:Pt->aI)(x0:aE)(x1:Int):aI:=J (.p0 x1 0 x0)
def live:Nat->Live:=fun i=>match i with | 2=>[(0,none),(1,none),(5,none)] | _=>[]
def pats:List (Bool×List K):=[(false,[.sl 92]),(false,[aB])]
def res:RP:=.nX [92]
abbrev E:Env:={ T:=assoc kG,G:=dD [],nt:=19,M:=fZ [(331,Z282.aW)],np:=1,mt:=true }
def step_eq (I:cI)(p:Pt):cY E live I (pid p) (bQ Tryz.f175) (fH (live (pid p)) (ck p) (cj p)) (cH E Tryz.f175 res)=step (fun q=>I (pid q) (ck q) (cj q)) p:=by
 cases p<;>kernel_rfl
def start_eq (I:cI)(ls:List L):eW E live I (bQ Tryz.f175) (gC pats ls) (cH E Tryz.f175 res)=start (fun q=>I (pid q) (ck q) (cj q)) (ls.headD .hole).aQ ((aA 1 ls).headD .hole).toInt:=by kernel_rfl
def run_eq (n:Nat)(ls:List L):eO E live Tryz.f175 res n (gC pats ls)=start (iter step n) (ls.headD .hole).aQ ((aA 1 ls).headD .hole).toInt:=cA (id:=pid) (vs:=ck) (hs:=cj) (step:=step) (start:=fun J=>start J (ls.headD .hole).aQ ((aA 1 ls).headD .hole).toInt) step_eq (fun I=>start_eq I ls) n
def e1 (x:List aa)(k:Int):=Z282.md x k
def el (x:List aa)(k:Int):Int×(List aa):=((e1 x k).1,((e1 x k).2))
def iA (x:List aa)(k:Int)(hk:eJ k):eJ (el x k).1:=(Z282.iq hk)
def cnt (x:List aa):Nat:=0+Z282.sum x
def sum (a:List (List aa)):Nat:=(a.map cnt).sum
def md (a0:List (List aa))(a1:Int):Int×List (List aa):=jl el a0 a1
def gd (a0:List (List aa))(a1:Int):Prop:=eJ a1
def acc (ls:List L):aE×Int:=((ls.headD .hole).aQ,((aA 1 ls).headD .hole).toInt)
def R:(aE×Int)->Option (Int×aE):=RR (p2 gd) (u2 md)
def aj {a0 a1}(h:gd a0 a1):R ((a0.map (dO aa.row)),a1)=some ((md a0 a1).1,((md a0 a1).2.map (dO aa.row))):=aP (a:=(a0,a1)) h
def aW:gK:=MN pats acc R
def bt (a0:List (List aa))(a1:Int)(hg:gd a0 a1)(h0:a0.length<=maxLen):∃n,start (iter step n) (a0.map (dO aa.row)) a1=ret (((md a0 a1).1,((md a0 a1).2.map (dO aa.row))):Int×aE):=by
 unfold gd at hg
 show ∃n,iter step n (Pt.p0 a1 0 (a0.map (dO aa.row)))=_
 unfold md
 refine gq (el:=el) (xs:=a0) [] eJ iA (pt:=fun i k c=>Pt.p0 k (i:Int) (c.map (dO aa.row))) (out:=fun b=>ret (b.1,b.2.map (dO aa.row))) (fun J i k c hi hc hk=>?_) (fun J k c hc=>?_) hg
 ·have hm:c.length<=maxLen:=hc ▸ h0
  simp only [step,SS]
  refine ak (aO hi) ?_
  refine ak aJ ?_
  refine ak (aO hi) ?_
  refine bg ((e1 (c.getD i []) k).1,((e1 (c.getD i []) k).2.map aa.row)) (Z282.aj (a0:=c.getD i []) (a1:=k) hk) ?_
  rw [aH hi hm]
  exact congrArg (fun q=>J (Pt.p0 (el (c.getD i []) k).1 ((i+1:Nat):Int) q)) (List.map_set (f:=(dO aa.row)) (l:=c) (i:=i) (a:=(el (c.getD i []) k).2)).symm
 ·simp only [step,SS]
  refine cT (by apply decide_eq_false;omega) ?_
  rfl
def af:eY Tryz.prog Ev 175 aW:=MV (run:=fun n x=>start (iter step n) x.1 x.2) mix aF .nil (.cons Z282.af .nil) Tryz.func175 (by kernel_rfl) run_eq (fun ls a hl e hg=>bt a.1 a.2 hg (by have h:(ls.headD .hole).aQ.length<=maxLen:=(hl _ _ (.head _)).len;have e:a.1.map (dO aa.row)=(ls.headD .hole).aQ:=(congrArg (fun x=>x.1) e.symm);rw [<-e] at h;simpa using h))
def iq {a0:List (List aa)}{a1:Int}(h:eJ a1):eJ (md a0 a1).1:=jG iA h
def pQ (x:List aa)(k:Int)(h0:0<=k)(hb:k+(cnt x:Int)<=4611686018427387904):(el x k).1=k+cnt x:=by
 simp only [cnt,Int.natCast_add] at hb ⊢
 simp (disch:=omega) only [el,e1,wi,Z282.kk]
 all_goals first | done | omega
def kk (a0:List (List aa))(a1:Int)(h0:0<=a1)(hb:a1+(sum a0:Int)<=4611686018427387904):(md a0 a1).1=a1+sum a0:=gE pQ a0 a1 h0 hb
def sz (a:List (List aa)):sum a<=60*(dU (fun y:List aa=>dU (fun y:aa=>aa.size y) y) a):=jH (fun x=>by
 have:=Z282.sz x
 try simp only [cnt] at *
 omega) a
end Z283
end Go.DM
end
