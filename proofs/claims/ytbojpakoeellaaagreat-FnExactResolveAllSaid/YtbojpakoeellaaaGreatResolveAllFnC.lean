/- What the functions compute that the law reaches, and that the law returns true. Conditions: none. -/
import Derived.Test.YtbojpakoeellaaaGreatResolveAllTy
import Derived.Test.YtbojpakoeellaaaGreatResolveAllFnB
set_option linter.all false
set_option maxRecDepth 100000
noncomputable section
namespace Go.DM
open Go.Proofs
open Go.IntKind (i64)
open Int (toNat)
open Nat (le_trans zero_le)
namespace Z198
def F (x0:dN):aJ:=(call (Z179.R x0.aT) fun v1=>(cond (!v1) bf (call (Z180.R x0.aT) fun v2=>(cond (v2.cu==(x0.bN.length:Int)) (call (Z197.R (v2.cW,x0.bN)) fun v3=>ret (v3:Bool)) bf))))
def md (a0:aM):Bool:=(cond (!(Z179.md a0.aT)) (false:Bool) (cond ((Z180.md a0.aT).cu==(a0.bN.length:Int)) ((Z197.md ((Z180.md a0.aT).cW) a0.bN):Bool) (false:Bool)))
def gd (a0:aM):Prop:=(aM.Sm (2^21) a0)
def R:=RR gd md
def an {a0}(h:gd a0):R (aM.r a0)=some (md a0):=aP (a:=a0) h
def aU:=CN [.agg sX] oB RT.dec R
def bA (a0)(hg:gd a0):F (aM.r a0)=ret (md a0):=by
 unfold gd at hg
 have H0:=hg
 unfold F md
 try simp only [SS]
 refine ct (Z179.an H0.1) ?_
 refine av ret (fun _=>rfl) (fun c1=>?_)
 have dc1:=c1
 try simp only [DC] at dc1
 try have tc1:=Z179.tr (by simpa using c1)
 refine ct (Z180.an ⟨H0.1,(by
   have:=(H0.1).1
   first | assumption | exact om)⟩) ?_
 try simp only [SS]
 refine av ret (fun c2=>?_) (fun _=>rfl)
 refine ct (Z197.an H0.2) ?_
 all_goals exact fz
def af:cD 175 aU:=W1 24 F mix aE bA (.cons Z179.af (.cons Z180.af (.cons Z197.af .nil))) Tryz.func175
def tr {a0:aM}(h:md a0=true):1<=a0.aT.length:=by
 unfold md at h
 cases hc:Z179.md a0.aT
 ·rw [hc] at h;cases h
 ·exact (Z179.tr hc).1
def br (a0:aM):md a0=Z89.md a0:=by
 unfold md Z89.md
 rw [Z179.br,Z197.br]
 unfold Z180.md Z74.md
 cases h:Z73.md a0.aT
 ·rfl
 ·rfl
end Z198
namespace Z199
def F (x0:dN):aJ:=(call (Z198.R x0) fun v1=>(cond (!v1) (ret ((-1):Int)) (call (Z180.R x0.aT) fun v2=>ret (v2.bz:Int))))
def md (a0:aM):Int:=(cond (!(Z198.md a0)) ((-1):Int) ((Z180.md a0.aT).bz:Int))
def gd (a0:aM):Prop:=(aM.Sm (2^21) a0)
def R:=RR gd md
def an {a0}(h:gd a0):R (aM.r a0)=some (md a0):=aP (a:=a0) h
def aU:=CN [.agg sX] oI RT.dec R
def bA (a0)(hg:gd a0):F (aM.r a0)=ret (md a0):=by
 unfold gd at hg
 have H0:=hg
 unfold F md
 try simp only [SS]
 refine ct (Z198.an H0) ?_
 refine av ret (fun _=>rfl) (fun c1=>?_)
 have dc1:=c1
 try simp only [DC] at dc1
 try have tc1:=Z198.tr (by simpa using c1)
 refine ct (Z180.an ⟨H0.1,(by
   have:=(H0.1).1
   first | assumption | exact om)⟩) ?_
 try simp only [SS]
 all_goals exact fz
def af:cD 174 aU:=W1 10 F mix aE bA (.cons Z198.af (.cons Z180.af .nil)) Tryz.func174
def br (a0:aM):md a0=Z90.md a0:=by
 unfold md Z90.md
 rw [Z198.br]
 cases h:Z89.md a0
 ·rfl
 ·have h2:Z73.md a0.aT=true:=by
   unfold Z89.md Z74.md at h
   cases hc:Z73.md a0.aT
   ·rw [hc] at h;cases h
   ·rfl
  unfold Z180.md Z74.md
  rw [h2]
  rfl
end Z199
namespace Z200
def F (x0:dN)(x1:List L):aJ:=(call (Z199.R x0) fun v1=>ret ((v1==(gm x1)):Bool))
def pats:List ga:=[.agg [.sl 141,.sl 57],.ptr [aC]]
def res:RP:=.one (.rd (.bool))
def md (a0:aM)(a1:Int):Bool:=(((Z199.md a0)==a1):Bool)
def gd (a0:aM)(a1:Int):Prop:=(aM.Sm (2^21) a0)
def acc (ls:List L):dN×Int:=((dN.dec ls),(gm (cP 1 (aA 2 ls))))
def R:(dN×Int)->Option Bool:=RR (p2 gd) (u2 md)
def an {a0 a1}(h:gd a0 a1):R ((aM.r a0),a1)=some (md a0 a1):=aP (a:=(a0,a1)) h
def aU:fR:=CN pats res acc R
def bA (a0:aM)(a1:Int)(p1:List L)(e1:a1=(gm p1))(hg:gd a0 a1):F (aM.r a0) p1=ret ((md a0 a1):Bool):=by
 unfold gd at hg
 have H0:=hg
 unfold F md
 try simp only [SS,<-e1]
 refine ct (Z199.an H0) ?_
 all_goals exact fz
def ox (ls:List L)(a:aM×Int)(e:acc ls=Im.im a)(hg:(p2 gd) a):∃n:Nat,F (dN.dec ls) (cP 1 (aA 2 ls))=ret (Im.im ((u2 md) a)):=by
 have e0:(aM.r a.1)=(dN.dec ls):=(congrArg (fun x=>x.1) e.symm)
 have hn:=bA a.1 a.2 (cP 1 (aA 2 ls)) (congrArg (fun x=>x.2) e.symm) hg
 refine ⟨0,?_⟩
 rw [<-e0]
 exact hn
def af:cD 173 aU:=VP (live:=fun _=>[]) (nt:=8) (accr:=fun ls=>((dN.dec ls),(cP 1 (aA 2 ls)))) (run:=fun _ x=>F x.1 x.2) mix aE (.cons Z199.af .nil) Tryz.func173 (by kernel_rfl) (fun _ _=>by kernel_rfl) (fun ls a _ e hg=>ox ls a e hg)
end Z200
namespace Z201
inductive Pt where
 | p0 (a:aB) (b:List L) (c d:Int)
def pid:Pt->Nat
 | .p0 ..=>2
def bY:Pt->List V
 | .p0 a b c d=>[.sl none 155 a,.fn 173 [.dH none [aC] b 0],.int .i64 c,.int .i64 d]
def bX:Pt->List aV
 | .p0 a b c d=>[]
def step (J:Pt->aJ):Pt->aJ
 | .p0 a b c d=>(cond (decide (d<c)) (m2 d (a.length:Int) (call (Z200.R ((dN.at a (toNat d)),(gm b))) fun v1=>(cond v1 (ret (d:Int)) (J (.p0 a b c (i64.wrap (d+1))))))) (ret ((-1):Int)))
def start (J:Pt->aJ)(x0:aB)(x1:List L):aJ:=J (.p0 x0 x1 (x0.length:Int) 0)
def live:Nat->Live:=fun i=>match i with | 2=>[(0,none),(1,none),(7,none),(8,none)] | _=>[]
def pats:List ga:=[.rd (.sl 155),.fn 173 [[aC]]]
def res:RP:=.one (.rd (.int .i64))
abbrev E:Env:={ T:=assoc jV,G:=dw [(173,Z200.aU)],nt:=19 }
def step_eq (I:cB)(p:Pt):cR E live I (pid p) (bL Tryz.f172) (fm (live (pid p)) (bY p) (bX p)) (cA E Tryz.f172 res)=step (fun q=>I (pid q) (bY q) (bX q)) p:=by
 cases p<;>kernel_rfl
def start_eq (I:cB)(ls:List L):eL E live I (bL Tryz.f172) (cU pats ls) (cA E Tryz.f172 res)=start (fun q=>I (pid q) (bY q) (bX q)) (ls.headD .hole).aQ (cP 1 (aA 1 ls)):=by kernel_rfl
def run_eq (n:Nat)(ls:List L):eG E live Tryz.f172 res n (cU pats ls)=start (iter step n) (ls.headD .hole).aQ (cP 1 (aA 1 ls)):=cq (id:=pid) (vs:=bY) (hs:=bX) (step:=step) (start:=fun J=>start J (ls.headD .hole).aQ (cP 1 (aA 1 ls))) step_eq (fun I=>start_eq I ls) n
def md (a0:List aM)(a1:Int):Int:=(dD (S:=Unit) (β:=Int) (fun (i1:Nat) (y1:aM) (s3:Unit)=>(cond (Z200.md y1 a1) (.inr ((i1:Int):Int)) (.inl ()))) (fun (s3:Unit)=>((-1):Int)) 0 a0 ())
def gd (a0:List aM)(a1:Int):Prop:=(bM (2^21) (fun y:aM=>aM.Sm (2^21) y) a0)
def acc (ls:List L):aB×Int:=((ls.headD .hole).aQ,(gm (cP 1 (aA 1 ls))))
def R:(aB×Int)->Option Int:=RR (p2 gd) (u2 md)
def an {a0 a1}(h:gd a0 a1):R ((a0.map aM.row),a1)=some (md a0 a1):=aP (a:=(a0,a1)) h
def aU:fR:=CN pats res acc R
def bA (a0:List aM)(a1:Int)(p1:List L)(e1:a1=(gm p1))(hg:gd a0 a1):∃n,start (iter step n) (a0.map aM.row) p1=ret ((md a0 a1):Int):=by
 unfold gd at hg
 have H0:=hg
 unfold start md
 try simp only [SS,<-e1]
 have Bh2:a0.length<=maxLen:=(by
   have:=(H0).1
   try simp only [maxLen] at *
   omega)
 refine ex_eq (out:=ret) (cV (z:=aM.zero)) ?_
 refine dM (p:=Pt.p0 (a0.map aM.row) p1 (a0.length:Int) 0) fz ?_
 refine ck (pt:=fun (i1:Nat) (s3:Unit)=>Pt.p0 (a0.map aM.row) p1 (a0.length:Int) (i1:Int)) (s:=(():Unit)) (out:=ret) (fun _ _=>True) (fun J i1 s3 h2 hih2=>?_) (fun s3 hih2=>?_) trivial
 ·simp only [step,SS,<-e1]
  have bb_:=Bh2
  simp only [maxLen] at bb_
  have:=(H0).1
  refine bC.yes (by apply decide_eq_true;omega) ?_
  refine bC.yes aI ?_
  refine bC.yes (aK h2) ?_
  refine cr (Z200.an (bM.getD (z:=aM.zero) H0 h2)) ?_
  refine bC.bif (fun c4=>?_) (fun c4=>?_)
  ·refine bC.inr ?_
   all_goals exact fz
  ·refine bC.inl trivial ?_
   rw [aH h2 Bh2]
   all_goals exact fz
 ·simp only [step,SS,<-e1]
  have:=(H0).1
  refine dx (by apply decide_eq_false;omega) ?_
  refine ⟨0,?_⟩
  all_goals exact fz
def ox (ls:List L)(a:List aM×Int)(e:acc ls=Im.im a)(hg:(p2 gd) a):∃n:Nat,start (iter step n) ((ls.headD .hole).aQ) (cP 1 (aA 1 ls))=ret (Im.im ((u2 md) a)):=by
 have e0:(a.1.map aM.row)=(ls.headD .hole).aQ:=(congrArg (fun x=>x.1) e.symm)
 obtain ⟨n,hn⟩:=bA a.1 a.2 (cP 1 (aA 1 ls)) (congrArg (fun x=>x.2) e.symm) hg
 refine ⟨n,?_⟩
 rw [<-e0]
 exact hn
def af:cD 172 aU:=VP (accr:=fun ls=>((ls.headD .hole).aQ,(cP 1 (aA 1 ls)))) (run:=fun n x=>start (iter step n) x.1 x.2) mix aE (.cons Z200.af .nil) Tryz.func172 (by kernel_rfl) run_eq (fun ls a _ e hg=>ox ls a e hg)
def fa (a0:List aM)(a1:Int):-1<=md a0 a1/\md a0 a1<(a0.length:Int):=by
 unfold md
 refine gi ?_ _ _
 all_goals
  intro i x s b h
  revert h
  simp only [Bool.cond_eq_ite]
  repeat' split
  all_goals (intro h;first | (cases h;rfl) | cases h)
def idx_eq (a0:List aM)(a1:Int):md a0 a1=iT (fun y=>Z200.md y a1) 0 a0:=by
 unfold md
 exact gO
end Z201
namespace Z202
def F (x0:cM)(x1:Int):aJ:=(cond (decide (x1<0)) (ret ((-1):Int)) (call (Z201.R (x0.bI,x1)) fun v1=>ret (v1:Int)))
def md (a0:au)(a1:Int):Int:=(cond (decide (a1<0)) ((-1):Int) ((Z201.md a0.bI a1):Int))
def gd (a0:au)(a1:Int):Prop:=(au.Sm (2^21) a0)
def R:=RR (p2 gd) (u2 md)
def an {a0 a1}(h:gd a0 a1):R ((au.r a0),a1)=some (md a0 a1):=aP (a:=(a0,a1)) h
def aU:=CN [.agg AZ,pI] oI RT.dec R
def bA (a0)(a1)(hg:gd a0 a1):F (au.r a0) a1=ret (md a0 a1):=by
 unfold gd at hg
 have H0:=hg
 unfold F md
 try simp only [SS]
 refine av ret (fun _=>rfl) (fun c1=>?_)
 refine ct (Z201.an H0) ?_
 have fv1_:=Z201.fa a0.bI a1
 all_goals exact fz
def af:cD 138 aU:=W2 11 F mix aE bA (.cons Z201.af .nil) Tryz.func138
def fa (a0:au)(a1:Int):-1<=md a0 a1/\md a0 a1<(a0.bI.length:Int):=by
 unfold md
 have:=Z201.fa a0.bI a1
 cases decide (a1<0)
 ·exact this
 ·simp only [bh];omega
def br (a0:au)(a1:Int):md a0 a1=Z91.md a0 a1:=by
 unfold md Z91.md
 rw [Z201.idx_eq]
 rw [lg (p:=fun y=>(Z90.md y==a1)&&decide (a1>=0)) (fun i x s=>by cases (Z90.md x==a1)<;>cases decide (a1>=0)<;>rfl)]
 have e:(fun y=>Z200.md y a1)=fun y=>Z90.md y==a1:=by
  funext y
  unfold Z200.md
  rw [Z199.br]
 have key:∀(xs:List aM) (i:Nat),iT (fun _=>false) i xs=-1:=by
  intro xs
  induction xs with
  | nil=>intro i;rfl
  | cons x xs ih=>intro i;unfold iT;exact ih _
 rw [e]
 by_cases h:a1<0
 ·rw [decide_eq_true h,decide_eq_false (show ¬a1>=0 by omega)]
  simp only [bh,Bool.and_false,key]
 ·rw [decide_eq_false h,decide_eq_true (show a1>=0 by omega)]
  simp only [bu,Bool.and_true]
end Z202
namespace Z203
def F (x0:aY)(x1:List L):aJ:=ret ((x0.bw==(sDec x1)):Bool)
def pats:List ga:=[.agg [.str,aC,aC,.sl 9],.ptr [.str]]
def res:RP:=.one (.rd (.bool))
def md (a0:ah)(a1:aD):Bool:=((a0.bw==a1):Bool)
def gd (a0:ah)(a1:aD):Prop:=True
def acc (ls:List L):aY×aD:=((aY.dec ls),(sDec (cP 1 (aA 4 ls))))
def R:(aY×aD)->Option Bool:=RR (p2 gd) (u2 md)
def an {a0 a1}(h:gd a0 a1):R ((ah.r a0),a1)=some (md a0 a1):=aP (a:=(a0,a1)) h
def aU:fR:=CN pats res acc R
def bA (a0:ah)(a1:aD)(p1:List L)(e1:a1=(sDec p1))(hg:gd a0 a1):F (ah.r a0) p1=ret ((md a0 a1):Bool):=by
 unfold F md
 try simp only [SS,<-e1]
 all_goals exact fz
def ox (ls:List L)(a:ah×aD)(e:acc ls=Im.im a)(hg:(p2 gd) a):∃n:Nat,F (aY.dec ls) (cP 1 (aA 4 ls))=ret (Im.im ((u2 md) a)):=by
 have e0:(ah.r a.1)=(aY.dec ls):=(congrArg (fun x=>x.1) e.symm)
 have hn:=bA a.1 a.2 (cP 1 (aA 4 ls)) (congrArg (fun x=>x.2) e.symm) hg
 refine ⟨0,?_⟩
 rw [<-e0]
 exact hn
def af:cD 218 aU:=VP (live:=fun _=>[]) (nt:=8) (accr:=fun ls=>((aY.dec ls),(cP 1 (aA 4 ls)))) (run:=fun _ x=>F x.1 x.2) mix aE .nil Tryz.func218 (by kernel_rfl) (fun _ _=>by kernel_rfl) (fun ls a _ e hg=>ox ls a e hg)
end Z203
namespace Z204
inductive Pt where
 | p0 (a:aB) (b:List L) (c d:Int)
def pid:Pt->Nat
 | .p0 ..=>2
def bY:Pt->List V
 | .p0 a b c d=>[.sl none 57 a,.fn 218 [.dH none [.str] b 0],.int .i64 c,.int .i64 d]
def bX:Pt->List aV
 | .p0 a b c d=>[]
def step (J:Pt->aJ):Pt->aJ
 | .p0 a b c d=>(cond (decide (d<c)) (m2 d (a.length:Int) (call (Z203.R ((aY.at a (toNat d)),(sDec b))) fun v1=>(cond v1 (ret (d:Int)) (J (.p0 a b c (i64.wrap (d+1))))))) (ret ((-1):Int)))
def start (J:Pt->aJ)(x0:aB)(x1:List L):aJ:=J (.p0 x0 x1 (x0.length:Int) 0)
def live:Nat->Live:=fun i=>match i with | 2=>[(0,none),(1,none),(7,none),(8,none)] | _=>[]
def pats:List ga:=[.rd (.sl 57),.fn 218 [[.str]]]
def res:RP:=.one (.rd (.int .i64))
abbrev E:Env:={ T:=assoc jV,G:=dw [(218,Z203.aU)],nt:=19 }
def step_eq (I:cB)(p:Pt):cR E live I (pid p) (bL Tryz.f217) (fm (live (pid p)) (bY p) (bX p)) (cA E Tryz.f217 res)=step (fun q=>I (pid q) (bY q) (bX q)) p:=by
 cases p<;>kernel_rfl
def start_eq (I:cB)(ls:List L):eL E live I (bL Tryz.f217) (cU pats ls) (cA E Tryz.f217 res)=start (fun q=>I (pid q) (bY q) (bX q)) (ls.headD .hole).aQ (cP 1 (aA 1 ls)):=by kernel_rfl
def run_eq (n:Nat)(ls:List L):eG E live Tryz.f217 res n (cU pats ls)=start (iter step n) (ls.headD .hole).aQ (cP 1 (aA 1 ls)):=cq (id:=pid) (vs:=bY) (hs:=bX) (step:=step) (start:=fun J=>start J (ls.headD .hole).aQ (cP 1 (aA 1 ls))) step_eq (fun I=>start_eq I ls) n
def md (a0:List ah)(a1:aD):Int:=(dD (S:=Unit) (β:=Int) (fun (i1:Nat) (y1:ah) (s3:Unit)=>(cond (Z203.md y1 a1) (.inr ((i1:Int):Int)) (.inl ()))) (fun (s3:Unit)=>((-1):Int)) 0 a0 ())
def gd (a0:List ah)(a1:aD):Prop:=(bM (2^21) (fun y:ah=>ah.Sm (2^21) y) a0)
def acc (ls:List L):aB×aD:=((ls.headD .hole).aQ,(sDec (cP 1 (aA 1 ls))))
def R:(aB×aD)->Option Int:=RR (p2 gd) (u2 md)
def an {a0 a1}(h:gd a0 a1):R ((a0.map ah.row),a1)=some (md a0 a1):=aP (a:=(a0,a1)) h
def aU:fR:=CN pats res acc R
def bA (a0:List ah)(a1:aD)(p1:List L)(e1:a1=(sDec p1))(hg:gd a0 a1):∃n,start (iter step n) (a0.map ah.row) p1=ret ((md a0 a1):Int):=by
 unfold gd at hg
 have H0:=hg
 unfold start md
 try simp only [SS,<-e1]
 have Bh2:a0.length<=maxLen:=(by
   have:=(H0).1
   try simp only [maxLen] at *
   omega)
 refine ex_eq (out:=ret) (cV (z:=ah.zero)) ?_
 refine dM (p:=Pt.p0 (a0.map ah.row) p1 (a0.length:Int) 0) fz ?_
 refine ck (pt:=fun (i1:Nat) (s3:Unit)=>Pt.p0 (a0.map ah.row) p1 (a0.length:Int) (i1:Int)) (s:=(():Unit)) (out:=ret) (fun _ _=>True) (fun J i1 s3 h2 hih2=>?_) (fun s3 hih2=>?_) trivial
 ·simp only [step,SS,<-e1]
  have bb_:=Bh2
  simp only [maxLen] at bb_
  have:=(H0).1
  refine bC.yes (by apply decide_eq_true;omega) ?_
  refine bC.yes aI ?_
  refine bC.yes (aK h2) ?_
  refine cr (Z203.an trivial) ?_
  refine bC.bif (fun c4=>?_) (fun c4=>?_)
  ·refine bC.inr ?_
   all_goals exact fz
  ·refine bC.inl trivial ?_
   rw [aH h2 Bh2]
   all_goals exact fz
 ·simp only [step,SS,<-e1]
  have:=(H0).1
  refine dx (by apply decide_eq_false;omega) ?_
  refine ⟨0,?_⟩
  all_goals exact fz
def ox (ls:List L)(a:List ah×aD)(e:acc ls=Im.im a)(hg:(p2 gd) a):∃n:Nat,start (iter step n) ((ls.headD .hole).aQ) (cP 1 (aA 1 ls))=ret (Im.im ((u2 md) a)):=by
 have e0:(a.1.map ah.row)=(ls.headD .hole).aQ:=(congrArg (fun x=>x.1) e.symm)
 obtain ⟨n,hn⟩:=bA a.1 a.2 (cP 1 (aA 1 ls)) (congrArg (fun x=>x.2) e.symm) hg
 refine ⟨n,?_⟩
 rw [<-e0]
 exact hn
def af:cD 217 aU:=VP (accr:=fun ls=>((ls.headD .hole).aQ,(cP 1 (aA 1 ls)))) (run:=fun n x=>start (iter step n) x.1 x.2) mix aE (.cons Z203.af .nil) Tryz.func217 (by kernel_rfl) run_eq (fun ls a _ e hg=>ox ls a e hg)
def fa (a0:List ah)(a1:aD):-1<=md a0 a1/\md a0 a1<(a0.length:Int):=by
 unfold md
 refine gi ?_ _ _
 all_goals
  intro i x s b h
  revert h
  simp only [Bool.cond_eq_ite]
  repeat' split
  all_goals (intro h;first | (cases h;rfl) | cases h)
def idx_eq (a0:List ah)(a1:aD):md a0 a1=iT (fun y=>Z203.md y a1) 0 a0:=by
 unfold md
 exact gO
end Z204
namespace Z205
def F (x0:aB)(x1:aD):aJ:=(call (Z204.R (x0,x1)) fun v1=>ret (v1:Int))
def md (a0:List ah)(a1:aD):Int:=((Z204.md a0 a1):Int)
def gd (a0:List ah)(a1:aD):Prop:=(bM (2^21) (fun y:ah=>ah.Sm (2^21) y) a0)
def R:=RR (p2 gd) (u2 md)
def an {a0 a1}(h:gd a0 a1):R ((a0.map ah.row),a1)=some (md a0 a1):=aP (a:=(a0,a1)) h
def aU:=CN [pL 57,pS] oI RT.dec R
def bA (a0)(a1)(hg:gd a0 a1):F (a0.map ah.row) a1=ret (md a0 a1):=by
 unfold gd at hg
 have H0:=hg
 unfold F md
 try simp only [SS]
 refine ct (Z204.an H0) ?_
 have fv1_:=Z204.fa a0 a1
 all_goals exact fz
def af:cD 176 aU:=W2 8 F mix aE bA (.cons Z204.af .nil) Tryz.func176
def fa (a0:List ah)(a1:aD):-1<=md a0 a1/\md a0 a1<(a0.length:Int):=by
 unfold md
 refine gi ?_ _ _
 all_goals
  intro i x s b h
  revert h
  simp only [Bool.cond_eq_ite]
  repeat' split
  all_goals (intro h;first | (cases h;rfl) | cases h)
def br (a0:List ah)(a1:aD):md a0 a1=Z92.md a0 a1:=by
 unfold md Z92.md
 first
 | (simp only [Z204.idx_eq];done)
 | (simp only [Z204.idx_eq];rfl)
 | rfl
end Z205
namespace Z206
def F (x0:aB):aJ:=(cond x0.isEmpty (either (ret ([]:aB)) ((cj (eS ((x0.length:Int)*16)) (ret (x0:aB))))) (cj (eS ((x0.length:Int)*16)) (ret (x0:aB))))
def md (a0:List aD):List aD:=a0
def gd (a0:List aD):Prop:=bM (2^21) (fun y:aD=>y.size<=(2^21)) a0
def R:=RR gd md
def an {a0}(h:gd a0):R (a0.map cG)=some (a0.map cG):=aP (a:=a0) h
def aU:=CN [pL 9] (oL 9) RT.dec R
def bA (a0)(hg:gd a0):F (a0.map cG)=ret ((md a0).map cG):=by
 have H0:=hg.1
 unfold F md
 have hl:eS (((a0.map cG).length:Int)*16)=true:=iF (by simp only [List.length_map];omega)
 simp only [hl,bh]
 cases a0 with
 | nil=>exact lH
 | cons x xs=>rfl
def af:cD 135 aU:=W1 8 F mix aE bA .nil Tryz.func135
end Z206
namespace Z207
def F (x0:aY):aJ:=(call (Z206.R x0.bK) fun v1=>ret ((⟨x0.bw,x0.bQ,x0.cw,v1⟩:aY):aY))
def md (a0:ah):ah:=a0
def gd (a0:ah):Prop:=(ah.Sm (2^21) a0)
def R:=RR gd md
def an {a0}(h:gd a0):R (ah.r a0)=some (ah.r a0):=aP (a:=a0) h
def aU:=CN [.agg rV] (.agg f57) RT.dec R
def bA (a0)(hg:gd a0):F (ah.r a0)=ret (ah.r (md a0)):=by
 unfold gd at hg
 have H0:=hg
 unfold F md
 try simp only [SS]
 refine ct (Z206.an H0.2) ?_
 try simp only [SS]
 all_goals exact fz
def af:cD 136 aU:=W1 8 F mix aE bA (.cons Z206.af .nil) Tryz.func136
end Z207
namespace Z208
inductive Pt where
 | p0 (a:aB) (b:Int) (c:aB)
 | p1 (a:Int) (b c:aB)
def pid:Pt->Nat
 | .p0 ..=>4
 | .p1 ..=>4
def bY:Pt->List V
 | .p0 a b c=>[.sl none 3 a,.int .i64 b,.own 0]
 | .p1 a b c=>[.own 0,.int .i64 a,.own 1]
def bX:Pt->List aV
 | .p0 a b c=>[.row 3 c]
 | .p1 a b c=>[.row 3 b,.row 3 c]
def step (J:Pt->aJ):Pt->aJ
 | .p0 a b c=>(cond (decide ((a.length:Int)>1)) (cond (decide ((mF .i64 b 1)<(a.length:Int))) (cj (decide ((0:Int)<=(mF .i64 b 1))) (cj (decide ((mF .i64 b 1)<(a.length:Int))) (cj (eS (((c.length:Int)+1)*8)) (call (Z193.R a) fun v1=>J (.p1 (i64.wrap (Int.tdiv b 2)) v1 (c++[[L.int (jt a (toNat (mF .i64 b 1)))]])))))) (call (Z193.R a) fun v2=>J (.p1 (i64.wrap (Int.tdiv b 2)) v2 c))) (ret (c:aB)))
 | .p1 a b c=>(cond (decide ((b.length:Int)>1)) (cond (decide ((mF .i64 a 1)<(b.length:Int))) (cj (decide ((0:Int)<=(mF .i64 a 1))) (cj (decide ((mF .i64 a 1)<(b.length:Int))) (cj (eS (((c.length:Int)+1)*8)) (call (Z193.R b) fun v1=>J (.p1 (i64.wrap (Int.tdiv a 2)) v1 (c++[[L.int (jt b (toNat (mF .i64 a 1)))]])))))) (call (Z193.R b) fun v2=>J (.p1 (i64.wrap (Int.tdiv a 2)) v2 c))) (ret (c:aB)))
def start (J:Pt->aJ)(x0:aB)(x1:Int):aJ:=(call (Z135.R (x1,0,(i64.wrap ((x0.length:Int) - 1)))) fun v1=>(cond (!v1) (ret ([]:aB)) (J (.p0 x0 x1 []))))
def live:Nat->Live:=fun i=>match i with | 4=>[(0,none),(1,none),(5,some 3)] | _=>[]
def Bv (b:Nat)(h:b<2^40):mF .i64 (b:Int) 1=((Z94.vn b:Nat):Int):=by
 have e1:(BitVec.ofInt 64 (b:Int)).toNat=b:=by simp [BitVec.toNat_ofInt];omega
 have e2:(BitVec.ofInt 64 (1:Int)).toNat=1:=by decide
 have e3:(b ^^^ 1)=Z94.vn b:=by
  have a1:(b ^^^ 1) % 2=(b+1) % 2:=by
   have h:=Nat.xor_mod_two_pow (a:=b) (b:=1) (n:=1)
   rw [Nat.pow_one,show (1:Nat) % 2=1 from rfl] at h
   rcases Nat.mod_two_eq_zero_or_one b with e | e
   ·rw [e,show (0:Nat) ^^^ 1=1 from rfl] at h;omega
   ·rw [e,show (1:Nat) ^^^ 1=0 from rfl] at h;omega
  have a2:(b ^^^ 1) / 2=b / 2:=by rw [Nat.xor_div_two];simp
  unfold Z94.vn;split<;>omega
 show i64.wrap (((BitVec.ofInt 64 (b:Int) ^^^ BitVec.ofInt 64 1).toNat:Nat):Int)=_
 rw [BitVec.toNat_xor,e1,e2,e3,wi _ (by unfold Z94.vn;split<;>omega)]
def md (a0:List Int)(a1:Int):List Int:=Z94.md a0 a1
def gd (a0:List Int)(a1:Int):Prop:=bM (2^38) (fun y:Int=>True) a0
def R:=RR (p2 gd) (u2 md)
def an {a0 a1}(h:gd a0 a1):R ((a0.map bq),a1)=some ((md a0 a1).map bq):=aP (a:=(a0,a1)) h
def aU:=CN [pL 3,pI] (oL 3) RT.dec R
def bA (a0)(a1)(hg:gd a0 a1):∃n,start (iter step n) (a0.map bq) a1=ret ((md a0 a1).map bq):=by
 have one:∀(i:Nat) (l c r:List Int) (n:Nat),bM (2^38) (fun y:Int=>True) l->i<2^40->c.length<2^40->(if l.length>1 then iter step n (Pt.p1 ((i / 2:Nat):Int) ((Z84.up l).map bq) ((Z94.vm i l c).map bq))=ret (r.map bq) else c=r)->
   step (iter step n) (Pt.p0 (l.map bq) (i:Int) (c.map bq))=ret (r.map bq)/\step (iter step n) (Pt.p1 (i:Int) (l.map bq) (c.map bq))=ret (r.map bq):=by
  intro i l c r n hl hi hc h
  have hs:=Bv i hi
  have hd:=Z94.half i hi
  refine ⟨?_,?_⟩
  all_goals
   simp only [step,MM,List.length_map,gL,hs,hd,cz]
   by_cases h1:l.length>1
   ·rw [if_pos h1] at h
    rw [decide_eq_true (show (l.length:Int)>1 by omega),bh]
    by_cases h2:Z94.vn i<l.length
    ·rw [Z94.vm,if_pos h2,List.map_append] at h
     rw [decide_eq_true (show ((Z94.vn i:Nat):Int)<(l.length:Int) by omega),bh,decide_eq_true (show (0:Int)<=((Z94.vn i:Nat):Int) by omega),bh,bh,iF (by omega),bh]
     exact aZ ((Z84.up l).map bq) (Z193.an hl) h
    ·rw [Z94.vm,if_neg h2] at h
     rw [decide_eq_false (show ¬((Z94.vn i:Nat):Int)<(l.length:Int) by omega),bu]
     exact aZ ((Z84.up l).map bq) (Z193.an hl) h
   ·rw [if_neg h1] at h
    rw [decide_eq_false (show ¬(l.length:Int)>1 by omega),bu,h]
 have key:∀(k i:Nat) (l c:List Int),bM (2^38) (fun y:Int=>True) l->l.length<=k->i<2^40->c.length+k<2^40->
   ∃n,step (iter step n) (Pt.p0 (l.map bq) (i:Int) (c.map bq))=ret ((Z94.yV k i l c).map bq)/\step (iter step n) (Pt.p1 (i:Int) (l.map bq) (c.map bq))=ret ((Z94.yV k i l c).map bq):=by
  intro k
  induction k with
  | zero=>intro i l c hl hk hi hc;exact ⟨0,one i l c _ 0 hl hi (by omega) (by rw [if_neg (by omega)];rfl)⟩
  | succ k ih=>
   intro i l c hl hk hi hc
   unfold Z94.yV
   by_cases h1:l.length>1
   ·have hu:=Z84.kf l
    have hl1:=hl.1
    have h2:(Z94.vm i l c).length<=c.length+1:=by unfold Z94.vm;split<;>simp
    obtain ⟨n,_,hn⟩:=ih (i / 2) (Z84.up l) (Z94.vm i l c) ⟨by omega,fun _ _=>trivial⟩ (by omega) (by omega) (by omega)
    rw [if_pos h1]
    exact ⟨n+1,one i l c _ (n+1) hl hi (by omega) (by rw [if_pos h1];exact hn)⟩
   ·rw [if_neg h1]
    exact ⟨0,one i l c _ 0 hl hi (by omega) (by rw [if_neg h1])⟩
 unfold gd at hg
 unfold start md Z94.md
 simp only [List.length_map]
 have hlen:=hg.1
 cases h:Z45.md a1 0 (i64.wrap ((a0.length:Int) - 1))
 ·exact ⟨0,aZ false (by rw [<-h,<-Z135.br];exact Z135.an trivial) rfl⟩
 ·have hh:=h
  rw [wi _ (by omega)] at hh
  simp [Z45.md] at hh
  obtain ⟨i,rfl⟩:=Int.eq_ofNat_of_zero_le hh.1
  obtain ⟨n,hn,_⟩:=key a0.length i a0 [] hg (Nat.le_refl _) (by omega) (by simp only [List.length_nil];omega)
  exact ⟨n+1,aZ true (by rw [<-h,<-Z135.br];exact Z135.an trivial) hn⟩
def af:cD 219 aU:=L2 36 pid bY bX live step start mix aE bA (.cons Z135.af (.cons Z193.af .nil)) Tryz.func219
def len (a0:List Int)(a1:Int):(md a0 a1).length<=a0.length:=by
 intros;unfold md Z94.md
 cases Z45.md _ 0 _
 ·exact zero_le _
 ·exact le_trans (Z94.tE _ _ _ _) (by simp)
def br (a0:List Int)(a1:Int):md a0 a1=Z94.md a0 a1:=by
 unfold md Z94.md
 first
 | (simp only [Z135.br,Z193.br];done)
 | (simp only [Z135.br,Z193.br];rfl)
 | rfl
end Z208
namespace Z209
def F (x0:aB)(x1:aD):aJ:=(call (Z205.R (x0,x1)) fun v1=>(cond (decide (v1<0)) (ret (((⟨0,[]⟩:bT),false):bT×Bool)) (call (Z190.R x0) fun v2=>(call (Z208.R (v2,v1)) fun v3=>ret (((⟨v1,v3⟩:bT),true):bT×Bool)))))
def md (a0:List ah)(a1:aD):aN×Bool:=(cond (decide ((Z205.md a0 a1)<0)) ((⟨0,[]⟩:aN),false) ((⟨(Z205.md a0 a1),(Z208.md (Z190.md a0) (Z205.md a0 a1))⟩:aN),true))
def gd (a0:List ah)(a1:aD):Prop:=(bM (2^21) (fun y:ah=>ah.Sm (2^21) y) a0)
def R:=RR (p2 gd) (u2 md)
def an {a0 a1}(h:gd a0 a1):R ((a0.map ah.row),a1)=some ((aN.r (md a0 a1).1),(md a0 a1).2):=aP (a:=(a0,a1)) h
def aU:=CN [pL 57,pS] (.iJ [(true,f161),(false,[fB])]) RT.dec R
def bA (a0)(a1)(hg:gd a0 a1):F (a0.map ah.row) a1=ret ((aN.r (md a0 a1).1),(md a0 a1).2):=by
 unfold gd at hg
 have H0:=hg
 unfold F md
 try simp only [SS]
 refine ct (Z205.an H0) ?_
 have fv1_:=Z205.fa a0 a1
 refine av (fun b:aN×Bool=>ret (((aN.r b.1),b.2):bT×Bool)) (fun c1=>?_) (fun c1=>?_)
 ·all_goals exact fz
 ·have dc1:=c1
  try simp only [DC] at dc1
  refine ct (Z190.an H0) ?_
  try simp only [SS]
  refine ct (Z208.an ⟨(have:=Z190.len a0;have:=(H0).1;om),fun _ _=>trivial⟩) ?_
  try simp only [SS]
  all_goals exact fz
def af:cD 177 aU:=W2 19 F mix aE bA (.cons Z205.af (.cons Z190.af (.cons Z208.af .nil))) Tryz.func177
def fL {a0:List ah}{a1:aD}(hg:gd a0 a1):aN.Sm (2^21) ((md a0 a1).1):=by
 unfold gd at hg;unfold md
 cases decide (Z205.md a0 a1<0)
 ·refine ⟨?_,fun _ _=>trivial⟩
  have h:=Z208.len (Z190.md a0) (Z205.md a0 a1)
  rw [Z190.len] at h
  exact le_trans h hg.1
 ·exact bM.nil
def br (a0:List ah)(a1:aD):md a0 a1=Z95.md a0 a1:=by
 unfold md Z95.md
 first
 | (simp only [Z205.br,Z190.br,Z208.br];done)
 | (simp only [Z205.br,Z190.br,Z208.br];rfl)
 | rfl
end Z209
namespace Z210
inductive Pt where
 | p0 (a:aD) (b:Int) (c:aB) (d e:Int)
def pid:Pt->Nat
 | .p0 ..=>3
def bY:Pt->List V
 | .p0 a b c d e=>[.str a,.int .i64 b,.sl none 57 c,.int .i64 d,.int .i64 e]
def bX:Pt->List aV
 | .p0 a b c d e=>[]
def step (J:Pt->aJ):Pt->aJ
 | .p0 a b c d e=>(cond (decide (e<d)) (m2 e (c.length:Int) (call (Z184.R ((aY.at c (toNat e)).bw,a)) fun v1=>(cond (decide (v1<0)) (J (.p0 a (i64.wrap (b+1)) c d (i64.wrap (e+1)))) (J (.p0 a b c d (i64.wrap (e+1))))))) (ret (b:Int)))
def start (J:Pt->aJ)(x0:aB)(x1:aD):aJ:=J (.p0 x1 0 x0 (x0.length:Int) 0)
def live:Nat->Live:=fun i=>match i with | 3=>[(1,none),(5,none),(8,none),(9,none),(10,none)] | _=>[]
def md (a0:List ah)(a1:aD):Int:=(dQ (S:=Int) (β:=Int) (fun (y1:ah) (s3:Int)=>(cond (decide ((Z184.md (y1.bw) a1)<0)) (.inl (i64.wrap (s3+1))) (.inl s3))) (fun (s3:Int)=>(s3:Int)) a0 0)
def gd (a0:List ah)(a1:aD):Prop:=(bM (2^21) (fun y:ah=>ah.Sm (2^21) y) a0)
def R:=RR (p2 gd) (u2 md)
def an {a0 a1}(h:gd a0 a1):R ((a0.map ah.row),a1)=some (md a0 a1):=aP (a:=(a0,a1)) h
def aU:=CN [pL 57,pS] oI RT.dec R
def bA (a0)(a1)(hg:gd a0 a1):∃n,start (iter step n) (a0.map ah.row) a1=ret (md a0 a1):=by
 unfold gd at hg
 have H0:=hg
 unfold start md
 try simp only [SS]
 have Bh2:a0.length<=maxLen:=(by
   have:=(H0).1
   try simp only [maxLen] at *
   omega)
 refine ex_eq (out:=ret) (ep (z:=ah.zero)) ?_
 refine dM (p:=Pt.p0 a1 0 (a0.map ah.row) (a0.length:Int) 0) fz ?_
 refine ck (pt:=fun (i1:Nat) (s3:Int)=>Pt.p0 a1 s3 (a0.map ah.row) (a0.length:Int) (i1:Int)) (s:=(0:Int)) (out:=ret) (fun _ _=>True) (fun J i1 s3 h2 hih2=>?_) (fun s3 hih2=>?_) trivial
 ·simp only [step,SS]
  have bb_:=Bh2
  simp only [maxLen] at bb_
  have:=(H0).1
  refine bC.yes (by apply decide_eq_true;omega) ?_
  refine bC.yes aI ?_
  refine bC.yes (aK h2) ?_
  refine cr (Z184.an trivial) ?_
  refine bC.bif (fun c4=>?_) (fun c4=>?_)
  ·refine bC.inl trivial ?_
   rw [aH h2 Bh2]
   all_goals exact fz
  ·refine bC.inl trivial ?_
   rw [aH h2 Bh2]
   all_goals exact fz
 ·simp only [step,SS]
  have:=(H0).1
  refine dx (by apply decide_eq_false;omega) ?_
  refine ⟨0,?_⟩
  all_goals exact fz
def af:cD 222 aU:=L2 23 pid bY bX live step start mix aE bA (.cons Z184.af .nil) Tryz.func222
def fa (a0:List ah)(a1:aD):a0.length<=2^21->0<=md a0 a1/\md a0 a1<=(a0.length:Int):=fun hl=>by
 have key:∀(xs:List ah) (s:Int),0<=s->s+xs.length<=2^22->0<=dQ (S:=Int) (β:=Int) (fun (y1:ah) (s3:Int)=>(cond (decide ((Z184.md (y1.bw) a1)<0)) (.inl (i64.wrap (s3+1))) (.inl s3))) (fun (s3:Int)=>(s3:Int)) xs s/\dQ (S:=Int) (β:=Int) (fun (y1:ah) (s3:Int)=>(cond (decide ((Z184.md (y1.bw) a1)<0)) (.inl (i64.wrap (s3+1))) (.inl s3))) (fun (s3:Int)=>(s3:Int)) xs s<=s+xs.length:=by
  intro xs
  induction xs with
  | nil=>intro s h0 h1;exact ⟨h0,by simp [dQ]⟩
  | cons x xs ih=>
   intro s h0 h1
   simp only [List.length_cons] at h1 ⊢
   unfold dQ
   cases decide (Z184.md x.bw a1<0)
   ·have:=ih s h0 (by omega)
    simp only [bu]
    omega
   ·have:=ih (s+1) (by omega) (by omega)
    simp only [bh]
    rw [wi _ (by omega)]
    omega
 have:=key a0 0 (Int.le_refl _) (by omega)
 unfold md
 omega
def br (a0:List ah)(a1:aD):md a0 a1=Z96.md a0 a1:=by
 unfold md Z96.md
 first
 | (simp only [Z184.br];done)
 | (simp only [Z184.br];rfl)
 | rfl
end Z210
namespace Z211
def F (x0:aB)(x1:aD):aJ:=(call (Z185.R x0) fun v1=>(cond (!v1) (ret (((⟨0,(⟨(⟨#[]⟩:aD),0,0,[]⟩:aY),(⟨(⟨#[]⟩:aD),0,0,[]⟩:aY),(⟨0,[]⟩:bT),(⟨0,[]⟩:bT)⟩:dO),false):dO×Bool)) (call (Z136.R x1) fun v2=>(cond (!v2) (ret (((⟨0,(⟨(⟨#[]⟩:aD),0,0,[]⟩:aY),(⟨(⟨#[]⟩:aD),0,0,[]⟩:aY),(⟨0,[]⟩:bT),(⟨0,[]⟩:bT)⟩:dO),false):dO×Bool)) (call (Z205.R (x0,x1)) fun v3=>(cond (decide (v3>=0)) (ret (((⟨0,(⟨(⟨#[]⟩:aD),0,0,[]⟩:aY),(⟨(⟨#[]⟩:aD),0,0,[]⟩:aY),(⟨0,[]⟩:bT),(⟨0,[]⟩:bT)⟩:dO),false):dO×Bool)) (call (Z210.R (x0,x1)) fun v4=>(cond (decide (v4>0)) (cj (decide ((0:Int)<=(i64.wrap (v4 - 1)))) (cj (decide ((i64.wrap (v4 - 1))<(x0.length:Int))) (call (Z207.R (aY.at x0 (toNat (i64.wrap (v4 - 1))))) fun v5=>(call (Z209.R (x0,v5.bw)) fun v6=>(cond (decide (v4<(x0.length:Int))) (m2 v4 (x0.length:Int) (call (Z207.R (aY.at x0 (toNat v4))) fun v7=>(call (Z209.R (x0,v7.bw)) fun v8=>ret (((⟨v4,v5,v7,v6.1,v8.1⟩:dO),true):dO×Bool)))) (ret (((⟨v4,v5,(⟨(⟨#[]⟩:aD),0,0,[]⟩:aY),v6.1,(⟨0,[]⟩:bT)⟩:dO),true):dO×Bool))))))) (cond (decide (v4<(x0.length:Int))) (m2 v4 (x0.length:Int) (call (Z207.R (aY.at x0 (toNat v4))) fun v9=>(call (Z209.R (x0,v9.bw)) fun v10=>ret (((⟨v4,(⟨(⟨#[]⟩:aD),0,0,[]⟩:aY),v9,(⟨0,[]⟩:bT),v10.1⟩:dO),true):dO×Bool)))) (ret (((⟨v4,(⟨(⟨#[]⟩:aD),0,0,[]⟩:aY),(⟨(⟨#[]⟩:aD),0,0,[]⟩:aY),(⟨0,[]⟩:bT),(⟨0,[]⟩:bT)⟩:dO),true):dO×Bool)))))))))))
def md (a0:List ah)(a1:aD):bV×Bool:=(cond (!(Z185.md a0)) ((⟨0,(⟨((⟨#[]⟩:aD):aD),0,0,[]⟩:ah),(⟨((⟨#[]⟩:aD):aD),0,0,[]⟩:ah),(⟨0,[]⟩:aN),(⟨0,[]⟩:aN)⟩:bV),false) (cond (!(Z136.md a1)) ((⟨0,(⟨((⟨#[]⟩:aD):aD),0,0,[]⟩:ah),(⟨((⟨#[]⟩:aD):aD),0,0,[]⟩:ah),(⟨0,[]⟩:aN),(⟨0,[]⟩:aN)⟩:bV),false) (cond (decide ((Z205.md a0 a1)>=0)) ((⟨0,(⟨((⟨#[]⟩:aD):aD),0,0,[]⟩:ah),(⟨((⟨#[]⟩:aD):aD),0,0,[]⟩:ah),(⟨0,[]⟩:aN),(⟨0,[]⟩:aN)⟩:bV),false) (cond (decide ((Z210.md a0 a1)>0)) (cond (decide ((Z210.md a0 a1)<(a0.length:Int))) ((⟨(Z210.md a0 a1),(a0.getD (toNat (i64.wrap ((Z210.md a0 a1) - 1))) ah.zero),(a0.getD (toNat (Z210.md a0 a1)) ah.zero),(Z209.md a0 ((a0.getD (toNat (i64.wrap ((Z210.md a0 a1) - 1))) ah.zero).bw)).1,(Z209.md a0 ((a0.getD (toNat (Z210.md a0 a1)) ah.zero).bw)).1⟩:bV),true) ((⟨(Z210.md a0 a1),(a0.getD (toNat (i64.wrap ((Z210.md a0 a1) - 1))) ah.zero),(⟨((⟨#[]⟩:aD):aD),0,0,[]⟩:ah),(Z209.md a0 ((a0.getD (toNat (i64.wrap ((Z210.md a0 a1) - 1))) ah.zero).bw)).1,(⟨0,[]⟩:aN)⟩:bV),true)) (cond (decide ((Z210.md a0 a1)<(a0.length:Int))) ((⟨(Z210.md a0 a1),(⟨((⟨#[]⟩:aD):aD),0,0,[]⟩:ah),(a0.getD (toNat (Z210.md a0 a1)) ah.zero),(⟨0,[]⟩:aN),(Z209.md a0 ((a0.getD (toNat (Z210.md a0 a1)) ah.zero).bw)).1⟩:bV),true) ((⟨(Z210.md a0 a1),(⟨((⟨#[]⟩:aD):aD),0,0,[]⟩:ah),(⟨((⟨#[]⟩:aD):aD),0,0,[]⟩:ah),(⟨0,[]⟩:aN),(⟨0,[]⟩:aN)⟩:bV),true))))))
def gd (a0:List ah)(a1:aD):Prop:=(bM (2^21) (fun y:ah=>ah.Sm (2^21) y) a0)/\(a1.size<=(2^21))
def R:=RR (p2 gd) (u2 md)
def an {a0 a1}(h:gd a0 a1):R ((a0.map ah.row),a1)=some ((bV.r (md a0 a1).1),(md a0 a1).2):=aP (a:=(a0,a1)) h
def aU:=CN [pL 57,pS] (.iJ [(true,f163),(false,[fB])]) RT.dec R
def bA (a0)(a1)(hg:gd a0 a1):F (a0.map ah.row) a1=ret ((bV.r (md a0 a1).1),(md a0 a1).2):=by
 obtain ⟨H0,H1⟩:=hg
 unfold F md
 try simp only [SS]
 refine ct (Z185.an H0) ?_
 refine av (fun b:bV×Bool=>ret (((bV.r b.1),b.2):dO×Bool)) (fun c1=>?_) (fun c1=>?_)
 ·all_goals exact fz
 ·have dc1:=c1
  try simp only [DC] at dc1
  refine ct (Z136.an (le_trans H1 (by decide))) ?_
  refine av (fun b:bV×Bool=>ret (((bV.r b.1),b.2):dO×Bool)) (fun c2=>?_) (fun c2=>?_)
  ·all_goals exact fz
  ·have dc2:=c2
   try simp only [DC] at dc2
   refine ct (Z205.an H0) ?_
   have fv3_:=Z205.fa a0 a1
   refine av (fun b:bV×Bool=>ret (((bV.r b.1),b.2):dO×Bool)) (fun c3=>?_) (fun c3=>?_)
   ·all_goals exact fz
   ·have dc3:=c3
    try simp only [DC] at dc3
    refine ct (Z210.an H0) ?_
    have fv4_:=Z210.fa a0 a1
    refine av (fun b:bV×Bool=>ret (((bV.r b.1),b.2):dO×Bool)) (fun c4=>?_) (fun c4=>?_)
    ·have dc4:=c4
     try simp only [DC] at dc4
     refine ak (have:=(H0).1;dt) ?_
     refine ak (have:=(H0).1;have:=(H0).1;dt) ?_
     refine ct (Z207.an (bM.getD (z:=ah.zero) H0 (by have:=(H0).1;first | assumption | omega | (simp (disch:=omega) only [wi];omega) | (simp;omega)))) ?_
     try simp only [SS]
     refine ct (Z209.an H0) ?_
     try simp only [SS]
     refine av (fun b:bV×Bool=>ret (((bV.r b.1),b.2):dO×Bool)) (fun c5=>?_) (fun c5=>?_)
     ·have dc5:=c5
      try simp only [DC] at dc5
      refine ak (have:=(H0).1;dt) ?_
      refine ak (have:=(H0).1;have:=(H0).1;dt) ?_
      refine ct (Z207.an (bM.getD (z:=ah.zero) H0 (by have:=(H0).1;first | assumption | omega | (simp (disch:=omega) only [wi];omega) | (simp;omega)))) ?_
      try simp only [SS]
      refine ct (Z209.an H0) ?_
      try simp only [SS]
      all_goals exact fz
     ·all_goals exact fz
    ·have dc4:=c4
     try simp only [DC] at dc4
     refine av (fun b:bV×Bool=>ret (((bV.r b.1),b.2):dO×Bool)) (fun c6=>?_) (fun c6=>?_)
     ·have dc6:=c6
      try simp only [DC] at dc6
      refine ak (have:=(H0).1;dt) ?_
      refine ak (have:=(H0).1;have:=(H0).1;dt) ?_
      refine ct (Z207.an (bM.getD (z:=ah.zero) H0 (by have:=(H0).1;first | assumption | omega | (simp (disch:=omega) only [wi];omega) | (simp;omega)))) ?_
      try simp only [SS]
      refine ct (Z209.an H0) ?_
      try simp only [SS]
      all_goals exact fz
     ·all_goals exact fz
def af:cD 178 aU:=W2 68 F mix aE bA (.cons Z185.af (.cons Z136.af (.cons Z205.af (.cons Z210.af (.cons Z207.af (.cons Z209.af .nil)))))) Tryz.func178
def fL {a0:List ah}{a1:aD}(hg:gd a0 a1):bV.Sm (2^21) ((md a0 a1).1):=by
 unfold gd at hg;unfold md
 have ez:ah.Sm (2^21) ⟨⟨#[]⟩,0,0,[]⟩:=⟨zero_le _,bM.nil⟩
 have pz:aN.Sm (2^21) ⟨0,[]⟩:=bM.nil
 have he:∀i,ah.Sm (2^21) (a0.getD i ah.zero):=fun i=>bM.vG hg.1 ez
 have hp:∀x,aN.Sm (2^21) (Z209.md a0 x).1:=fun x=>Z209.fL hg.1
 simp only [Bool.cond_eq_ite]
 repeat' split
 all_goals (refine ⟨?_,?_,?_,?_⟩<;>first | exact he _ | exact hp _ | exact ez | exact pz)
def br (a0:List ah)(a1:aD):md a0 a1=Z97.md a0 a1:=by
 unfold md Z97.md
 first
 | (simp only [Z185.br,Z136.br,Z205.br,Z210.br,Z209.br];done)
 | (simp only [Z185.br,Z136.br,Z205.br,Z210.br,Z209.br];rfl)
 | rfl
end Z211
namespace Z212
def F (x0:dN)(x1:aD):aJ:=(call (Z198.R x0) fun v1=>(cond (!v1) (ret ((⟨[],false,(⟨(⟨#[]⟩:aD),0,0,[]⟩:aY),(⟨0,[]⟩:bT),(⟨0,(⟨(⟨#[]⟩:aD),0,0,[]⟩:aY),(⟨(⟨#[]⟩:aD),0,0,[]⟩:aY),(⟨0,[]⟩:bT),(⟨0,[]⟩:bT)⟩:dO)⟩:bk):bk)) (call (Z136.R x1) fun v2=>(cond (!v2) (ret ((⟨[],false,(⟨(⟨#[]⟩:aD),0,0,[]⟩:aY),(⟨0,[]⟩:bT),(⟨0,(⟨(⟨#[]⟩:aD),0,0,[]⟩:aY),(⟨(⟨#[]⟩:aD),0,0,[]⟩:aY),(⟨0,[]⟩:bT),(⟨0,[]⟩:bT)⟩:dO)⟩:bk):bk)) (call (Z132.R x0.aT) fun v3=>(call (Z205.R (x0.bN,x1)) fun v4=>(cond (decide (v4>=0)) (m2 v4 (x0.bN.length:Int) (call (Z207.R (aY.at x0.bN (toNat v4))) fun v5=>(call (Z209.R (x0.bN,x1)) fun v6=>ret ((⟨v3,true,v5,v6.1,(⟨0,(⟨(⟨#[]⟩:aD),0,0,[]⟩:aY),(⟨(⟨#[]⟩:aD),0,0,[]⟩:aY),(⟨0,[]⟩:bT),(⟨0,[]⟩:bT)⟩:dO)⟩:bk):bk)))) (call (Z211.R (x0.bN,x1)) fun v7=>ret ((⟨v3,false,(⟨(⟨#[]⟩:aD),0,0,[]⟩:aY),(⟨0,[]⟩:bT),v7.1⟩:bk):bk)))))))))
def md (a0:aM)(a1:aD):ay:=(cond (!(Z198.md a0)) (⟨[],false,(⟨((⟨#[]⟩:aD):aD),0,0,[]⟩:ah),(⟨0,[]⟩:aN),(⟨0,(⟨((⟨#[]⟩:aD):aD),0,0,[]⟩:ah),(⟨((⟨#[]⟩:aD):aD),0,0,[]⟩:ah),(⟨0,[]⟩:aN),(⟨0,[]⟩:aN)⟩:bV)⟩:ay) (cond (!(Z136.md a1)) (⟨[],false,(⟨((⟨#[]⟩:aD):aD),0,0,[]⟩:ah),(⟨0,[]⟩:aN),(⟨0,(⟨((⟨#[]⟩:aD):aD),0,0,[]⟩:ah),(⟨((⟨#[]⟩:aD):aD),0,0,[]⟩:ah),(⟨0,[]⟩:aN),(⟨0,[]⟩:aN)⟩:bV)⟩:ay) (cond (decide ((Z205.md a0.bN a1)>=0)) (⟨a0.aT,true,(a0.bN.getD (toNat (Z205.md a0.bN a1)) ah.zero),(Z209.md a0.bN a1).1,(⟨0,(⟨((⟨#[]⟩:aD):aD),0,0,[]⟩:ah),(⟨((⟨#[]⟩:aD):aD),0,0,[]⟩:ah),(⟨0,[]⟩:aN),(⟨0,[]⟩:aN)⟩:bV)⟩:ay) (⟨a0.aT,false,(⟨((⟨#[]⟩:aD):aD),0,0,[]⟩:ah),(⟨0,[]⟩:aN),(Z211.md a0.bN a1).1⟩:ay))))
def gd (a0:aM)(a1:aD):Prop:=(aM.Sm (2^21) a0)/\(a1.size<=(2^21))
def R:=RR (p2 gd) (u2 md)
def an {a0 a1}(h:gd a0 a1):R ((aM.r a0),a1)=some (ay.r (md a0 a1)):=aP (a:=(a0,a1)) h
def aU:=CN [.agg sX,pS] (.agg f165) RT.dec R
def bA (a0)(a1)(hg:gd a0 a1):F (aM.r a0) a1=ret (ay.r (md a0 a1)):=by
 obtain ⟨H0,H1⟩:=hg
 unfold F md
 try simp only [SS]
 refine ct (Z198.an H0) ?_
 refine av (fun b:ay=>ret ((ay.r b):bk)) (fun c1=>?_) (fun c1=>?_)
 ·all_goals exact fz
 ·have dc1:=c1
  try simp only [DC] at dc1
  try have tc1:=Z198.tr (by simpa using c1)
  refine ct (Z136.an (le_trans H1 (by decide))) ?_
  refine av (fun b:ay=>ret ((ay.r b):bk)) (fun c2=>?_) (fun c2=>?_)
  ·all_goals exact fz
  ·have dc2:=c2
   try simp only [DC] at dc2
   refine ct (Z132.an H0.1) ?_
   try simp only [SS]
   refine ct (Z205.an H0.2) ?_
   have fv4_:=Z205.fa a0.bN a1
   refine av (fun b:ay=>ret ((ay.r b):bk)) (fun c3=>?_) (fun c3=>?_)
   ·have dc3:=c3
    try simp only [DC] at dc3
    refine ak dt ?_
    refine ak (have:=(H0.2).1;dt) ?_
    refine ct (Z207.an (bM.getD (z:=ah.zero) H0.2 (by first | assumption | omega | (simp (disch:=omega) only [wi];omega) | (simp;omega)))) ?_
    try simp only [SS]
    refine ct (Z209.an H0.2) ?_
    try simp only [SS]
    all_goals exact fz
   ·refine ct (Z211.an ⟨H0.2,H1⟩) ?_
    try simp only [SS]
    all_goals exact fz
def af:cD 139 aU:=W2 51 F mix aE bA (.cons Z198.af (.cons Z136.af (.cons Z132.af (.cons Z205.af (.cons Z207.af (.cons Z209.af (.cons Z211.af .nil))))))) Tryz.func139
def fL {a0:aM}{a1:aD}(hg:gd a0 a1):ay.Sm (2^21) (md a0 a1):=by
 unfold gd at hg;unfold md
 obtain ⟨⟨hc,hl⟩,_⟩:=hg
 have ez:ah.Sm (2^21) ⟨⟨#[]⟩,0,0,[]⟩:=⟨zero_le _,bM.nil⟩
 have pz:aN.Sm (2^21) ⟨0,[]⟩:=bM.nil
 have gz:bV.Sm (2^21) ⟨0,⟨⟨#[]⟩,0,0,[]⟩,⟨⟨#[]⟩,0,0,[]⟩,⟨0,[]⟩,⟨0,[]⟩⟩:=⟨ez,ez,pz,pz⟩
 have he:∀i,ah.Sm (2^21) (a0.bN.getD i ah.zero):=fun i=>bM.vG hl ez
 have hp:∀x,aN.Sm (2^21) (Z209.md a0.bN x).1:=fun x=>Z209.fL hl
 have hga:bV.Sm (2^21) (Z211.md a0.bN a1).1:=Z211.fL ⟨hl,by assumption⟩
 simp only [Bool.cond_eq_ite]
 repeat' split
 all_goals (refine ⟨?_,?_,?_,?_⟩<;>first | exact hc | exact bM.nil | exact he _ | exact hp _ | exact hga | exact ez | exact pz | exact gz)
def br (a0:aM)(a1:aD):md a0 a1=Z98.md a0 a1:=by
 unfold md Z98.md
 first
 | (simp only [Z198.br,Z136.br,Z205.br,Z209.br,Z211.br];done)
 | (simp only [Z198.br,Z136.br,Z205.br,Z209.br,Z211.br];rfl)
 | rfl
end Z212
namespace Z213
def F (x0:cM)(x1:Int)(x2:aD):aJ:=(call (Z202.R (x0,x1)) fun v1=>(cond (decide (v1<0)) (ret ((⟨[],false,(⟨(⟨#[]⟩:aD),0,0,[]⟩:aY),(⟨0,[]⟩:bT),(⟨0,(⟨(⟨#[]⟩:aD),0,0,[]⟩:aY),(⟨(⟨#[]⟩:aD),0,0,[]⟩:aY),(⟨0,[]⟩:bT),(⟨0,[]⟩:bT)⟩:dO)⟩:bk):bk)) (cond (x0.gH==4) (ret ((⟨[],false,(⟨(⟨#[]⟩:aD),0,0,[]⟩:aY),(⟨0,[]⟩:bT),(⟨0,(⟨(⟨#[]⟩:aD),0,0,[]⟩:aY),(⟨(⟨#[]⟩:aD),0,0,[]⟩:aY),(⟨0,[]⟩:bT),(⟨0,[]⟩:bT)⟩:dO)⟩:bk):bk)) (m2 v1 (x0.bI.length:Int) (call (Z212.R ((dN.at x0.bI (toNat v1)),x2)) fun v2=>(cond (x0.gH==1) (ret ((⟨v2.aT,v2.cy,(⟨v2.bp.bw,v2.bp.bQ,(i64.wrap (v2.bp.cw+1)),v2.bp.bK⟩:aY),v2.eE,v2.fU⟩:bk):bk)) (cond (x0.gH==2) (cj (decide ((0:Int)<=(cond (decide ((0:Int)<(i64.wrap ((v2.aT.length:Int) - 1)))) (i64.wrap ((v2.aT.length:Int) - 1)) 0))) (cj (decide ((cond (decide ((0:Int)<(i64.wrap ((v2.aT.length:Int) - 1)))) (i64.wrap ((v2.aT.length:Int) - 1)) 0)<=(v2.aT.length:Int))) (ret ((⟨(List.take (toNat (cond (decide ((0:Int)<(i64.wrap ((v2.aT.length:Int) - 1)))) (i64.wrap ((v2.aT.length:Int) - 1)) 0)) v2.aT),v2.cy,v2.bp,v2.eE,v2.fU⟩:bk):bk)))) (cond (x0.gH==3) (ret ((⟨v2.aT,false,(⟨(⟨#[]⟩:aD),0,0,[]⟩:aY),(⟨0,[]⟩:bT),(⟨0,(⟨(⟨#[]⟩:aD),0,0,[]⟩:aY),(⟨(⟨#[]⟩:aD),0,0,[]⟩:aY),(⟨0,[]⟩:bT),(⟨0,[]⟩:bT)⟩:dO)⟩:bk):bk)) (ret (v2:bk))))))))))
def pats:List ga:=[.agg [.sl 155,aC],.rd (.int .i64),.rd (.str)]
def res:RP:=.agg [.fr 141,.rd (.bool),.rd (.str),.rd (.int .i64),.rd (.int .i64),.fr 9,.rd (.int .i64),.fr 3,.rd (.int .i64),.rd (.str),.rd (.int .i64),.rd (.int .i64),.fr 9,.rd (.str),.rd (.int .i64),.rd (.int .i64),.fr 9,.rd (.int .i64),.fr 3,.rd (.int .i64),.fr 3]
def md (a0:au)(a1:Int)(a2:aD):ay:=(cond (decide ((Z202.md a0 a1)<0)) (⟨[],false,(⟨((⟨#[]⟩:aD):aD),0,0,[]⟩:ah),(⟨0,[]⟩:aN),(⟨0,(⟨((⟨#[]⟩:aD):aD),0,0,[]⟩:ah),(⟨((⟨#[]⟩:aD):aD),0,0,[]⟩:ah),(⟨0,[]⟩:aN),(⟨0,[]⟩:aN)⟩:bV)⟩:ay) (cond (a0.gH==4) (⟨[],false,(⟨((⟨#[]⟩:aD):aD),0,0,[]⟩:ah),(⟨0,[]⟩:aN),(⟨0,(⟨((⟨#[]⟩:aD):aD),0,0,[]⟩:ah),(⟨((⟨#[]⟩:aD):aD),0,0,[]⟩:ah),(⟨0,[]⟩:aN),(⟨0,[]⟩:aN)⟩:bV)⟩:ay) (cond (a0.gH==1) (⟨(Z212.md (a0.bI.getD (toNat (Z202.md a0 a1)) aM.zero) a2).aT,(Z212.md (a0.bI.getD (toNat (Z202.md a0 a1)) aM.zero) a2).cy,(⟨(Z212.md (a0.bI.getD (toNat (Z202.md a0 a1)) aM.zero) a2).bp.bw,(Z212.md (a0.bI.getD (toNat (Z202.md a0 a1)) aM.zero) a2).bp.bQ,(i64.wrap ((Z212.md (a0.bI.getD (toNat (Z202.md a0 a1)) aM.zero) a2).bp.cw+1)),(Z212.md (a0.bI.getD (toNat (Z202.md a0 a1)) aM.zero) a2).bp.bK⟩:ah),(Z212.md (a0.bI.getD (toNat (Z202.md a0 a1)) aM.zero) a2).eE,(Z212.md (a0.bI.getD (toNat (Z202.md a0 a1)) aM.zero) a2).fU⟩:ay) (cond (a0.gH==2) (⟨(List.take (toNat (cond (decide ((0:Int)<(i64.wrap (((Z212.md (a0.bI.getD (toNat (Z202.md a0 a1)) aM.zero) a2).aT.length:Int) - 1)))) (i64.wrap (((Z212.md (a0.bI.getD (toNat (Z202.md a0 a1)) aM.zero) a2).aT.length:Int) - 1)) 0)) (Z212.md (a0.bI.getD (toNat (Z202.md a0 a1)) aM.zero) a2).aT),(Z212.md (a0.bI.getD (toNat (Z202.md a0 a1)) aM.zero) a2).cy,(Z212.md (a0.bI.getD (toNat (Z202.md a0 a1)) aM.zero) a2).bp,(Z212.md (a0.bI.getD (toNat (Z202.md a0 a1)) aM.zero) a2).eE,(Z212.md (a0.bI.getD (toNat (Z202.md a0 a1)) aM.zero) a2).fU⟩:ay) (cond (a0.gH==3) (⟨(Z212.md (a0.bI.getD (toNat (Z202.md a0 a1)) aM.zero) a2).aT,false,(⟨((⟨#[]⟩:aD):aD),0,0,[]⟩:ah),(⟨0,[]⟩:aN),(⟨0,(⟨((⟨#[]⟩:aD):aD),0,0,[]⟩:ah),(⟨((⟨#[]⟩:aD):aD),0,0,[]⟩:ah),(⟨0,[]⟩:aN),(⟨0,[]⟩:aN)⟩:bV)⟩:ay) (Z212.md (a0.bI.getD (toNat (Z202.md a0 a1)) aM.zero) a2))))))
def gd (a0:au)(a1:Int)(a2:aD):Prop:=(au.Sm (2^21) a0)/\(a2.size<=(2^21))
def acc (ls:List L):cM×Int×aD:=((cM.dec ls),((aA 2 ls).headD .hole).toInt,((aA 3 ls).headD .hole).toStr)
def R:(cM×Int×aD)->Option bk:=RR (p3 gd) (u3 md)
def an {a0 a1 a2}(h:gd a0 a1 a2):R ((au.r a0),a1,a2)=some (ay.r (md a0 a1 a2)):=aP (a:=(a0,a1,a2)) h
def aU:fR:=CN pats res acc R
def bA (a0:au)(a1:Int)(a2:aD)(hg:gd a0 a1 a2):F (au.r a0) a1 a2=ret ((ay.r (md a0 a1 a2)):bk):=by
 obtain ⟨H0,H2⟩:=hg
 unfold F md
 try simp only [SS]
 refine ct (Z202.an H0) ?_
 have fv1_:=Z202.fa a0 a1
 refine av (fun b:ay=>ret ((ay.r b):bk)) (fun c1=>?_) (fun c1=>?_)
 ·all_goals exact fz
 ·have dc1:=c1
  try simp only [DC] at dc1
  refine av (fun b:ay=>ret ((ay.r b):bk)) (fun c2=>?_) (fun c2=>?_)
  ·all_goals exact fz
  ·have dc2:=c2
   try simp only [DC] at dc2
   refine ak (have:=(H0).1;dt) ?_
   refine ak (have:=(H0).1;have:=(H0).1;dt) ?_
   refine ct (Z212.an ⟨(bM.getD (z:=aM.zero) H0 (by have:=(H0).1;first | assumption | omega | (simp (disch:=omega) only [wi];omega) | (simp;omega))),H2⟩) ?_
   try simp only [SS]
   refine av (fun b:ay=>ret ((ay.r b):bk)) (fun c3=>?_) (fun c3=>?_)
   ·all_goals exact fz
   ·have dc3:=c3
    try simp only [DC] at dc3
    refine av (fun b:ay=>ret ((ay.r b):bk)) (fun c4=>?_) (fun c4=>?_)
    ·have dc4:=c4
     try simp only [DC] at dc4
     refine ak (have:=((Z212.fL (a0:=a0.bI.getD (toNat (Z202.md a0 a1)) aM.zero) (a1:=a2) ⟨(bM.getD (z:=aM.zero) H0 (by have:=(H0).1;first | assumption | omega | (simp (disch:=omega) only [wi];omega) | (simp;omega))),H2⟩).1).1;have:=(H0).1;dt) ?_
     refine ak (have:=((Z212.fL (a0:=a0.bI.getD (toNat (Z202.md a0 a1)) aM.zero) (a1:=a2) ⟨(bM.getD (z:=aM.zero) H0 (by have:=(H0).1;first | assumption | omega | (simp (disch:=omega) only [wi];omega) | (simp;omega))),H2⟩).1).1;have:=(H0).1;dt) ?_
     all_goals exact fz
    ·refine av (fun b:ay=>ret ((ay.r b):bk)) (fun c5=>?_) (fun c5=>?_)
     ·all_goals exact fz
     ·all_goals exact fz
def af:cD 110 aU:=VT (live:=fun _=>[]) (nt:=54) (run:=fun _ x=>F x.1 x.2.1 x.2.2) mix aE (.cons Z202.af (.cons Z212.af .nil)) .nil Tryz.func110 (by kernel_rfl) (fun _ _=>by kernel_rfl) (fun _ a _ _ hg=>⟨0,bA a.1 a.2.1 a.2.2 hg⟩)
def br (a0:au)(a1:Int)(a2:aD):md a0 a1 a2=Z99.md a0 a1 a2:=by
 unfold md Z99.md
 simp only [Z202.br,Z212.br]
 generalize Z98.md (a0.bI.getD (toNat (Z91.md a0 a1)) aM.zero) a2=A
 have mx:∀n:Int,toNat (cond (decide ((0:Int)<n)) n 0)=toNat n:=by
  intro n
  by_cases h:(0:Int)<n
  ·rw [decide_eq_true h];rfl
  ·rw [decide_eq_false h];simp only [bu];omega
 have e:∀k:Nat,(⟨List.take k A.aT,A.cy,A.bp,A.eE,A.fU⟩:ay)=bif decide ((A.aT.length:Int)>0) then (⟨List.take k A.aT,A.cy,A.bp,A.eE,A.fU⟩:ay) else A:=by
  intro k
  obtain ⟨ch,f,e,p,g⟩:=A
  cases ch with
  | nil=>simp
  | cons x xs=>simp only [List.length_cons];rw [decide_eq_true (by omega)];rfl
 simp only [mx,<-e]
end Z213
namespace Z214
inductive Pt where
 | p0 (a:Int) (b:aD) (c:aB) (d e:Int) (f:aB)
def pid:Pt->Nat
 | .p0 ..=>3
def bY:Pt->List V
 | .p0 a b c d e f=>[.int .i64 a,.str b,.own 0,.sl none 88 c,.int .i64 d,.int .i64 e]
def bX:Pt->List aV
 | .p0 a b c d e f=>[.row 165 f]
def step (J:Pt->aJ):Pt->aJ
 | .p0 a b c d e f=>(cond (decide (e<d)) (m2 e (c.length:Int) (call (Z213.R ((cM.at c (toNat e)),a,b)) fun v1=>(cj (eS (((f.length:Int)+1)*304)) (J (.p0 a b c d (i64.wrap (e+1)) (f++[(bk.enc v1)])))))) (ret (f:aB)))
def start (J:Pt->aJ)(x0:aB)(x1:Int)(x2:aD):aJ:=(cj (decide ((0:Int)<=(cond (decide ((x0.length:Int)<4)) (x0.length:Int) 4))) (cj (decide ((cond (decide ((x0.length:Int)<4)) (x0.length:Int) 4)<=(x0.length:Int))) (J (.p0 x1 x2 (List.take (toNat ((cond (decide ((x0.length:Int)<4)) (x0.length:Int) 4) - 0)) (List.drop 0 x0)) ((List.take (toNat ((cond (decide ((x0.length:Int)<4)) (x0.length:Int) 4) - 0)) (List.drop 0 x0)).length:Int) 0 []))))
def live:Nat->Live:=fun i=>match i with | 3=>[(1,none),(2,none),(7,some 165),(15,none),(16,none),(17,none)] | _=>[]
def md (a0:List au)(a1:Int)(a2:aD):List ay:=((List.take (toNat ((cond (decide ((a0.length:Int)<4)) (a0.length:Int) 4) - 0)) (List.drop 0 a0)).map (fun (y1:au)=>(Z213.md y1 a1 a2)))
def gd (a0:List au)(a1:Int)(a2:aD):Prop:=(bM (2^21) (fun y:au=>au.Sm (2^21) y) a0)/\(a2.size<=(2^21))
def R:=RR (p3 gd) (u3 md)
def an {a0 a1 a2}(h:gd a0 a1 a2):R ((a0.map au.row),a1,a2)=some ((md a0 a1 a2).map ay.row):=aP (a:=(a0,a1,a2)) h
def aU:=CN [pL 88,pI,pS] (oL 165) RT.dec R
def bA (a0)(a1)(a2)(hg:gd a0 a1 a2):∃n,start (iter step n) (a0.map au.row) a1 a2=ret ((md a0 a1 a2).map ay.row):=by
 obtain ⟨H0,H2⟩:=hg
 unfold start md
 try simp only [SS]
 refine dF (have:=(H0).1;dt) ?_
 refine dF (have:=(H0).1;dt) ?_
 have Bh2:(List.take (toNat ((cond (decide ((a0.length:Int)<4)) (a0.length:Int) 4) - 0)) (List.drop 0 a0)).length<=maxLen:=(by
   have:=(H0).1
   have:=((bM.take (k:=(toNat ((cond (decide ((a0.length:Int)<4)) (a0.length:Int) 4) - 0))) (bM.drop (k:=0) H0))).1
   try simp only [maxLen] at *
   omega)
 refine ex_eq (out:=(fun b:List ay=>ret ((b.map ay.row):aB))) (mE (g:=fun (y1:au)=>(Z213.md y1 a1 a2)) (z:=au.zero) (t:=fun (s3:List ay)=>s3)) ?_
 refine dM (p:=Pt.p0 a1 a2 ((List.take (toNat ((cond (decide ((a0.length:Int)<4)) (a0.length:Int) 4) - 0)) (List.drop 0 a0)).map au.row) ((List.take (toNat ((cond (decide ((a0.length:Int)<4)) (a0.length:Int) 4) - 0)) (List.drop 0 a0)).length:Int) 0 ([].map ay.row)) fz ?_
 refine ck (pt:=fun (i1:Nat) (s3:List ay)=>Pt.p0 a1 a2 ((List.take (toNat ((cond (decide ((a0.length:Int)<4)) (a0.length:Int) 4) - 0)) (List.drop 0 a0)).map au.row) ((List.take (toNat ((cond (decide ((a0.length:Int)<4)) (a0.length:Int) 4) - 0)) (List.drop 0 a0)).length:Int) (i1:Int) (s3.map ay.row)) (s:=([]:List ay)) (out:=(fun b:List ay=>ret ((b.map ay.row):aB))) (fun (i1:Nat) (s3:List ay)=>s3.length<=([]:List Int).length+1*i1) (fun J i1 s3 h2 hih2=>?_) (fun s3 hih2=>?_) (by simp)
 ·simp only [step,SS]
  have gr_:=hih2
  try simp only [LN] at gr_
  have bb_:=Bh2
  simp only [maxLen] at bb_
  have:=(H0).1
  have:=((bM.take (k:=(toNat ((cond (decide ((a0.length:Int)<4)) (a0.length:Int) 4) - 0))) (bM.drop (k:=0) H0))).1
  refine bC.yes (by apply decide_eq_true;omega) ?_
  refine bC.yes aI ?_
  refine bC.yes (aK h2) ?_
  refine cr (Z213.an ⟨(bM.getD (z:=au.zero) (bM.take (k:=(toNat ((cond (decide ((a0.length:Int)<4)) (a0.length:Int) 4) - 0))) (bM.drop (k:=0) H0)) h2),H2⟩) ?_
  try simp only [SS]
  refine bC.yes lm ?_
  refine bC.inl (by
    have g_:=hih2
    try simp only [LN] at g_ ⊢
    first | omega | (simp;done) | (simp;omega)) ?_
  rw [aH h2 Bh2]
  all_goals exact fz
 ·simp only [step,SS]
  have gr_:=hih2
  try simp only [LN] at gr_
  have:=(H0).1
  have:=((bM.take (k:=(toNat ((cond (decide ((a0.length:Int)<4)) (a0.length:Int) 4) - 0))) (bM.drop (k:=0) H0))).1
  refine dx (by apply decide_eq_false;omega) ?_
  refine ⟨0,?_⟩
  all_goals exact fz
def af:cD 71 aU:=L3 30 pid bY bX live step start mix aE bA (.cons Z213.af .nil) Tryz.func71
def br (a0:List au)(a1:Int)(a2:aD):md a0 a1 a2=Z100.md a0 a1 a2:=by
 rw [Z100.pO]
 unfold md
 simp only [Z213.br,Int.sub_zero,List.drop_zero]
 congr 1
 by_cases h:(a0.length:Int)<4
 ·rw [decide_eq_true h,bh,List.take_of_length_le (by omega),List.take_of_length_le (by omega)]
 ·rw [decide_eq_false h];rfl
def fL {a0:List au}{a1:Int}{a2:aD}(hg:gd a0 a1 a2):bM (2^21) (fun y:ay=>ay.Sm (2^21) y) (md a0 a1 a2):=by
 rw [br]
 exact Z100.fL hg
end Z214
namespace Z215
def F (x0:aB):aJ:=(call (Z179.R x0) fun v1=>(cond (!v1) (ret (((⟨0,0,0,0,0,0,0,0,(⟨[],0⟩:bE),(⟨[],0⟩:bE),0,(⟨[],0⟩:bE),false⟩:cg),false):cg×Bool)) (call (Z180.R x0) fun v2=>(call (Z129.R v2) fun v3=>ret ((v3,true):cg×Bool)))))
def md (a0:List aa):aF×Bool:=(cond (!(Z179.md a0)) ((⟨0,0,0,0,0,0,0,0,(⟨[],0⟩:aO),(⟨[],0⟩:aO),0,(⟨[],0⟩:aO),false⟩:aF),false) ((Z180.md a0),true))
def gd (a0:List aa):Prop:=(bM (2^21) (fun y:aa=>aa.Sm (2^21) y) a0)
def R:=RR gd md
def an {a0}(h:gd a0):R (a0.map aa.row)=some ((aF.r (md a0).1),(md a0).2):=aP (a:=a0) h
def aU:=CN [pL 141] (.iJ [(true,f138),(false,[fB])]) RT.dec R
def bA (a0)(hg:gd a0):F (a0.map aa.row)=ret ((aF.r (md a0).1),(md a0).2):=by
 unfold gd at hg
 have H0:=hg
 unfold F md
 try simp only [SS]
 refine ct (Z179.an H0) ?_
 refine av (fun b:aF×Bool=>ret (((aF.r b.1),b.2):cg×Bool)) (fun c1=>?_) (fun c1=>?_)
 ·all_goals exact fz
 ·have dc1:=c1
  try simp only [DC] at dc1
  try have tc1:=Z179.tr (by simpa using c1)
  refine ct (Z180.an ⟨H0,(by
    have:=(H0).1
    first | assumption | exact om)⟩) ?_
  try simp only [SS]
  refine ct (Z129.an (Z180.fL (a0:=a0) ⟨H0,(by
    have:=(H0).1
    first | assumption | exact om)⟩)) ?_
  try simp only [SS]
  all_goals exact fz
def af:cD 205 aU:=W1 11 F mix aE bA (.cons Z179.af (.cons Z180.af (.cons Z129.af .nil))) Tryz.func205
def br (a0:List aa):md a0=Z74.md a0:=by
 unfold md Z74.md
 first
 | (simp only [Z179.br];done)
 | (simp only [Z179.br];rfl)
 | rfl
end Z215
namespace Z216
def F (x0:cg)(x1:Int):aJ:=(call (Z135.R (x1,x0.cF,x0.cC)) fun v1=>ret (v1:Bool))
def md (a0:aF)(a1:Int):Bool:=((Z135.md a1 a0.cF a0.cC):Bool)
def gd (a0:aF)(a1:Int):Prop:=True
def R:=RR (p2 gd) (u2 md)
def an {a0 a1}(h:gd a0 a1):R ((aF.r a0),a1)=some (md a0 a1):=aP (a:=(a0,a1)) h
def aU:=CN [.agg fX,pI] oB RT.dec R
def bA (a0)(a1)(hg:gd a0 a1):F (aF.r a0) a1=ret (md a0 a1):=by
 unfold F md
 try simp only [SS]
 refine ct (Z135.an trivial) ?_
 all_goals exact fz
def af:cD 206 aU:=W2 11 F mix aE bA (.cons Z135.af .nil) Tryz.func206
def br (a0:aF)(a1:Int):md a0 a1=Z107.md a0 a1:=by
 unfold md Z107.md
 first
 | (simp only [Z135.br];done)
 | (simp only [Z135.br];rfl)
 | rfl
end Z216
namespace Z217
inductive Pt where
 | p0 (a b c:Int) (d:aB)
def pid:Pt->Nat
 | .p0 ..=>3
def bY:Pt->List V
 | .p0 a b c d=>[.int .i64 a,.int .i64 b,.int .i64 c,.sl none 3 d]
def bX:Pt->List aV
 | .p0 a b c d=>[]
def step (J:Pt->aJ):Pt->aJ
 | .p0 a b c d=>(cond (decide (c>1)) (cond (decide ((mF .i64 b 1)>=c)) (J (.p0 a (i64.wrap (Int.tdiv b 2)) (i64.wrap (Int.tdiv (i64.wrap (c+1)) 2)) d)) (cond ((d.length:Int)==0) (ret ((0,false):Int×Bool)) (cond ((Int.tmod b 2)==0) (cj (decide ((0:Int)<(d.length:Int))) (call (Z192.R (a,(jt d 0))) fun v1=>(cj (decide ((1:Int)<=(d.length:Int))) (cj (decide ((d.length:Int)<=(d.length:Int))) (J (.p0 v1 (i64.wrap (Int.tdiv b 2)) (i64.wrap (Int.tdiv (i64.wrap (c+1)) 2)) (List.take (toNat ((d.length:Int) - 1)) (List.drop 1 d)))))))) (cj (decide ((0:Int)<(d.length:Int))) (call (Z192.R ((jt d 0),a)) fun v2=>(cj (decide ((1:Int)<=(d.length:Int))) (cj (decide ((d.length:Int)<=(d.length:Int))) (J (.p0 v2 (i64.wrap (Int.tdiv b 2)) (i64.wrap (Int.tdiv (i64.wrap (c+1)) 2)) (List.take (toNat ((d.length:Int) - 1)) (List.drop 1 d))))))))))) (cond (decide ((d.length:Int)>0)) (ret ((0,false):Int×Bool)) (ret ((a,true):Int×Bool))))
def start (J:Pt->aJ)(x0 x1 x2:Int)(x3:aB):aJ:=(cond (decide (x2<1)) (ret ((0,false):Int×Bool)) (cond (decide (x2>12)) (ret ((0,false):Int×Bool)) (call (Z135.R (x1,0,(i64.wrap (x2 - 1)))) fun v1=>(cond (!v1) (ret ((0,false):Int×Bool)) (J (.p0 x0 x1 x2 x3))))))
def live:Nat->Live:=fun i=>match i with | 3=>[(0,none),(1,none),(2,none),(3,none)] | _=>[]
def md (a0 a1 a2:Int)(a3:List Int):Int×Bool:=Z108.md a0 a1 a2 a3
def gd (a0 a1 a2:Int)(a3:List Int):Prop:=bM (2^38) (fun y:Int=>True) a3
def R:=RR (p4 gd) (u4 md)
def an {a0 a1 a2 a3}(h:gd a0 a1 a2 a3):R (a0,a1,a2,(a3.map bq))=some ((md a0 a1 a2 a3).1,(md a0 a1 a2 a3).2):=aP (a:=(a0,a1,a2,a3)) h
def aU:=CN [pI,pI,pI,pL 3] (.iJ [(false,[fI]),(false,[fB])]) RT.dec R
def bA (a0)(a1)(a2)(a3)(hg:gd a0 a1 a2 a3):∃n,start (iter step n) a0 a1 a2 (a3.map bq)=ret ((md a0 a1 a2 a3).1,(md a0 a1 a2 a3).2):=by
 have tm:∀b:Int,0<=b->b<=11->Int.tmod b 2=b % 2:=fun b h1 h2=>Int.tmod_eq_emod_of_nonneg h1
 have td:∀b:Int,0<=b->b<=13->i64.wrap (Int.tdiv b 2)=b / 2:=fun b h1 h2=>by
  rw [Int.tdiv_eq_ediv_of_nonneg h1,Go.IntWalk.i64_in _ (by omega)]
 have t1:∀b:Int,0<=b->b<=13->i64.wrap (b+1)=b+1:=fun b h1 h2=>Go.IntWalk.i64_in _ (by omega)
 have xr:∀b:Int,0<=b->b<=11->mF .i64 b 1=if b % 2=0 then b+1 else b - 1:=by
  intro b h1 h2
  have :b=0∨b=1∨b=2∨b=3∨b=4∨b=5∨b=6∨b=7∨b=8∨b=9∨b=10∨b=11:=by omega
  rcases this with h | h | h | h | h | h | h | h | h | h | h | h<;>subst h<;>decide
 have key:∀(k:Nat) (leaf i n:Int) (p:List Int),p.length<=2^38->0<=i->i<n->n<=12->n<=2^k->∃m,iter step m (Pt.p0 leaf i n (p.map bq))=ret ((Z108.tf (k+1) leaf i n p).1,(Z108.tf (k+1) leaf i n p).2):=by
  have fin:∀(leaf:Int) (p:List Int) (J:Pt->aJ),step J (Pt.p0 leaf 0 1 (p.map bq))=ret ((if p.isEmpty then (leaf,true) else (0,false)).1,(if p.isEmpty then (leaf,true) else (0,false)).2):=by
   intro leaf p J
   simp only [step,List.length_map]
   refine cH (by decide) ?_
   cases p with
   | nil=>rfl
   | cons x xs=>exact ak (decide_eq_true (by simp only [List.length_cons];omega)) rfl
  intro k
  induction k with
  | zero=>
   intro leaf i n p hp h1 h2 h3 h4
   have hn:n=1:=by omega
   subst hn
   have hi:i=0:=by omega
   subst hi
   exact ⟨1,(fin leaf p _).trans rfl⟩
  | succ k ih=>
   intro leaf i n p hp h1 h2 h3 h4
   have hk:n<=2*2^k:=by rw [Int.pow_succ] at h4;omega
   unfold Z108.tf
   by_cases hn:n>1
   ·have e1:=tm i h1 (by omega)
    have e2:=td i h1 (by omega)
    have e3:=t1 n (by omega) (by omega)
    have e4:=td (n+1) (by omega) (by omega)
    have e6:=xr i h1 (by omega)
    rw [if_pos hn]
    by_cases hc:i % 2=1∨i+1<n
    ·have hx:decide (mF .i64 i 1>=n)=false:=by
      rw [e6]
      split
      ·exact decide_eq_false (by omega)
      ·exact decide_eq_false (by omega)
     rw [if_pos hc]
     cases p with
     | nil=>
      refine ⟨1,?_⟩
      show step (iter step 0) (Pt.p0 _ _ _ _)=_
      simp only [step,hx]
      exact ak (decide_eq_true (by omega)) (cH rfl (ak rfl rfl))
     | cons x xs=>
      simp only [List.length_cons] at hp
      obtain ⟨m,hm⟩:=ih (if i % 2=1 then Z83.md x leaf else Z83.md leaf x) (i / 2) ((n+1) / 2) xs (by omega) (by omega) (by omega) (by omega) (by omega)
      refine ⟨m+1,?_⟩
      show step (iter step m) (Pt.p0 _ _ _ _)=_
      have ht:List.take (toNat ((xs.length:Int)+1 - 1)) (List.drop 1 ((x::xs).map bq))=xs.map bq:=by
       simp only [List.map_cons,List.drop_succ_cons,List.drop_zero]
       exact List.take_of_length_le (by simp)
      have hl:(((x::xs).map bq).length:Int)=(xs.length:Int)+1:=by simp
      simp only [step,hx,e1,e2,e3,e4,ht,hl]
      refine ak (decide_eq_true (by omega)) (cH rfl (cH (beq_eq_false_iff_ne.2 (by omega)) ?_))
      have hat:jt ((x::xs).map bq) 0=x:=rfl
      rw [hat]
      by_cases hp:i % 2=1
      ·rw [if_pos hp] at hm
       rw [hp]
       refine cH rfl (ak (decide_eq_true (by omega)) (aZ (Z83.md x leaf) (by have:=Z192.an (a0:=x) (a1:=leaf) trivial;rw [Z192.br] at this;exact this) (ak (decide_eq_true (by omega)) (ak (decide_eq_true (by omega)) ?_))))
       rw [if_pos rfl]
       exact hm
      ·rw [if_neg hp] at hm
       have h0:i % 2=0:=by omega
       rw [h0]
       refine ak rfl (ak (decide_eq_true (by omega)) (aZ (Z83.md leaf x) (by have:=Z192.an (a0:=leaf) (a1:=x) trivial;rw [Z192.br] at this;exact this) (ak (decide_eq_true (by omega)) (ak (decide_eq_true (by omega)) ?_))))
       rw [if_neg (by omega)]
       exact hm
    ·have hx:decide (mF .i64 i 1>=n)=true:=by
      rw [e6,if_pos (by omega)]
      exact decide_eq_true (by omega)
     rw [if_neg hc]
     obtain ⟨m,hm⟩:=ih leaf (i / 2) ((n+1) / 2) p hp (by omega) (by omega) (by omega) (by omega)
     refine ⟨m+1,?_⟩
     show step (iter step m) (Pt.p0 _ _ _ _)=_
     simp only [step,hx,e2,e3,e4]
     exact ak (decide_eq_true (by omega)) (ak rfl hm)
   ·have hn1:n=1:=by omega
    subst hn1
    have hi:i=0:=by omega
    subst hi
    refine ⟨1,(fin leaf p _).trans ?_⟩
    rw [if_neg (show ¬(1:Int)>1 by omega)]
 unfold start md Z108.md
 obtain ⟨H3,_⟩:=hg
 by_cases c1:a2<1
 ·refine ⟨0,ak (decide_eq_true c1) ?_⟩
  rw [show Z45.md a2 1 12=false from by simp [Z45.md];omega];rfl
 refine dx (decide_eq_false c1) ?_
 by_cases c2:a2>12
 ·refine ⟨0,ak (decide_eq_true c2) ?_⟩
  rw [show Z45.md a2 1 12=false from by simp [Z45.md];omega];rfl
 refine dx (decide_eq_false c2) ?_
 rw [show Z45.md a2 1 12=true from by simp [Z45.md];omega]
 simp only [Bool.not_true,bu]
 refine eV (Z45.md a1 0 (i64.wrap (a2 - 1))) (by have:=Z135.an (a0:=a1) (a1:=0) (a2:=i64.wrap (a2 - 1)) trivial;rw [Z135.br] at this;exact this) ?_
 cases hd:Z45.md a1 0 (i64.wrap (a2 - 1))
 ·exact ⟨0,rfl⟩
 rw [Go.IntWalk.i64_in _ (by omega)] at hd
 have i2:0<=a1/\a1<=a2 - 1:=by simpa [Z45.md] using hd
 exact key 4 a0 a1 a2 a3 H3 (by omega) (by omega) (by omega) (by omega)
def af:cD 264 aU:=L4 56 pid bY bX live step start mix aE bA (.cons Z135.af (.cons Z192.af .nil)) Tryz.func264
def br (a0 a1 a2:Int)(a3:List Int):md a0 a1 a2 a3=Z108.md a0 a1 a2 a3:=by
 unfold md Z108.md
 first
 | (simp only [Z135.br,Z192.br];done)
 | (simp only [Z135.br,Z192.br];rfl)
 | rfl
end Z217
namespace Z218
def F (x0 x1:Int)(x2:aY)(x3:bT):aJ:=(call (Z189.R x2) fun v1=>(call (Z217.R (v1,x3.eB,x1,x3.bK)) fun v2=>(cond v2.2 (call (Z181.R x2) fun v3=>(cond v3 (call (Z195.R (x1,v2.1)) fun v4=>ret ((v4==x0):Bool)) bf)) bf)))
def md (a0 a1:Int)(a2:ah)(a3:aN):Bool:=(cond ((Z217.md (Z189.md a2) a3.eB a1 a3.bK).2) (cond (Z181.md a2) (((Z195.md a1 ((Z217.md (Z189.md a2) a3.eB a1 a3.bK).1))==a0):Bool) (false:Bool)) (false:Bool))
def gd (a0 a1:Int)(a2:ah)(a3:aN):Prop:=(ah.Sm (2^21) a2)/\(aN.Sm (2^21) a3)
def R:=RR (p4 gd) (u4 md)
def an {a0 a1 a2 a3}(h:gd a0 a1 a2 a3):R (a0,a1,(ah.r a2),(aN.r a3))=some (md a0 a1 a2 a3):=aP (a:=(a0,a1,a2,a3)) h
def aU:=CN [pI,pI,.agg rV,.agg rm] oB RT.dec R
def bA (a0)(a1)(a2)(a3)(hg:gd a0 a1 a2 a3):F a0 a1 (ah.r a2) (aN.r a3)=ret (md a0 a1 a2 a3):=by
 obtain ⟨H2,H3⟩:=hg
 unfold F md
 try simp only [SS]
 refine ct (Z189.an H2) ?_
 refine ct (Z217.an (H3.mono (by decide) (fun x hx=>trivial))) ?_
 refine av ret (fun c1=>?_) (fun _=>rfl)
 refine ct (Z181.an H2) ?_
 refine av ret (fun c2=>?_) (fun _=>rfl)
 refine ct (Z195.an trivial) ?_
 all_goals exact fz
def af:cD 237 aU:=W4 34 F mix aE bA (.cons Z189.af (.cons Z217.af (.cons Z181.af (.cons Z195.af .nil)))) Tryz.func237
def br (a0 a1:Int)(a2:ah)(a3:aN):md a0 a1 a2 a3=Z109.md a0 a1 a2 a3:=by
 unfold md Z109.md
 simp only [Z217.br,Z189.br,Z181.br,Z195.br]
 cases Z75.md a2<;>cases (Z108.md (Z81.md a2) a3.eB a1 a3.bK).2<;>rfl
end Z218
namespace Z219
inductive Pt where
 | p0 (a b:aB) (c d:Int)
def pid:Pt->Nat
 | .p0 ..=>4
def bY:Pt->List V
 | .p0 a b c d=>[.sl none 9 a,.sl none 9 b,.int .i64 c,.int .i64 d]
def bX:Pt->List aV
 | .p0 a b c d=>[]
def step (J:Pt->aJ):Pt->aJ
 | .p0 a b c d=>(cond (decide (d<c)) (m2 d (a.length:Int) (m2 d (b.length:Int) (cond (!((pV a (toNat d))==(pV b (toNat d)))) bf (J (.p0 a b c (i64.wrap (d+1))))))) eu)
def start (J:Pt->aJ)(x0 x1:aB):aJ:=(cond ((x0.length:Int) != (x1.length:Int)) bf (J (.p0 x0 x1 (x0.length:Int) 0)))
def live:Nat->Live:=fun i=>match i with | 4=>[(0,none),(1,none),(12,none),(13,none)] | _=>[]
def md (a0 a1:List aD):Bool:=(bif ((a0.length:Int) != (a1.length:Int)) then (false:Bool) else (eo (S:=Unit) (β:=Bool) (fun (i2:Nat) (s4:Unit)=>(cond (!((a0.getD i2 ⟨#[]⟩)==(a1.getD i2 ⟨#[]⟩))) (.inr (false:Bool)) (.inl ()))) (fun (s4:Unit)=>(true:Bool)) a0.length 0 ()))
def gd (a0 a1:List aD):Prop:=(bM (2^21) (fun y:aD=>y.size<=(2^21)) a0)/\(bM (2^21) (fun y:aD=>y.size<=(2^21)) a1)
def R:=RR (p2 gd) (u2 md)
def an {a0 a1}(h:gd a0 a1):R ((a0.map cG),(a1.map cG))=some (md a0 a1):=aP (a:=(a0,a1)) h
def aU:=CN [pL 9,pL 9] oB RT.dec R
def bA (a0)(a1)(hg:gd a0 a1):∃n,start (iter step n) (a0.map cG) (a1.map cG)=ret (md a0 a1):=by
 obtain ⟨H0,H1⟩:=hg
 unfold start md
 try simp only [SS]
 refine gR ret (fun _=>⟨0,rfl⟩) (fun c1=>?_)
 have dc1:=c1
 try simp only [DC] at dc1
 have Bh3:a0.length<=maxLen:=(by
   have:=(H0).1
   try simp only [maxLen] at *
   omega)
 refine dM (p:=Pt.p0 (a0.map cG) (a1.map cG) (a0.length:Int) 0) fz ?_
 refine ck (pt:=fun (i2:Nat) (s4:Unit)=>Pt.p0 (a0.map cG) (a1.map cG) (a0.length:Int) (i2:Int)) (s:=(():Unit)) (out:=ret) (fun _ _=>True) (fun J i2 s4 h3 hih3=>?_) (fun s4 hih3=>?_) trivial
 ·simp only [step,SS]
  have bb_:=Bh3
  simp only [maxLen] at bb_
  have:=(H0).1
  refine bC.yes (by apply decide_eq_true;omega) ?_
  refine bC.yes aI ?_
  refine bC.yes (aK h3) ?_
  refine bC.yes aI ?_
  refine bC.yes (have:=(H1).1;dt) ?_
  refine bC.bif (fun _=>bC.inr rfl) (fun c5=>?_)
  refine bC.inl trivial ?_
  rw [aH h3 Bh3]
  all_goals exact fz
 ·simp only [step,SS]
  have:=(H0).1
  refine dx (by apply decide_eq_false;omega) ?_
  refine ⟨0,?_⟩
  all_goals exact fz
def af:cD 288 aU:=L2 26 pid bY bX live step start mix aE bA .nil Tryz.func288
def md_eq (a0 a1:List aD):md a0 a1=dY a0 a1:=by
 unfold md
 refine ke (⟨#[]⟩) (fun i s h h2=>?_) (fun s=>rfl)
 simp only [bne,fc,bool_beq,eO]
 cases dY _ _<;>rfl
end Z219
namespace Z220
def F (x0 x1:aY):aJ:=(cond (x0.bw==x1.bw) (cond (x0.bQ==x1.bQ) (cond (x0.cw==x1.cw) (call (Z219.R (x0.bK,x1.bK)) fun v1=>ret (v1:Bool)) bf) bf) bf)
def md (a0 a1:ah):Bool:=(cond (a0.bw==a1.bw) (cond (a0.bQ==a1.bQ) (cond (a0.cw==a1.cw) ((Z219.md a0.bK a1.bK):Bool) (false:Bool)) (false:Bool)) (false:Bool))
def gd (a0 a1:ah):Prop:=(ah.Sm (2^21) a0)/\(ah.Sm (2^21) a1)
def R:=RR (p2 gd) (u2 md)
def an {a0 a1}(h:gd a0 a1):R ((ah.r a0),(ah.r a1))=some (md a0 a1):=aP (a:=(a0,a1)) h
def aU:=CN [.agg rV,.agg rV] oB RT.dec R
def bA (a0)(a1)(hg:gd a0 a1):F (ah.r a0) (ah.r a1)=ret (md a0 a1):=by
 obtain ⟨H0,H1⟩:=hg
 unfold F md
 try simp only [SS]
 refine av ret (fun c1=>?_) (fun _=>rfl)
 refine av ret (fun c2=>?_) (fun _=>rfl)
 refine av ret (fun c3=>?_) (fun _=>rfl)
 refine ct (Z219.an ⟨H0.2,H1.2⟩) ?_
 all_goals exact fz
def af:cD 266 aU:=W2 31 F mix aE bA (.cons Z219.af .nil) Tryz.func266
def md_eq (a0 a1:ah):md a0 a1=dY a0 a1:=by
 unfold md
 cases a0;cases a1
 rw [Bool.eq_iff_iff]
 simp [dh,eO,ah.mk.injEq,Z219.md_eq]
 try (constructor<;>(intro h;simp_all))
end Z220
namespace Z221
def F (x0 x1:bT):aJ:=(cond (x0.eB==x1.eB) (call (Z171.R (x0.bK,x1.bK)) fun v1=>ret (v1:Bool)) bf)
def md (a0 a1:aN):Bool:=(cond (a0.eB==a1.eB) ((Z171.md a0.bK a1.bK):Bool) (false:Bool))
def gd (a0 a1:aN):Prop:=(aN.Sm (2^21) a0)/\(aN.Sm (2^21) a1)
def R:=RR (p2 gd) (u2 md)
def an {a0 a1}(h:gd a0 a1):R ((aN.r a0),(aN.r a1))=some (md a0 a1):=aP (a:=(a0,a1)) h
def aU:=CN [.agg rm,.agg rm] oB RT.dec R
def bA (a0)(a1)(hg:gd a0 a1):F (aN.r a0) (aN.r a1)=ret (md a0 a1):=by
 obtain ⟨H0,H1⟩:=hg
 unfold F md
 try simp only [SS]
 refine av ret (fun c1=>?_) (fun _=>rfl)
 refine ct (Z171.an ⟨(H0.mono (by decide) (fun x hx=>trivial)),(H1.mono (by decide) (fun x hx=>trivial))⟩) ?_
 all_goals exact fz
def af:cD 267 aU:=W2 17 F mix aE bA (.cons Z171.af .nil) Tryz.func267
def md_eq (a0 a1:aN):md a0 a1=dY a0 a1:=by
 unfold md
 cases a0;cases a1
 rw [Bool.eq_iff_iff]
 simp [dh,eO,aN.mk.injEq,Z171.md_eq]
 try (constructor<;>(intro h;simp_all))
end Z221
namespace Z222
def F (x0 x1:dO):aJ:=(cond (x0.eB==x1.eB) (call (Z220.R (x0.aS,x1.aS)) fun v1=>(cond v1 (call (Z220.R (x0.cJ,x1.cJ)) fun v2=>(cond v2 (call (Z221.R (x0.eC,x1.eC)) fun v3=>(cond v3 (call (Z221.R (x0.cX,x1.cX)) fun v4=>ret (v4:Bool)) bf)) bf)) bf)) bf)
def md (a0 a1:bV):Bool:=(cond (a0.eB==a1.eB) (cond (Z220.md a0.aS a1.aS) (cond (Z220.md a0.cJ a1.cJ) (cond (Z221.md a0.eC a1.eC) ((Z221.md a0.cX a1.cX):Bool) (false:Bool)) (false:Bool)) (false:Bool)) (false:Bool))
def gd (a0 a1:bV):Prop:=(bV.Sm (2^21) a0)/\(bV.Sm (2^21) a1)
def R:=RR (p2 gd) (u2 md)
def an {a0 a1}(h:gd a0 a1):R ((bV.r a0),(bV.r a1))=some (md a0 a1):=aP (a:=(a0,a1)) h
def aU:=CN [.agg vQ,.agg vQ] oB RT.dec R
def bA (a0)(a1)(hg:gd a0 a1):F (bV.r a0) (bV.r a1)=ret (md a0 a1):=by
 obtain ⟨H0,H1⟩:=hg
 unfold F md
 try simp only [SS]
 refine av ret (fun c1=>?_) (fun _=>rfl)
 refine ct (Z220.an ⟨H0.1,H1.1⟩) ?_
 refine av ret (fun c2=>?_) (fun _=>rfl)
 refine ct (Z220.an ⟨H0.2.1,H1.2.1⟩) ?_
 refine av ret (fun c3=>?_) (fun _=>rfl)
 refine ct (Z221.an ⟨H0.2.2.1,H1.2.2.1⟩) ?_
 refine av ret (fun c4=>?_) (fun _=>rfl)
 refine ct (Z221.an ⟨H0.2.2.2,H1.2.2.2⟩) ?_
 all_goals exact fz
def af:cD 238 aU:=W2 38 F mix aE bA (.cons Z220.af (.cons Z221.af .nil)) Tryz.func238
def md_eq (a0 a1:bV):md a0 a1=dY a0 a1:=by
 unfold md
 cases a0;cases a1
 rw [Bool.eq_iff_iff]
 simp [dh,eO,bV.mk.injEq,Z220.md_eq,Z221.md_eq]
 try (constructor<;>(intro h;simp_all))
end Z222
namespace Z223
def F (x0:aY):aJ:=(call (Z220.R (x0,(⟨(⟨#[]⟩:aD),0,0,[]⟩:aY))) fun v1=>ret (v1:Bool))
def md (a0:ah):Bool:=((Z220.md a0 (⟨((⟨#[]⟩:aD):aD),0,0,[]⟩:ah)):Bool)
def gd (a0:ah):Prop:=(ah.Sm (2^21) a0)
def R:=RR gd md
def an {a0}(h:gd a0):R (ah.r a0)=some (md a0):=aP (a:=a0) h
def aU:=CN [.agg rV] oB RT.dec R
def bA (a0)(hg:gd a0):F (ah.r a0)=ret (md a0):=by
 unfold gd at hg
 have H0:=hg
 unfold F md
 try simp only [SS]
 refine ct (Z220.an (a1:=(⟨((⟨#[]⟩:aD):aD),0,0,[]⟩:ah)) ⟨H0,⟨(by decide),bM.nil⟩⟩) ?_
 all_goals exact fz
def af:cD 240 aU:=W1 6 F mix aE bA (.cons Z220.af .nil) Tryz.func240
end Z223
namespace Z224
def F (x0:bT):aJ:=(call (Z221.R (x0,(⟨0,[]⟩:bT))) fun v1=>ret (v1:Bool))
def md (a0:aN):Bool:=((Z221.md a0 (⟨0,[]⟩:aN)):Bool)
def gd (a0:aN):Prop:=(aN.Sm (2^21) a0)
def R:=RR gd md
def an {a0}(h:gd a0):R (aN.r a0)=some (md a0):=aP (a:=a0) h
def aU:=CN [.agg rm] oB RT.dec R
def bA (a0)(hg:gd a0):F (aN.r a0)=ret (md a0):=by
 unfold gd at hg
 have H0:=hg
 unfold F md
 try simp only [SS]
 refine ct (Z221.an (a1:=(⟨0,[]⟩:aN)) ⟨H0,bM.nil⟩) ?_
 all_goals exact fz
def af:cD 241 aU:=W1 6 F mix aE bA (.cons Z221.af .nil) Tryz.func241
end Z224
namespace Z225
def F (x0 x1:Int)(x2:aY)(x3:bT)(x4:Int):aJ:=(call (Z135.R (x4,0,(i64.wrap (x1 - 1)))) fun v1=>(cond (!v1) (call (Z223.R x2) fun v2=>(cond v2 (call (Z224.R x3) fun v3=>ret (v3:Bool)) bf)) (call (Z218.R (x0,x1,x2,x3)) fun v4=>(cond v4 (ret ((x3.eB==x4):Bool)) bf))))
def md (a0 a1:Int)(a2:ah)(a3:aN)(a4:Int):Bool:=(cond (!(Z135.md a4 0 (i64.wrap (a1 - 1)))) (cond (Z223.md a2) ((Z224.md a3):Bool) (false:Bool)) (cond (Z218.md a0 a1 a2 a3) ((a3.eB==a4):Bool) (false:Bool)))
def gd (a0 a1:Int)(a2:ah)(a3:aN)(a4:Int):Prop:=(ah.Sm (2^21) a2)/\(aN.Sm (2^21) a3)
def R:=RR (p5 gd) (u5 md)
def an {a0 a1 a2 a3 a4}(h:gd a0 a1 a2 a3 a4):R (a0,a1,(ah.r a2),(aN.r a3),a4)=some (md a0 a1 a2 a3 a4):=aP (a:=(a0,a1,a2,a3,a4)) h
def aU:=CN [pI,pI,.agg rV,.agg rm,pI] oB RT.dec R
def bA (a0)(a1)(a2)(a3)(a4)(hg:gd a0 a1 a2 a3 a4):F a0 a1 (ah.r a2) (aN.r a3) a4=ret (md a0 a1 a2 a3 a4):=by
 obtain ⟨H2,H3⟩:=hg
 unfold F md
 try simp only [SS]
 refine ct (Z135.an trivial) ?_
 refine av ret (fun c1=>?_) (fun c1=>?_)
 ·refine ct (Z223.an H2) ?_
  refine av ret (fun c2=>?_) (fun _=>rfl)
  refine ct (Z224.an H3) ?_
  all_goals exact fz
 ·refine ct (Z218.an ⟨H2,H3⟩) ?_
  refine av ret (fun c3=>?_) (fun _=>rfl)
  all_goals exact fz
def af:cD 268 aU:=W5 33 F mix aE bA (.cons Z135.af (.cons Z223.af (.cons Z224.af (.cons Z218.af .nil)))) Tryz.func268
end Z225
namespace Z226
def F (x0 x1:Int)(x2:aD)(x3:dO):aJ:=(call (Z136.R x2) fun v1=>(cond (!v1) bf (call (Z135.R (x3.eB,0,x1)) fun v2=>(cond (!v2) bf (cond (x1==0) (call (Z196.R []) fun v3=>(cond (x0 != v3) bf (call (Z225.R (x0,x1,x3.aS,x3.eC,(i64.wrap (x3.eB - 1)))) fun v4=>(cond (!v4) bf (call (Z225.R (x0,x1,x3.cJ,x3.cX,x3.eB)) fun v5=>(cond (!v5) bf (cond (x3.eB==0) (cond (x3.eB==x1) eu (call (Z184.R (x3.cJ.bw,x2)) fun v6=>ret ((decide (v6>0)):Bool))) (call (Z184.R (x3.aS.bw,x2)) fun v7=>(cond (decide (v7<0)) (cond (x3.eB==x1) eu (call (Z184.R (x3.cJ.bw,x2)) fun v8=>ret ((decide (v8>0)):Bool))) bf))))))))) (call (Z225.R (x0,x1,x3.aS,x3.eC,(i64.wrap (x3.eB - 1)))) fun v9=>(cond (!v9) bf (call (Z225.R (x0,x1,x3.cJ,x3.cX,x3.eB)) fun v10=>(cond (!v10) bf (cond (x3.eB==0) (cond (x3.eB==x1) eu (call (Z184.R (x3.cJ.bw,x2)) fun v11=>ret ((decide (v11>0)):Bool))) (call (Z184.R (x3.aS.bw,x2)) fun v12=>(cond (decide (v12<0)) (cond (x3.eB==x1) eu (call (Z184.R (x3.cJ.bw,x2)) fun v13=>ret ((decide (v13>0)):Bool))) bf))))))))))))
def md (a0 a1:Int)(a2:aD)(a3:bV):Bool:=(cond (!(Z136.md a2)) (false:Bool) (cond (!(Z135.md a3.eB 0 a1)) (false:Bool) (cond (a1==0) (cond (a0 != (Z196.md [])) (false:Bool) (cond (!(Z225.md a0 a1 a3.aS a3.eC (i64.wrap (a3.eB - 1)))) (false:Bool) (cond (!(Z225.md a0 a1 a3.cJ a3.cX a3.eB)) (false:Bool) (cond (a3.eB==0) (cond (a3.eB==a1) (true:Bool) ((decide ((Z184.md a3.cJ.bw a2)>0)):Bool)) (cond (decide ((Z184.md a3.aS.bw a2)<0)) (cond (a3.eB==a1) (true:Bool) ((decide ((Z184.md a3.cJ.bw a2)>0)):Bool)) (false:Bool)))))) (cond (!(Z225.md a0 a1 a3.aS a3.eC (i64.wrap (a3.eB - 1)))) (false:Bool) (cond (!(Z225.md a0 a1 a3.cJ a3.cX a3.eB)) (false:Bool) (cond (a3.eB==0) (cond (a3.eB==a1) (true:Bool) ((decide ((Z184.md a3.cJ.bw a2)>0)):Bool)) (cond (decide ((Z184.md a3.aS.bw a2)<0)) (cond (a3.eB==a1) (true:Bool) ((decide ((Z184.md a3.cJ.bw a2)>0)):Bool)) (false:Bool))))))))
def gd (a0 a1:Int)(a2:aD)(a3:bV):Prop:=(a2.size<=(2^21))/\(bV.Sm (2^21) a3)
def R:=RR (p4 gd) (u4 md)
def an {a0 a1 a2 a3}(h:gd a0 a1 a2 a3):R (a0,a1,a2,(bV.r a3))=some (md a0 a1 a2 a3):=aP (a:=(a0,a1,a2,a3)) h
def aU:=CN [pI,pI,pS,.agg vQ] oB RT.dec R
def bA (a0)(a1)(a2)(a3)(hg:gd a0 a1 a2 a3):F a0 a1 a2 (bV.r a3)=ret (md a0 a1 a2 a3):=by
 obtain ⟨H2,H3⟩:=hg
 unfold F md
 try simp only [SS]
 refine ct (Z136.an (le_trans H2 (by decide))) ?_
 refine av ret (fun _=>rfl) (fun c1=>?_)
 refine ct (Z135.an trivial) ?_
 refine av ret (fun _=>rfl) (fun c2=>?_)
 refine av ret (fun c3=>?_) (fun c3=>?_)
 ·refine aZ (Z196.md []) (rq (Z196.an (a0:=[]) bM.nil)) ?_
  refine av ret (fun _=>rfl) (fun c4=>?_)
  refine ct (Z225.an ⟨H3.1,H3.2.2.1⟩) ?_
  refine av ret (fun _=>rfl) (fun c5=>?_)
  refine ct (Z225.an ⟨H3.2.1,H3.2.2.2⟩) ?_
  refine av ret (fun _=>rfl) (fun c6=>?_)
  refine av ret (fun c7=>?_) (fun c7=>?_)
  ·refine av ret (fun _=>rfl) (fun c8=>?_)
   refine ct (Z184.an trivial) ?_
   all_goals exact fz
  ·refine ct (Z184.an trivial) ?_
   refine av ret (fun c9=>?_) (fun _=>rfl)
   refine av ret (fun _=>rfl) (fun c10=>?_)
   refine ct (Z184.an trivial) ?_
   all_goals exact fz
 ·refine ct (Z225.an ⟨H3.1,H3.2.2.1⟩) ?_
  refine av ret (fun _=>rfl) (fun c11=>?_)
  refine ct (Z225.an ⟨H3.2.1,H3.2.2.2⟩) ?_
  refine av ret (fun _=>rfl) (fun c12=>?_)
  refine av ret (fun c13=>?_) (fun c13=>?_)
  ·refine av ret (fun _=>rfl) (fun c14=>?_)
   refine ct (Z184.an trivial) ?_
   all_goals exact fz
  ·refine ct (Z184.an trivial) ?_
   refine av ret (fun c15=>?_) (fun _=>rfl)
   refine av ret (fun _=>rfl) (fun c16=>?_)
   refine ct (Z184.an trivial) ?_
   all_goals exact fz
def af:cD 239 aU:=W4 76 F mix aE bA (.cons Z136.af (.cons Z135.af (.cons Z196.af (.cons Z225.af (.cons Z184.af .nil))))) Tryz.func239
def BR (a0 a1:Int)(a2:aD)(a3:bV)(hc:a1<=1000):md a0 a1 a2 a3=Z115.md a0 a1 a2 a3:=by
 unfold md Z115.md Z225.md Z114.md Z223.md Z224.md
 simp only [Z136.br,Z135.br,Z196.br,Z218.br,Z220.md_eq,Z111.md_eq,Z221.md_eq,Z112.md_eq,Z184.br,Z76.lt,Z76.gt]
 cases Z46.md a2
 ·rfl
 cases hr:Z45.md a3.eB 0 a1
 ·rfl
 have hi:0<=a3.eB/\a3.eB<=a1:=by simpa [Z45.md] using hr
 have w1:i64.wrap (a1 - 1)=a1 - 1:=Go.IntWalk.i64_in _ (by omega)
 have w2:i64.wrap (a3.eB - 1)=a3.eB - 1:=Go.IntWalk.i64_in _ (by omega)
 have e1:Z45.md (a3.eB - 1) 0 (a1 - 1)=!(a3.eB==0):=by
  rw [Bool.eq_iff_iff];simp [Z45.md];omega
 have e2:Z45.md a3.eB 0 (a1 - 1)=!(a3.eB==a1):=by
  rw [Bool.eq_iff_iff];simp [Z45.md];omega
 simp only [w1,w2,e1,e2,bne]
 generalize (a3.eB==0)=z
 generalize (a3.eB==a1)=e
 generalize (a1==0)=c0
 generalize (a0==Z87.md [])=rt
 generalize dY a3.aS _=x1
 generalize dY a3.eC _=x2
 generalize dY a3.cJ _=x3
 generalize dY a3.cX _=x4
 generalize Z109.md a0 a1 a3.aS a3.eC=k1
 generalize Z109.md a0 a1 a3.cJ a3.cX=k2
 generalize (a3.eC.eB==a3.eB - 1)=p1
 generalize (a3.cX.eB==a3.eB)=p2
 generalize (Z76.md a3.aS.bw a2 == -1)=m1
 generalize (Z76.md a3.cJ.bw a2==1)=m2
 cases c0<;>cases rt<;>cases z<;>cases e<;>cases x1<;>cases x2<;>cases k1<;>cases p1<;>cases m1<;>first | rfl | (cases x3<;>cases x4<;>rfl) | (cases k2<;>cases p2<;>cases m2<;>rfl)
end Z226
namespace Z227
def F (x0:cg)(x1:aD)(x2:bk):aJ:=(cond x2.cy (cond (x2.bp.bw==x1) (call (Z218.R (x0.cW,x0.cu,x2.bp,x2.eE)) fun v1=>(cond v1 (call (Z222.R (x2.fU,(⟨0,(⟨(⟨#[]⟩:aD),0,0,[]⟩:aY),(⟨(⟨#[]⟩:aD),0,0,[]⟩:aY),(⟨0,[]⟩:bT),(⟨0,[]⟩:bT)⟩:dO))) fun v2=>ret (v2:Bool)) bf)) bf) (call (Z226.R (x0.cW,x0.cu,x1,x2.fU)) fun v3=>(cond v3 (call (Z223.R x2.bp) fun v4=>(cond v4 (call (Z224.R x2.eE) fun v5=>ret (v5:Bool)) bf)) bf)))
def md (a0:aF)(a1:aD)(a2:ay):Bool:=(cond a2.cy (cond (a2.bp.bw==a1) (cond (Z218.md a0.cW a0.cu a2.bp a2.eE) ((Z222.md a2.fU (⟨0,(⟨((⟨#[]⟩:aD):aD),0,0,[]⟩:ah),(⟨((⟨#[]⟩:aD):aD),0,0,[]⟩:ah),(⟨0,[]⟩:aN),(⟨0,[]⟩:aN)⟩:bV)):Bool) (false:Bool)) (false:Bool)) (cond (Z226.md a0.cW a0.cu a1 a2.fU) (cond (Z223.md a2.bp) ((Z224.md a2.eE):Bool) (false:Bool)) (false:Bool)))
def gd (a0:aF)(a1:aD)(a2:ay):Prop:=(a1.size<=(2^21))/\(ay.Sm (2^21) a2)
def R:=RR (p3 gd) (u3 md)
def an {a0 a1 a2}(h:gd a0 a1 a2):R ((aF.r a0),a1,(ay.r a2))=some (md a0 a1 a2):=aP (a:=(a0,a1,a2)) h
def aU:=CN [.agg fX,pS,.agg yu] oB RT.dec R
def bA (a0)(a1)(a2)(hg:gd a0 a1 a2):F (aF.r a0) a1 (ay.r a2)=ret (md a0 a1 a2):=by
 obtain ⟨H1,H2⟩:=hg
 unfold F md
 try simp only [SS]
 refine av ret (fun c1=>?_) (fun c1=>?_)
 ·refine av ret (fun c2=>?_) (fun _=>rfl)
  refine ct (Z218.an ⟨H2.2.1,H2.2.2.1⟩) ?_
  refine av ret (fun c3=>?_) (fun _=>rfl)
  refine ct (Z222.an (a1:=(⟨0,(⟨((⟨#[]⟩:aD):aD),0,0,[]⟩:ah),(⟨((⟨#[]⟩:aD):aD),0,0,[]⟩:ah),(⟨0,[]⟩:aN),(⟨0,[]⟩:aN)⟩:bV)) ⟨H2.2.2.2,⟨⟨(by decide),bM.nil⟩,⟨(by decide),bM.nil⟩,bM.nil,bM.nil⟩⟩) ?_
  all_goals exact fz
 ·refine ct (Z226.an ⟨H1,H2.2.2.2⟩) ?_
  refine av ret (fun c4=>?_) (fun _=>rfl)
  refine ct (Z223.an H2.2.1) ?_
  refine av ret (fun c5=>?_) (fun _=>rfl)
  refine ct (Z224.an H2.2.2.1) ?_
  all_goals exact fz
def af:cD 207 aU:=W3 49 F mix aE bA (.cons Z218.af (.cons Z222.af (.cons Z226.af (.cons Z223.af (.cons Z224.af .nil))))) Tryz.func207
def BR (a0:aF)(a1:aD)(a2:ay)(hc:a0.cu<=1000):md a0 a1 a2=Z116.md a0 a1 a2:=by
 unfold md Z116.md Z114.md Z223.md Z224.md
 simp only [Z226.BR _ _ _ _ hc,Z218.br,Z220.md_eq,Z111.md_eq,Z221.md_eq,Z112.md_eq,Z222.md_eq,Z113.md_eq]
end Z227
namespace Z228
def F (x0:Int)(x1:aD)(x2:bk)(x3:Int):aJ:=(call (Z215.R x2.aT) fun v1=>(cond (!v1.2) (ret (3:Int)) (cond (v1.1.bz != x0) (ret (2:Int)) (call (Z216.R (v1.1,x3)) fun v2=>(cond (!v2) (ret (4:Int)) (cond v1.1.bF (ret (5:Int)) (call (Z227.R (v1.1,x1,x2)) fun v3=>(cond (!v3) (ret (6:Int)) (ret (1:Int))))))))))
def md (a0:Int)(a1:aD)(a2:ay)(a3:Int):Int:=(cond (!(Z215.md a2.aT).2) (3:Int) (cond ((Z215.md a2.aT).1.bz != a0) (2:Int) (cond (!(Z216.md ((Z215.md a2.aT).1) a3)) (4:Int) (cond ((Z215.md a2.aT).1.bF) (5:Int) (cond (!(Z227.md ((Z215.md a2.aT).1) a1 a2)) (6:Int) (1:Int))))))
def gd (a0:Int)(a1:aD)(a2:ay)(a3:Int):Prop:=(a1.size<=(2^21))/\(ay.Sm (2^21) a2)
def R:=RR (p4 gd) (u4 md)
def an {a0 a1 a2 a3}(h:gd a0 a1 a2 a3):R (a0,a1,(ay.r a2),a3)=some (md a0 a1 a2 a3):=aP (a:=(a0,a1,a2,a3)) h
def aU:=CN [pI,pS,.agg yu,pI] oI RT.dec R
def bA (a0)(a1)(a2)(a3)(hg:gd a0 a1 a2 a3):F a0 a1 (ay.r a2) a3=ret (md a0 a1 a2 a3):=by
 obtain ⟨H1,H2⟩:=hg
 unfold F md
 try simp only [SS]
 refine ct (Z215.an H2.1) ?_
 try simp only [SS]
 refine av ret (fun _=>rfl) (fun c1=>?_)
 refine av ret (fun _=>rfl) (fun c2=>?_)
 refine ct (Z216.an trivial) ?_
 refine av ret (fun _=>rfl) (fun c3=>?_)
 refine av ret (fun _=>rfl) (fun c4=>?_)
 refine ct (Z227.an ⟨H1,H2⟩) ?_
 refine av ret (fun _=>rfl) (fun _=>rfl)
def af:cD 168 aU:=W4 39 F mix aE bA (.cons Z215.af (.cons Z216.af (.cons Z227.af .nil))) Tryz.func168
def br (a0:Int)(a1:aD)(a2:ay)(a3:Int):md a0 a1 a2 a3=Z117.md a0 a1 a2 a3:=by
 unfold md Z117.md
 simp only [Z215.br,Z216.br]
 cases hok:(Z74.md a2.aT).2
 ·rfl
 ·have:=Z51.tr (Z74.head hok).2.2
  rw [Z227.BR _ _ _ (by omega)]
end Z228
namespace Z229
def F (x0:aB)(x1:List L):aJ:=(cond (decide ((x0.length:Int)>0)) (cj (decide ((0:Int)<(x0.length:Int))) (ret (((aR.at x0 0).aq.bz==(gm x1)):Bool))) bf)
def pats:List ga:=[.rd (.sl 141),.ptr [aC]]
def res:RP:=.one (.rd (.bool))
def md (a0:List aa)(a1:Int):Bool:=(cond (decide ((a0.length:Int)>0)) ((((a0.getD 0 aa.zero).aq).bz==a1):Bool) (false:Bool))
def gd (a0:List aa)(a1:Int):Prop:=(bM (2^21) (fun y:aa=>aa.Sm (2^21) y) a0)
def acc (ls:List L):aB×Int:=((ls.headD .hole).aQ,(gm (cP 1 (aA 1 ls))))
def R:(aB×Int)->Option Bool:=RR (p2 gd) (u2 md)
def an {a0 a1}(h:gd a0 a1):R ((a0.map aa.row),a1)=some (md a0 a1):=aP (a:=(a0,a1)) h
def aU:fR:=CN pats res acc R
def bA (a0:List aa)(a1:Int)(p1:List L)(e1:a1=(gm p1))(hg:gd a0 a1):F (a0.map aa.row) p1=ret ((md a0 a1):Bool):=by
 unfold gd at hg
 have H0:=hg
 unfold F md
 try simp only [SS,<-e1]
 refine av ret (fun c1=>?_) (fun _=>rfl)
 have dc1:=c1
 try simp only [DC] at dc1
 refine ak (have:=(H0).1;dt) ?_
 all_goals exact fz
def ox (ls:List L)(a:List aa×Int)(e:acc ls=Im.im a)(hg:(p2 gd) a):∃n:Nat,F ((ls.headD .hole).aQ) (cP 1 (aA 1 ls))=ret (Im.im ((u2 md) a)):=by
 have e0:(a.1.map aa.row)=(ls.headD .hole).aQ:=(congrArg (fun x=>x.1) e.symm)
 have hn:=bA a.1 a.2 (cP 1 (aA 1 ls)) (congrArg (fun x=>x.2) e.symm) hg
 refine ⟨0,?_⟩
 rw [<-e0]
 exact hn
def af:cD 246 aU:=VP (live:=fun _=>[]) (nt:=16) (accr:=fun ls=>((ls.headD .hole).aQ,(cP 1 (aA 1 ls)))) (run:=fun _ x=>F x.1 x.2) mix aE .nil Tryz.func246 (by kernel_rfl) (fun _ _=>by kernel_rfl) (fun ls a _ e hg=>ox ls a e hg)
end Z229
namespace Z230
inductive Pt where
 | p0 (a:aB) (b:List L) (c d:Int)
def pid:Pt->Nat
 | .p0 ..=>2
def bY:Pt->List V
 | .p0 a b c d=>[.sl none 134 a,.fn 246 [.dH none [aC] b 0],.int .i64 c,.int .i64 d]
def bX:Pt->List aV
 | .p0 a b c d=>[]
def step (J:Pt->aJ):Pt->aJ
 | .p0 a b c d=>(cond (decide (d<c)) (m2 d (a.length:Int) (call (Z229.R ((oq a (toNat d)),(gm b))) fun v1=>(cond v1 (ret (d:Int)) (J (.p0 a b c (i64.wrap (d+1))))))) (ret ((-1):Int)))
def start (J:Pt->aJ)(x0:aB)(x1:List L):aJ:=J (.p0 x0 x1 (x0.length:Int) 0)
def live:Nat->Live:=fun i=>match i with | 2=>[(0,none),(1,none),(7,none),(8,none)] | _=>[]
def pats:List ga:=[.rd (.sl 134),.fn 246 [[aC]]]
def res:RP:=.one (.rd (.int .i64))
abbrev E:Env:={ T:=assoc jV,G:=dw [(246,Z229.aU)],nt:=19 }
def step_eq (I:cB)(p:Pt):cR E live I (pid p) (bL Tryz.f245) (fm (live (pid p)) (bY p) (bX p)) (cA E Tryz.f245 res)=step (fun q=>I (pid q) (bY q) (bX q)) p:=by
 cases p<;>kernel_rfl
def start_eq (I:cB)(ls:List L):eL E live I (bL Tryz.f245) (cU pats ls) (cA E Tryz.f245 res)=start (fun q=>I (pid q) (bY q) (bX q)) (ls.headD .hole).aQ (cP 1 (aA 1 ls)):=by kernel_rfl
def run_eq (n:Nat)(ls:List L):eG E live Tryz.f245 res n (cU pats ls)=start (iter step n) (ls.headD .hole).aQ (cP 1 (aA 1 ls)):=cq (id:=pid) (vs:=bY) (hs:=bX) (step:=step) (start:=fun J=>start J (ls.headD .hole).aQ (cP 1 (aA 1 ls))) step_eq (fun I=>start_eq I ls) n
def md (a0:List (List aa))(a1:Int):Int:=(dD (S:=Unit) (β:=Int) (fun (i1:Nat) (y1:List aa) (s3:Unit)=>(cond (Z229.md y1 a1) (.inr ((i1:Int):Int)) (.inl ()))) (fun (s3:Unit)=>((-1):Int)) 0 a0 ())
def gd (a0:List (List aa))(a1:Int):Prop:=(bM (2^21) (fun y:List aa=>bM (2^21) (fun y:aa=>aa.Sm (2^21) y) y) a0)
def acc (ls:List L):aB×Int:=((ls.headD .hole).aQ,(gm (cP 1 (aA 1 ls))))
def R:(aB×Int)->Option Int:=RR (p2 gd) (u2 md)
def an {a0 a1}(h:gd a0 a1):R ((a0.map (dI aa.row)),a1)=some (md a0 a1):=aP (a:=(a0,a1)) h
def aU:fR:=CN pats res acc R
def bA (a0:List (List aa))(a1:Int)(p1:List L)(e1:a1=(gm p1))(hg:gd a0 a1):∃n,start (iter step n) (a0.map (dI aa.row)) p1=ret ((md a0 a1):Int):=by
 unfold gd at hg
 have H0:=hg
 unfold start md
 try simp only [SS,<-e1]
 have Bh2:a0.length<=maxLen:=(by
   have:=(H0).1
   try simp only [maxLen] at *
   omega)
 refine ex_eq (out:=ret) (cV (z:=[])) ?_
 refine dM (p:=Pt.p0 (a0.map (dI aa.row)) p1 (a0.length:Int) 0) fz ?_
 refine ck (pt:=fun (i1:Nat) (s3:Unit)=>Pt.p0 (a0.map (dI aa.row)) p1 (a0.length:Int) (i1:Int)) (s:=(():Unit)) (out:=ret) (fun _ _=>True) (fun J i1 s3 h2 hih2=>?_) (fun s3 hih2=>?_) trivial
 ·simp only [step,SS,<-e1]
  have bb_:=Bh2
  simp only [maxLen] at bb_
  have:=(H0).1
  refine bC.yes (by apply decide_eq_true;omega) ?_
  refine bC.yes aI ?_
  refine bC.yes (aK h2) ?_
  refine cr (Z229.an (bM.getD (z:=[]) H0 h2)) ?_
  refine bC.bif (fun c4=>?_) (fun c4=>?_)
  ·refine bC.inr ?_
   all_goals exact fz
  ·refine bC.inl trivial ?_
   rw [aH h2 Bh2]
   all_goals exact fz
 ·simp only [step,SS,<-e1]
  have:=(H0).1
  refine dx (by apply decide_eq_false;omega) ?_
  refine ⟨0,?_⟩
  all_goals exact fz
def ox (ls:List L)(a:List (List aa)×Int)(e:acc ls=Im.im a)(hg:(p2 gd) a):∃n:Nat,start (iter step n) ((ls.headD .hole).aQ) (cP 1 (aA 1 ls))=ret (Im.im ((u2 md) a)):=by
 have e0:(a.1.map (dI aa.row))=(ls.headD .hole).aQ:=(congrArg (fun x=>x.1) e.symm)
 obtain ⟨n,hn⟩:=bA a.1 a.2 (cP 1 (aA 1 ls)) (congrArg (fun x=>x.2) e.symm) hg
 refine ⟨n,?_⟩
 rw [<-e0]
 exact hn
def af:cD 245 aU:=VP (accr:=fun ls=>((ls.headD .hole).aQ,(cP 1 (aA 1 ls)))) (run:=fun n x=>start (iter step n) x.1 x.2) mix aE (.cons Z229.af .nil) Tryz.func245 (by kernel_rfl) run_eq (fun ls a _ e hg=>ox ls a e hg)
def fa (a0:List (List aa))(a1:Int):-1<=md a0 a1/\md a0 a1<(a0.length:Int):=by
 unfold md
 refine gi ?_ _ _
 all_goals
  intro i x s b h
  revert h
  simp only [Bool.cond_eq_ite]
  repeat' split
  all_goals (intro h;first | (cases h;rfl) | cases h)
def idx_eq (a0:List (List aa))(a1:Int):md a0 a1=iT (fun y=>Z229.md y a1) 0 a0:=by
 unfold md
 exact gO
end Z230
namespace Z231
def F (x0:bn)(x1:Int):aJ:=(call (Z230.R (x0.aG,x1)) fun v1=>ret (v1:Int))
def md (a0:aj)(a1:Int):Int:=((Z230.md a0.aG a1):Int)
def gd (a0:aj)(a1:Int):Prop:=(aj.Sm (2^21) a0)
def R:=RR (p2 gd) (u2 md)
def an {a0 a1}(h:gd a0 a1):R ((aj.r a0),a1)=some (md a0 a1):=aP (a:=(a0,a1)) h
def aU:=CN [.agg rT,pI] oI RT.dec R
def bA (a0)(a1)(hg:gd a0 a1):F (aj.r a0) a1=ret (md a0 a1):=by
 unfold gd at hg
 have H0:=hg
 unfold F md
 try simp only [SS]
 refine ct (Z230.an H0.1) ?_
 have fv1_:=Z230.fa a0.aG a1
 all_goals exact fz
def af:cD 210 aU:=W2 9 F mix aE bA (.cons Z230.af .nil) Tryz.func210
def fa (a0:aj)(a1:Int):-1<=md a0 a1/\md a0 a1<(a0.aG.length:Int):=by unfold md;exact Z230.fa _ _
def br (a0:aj)(a1:Int):md a0 a1=Z101.md a0 a1:=by
 unfold md Z101.md
 rw [Z230.idx_eq]
 symm
 refine lg (fun i x s=>?_) _ _ _
 unfold Z229.md
 cases decide ((x.length:Int)>0)<;>first | rfl | (cases ((x.getD 0 aa.zero).aq).bz==a1<;>rfl)
end Z231
namespace Z232
def F (x0 x1:cg):aJ:=(call (Z172.R (x0.bR,x1.bR)) fun v1=>(cond v1 (call (Z172.R (x0.bD,x1.bD)) fun v2=>(cond v2 (call (Z172.R (x0.bB,x1.bB)) fun v3=>(cond v3 (call (Z157.R x0) fun v4=>(call (Z157.R x1) fun v5=>(call (Z171.R (v4,v5)) fun v6=>ret (v6:Bool)))) bf)) bf)) bf))
def md (a0 a1:aF):Bool:=(cond (Z172.md a0.bR a1.bR) (cond (Z172.md a0.bD a1.bD) (cond (Z172.md a0.bB a1.bB) ((Z171.md (Z157.md a0) (Z157.md a1)):Bool) (false:Bool)) (false:Bool)) (false:Bool))
def gd (a0 a1:aF):Prop:=(aF.Sm (2^21) a0)/\(aF.Sm (2^21) a1)
def R:=RR (p2 gd) (u2 md)
def an {a0 a1}(h:gd a0 a1):R ((aF.r a0),(aF.r a1))=some (md a0 a1):=aP (a:=(a0,a1)) h
def aU:=CN [.agg fX,.agg fX] oB RT.dec R
def bA (a0)(a1)(hg:gd a0 a1):F (aF.r a0) (aF.r a1)=ret (md a0 a1):=by
 obtain ⟨H0,H1⟩:=hg
 unfold F md
 try simp only [SS]
 refine ct (Z172.an ⟨H0.1,H1.1⟩) ?_
 refine av ret (fun c1=>?_) (fun _=>rfl)
 refine ct (Z172.an ⟨H0.2.1,H1.2.1⟩) ?_
 refine av ret (fun c2=>?_) (fun _=>rfl)
 refine ct (Z172.an ⟨H0.2.2,H1.2.2⟩) ?_
 refine av ret (fun c3=>?_) (fun _=>rfl)
 refine ct (Z157.an H0) ?_
 try simp only [SS]
 refine ct (Z157.an H1) ?_
 try simp only [SS]
 refine ct (Z171.an ⟨⟨(have:=Z157.len a0;have:=(H0.1).1;have:=(H0.2.1).1;have:=(H0.2.2).1;om),fun _ _=>trivial⟩,⟨(have:=Z157.len a1;have:=(H1.1).1;have:=(H1.2.1).1;have:=(H1.2.2).1;om),fun _ _=>trivial⟩⟩) ?_
 all_goals exact fz
def af:cD 247 aU:=W2 31 F mix aE bA (.cons Z172.af (.cons Z157.af (.cons Z171.af .nil))) Tryz.func247
def md_eq (a0 a1:aF):md a0 a1=dY a0 a1:=by
 unfold md
 simp only [Z171.md_eq,Z172.md_eq,Z157.br]
 rw [Bool.eq_iff_iff]
 constructor
 ·intro h
  simp only [Ad,Bool.and_eq_true] at h
  exact dh.2 (Z56.inj (dh.1 h.2.2.2))
 ·intro h
  rw [dh] at h
  rw [h]
  simp only [eP];rfl
end Z232
namespace Z233
inductive Pt where
 | p0 (a b:aB) (c d:Int)
def pid:Pt->Nat
 | .p0 ..=>4
def bY:Pt->List V
 | .p0 a b c d=>[.sl none 141 a,.sl none 141 b,.int .i64 c,.int .i64 d]
def bX:Pt->List aV
 | .p0 a b c d=>[]
def step (J:Pt->aJ):Pt->aJ
 | .p0 a b c d=>(cond (decide (d<c)) (m2 d (b.length:Int) (m2 d (a.length:Int) (call (Z232.R ((aR.at b (toNat d)).aq,(aR.at a (toNat d)).aq)) fun v1=>(cond (!v1) bf (J (.p0 a b c (i64.wrap (d+1)))))))) eu)
def start (J:Pt->aJ)(x0 x1:aB):aJ:=(cond (decide ((x0.length:Int)>(x1.length:Int))) bf (J (.p0 x1 x0 (x0.length:Int) 0)))
def live:Nat->Live:=fun i=>match i with | 4=>[(1,none),(12,none),(13,none),(14,none)] | _=>[]
def md (a0 a1:List aa):Bool:=(bif (decide ((a0.length:Int)>(a1.length:Int))) then (false:Bool) else (eo (S:=Unit) (β:=Bool) (fun (i2:Nat) (s4:Unit)=>(cond (!(Z232.md ((a0.getD i2 aa.zero).aq) ((a1.getD i2 aa.zero).aq))) (.inr (false:Bool)) (.inl ()))) (fun (s4:Unit)=>(true:Bool)) a0.length 0 ()))
def gd (a0 a1:List aa):Prop:=(bM (2^21) (fun y:aa=>aa.Sm (2^21) y) a0)/\(bM (2^21) (fun y:aa=>aa.Sm (2^21) y) a1)
def R:=RR (p2 gd) (u2 md)
def an {a0 a1}(h:gd a0 a1):R ((a0.map aa.row),(a1.map aa.row))=some (md a0 a1):=aP (a:=(a0,a1)) h
def aU:=CN [pL 141,pL 141] oB RT.dec R
def bA (a0)(a1)(hg:gd a0 a1):∃n,start (iter step n) (a0.map aa.row) (a1.map aa.row)=ret (md a0 a1):=by
 obtain ⟨H0,H1⟩:=hg
 unfold start md
 try simp only [SS]
 refine gR ret (fun _=>⟨0,rfl⟩) (fun c1=>?_)
 have dc1:=c1
 try simp only [DC] at dc1
 have Bh3:a0.length<=maxLen:=(by
   have:=(H0).1
   try simp only [maxLen] at *
   omega)
 refine dM (p:=Pt.p0 (a1.map aa.row) (a0.map aa.row) (a0.length:Int) 0) fz ?_
 refine ck (pt:=fun (i2:Nat) (s4:Unit)=>Pt.p0 (a1.map aa.row) (a0.map aa.row) (a0.length:Int) (i2:Int)) (s:=(():Unit)) (out:=ret) (fun _ _=>True) (fun J i2 s4 h3 hih3=>?_) (fun s4 hih3=>?_) trivial
 ·simp only [step,SS]
  have bb_:=Bh3
  simp only [maxLen] at bb_
  have:=(H0).1
  refine bC.yes (by apply decide_eq_true;omega) ?_
  refine bC.yes aI ?_
  refine bC.yes (aK h3) ?_
  refine bC.yes aI ?_
  refine bC.yes (have:=(H1).1;dt) ?_
  refine cr (Z232.an ⟨(bM.getD (z:=aa.zero) H0 h3).1,(bM.getD (z:=aa.zero) H1 (by first | assumption | omega | (simp (disch:=omega) only [wi];omega) | (simp;omega))).1⟩) ?_
  refine bC.bif (fun _=>bC.inr rfl) (fun c5=>?_)
  refine bC.inl trivial ?_
  rw [aH h3 Bh3]
  all_goals exact fz
 ·simp only [step,SS]
  have:=(H0).1
  refine dx (by apply decide_eq_false;omega) ?_
  refine ⟨0,?_⟩
  all_goals exact fz
def af:cD 244 aU:=L2 29 pid bY bX live step start mix aE bA (.cons Z232.af .nil) Tryz.func244
def br (a0 a1:List aa):md a0 a1=Z103.md a0 a1:=by
 unfold md Z103.md
 first
 | (simp only [Z232.md_eq,Z102.md_eq];done)
 | (simp only [Z232.md_eq,Z102.md_eq];rfl)
 | rfl
end Z233
namespace Z234
def F (x0:bn)(x1:aB):aJ:=(call (Z179.R x1) fun v1=>(cond (!v1) (ret (6:Int)) (cj (decide ((0:Int)<(x1.length:Int))) (call (Z231.R (x0,(aR.at x1 0).aq.bz)) fun v2=>(cond (decide (v2<0)) (ret (1:Int)) (m2 v2 (x0.aG.length:Int) (call (Z233.R ((oq x0.aG (toNat v2)),x1)) fun v3=>(m2 v2 (x0.aG.length:Int) (call (Z233.R (x1,(oq x0.aG (toNat v2)))) fun v4=>(cond v3 (cond v4 (ret (2:Int)) (cond v3 (ret (3:Int)) (cond v4 (ret (4:Int)) (ret (5:Int))))) (cond v3 (ret (3:Int)) (cond v4 (ret (4:Int)) (ret (5:Int))))))))))))))
def md (a0:aj)(a1:List aa):Int:=(cond (!(Z179.md a1)) (6:Int) (cond (decide ((Z231.md a0 (((a1.getD 0 aa.zero).aq).bz))<0)) (1:Int) (cond (Z233.md (a0.aG.getD (toNat (Z231.md a0 (((a1.getD 0 aa.zero).aq).bz))) []) a1) (cond (Z233.md a1 (a0.aG.getD (toNat (Z231.md a0 (((a1.getD 0 aa.zero).aq).bz))) [])) (2:Int) (cond (Z233.md (a0.aG.getD (toNat (Z231.md a0 (((a1.getD 0 aa.zero).aq).bz))) []) a1) (3:Int) (cond (Z233.md a1 (a0.aG.getD (toNat (Z231.md a0 (((a1.getD 0 aa.zero).aq).bz))) [])) (4:Int) (5:Int)))) (cond (Z233.md (a0.aG.getD (toNat (Z231.md a0 (((a1.getD 0 aa.zero).aq).bz))) []) a1) (3:Int) (cond (Z233.md a1 (a0.aG.getD (toNat (Z231.md a0 (((a1.getD 0 aa.zero).aq).bz))) [])) (4:Int) (5:Int))))))
def gd (a0:aj)(a1:List aa):Prop:=(aj.Sm (2^21) a0)/\(bM (2^21) (fun y:aa=>aa.Sm (2^21) y) a1)
def R:=RR (p2 gd) (u2 md)
def an {a0 a1}(h:gd a0 a1):R ((aj.r a0),(a1.map aa.row))=some (md a0 a1):=aP (a:=(a0,a1)) h
def aU:=CN [.agg rT,pL 141] oI RT.dec R
def bA (a0)(a1)(hg:gd a0 a1):F (aj.r a0) (a1.map aa.row)=ret (md a0 a1):=by
 obtain ⟨H0,H1⟩:=hg
 unfold F md
 try simp only [SS]
 refine ct (Z179.an H1) ?_
 refine av ret (fun _=>rfl) (fun c1=>?_)
 have dc1:=c1
 try simp only [DC] at dc1
 try have tc1:=Z179.tr (by simpa using c1)
 refine ak (have:=(H1).1;dt) ?_
 refine ct (Z231.an H0) ?_
 have fv2_:=Z231.fa a0 (((a1.getD 0 aa.zero).aq).bz)
 refine av ret (fun _=>rfl) (fun c2=>?_)
 have dc2:=c2
 try simp only [DC] at dc2
 refine ak dt ?_
 refine ak (have:=(H0.1).1;dt) ?_
 refine ct (Z233.an ⟨(bM.getD (z:=[]) H0.1 (by first | assumption | omega | (simp (disch:=omega) only [wi];omega) | (simp;omega))),H1⟩) ?_
 refine ak dt ?_
 refine ak (have:=(H0.1).1;dt) ?_
 refine ct (Z233.an ⟨H1,(bM.getD (z:=[]) H0.1 (by first | assumption | omega | (simp (disch:=omega) only [wi];omega) | (simp;omega)))⟩) ?_
 refine av ret (fun c3=>?_) (fun c3=>?_)
 ·refine av ret (fun _=>rfl) (fun c4=>?_)
  refine av ret (fun _=>rfl) (fun c5=>?_)
  refine av ret (fun _=>rfl) (fun _=>rfl)
 ·refine av ret (fun _=>rfl) (fun c7=>?_)
  refine av ret (fun _=>rfl) (fun _=>rfl)
def af:cD 209 aU:=W2 43 F mix aE bA (.cons Z179.af (.cons Z231.af (.cons Z233.af .nil))) Tryz.func209
def fa (a0:aj)(a1:List aa):(md a0 a1=3->1<=a1.length/\0<=Z231.md a0 (a1.getD 0 aa.zero).aq.bz)/\(md a0 a1=5->1<=a1.length/\0<=Z231.md a0 (a1.getD 0 aa.zero).aq.bz):=by
 unfold md
 cases h:Z179.md a1
 ·exact ⟨fun h=>by simp at h,fun h=>by simp at h⟩
 ·have t:=Z179.tr h
  cases hf:decide (Z231.md a0 ((a1.getD 0 aa.zero).aq.bz)<0)
  ·have:=of_decide_eq_false hf
   exact ⟨fun _=>⟨t.1,by omega⟩,fun _=>⟨t.1,by omega⟩⟩
  ·exact ⟨fun h=>by simp at h,fun h=>by simp at h⟩
def br (a0:aj)(a1:List aa):md a0 a1=Z104.md a0 a1:=by
 unfold md Z104.md
 first
 | (simp only [Z179.br,Z231.br,Z233.br];done)
 | (simp only [Z179.br,Z231.br,Z233.br];rfl)
 | rfl
end Z234
namespace Z235
inductive Pt where
 | p0 (a b:aB) (c d e f g h i j k l m n o:Int) (p:Bool) (q s t u v w y z w24 w25 w26 w27:Int) (w28:Bool) (w29 w30 w31 w32 w33 w34 w35 w36 w37 w38 w39 w40:Int) (w41:Bool)
def pid:Pt->Nat
 | .p0 ..=>4
def bY:Pt->List V
 | .p0 a b c d e f g h i j k l m n o p q s t u v w y z w24 w25 w26 w27 w28 w29 w30 w31 w32 w33 w34 w35 w36 w37 w38 w39 w40 w41=>[.sl none 141 a,.sl none 141 b,.cN 0 0,.int .i64 c]
def bX:Pt->List aV
 | .p0 a b c d e f g h i j k l m n o p q s t u v w y z w24 w25 w26 w27 w28 w29 w30 w31 w32 w33 w34 w35 w36 w37 w38 w39 w40 w41=>[.box [.int .i64 d,.int .i64 e,.int .i64 f,.int .i64 g,.int .i64 h,.int .i64 i,.int .i64 j,.int .i64 k,.nil,.int .i64 l,.nil,.int .i64 m,.int .i64 n,.nil,.int .i64 o,.bool p,.nil,.int .i64 q,.int .i64 s,.int .i64 t,.int .i64 u,.int .i64 v,.int .i64 w,.int .i64 y,.int .i64 z,.nil,.int .i64 w24,.nil,.int .i64 w25,.int .i64 w26,.nil,.int .i64 w27,.bool w28,.nil,.int .i64 w29,.int .i64 w30,.int .i64 w31,.int .i64 w32,.int .i64 w33,.int .i64 w34,.int .i64 w35,.int .i64 w36,.nil,.int .i64 w37,.nil,.int .i64 w38,.int .i64 w39,.nil,.int .i64 w40,.bool w41,.nil]]
def step (J:Pt->aJ):Pt->aJ
 | .p0 a b c d e f g h i j k l m n o p q s t u v w y z w24 w25 w26 w27 w28 w29 w30 w31 w32 w33 w34 w35 w36 w37 w38 w39 w40 w41=>(m2 c (a.length:Int) (m2 c (b.length:Int) (call (Z232.R ((aR.at a (toNat c)).aq,(aR.at b (toNat c)).aq)) fun v1=>(cond v1 (J (.p0 a b (i64.wrap (c+1)) d e f g h i j k l m n o p q s t u v w y z w24 w25 w26 w27 w28 w29 w30 w31 w32 w33 w34 w35 w36 w37 w38 w39 w40 w41)) (m2 c (a.length:Int) (call (Z131.R (aR.at a (toNat c))) fun v2=>(m2 c (b.length:Int) (call (Z131.R (aR.at b (toNat c))) fun v3=>(cond (decide (c>0)) (cj (decide ((0:Int)<=(i64.wrap (c - 1)))) (cj (decide ((i64.wrap (c - 1))<(a.length:Int))) (call (Z131.R (aR.at a (toNat (i64.wrap (c - 1))))) fun v4=>ret (((⟨v4,v2,v3⟩:bJ),true):bJ×Bool)))) (ret (((⟨(⟨(⟨0,0,0,0,0,0,0,0,(⟨[],0⟩:bE),(⟨[],0⟩:bE),0,(⟨[],0⟩:bE),false⟩:cg),[]⟩:aR),v2,v3⟩:bJ),true):bJ×Bool)))))))))))
def start (J:Pt->aJ)(x0 x1:aB):aJ:=(call (Z179.R x0) fun v1=>(cond (!v1) (ret (((⟨(⟨(⟨0,0,0,0,0,0,0,0,(⟨[],0⟩:bE),(⟨[],0⟩:bE),0,(⟨[],0⟩:bE),false⟩:cg),[]⟩:aR),(⟨(⟨0,0,0,0,0,0,0,0,(⟨[],0⟩:bE),(⟨[],0⟩:bE),0,(⟨[],0⟩:bE),false⟩:cg),[]⟩:aR),(⟨(⟨0,0,0,0,0,0,0,0,(⟨[],0⟩:bE),(⟨[],0⟩:bE),0,(⟨[],0⟩:bE),false⟩:cg),[]⟩:aR)⟩:bJ),false):bJ×Bool)) (call (Z179.R x1) fun v2=>(cond (!v2) (ret (((⟨(⟨(⟨0,0,0,0,0,0,0,0,(⟨[],0⟩:bE),(⟨[],0⟩:bE),0,(⟨[],0⟩:bE),false⟩:cg),[]⟩:aR),(⟨(⟨0,0,0,0,0,0,0,0,(⟨[],0⟩:bE),(⟨[],0⟩:bE),0,(⟨[],0⟩:bE),false⟩:cg),[]⟩:aR),(⟨(⟨0,0,0,0,0,0,0,0,(⟨[],0⟩:bE),(⟨[],0⟩:bE),0,(⟨[],0⟩:bE),false⟩:cg),[]⟩:aR)⟩:bJ),false):bJ×Bool)) (cj (decide ((0:Int)<(x0.length:Int))) (cj (decide ((0:Int)<(x1.length:Int))) (cond ((aR.at x0 0).aq.bz != (aR.at x1 0).aq.bz) (ret (((⟨(⟨(⟨0,0,0,0,0,0,0,0,(⟨[],0⟩:bE),(⟨[],0⟩:bE),0,(⟨[],0⟩:bE),false⟩:cg),[]⟩:aR),(⟨(⟨0,0,0,0,0,0,0,0,(⟨[],0⟩:bE),(⟨[],0⟩:bE),0,(⟨[],0⟩:bE),false⟩:cg),[]⟩:aR),(⟨(⟨0,0,0,0,0,0,0,0,(⟨[],0⟩:bE),(⟨[],0⟩:bE),0,(⟨[],0⟩:bE),false⟩:cg),[]⟩:aR)⟩:bJ),false):bJ×Bool)) (call (Z233.R (x0,x1)) fun v3=>(cond v3 (ret (((⟨(⟨(⟨0,0,0,0,0,0,0,0,(⟨[],0⟩:bE),(⟨[],0⟩:bE),0,(⟨[],0⟩:bE),false⟩:cg),[]⟩:aR),(⟨(⟨0,0,0,0,0,0,0,0,(⟨[],0⟩:bE),(⟨[],0⟩:bE),0,(⟨[],0⟩:bE),false⟩:cg),[]⟩:aR),(⟨(⟨0,0,0,0,0,0,0,0,(⟨[],0⟩:bE),(⟨[],0⟩:bE),0,(⟨[],0⟩:bE),false⟩:cg),[]⟩:aR)⟩:bJ),false):bJ×Bool)) (call (Z233.R (x1,x0)) fun v4=>(cond v4 (ret (((⟨(⟨(⟨0,0,0,0,0,0,0,0,(⟨[],0⟩:bE),(⟨[],0⟩:bE),0,(⟨[],0⟩:bE),false⟩:cg),[]⟩:aR),(⟨(⟨0,0,0,0,0,0,0,0,(⟨[],0⟩:bE),(⟨[],0⟩:bE),0,(⟨[],0⟩:bE),false⟩:cg),[]⟩:aR),(⟨(⟨0,0,0,0,0,0,0,0,(⟨[],0⟩:bE),(⟨[],0⟩:bE),0,(⟨[],0⟩:bE),false⟩:cg),[]⟩:aR)⟩:bJ),false):bJ×Bool)) (J (.p0 x0 x1 0 0 0 0 0 0 0 0 0 0 0 0 0 false 0 0 0 0 0 0 0 0 0 0 0 0 false 0 0 0 0 0 0 0 0 0 0 0 0 false)))))))))))))
def live:Nat->Live:=fun i=>match i with | 4=>[(0,none),(1,none),(4,none),(6,none)] | _=>[]
def pt (a b:aB)(c:Int):Pt:=Pt.p0 a b c 0 0 0 0 0 0 0 0 0 0 0 0 false 0 0 0 0 0 0 0 0 0 0 0 0 false 0 0 0 0 0 0 0 0 0 0 0 0 false
def md (a0 a1:List aa):az×Bool:=(cond (!(Z179.md a0)) (az.zero,false) (cond (!(Z179.md a1)) (az.zero,false) (cond (((a0.getD 0 aa.zero).aq).bz != ((a1.getD 0 aa.zero).aq).bz) (az.zero,false) (cond (Z233.md a0 a1) (az.zero,false) (cond (Z233.md a1 a0) (az.zero,false) (Z105.tK a0 a1 (Z105.fk a0 a1),true))))))
def gd (a0 a1:List aa):Prop:=bM (2^21) (fun y:aa=>aa.Sm (2^21) y) a0/\bM (2^21) (fun y:aa=>aa.Sm (2^21) y) a1
def R:=RR (p2 gd) (u2 md)
def an {a0 a1}(h:gd a0 a1):R ((a0.map aa.row),(a1.map aa.row))=some ((az.r (md a0 a1).1),(md a0 a1).2):=aP (a:=(a0,a1)) h
def aU:=CN [pL 141,pL 141] (.iJ [(true,f143),(false,[fB])]) RT.dec R
def bA (a0)(a1)(hg:gd a0 a1):∃n,start (iter step n) (a0.map aa.row) (a1.map aa.row)=ret ((az.r (md a0 a1).1),(md a0 a1).2):=by
 unfold gd at hg
 obtain ⟨H0,H1⟩:=hg
 have hl0:=H0.1
 have hl1:=H1.1
 have key:Z105.fk a0 a1<a0.length->Z105.fk a0 a1<a1.length->Z102.md (a0.getD (Z105.fk a0 a1) aa.zero).aq (a1.getD (Z105.fk a0 a1) aa.zero).aq=false->∀d k,k+d=Z105.fk a0 a1->∃n,iter step n (pt (a0.map aa.row) (a1.map aa.row) (k:Int))=ret ((az.r (Z105.tK a0 a1 (Z105.fk a0 a1)),true):bJ×Bool):=by
  intro hn0 hn1 hne d
  have hR:∀k,k<a0.length->k<a1.length->Z232.R (aF.r (a0.getD k aa.zero).aq,aF.r (a1.getD k aa.zero).aq)=some (Z102.md (a0.getD k aa.zero).aq (a1.getD k aa.zero).aq):=by
   intro k h0 h1
   rw [Z232.an ⟨(bM.getD (z:=aa.zero) H0 h0).1,(bM.getD (z:=aa.zero) H1 h1).1⟩,Z232.md_eq,Z102.md_eq]
  induction d with
  | zero=>
   intro k hk
   obtain rfl:k=Z105.fk a0 a1:=by omega
   generalize hkk:Z105.fk a0 a1=k at hn0 hn1 hne ⊢
   refine ⟨1,?_⟩
   show step (iter step 0) _=_
   have q1:(0:Int)<=(k:Int):=by omega
   have q2:(k:Int)<(a0.length:Int):=by omega
   have q3:(k:Int)<(a1.length:Int):=by omega
   simp only [pt,step,MM,S0,aa.rs,aF.rs,q1,q2,q3,decide_true,bh]
   rw [call_eq (hR k hn0 hn1),hne,bu,call_eq (Z131.an (a0:=a0.getD k aa.zero) (bM.getD (z:=aa.zero) H0 hn0)),call_eq (Z131.an (a0:=a1.getD k aa.zero) (bM.getD (z:=aa.zero) H1 hn1))]
   cases k with
   | zero=>rfl
   | succ k=>
    have q4:((k+1:Nat):Int)>0:=by omega
    have q5:i64.wrap (((k+1:Nat):Int) - 1)=(k:Int):=by rw [wi _ (by omega)];omega
    have q6:(0:Int)<=(k:Int):=by omega
    have q7:(k:Int)<(a0.length:Int):=by omega
    simp only [q4,q5,q6,q7,decide_true,bh,S0,aa.rs]
    rw [call_eq (Z131.an (a0:=a0.getD k aa.zero) (bM.getD (z:=aa.zero) H0 (by omega)))]
    rfl
  | succ d ih=>
   intro k hk
   obtain ⟨n,hn⟩:=ih (k+1) (by omega)
   refine ⟨n+1,?_⟩
   show step (iter step n) _=_
   have q1:(0:Int)<=(k:Int):=by omega
   have q2:(k:Int)<(a0.length:Int):=by omega
   have q3:(k:Int)<(a1.length:Int):=by omega
   simp only [pt,step,MM,S0,aa.rs,aF.rs,q1,q2,q3,decide_true,bh]
   rw [call_eq (hR k (by omega) (by omega)),(Z105.pY a0 a1).1 k (by omega),bh,wi _ (by omega)]
   exact hn
 unfold start md
 simp only [S0,aa.rs,aF.rs]
 refine eV (Z179.md a0) (Z179.an H0) ?_
 cases hc0:Z179.md a0
 ·exact ⟨0,rfl⟩
 simp only [Bool.not_true,bu]
 refine eV (Z179.md a1) (Z179.an H1) ?_
 cases hc1:Z179.md a1
 ·exact ⟨0,rfl⟩
 have t0:=Z179.tr hc0
 have t1:=Z179.tr hc1
 simp only [Bool.not_true,bu]
 refine dF (decide_eq_true (by omega)) (dF (decide_eq_true (by omega)) ?_)
 cases ((a0.getD 0 aa.zero).aq.bz != (a1.getD 0 aa.zero).aq.bz)
 case true=>exact ⟨0,rfl⟩
 simp only [bu]
 refine eV (Z233.md a0 a1) (Z233.an ⟨H0,H1⟩) ?_
 cases hp0:Z233.md a0 a1
 case true=>exact ⟨0,rfl⟩
 simp only [bu]
 refine eV (Z233.md a1 a0) (Z233.an ⟨H1,H0⟩) ?_
 cases hp1:Z233.md a1 a0
 case true=>exact ⟨0,rfl⟩
 simp only [bu]
 rw [Z233.br] at hp0 hp1
 obtain ⟨h1,h2,h3⟩:=Z105.lK hp0 hp1
 exact key h1 h2 h3 (Z105.fk a0 a1) 0 (by omega)
def af:cD 211 aU:=L2 74 pid bY bX live step start mix aE bA (.cons Z179.af (.cons Z233.af (.cons Z232.af (.cons Z131.af .nil)))) Tryz.func211
def fL {a0 a1:List aa}(hg:gd a0 a1):az.Sm (2^21) ((md a0 a1).1):=by
 unfold gd at hg;unfold md
 have z:az.Sm (2^21) az.zero:=⟨⟨⟨bM.nil,bM.nil,bM.nil⟩,bM.nil⟩,⟨⟨bM.nil,bM.nil,bM.nil⟩,bM.nil⟩,⟨⟨bM.nil,bM.nil,bM.nil⟩,bM.nil⟩⟩
 cases Z179.md a0
 ·exact z
 cases Z179.md a1
 ·exact z
 cases ((a0.getD 0 aa.zero).aq.bz != (a1.getD 0 aa.zero).aq.bz)
 case true=>exact z
 cases h1:Z233.md a0 a1
 case true=>exact z
 cases h2:Z233.md a1 a0
 case true=>exact z
 rw [Z233.br] at h1 h2
 obtain ⟨h3,h4,_⟩:=Z105.lK h1 h2
 exact Z105.vV hg.1 hg.2 h3 h4
def br (a0 a1:List aa):md a0 a1=Z105.md a0 a1:=by
 unfold md Z105.md
 first
 | (simp only [Z179.br,Z233.br,Z232.md_eq,Z102.md_eq];done)
 | (simp only [Z179.br,Z233.br,Z232.md_eq,Z102.md_eq];rfl)
 | rfl
end Z235
namespace Z236
def F (x0:bn)(x1:aB):aJ:=(call (Z134.R x0) fun v1=>(call (Z234.R (x0,x1)) fun v2=>(cond (v2==1) (cond (decide ((x0.aG.length:Int)>=8)) (ret ((v1,6):bn×Int)) (call (Z132.R x1) fun v3=>(cj (eS (((v1.aG.length:Int)+1)*24)) (ret (((⟨(v1.aG++[[L.sl v3]]),v1.aW⟩:bn),v2):bn×Int))))) (cond (v2==3) (cj (decide ((0:Int)<(x1.length:Int))) (call (Z231.R (x0,(aR.at x1 0).aq.bz)) fun v4=>(call (Z132.R x1) fun v5=>(m2 v4 (v1.aG.length:Int) (ret (((⟨(List.set v1.aG (toNat v4) [L.sl v5]),v1.aW⟩:bn),v2):bn×Int)))))) (cond (v2==5) (cj (decide ((0:Int)<(x1.length:Int))) (call (Z231.R (x0,(aR.at x1 0).aq.bz)) fun v6=>(m2 v6 (x0.aG.length:Int) (call (Z235.R ((oq x0.aG (toNat v6)),x1)) fun v7=>(cond v7.2 (cond (decide ((x0.aW.length:Int)<8)) (cj (eS (((v1.aW.length:Int)+1)*600)) (ret (((⟨v1.aG,(v1.aW++[(bJ.enc v7.1)])⟩:bn),v2):bn×Int))) (ret ((v1,v2):bn×Int))) (ret ((v1,v2):bn×Int))))))) (ret ((v1,v2):bn×Int)))))))
def md (a0:aj)(a1:List aa):aj×Int:=(cond ((Z234.md a0 a1)==1) (cond (decide ((a0.aG.length:Int)>=8)) (a0,6) ((⟨(a0.aG++[a1]),a0.aW⟩:aj),(Z234.md a0 a1))) (cond ((Z234.md a0 a1)==3) ((⟨(List.set a0.aG (toNat (Z231.md a0 (((a1.getD 0 aa.zero).aq).bz))) a1),a0.aW⟩:aj),(Z234.md a0 a1)) (cond ((Z234.md a0 a1)==5) (cond ((Z235.md (a0.aG.getD (toNat (Z231.md a0 (((a1.getD 0 aa.zero).aq).bz))) []) a1).2) (cond (decide ((a0.aW.length:Int)<8)) ((⟨a0.aG,(a0.aW++[(Z235.md (a0.aG.getD (toNat (Z231.md a0 (((a1.getD 0 aa.zero).aq).bz))) []) a1).1])⟩:aj),(Z234.md a0 a1)) (a0,(Z234.md a0 a1))) (a0,(Z234.md a0 a1))) (a0,(Z234.md a0 a1)))))
def gd (a0:aj)(a1:List aa):Prop:=(aj.Sm (2^21) a0)/\(bM (2^21) (fun y:aa=>aa.Sm (2^21) y) a1)
def R:=RR (p2 gd) (u2 md)
def an {a0 a1}(h:gd a0 a1):R ((aj.r a0),(a1.map aa.row))=some ((aj.r (md a0 a1).1),(md a0 a1).2):=aP (a:=(a0,a1)) h
def aU:=CN [.agg rT,pL 141] (.iJ [(true,f37),(false,[fI])]) RT.dec R
def bA (a0)(a1)(hg:gd a0 a1):F (aj.r a0) (a1.map aa.row)=ret ((aj.r (md a0 a1).1),(md a0 a1).2):=by
 obtain ⟨H0,H1⟩:=hg
 unfold F md
 try simp only [SS]
 refine ct (Z134.an H0) ?_
 try simp only [SS]
 refine ct (Z234.an ⟨H0,H1⟩) ?_
 have fv2_:=Z234.fa a0 a1
 refine av (fun b:aj×Int=>ret (((aj.r b.1),b.2):bn×Int)) (fun c1=>?_) (fun c1=>?_)
 ·have dc1:=c1
  try simp only [DC] at dc1
  refine av (fun b:aj×Int=>ret (((aj.r b.1),b.2):bn×Int)) (fun c2=>?_) (fun c2=>?_)
  ·all_goals exact fz
  ·have dc2:=c2
   try simp only [DC] at dc2
   refine ct (Z132.an H1) ?_
   try simp only [SS]
   refine ak (have:=(H0.1).1;lm) ?_
   all_goals exact fz
 ·have dc1:=c1
  try simp only [DC] at dc1
  refine av (fun b:aj×Int=>ret (((aj.r b.1),b.2):bn×Int)) (fun c3=>?_) (fun c3=>?_)
  ·have dc3:=c3
   try simp only [DC] at dc3
   refine ak (have:=(H1).1;dt) ?_
   refine ct (Z231.an H0) ?_
   have fv4_:=Z231.fa a0 (((a1.getD 0 aa.zero).aq).bz)
   refine ct (Z132.an H1) ?_
   try simp only [SS]
   refine ak dt ?_
   refine ak (have:=(H0.1).1;dt) ?_
   all_goals exact fz
  ·have dc3:=c3
   try simp only [DC] at dc3
   refine av (fun b:aj×Int=>ret (((aj.r b.1),b.2):bn×Int)) (fun c4=>?_) (fun c4=>?_)
   ·have dc4:=c4
    try simp only [DC] at dc4
    refine ak (have:=(H1).1;dt) ?_
    refine ct (Z231.an H0) ?_
    have fv6_:=Z231.fa a0 (((a1.getD 0 aa.zero).aq).bz)
    refine ak dt ?_
    refine ak (have:=(H0.1).1;dt) ?_
    refine ct (Z235.an ⟨(bM.getD (z:=[]) H0.1 (by first | assumption | omega | (simp (disch:=omega) only [wi];omega) | (simp;omega))),H1⟩) ?_
    try simp only [SS]
    refine av (fun b:aj×Int=>ret (((aj.r b.1),b.2):bn×Int)) (fun c5=>?_) (fun c5=>?_)
    ·refine av (fun b:aj×Int=>ret (((aj.r b.1),b.2):bn×Int)) (fun c6=>?_) (fun c6=>?_)
     ·have dc6:=c6
      try simp only [DC] at dc6
      refine ak (have:=(H0.2).1;lm) ?_
      all_goals exact fz
     ·all_goals exact fz
    ·all_goals exact fz
   ·all_goals exact fz
def af:cD 170 aU:=W2 77 F mix aE bA (.cons Z134.af (.cons Z234.af (.cons Z132.af (.cons Z231.af (.cons Z235.af .nil))))) Tryz.func170
def fL {a0:aj}{a1:List aa}(hg:gd a0 a1):aj.Sm (2^21) ((md a0 a1).1):=by
 unfold gd at hg;unfold md
 obtain ⟨⟨h1,h2⟩,h3⟩:=hg
 simp only [Bool.cond_eq_ite]
 repeat' split
 all_goals (try simp only [decide_eq_true_eq,ge_iff_le] at *)
 all_goals first
  | exact ⟨h1,h2⟩
  | exact ⟨bM.app (a:=7) (b:=1) ⟨by omega,h1.2⟩ (bM.one h3) (by decide),h2⟩
  | exact ⟨bM.set h1 h3,h2⟩
  | exact ⟨h1,bM.app (a:=7) (b:=1) ⟨by omega,h2.2⟩ (bM.one (Z235.fL ⟨bM.vG h1 bM.nil,h3⟩)) (by decide)⟩
def br (a0:aj)(a1:List aa):md a0 a1=Z106.md a0 a1:=by
 unfold md Z106.md
 first
 | (simp only [Z234.br,Z231.br,Z235.br];done)
 | (simp only [Z234.br,Z231.br,Z235.br];rfl)
 | rfl
end Z236
namespace Z237
inductive Pt where
 | p0 (a b:aB) (c d:Int)
def pid:Pt->Nat
 | .p0 ..=>4
def bY:Pt->List V
 | .p0 a b c d=>[.sl none 190 a,.sl none 190 b,.int .i64 c,.int .i64 d]
def bX:Pt->List aV
 | .p0 a b c d=>[]
def step (J:Pt->aJ):Pt->aJ
 | .p0 a b c d=>(cond (decide (d<c)) (m2 d (a.length:Int) (m2 d (b.length:Int) (cond (!((((bt.at a (toNat d)).gM:Int)==(bt.at b (toNat d)).gM)&&((((bt.at a (toNat d)).ju:Int)==(bt.at b (toNat d)).ju)&&true))) bf (J (.p0 a b c (i64.wrap (d+1))))))) eu)
def start (J:Pt->aJ)(x0 x1:aB):aJ:=(cond ((x0.length:Int) != (x1.length:Int)) bf (J (.p0 x0 x1 (x0.length:Int) 0)))
def live:Nat->Live:=fun i=>match i with | 4=>[(0,none),(1,none),(12,none),(13,none)] | _=>[]
def md (a0 a1:List bt):Bool:=(bif ((a0.length:Int) != (a1.length:Int)) then (false:Bool) else (eo (S:=Unit) (β:=Bool) (fun (i2:Nat) (s4:Unit)=>(cond (!((((a0.getD i2 bt.zero).gM:Int)==(a1.getD i2 bt.zero).gM)&&((((a0.getD i2 bt.zero).ju:Int)==(a1.getD i2 bt.zero).ju)&&true))) (.inr (false:Bool)) (.inl ()))) (fun (s4:Unit)=>(true:Bool)) a0.length 0 ()))
def gd (a0 a1:List bt):Prop:=(bM (2^21) (fun y:bt=>bt.Sm (2^21) y) a0)/\(bM (2^21) (fun y:bt=>bt.Sm (2^21) y) a1)
def R:=RR (p2 gd) (u2 md)
def an {a0 a1}(h:gd a0 a1):R ((a0.map bt.row),(a1.map bt.row))=some (md a0 a1):=aP (a:=(a0,a1)) h
def aU:=CN [pL 190,pL 190] oB RT.dec R
def bA (a0)(a1)(hg:gd a0 a1):∃n,start (iter step n) (a0.map bt.row) (a1.map bt.row)=ret (md a0 a1):=by
 obtain ⟨H0,H1⟩:=hg
 unfold start md
 try simp only [SS]
 refine gR ret (fun _=>⟨0,rfl⟩) (fun c1=>?_)
 have dc1:=c1
 try simp only [DC] at dc1
 have Bh3:a0.length<=maxLen:=(by
   have:=(H0).1
   try simp only [maxLen] at *
   omega)
 refine dM (p:=Pt.p0 (a0.map bt.row) (a1.map bt.row) (a0.length:Int) 0) fz ?_
 refine ck (pt:=fun (i2:Nat) (s4:Unit)=>Pt.p0 (a0.map bt.row) (a1.map bt.row) (a0.length:Int) (i2:Int)) (s:=(():Unit)) (out:=ret) (fun _ _=>True) (fun J i2 s4 h3 hih3=>?_) (fun s4 hih3=>?_) trivial
 ·simp only [step,SS]
  have bb_:=Bh3
  simp only [maxLen] at bb_
  have:=(H0).1
  refine bC.yes (by apply decide_eq_true;omega) ?_
  refine bC.yes aI ?_
  refine bC.yes (aK h3) ?_
  refine bC.yes aI ?_
  refine bC.yes (have:=(H1).1;dt) ?_
  refine bC.bif (fun _=>bC.inr rfl) (fun c5=>?_)
  refine bC.inl trivial ?_
  rw [aH h3 Bh3]
  all_goals exact fz
 ·simp only [step,SS]
  have:=(H0).1
  refine dx (by apply decide_eq_false;omega) ?_
  refine ⟨0,?_⟩
  all_goals exact fz
def af:cD 302 aU:=L2 26 pid bY bX live step start mix aE bA .nil Tryz.func302
def md_eq (a0 a1:List bt):md a0 a1=dY a0 a1:=by
 unfold md
 refine ke (bt.zero) (fun i s h h2=>?_) (fun s=>rfl)
 simp only [bne,fc,bool_beq,eO,bt.eqc]
 cases dY _ _<;>rfl
end Z237
namespace Z238
def F (x0 x1:aR):aJ:=(call (Z232.R (x0.aq,x1.aq)) fun v1=>(cond v1 (call (Z237.R (x0.cm,x1.cm)) fun v2=>ret (v2:Bool)) bf))
def md (a0 a1:aa):Bool:=(cond (Z232.md a0.aq a1.aq) ((Z237.md a0.cm a1.cm):Bool) (false:Bool))
def gd (a0 a1:aa):Prop:=(aa.Sm (2^21) a0)/\(aa.Sm (2^21) a1)
def R:=RR (p2 gd) (u2 md)
def an {a0 a1}(h:gd a0 a1):R ((aa.r a0),(aa.r a1))=some (md a0 a1):=aP (a:=(a0,a1)) h
def aU:=CN [.agg ku,.agg ku] oB RT.dec R
def bA (a0)(a1)(hg:gd a0 a1):F (aa.r a0) (aa.r a1)=ret (md a0 a1):=by
 obtain ⟨H0,H1⟩:=hg
 unfold F md
 try simp only [SS]
 refine ct (Z232.an ⟨H0.1,H1.1⟩) ?_
 refine av ret (fun c1=>?_) (fun _=>rfl)
 refine ct (Z237.an ⟨H0.2,H1.2⟩) ?_
 all_goals exact fz
def af:cD 276 aU:=W2 17 F mix aE bA (.cons Z232.af (.cons Z237.af .nil)) Tryz.func276
def md_eq (a0 a1:aa):md a0 a1=dY a0 a1:=by
 unfold md
 cases a0;cases a1
 rw [Bool.eq_iff_iff]
 simp [dh,eO,aa.mk.injEq,Z232.md_eq,Z237.md_eq]
 try (constructor<;>(intro h;simp_all))
end Z238
namespace Z239
def F (x0:bJ):aJ:=(call (Z232.R (x0.fA.aq,x0.fB.aq)) fun v1=>(cond v1 bf (call (Z238.R (x0.aS,(⟨(⟨0,0,0,0,0,0,0,0,(⟨[],0⟩:bE),(⟨[],0⟩:bE),0,(⟨[],0⟩:bE),false⟩:cg),[]⟩:aR))) fun v2=>(cond v2 (call (Z167.R x0.fA) fun v3=>(cond v3 (call (Z167.R x0.fB) fun v4=>(cond v4 (ret ((x0.fA.aq.bz==x0.fB.aq.bz):Bool)) bf)) bf)) (call (Z177.R (x0.aS.aq,x0.fA)) fun v5=>(cond v5 (call (Z177.R (x0.aS.aq,x0.fB)) fun v6=>ret (v6:Bool)) bf))))))
def md (a0:az):Bool:=(cond (Z232.md a0.fA.aq a0.fB.aq) (false:Bool) (cond (Z238.md a0.aS (⟨(⟨0,0,0,0,0,0,0,0,(⟨[],0⟩:aO),(⟨[],0⟩:aO),0,(⟨[],0⟩:aO),false⟩:aF),[]⟩:aa)) (cond (Z167.md a0.fA) (cond (Z167.md a0.fB) ((a0.fA.aq.bz==a0.fB.aq.bz):Bool) (false:Bool)) (false:Bool)) (cond (Z177.md a0.aS.aq a0.fA) ((Z177.md a0.aS.aq a0.fB):Bool) (false:Bool))))
def gd (a0:az):Prop:=(az.Sm (2^21) a0)
def R:=RR gd md
def an {a0}(h:gd a0):R (az.r a0)=some (md a0):=aP (a:=a0) h
def aU:=CN [.agg sQ] oB RT.dec R
def bA (a0)(hg:gd a0):F (az.r a0)=ret (md a0):=by
 unfold gd at hg
 have H0:=hg
 unfold F md
 try simp only [SS]
 refine ct (Z232.an ⟨H0.2.1.1,H0.2.2.1⟩) ?_
 refine av ret (fun _=>rfl) (fun c1=>?_)
 refine ct (Z238.an (a1:=(⟨(⟨0,0,0,0,0,0,0,0,(⟨[],0⟩:aO),(⟨[],0⟩:aO),0,(⟨[],0⟩:aO),false⟩:aF),[]⟩:aa)) ⟨H0.1,⟨⟨bM.nil,bM.nil,bM.nil⟩,bM.nil⟩⟩) ?_
 refine av ret (fun c2=>?_) (fun c2=>?_)
 ·refine ct (Z167.an H0.2.1) ?_
  refine av ret (fun c3=>?_) (fun _=>rfl)
  refine ct (Z167.an H0.2.2) ?_
  refine av ret (fun c4=>?_) (fun _=>rfl)
  all_goals exact fz
 ·refine ct (Z177.an ⟨H0.1.1,H0.2.1⟩) ?_
  refine av ret (fun c5=>?_) (fun _=>rfl)
  refine ct (Z177.an ⟨H0.1.1,H0.2.2⟩) ?_
  all_goals exact fz
def af:cD 249 aU:=W1 49 F mix aE bA (.cons Z232.af (.cons Z238.af (.cons Z167.af (.cons Z177.af .nil)))) Tryz.func249
def br (a0:az):md a0=Z119.md a0:=by
 unfold md Z119.md
 first
 | (simp only [Z167.br,Z177.br,Z232.md_eq,Z238.md_eq,Z102.md_eq,Z118.md_eq];done)
 | (simp only [Z167.br,Z177.br,Z232.md_eq,Z238.md_eq,Z102.md_eq,Z118.md_eq];rfl)
 | rfl
end Z239
namespace Z240
def F (x0:bJ):aJ:=(call (Z239.R x0) fun v1=>(cond (!v1) (ret ((-1):Int)) (ret (x0.fA.aq.bz:Int))))
def md (a0:az):Int:=(cond (!(Z239.md a0)) ((-1):Int) (a0.fA.aq.bz:Int))
def gd (a0:az):Prop:=(az.Sm (2^21) a0)
def R:=RR gd md
def an {a0}(h:gd a0):R (az.r a0)=some (md a0):=aP (a:=a0) h
def aU:=CN [.agg sQ] oI RT.dec R
def bA (a0)(hg:gd a0):F (az.r a0)=ret (md a0):=by
 unfold gd at hg
 have H0:=hg
 unfold F md
 try simp only [SS]
 refine ct (Z239.an H0) ?_
 refine av ret (fun _=>rfl) (fun c1=>?_)
 all_goals exact fz
def af:cD 214 aU:=W1 10 F mix aE bA (.cons Z239.af .nil) Tryz.func214
def br (a0:az):md a0=Z120.md a0:=by
 unfold md Z120.md
 first
 | (simp only [Z239.br];done)
 | (simp only [Z239.br];rfl)
 | rfl
end Z240
namespace Z241
def F (x0:bJ)(x1:List L):aJ:=(call (Z240.R x0) fun v1=>ret ((v1==(gm x1)):Bool))
def pats:List ga:=[.agg [aC,aC,aC,aC,aC,aC,aC,aC,.sl 3,aC,.sl 3,aC,aC,.sl 3,aC,.bool,.sl 190,aC,aC,aC,aC,aC,aC,aC,aC,.sl 3,aC,.sl 3,aC,aC,.sl 3,aC,.bool,.sl 190,aC,aC,aC,aC,aC,aC,aC,aC,.sl 3,aC,.sl 3,aC,aC,.sl 3,aC,.bool,.sl 190],.ptr [aC]]
def res:RP:=.one (.rd (.bool))
def md (a0:az)(a1:Int):Bool:=(((Z240.md a0)==a1):Bool)
def gd (a0:az)(a1:Int):Prop:=(az.Sm (2^21) a0)
def acc (ls:List L):bJ×Int:=((bJ.dec ls),(gm (cP 1 (aA 51 ls))))
def R:(bJ×Int)->Option Bool:=RR (p2 gd) (u2 md)
def an {a0 a1}(h:gd a0 a1):R ((az.r a0),a1)=some (md a0 a1):=aP (a:=(a0,a1)) h
def aU:fR:=CN pats res acc R
def bA (a0:az)(a1:Int)(p1:List L)(e1:a1=(gm p1))(hg:gd a0 a1):F (az.r a0) p1=ret ((md a0 a1):Bool):=by
 unfold gd at hg
 have H0:=hg
 unfold F md
 try simp only [SS,<-e1]
 refine ct (Z240.an H0) ?_
 all_goals exact fz
def ox (ls:List L)(a:az×Int)(e:acc ls=Im.im a)(hg:(p2 gd) a):∃n:Nat,F (bJ.dec ls) (cP 1 (aA 51 ls))=ret (Im.im ((u2 md) a)):=by
 have e0:(az.r a.1)=(bJ.dec ls):=(congrArg (fun x=>x.1) e.symm)
 have hn:=bA a.1 a.2 (cP 1 (aA 51 ls)) (congrArg (fun x=>x.2) e.symm) hg
 refine ⟨0,?_⟩
 rw [<-e0]
 exact hn
def af:cD 213 aU:=VP (live:=fun _=>[]) (nt:=8) (accr:=fun ls=>((bJ.dec ls),(cP 1 (aA 51 ls)))) (run:=fun _ x=>F x.1 x.2) mix aE (.cons Z240.af .nil) Tryz.func213 (by kernel_rfl) (fun _ _=>by kernel_rfl) (fun ls a _ e hg=>ox ls a e hg)
end Z241
namespace Z242
inductive Pt where
 | p0 (a:aB) (b:List L) (c d:Int)
def pid:Pt->Nat
 | .p0 ..=>2
def bY:Pt->List V
 | .p0 a b c d=>[.sl none 143 a,.fn 213 [.dH none [aC] b 0],.int .i64 c,.int .i64 d]
def bX:Pt->List aV
 | .p0 a b c d=>[]
def step (J:Pt->aJ):Pt->aJ
 | .p0 a b c d=>(cond (decide (d<c)) (m2 d (a.length:Int) (call (Z241.R ((bJ.at a (toNat d)),(gm b))) fun v1=>(cond v1 (ret (d:Int)) (J (.p0 a b c (i64.wrap (d+1))))))) (ret ((-1):Int)))
def start (J:Pt->aJ)(x0:aB)(x1:List L):aJ:=J (.p0 x0 x1 (x0.length:Int) 0)
def live:Nat->Live:=fun i=>match i with | 2=>[(0,none),(1,none),(7,none),(8,none)] | _=>[]
def pats:List ga:=[.rd (.sl 143),.fn 213 [[aC]]]
def res:RP:=.one (.rd (.int .i64))
abbrev E:Env:={ T:=assoc jV,G:=dw [(213,Z241.aU)],nt:=19 }
def step_eq (I:cB)(p:Pt):cR E live I (pid p) (bL Tryz.f248) (fm (live (pid p)) (bY p) (bX p)) (cA E Tryz.f248 res)=step (fun q=>I (pid q) (bY q) (bX q)) p:=by
 cases p<;>kernel_rfl
def start_eq (I:cB)(ls:List L):eL E live I (bL Tryz.f248) (cU pats ls) (cA E Tryz.f248 res)=start (fun q=>I (pid q) (bY q) (bX q)) (ls.headD .hole).aQ (cP 1 (aA 1 ls)):=by kernel_rfl
def run_eq (n:Nat)(ls:List L):eG E live Tryz.f248 res n (cU pats ls)=start (iter step n) (ls.headD .hole).aQ (cP 1 (aA 1 ls)):=cq (id:=pid) (vs:=bY) (hs:=bX) (step:=step) (start:=fun J=>start J (ls.headD .hole).aQ (cP 1 (aA 1 ls))) step_eq (fun I=>start_eq I ls) n
def md (a0:List az)(a1:Int):Int:=(dD (S:=Unit) (β:=Int) (fun (i1:Nat) (y1:az) (s3:Unit)=>(cond (Z241.md y1 a1) (.inr ((i1:Int):Int)) (.inl ()))) (fun (s3:Unit)=>((-1):Int)) 0 a0 ())
def gd (a0:List az)(a1:Int):Prop:=(bM (2^21) (fun y:az=>az.Sm (2^21) y) a0)
def acc (ls:List L):aB×Int:=((ls.headD .hole).aQ,(gm (cP 1 (aA 1 ls))))
def R:(aB×Int)->Option Int:=RR (p2 gd) (u2 md)
def an {a0 a1}(h:gd a0 a1):R ((a0.map az.row),a1)=some (md a0 a1):=aP (a:=(a0,a1)) h
def aU:fR:=CN pats res acc R
def bA (a0:List az)(a1:Int)(p1:List L)(e1:a1=(gm p1))(hg:gd a0 a1):∃n,start (iter step n) (a0.map az.row) p1=ret ((md a0 a1):Int):=by
 unfold gd at hg
 have H0:=hg
 unfold start md
 try simp only [SS,<-e1]
 have Bh2:a0.length<=maxLen:=(by
   have:=(H0).1
   try simp only [maxLen] at *
   omega)
 refine ex_eq (out:=ret) (cV (z:=az.zero)) ?_
 refine dM (p:=Pt.p0 (a0.map az.row) p1 (a0.length:Int) 0) fz ?_
 refine ck (pt:=fun (i1:Nat) (s3:Unit)=>Pt.p0 (a0.map az.row) p1 (a0.length:Int) (i1:Int)) (s:=(():Unit)) (out:=ret) (fun _ _=>True) (fun J i1 s3 h2 hih2=>?_) (fun s3 hih2=>?_) trivial
 ·simp only [step,SS,<-e1]
  have bb_:=Bh2
  simp only [maxLen] at bb_
  have:=(H0).1
  refine bC.yes (by apply decide_eq_true;omega) ?_
  refine bC.yes aI ?_
  refine bC.yes (aK h2) ?_
  refine cr (Z241.an (bM.getD (z:=az.zero) H0 h2)) ?_
  refine bC.bif (fun c4=>?_) (fun c4=>?_)
  ·refine bC.inr ?_
   all_goals exact fz
  ·refine bC.inl trivial ?_
   rw [aH h2 Bh2]
   all_goals exact fz
 ·simp only [step,SS,<-e1]
  have:=(H0).1
  refine dx (by apply decide_eq_false;omega) ?_
  refine ⟨0,?_⟩
  all_goals exact fz
def ox (ls:List L)(a:List az×Int)(e:acc ls=Im.im a)(hg:(p2 gd) a):∃n:Nat,start (iter step n) ((ls.headD .hole).aQ) (cP 1 (aA 1 ls))=ret (Im.im ((u2 md) a)):=by
 have e0:(a.1.map az.row)=(ls.headD .hole).aQ:=(congrArg (fun x=>x.1) e.symm)
 obtain ⟨n,hn⟩:=bA a.1 a.2 (cP 1 (aA 1 ls)) (congrArg (fun x=>x.2) e.symm) hg
 refine ⟨n,?_⟩
 rw [<-e0]
 exact hn
def af:cD 248 aU:=VP (accr:=fun ls=>((ls.headD .hole).aQ,(cP 1 (aA 1 ls)))) (run:=fun n x=>start (iter step n) x.1 x.2) mix aE (.cons Z241.af .nil) Tryz.func248 (by kernel_rfl) run_eq (fun ls a _ e hg=>ox ls a e hg)
def fa (a0:List az)(a1:Int):-1<=md a0 a1/\md a0 a1<(a0.length:Int):=by
 unfold md
 refine gi ?_ _ _
 all_goals
  intro i x s b h
  revert h
  simp only [Bool.cond_eq_ite]
  repeat' split
  all_goals (intro h;first | (cases h;rfl) | cases h)
def idx_eq (a0:List az)(a1:Int):md a0 a1=iT (fun y=>Z241.md y a1) 0 a0:=by
 unfold md
 exact gO
end Z242
namespace Z243
def F (x0:aB)(x1:List L):aJ:=(call (Z242.R (x0,(gm x1))) fun v1=>ret ((decide (v1>=0)):Bool))
def pats:List ga:=[.rd (.sl 143),.fn 213 [[aC]]]
def res:RP:=.one (.rd (.bool))
def md (a0:List az)(a1:Int):Bool:=((decide ((Z242.md a0 a1)>=0)):Bool)
def gd (a0:List az)(a1:Int):Prop:=(bM (2^21) (fun y:az=>az.Sm (2^21) y) a0)
def acc (ls:List L):aB×Int:=((ls.headD .hole).aQ,(gm (cP 1 (aA 1 ls))))
def R:(aB×Int)->Option Bool:=RR (p2 gd) (u2 md)
def an {a0 a1}(h:gd a0 a1):R ((a0.map az.row),a1)=some (md a0 a1):=aP (a:=(a0,a1)) h
def aU:fR:=CN pats res acc R
def bA (a0:List az)(a1:Int)(p1:List L)(e1:a1=(gm p1))(hg:gd a0 a1):F (a0.map az.row) p1=ret ((md a0 a1):Bool):=by
 unfold gd at hg
 have H0:=hg
 unfold F md
 try simp only [SS,<-e1]
 refine ct (Z242.an H0) ?_
 have fv1_:=Z242.fa a0 a1
 all_goals exact fz
def ox (ls:List L)(a:List az×Int)(e:acc ls=Im.im a)(hg:(p2 gd) a):∃n:Nat,F ((ls.headD .hole).aQ) (cP 1 (aA 1 ls))=ret (Im.im ((u2 md) a)):=by
 have e0:(a.1.map az.row)=(ls.headD .hole).aQ:=(congrArg (fun x=>x.1) e.symm)
 have hn:=bA a.1 a.2 (cP 1 (aA 1 ls)) (congrArg (fun x=>x.2) e.symm) hg
 refine ⟨0,?_⟩
 rw [<-e0]
 exact hn
def af:cD 212 aU:=VP (live:=fun _=>[]) (nt:=9) (accr:=fun ls=>((ls.headD .hole).aQ,(cP 1 (aA 1 ls)))) (run:=fun _ x=>F x.1 x.2) mix aE (.cons Z242.af .nil) Tryz.func212 (by kernel_rfl) (fun _ _=>by kernel_rfl) (fun ls a _ e hg=>ox ls a e hg)
def any_eq (a0:List az)(a1:Int):md a0 a1=a0.any (fun y=>Z241.md y a1):=by
 unfold md
 rw [Z242.idx_eq]
 exact qi
end Z243
namespace Z244
def F (x0:bn)(x1:Int):aJ:=(cond (decide (x1>=0)) (call (Z243.R (x0.aW,x1)) fun v1=>ret (v1:Bool)) bf)
def md (a0:aj)(a1:Int):Bool:=(cond (decide (a1>=0)) ((Z243.md a0.aW a1):Bool) (false:Bool))
def gd (a0:aj)(a1:Int):Prop:=(aj.Sm (2^21) a0)
def R:=RR (p2 gd) (u2 md)
def an {a0 a1}(h:gd a0 a1):R ((aj.r a0),a1)=some (md a0 a1):=aP (a:=(a0,a1)) h
def aU:=CN [.agg rT,pI] oB RT.dec R
def bA (a0)(a1)(hg:gd a0 a1):F (aj.r a0) a1=ret (md a0 a1):=by
 unfold gd at hg
 have H0:=hg
 unfold F md
 try simp only [SS]
 refine av ret (fun c1=>?_) (fun _=>rfl)
 refine ct (Z243.an H0.2) ?_
 all_goals exact fz
def af:cD 171 aU:=W2 13 F mix aE bA (.cons Z243.af .nil) Tryz.func171
def br (a0:aj)(a1:Int):md a0 a1=Z121.md a0 a1:=by
 unfold md Z121.md
 rw [Z243.any_eq]
 rw [mW (p:=fun y=>(Z120.md y==a1)&&decide (a1>=0)) (fun x s=>by
  cases (Z120.md x==a1)<;>cases decide (a1>=0)<;>rfl) a0.aW ()]
 have e:(fun y=>Z241.md y a1)=fun y=>Z120.md y==a1:=by
  funext y
  unfold Z241.md
  rw [Z240.br]
 rw [e]
 cases decide (a1>=0)
 ·simp
 ·simp
end Z244
namespace Z245
abbrev E (n:Nat):Env:={ T:=assoc jV,G:=dw [(168,Z228.aU),(169,Z179.aU),(170,Z236.aU),(131,Z135.aU),(171,Z244.aU)],nt:=74,M:=fK [],np:=n,I:=nU [] }
def ic (n:Nat):kI:=inl (E n) Tryz.f137
def sG (n:Nat):gQ Tryz.prog Ev n 137 (ic n):=xT (mt:=false) mix aE (.cons Z228.af (.cons Z179.af (.cons Z236.af (.cons Z135.af (.cons Z244.af .nil))))) .nil .nil Tryz.func137 (by kernel_rfl)
end Z245
namespace Z246
inductive Pt where
 | p0 (a:Int) (b:aD) (c:Int) (d:aB) (e f:Int) (g:Bool) (h:aD) (i j:Int) (k l:Bool) (m:aD) (n o:Int) (p:Bool) (q s t:aB)
def pid:Pt->Nat
 | .p0 ..=>3
def bY:Pt->List V
 | .p0 a b c d e f g h i j k l m n o p q s t=>[.int .i64 a,.str b,.int .i64 c,.cN 0 0,.cN 1 0,.sl none 165 d,.int .i64 e,.int .i64 f,.cN 1 0]
def bX:Pt->List aV
 | .p0 a b c d e f g h i j k l m n o p q s t=>[.box [.nil,.nil,.bool g,.str h,.int .i64 i,.int .i64 j,.nil,.bool k,.nil],.box [.own 2,.own 3,.bool l,.str m,.int .i64 n,.int .i64 o,.nil,.bool p,.own 4],.row 134 q,.row 143 s,.row 3 t]
def step (J:Pt->aJ):Pt->aJ
 | .p0 a b c d e f g h i j k l m n o p q s t=>(cond (decide (f<e)) (m2 f (d.length:Int) (call (Z228.R (a,b,(bk.at d (toNat f)),c)) fun v1=>(call (Z179.R ((bk.at d (toNat f)).aT)) fun v2=>(cond v2 (cj (decide ((0:Int)<((bk.at d (toNat f)).aT.length:Int))) (cond ((aR.at ((bk.at d (toNat f)).aT) 0).aq.bz==a) (call (Z236.R ((⟨q,s⟩:bn),(bk.at d (toNat f)).aT)) fun v3=>(call (Z135.R (v3.2,1,3)) fun v4=>(cond v4 (call (Z244.R (v3.1,a)) fun v5=>(cond (v1==1) (cond (!(!v5)) (cj (eS (((t.length:Int)+1)*8)) (J (.p0 a b c d e (i64.wrap (f+1)) g h i j k l m n o p v3.1.aG v3.1.aW (t++[[L.int 3]])))) (cj (eS (((t.length:Int)+1)*8)) (cond (v1==1) (call (Z207.R ((bk.at d (toNat f)).bp)) fun v6=>ret (((⟨v3.1,(bk.at d (toNat f)).cy,v6,true,(t++[[L.int v1]])⟩:cZ),f):cZ×Int)) (J (.p0 a b c d e (i64.wrap (f+1)) g h i j k l m n o p v3.1.aG v3.1.aW (t++[[L.int v1]])))))) (cj (eS (((t.length:Int)+1)*8)) (cond (v1==1) (call (Z207.R ((bk.at d (toNat f)).bp)) fun v7=>ret (((⟨v3.1,(bk.at d (toNat f)).cy,v7,true,(t++[[L.int v1]])⟩:cZ),f):cZ×Int)) (J (.p0 a b c d e (i64.wrap (f+1)) g h i j k l m n o p v3.1.aG v3.1.aW (t++[[L.int v1]]))))))) (cond (v1==1) (cj (eS (((t.length:Int)+1)*8)) (J (.p0 a b c d e (i64.wrap (f+1)) g h i j k l m n o p v3.1.aG v3.1.aW (t++[[L.int 3]])))) (cj (eS (((t.length:Int)+1)*8)) (cond (v1==1) (call (Z207.R ((bk.at d (toNat f)).bp)) fun v8=>ret (((⟨v3.1,(bk.at d (toNat f)).cy,v8,true,(t++[[L.int v1]])⟩:cZ),f):cZ×Int)) (J (.p0 a b c d e (i64.wrap (f+1)) g h i j k l m n o p v3.1.aG v3.1.aW (t++[[L.int v1]]))))))))) (call (Z135.R (6,1,3)) fun v9=>(cond v9 (call (Z244.R ((⟨q,s⟩:bn),a)) fun v10=>(cond (v1==1) (cond (!(!v10)) (cj (eS (((t.length:Int)+1)*8)) (J (.p0 a b c d e (i64.wrap (f+1)) g h i j k l m n o p q s (t++[[L.int 3]])))) (cj (eS (((t.length:Int)+1)*8)) (cond (v1==1) (call (Z207.R ((bk.at d (toNat f)).bp)) fun v11=>ret (((⟨(⟨q,s⟩:bn),(bk.at d (toNat f)).cy,v11,true,(t++[[L.int v1]])⟩:cZ),f):cZ×Int)) (J (.p0 a b c d e (i64.wrap (f+1)) g h i j k l m n o p q s (t++[[L.int v1]])))))) (cj (eS (((t.length:Int)+1)*8)) (cond (v1==1) (call (Z207.R ((bk.at d (toNat f)).bp)) fun v12=>ret (((⟨(⟨q,s⟩:bn),(bk.at d (toNat f)).cy,v12,true,(t++[[L.int v1]])⟩:cZ),f):cZ×Int)) (J (.p0 a b c d e (i64.wrap (f+1)) g h i j k l m n o p q s (t++[[L.int v1]]))))))) (cond (v1==1) (cj (eS (((t.length:Int)+1)*8)) (J (.p0 a b c d e (i64.wrap (f+1)) g h i j k l m n o p q s (t++[[L.int 3]])))) (cj (eS (((t.length:Int)+1)*8)) (cond (v1==1) (call (Z207.R ((bk.at d (toNat f)).bp)) fun v13=>ret (((⟨(⟨q,s⟩:bn),(bk.at d (toNat f)).cy,v13,true,(t++[[L.int v1]])⟩:cZ),f):cZ×Int)) (J (.p0 a b c d e (i64.wrap (f+1)) g h i j k l m n o p q s (t++[[L.int v1]])))))))))) (call (Z135.R (6,1,3)) fun v14=>(cond v14 (call (Z244.R ((⟨q,s⟩:bn),a)) fun v15=>(cond (v1==1) (cond (!(!v15)) (cj (eS (((t.length:Int)+1)*8)) (J (.p0 a b c d e (i64.wrap (f+1)) g h i j k l m n o p q s (t++[[L.int 3]])))) (cj (eS (((t.length:Int)+1)*8)) (cond (v1==1) (call (Z207.R ((bk.at d (toNat f)).bp)) fun v16=>ret (((⟨(⟨q,s⟩:bn),(bk.at d (toNat f)).cy,v16,true,(t++[[L.int v1]])⟩:cZ),f):cZ×Int)) (J (.p0 a b c d e (i64.wrap (f+1)) g h i j k l m n o p q s (t++[[L.int v1]])))))) (cj (eS (((t.length:Int)+1)*8)) (cond (v1==1) (call (Z207.R ((bk.at d (toNat f)).bp)) fun v17=>ret (((⟨(⟨q,s⟩:bn),(bk.at d (toNat f)).cy,v17,true,(t++[[L.int v1]])⟩:cZ),f):cZ×Int)) (J (.p0 a b c d e (i64.wrap (f+1)) g h i j k l m n o p q s (t++[[L.int v1]]))))))) (cond (v1==1) (cj (eS (((t.length:Int)+1)*8)) (J (.p0 a b c d e (i64.wrap (f+1)) g h i j k l m n o p q s (t++[[L.int 3]])))) (cj (eS (((t.length:Int)+1)*8)) (cond (v1==1) (call (Z207.R ((bk.at d (toNat f)).bp)) fun v18=>ret (((⟨(⟨q,s⟩:bn),(bk.at d (toNat f)).cy,v18,true,(t++[[L.int v1]])⟩:cZ),f):cZ×Int)) (J (.p0 a b c d e (i64.wrap (f+1)) g h i j k l m n o p q s (t++[[L.int v1]])))))))))))) (ret (((⟨(⟨q,s⟩:bn),l,(⟨m,n,o,[]⟩:aY),p,t⟩:cZ),(-1)):cZ×Int)))
def start (J:Pt->aJ)(x0:bn)(x1:aB)(x2:Int)(x3:aD)(x4:Int):aJ:=(call (Z134.R x0) fun v1=>J (.p0 x2 x3 x4 x1 (x1.length:Int) 0 false ⟨#[]⟩ 0 0 false false ⟨#[]⟩ 0 0 false v1.aG v1.aW []))
def live:Nat->Live:=fun i=>match i with | 3=>[(2,none),(3,none),(4,none),(10,none),(12,none),(18,none),(19,none),(20,none),(12,some 8388611)] | _=>[]
def pats:List ga:=[.agg [.sl 134,.sl 143],.rd (.sl 165),.rd (.int .i64),.rd (.str),.rd (.int .i64)]
def res:RP:=.iJ [(true,[.fr 134,.fr 143,.rd (.bool),.rd (.str),.rd (.int .i64),.rd (.int .i64),.fr 9,.rd (.bool),.fr 3]),(false,[.rd (.int .i64)])]
abbrev E:Env:={ T:=assoc jV,G:=dw [(48,Z134.aU),(136,Z207.aU)],nt:=42,M:=fK [],I:=nU [(137,Z245.ic 0)] }
def step_eq (I:cB)(p:Pt):cR E live I (pid p) (bL Tryz.f109) (fm (live (pid p)) (bY p) (bX p)) (cA E Tryz.f109 res)=step (fun q=>I (pid q) (bY q) (bX q)) p:=by
 cases p<;>kernel_rfl
def start_eq (I:cB)(ls:List L):eL E live I (bL Tryz.f109) (cU pats ls) (cA E Tryz.f109 res)=start (fun q=>I (pid q) (bY q) (bX q)) (bn.dec ls) ((aA 2 ls).headD .hole).aQ ((aA 3 ls).headD .hole).toInt ((aA 4 ls).headD .hole).toStr ((aA 5 ls).headD .hole).toInt:=by kernel_rfl
def run_eq (n:Nat)(ls:List L):eG E live Tryz.f109 res n (cU pats ls)=start (iter step n) (bn.dec ls) ((aA 2 ls).headD .hole).aQ ((aA 3 ls).headD .hole).toInt ((aA 4 ls).headD .hole).toStr ((aA 5 ls).headD .hole).toInt:=cq (id:=pid) (vs:=bY) (hs:=bX) (step:=step) (start:=fun J=>start J (bn.dec ls) ((aA 2 ls).headD .hole).aQ ((aA 3 ls).headD .hole).toInt ((aA 4 ls).headD .hole).toStr ((aA 5 ls).headD .hole).toInt) step_eq (fun I=>start_eq I ls) n
def md (a0:aj)(a1:List ay)(a2:Int)(a3:aD)(a4:Int):bU×Int:=(dD (S:=List (List aa)×List az×List Int) (β:=bU×Int) (fun (i1:Nat) (y1:ay) (s3:List (List aa)×List az×List Int)=>(cond (Z179.md (y1.aT)) (cond (((y1.aT.getD 0 aa.zero).aq).bz==a2) (cond (Z135.md ((Z236.md (⟨s3.1,s3.2.1⟩:aj) (y1.aT)).2) 1 3) (cond ((Z228.md a2 a3 y1 a4)==1) (cond (!(!(Z244.md ((Z236.md (⟨s3.1,s3.2.1⟩:aj) (y1.aT)).1) a2))) (.inl ((Z236.md (⟨s3.1,s3.2.1⟩:aj) (y1.aT)).1.aG,(Z236.md (⟨s3.1,s3.2.1⟩:aj) (y1.aT)).1.aW,(s3.2.2++[3]))) (cond ((Z228.md a2 a3 y1 a4)==1) (.inr ((⟨(Z236.md (⟨s3.1,s3.2.1⟩:aj) (y1.aT)).1,y1.cy,(y1.bp),true,(s3.2.2++[(Z228.md a2 a3 y1 a4)])⟩:bU),(i1:Int))) (.inl ((Z236.md (⟨s3.1,s3.2.1⟩:aj) (y1.aT)).1.aG,(Z236.md (⟨s3.1,s3.2.1⟩:aj) (y1.aT)).1.aW,(s3.2.2++[(Z228.md a2 a3 y1 a4)]))))) (cond ((Z228.md a2 a3 y1 a4)==1) (.inr ((⟨(Z236.md (⟨s3.1,s3.2.1⟩:aj) (y1.aT)).1,y1.cy,(y1.bp),true,(s3.2.2++[(Z228.md a2 a3 y1 a4)])⟩:bU),(i1:Int))) (.inl ((Z236.md (⟨s3.1,s3.2.1⟩:aj) (y1.aT)).1.aG,(Z236.md (⟨s3.1,s3.2.1⟩:aj) (y1.aT)).1.aW,(s3.2.2++[(Z228.md a2 a3 y1 a4)]))))) (cond ((Z228.md a2 a3 y1 a4)==1) (.inl ((Z236.md (⟨s3.1,s3.2.1⟩:aj) (y1.aT)).1.aG,(Z236.md (⟨s3.1,s3.2.1⟩:aj) (y1.aT)).1.aW,(s3.2.2++[3]))) (cond ((Z228.md a2 a3 y1 a4)==1) (.inr ((⟨(Z236.md (⟨s3.1,s3.2.1⟩:aj) (y1.aT)).1,y1.cy,(y1.bp),true,(s3.2.2++[(Z228.md a2 a3 y1 a4)])⟩:bU),(i1:Int))) (.inl ((Z236.md (⟨s3.1,s3.2.1⟩:aj) (y1.aT)).1.aG,(Z236.md (⟨s3.1,s3.2.1⟩:aj) (y1.aT)).1.aW,(s3.2.2++[(Z228.md a2 a3 y1 a4)])))))) (cond (Z135.md 6 1 3) (cond ((Z228.md a2 a3 y1 a4)==1) (cond (!(!(Z244.md (⟨s3.1,s3.2.1⟩:aj) a2))) (.inl (s3.1,s3.2.1,(s3.2.2++[3]))) (cond ((Z228.md a2 a3 y1 a4)==1) (.inr ((⟨(⟨s3.1,s3.2.1⟩:aj),y1.cy,(y1.bp),true,(s3.2.2++[(Z228.md a2 a3 y1 a4)])⟩:bU),(i1:Int))) (.inl (s3.1,s3.2.1,(s3.2.2++[(Z228.md a2 a3 y1 a4)]))))) (cond ((Z228.md a2 a3 y1 a4)==1) (.inr ((⟨(⟨s3.1,s3.2.1⟩:aj),y1.cy,(y1.bp),true,(s3.2.2++[(Z228.md a2 a3 y1 a4)])⟩:bU),(i1:Int))) (.inl (s3.1,s3.2.1,(s3.2.2++[(Z228.md a2 a3 y1 a4)]))))) (cond ((Z228.md a2 a3 y1 a4)==1) (.inl (s3.1,s3.2.1,(s3.2.2++[3]))) (cond ((Z228.md a2 a3 y1 a4)==1) (.inr ((⟨(⟨s3.1,s3.2.1⟩:aj),y1.cy,(y1.bp),true,(s3.2.2++[(Z228.md a2 a3 y1 a4)])⟩:bU),(i1:Int))) (.inl (s3.1,s3.2.1,(s3.2.2++[(Z228.md a2 a3 y1 a4)]))))))) (cond (Z135.md 6 1 3) (cond ((Z228.md a2 a3 y1 a4)==1) (cond (!(!(Z244.md (⟨s3.1,s3.2.1⟩:aj) a2))) (.inl (s3.1,s3.2.1,(s3.2.2++[3]))) (cond ((Z228.md a2 a3 y1 a4)==1) (.inr ((⟨(⟨s3.1,s3.2.1⟩:aj),y1.cy,(y1.bp),true,(s3.2.2++[(Z228.md a2 a3 y1 a4)])⟩:bU),(i1:Int))) (.inl (s3.1,s3.2.1,(s3.2.2++[(Z228.md a2 a3 y1 a4)]))))) (cond ((Z228.md a2 a3 y1 a4)==1) (.inr ((⟨(⟨s3.1,s3.2.1⟩:aj),y1.cy,(y1.bp),true,(s3.2.2++[(Z228.md a2 a3 y1 a4)])⟩:bU),(i1:Int))) (.inl (s3.1,s3.2.1,(s3.2.2++[(Z228.md a2 a3 y1 a4)]))))) (cond ((Z228.md a2 a3 y1 a4)==1) (.inl (s3.1,s3.2.1,(s3.2.2++[3]))) (cond ((Z228.md a2 a3 y1 a4)==1) (.inr ((⟨(⟨s3.1,s3.2.1⟩:aj),y1.cy,(y1.bp),true,(s3.2.2++[(Z228.md a2 a3 y1 a4)])⟩:bU),(i1:Int))) (.inl (s3.1,s3.2.1,(s3.2.2++[(Z228.md a2 a3 y1 a4)])))))))) (fun (s3:List (List aa)×List az×List Int)=>((⟨(⟨s3.1,s3.2.1⟩:aj),false,(⟨(⟨#[]⟩:aD),0,0,[]⟩:ah),false,s3.2.2⟩:bU),(-1))) 0 a1 (a0.aG,a0.aW,[]))
def gd (a0:aj)(a1:List ay)(a2:Int)(a3:aD)(a4:Int):Prop:=(aj.Sm (2^21) a0)/\(bM (2^21) (fun y:ay=>ay.Sm (2^21) y) a1)/\(a3.size<=(2^21))
def acc (ls:List L):bn×aB×Int×aD×Int:=((bn.dec ls),((aA 2 ls).headD .hole).aQ,((aA 3 ls).headD .hole).toInt,((aA 4 ls).headD .hole).toStr,((aA 5 ls).headD .hole).toInt)
def R:(bn×aB×Int×aD×Int)->Option (cZ×Int):=RR (p5 gd) (u5 md)
def an {a0 a1 a2 a3 a4}(h:gd a0 a1 a2 a3 a4):R ((aj.r a0),(a1.map ay.row),a2,a3,a4)=some ((bU.r (md a0 a1 a2 a3 a4).1),(md a0 a1 a2 a3 a4).2):=aP (a:=(a0,a1,a2,a3,a4)) h
def aU:fR:=CN pats res acc R
def bA (a0:aj)(a1:List ay)(a2:Int)(a3:aD)(a4:Int)(hg:gd a0 a1 a2 a3 a4):∃n,start (iter step n) (aj.r a0) (a1.map ay.row) a2 a3 a4=ret (((bU.r (md a0 a1 a2 a3 a4).1),(md a0 a1 a2 a3 a4).2):cZ×Int):=by
 obtain ⟨H0,H1,H3⟩:=hg
 unfold start md
 try simp only [SS]
 refine cx (Z134.an H0) ?_
 try simp only [SS]
 have Bh2:a1.length<=maxLen:=(by
   have:=(H1).1
   try simp only [maxLen] at *
   omega)
 refine ex_eq (out:=(fun b:bU×Int=>ret (((bU.r b.1),b.2):cZ×Int))) (cV (z:=ay.zero)) ?_
 refine dM (p:=Pt.p0 a2 a3 a4 (a1.map ay.row) (a1.length:Int) 0 false (⟨#[]⟩:aD) 0 0 false false (⟨#[]⟩:aD) 0 0 false (a0.aG.map (dI aa.row)) (a0.aW.map az.row) ([].map bq)) fz ?_
 refine ck (pt:=fun (i1:Nat) (s3:List (List aa)×List az×List Int)=>Pt.p0 a2 a3 a4 (a1.map ay.row) (a1.length:Int) (i1:Int) false (⟨#[]⟩:aD) 0 0 false false (⟨#[]⟩:aD) 0 0 false (s3.1.map (dI aa.row)) (s3.2.1.map az.row) (s3.2.2.map bq)) (s:=((a0.aG,a0.aW,[]):List (List aa)×List az×List Int)) (out:=(fun b:bU×Int=>ret (((bU.r b.1),b.2):cZ×Int))) (fun (i1:Nat) (s3:List (List aa)×List az×List Int)=>aj.Sm (2^21) (⟨s3.1,s3.2.1⟩:aj)/\s3.2.2.length<=i1) (fun J i1 s3 h2 hih2=>?_) (fun s3 hih2=>?_) ⟨H0,zero_le _⟩
 ·simp only [step,SS]
  have gr_:=hih2
  try simp only [LN] at gr_
  have bb_:=Bh2
  simp only [maxLen] at bb_
  have:=(H1).1
  refine bC.yes (by apply decide_eq_true;omega) ?_
  refine bC.yes aI ?_
  refine bC.yes (aK h2) ?_
  refine cr (Z228.an ⟨H3,(bM.getD (z:=ay.zero) H1 h2)⟩) ?_
  refine cr (Z179.an (bM.getD (z:=ay.zero) H1 h2).1) ?_
  refine bC.bif (fun c4=>?_) (fun c4=>?_)
  ·try have tc4:=Z179.tr (by simpa using c4)
   refine bC.yes (have:=((bM.getD (z:=ay.zero) H1 h2).1).1;dt) ?_
   refine bC.bif (fun c5=>?_) (fun c5=>?_)
   ·have dc5:=c5
    try simp only [DC] at dc5
    refine cr (Z236.an (a0:=(⟨s3.1,s3.2.1⟩:aj)) ⟨⟨hih2.1.1,hih2.1.2⟩,(bM.getD (z:=ay.zero) H1 h2).1⟩) ?_
    try simp only [SS]
    refine cr (Z135.an (a0:=(Z236.md (⟨s3.1,s3.2.1⟩:aj) ((a1.getD i1 ay.zero).aT)).2) trivial) ?_
    refine bC.bif (fun c6=>?_) (fun c6=>?_)
    ·have Dc6:=c6
     try simp [Z135.md] at Dc6
     refine cr (Z244.an (a0:=(Z236.md (⟨s3.1,s3.2.1⟩:aj) ((a1.getD i1 ay.zero).aT)).1) (Z236.fL (a0:=(⟨s3.1,s3.2.1⟩:aj)) (a1:=(a1.getD i1 ay.zero).aT) ⟨⟨hih2.1.1,hih2.1.2⟩,(bM.getD (z:=ay.zero) H1 h2).1⟩)) ?_
     refine bC.bif (fun c7=>?_) (fun c7=>?_)
     ·have dc7:=c7
      try simp only [DC] at dc7
      refine bC.bif (fun c8=>?_) (fun c8=>?_)
      ·have dc8:=c8
       try simp only [DC] at dc8
       refine bC.yes lm ?_
       refine bC.inl (by first | exact ⟨hih2.1,gW hih2.2⟩ | exact ⟨Z236.fL ⟨hih2.1,(bM.getD H1 h2).1⟩,gW hih2.2⟩) ?_
       rw [aH h2 Bh2]
       all_goals exact fz
      ·have dc8:=c8
       try simp only [DC] at dc8
       refine bC.yes lm ?_
       refine bC.bif (fun c9=>?_) (fun c9=>?_)
       ·refine cr (Z207.an (bM.getD (z:=ay.zero) H1 h2).2.1) ?_
        try simp only [SS]
        refine bC.inr ?_
        all_goals exact fz
       ·refine bC.inl (by first | exact ⟨hih2.1,gW hih2.2⟩ | exact ⟨Z236.fL ⟨hih2.1,(bM.getD H1 h2).1⟩,gW hih2.2⟩) ?_
        rw [aH h2 Bh2]
        all_goals exact fz
     ·have dc7:=c7
      try simp only [DC] at dc7
      refine bC.yes lm ?_
      refine bC.bif (fun c10=>?_) (fun c10=>?_)
      ·refine cr (Z207.an (bM.getD (z:=ay.zero) H1 h2).2.1) ?_
       try simp only [SS]
       refine bC.inr ?_
       all_goals exact fz
      ·refine bC.inl (by first | exact ⟨hih2.1,gW hih2.2⟩ | exact ⟨Z236.fL ⟨hih2.1,(bM.getD H1 h2).1⟩,gW hih2.2⟩) ?_
       rw [aH h2 Bh2]
       all_goals exact fz
    ·have Dc6:=c6
     try simp [Z135.md] at Dc6
     refine bC.bif (fun c11=>?_) (fun c11=>?_)
     ·have dc11:=c11
      try simp only [DC] at dc11
      refine bC.yes lm ?_
      refine bC.inl (by first | exact ⟨hih2.1,gW hih2.2⟩ | exact ⟨Z236.fL ⟨hih2.1,(bM.getD H1 h2).1⟩,gW hih2.2⟩) ?_
      rw [aH h2 Bh2]
      all_goals exact fz
     ·have dc11:=c11
      try simp only [DC] at dc11
      refine bC.yes lm ?_
      refine bC.bif (fun c12=>?_) (fun c12=>?_)
      ·refine cr (Z207.an (bM.getD (z:=ay.zero) H1 h2).2.1) ?_
       try simp only [SS]
       refine bC.inr ?_
       all_goals exact fz
      ·refine bC.inl (by first | exact ⟨hih2.1,gW hih2.2⟩ | exact ⟨Z236.fL ⟨hih2.1,(bM.getD H1 h2).1⟩,gW hih2.2⟩) ?_
       rw [aH h2 Bh2]
       all_goals exact fz
   ·have dc5:=c5
    try simp only [DC] at dc5
    refine cr (Z135.an trivial) ?_
    refine bC.bif (fun c13=>?_) (fun c13=>?_)
    ·refine cr (Z244.an (a0:=(⟨s3.1,s3.2.1⟩:aj)) ⟨hih2.1.1,hih2.1.2⟩) ?_
     refine bC.bif (fun c14=>?_) (fun c14=>?_)
     ·have dc14:=c14
      try simp only [DC] at dc14
      refine bC.bif (fun c15=>?_) (fun c15=>?_)
      ·have dc15:=c15
       try simp only [DC] at dc15
       refine bC.yes lm ?_
       refine bC.inl (by first | exact ⟨hih2.1,gW hih2.2⟩ | exact ⟨Z236.fL ⟨hih2.1,(bM.getD H1 h2).1⟩,gW hih2.2⟩) ?_
       rw [aH h2 Bh2]
       all_goals exact fz
      ·have dc15:=c15
       try simp only [DC] at dc15
       refine bC.yes lm ?_
       refine bC.bif (fun c16=>?_) (fun c16=>?_)
       ·refine cr (Z207.an (bM.getD (z:=ay.zero) H1 h2).2.1) ?_
        try simp only [SS]
        refine bC.inr ?_
        all_goals exact fz
       ·refine bC.inl (by first | exact ⟨hih2.1,gW hih2.2⟩ | exact ⟨Z236.fL ⟨hih2.1,(bM.getD H1 h2).1⟩,gW hih2.2⟩) ?_
        rw [aH h2 Bh2]
        all_goals exact fz
     ·have dc14:=c14
      try simp only [DC] at dc14
      refine bC.yes lm ?_
      refine bC.bif (fun c17=>?_) (fun c17=>?_)
      ·refine cr (Z207.an (bM.getD (z:=ay.zero) H1 h2).2.1) ?_
       try simp only [SS]
       refine bC.inr ?_
       all_goals exact fz
      ·refine bC.inl (by first | exact ⟨hih2.1,gW hih2.2⟩ | exact ⟨Z236.fL ⟨hih2.1,(bM.getD H1 h2).1⟩,gW hih2.2⟩) ?_
       rw [aH h2 Bh2]
       all_goals exact fz
    ·refine bC.bif (fun c18=>?_) (fun c18=>?_)
     ·have dc18:=c18
      try simp only [DC] at dc18
      refine bC.yes lm ?_
      refine bC.inl (by first | exact ⟨hih2.1,gW hih2.2⟩ | exact ⟨Z236.fL ⟨hih2.1,(bM.getD H1 h2).1⟩,gW hih2.2⟩) ?_
      rw [aH h2 Bh2]
      all_goals exact fz
     ·have dc18:=c18
      try simp only [DC] at dc18
      refine bC.yes lm ?_
      refine bC.bif (fun c19=>?_) (fun c19=>?_)
      ·refine cr (Z207.an (bM.getD (z:=ay.zero) H1 h2).2.1) ?_
       try simp only [SS]
       refine bC.inr ?_
       all_goals exact fz
      ·refine bC.inl (by first | exact ⟨hih2.1,gW hih2.2⟩ | exact ⟨Z236.fL ⟨hih2.1,(bM.getD H1 h2).1⟩,gW hih2.2⟩) ?_
       rw [aH h2 Bh2]
       all_goals exact fz
  ·try have tc4:=Z179.tr (by simpa using c4)
   refine cr (Z135.an trivial) ?_
   refine bC.bif (fun c20=>?_) (fun c20=>?_)
   ·refine cr (Z244.an (a0:=(⟨s3.1,s3.2.1⟩:aj)) ⟨hih2.1.1,hih2.1.2⟩) ?_
    refine bC.bif (fun c21=>?_) (fun c21=>?_)
    ·have dc21:=c21
     try simp only [DC] at dc21
     refine bC.bif (fun c22=>?_) (fun c22=>?_)
     ·have dc22:=c22
      try simp only [DC] at dc22
      refine bC.yes lm ?_
      refine bC.inl (by first | exact ⟨hih2.1,gW hih2.2⟩ | exact ⟨Z236.fL ⟨hih2.1,(bM.getD H1 h2).1⟩,gW hih2.2⟩) ?_
      rw [aH h2 Bh2]
      all_goals exact fz
     ·have dc22:=c22
      try simp only [DC] at dc22
      refine bC.yes lm ?_
      refine bC.bif (fun c23=>?_) (fun c23=>?_)
      ·refine cr (Z207.an (bM.getD (z:=ay.zero) H1 h2).2.1) ?_
       try simp only [SS]
       refine bC.inr ?_
       all_goals exact fz
      ·refine bC.inl (by first | exact ⟨hih2.1,gW hih2.2⟩ | exact ⟨Z236.fL ⟨hih2.1,(bM.getD H1 h2).1⟩,gW hih2.2⟩) ?_
       rw [aH h2 Bh2]
       all_goals exact fz
    ·have dc21:=c21
     try simp only [DC] at dc21
     refine bC.yes lm ?_
     refine bC.bif (fun c24=>?_) (fun c24=>?_)
     ·refine cr (Z207.an (bM.getD (z:=ay.zero) H1 h2).2.1) ?_
      try simp only [SS]
      refine bC.inr ?_
      all_goals exact fz
     ·refine bC.inl (by first | exact ⟨hih2.1,gW hih2.2⟩ | exact ⟨Z236.fL ⟨hih2.1,(bM.getD H1 h2).1⟩,gW hih2.2⟩) ?_
      rw [aH h2 Bh2]
      all_goals exact fz
   ·refine bC.bif (fun c25=>?_) (fun c25=>?_)
    ·have dc25:=c25
     try simp only [DC] at dc25
     refine bC.yes lm ?_
     refine bC.inl (by first | exact ⟨hih2.1,gW hih2.2⟩ | exact ⟨Z236.fL ⟨hih2.1,(bM.getD H1 h2).1⟩,gW hih2.2⟩) ?_
     rw [aH h2 Bh2]
     all_goals exact fz
    ·have dc25:=c25
     try simp only [DC] at dc25
     refine bC.yes lm ?_
     refine bC.bif (fun c26=>?_) (fun c26=>?_)
     ·refine cr (Z207.an (bM.getD (z:=ay.zero) H1 h2).2.1) ?_
      try simp only [SS]
      refine bC.inr ?_
      all_goals exact fz
     ·refine bC.inl (by first | exact ⟨hih2.1,gW hih2.2⟩ | exact ⟨Z236.fL ⟨hih2.1,(bM.getD H1 h2).1⟩,gW hih2.2⟩) ?_
      rw [aH h2 Bh2]
      all_goals exact fz
 ·simp only [step,SS]
  have gr_:=hih2
  try simp only [LN] at gr_
  have:=(H1).1
  refine dx (by apply decide_eq_false;omega) ?_
  refine ⟨0,?_⟩
  all_goals exact fz
def af:cD 109 aU:=VI (mt:=false) (run:=fun n x=>start (iter step n) x.1 x.2.1 x.2.2.1 x.2.2.2.1 x.2.2.2.2) mix aE (.cons Z134.af (.cons Z207.af .nil)) .nil (.cons (Z245.sG 0) .nil) Tryz.func109 (by kernel_rfl) run_eq (fun _ a _ _ hg=>bA a.1 a.2.1 a.2.2.1 a.2.2.2.1 a.2.2.2.2 hg)
def qS (a0:aj)(a1:List ay)(a2:Int)(a3:aD)(a4:Int):md a0 a1 a2 a3 a4=dD (fun i y s=>(Z122.pK a2 a3 a4 y s).map id (fun b=>(b,(i:Int)))) (fun s=>(Z122.fin s,-1)) 0 a1 (a0.aG,a0.aW,[]):=by
 unfold md
 refine kQ (fun i y _ s=>?_) (fun s=>rfl)
 have h31:((3:Int)==1)=false:=rfl
 have h61:((6:Int)==1)=false:=rfl
 have h62:((6:Int)==2)=false:=rfl
 have h63:((6:Int)==3)=false:=rfl
 have hin:∀n:Int,Z135.md n 1 3=(n==1||(n==2||n==3)):=fun n=>by
  unfold Z135.md
  rw [Bool.eq_iff_iff];simp;omega
 simp only [Z228.br,Z179.br,Z236.br,Z244.br,hin]
 unfold Z122.pK Z122.nS
 cases g1:Z73.md y.aT
 ·have e:(Z74.md y.aT).2=false:=by unfold Z74.md;rw [g1];rfl
  cases g2:(Z117.md a2 a3 y a4==1)<;>simp [e,g2,h31,h61,h62,h63,Sum.map]
 have hl:=Z73.tr g1
 have e:(Z74.md y.aT).2=true:=by unfold Z74.md;rw [g1];rfl
 have e2:(Z74.md y.aT).1.bz=(y.aT.getD 0 aa.zero).aq.bz:=by
  have hi:toNat (i64.wrap ((y.aT.length:Int) - 1))=y.aT.length - 1:=by simp (disch:=omega) only [wi];omega
  have:=Z73.Bo g1 (y.aT.length - 1) (by omega)
  unfold Z74.md
  rw [g1,hi]
  exact this
 rw [e2,e]
 cases g3:((y.aT.getD 0 aa.zero).aq.bz==a2)
 ·cases g2:(Z117.md a2 a3 y a4==1)<;>simp [g2,h31,h61,h62,h63,Sum.map]
 generalize Z106.md (⟨s.1,s.2.1⟩:aj) y.aT=r
 cases g2:(Z117.md a2 a3 y a4==1)<;>cases g4:(r.2==1)<;>cases g5:(r.2==2)<;>cases g6:(r.2==3)<;>cases g7:Z121.md r.1 a2<;>simp [g2,g4,g5,g6,g7,h31,Sum.map]
def B5 (a0:aj)(a1:List ay)(a2:Int)(a3:aD)(a4:Int):(md a0 a1 a2 a3 a4).1=Z122.md a0 a1 a2 a3 a4:=by
 rw [qS,Z122.qS]
 exact qE (p:=Prod.fst) (fun i y s=>by cases Z122.pK a2 a3 a4 y s<;>rfl) (fun s=>rfl) a1 0 _
end Z246
namespace Z247
def F (x0:bn)(x1:aB)(x2:Int)(x3:aD)(x4:Int):aJ:=(call (Z246.R (x0,x1,x2,x3,x4)) fun v1=>ret (v1.1:cZ))
def md (a0:aj)(a1:List ay)(a2:Int)(a3:aD)(a4:Int):bU:=(Z246.md a0 a1 a2 a3 a4).1
def gd (a0:aj)(a1:List ay)(a2:Int)(a3:aD)(a4:Int):Prop:=(aj.Sm (2^21) a0)/\(bM (2^21) (fun y:ay=>ay.Sm (2^21) y) a1)/\(a3.size<=(2^21))
def R:=RR (p5 gd) (u5 md)
def an {a0 a1 a2 a3 a4}(h:gd a0 a1 a2 a3 a4):R ((aj.r a0),(a1.map ay.row),a2,a3,a4)=some (bU.r (md a0 a1 a2 a3 a4)):=aP (a:=(a0,a1,a2,a3,a4)) h
def aU:=CN [.agg rT,pL 165,pI,pS,pI] (.agg f102) RT.dec R
def bA (a0)(a1)(a2)(a3)(a4)(hg:gd a0 a1 a2 a3 a4):F (aj.r a0) (a1.map ay.row) a2 a3 a4=ret (bU.r (md a0 a1 a2 a3 a4)):=by
 obtain ⟨H0,H1,H3⟩:=hg
 unfold F md
 try simp only [SS]
 refine ct (Z246.an ⟨H0,H1,H3⟩) ?_
 try simp only [SS]
 all_goals exact fz
def af:cD 70 aU:=W5 23 F mix aE bA (.cons Z246.af .nil) Tryz.func70
def br (a0:aj)(a1:List ay)(a2:Int)(a3:aD)(a4:Int):md a0 a1 a2 a3 a4=Z122.md a0 a1 a2 a3 a4:=by
 unfold md
 exact Z246.B5 a0 a1 a2 a3 a4
end Z247
namespace Z248
def F (x0:bn)(x1:Int)(x2:aD)(x3 x4:List L):aJ:=(call (Z214.R ((me x3),x1,x2)) fun v1=>(call (Z247.R (x0,v1,x1,x2,(gm x4))) fun v2=>ret (v2:cZ)))
def pats:List ga:=[.agg [.sl 134,.sl 143],.rd (.int .i64),.rd (.str),.ptr [.sl 88],.ptr [aC]]
def res:RP:=.agg [.fr 134,.fr 143,.rd (.bool),.rd (.str),.rd (.int .i64),.rd (.int .i64),.fr 9,.rd (.bool),.fr 3]
def md (a0:aj)(a1:Int)(a2:aD)(a3:List au)(a4:Int):bU:=(Z247.md a0 (Z214.md a3 a1 a2) a1 a2 a4)
def gd (a0:aj)(a1:Int)(a2:aD)(a3:List au)(a4:Int):Prop:=(aj.Sm (2^21) a0)/\(a2.size<=(2^21))/\(bM (2^21) (fun y:au=>au.Sm (2^21) y) a3)
def acc (ls:List L):bn×Int×aD×aB×Int:=((bn.dec ls),((aA 2 ls).headD .hole).toInt,((aA 3 ls).headD .hole).toStr,(me (cP 1 (aA 4 ls))),(gm (cP 1 (aA 5 ls))))
def R:(bn×Int×aD×aB×Int)->Option cZ:=RR (p5 gd) (u5 md)
def an {a0 a1 a2 a3 a4}(h:gd a0 a1 a2 a3 a4):R ((aj.r a0),a1,a2,(a3.map au.row),a4)=some (bU.r (md a0 a1 a2 a3 a4)):=aP (a:=(a0,a1,a2,a3,a4)) h
def aU:fR:=CN pats res acc R
def bA (a0:aj)(a1:Int)(a2:aD)(a3:List au)(a4:Int)(p3 p4:List L)(e3:(a3.map au.row)=(me p3))(e4:a4=(gm p4))(hg:gd a0 a1 a2 a3 a4):F (aj.r a0) a1 a2 p3 p4=ret ((bU.r (md a0 a1 a2 a3 a4)):cZ):=by
 obtain ⟨H0,H2,H3⟩:=hg
 unfold F md
 try simp only [SS,<-e3,<-e4]
 refine ct (Z214.an ⟨H3,H2⟩) ?_
 try simp only [SS,<-e3,<-e4]
 refine ct (Z247.an ⟨H0,(Z214.fL (a0:=a3) (a1:=a1) (a2:=a2) ⟨H3,H2⟩),H2⟩) ?_
 try simp only [SS,<-e3,<-e4]
 all_goals exact fz
def ox (ls:List L)(a:aj×Int×aD×List au×Int)(e:acc ls=Im.im a)(hg:(p5 gd) a):∃n:Nat,F (bn.dec ls) (((aA 2 ls).headD .hole).toInt) (((aA 3 ls).headD .hole).toStr) (cP 1 (aA 4 ls)) (cP 1 (aA 5 ls))=ret (Im.im ((u5 md) a)):=by
 have e0:(aj.r a.1)=(bn.dec ls):=(congrArg (fun x=>x.1) e.symm)
 have e1:a.2.1=((aA 2 ls).headD .hole).toInt:=(congrArg (fun x=>x.2.1) e.symm)
 have e2:a.2.2.1=((aA 3 ls).headD .hole).toStr:=(congrArg (fun x=>x.2.2.1) e.symm)
 have hn:=bA a.1 a.2.1 a.2.2.1 a.2.2.2.1 a.2.2.2.2 (cP 1 (aA 4 ls)) (cP 1 (aA 5 ls)) (congrArg (fun x=>x.2.2.2.1) e.symm) (congrArg (fun x=>x.2.2.2.2) e.symm) hg
 refine ⟨0,?_⟩
 rw [<-e0,<-e1,<-e2]
 exact hn
def af:cD 69 aU:=VP (live:=fun _=>[]) (nt:=18) (accr:=fun ls=>((bn.dec ls),((aA 2 ls).headD .hole).toInt,((aA 3 ls).headD .hole).toStr,(cP 1 (aA 4 ls)),(cP 1 (aA 5 ls)))) (run:=fun _ x=>F x.1 x.2.1 x.2.2.1 x.2.2.2.1 x.2.2.2.2) mix aE (.cons Z214.af (.cons Z247.af .nil)) Tryz.func69 (by kernel_rfl) (fun _ _=>by kernel_rfl) (fun ls a _ e hg=>ox ls a e hg)
def lk (a0:aj)(a1:Int)(a2:aD)(a3:List au)(a4:Int):md a0 a1 a2 a3 a4=Z122.md a0 (Z100.md a3 a1 a2) a1 a2 a4:=by
 unfold md
 rw [Z247.br,Z214.br]
end Z248
namespace Z249
abbrev E (n:Nat):Env:={ T:=assoc jV,G:=dw [(135,Z206.aU),(107,Z140.aU),(136,Z207.aU)],nt:=83,M:=fK [],np:=n,I:=nU [] }
def ic (n:Nat):kI:=inl (E n) Tryz.f108
def sG (n:Nat):gQ Tryz.prog Ev n 108 (ic n):=xT (mt:=false) mix aE (.cons Z206.af (.cons Z140.af (.cons Z207.af .nil))) .nil .nil Tryz.func108 (by kernel_rfl)
end Z249
namespace Z250
inductive Pt where
 | p0 (a:aB) (b c:List L) (d e:Int) (f:aD) (g h i j:Int) (k:aD) (l m n:Int) (o p q s:aB)
def pid:Pt->Nat
 | .p0 ..=>6
def bY:Pt->List V
 | .p0 a b c d e f g h i j k l m n o p q s=>[.sl none 9 a,.fn 69 [.dH none [.sl 88] b 0,.dH none [aC] c 0],.cN 0 0,.cN 1 0,.int .i64 d,.cN 1 0,.cN 1 0]
def bX:Pt->List aV
 | .p0 a b c d e f g h i j k l m n o p q s=>[.box [.nil,.nil,.int .i64 e,.str f,.int .i64 g,.int .i64 h,.nil,.nil,.int .i64 i],.box [.own 2,.own 3,.int .i64 j,.str k,.int .i64 l,.int .i64 m,.own 4,.own 5,.int .i64 n],.row 134 o,.row 143 p,.row 9 q,.row 3 s]
def step (J:Pt->aJ):Pt->aJ
 | .p0 a b c d e f g h i j k l m n o p q s=>(cond (j==0) (cj (decide ((0:Int)<(a.length:Int))) (call (Z248.R ((⟨o,p⟩:bn),d,(pV a 0),(me b),(gm c))) fun v1=>(cj (eS (((s.length:Int)+1)*8)) (cj (decide ((1:Int)<=(a.length:Int))) (cj (decide ((a.length:Int)<=(a.length:Int))) (cond (!v1.jW) (J (.p0 [] b c 0 e f g h i 3 k l m n v1.bP.aG v1.bP.aW q (s++[[L.int d]]))) (cond (!v1.cy) (J (.p0 [] b c 0 e f g h i 2 k l m n v1.bP.aG v1.bP.aW q (s++[[L.int d]]))) (cond (v1.bp.bQ==3) (call (Z206.R v1.bp.bK) fun v2=>(cj (eS (((v2.length:Int)+((List.take (toNat ((a.length:Int) - 1)) (List.drop 1 a)).length:Int))*16)) (cond (decide (n>=3)) (J (.p0 [] b c 0 e f g h i 5 k l m n v1.bP.aG v1.bP.aW q (s++[[L.int d]]))) (call (Z140.R (v2++(List.take (toNat ((a.length:Int) - 1)) (List.drop 1 a)))) fun v3=>(cond (!v3) (J (.p0 [] b c 0 e f g h i 5 k l m n v1.bP.aG v1.bP.aW q (s++[[L.int d]]))) (J (.p0 (v2++(List.take (toNat ((a.length:Int) - 1)) (List.drop 1 a))) b c v1.bp.cw e f g h i j k l m (i64.wrap (n+1)) v1.bP.aG v1.bP.aW q (s++[[L.int d]])))))))) (cond (((List.take (toNat ((a.length:Int) - 1)) (List.drop 1 a)).length:Int)==0) (call (Z207.R v1.bp) fun v4=>J (.p0 [] b c 0 e f g h i 1 v4.bw v4.bQ v4.cw n v1.bP.aG v1.bP.aW v4.bK (s++[[L.int d]]))) (cond (v1.bp.bQ==2) (J (.p0 (List.take (toNat ((a.length:Int) - 1)) (List.drop 1 a)) b c v1.bp.cw e f g h i j k l m n v1.bP.aG v1.bP.aW q (s++[[L.int d]]))) (J (.p0 [] b c 0 e f g h i 4 k l m n v1.bP.aG v1.bP.aW q (s++[[L.int d]]))))))))))))) (ret ((⟨(⟨o,p⟩:bn),j,(⟨k,l,m,q⟩:aY),s,n⟩:cK):cK)))
def start (J:Pt->aJ)(x0:bn)(x1:Int)(x2:aB)(x3 x4:List L):aJ:=(call (Z134.R x0) fun v1=>(call (Z140.R x2) fun v2=>(cond (!v2) (ret ((⟨v1,6,(⟨(⟨#[]⟩:aD),0,0,[]⟩:aY),[],0⟩:cK):cK)) (J (.p0 x2 x3 x4 x1 0 ⟨#[]⟩ 0 0 0 0 ⟨#[]⟩ 0 0 0 v1.aG v1.aW [] [])))))
def live:Nat->Live:=fun i=>match i with | 6=>[(2,some 1099511627785),(3,none),(8,none),(9,none),(10,none),(9,some 6291465),(9,some 7340035)] | _=>[]
def pats:List ga:=[.agg [.sl 134,.sl 143],.rd (.int .i64),.rd (.sl 9),.fn 69 [[.sl 88],[aC]]]
def res:RP:=.agg [.fr 134,.fr 143,.rd (.int .i64),.rd (.str),.rd (.int .i64),.rd (.int .i64),.fr 9,.fr 3,.rd (.int .i64)]
abbrev E:Env:={ T:=assoc jV,G:=dw [(48,Z134.aU),(107,Z140.aU),(69,Z248.aU)],nt:=48,M:=fK [],I:=nU [(108,Z249.ic 0)] }
def step_eq (I:cB)(p:Pt):cR E live I (pid p) (bL Tryz.f68) (fm (live (pid p)) (bY p) (bX p)) (cA E Tryz.f68 res)=step (fun q=>I (pid q) (bY q) (bX q)) p:=by
 cases p<;>kernel_rfl
def start_eq (I:cB)(ls:List L):eL E live I (bL Tryz.f68) (cU pats ls) (cA E Tryz.f68 res)=start (fun q=>I (pid q) (bY q) (bX q)) (bn.dec ls) ((aA 2 ls).headD .hole).toInt ((aA 3 ls).headD .hole).aQ (cP 1 (aA 4 ls)) (cP 1 (aA 5 ls)):=by kernel_rfl
def run_eq (n:Nat)(ls:List L):eG E live Tryz.f68 res n (cU pats ls)=start (iter step n) (bn.dec ls) ((aA 2 ls).headD .hole).toInt ((aA 3 ls).headD .hole).aQ (cP 1 (aA 4 ls)) (cP 1 (aA 5 ls)):=cq (id:=pid) (vs:=bY) (hs:=bX) (step:=step) (start:=fun J=>start J (bn.dec ls) ((aA 2 ls).headD .hole).toInt ((aA 3 ls).headD .hole).aQ (cP 1 (aA 4 ls)) (cP 1 (aA 5 ls))) step_eq (fun I=>start_eq I ls) n
def md (a0:aj)(a1:Int)(a2:List aD)(a3:List au)(a4:Int):aL:=(cond (!Z140.md a2) ⟨a0,6,⟨⟨#[]⟩,0,0,[]⟩,[],0⟩ ((Z125.rs (Z125.lk a3 a4) 17 () a0 [] 0 a1 a2).1))
def gd (a0:aj)(a1:Int)(a2:List aD)(a3:List au)(a4:Int):Prop:=(aj.Sm (2^21) a0)/\(bM (2^21) (fun y:aD=>y.size<=(2^21)) a2)/\(bM (2^21) (fun y:au=>au.Sm (2^21) y) a3)
def acc (ls:List L):bn×Int×aB×aB×Int:=((bn.dec ls),((aA 2 ls).headD .hole).toInt,((aA 3 ls).headD .hole).aQ,(me (cP 1 (aA 4 ls))),(gm (cP 1 (aA 5 ls))))
def R:(bn×Int×aB×aB×Int)->Option cK:=RR (p5 gd) (u5 md)
def an {a0 a1 a2 a3 a4}(h:gd a0 a1 a2 a3 a4):R ((aj.r a0),a1,(a2.map cG),(a3.map au.row),a4)=some (aL.r (md a0 a1 a2 a3 a4)):=aP (a:=(a0,a1,a2,a3,a4)) h
def aU:fR:=CN pats res acc R
def bA (a0:aj)(a1:Int)(a2:List aD)(a3:List au)(a4:Int)(p3 p4:List L)(e3:(a3.map au.row)=(me p3))(e4:a4=(gm p4))(hg:gd a0 a1 a2 a3 a4):∃n,start (iter step n) (aj.r a0) a1 (a2.map cG) p3 p4=ret ((aL.r (md a0 a1 a2 a3 a4)):cK):=by
 obtain ⟨H0,H2,H3⟩:=hg
 have fin:∀(J:Pt->aJ) (code:Int) (x z:Int) (xs:aB) (lab:aD) (kd vl mv:Int) (o p q s:aB),¬code=0->step J (Pt.p0 xs p3 p4 z 0 ⟨#[]⟩ 0 0 0 code lab kd vl mv o p q s)=ret (⟨⟨o,p⟩,code,⟨lab,kd,vl,q⟩,s,mv⟩:cK):=by
  intro J code x z xs lab kd vl mv o p q s h
  simp only [step]
  exact cH (beq_eq_false_iff_ne.2 h) rfl
 have key:∀(n:Nat) (k:aj) (zs:List Int) (mv z:Int) (p:List aD),aj.Sm (2^21) k->Z47.md p=true->0<=mv->mv<=3->(3 - mv)*4+(p.length:Int)<=n->zs.length+n<=100->
   ∃m,iter step m (Pt.p0 (p.map cG) p3 p4 z 0 ⟨#[]⟩ 0 0 0 0 ⟨#[]⟩ 0 0 mv (k.aG.map (dI aa.row)) (k.aW.map az.row) [] (zs.map bq))=ret (aL.r (Z125.rs (Z125.lk a3 a4) n () k zs mv z p).1):=by
  intro n
  induction n with
  | zero=>intro k zs mv z p _ hp _ _ hm _;have:=(Z47.tr hp).1;omega
  | succ n ih=>
   intro k zs mv z p hk hp h0 h3 hm hz
   obtain ⟨⟨p1,p4'⟩,p8⟩:=Z47.tr hp
   obtain ⟨x,xs,rfl⟩:∃x xs,p=x::xs:=by
    cases p with
    | nil=>simp at p1
    | cons x xs=>exact ⟨x,xs,rfl⟩
   have hx:x.size<=2^21:=le_trans (p8 x (by simp)) (by decide)
   have hxs:∀y∈xs,y.size<=2^22:=fun y hy=>le_trans (p8 y (by simp [hy])) (by decide)
   have hask:=Z100.fL (a0:=a3) (a1:=z) (a2:=x) ⟨H3,hx⟩
   have hlk:=Z122.fL (a0:=k) (a1:=Z100.md a3 z x) (a2:=z) (a3:=x) (a4:=a4) ⟨hk,hask,hx⟩
   have hat:pV ((x::xs).map cG) 0=x:=rfl
   have ht:List.take (toNat (((xs.length+1:Nat):Int) - 1)) (List.drop 1 ((x::xs).map cG))=xs.map cG:=by
    simp only [List.map_cons,List.drop_succ_cons,List.drop_zero]
    exact List.take_of_length_le (by simp)
   simp only [List.length_cons] at p4' hm
   refine Z125.wq ?_
   simp only [step,hat,List.length_map,List.length_cons,ht,<-e3,<-e4]
   refine dF rfl (dF dt ?_)
   have hR:=Z248.an (a0:=k) (a1:=z) (a2:=x) (a3:=a3) (a4:=a4) ⟨hk,hx,H3⟩
   rw [Z248.lk] at hR
   refine cx hR ?_
   have hcase:∀q,Z125.nx (Z122.md k (Z100.md a3 z x) z x a4) mv (x::xs)=.inl q->Z125.rs (Z125.lk a3 a4) (n+1) () k zs mv z (x::xs)=(⟨(Z122.md k (Z100.md a3 z x) z x a4).bP,q.1,q.2,zs++[z],mv⟩,()):=fun q hq=>Z125.tA hq
   have hcase2:∀q,Z125.nx (Z122.md k (Z100.md a3 z x) z x a4) mv (x::xs)=.inr q->Z125.rs (Z125.lk a3 a4) (n+1) () k zs mv z (x::xs)=Z125.rs (Z125.lk a3 a4) n () (Z122.md k (Z100.md a3 z x) z x a4).bP (zs++[z]) q.1 q.2.1 q.2.2:=fun q hq=>Z125.sL hq
   clear hR
   revert hcase hcase2 hlk
   generalize Z122.md k (Z100.md a3 z x) z x a4=l
   intro hlk hcase hcase2
   refine dF lm (dF dt (dF dt ?_))
   obtain ⟨lk0,lf,le,ld,lc⟩:=l
   unfold Z125.nx at hcase hcase2
   have hzz:zs.map bq++[[L.int z]]=(zs++[z]).map bq:=by simp [bq]
   cases ld
   ·exact dF rfl ⟨1,(fin _ 3 0 _ _ _ _ _ _ _ _ _ _ (by decide)).trans (by rw [hcase _ rfl];exact fz)⟩
   cases lf
   ·exact dx rfl (dF rfl ⟨1,(fin _ 2 0 _ _ _ _ _ _ _ _ _ _ (by decide)).trans (by rw [hcase _ rfl];exact fz)⟩)
   simp only [Bool.not_true,bu,bh,List.tail_cons] at hcase hcase2 ⊢
   have hpl:bM (2^21) (fun y:aD=>y.size<=(2^21)) le.bK:=hlk.2.1.2
   have hpl1:le.bK.length<=2^21:=hpl.1
   refine dx rfl (dx rfl ?_)
   try simp only [SS]
   cases hk3:(le.bQ==3)
   ·simp only [hk3,bu] at hcase hcase2 ⊢
    by_cases hx0:xs.length=0
    ·have e0:((xs.length:Int)==0)=true:=by simp [hx0]
     rw [e0] at hcase
     refine dF (beq_iff_eq.2 (by omega)) (cx (Z207.an (a0:=le) hlk.2.1) ?_)
     exact ⟨1,(fin _ 1 0 _ _ _ _ _ _ _ _ _ _ (by decide)).trans (by rw [hcase _ rfl];exact fz)⟩
    ·have e0:((xs.length:Int)==0)=false:=by simpa using hx0
     rw [e0] at hcase hcase2
     refine dx (beq_eq_false_iff_ne.2 (by omega)) ?_
     cases hk2:(le.bQ==2)
     ·simp only [hk2,bu] at hcase
      exact dx rfl ⟨1,(fin _ 4 0 _ _ _ _ _ _ _ _ _ _ (by decide)).trans (by rw [hcase _ rfl];exact fz)⟩
     ·simp only [hk2,bu,bh] at hcase2
      refine dF rfl ?_
      have hip:Z47.md xs=true:=Z47.tl hp hx0
      rw [hcase2 _ rfl,hzz]
      exact ih lk0 (zs++[z]) mv le.cw xs hlk.1 hip h0 h3 (by omega) (by simp;omega)
   ·simp only [hk3,bh] at hcase hcase2 ⊢
    refine cx (Z206.an (a0:=le.bK) hpl) ?_
    refine dF (by have :(le.bK.map cG).length=le.bK.length:=List.length_map ..;have :(xs.map cG).length=xs.length:=List.length_map ..;exact iF (by omega)) ?_
    by_cases hmv:mv>=3
    ·rw [decide_eq_true hmv] at hcase ⊢
     exact dF rfl ⟨1,(fin _ 5 0 _ _ _ _ _ _ _ _ _ _ (by decide)).trans (by rw [hcase _ rfl];exact fz)⟩
    ·rw [decide_eq_false hmv] at hcase hcase2 ⊢
     simp only [bu] at hcase hcase2 ⊢
     have e:le.bK.map cG++xs.map cG=(le.bK++xs).map cG:=by simp
     rw [e]
     have hq:=Z140.an (a0:=le.bK++xs) ⟨by rw [List.length_append];omega,fun y hy=>(List.mem_append.1 hy).elim (fun h=>le_trans (hpl.2 y h) (by decide)) (hxs y)⟩
     rw [Z140.br] at hq
     refine cx hq ?_
     cases hip:Z47.md (le.bK++xs)
     ·rw [hip] at hcase
      exact dF rfl ⟨1,(fin _ 5 0 _ _ _ _ _ _ _ _ _ _ (by decide)).trans (by rw [hcase _ rfl];exact fz)⟩
     ·rw [hip] at hcase2
      have ht:=Z47.tr hip
      rw [hcase2 _ rfl,hzz,wi _ (by omega)]
      exact ih lk0 (zs++[z]) (mv+1) le.cw (le.bK++xs) hlk.1 hip (by omega) (by omega) (by omega) (by simp;omega)
 unfold start md
 refine cx (Z134.an (a0:=a0) H0) ?_
 refine cx (Z140.an (a0:=a2) (bM.mono H2 (by decide) (fun y hy=>le_trans hy (by decide)))) ?_
 cases hp:Z140.md a2
 ·exact ⟨0,rfl⟩
 ·simp only [Bool.not_true,bu]
  rw [Z140.br] at hp
  exact key 17 a0 [] 0 a1 a2 H0 hp (by decide) (by decide) (by have:=(Z47.tr hp).1;omega) (by simp)
def ox (ls:List L)(a:aj×Int×List aD×List au×Int)(e:acc ls=Im.im a)(hg:(p5 gd) a):∃n:Nat,start (iter step n) (bn.dec ls) (((aA 2 ls).headD .hole).toInt) (((aA 3 ls).headD .hole).aQ) (cP 1 (aA 4 ls)) (cP 1 (aA 5 ls))=ret (Im.im ((u5 md) a)):=by
 have e0:(aj.r a.1)=(bn.dec ls):=(congrArg (fun x=>x.1) e.symm)
 have e1:a.2.1=((aA 2 ls).headD .hole).toInt:=(congrArg (fun x=>x.2.1) e.symm)
 have e2:(a.2.2.1.map cG)=((aA 3 ls).headD .hole).aQ:=(congrArg (fun x=>x.2.2.1) e.symm)
 obtain ⟨n,hn⟩:=bA a.1 a.2.1 a.2.2.1 a.2.2.2.1 a.2.2.2.2 (cP 1 (aA 4 ls)) (cP 1 (aA 5 ls)) (congrArg (fun x=>x.2.2.2.1) e.symm) (congrArg (fun x=>x.2.2.2.2) e.symm) hg
 refine ⟨n,?_⟩
 rw [<-e0,<-e1,<-e2]
 exact hn
def af:cD 68 aU:=VJ (mt:=false) (accr:=fun ls=>((bn.dec ls),((aA 2 ls).headD .hole).toInt,((aA 3 ls).headD .hole).aQ,(cP 1 (aA 4 ls)),(cP 1 (aA 5 ls)))) (run:=fun n x=>start (iter step n) x.1 x.2.1 x.2.2.1 x.2.2.2.1 x.2.2.2.2) mix aE (.cons Z134.af (.cons Z140.af (.cons Z248.af .nil))) .nil (.cons (Z249.sG 0) .nil) Tryz.func68 (by kernel_rfl) run_eq (fun ls a _ e hg=>ox ls a e hg)
end Z250
namespace Z251
def F (x0:bn)(x1:aB)(x2:Int)(x3:aB)(x4:Int):aJ:=(call (Z250.R (x0,x2,x3,x1,x4)) fun v1=>ret (v1:cK))
def md (a0:aj)(a1:List au)(a2:Int)(a3:List aD)(a4:Int):aL:=(Z250.md a0 a2 a3 a1 a4)
def gd (a0:aj)(a1:List au)(a2:Int)(a3:List aD)(a4:Int):Prop:=(aj.Sm (2^21) a0)/\(bM (2^21) (fun y:au=>au.Sm (2^21) y) a1)/\(bM (2^21) (fun y:aD=>y.size<=(2^21)) a3)
def R:=RR (p5 gd) (u5 md)
def an {a0 a1 a2 a3 a4}(h:gd a0 a1 a2 a3 a4):R ((aj.r a0),(a1.map au.row),a2,(a3.map cG),a4)=some (aL.r (md a0 a1 a2 a3 a4)):=aP (a:=(a0,a1,a2,a3,a4)) h
def aU:=CN [.agg rT,pL 88,pI,pL 9,pI] (.agg f60) RT.dec R
def bA (a0)(a1)(a2)(a3)(a4)(hg:gd a0 a1 a2 a3 a4):F (aj.r a0) (a1.map au.row) a2 (a3.map cG) a4=ret (aL.r (md a0 a1 a2 a3 a4)):=by
 obtain ⟨H0,H1,H3⟩:=hg
 unfold F md
 try simp only [SS]
 refine ct (Z250.an ⟨H0,H3,H1⟩) ?_
 try simp only [SS]
 all_goals exact fz
def af:cD 29 aU:=W5 16 F mix aE bA (.cons Z250.af .nil) Tryz.func29
def br (a0:aj)(a1:List au)(a2:Int)(a3:List aD)(a4:Int):md a0 a1 a2 a3 a4=Z125.md a0 a1 a2 a3 a4:=by
 unfold md Z250.md Z125.md
 rw [Z140.br]
def fL {a0:aj}{a1:List au}{a2:Int}{a3:List aD}{a4:Int}(hg:gd a0 a1 a2 a3 a4):aL.Sm (2^21) (md a0 a1 a2 a3 a4):=by
 rw [br]
 exact Z125.fL hg
end Z251
namespace Z252
inductive Pt where
 | p0 (a b:aB) (c:Int) (d:aB) (e f:Int) (g h i:aB)
def pid:Pt->Nat
 | .p0 ..=>4
def bY:Pt->List V
 | .p0 a b c d e f g h i=>[.sl none 88 a,.sl none 9 b,.int .i64 c,.cN 0 0,.own 1,.cN 2 0,.sl none 83 d,.int .i64 e,.int .i64 f]
def bX:Pt->List aV
 | .p0 a b c d e f g h i=>[.box [.nil,.nil],.row 60 g,.box [.own 3,.own 4],.row 134 h,.row 143 i]
def step (J:Pt->aJ):Pt->aJ
 | .p0 a b c d e f g h i=>(cond (decide (f<e)) (m2 f (d.length:Int) (call (Z251.R ((⟨h,i⟩:bn),a,(bg.at d (toNat f)).bz,b,c)) fun v1=>(cj (eS (((g.length:Int)+1)*144)) (call (Z134.R v1.bP) fun v2=>J (.p0 a b c d e (i64.wrap (f+1)) (g++[(cK.enc v1)]) v2.aG v2.aW))))) (ret ((g,(⟨h,i⟩:bn)):aB×bn)))
def start (J:Pt->aJ)(x0:bn)(x1 x2 x3:aB)(x4:Int):aJ:=(call (Z134.R x0) fun v1=>(cj (decide ((0:Int)<=(cond (decide ((x2.length:Int)<3)) (x2.length:Int) 3))) (cj (decide ((cond (decide ((x2.length:Int)<3)) (x2.length:Int) 3)<=(x2.length:Int))) (J (.p0 x1 x3 x4 (List.take (toNat ((cond (decide ((x2.length:Int)<3)) (x2.length:Int) 3) - 0)) (List.drop 0 x2)) ((List.take (toNat ((cond (decide ((x2.length:Int)<3)) (x2.length:Int) 3) - 0)) (List.drop 0 x2)).length:Int) 0 [] v1.aG v1.aW)))))
def live:Nat->Live:=fun i=>match i with | 4=>[(1,none),(3,none),(4,none),(11,none),(12,some 60),(13,none),(24,none),(25,none),(26,none)] | _=>[]
def md (a0:aj)(a1:List au)(a2:List bg)(a3:List aD)(a4:Int):List aL×aj:=(dQ (S:=List aL×List (List aa)×List az) (β:=List aL×aj) (fun (y1:bg) (s3:List aL×List (List aa)×List az)=>(.inl ((s3.1++[(Z251.md (⟨s3.2.1,s3.2.2⟩:aj) a1 (y1.bz) a3 a4)]),((Z251.md (⟨s3.2.1,s3.2.2⟩:aj) a1 (y1.bz) a3 a4).bP).aG,((Z251.md (⟨s3.2.1,s3.2.2⟩:aj) a1 (y1.bz) a3 a4).bP).aW))) (fun (s3:List aL×List (List aa)×List az)=>(s3.1,(⟨s3.2.1,s3.2.2⟩:aj))) (List.take (toNat ((cond (decide ((a2.length:Int)<3)) (a2.length:Int) 3) - 0)) (List.drop 0 a2)) ([],a0.aG,a0.aW))
def gd (a0:aj)(a1:List au)(a2:List bg)(a3:List aD)(a4:Int):Prop:=(aj.Sm (2^21) a0)/\(bM (2^21) (fun y:au=>au.Sm (2^21) y) a1)/\(bM (2^21) (fun y:bg=>bg.Sm (2^21) y) a2)/\(bM (2^21) (fun y:aD=>y.size<=(2^21)) a3)
def R:=RR (p5 gd) (u5 md)
def an {a0 a1 a2 a3 a4}(h:gd a0 a1 a2 a3 a4):R ((aj.r a0),(a1.map au.row),(a2.map bg.row),(a3.map cG),a4)=some (((md a0 a1 a2 a3 a4).1.map aL.row),(aj.r (md a0 a1 a2 a3 a4).2)):=aP (a:=(a0,a1,a2,a3,a4)) h
def aU:=CN [.agg rT,pL 88,pL 83,pL 9,pI] (.iJ [(false,[.fr 60]),(true,f37)]) RT.dec R
def bA (a0)(a1)(a2)(a3)(a4)(hg:gd a0 a1 a2 a3 a4):∃n,start (iter step n) (aj.r a0) (a1.map au.row) (a2.map bg.row) (a3.map cG) a4=ret (((md a0 a1 a2 a3 a4).1.map aL.row),(aj.r (md a0 a1 a2 a3 a4).2)):=by
 obtain ⟨H0,H1,H2,H3⟩:=hg
 unfold start md
 try simp only [SS]
 refine cx (Z134.an H0) ?_
 try simp only [SS]
 refine dF (have:=(H2).1;dt) ?_
 refine dF (have:=(H2).1;dt) ?_
 have Bh2:(List.take (toNat ((cond (decide ((a2.length:Int)<3)) (a2.length:Int) 3) - 0)) (List.drop 0 a2)).length<=maxLen:=(by
   have:=(H2).1
   have:=((bM.take (k:=(toNat ((cond (decide ((a2.length:Int)<3)) (a2.length:Int) 3) - 0))) (bM.drop (k:=0) H2))).1
   try simp only [maxLen] at *
   omega)
 refine ex_eq (out:=(fun b:List aL×aj=>ret (((b.1.map aL.row),(aj.r b.2)):aB×bn))) (ep (z:=bg.zero)) ?_
 refine dM (p:=Pt.p0 (a1.map au.row) (a3.map cG) a4 ((List.take (toNat ((cond (decide ((a2.length:Int)<3)) (a2.length:Int) 3) - 0)) (List.drop 0 a2)).map bg.row) ((List.take (toNat ((cond (decide ((a2.length:Int)<3)) (a2.length:Int) 3) - 0)) (List.drop 0 a2)).length:Int) 0 ([].map aL.row) (a0.aG.map (dI aa.row)) (a0.aW.map az.row)) fz ?_
 refine ck (pt:=fun (i1:Nat) (s3:List aL×List (List aa)×List az)=>Pt.p0 (a1.map au.row) (a3.map cG) a4 ((List.take (toNat ((cond (decide ((a2.length:Int)<3)) (a2.length:Int) 3) - 0)) (List.drop 0 a2)).map bg.row) ((List.take (toNat ((cond (decide ((a2.length:Int)<3)) (a2.length:Int) 3) - 0)) (List.drop 0 a2)).length:Int) (i1:Int) (s3.1.map aL.row) (s3.2.1.map (dI aa.row)) (s3.2.2.map az.row)) (s:=(([],a0.aG,a0.aW):List aL×List (List aa)×List az)) (out:=(fun b:List aL×aj=>ret (((b.1.map aL.row),(aj.r b.2)):aB×bn))) (fun (i1:Nat) (s3:List aL×List (List aa)×List az)=>aj.Sm (2^21) (⟨s3.2.1,s3.2.2⟩:aj)/\s3.1.length<=i1) (fun J i1 s3 h2 hih2=>?_) (fun s3 hih2=>?_) ⟨H0,zero_le _⟩
 ·simp only [step,SS]
  have gr_:=hih2
  try simp only [LN] at gr_
  have bb_:=Bh2
  simp only [maxLen] at bb_
  have:=(H2).1
  have:=((bM.take (k:=(toNat ((cond (decide ((a2.length:Int)<3)) (a2.length:Int) 3) - 0))) (bM.drop (k:=0) H2))).1
  refine bC.yes (by apply decide_eq_true;omega) ?_
  refine bC.yes aI ?_
  refine bC.yes (aK h2) ?_
  refine cr (Z251.an (a0:=(⟨s3.2.1,s3.2.2⟩:aj)) ⟨⟨hih2.1.1,hih2.1.2⟩,H1,H3⟩) ?_
  try simp only [SS]
  refine bC.yes lm ?_
  refine cr (Z134.an (a0:=(Z251.md (⟨s3.2.1,s3.2.2⟩:aj) a1 (((List.take (toNat ((cond (decide ((a2.length:Int)<3)) (a2.length:Int) 3) - 0)) (List.drop 0 a2)).getD i1 bg.zero).bz) a3 a4).bP) (Z251.fL (a0:=(⟨s3.2.1,s3.2.2⟩:aj)) (a1:=a1) (a2:=(((List.take (toNat ((cond (decide ((a2.length:Int)<3)) (a2.length:Int) 3) - 0)) (List.drop 0 a2)).getD i1 bg.zero).bz)) (a3:=a3) (a4:=a4) ⟨⟨hih2.1.1,hih2.1.2⟩,H1,H3⟩).1) ?_
  try simp only [SS]
  refine bC.inl (by exact ⟨(Z251.fL ⟨hih2.1,H1,H3⟩).1,gW hih2.2⟩) ?_
  rw [aH h2 Bh2]
  all_goals exact fz
 ·simp only [step,SS]
  have gr_:=hih2
  try simp only [LN] at gr_
  have:=(H2).1
  have:=((bM.take (k:=(toNat ((cond (decide ((a2.length:Int)<3)) (a2.length:Int) 3) - 0))) (bM.drop (k:=0) H2))).1
  refine dx (by apply decide_eq_false;omega) ?_
  refine ⟨0,?_⟩
  all_goals exact fz
def af:cD 15 aU:=L5 47 pid bY bX live step start mix aE bA (.cons Z134.af (.cons Z251.af .nil)) Tryz.func15
def tk {α S β:Type}{g:α->S->S}{t:S->β}:∀(xs:List α) (i:Nat) (s:S),dQ (fun y s=>.inl (g y s)) t (xs.take (3 - i)) s=dD (fun i y s=>bif decide ((i:Int)<3) then .inl (g y s) else .inr (t s)) t i xs s
 | [],i,s=>by simp [dQ,dD]
 | y::xs,i,s=>by
  by_cases h:i<3
  ·rw [show 3 - i=(3 - (i+1))+1 by omega,List.take_succ_cons]
   unfold dQ dD
   rw [decide_eq_true (show (i:Int)<3 by omega)]
   exact tk xs (i+1) (g y s)
  ·rw [show 3 - i=0 by omega,List.take_zero]
   unfold dQ dD
   rw [decide_eq_false (show ¬(i:Int)<3 by omega)]
   rfl
def br (a0:aj)(a1:List au)(a2:List bg)(a3:List aD)(a4:Int):md a0 a1 a2 a3 a4=Z126.md a0 a1 a2 a3 a4:=by
 unfold md Z126.md
 simp only [Z251.br]
 have e:List.take (toNat ((cond (decide ((a2.length:Int)<3)) (a2.length:Int) 3) - 0)) (List.drop 0 a2)=a2.take (3 - 0):=by
  rw [List.drop_zero]
  by_cases h:(a2.length:Int)<3
  ·rw [decide_eq_true h,bh,List.take_of_length_le (by omega),List.take_of_length_le (by omega)]
  ·rw [decide_eq_false h,bu]
   rfl
 rw [e]
 exact tk a2 0 _
end Z252
namespace Z253
inductive Pt where
 | p0 (a b:aB) (c:Int)
def pid:Pt->Nat
 | .p0 ..=>4
def bY:Pt->List V
 | .p0 a b c=>[.sl none 3 a,.sl none 3 b,.int .i64 c]
def bX:Pt->List aV
 | .p0 a b c=>[]
def step (J:Pt->aJ):Pt->aJ
 | .p0 a b c=>(cond (decide (c<(a.length:Int))) (m2 c (a.length:Int) (m2 c (b.length:Int) (cond ((jt a (toNat c)) != (jt b (toNat c))) bf (J (.p0 a b (i64.wrap (c+1))))))) eu)
def start (J:Pt->aJ)(x0 x1:aB):aJ:=(cond ((x0.length:Int) != (x1.length:Int)) bf (J (.p0 x0 x1 0)))
def live:Nat->Live:=fun i=>match i with | 4=>[(0,none),(1,none),(5,none)] | _=>[]
def pats:List ga:=[.rd (.sl 3),.rd (.sl 3)]
def res:RP:=.one (.rd (.bool))
abbrev E:Env:={ T:=assoc jV,G:=dw [],nt:=26 }
def step_eq (I:cB)(p:Pt):cR E live I (pid p) (bL Tryz.f73) (fm (live (pid p)) (bY p) (bX p)) (cA E Tryz.f73 res)=step (fun q=>I (pid q) (bY q) (bX q)) p:=by
 cases p<;>kernel_rfl
def start_eq (I:cB)(ls:List L):eL E live I (bL Tryz.f73) (cU pats ls) (cA E Tryz.f73 res)=start (fun q=>I (pid q) (bY q) (bX q)) (ls.headD .hole).aQ ((aA 1 ls).headD .hole).aQ:=by kernel_rfl
def run_eq (n:Nat)(ls:List L):eG E live Tryz.f73 res n (cU pats ls)=start (iter step n) (ls.headD .hole).aQ ((aA 1 ls).headD .hole).aQ:=cq (id:=pid) (vs:=bY) (hs:=bX) (step:=step) (start:=fun J=>start J (ls.headD .hole).aQ ((aA 1 ls).headD .hole).aQ) step_eq (fun I=>start_eq I ls) n
def md (a0 a1:List Int):Bool:=dY a0 a1
def gd (a0 a1:List Int):Prop:=True
def acc (ls:List L):aB×aB:=((ls.headD .hole).aQ,((aA 1 ls).headD .hole).aQ)
def R:(aB×aB)->Option Bool:=RR (p2 gd) (u2 md)
def an {a0 a1}(h:gd a0 a1):R ((a0.map bq),(a1.map bq))=some (md a0 a1):=aP (a:=(a0,a1)) h
def aU:fR:=CN pats res acc R
def bA (a0 a1:List Int)(hg:gd a0 a1)(h0:a0.length<=maxLen)(h1:a1.length<=maxLen):∃n,start (iter step n) (a0.map bq) (a1.map bq)=ret ((md a0 a1):Bool):=by
 unfold start md
 simp only [List.length_map]
 refine hO (pt:=fun i=>Pt.p0 (a0.map bq) (a1.map bq) (i:Int)) (fun hl J i h h2=>?_) (fun J=>?_)
 ·simp only [step,MM,List.length_map,aK h,aK h2,aI,bh,cz,sV h,sV h2]
  rw [aH h h0]
  simp only [bne,fc,bool_beq,eO]
  cases dY a0[i] a1[i]<;>rfl
 ·simp only [step,List.length_map,dR,bu]
def af:cD 73 aU:=VV (run:=fun n x=>start (iter step n) x.1 x.2) mix aE .nil Tryz.func73 (by kernel_rfl) run_eq (fun ls a hl e hg=>bA a.1 a.2 hg (by have h:(ls.headD .hole).aQ.length<=maxLen:=hl.1.len;have e:a.1.map bq=(ls.headD .hole).aQ:=(congrArg (fun x=>x.1) e.symm);rw [<-e] at h;simpa using h) (by have h:((aA 1 ls).headD .hole).aQ.length<=maxLen:=hl.2.1.len;have e:a.2.map bq=((aA 1 ls).headD .hole).aQ:=(congrArg (fun x=>x.2) e.symm);rw [<-e] at h;simpa using h))
end Z253
namespace Z254
def F (x0 x1:bE):aJ:=(call (Z253.R (x0.aX,x1.aX)) fun v1=>(cond (!v1) bf (cond (x0.cE != x1.cE) bf eu)))
def md (a0 a1:aO):Bool:=dY a0 a1
def gd (a0 a1:aO):Prop:=True
def R:=RR (p2 gd) (u2 md)
def an {a0 a1}(h:gd a0 a1):R ((aO.r a0),(aO.r a1))=some (md a0 a1):=aP (a:=(a0,a1)) h
def aU:=CN [.agg iV,.agg iV] oB RT.dec R
def bA (a0)(a1)(hg:gd a0 a1):F (aO.r a0) (aO.r a1)=ret (md a0 a1):=by
 unfold md
 show (call (Z253.R ((a0.aX.map bq),(a1.aX.map bq))) fun v1=>(cond (!v1) bf (cond (a0.cE != a1.cE) bf eu)))=_
 simp only [call_eq (Z253.an (a0:=a0.aX) (a1:=a1.aX) trivial),Z253.md]
 try simp only [bne,fc,bool_beq,eO]
 have e:dY a0 a1=(dY a0.aX a1.aX&&(dY a0.cE a1.cE&&true)):=by
  cases a0;cases a1
  rw [Bool.eq_iff_iff]
  simp only [dh,Bool.and_eq_true,aO.mk.injEq,and_true]
 rw [e]
 refine cL fun _=>?_
 refine cL fun _=>?_
 rfl
def af:cD 185 aU:=W2 16 F mix aE bA (.cons Z253.af .nil) Tryz.func185
end Z254
namespace Z255
def F (x0 x1:cg):aJ:=(cond (x0.bz != x1.bz) bf (cond (x0.cI != x1.cI) bf (cond (x0.bQ != x1.bQ) bf (cond (x0.cF != x1.cF) bf (cond (x0.cC != x1.cC) bf (cond (x0.cu != x1.cu) bf (cond (x0.cW != x1.cW) bf (cond (x0.dy != x1.dy) bf (call (Z254.R (x0.bR,x1.bR)) fun v1=>(cond (!v1) bf (call (Z254.R (x0.bD,x1.bD)) fun v2=>(cond (!v2) bf (cond (x0.cY != x1.cY) bf (call (Z254.R (x0.bB,x1.bB)) fun v3=>(cond (!v3) bf (cond (!(x0.bF==x1.bF)) bf eu))))))))))))))))
def md (a0 a1:aF):Bool:=dY a0 a1
def gd (a0 a1:aF):Prop:=True
def R:=RR (p2 gd) (u2 md)
def an {a0 a1}(h:gd a0 a1):R ((aF.r a0),(aF.r a1))=some (md a0 a1):=aP (a:=(a0,a1)) h
def aU:=CN [.agg fX,.agg fX] oB RT.dec R
def bA (a0)(a1)(hg:gd a0 a1):F (aF.r a0) (aF.r a1)=ret (md a0 a1):=by
 unfold md
 show (bif (a0.bz != a1.bz) then bf else (bif (a0.cI != a1.cI) then bf else (bif (a0.bQ != a1.bQ) then bf else (bif (a0.cF != a1.cF) then bf else (bif (a0.cC != a1.cC) then bf else (bif (a0.cu != a1.cu) then bf else (bif (a0.cW != a1.cW) then bf else (bif (a0.dy != a1.dy) then bf else (call (Z254.R ((aO.r a0.bR),(aO.r a1.bR))) fun v1=>(bif (!v1) then bf else (call (Z254.R ((aO.r a0.bD),(aO.r a1.bD))) fun v2=>(bif (!v2) then bf else (bif (a0.cY != a1.cY) then bf else (call (Z254.R ((aO.r a0.bB),(aO.r a1.bB))) fun v3=>(cond (!v3) bf (cond (!(a0.bF==a1.bF)) bf eu))))))))))))))))=_
 simp only [call_eq (Z254.an (a0:=a0.bR) (a1:=a1.bR) trivial),Z254.md]
 simp only [call_eq (Z254.an (a0:=a0.bD) (a1:=a1.bD) trivial),Z254.md]
 simp only [call_eq (Z254.an (a0:=a0.bB) (a1:=a1.bB) trivial),Z254.md]
 try simp only [bne,fc,bool_beq,eO]
 have e:dY a0 a1=(dY a0.bz a1.bz&&(dY a0.cI a1.cI&&(dY a0.bQ a1.bQ&&(dY a0.cF a1.cF&&(dY a0.cC a1.cC&&(dY a0.cu a1.cu&&(dY a0.cW a1.cW&&(dY a0.dy a1.dy&&(dY a0.bR a1.bR&&(dY a0.bD a1.bD&&(dY a0.cY a1.cY&&(dY a0.bB a1.bB&&(dY a0.bF a1.bF&&true))))))))))))):=by
  cases a0;cases a1
  rw [Bool.eq_iff_iff]
  simp only [dh,Bool.and_eq_true,aF.mk.injEq,and_true]
 rw [e]
 refine cL fun _=>?_
 refine cL fun _=>?_
 refine cL fun _=>?_
 refine cL fun _=>?_
 refine cL fun _=>?_
 refine cL fun _=>?_
 refine cL fun _=>?_
 refine cL fun _=>?_
 refine cL fun _=>?_
 refine cL fun _=>?_
 refine cL fun _=>?_
 refine cL fun _=>?_
 refine cL fun _=>?_
 rfl
def af:cD 150 aU:=W2 73 F mix aE bA (.cons Z254.af .nil) Tryz.func150
end Z255
namespace Z256
def F (x0 x1:bt):aJ:=(cond (x0.gM != x1.gM) bf (cond (x0.ju != x1.ju) bf eu))
def md (a0 a1:bt):Bool:=dY a0 a1
def gd (a0 a1:bt):Prop:=True
def R:=RR (p2 gd) (u2 md)
def an {a0 a1}(h:gd a0 a1):R (a0,a1)=some (md a0 a1):=aP (a:=(a0,a1)) h
def aU:=CN [.agg yC,.agg yC] oB RT.dec R
def bA (a0)(a1)(hg:gd a0 a1):F a0 a1=ret (md a0 a1):=by
 unfold md
 show (cond (a0.gM != a1.gM) bf (cond (a0.ju != a1.ju) bf eu))=_
 try simp only [bne,fc,bool_beq,eO]
 have e:dY a0 a1=(dY a0.gM a1.gM&&(dY a0.ju a1.ju&&true)):=by
  cases a0;cases a1
  rw [Bool.eq_iff_iff]
  simp only [dh,Bool.and_eq_true,bt.mk.injEq,and_true]
 rw [e]
 refine cL fun _=>?_
 refine cL fun _=>?_
 rfl
def af:cD 186 aU:=W2 15 F mix aE bA .nil Tryz.func186
end Z256
namespace Z257
inductive Pt where
 | p0 (a b:aB) (c:Int)
def pid:Pt->Nat
 | .p0 ..=>4
def bY:Pt->List V
 | .p0 a b c=>[.sl none 190 a,.sl none 190 b,.int .i64 c]
def bX:Pt->List aV
 | .p0 a b c=>[]
def step (J:Pt->aJ):Pt->aJ
 | .p0 a b c=>(cond (decide (c<(a.length:Int))) (m2 c (a.length:Int) (m2 c (b.length:Int) (call (Z256.R ((bt.at a (toNat c)),(bt.at b (toNat c)))) fun v1=>(cond (!v1) bf (J (.p0 a b (i64.wrap (c+1)))))))) eu)
def start (J:Pt->aJ)(x0 x1:aB):aJ:=(cond ((x0.length:Int) != (x1.length:Int)) bf (J (.p0 x0 x1 0)))
def live:Nat->Live:=fun i=>match i with | 4=>[(0,none),(1,none),(5,none)] | _=>[]
def pats:List ga:=[.rd (.sl 190),.rd (.sl 190)]
def res:RP:=.one (.rd (.bool))
abbrev E:Env:={ T:=assoc jV,G:=dw [(186,Z256.aU)],nt:=27 }
def step_eq (I:cB)(p:Pt):cR E live I (pid p) (bL Tryz.f151) (fm (live (pid p)) (bY p) (bX p)) (cA E Tryz.f151 res)=step (fun q=>I (pid q) (bY q) (bX q)) p:=by
 cases p<;>kernel_rfl
def start_eq (I:cB)(ls:List L):eL E live I (bL Tryz.f151) (cU pats ls) (cA E Tryz.f151 res)=start (fun q=>I (pid q) (bY q) (bX q)) (ls.headD .hole).aQ ((aA 1 ls).headD .hole).aQ:=by kernel_rfl
def run_eq (n:Nat)(ls:List L):eG E live Tryz.f151 res n (cU pats ls)=start (iter step n) (ls.headD .hole).aQ ((aA 1 ls).headD .hole).aQ:=cq (id:=pid) (vs:=bY) (hs:=bX) (step:=step) (start:=fun J=>start J (ls.headD .hole).aQ ((aA 1 ls).headD .hole).aQ) step_eq (fun I=>start_eq I ls) n
def md (a0 a1:List bt):Bool:=dY a0 a1
def gd (a0 a1:List bt):Prop:=True
def acc (ls:List L):aB×aB:=((ls.headD .hole).aQ,((aA 1 ls).headD .hole).aQ)
def R:(aB×aB)->Option Bool:=RR (p2 gd) (u2 md)
def an {a0 a1}(h:gd a0 a1):R ((a0.map bt.row),(a1.map bt.row))=some (md a0 a1):=aP (a:=(a0,a1)) h
def aU:fR:=CN pats res acc R
def bA (a0 a1:List bt)(hg:gd a0 a1)(h0:a0.length<=maxLen)(h1:a1.length<=maxLen):∃n,start (iter step n) (a0.map bt.row) (a1.map bt.row)=ret ((md a0 a1):Bool):=by
 unfold start md
 simp only [List.length_map]
 refine hO (pt:=fun i=>Pt.p0 (a0.map bt.row) (a1.map bt.row) (i:Int)) (fun hl J i h h2=>?_) (fun J=>?_)
 ·simp only [step,MM,List.length_map,aK h,aK h2,aI,bh,cz,bt.dV h,bt.dV h2]
  rw [aH h h0]
  rw [call_eq (Z256.an (a0:=a0[i]) (a1:=a1[i]) trivial),Z256.md]
  cases dY a0[i] a1[i]<;>rfl
 ·simp only [step,List.length_map,dR,bu]
def af:cD 151 aU:=VV (run:=fun n x=>start (iter step n) x.1 x.2) mix aE (.cons Z256.af .nil) Tryz.func151 (by kernel_rfl) run_eq (fun ls a hl e hg=>bA a.1 a.2 hg (by have h:(ls.headD .hole).aQ.length<=maxLen:=hl.1.len;have e:a.1.map bt.row=(ls.headD .hole).aQ:=(congrArg (fun x=>x.1) e.symm);rw [<-e] at h;simpa using h) (by have h:((aA 1 ls).headD .hole).aQ.length<=maxLen:=hl.2.1.len;have e:a.2.map bt.row=((aA 1 ls).headD .hole).aQ:=(congrArg (fun x=>x.2) e.symm);rw [<-e] at h;simpa using h))
end Z257
namespace Z258
def F (x0 x1:aR):aJ:=(call (Z255.R (x0.aq,x1.aq)) fun v1=>(cond (!v1) bf (call (Z257.R (x0.cm,x1.cm)) fun v2=>(cond (!v2) bf eu))))
def md (a0 a1:aa):Bool:=dY a0 a1
def gd (a0 a1:aa):Prop:=True
def R:=RR (p2 gd) (u2 md)
def an {a0 a1}(h:gd a0 a1):R ((aa.r a0),(aa.r a1))=some (md a0 a1):=aP (a:=(a0,a1)) h
def aU:=CN [.agg ku,.agg ku] oB RT.dec R
def bA (a0)(a1)(hg:gd a0 a1):F (aa.r a0) (aa.r a1)=ret (md a0 a1):=by
 unfold md
 show (call (Z255.R ((aF.r a0.aq),(aF.r a1.aq))) fun v1=>(bif (!v1) then bf else (call (Z257.R ((a0.cm.map bt.row),(a1.cm.map bt.row))) fun v2=>(cond (!v2) bf eu))))=_
 simp only [call_eq (Z255.an (a0:=a0.aq) (a1:=a1.aq) trivial),Z255.md]
 simp only [call_eq (Z257.an (a0:=a0.cm) (a1:=a1.cm) trivial),Z257.md]
 try simp only [bne,fc,bool_beq,eO]
 have e:dY a0 a1=(dY a0.aq a1.aq&&(dY a0.cm a1.cm&&true)):=by
  cases a0;cases a1
  rw [Bool.eq_iff_iff]
  simp only [dh,Bool.and_eq_true,aa.mk.injEq,and_true]
 rw [e]
 refine cL fun _=>?_
 refine cL fun _=>?_
 rfl
def af:cD 119 aU:=W2 17 F mix aE bA (.cons Z255.af (.cons Z257.af .nil)) Tryz.func119
end Z258
namespace Z259
inductive Pt where
 | p0 (a b:aB) (c:Int)
def pid:Pt->Nat
 | .p0 ..=>4
def bY:Pt->List V
 | .p0 a b c=>[.sl none 141 a,.sl none 141 b,.int .i64 c]
def bX:Pt->List aV
 | .p0 a b c=>[]
def step (J:Pt->aJ):Pt->aJ
 | .p0 a b c=>(cond (decide (c<(a.length:Int))) (m2 c (a.length:Int) (m2 c (b.length:Int) (call (Z258.R ((aR.at a (toNat c)),(aR.at b (toNat c)))) fun v1=>(cond (!v1) bf (J (.p0 a b (i64.wrap (c+1)))))))) eu)
def start (J:Pt->aJ)(x0 x1:aB):aJ:=(cond ((x0.length:Int) != (x1.length:Int)) bf (J (.p0 x0 x1 0)))
def live:Nat->Live:=fun i=>match i with | 4=>[(0,none),(1,none),(5,none)] | _=>[]
def pats:List ga:=[.rd (.sl 141),.rd (.sl 141)]
def res:RP:=.one (.rd (.bool))
abbrev E:Env:={ T:=assoc jV,G:=dw [(119,Z258.aU)],nt:=27 }
def step_eq (I:cB)(p:Pt):cR E live I (pid p) (bL Tryz.f91) (fm (live (pid p)) (bY p) (bX p)) (cA E Tryz.f91 res)=step (fun q=>I (pid q) (bY q) (bX q)) p:=by
 cases p<;>kernel_rfl
def start_eq (I:cB)(ls:List L):eL E live I (bL Tryz.f91) (cU pats ls) (cA E Tryz.f91 res)=start (fun q=>I (pid q) (bY q) (bX q)) (ls.headD .hole).aQ ((aA 1 ls).headD .hole).aQ:=by kernel_rfl
def run_eq (n:Nat)(ls:List L):eG E live Tryz.f91 res n (cU pats ls)=start (iter step n) (ls.headD .hole).aQ ((aA 1 ls).headD .hole).aQ:=cq (id:=pid) (vs:=bY) (hs:=bX) (step:=step) (start:=fun J=>start J (ls.headD .hole).aQ ((aA 1 ls).headD .hole).aQ) step_eq (fun I=>start_eq I ls) n
def md (a0 a1:List aa):Bool:=dY a0 a1
def gd (a0 a1:List aa):Prop:=True
def acc (ls:List L):aB×aB:=((ls.headD .hole).aQ,((aA 1 ls).headD .hole).aQ)
def R:(aB×aB)->Option Bool:=RR (p2 gd) (u2 md)
def an {a0 a1}(h:gd a0 a1):R ((a0.map aa.row),(a1.map aa.row))=some (md a0 a1):=aP (a:=(a0,a1)) h
def aU:fR:=CN pats res acc R
def bA (a0 a1:List aa)(hg:gd a0 a1)(h0:a0.length<=maxLen)(h1:a1.length<=maxLen):∃n,start (iter step n) (a0.map aa.row) (a1.map aa.row)=ret ((md a0 a1):Bool):=by
 unfold start md
 simp only [List.length_map]
 refine hO (pt:=fun i=>Pt.p0 (a0.map aa.row) (a1.map aa.row) (i:Int)) (fun hl J i h h2=>?_) (fun J=>?_)
 ·simp only [step,MM,List.length_map,aK h,aK h2,aI,bh,cz,aa.dV h,aa.dV h2]
  rw [aH h h0]
  rw [call_eq (Z258.an (a0:=a0[i]) (a1:=a1[i]) trivial),Z258.md]
  cases dY a0[i] a1[i]<;>rfl
 ·simp only [step,List.length_map,dR,bu]
def af:cD 91 aU:=VV (run:=fun n x=>start (iter step n) x.1 x.2) mix aE (.cons Z258.af .nil) Tryz.func91 (by kernel_rfl) run_eq (fun ls a hl e hg=>bA a.1 a.2 hg (by have h:(ls.headD .hole).aQ.length<=maxLen:=hl.1.len;have e:a.1.map aa.row=(ls.headD .hole).aQ:=(congrArg (fun x=>x.1) e.symm);rw [<-e] at h;simpa using h) (by have h:((aA 1 ls).headD .hole).aQ.length<=maxLen:=hl.2.1.len;have e:a.2.map aa.row=((aA 1 ls).headD .hole).aQ:=(congrArg (fun x=>x.2) e.symm);rw [<-e] at h;simpa using h))
end Z259
namespace Z260
inductive Pt where
 | p0 (a b:aB) (c:Int)
def pid:Pt->Nat
 | .p0 ..=>4
def bY:Pt->List V
 | .p0 a b c=>[.sl none 134 a,.sl none 134 b,.int .i64 c]
def bX:Pt->List aV
 | .p0 a b c=>[]
def step (J:Pt->aJ):Pt->aJ
 | .p0 a b c=>(cond (decide (c<(a.length:Int))) (m2 c (a.length:Int) (m2 c (b.length:Int) (call (Z259.R ((oq a (toNat c)),(oq b (toNat c)))) fun v1=>(cond (!v1) bf (J (.p0 a b (i64.wrap (c+1)))))))) eu)
def start (J:Pt->aJ)(x0 x1:aB):aJ:=(cond ((x0.length:Int) != (x1.length:Int)) bf (J (.p0 x0 x1 0)))
def live:Nat->Live:=fun i=>match i with | 4=>[(0,none),(1,none),(5,none)] | _=>[]
def pats:List ga:=[.rd (.sl 134),.rd (.sl 134)]
def res:RP:=.one (.rd (.bool))
abbrev E:Env:={ T:=assoc jV,G:=dw [(91,Z259.aU)],nt:=27 }
def step_eq (I:cB)(p:Pt):cR E live I (pid p) (bL Tryz.f49) (fm (live (pid p)) (bY p) (bX p)) (cA E Tryz.f49 res)=step (fun q=>I (pid q) (bY q) (bX q)) p:=by
 cases p<;>kernel_rfl
def start_eq (I:cB)(ls:List L):eL E live I (bL Tryz.f49) (cU pats ls) (cA E Tryz.f49 res)=start (fun q=>I (pid q) (bY q) (bX q)) (ls.headD .hole).aQ ((aA 1 ls).headD .hole).aQ:=by kernel_rfl
def run_eq (n:Nat)(ls:List L):eG E live Tryz.f49 res n (cU pats ls)=start (iter step n) (ls.headD .hole).aQ ((aA 1 ls).headD .hole).aQ:=cq (id:=pid) (vs:=bY) (hs:=bX) (step:=step) (start:=fun J=>start J (ls.headD .hole).aQ ((aA 1 ls).headD .hole).aQ) step_eq (fun I=>start_eq I ls) n
def md (a0 a1:List (List aa)):Bool:=dY a0 a1
def gd (a0 a1:List (List aa)):Prop:=True
def acc (ls:List L):aB×aB:=((ls.headD .hole).aQ,((aA 1 ls).headD .hole).aQ)
def R:(aB×aB)->Option Bool:=RR (p2 gd) (u2 md)
def an {a0 a1}(h:gd a0 a1):R ((a0.map (dI aa.row)),(a1.map (dI aa.row)))=some (md a0 a1):=aP (a:=(a0,a1)) h
def aU:fR:=CN pats res acc R
def bA (a0 a1:List (List aa))(hg:gd a0 a1)(h0:a0.length<=maxLen)(h1:a1.length<=maxLen):∃n,start (iter step n) (a0.map (dI aa.row)) (a1.map (dI aa.row))=ret ((md a0 a1):Bool):=by
 unfold start md
 simp only [List.length_map]
 refine hO (pt:=fun i=>Pt.p0 (a0.map (dI aa.row)) (a1.map (dI aa.row)) (i:Int)) (fun hl J i h h2=>?_) (fun J=>?_)
 ·simp only [step,MM,List.length_map,aK h,aK h2,aI,bh,cz,pT h,pT h2]
  rw [aH h h0]
  rw [call_eq (Z259.an (a0:=a0[i]) (a1:=a1[i]) trivial),Z259.md]
  cases dY a0[i] a1[i]<;>rfl
 ·simp only [step,List.length_map,dR,bu]
def af:cD 49 aU:=VV (run:=fun n x=>start (iter step n) x.1 x.2) mix aE (.cons Z259.af .nil) Tryz.func49 (by kernel_rfl) run_eq (fun ls a hl e hg=>bA a.1 a.2 hg (by have h:(ls.headD .hole).aQ.length<=maxLen:=hl.1.len;have e:a.1.map (dI aa.row)=(ls.headD .hole).aQ:=(congrArg (fun x=>x.1) e.symm);rw [<-e] at h;simpa using h) (by have h:((aA 1 ls).headD .hole).aQ.length<=maxLen:=hl.2.1.len;have e:a.2.map (dI aa.row)=((aA 1 ls).headD .hole).aQ:=(congrArg (fun x=>x.2) e.symm);rw [<-e] at h;simpa using h))
end Z260
namespace Z261
def F (x0 x1:bJ):aJ:=(call (Z258.R (x0.aS,x1.aS)) fun v1=>(cond (!v1) bf (call (Z258.R (x0.fA,x1.fA)) fun v2=>(cond (!v2) bf (call (Z258.R (x0.fB,x1.fB)) fun v3=>(cond (!v3) bf eu))))))
def md (a0 a1:az):Bool:=dY a0 a1
def gd (a0 a1:az):Prop:=True
def R:=RR (p2 gd) (u2 md)
def an {a0 a1}(h:gd a0 a1):R ((az.r a0),(az.r a1))=some (md a0 a1):=aP (a:=(a0,a1)) h
def aU:=CN [.agg sQ,.agg sQ] oB RT.dec R
def bA (a0)(a1)(hg:gd a0 a1):F (az.r a0) (az.r a1)=ret (md a0 a1):=by
 unfold md
 show (call (Z258.R ((aa.r a0.aS),(aa.r a1.aS))) fun v1=>(bif (!v1) then bf else (call (Z258.R ((aa.r a0.fA),(aa.r a1.fA))) fun v2=>(bif (!v2) then bf else (call (Z258.R ((aa.r a0.fB),(aa.r a1.fB))) fun v3=>(cond (!v3) bf eu))))))=_
 simp only [call_eq (Z258.an (a0:=a0.aS) (a1:=a1.aS) trivial),Z258.md]
 simp only [call_eq (Z258.an (a0:=a0.fA) (a1:=a1.fA) trivial),Z258.md]
 simp only [call_eq (Z258.an (a0:=a0.fB) (a1:=a1.fB) trivial),Z258.md]
 try simp only [bne,fc,bool_beq,eO]
 have e:dY a0 a1=(dY a0.aS a1.aS&&(dY a0.fA a1.fA&&(dY a0.fB a1.fB&&true))):=by
  cases a0;cases a1
  rw [Bool.eq_iff_iff]
  simp only [dh,Bool.and_eq_true,az.mk.injEq,and_true]
 rw [e]
 refine cL fun _=>?_
 refine cL fun _=>?_
 refine cL fun _=>?_
 rfl
def af:cD 92 aU:=W2 23 F mix aE bA (.cons Z258.af .nil) Tryz.func92
end Z261
namespace Z262
inductive Pt where
 | p0 (a b:aB) (c:Int)
def pid:Pt->Nat
 | .p0 ..=>4
def bY:Pt->List V
 | .p0 a b c=>[.sl none 143 a,.sl none 143 b,.int .i64 c]
def bX:Pt->List aV
 | .p0 a b c=>[]
def step (J:Pt->aJ):Pt->aJ
 | .p0 a b c=>(cond (decide (c<(a.length:Int))) (m2 c (a.length:Int) (m2 c (b.length:Int) (call (Z261.R ((bJ.at a (toNat c)),(bJ.at b (toNat c)))) fun v1=>(cond (!v1) bf (J (.p0 a b (i64.wrap (c+1)))))))) eu)
def start (J:Pt->aJ)(x0 x1:aB):aJ:=(cond ((x0.length:Int) != (x1.length:Int)) bf (J (.p0 x0 x1 0)))
def live:Nat->Live:=fun i=>match i with | 4=>[(0,none),(1,none),(5,none)] | _=>[]
def pats:List ga:=[.rd (.sl 143),.rd (.sl 143)]
def res:RP:=.one (.rd (.bool))
abbrev E:Env:={ T:=assoc jV,G:=dw [(92,Z261.aU)],nt:=27 }
def step_eq (I:cB)(p:Pt):cR E live I (pid p) (bL Tryz.f50) (fm (live (pid p)) (bY p) (bX p)) (cA E Tryz.f50 res)=step (fun q=>I (pid q) (bY q) (bX q)) p:=by
 cases p<;>kernel_rfl
def start_eq (I:cB)(ls:List L):eL E live I (bL Tryz.f50) (cU pats ls) (cA E Tryz.f50 res)=start (fun q=>I (pid q) (bY q) (bX q)) (ls.headD .hole).aQ ((aA 1 ls).headD .hole).aQ:=by kernel_rfl
def run_eq (n:Nat)(ls:List L):eG E live Tryz.f50 res n (cU pats ls)=start (iter step n) (ls.headD .hole).aQ ((aA 1 ls).headD .hole).aQ:=cq (id:=pid) (vs:=bY) (hs:=bX) (step:=step) (start:=fun J=>start J (ls.headD .hole).aQ ((aA 1 ls).headD .hole).aQ) step_eq (fun I=>start_eq I ls) n
def md (a0 a1:List az):Bool:=dY a0 a1
def gd (a0 a1:List az):Prop:=True
def acc (ls:List L):aB×aB:=((ls.headD .hole).aQ,((aA 1 ls).headD .hole).aQ)
def R:(aB×aB)->Option Bool:=RR (p2 gd) (u2 md)
def an {a0 a1}(h:gd a0 a1):R ((a0.map az.row),(a1.map az.row))=some (md a0 a1):=aP (a:=(a0,a1)) h
def aU:fR:=CN pats res acc R
def bA (a0 a1:List az)(hg:gd a0 a1)(h0:a0.length<=maxLen)(h1:a1.length<=maxLen):∃n,start (iter step n) (a0.map az.row) (a1.map az.row)=ret ((md a0 a1):Bool):=by
 unfold start md
 simp only [List.length_map]
 refine hO (pt:=fun i=>Pt.p0 (a0.map az.row) (a1.map az.row) (i:Int)) (fun hl J i h h2=>?_) (fun J=>?_)
 ·simp only [step,MM,List.length_map,aK h,aK h2,aI,bh,cz,az.dV h,az.dV h2]
  rw [aH h h0]
  rw [call_eq (Z261.an (a0:=a0[i]) (a1:=a1[i]) trivial),Z261.md]
  cases dY a0[i] a1[i]<;>rfl
 ·simp only [step,List.length_map,dR,bu]
def af:cD 50 aU:=VV (run:=fun n x=>start (iter step n) x.1 x.2) mix aE (.cons Z261.af .nil) Tryz.func50 (by kernel_rfl) run_eq (fun ls a hl e hg=>bA a.1 a.2 hg (by have h:(ls.headD .hole).aQ.length<=maxLen:=hl.1.len;have e:a.1.map az.row=(ls.headD .hole).aQ:=(congrArg (fun x=>x.1) e.symm);rw [<-e] at h;simpa using h) (by have h:((aA 1 ls).headD .hole).aQ.length<=maxLen:=hl.2.1.len;have e:a.2.map az.row=((aA 1 ls).headD .hole).aQ:=(congrArg (fun x=>x.2) e.symm);rw [<-e] at h;simpa using h))
end Z262
namespace Z263
def F (x0 x1:bn):aJ:=(call (Z260.R (x0.aG,x1.aG)) fun v1=>(cond (!v1) bf (call (Z262.R (x0.aW,x1.aW)) fun v2=>(cond (!v2) bf eu))))
def md (a0 a1:aj):Bool:=dY a0 a1
def gd (a0 a1:aj):Prop:=True
def R:=RR (p2 gd) (u2 md)
def an {a0 a1}(h:gd a0 a1):R ((aj.r a0),(aj.r a1))=some (md a0 a1):=aP (a:=(a0,a1)) h
def aU:=CN [.agg rT,.agg rT] oB RT.dec R
def bA (a0)(a1)(hg:gd a0 a1):F (aj.r a0) (aj.r a1)=ret (md a0 a1):=by
 unfold md
 show (call (Z260.R ((a0.aG.map (dI aa.row)),(a1.aG.map (dI aa.row)))) fun v1=>(bif (!v1) then bf else (call (Z262.R ((a0.aW.map az.row),(a1.aW.map az.row))) fun v2=>(cond (!v2) bf eu))))=_
 simp only [call_eq (Z260.an (a0:=a0.aG) (a1:=a1.aG) trivial),Z260.md]
 simp only [call_eq (Z262.an (a0:=a0.aW) (a1:=a1.aW) trivial),Z262.md]
 try simp only [bne,fc,bool_beq,eO]
 have e:dY a0 a1=(dY a0.aG a1.aG&&(dY a0.aW a1.aW&&true)):=by
  cases a0;cases a1
  rw [Bool.eq_iff_iff]
  simp only [dh,Bool.and_eq_true,aj.mk.injEq,and_true]
 rw [e]
 refine cL fun _=>?_
 refine cL fun _=>?_
 rfl
def af:cD 17 aU:=W2 17 F mix aE bA (.cons Z260.af (.cons Z262.af .nil)) Tryz.func17
end Z263
namespace Z264
inductive Pt where
 | p0 (a b:aB) (c:Int)
def pid:Pt->Nat
 | .p0 ..=>4
def bY:Pt->List V
 | .p0 a b c=>[.sl none 9 a,.sl none 9 b,.int .i64 c]
def bX:Pt->List aV
 | .p0 a b c=>[]
def step (J:Pt->aJ):Pt->aJ
 | .p0 a b c=>(cond (decide (c<(a.length:Int))) (m2 c (a.length:Int) (m2 c (b.length:Int) (cond (!((pV a (toNat c))==(pV b (toNat c)))) bf (J (.p0 a b (i64.wrap (c+1))))))) eu)
def start (J:Pt->aJ)(x0 x1:aB):aJ:=(cond ((x0.length:Int) != (x1.length:Int)) bf (J (.p0 x0 x1 0)))
def live:Nat->Live:=fun i=>match i with | 4=>[(0,none),(1,none),(5,none)] | _=>[]
def pats:List ga:=[.rd (.sl 9),.rd (.sl 9)]
def res:RP:=.one (.rd (.bool))
abbrev E:Env:={ T:=assoc jV,G:=dw [],nt:=26 }
def step_eq (I:cB)(p:Pt):cR E live I (pid p) (bL Tryz.f20) (fm (live (pid p)) (bY p) (bX p)) (cA E Tryz.f20 res)=step (fun q=>I (pid q) (bY q) (bX q)) p:=by
 cases p<;>kernel_rfl
def start_eq (I:cB)(ls:List L):eL E live I (bL Tryz.f20) (cU pats ls) (cA E Tryz.f20 res)=start (fun q=>I (pid q) (bY q) (bX q)) (ls.headD .hole).aQ ((aA 1 ls).headD .hole).aQ:=by kernel_rfl
def run_eq (n:Nat)(ls:List L):eG E live Tryz.f20 res n (cU pats ls)=start (iter step n) (ls.headD .hole).aQ ((aA 1 ls).headD .hole).aQ:=cq (id:=pid) (vs:=bY) (hs:=bX) (step:=step) (start:=fun J=>start J (ls.headD .hole).aQ ((aA 1 ls).headD .hole).aQ) step_eq (fun I=>start_eq I ls) n
def md (a0 a1:List aD):Bool:=dY a0 a1
def gd (a0 a1:List aD):Prop:=True
def acc (ls:List L):aB×aB:=((ls.headD .hole).aQ,((aA 1 ls).headD .hole).aQ)
def R:(aB×aB)->Option Bool:=RR (p2 gd) (u2 md)
def an {a0 a1}(h:gd a0 a1):R ((a0.map cG),(a1.map cG))=some (md a0 a1):=aP (a:=(a0,a1)) h
def aU:fR:=CN pats res acc R
def bA (a0 a1:List aD)(hg:gd a0 a1)(h0:a0.length<=maxLen)(h1:a1.length<=maxLen):∃n,start (iter step n) (a0.map cG) (a1.map cG)=ret ((md a0 a1):Bool):=by
 unfold start md
 simp only [List.length_map]
 refine hO (pt:=fun i=>Pt.p0 (a0.map cG) (a1.map cG) (i:Int)) (fun hl J i h h2=>?_) (fun J=>?_)
 ·simp only [step,MM,List.length_map,aK h,aK h2,aI,bh,cz,pQ h,pQ h2]
  rw [aH h h0]
  simp only [bne,fc,bool_beq,eO]
  cases dY a0[i] a1[i]<;>rfl
 ·simp only [step,List.length_map,dR,bu]
def af:cD 20 aU:=VV (run:=fun n x=>start (iter step n) x.1 x.2) mix aE .nil Tryz.func20 (by kernel_rfl) run_eq (fun ls a hl e hg=>bA a.1 a.2 hg (by have h:(ls.headD .hole).aQ.length<=maxLen:=hl.1.len;have e:a.1.map cG=(ls.headD .hole).aQ:=(congrArg (fun x=>x.1) e.symm);rw [<-e] at h;simpa using h) (by have h:((aA 1 ls).headD .hole).aQ.length<=maxLen:=hl.2.1.len;have e:a.2.map cG=((aA 1 ls).headD .hole).aQ:=(congrArg (fun x=>x.2) e.symm);rw [<-e] at h;simpa using h))
end Z264
namespace Z265
def F (x0 x1:aY):aJ:=(cond (!(x0.bw==x1.bw)) bf (cond (x0.bQ != x1.bQ) bf (cond (x0.cw != x1.cw) bf (call (Z264.R (x0.bK,x1.bK)) fun v1=>(cond (!v1) bf eu)))))
def md (a0 a1:ah):Bool:=dY a0 a1
def gd (a0 a1:ah):Prop:=True
def R:=RR (p2 gd) (u2 md)
def an {a0 a1}(h:gd a0 a1):R ((ah.r a0),(ah.r a1))=some (md a0 a1):=aP (a:=(a0,a1)) h
def aU:=CN [.agg rV,.agg rV] oB RT.dec R
def bA (a0)(a1)(hg:gd a0 a1):F (ah.r a0) (ah.r a1)=ret (md a0 a1):=by
 unfold md
 show (bif (!(a0.bw==a1.bw)) then bf else (bif (a0.bQ != a1.bQ) then bf else (bif (a0.cw != a1.cw) then bf else (call (Z264.R ((a0.bK.map cG),(a1.bK.map cG))) fun v1=>(cond (!v1) bf eu)))))=_
 simp only [call_eq (Z264.an (a0:=a0.bK) (a1:=a1.bK) trivial),Z264.md]
 try simp only [bne,fc,bool_beq,eO]
 have e:dY a0 a1=(dY a0.bw a1.bw&&(dY a0.bQ a1.bQ&&(dY a0.cw a1.cw&&(dY a0.bK a1.bK&&true)))):=by
  cases a0;cases a1
  rw [Bool.eq_iff_iff]
  simp only [dh,Bool.and_eq_true,ah.mk.injEq,and_true]
 rw [e]
 refine cL fun _=>?_
 refine cL fun _=>?_
 refine cL fun _=>?_
 refine cL fun _=>?_
 rfl
def af:cD 72 aU:=W2 26 F mix aE bA (.cons Z264.af .nil) Tryz.func72
end Z265
namespace Z266
def F (x0 x1:cK):aJ:=(call (Z263.R (x0.bP,x1.bP)) fun v1=>(cond (!v1) bf (cond (x0.jw != x1.jw) bf (call (Z265.R (x0.bp,x1.bp)) fun v2=>(cond (!v2) bf (call (Z253.R (x0.bI,x1.bI)) fun v3=>(cond (!v3) bf (cond (x0.gP != x1.gP) bf eu))))))))
def md (a0 a1:aL):Bool:=dY a0 a1
def gd (a0 a1:aL):Prop:=True
def R:=RR (p2 gd) (u2 md)
def an {a0 a1}(h:gd a0 a1):R ((aL.r a0),(aL.r a1))=some (md a0 a1):=aP (a:=(a0,a1)) h
def aU:=CN [.agg BN,.agg BN] oB RT.dec R
def bA (a0)(a1)(hg:gd a0 a1):F (aL.r a0) (aL.r a1)=ret (md a0 a1):=by
 unfold md
 show (call (Z263.R ((aj.r a0.bP),(aj.r a1.bP))) fun v1=>(bif (!v1) then bf else (bif (a0.jw != a1.jw) then bf else (call (Z265.R ((ah.r a0.bp),(ah.r a1.bp))) fun v2=>(bif (!v2) then bf else (call (Z253.R ((a0.bI.map bq),(a1.bI.map bq))) fun v3=>(cond (!v3) bf (cond (a0.gP != a1.gP) bf eu))))))))=_
 simp only [call_eq (Z263.an (a0:=a0.bP) (a1:=a1.bP) trivial),Z263.md]
 simp only [call_eq (Z265.an (a0:=a0.bp) (a1:=a1.bp) trivial),Z265.md]
 simp only [call_eq (Z253.an (a0:=a0.bI) (a1:=a1.bI) trivial),Z253.md]
 try simp only [bne,fc,bool_beq,eO]
 have e:dY a0 a1=(dY a0.bP a1.bP&&(dY a0.jw a1.jw&&(dY a0.bp a1.bp&&(dY a0.bI a1.bI&&(dY a0.gP a1.gP&&true))))):=by
  cases a0;cases a1
  rw [Bool.eq_iff_iff]
  simp only [dh,Bool.and_eq_true,aL.mk.injEq,and_true]
 rw [e]
 refine cL fun _=>?_
 refine cL fun _=>?_
 refine cL fun _=>?_
 refine cL fun _=>?_
 refine cL fun _=>?_
 rfl
def af:cD 30 aU:=W2 33 F mix aE bA (.cons Z263.af (.cons Z265.af (.cons Z253.af .nil))) Tryz.func30
end Z266
namespace Z267
inductive Pt where
 | p0 (a b:aB) (c:Int)
def pid:Pt->Nat
 | .p0 ..=>4
def bY:Pt->List V
 | .p0 a b c=>[.sl none 60 a,.sl none 60 b,.int .i64 c]
def bX:Pt->List aV
 | .p0 a b c=>[]
def step (J:Pt->aJ):Pt->aJ
 | .p0 a b c=>(cond (decide (c<(a.length:Int))) (m2 c (a.length:Int) (m2 c (b.length:Int) (call (Z266.R ((cK.at a (toNat c)),(cK.at b (toNat c)))) fun v1=>(cond (!v1) bf (J (.p0 a b (i64.wrap (c+1)))))))) eu)
def start (J:Pt->aJ)(x0 x1:aB):aJ:=(cond ((x0.length:Int) != (x1.length:Int)) bf (J (.p0 x0 x1 0)))
def live:Nat->Live:=fun i=>match i with | 4=>[(0,none),(1,none),(5,none)] | _=>[]
def pats:List ga:=[.rd (.sl 60),.rd (.sl 60)]
def res:RP:=.one (.rd (.bool))
abbrev E:Env:={ T:=assoc jV,G:=dw [(30,Z266.aU)],nt:=27 }
def step_eq (I:cB)(p:Pt):cR E live I (pid p) (bL Tryz.f16) (fm (live (pid p)) (bY p) (bX p)) (cA E Tryz.f16 res)=step (fun q=>I (pid q) (bY q) (bX q)) p:=by
 cases p<;>kernel_rfl
def start_eq (I:cB)(ls:List L):eL E live I (bL Tryz.f16) (cU pats ls) (cA E Tryz.f16 res)=start (fun q=>I (pid q) (bY q) (bX q)) (ls.headD .hole).aQ ((aA 1 ls).headD .hole).aQ:=by kernel_rfl
def run_eq (n:Nat)(ls:List L):eG E live Tryz.f16 res n (cU pats ls)=start (iter step n) (ls.headD .hole).aQ ((aA 1 ls).headD .hole).aQ:=cq (id:=pid) (vs:=bY) (hs:=bX) (step:=step) (start:=fun J=>start J (ls.headD .hole).aQ ((aA 1 ls).headD .hole).aQ) step_eq (fun I=>start_eq I ls) n
def md (a0 a1:List aL):Bool:=dY a0 a1
def gd (a0 a1:List aL):Prop:=True
def acc (ls:List L):aB×aB:=((ls.headD .hole).aQ,((aA 1 ls).headD .hole).aQ)
def R:(aB×aB)->Option Bool:=RR (p2 gd) (u2 md)
def an {a0 a1}(h:gd a0 a1):R ((a0.map aL.row),(a1.map aL.row))=some (md a0 a1):=aP (a:=(a0,a1)) h
def aU:fR:=CN pats res acc R
def bA (a0 a1:List aL)(hg:gd a0 a1)(h0:a0.length<=maxLen)(h1:a1.length<=maxLen):∃n,start (iter step n) (a0.map aL.row) (a1.map aL.row)=ret ((md a0 a1):Bool):=by
 unfold start md
 simp only [List.length_map]
 refine hO (pt:=fun i=>Pt.p0 (a0.map aL.row) (a1.map aL.row) (i:Int)) (fun hl J i h h2=>?_) (fun J=>?_)
 ·simp only [step,MM,List.length_map,aK h,aK h2,aI,bh,cz,aL.dV h,aL.dV h2]
  rw [aH h h0]
  rw [call_eq (Z266.an (a0:=a0[i]) (a1:=a1[i]) trivial),Z266.md]
  cases dY a0[i] a1[i]<;>rfl
 ·simp only [step,List.length_map,dR,bu]
def af:cD 16 aU:=VV (run:=fun n x=>start (iter step n) x.1 x.2) mix aE (.cons Z266.af .nil) Tryz.func16 (by kernel_rfl) run_eq (fun ls a hl e hg=>bA a.1 a.2 hg (by have h:(ls.headD .hole).aQ.length<=maxLen:=hl.1.len;have e:a.1.map aL.row=(ls.headD .hole).aQ:=(congrArg (fun x=>x.1) e.symm);rw [<-e] at h;simpa using h) (by have h:((aA 1 ls).headD .hole).aQ.length<=maxLen:=hl.2.1.len;have e:a.2.map aL.row=((aA 1 ls).headD .hole).aQ:=(congrArg (fun x=>x.2) e.symm);rw [<-e] at h;simpa using h))
end Z267
namespace Z268
inductive Pt where
 | p0 (a b:aB) (c:Int)
def pid:Pt->Nat
 | .p0 ..=>4
def bY:Pt->List V
 | .p0 a b c=>[.sl none 57 a,.sl none 57 b,.int .i64 c]
def bX:Pt->List aV
 | .p0 a b c=>[]
def step (J:Pt->aJ):Pt->aJ
 | .p0 a b c=>(cond (decide (c<(a.length:Int))) (m2 c (a.length:Int) (m2 c (b.length:Int) (call (Z265.R ((aY.at a (toNat c)),(aY.at b (toNat c)))) fun v1=>(cond (!v1) bf (J (.p0 a b (i64.wrap (c+1)))))))) eu)
def start (J:Pt->aJ)(x0 x1:aB):aJ:=(cond ((x0.length:Int) != (x1.length:Int)) bf (J (.p0 x0 x1 0)))
def live:Nat->Live:=fun i=>match i with | 4=>[(0,none),(1,none),(5,none)] | _=>[]
def pats:List ga:=[.rd (.sl 57),.rd (.sl 57)]
def res:RP:=.one (.rd (.bool))
abbrev E:Env:={ T:=assoc jV,G:=dw [(72,Z265.aU)],nt:=27 }
def step_eq (I:cB)(p:Pt):cR E live I (pid p) (bL Tryz.f152) (fm (live (pid p)) (bY p) (bX p)) (cA E Tryz.f152 res)=step (fun q=>I (pid q) (bY q) (bX q)) p:=by
 cases p<;>kernel_rfl
def start_eq (I:cB)(ls:List L):eL E live I (bL Tryz.f152) (cU pats ls) (cA E Tryz.f152 res)=start (fun q=>I (pid q) (bY q) (bX q)) (ls.headD .hole).aQ ((aA 1 ls).headD .hole).aQ:=by kernel_rfl
def run_eq (n:Nat)(ls:List L):eG E live Tryz.f152 res n (cU pats ls)=start (iter step n) (ls.headD .hole).aQ ((aA 1 ls).headD .hole).aQ:=cq (id:=pid) (vs:=bY) (hs:=bX) (step:=step) (start:=fun J=>start J (ls.headD .hole).aQ ((aA 1 ls).headD .hole).aQ) step_eq (fun I=>start_eq I ls) n
def md (a0 a1:List ah):Bool:=dY a0 a1
def gd (a0 a1:List ah):Prop:=True
def acc (ls:List L):aB×aB:=((ls.headD .hole).aQ,((aA 1 ls).headD .hole).aQ)
def R:(aB×aB)->Option Bool:=RR (p2 gd) (u2 md)
def an {a0 a1}(h:gd a0 a1):R ((a0.map ah.row),(a1.map ah.row))=some (md a0 a1):=aP (a:=(a0,a1)) h
def aU:fR:=CN pats res acc R
def bA (a0 a1:List ah)(hg:gd a0 a1)(h0:a0.length<=maxLen)(h1:a1.length<=maxLen):∃n,start (iter step n) (a0.map ah.row) (a1.map ah.row)=ret ((md a0 a1):Bool):=by
 unfold start md
 simp only [List.length_map]
 refine hO (pt:=fun i=>Pt.p0 (a0.map ah.row) (a1.map ah.row) (i:Int)) (fun hl J i h h2=>?_) (fun J=>?_)
 ·simp only [step,MM,List.length_map,aK h,aK h2,aI,bh,cz,ah.dV h,ah.dV h2]
  rw [aH h h0]
  rw [call_eq (Z265.an (a0:=a0[i]) (a1:=a1[i]) trivial),Z265.md]
  cases dY a0[i] a1[i]<;>rfl
 ·simp only [step,List.length_map,dR,bu]
def af:cD 152 aU:=VV (run:=fun n x=>start (iter step n) x.1 x.2) mix aE (.cons Z265.af .nil) Tryz.func152 (by kernel_rfl) run_eq (fun ls a hl e hg=>bA a.1 a.2 hg (by have h:(ls.headD .hole).aQ.length<=maxLen:=hl.1.len;have e:a.1.map ah.row=(ls.headD .hole).aQ:=(congrArg (fun x=>x.1) e.symm);rw [<-e] at h;simpa using h) (by have h:((aA 1 ls).headD .hole).aQ.length<=maxLen:=hl.2.1.len;have e:a.2.map ah.row=((aA 1 ls).headD .hole).aQ:=(congrArg (fun x=>x.2) e.symm);rw [<-e] at h;simpa using h))
end Z268
namespace Z269
def F (x0 x1:dN):aJ:=(call (Z259.R (x0.aT,x1.aT)) fun v1=>(cond (!v1) bf (call (Z268.R (x0.bN,x1.bN)) fun v2=>(cond (!v2) bf eu))))
def md (a0 a1:aM):Bool:=dY a0 a1
def gd (a0 a1:aM):Prop:=True
def R:=RR (p2 gd) (u2 md)
def an {a0 a1}(h:gd a0 a1):R ((aM.r a0),(aM.r a1))=some (md a0 a1):=aP (a:=(a0,a1)) h
def aU:=CN [.agg sX,.agg sX] oB RT.dec R
def bA (a0)(a1)(hg:gd a0 a1):F (aM.r a0) (aM.r a1)=ret (md a0 a1):=by
 unfold md
 show (call (Z259.R ((a0.aT.map aa.row),(a1.aT.map aa.row))) fun v1=>(bif (!v1) then bf else (call (Z268.R ((a0.bN.map ah.row),(a1.bN.map ah.row))) fun v2=>(cond (!v2) bf eu))))=_
 simp only [call_eq (Z259.an (a0:=a0.aT) (a1:=a1.aT) trivial),Z259.md]
 simp only [call_eq (Z268.an (a0:=a0.bN) (a1:=a1.bN) trivial),Z268.md]
 try simp only [bne,fc,bool_beq,eO]
 have e:dY a0 a1=(dY a0.aT a1.aT&&(dY a0.bN a1.bN&&true)):=by
  cases a0;cases a1
  rw [Bool.eq_iff_iff]
  simp only [dh,Bool.and_eq_true,aM.mk.injEq,and_true]
 rw [e]
 refine cL fun _=>?_
 refine cL fun _=>?_
 rfl
def af:cD 120 aU:=W2 17 F mix aE bA (.cons Z259.af (.cons Z268.af .nil)) Tryz.func120
end Z269
namespace Z270
inductive Pt where
 | p0 (a b:aB) (c:Int)
def pid:Pt->Nat
 | .p0 ..=>4
def bY:Pt->List V
 | .p0 a b c=>[.sl none 155 a,.sl none 155 b,.int .i64 c]
def bX:Pt->List aV
 | .p0 a b c=>[]
def step (J:Pt->aJ):Pt->aJ
 | .p0 a b c=>(cond (decide (c<(a.length:Int))) (m2 c (a.length:Int) (m2 c (b.length:Int) (call (Z269.R ((dN.at a (toNat c)),(dN.at b (toNat c)))) fun v1=>(cond (!v1) bf (J (.p0 a b (i64.wrap (c+1)))))))) eu)
def start (J:Pt->aJ)(x0 x1:aB):aJ:=(cond ((x0.length:Int) != (x1.length:Int)) bf (J (.p0 x0 x1 0)))
def live:Nat->Live:=fun i=>match i with | 4=>[(0,none),(1,none),(5,none)] | _=>[]
def pats:List ga:=[.rd (.sl 155),.rd (.sl 155)]
def res:RP:=.one (.rd (.bool))
abbrev E:Env:={ T:=assoc jV,G:=dw [(120,Z269.aU)],nt:=27 }
def step_eq (I:cB)(p:Pt):cR E live I (pid p) (bL Tryz.f93) (fm (live (pid p)) (bY p) (bX p)) (cA E Tryz.f93 res)=step (fun q=>I (pid q) (bY q) (bX q)) p:=by
 cases p<;>kernel_rfl
def start_eq (I:cB)(ls:List L):eL E live I (bL Tryz.f93) (cU pats ls) (cA E Tryz.f93 res)=start (fun q=>I (pid q) (bY q) (bX q)) (ls.headD .hole).aQ ((aA 1 ls).headD .hole).aQ:=by kernel_rfl
def run_eq (n:Nat)(ls:List L):eG E live Tryz.f93 res n (cU pats ls)=start (iter step n) (ls.headD .hole).aQ ((aA 1 ls).headD .hole).aQ:=cq (id:=pid) (vs:=bY) (hs:=bX) (step:=step) (start:=fun J=>start J (ls.headD .hole).aQ ((aA 1 ls).headD .hole).aQ) step_eq (fun I=>start_eq I ls) n
def md (a0 a1:List aM):Bool:=dY a0 a1
def gd (a0 a1:List aM):Prop:=True
def acc (ls:List L):aB×aB:=((ls.headD .hole).aQ,((aA 1 ls).headD .hole).aQ)
def R:(aB×aB)->Option Bool:=RR (p2 gd) (u2 md)
def an {a0 a1}(h:gd a0 a1):R ((a0.map aM.row),(a1.map aM.row))=some (md a0 a1):=aP (a:=(a0,a1)) h
def aU:fR:=CN pats res acc R
def bA (a0 a1:List aM)(hg:gd a0 a1)(h0:a0.length<=maxLen)(h1:a1.length<=maxLen):∃n,start (iter step n) (a0.map aM.row) (a1.map aM.row)=ret ((md a0 a1):Bool):=by
 unfold start md
 simp only [List.length_map]
 refine hO (pt:=fun i=>Pt.p0 (a0.map aM.row) (a1.map aM.row) (i:Int)) (fun hl J i h h2=>?_) (fun J=>?_)
 ·simp only [step,MM,List.length_map,aK h,aK h2,aI,bh,cz,aM.dV h,aM.dV h2]
  rw [aH h h0]
  rw [call_eq (Z269.an (a0:=a0[i]) (a1:=a1[i]) trivial),Z269.md]
  cases dY a0[i] a1[i]<;>rfl
 ·simp only [step,List.length_map,dR,bu]
def af:cD 93 aU:=VV (run:=fun n x=>start (iter step n) x.1 x.2) mix aE (.cons Z269.af .nil) Tryz.func93 (by kernel_rfl) run_eq (fun ls a hl e hg=>bA a.1 a.2 hg (by have h:(ls.headD .hole).aQ.length<=maxLen:=hl.1.len;have e:a.1.map aM.row=(ls.headD .hole).aQ:=(congrArg (fun x=>x.1) e.symm);rw [<-e] at h;simpa using h) (by have h:((aA 1 ls).headD .hole).aQ.length<=maxLen:=hl.2.1.len;have e:a.2.map aM.row=((aA 1 ls).headD .hole).aQ:=(congrArg (fun x=>x.2) e.symm);rw [<-e] at h;simpa using h))
end Z270
namespace Z271
def F (x0 x1:cM):aJ:=(call (Z270.R (x0.bI,x1.bI)) fun v1=>(cond (!v1) bf (cond (x0.gH != x1.gH) bf eu)))
def md (a0 a1:au):Bool:=dY a0 a1
def gd (a0 a1:au):Prop:=True
def R:=RR (p2 gd) (u2 md)
def an {a0 a1}(h:gd a0 a1):R ((au.r a0),(au.r a1))=some (md a0 a1):=aP (a:=(a0,a1)) h
def aU:=CN [.agg AZ,.agg AZ] oB RT.dec R
def bA (a0)(a1)(hg:gd a0 a1):F (au.r a0) (au.r a1)=ret (md a0 a1):=by
 unfold md
 show (call (Z270.R ((a0.bI.map aM.row),(a1.bI.map aM.row))) fun v1=>(cond (!v1) bf (cond (a0.gH != a1.gH) bf eu)))=_
 simp only [call_eq (Z270.an (a0:=a0.bI) (a1:=a1.bI) trivial),Z270.md]
 try simp only [bne,fc,bool_beq,eO]
 have e:dY a0 a1=(dY a0.bI a1.bI&&(dY a0.gH a1.gH&&true)):=by
  cases a0;cases a1
  rw [Bool.eq_iff_iff]
  simp only [dh,Bool.and_eq_true,au.mk.injEq,and_true]
 rw [e]
 refine cL fun _=>?_
 refine cL fun _=>?_
 rfl
def af:cD 51 aU:=W2 16 F mix aE bA (.cons Z270.af .nil) Tryz.func51
end Z271
namespace Z272
inductive Pt where
 | p0 (a b:aB) (c:Int)
def pid:Pt->Nat
 | .p0 ..=>4
def bY:Pt->List V
 | .p0 a b c=>[.sl none 88 a,.sl none 88 b,.int .i64 c]
def bX:Pt->List aV
 | .p0 a b c=>[]
def step (J:Pt->aJ):Pt->aJ
 | .p0 a b c=>(cond (decide (c<(a.length:Int))) (m2 c (a.length:Int) (m2 c (b.length:Int) (call (Z271.R ((cM.at a (toNat c)),(cM.at b (toNat c)))) fun v1=>(cond (!v1) bf (J (.p0 a b (i64.wrap (c+1)))))))) eu)
def start (J:Pt->aJ)(x0 x1:aB):aJ:=(cond ((x0.length:Int) != (x1.length:Int)) bf (J (.p0 x0 x1 0)))
def live:Nat->Live:=fun i=>match i with | 4=>[(0,none),(1,none),(5,none)] | _=>[]
def pats:List ga:=[.rd (.sl 88),.rd (.sl 88)]
def res:RP:=.one (.rd (.bool))
abbrev E:Env:={ T:=assoc jV,G:=dw [(51,Z271.aU)],nt:=27 }
def step_eq (I:cB)(p:Pt):cR E live I (pid p) (bL Tryz.f18) (fm (live (pid p)) (bY p) (bX p)) (cA E Tryz.f18 res)=step (fun q=>I (pid q) (bY q) (bX q)) p:=by
 cases p<;>kernel_rfl
def start_eq (I:cB)(ls:List L):eL E live I (bL Tryz.f18) (cU pats ls) (cA E Tryz.f18 res)=start (fun q=>I (pid q) (bY q) (bX q)) (ls.headD .hole).aQ ((aA 1 ls).headD .hole).aQ:=by kernel_rfl
def run_eq (n:Nat)(ls:List L):eG E live Tryz.f18 res n (cU pats ls)=start (iter step n) (ls.headD .hole).aQ ((aA 1 ls).headD .hole).aQ:=cq (id:=pid) (vs:=bY) (hs:=bX) (step:=step) (start:=fun J=>start J (ls.headD .hole).aQ ((aA 1 ls).headD .hole).aQ) step_eq (fun I=>start_eq I ls) n
def md (a0 a1:List au):Bool:=dY a0 a1
def gd (a0 a1:List au):Prop:=True
def acc (ls:List L):aB×aB:=((ls.headD .hole).aQ,((aA 1 ls).headD .hole).aQ)
def R:(aB×aB)->Option Bool:=RR (p2 gd) (u2 md)
def an {a0 a1}(h:gd a0 a1):R ((a0.map au.row),(a1.map au.row))=some (md a0 a1):=aP (a:=(a0,a1)) h
def aU:fR:=CN pats res acc R
def bA (a0 a1:List au)(hg:gd a0 a1)(h0:a0.length<=maxLen)(h1:a1.length<=maxLen):∃n,start (iter step n) (a0.map au.row) (a1.map au.row)=ret ((md a0 a1):Bool):=by
 unfold start md
 simp only [List.length_map]
 refine hO (pt:=fun i=>Pt.p0 (a0.map au.row) (a1.map au.row) (i:Int)) (fun hl J i h h2=>?_) (fun J=>?_)
 ·simp only [step,MM,List.length_map,aK h,aK h2,aI,bh,cz,au.dV h,au.dV h2]
  rw [aH h h0]
  rw [call_eq (Z271.an (a0:=a0[i]) (a1:=a1[i]) trivial),Z271.md]
  cases dY a0[i] a1[i]<;>rfl
 ·simp only [step,List.length_map,dR,bu]
def af:cD 18 aU:=VV (run:=fun n x=>start (iter step n) x.1 x.2) mix aE (.cons Z271.af .nil) Tryz.func18 (by kernel_rfl) run_eq (fun ls a hl e hg=>bA a.1 a.2 hg (by have h:(ls.headD .hole).aQ.length<=maxLen:=hl.1.len;have e:a.1.map au.row=(ls.headD .hole).aQ:=(congrArg (fun x=>x.1) e.symm);rw [<-e] at h;simpa using h) (by have h:((aA 1 ls).headD .hole).aQ.length<=maxLen:=hl.2.1.len;have e:a.2.map au.row=((aA 1 ls).headD .hole).aQ:=(congrArg (fun x=>x.2) e.symm);rw [<-e] at h;simpa using h))
end Z272
namespace Z273
def F (x0 x1:bg):aJ:=(cond (!(x0.fName==x1.fName)) bf (cond (x0.bz != x1.bz) bf eu))
def md (a0 a1:bg):Bool:=dY a0 a1
def gd (a0 a1:bg):Prop:=True
def R:=RR (p2 gd) (u2 md)
def an {a0 a1}(h:gd a0 a1):R (a0,a1)=some (md a0 a1):=aP (a:=(a0,a1)) h
def aU:=CN [.agg Bx,.agg Bx] oB RT.dec R
def bA (a0)(a1)(hg:gd a0 a1):F a0 a1=ret (md a0 a1):=by
 unfold md
 show (cond (!(a0.fName==a1.fName)) bf (cond (a0.bz != a1.bz) bf eu))=_
 try simp only [bne,fc,bool_beq,eO]
 have e:dY a0 a1=(dY a0.fName a1.fName&&(dY a0.bz a1.bz&&true)):=by
  cases a0;cases a1
  rw [Bool.eq_iff_iff]
  simp only [dh,Bool.and_eq_true,bg.mk.injEq,and_true]
 rw [e]
 refine cL fun _=>?_
 refine cL fun _=>?_
 rfl
def af:cD 52 aU:=W2 15 F mix aE bA .nil Tryz.func52
end Z273
namespace Z274
inductive Pt where
 | p0 (a b:aB) (c:Int)
def pid:Pt->Nat
 | .p0 ..=>4
def bY:Pt->List V
 | .p0 a b c=>[.sl none 83 a,.sl none 83 b,.int .i64 c]
def bX:Pt->List aV
 | .p0 a b c=>[]
def step (J:Pt->aJ):Pt->aJ
 | .p0 a b c=>(cond (decide (c<(a.length:Int))) (m2 c (a.length:Int) (m2 c (b.length:Int) (call (Z273.R ((bg.at a (toNat c)),(bg.at b (toNat c)))) fun v1=>(cond (!v1) bf (J (.p0 a b (i64.wrap (c+1)))))))) eu)
def start (J:Pt->aJ)(x0 x1:aB):aJ:=(cond ((x0.length:Int) != (x1.length:Int)) bf (J (.p0 x0 x1 0)))
def live:Nat->Live:=fun i=>match i with | 4=>[(0,none),(1,none),(5,none)] | _=>[]
def pats:List ga:=[.rd (.sl 83),.rd (.sl 83)]
def res:RP:=.one (.rd (.bool))
abbrev E:Env:={ T:=assoc jV,G:=dw [(52,Z273.aU)],nt:=27 }
def step_eq (I:cB)(p:Pt):cR E live I (pid p) (bL Tryz.f19) (fm (live (pid p)) (bY p) (bX p)) (cA E Tryz.f19 res)=step (fun q=>I (pid q) (bY q) (bX q)) p:=by
 cases p<;>kernel_rfl
def start_eq (I:cB)(ls:List L):eL E live I (bL Tryz.f19) (cU pats ls) (cA E Tryz.f19 res)=start (fun q=>I (pid q) (bY q) (bX q)) (ls.headD .hole).aQ ((aA 1 ls).headD .hole).aQ:=by kernel_rfl
def run_eq (n:Nat)(ls:List L):eG E live Tryz.f19 res n (cU pats ls)=start (iter step n) (ls.headD .hole).aQ ((aA 1 ls).headD .hole).aQ:=cq (id:=pid) (vs:=bY) (hs:=bX) (step:=step) (start:=fun J=>start J (ls.headD .hole).aQ ((aA 1 ls).headD .hole).aQ) step_eq (fun I=>start_eq I ls) n
def md (a0 a1:List bg):Bool:=dY a0 a1
def gd (a0 a1:List bg):Prop:=True
def acc (ls:List L):aB×aB:=((ls.headD .hole).aQ,((aA 1 ls).headD .hole).aQ)
def R:(aB×aB)->Option Bool:=RR (p2 gd) (u2 md)
def an {a0 a1}(h:gd a0 a1):R ((a0.map bg.row),(a1.map bg.row))=some (md a0 a1):=aP (a:=(a0,a1)) h
def aU:fR:=CN pats res acc R
def bA (a0 a1:List bg)(hg:gd a0 a1)(h0:a0.length<=maxLen)(h1:a1.length<=maxLen):∃n,start (iter step n) (a0.map bg.row) (a1.map bg.row)=ret ((md a0 a1):Bool):=by
 unfold start md
 simp only [List.length_map]
 refine hO (pt:=fun i=>Pt.p0 (a0.map bg.row) (a1.map bg.row) (i:Int)) (fun hl J i h h2=>?_) (fun J=>?_)
 ·simp only [step,MM,List.length_map,aK h,aK h2,aI,bh,cz,bg.dV h,bg.dV h2]
  rw [aH h h0]
  rw [call_eq (Z273.an (a0:=a0[i]) (a1:=a1[i]) trivial),Z273.md]
  cases dY a0[i] a1[i]<;>rfl
 ·simp only [step,List.length_map,dR,bu]
def af:cD 19 aU:=VV (run:=fun n x=>start (iter step n) x.1 x.2) mix aE (.cons Z273.af .nil) Tryz.func19 (by kernel_rfl) run_eq (fun ls a hl e hg=>bA a.1 a.2 hg (by have h:(ls.headD .hole).aQ.length<=maxLen:=hl.1.len;have e:a.1.map bg.row=(ls.headD .hole).aQ:=(congrArg (fun x=>x.1) e.symm);rw [<-e] at h;simpa using h) (by have h:((aA 1 ls).headD .hole).aQ.length<=maxLen:=hl.2.1.len;have e:a.2.map bg.row=((aA 1 ls).headD .hole).aQ:=(congrArg (fun x=>x.2) e.symm);rw [<-e] at h;simpa using h))
end Z274
namespace Z275
set_option maxHeartbeats 8000000
inductive Pt where
 | p0 (a b:Int) (c:aB)
def pid:Pt->Nat
 | .p0 ..=>2
def bY:Pt->List V
 | .p0 a b c=>[.own 0,.int .i64 a,.int .i64 b]
def bX:Pt->List aV
 | .p0 a b c=>[.row 3 c]
def step (J:Pt->aJ):Pt->aJ
 | .p0 a b c=>(cond (decide (b<(c.length:Int))) (m2 b (c.length:Int) (J (.p0 (i64.wrap (a+1)) (i64.wrap (b+1)) (List.set c (toNat b) [L.int a])))) (ret ((a,c):Int×aB)))
def start (J:Pt->aJ)(x0:aB)(x1:Int):aJ:=J (.p0 x1 0 x0)
def live:Nat->Live:=fun i=>match i with | 2=>[(0,none),(1,none),(5,none)] | _=>[]
def pats:List (Bool×List K):=[(false,[.sl 3]),(false,[aC])]
def res:RP:=.nX [3]
abbrev E:Env:={ T:=assoc jV,G:=dw [],nt:=19,M:=fK [],np:=1,mt:=true }
def step_eq (I:cB)(p:Pt):cR E live I (pid p) (bL Tryz.f57) (fm (live (pid p)) (bY p) (bX p)) (cA E Tryz.f57 res)=step (fun q=>I (pid q) (bY q) (bX q)) p:=by
 cases p<;>kernel_rfl
def start_eq (I:cB)(ls:List L):eL E live I (bL Tryz.f57) (fY pats ls) (cA E Tryz.f57 res)=start (fun q=>I (pid q) (bY q) (bX q)) (ls.headD .hole).aQ ((aA 1 ls).headD .hole).toInt:=by kernel_rfl
def run_eq (n:Nat)(ls:List L):eG E live Tryz.f57 res n (fY pats ls)=start (iter step n) (ls.headD .hole).aQ ((aA 1 ls).headD .hole).toInt:=cq (id:=pid) (vs:=bY) (hs:=bX) (step:=step) (start:=fun J=>start J (ls.headD .hole).aQ ((aA 1 ls).headD .hole).toInt) step_eq (fun I=>start_eq I ls) n
def el (x k:Int):Int×Int:=((i64.wrap (k+1)),(k))
def gJ (x k:Int)(hk:eD k):eD (el x k).1:=(bZ _)
def cnt (x:Int):Nat:=1
def sum (a:List Int):Nat:=(a.map cnt).sum
def md (a0:List Int)(a1:Int):Int×List Int:=iR el a0 a1
def gd (a0:List Int)(a1:Int):Prop:=eD a1
def acc (ls:List L):aB×Int:=((ls.headD .hole).aQ,((aA 1 ls).headD .hole).toInt)
def R:(aB×Int)->Option (Int×aB):=RR (p2 gd) (u2 md)
def an {a0 a1}(h:gd a0 a1):R ((a0.map bq),a1)=some ((md a0 a1).1,((md a0 a1).2.map bq)):=aP (a:=(a0,a1)) h
def aU:gC:=MN pats acc R
def bA (a0:List Int)(a1:Int)(hg:gd a0 a1)(h0:a0.length<=maxLen):∃n,start (iter step n) (a0.map bq) a1=ret (((md a0 a1).1,((md a0 a1).2.map bq)):Int×aB):=by
 unfold gd at hg
 show ∃n,iter step n (Pt.p0 a1 0 (a0.map bq))=_
 unfold md
 refine fO (el:=el) (xs:=a0) 0 eD gJ (pt:=fun i k c=>Pt.p0 k (i:Int) (c.map bq)) (out:=fun b=>ret (b.1,b.2.map bq)) (fun J i k c hi hc hk=>?_) (fun J k c hc=>?_) hg
 ·have hm:c.length<=maxLen:=hc ▸ h0
  simp only [step,SS]
  refine ak (aK hi) ?_
  refine ak aI ?_
  refine ak (aK hi) ?_
  rw [aH hi hm]
  exact congrArg (fun q=>J (Pt.p0 (el (c.getD i 0) k).1 ((i+1:Nat):Int) q)) (List.map_set (f:=bq) (l:=c) (i:=i) (a:=(el (c.getD i 0) k).2)).symm
 ·simp only [step,SS]
  refine cH (by apply decide_eq_false;omega) ?_
  rfl
def af:eT Tryz.prog Ev 57 aU:=MV (run:=fun n x=>start (iter step n) x.1 x.2) mix aE .nil .nil Tryz.func57 (by kernel_rfl) run_eq (fun ls a hl e hg=>bA a.1 a.2 hg (by have h:(ls.headD .hole).aQ.length<=maxLen:=(hl _ _ (.head _)).len;have e:a.1.map bq=(ls.headD .hole).aQ:=(congrArg (fun x=>x.1) e.symm);rw [<-e] at h;simpa using h))
def iq {a0:List Int}{a1:Int}(h:eD a1):eD (md a0 a1).1:=iM gJ h
def nW (x k:Int)(h0:0<=k)(hb:k+(cnt x:Int)<=4611686018427387904):(el x k).1=k+cnt x:=by
 simp only [cnt,Int.natCast_add] at hb ⊢
 simp (disch:=omega) only [el,wi]
 all_goals first | done | omega
def kk (a0:List Int)(a1:Int)(h0:0<=a1)(hb:a1+(sum a0:Int)<=4611686018427387904):(md a0 a1).1=a1+sum a0:=gb nW a0 a1 h0 hb
def sz (a:List Int):sum a<=60*(dJ (fun y:Int=>0) a):=iL (fun x=>by
 try simp only [cnt] at *
 omega) a
end Z275
namespace Z276
set_option maxHeartbeats 8000000
inductive Pt where
 | p0 (a b:Int) (c:aB)
def pid:Pt->Nat
 | .p0 ..=>2
def bY:Pt->List V
 | .p0 a b c=>[.own 0,.int .i64 a,.int .i64 b]
def bX:Pt->List aV
 | .p0 a b c=>[.row 190 c]
def step (J:Pt->aJ):Pt->aJ
 | .p0 a b c=>(cond (decide (b<(c.length:Int))) (m2 b (c.length:Int) (m2 b (c.length:Int) (cj (eW b) (J (.p0 (i64.wrap ((i64.wrap (a+1))+1)) (i64.wrap (b+1)) (List.set c (toNat b) (bt.enc (⟨a,(i64.wrap (a+1))⟩:bt)))))))) (ret ((a,c):Int×aB)))
def start (J:Pt->aJ)(x0:aB)(x1:Int):aJ:=J (.p0 x1 0 x0)
def live:Nat->Live:=fun i=>match i with | 2=>[(0,none),(1,none),(5,none)] | _=>[]
def pats:List (Bool×List K):=[(false,[.sl 190]),(false,[aC])]
def res:RP:=.nX [190]
abbrev E:Env:={ T:=assoc jV,G:=dw [],nt:=27,M:=fK [],np:=1,mt:=true }
def step_eq (I:cB)(p:Pt):cR E live I (pid p) (bL Tryz.f95) (fm (live (pid p)) (bY p) (bX p)) (cA E Tryz.f95 res)=step (fun q=>I (pid q) (bY q) (bX q)) p:=by
 cases p<;>kernel_rfl
def start_eq (I:cB)(ls:List L):eL E live I (bL Tryz.f95) (fY pats ls) (cA E Tryz.f95 res)=start (fun q=>I (pid q) (bY q) (bX q)) (ls.headD .hole).aQ ((aA 1 ls).headD .hole).toInt:=by kernel_rfl
def run_eq (n:Nat)(ls:List L):eG E live Tryz.f95 res n (fY pats ls)=start (iter step n) (ls.headD .hole).aQ ((aA 1 ls).headD .hole).toInt:=cq (id:=pid) (vs:=bY) (hs:=bX) (step:=step) (start:=fun J=>start J (ls.headD .hole).aQ ((aA 1 ls).headD .hole).toInt) step_eq (fun I=>start_eq I ls) n
def el (x:bt)(k:Int):Int×bt:=((i64.wrap ((i64.wrap (k+1))+1)),(⟨k,(i64.wrap (k+1))⟩:bt))
def gJ (x:bt)(k:Int)(hk:eD k):eD (el x k).1:=(bZ _)
def cnt (x:bt):Nat:=2
def sum (a:List bt):Nat:=(a.map cnt).sum
def md (a0:List bt)(a1:Int):Int×List bt:=iR el a0 a1
def gd (a0:List bt)(a1:Int):Prop:=eD a1
def acc (ls:List L):aB×Int:=((ls.headD .hole).aQ,((aA 1 ls).headD .hole).toInt)
def R:(aB×Int)->Option (Int×aB):=RR (p2 gd) (u2 md)
def an {a0 a1}(h:gd a0 a1):R ((a0.map bt.row),a1)=some ((md a0 a1).1,((md a0 a1).2.map bt.row)):=aP (a:=(a0,a1)) h
def aU:gC:=MN pats acc R
def bA (a0:List bt)(a1:Int)(hg:gd a0 a1)(h0:a0.length<=maxLen):∃n,start (iter step n) (a0.map bt.row) a1=ret (((md a0 a1).1,((md a0 a1).2.map bt.row)):Int×aB):=by
 unfold gd at hg
 show ∃n,iter step n (Pt.p0 a1 0 (a0.map bt.row))=_
 unfold md
 refine fO (el:=el) (xs:=a0) bt.zero eD gJ (pt:=fun i k c=>Pt.p0 k (i:Int) (c.map bt.row)) (out:=fun b=>ret (b.1,b.2.map bt.row)) (fun J i k c hi hc hk=>?_) (fun J k c hc=>?_) hg
 ·have hm:c.length<=maxLen:=hc ▸ h0
  simp only [step,SS]
  refine ak (aK hi) ?_
  repeat first | refine ak aI ?_ | refine ak (aK hi) ?_ | refine ak (fW _) ?_
  rw [aH hi hm]
  exact congrArg (fun q=>J (Pt.p0 (el (c.getD i bt.zero) k).1 ((i+1:Nat):Int) q)) (List.map_set (f:=bt.row) (l:=c) (i:=i) (a:=(el (c.getD i bt.zero) k).2)).symm
 ·simp only [step,SS]
  refine cH (by apply decide_eq_false;omega) ?_
  rfl
def af:eT Tryz.prog Ev 95 aU:=MV (run:=fun n x=>start (iter step n) x.1 x.2) mix aE .nil .nil Tryz.func95 (by kernel_rfl) run_eq (fun ls a hl e hg=>bA a.1 a.2 hg (by have h:(ls.headD .hole).aQ.length<=maxLen:=(hl _ _ (.head _)).len;have e:a.1.map bt.row=(ls.headD .hole).aQ:=(congrArg (fun x=>x.1) e.symm);rw [<-e] at h;simpa using h))
def iq {a0:List bt}{a1:Int}(h:eD a1):eD (md a0 a1).1:=iM gJ h
def nW (x:bt)(k:Int)(h0:0<=k)(hb:k+(cnt x:Int)<=4611686018427387904):(el x k).1=k+cnt x:=by
 simp only [cnt,Int.natCast_add] at hb ⊢
 simp (disch:=omega) only [el,wi]
 all_goals first | done | omega
def kk (a0:List bt)(a1:Int)(h0:0<=a1)(hb:a1+(sum a0:Int)<=4611686018427387904):(md a0 a1).1=a1+sum a0:=gb nW a0 a1 h0 hb
def sz (a:List bt):sum a<=60*(dJ (fun y:bt=>bt.size y) a):=iL (fun x=>by
 try simp only [cnt,bt.size] at *
 omega) a
end Z276
end Go.DM
end
