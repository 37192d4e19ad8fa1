/- What the functions compute that the law reaches, and that the law returns true. Conditions: none. -/
import Derived.Test.YtknikjmcpjaggaaGreatResolveAllTy
import Derived.Test.YtknikjmcpjaggaaGreatResolveAllFnB
set_option linter.all false
set_option maxRecDepth 100000
noncomputable section
namespace Go.DM
open Go.Proofs
open Go.IntKind (i64)
open Int (toNat)
open Nat (le_trans zero_le)
namespace Z198
def F (x0:dS):aK:=(call (Z179.R x0.aU) fun v1=>(cond (!v1) bh (call (Z180.R x0.aU) fun v2=>(cond (v2.cz==(x0.bP.length:Int)) (call (Z197.R (v2.dm,x0.bP)) fun v3=>ret (v3:Bool)) bh))))
def md (a0:aN):Bool:=(cond (!(Z179.md a0.aU)) (false:Bool) (cond ((Z180.md a0.aU).cz==(a0.bP.length:Int)) ((Z197.md ((Z180.md a0.aU).dm) a0.bP):Bool) (false:Bool)))
def gd (a0:aN):Prop:=(aN.Sm (2^21) a0)
def R:=RR gd md
def aq {a0}(h:gd a0):R (aN.r a0)=some (md a0):=aR (a:=a0) h
def aW:=CN [.agg tA] oB RT.dec R
def bB (a0)(hg:gd a0):F (aN.r a0)=ret (md a0):=by
 unfold gd at hg
 have H0:=hg
 unfold F md
 try simp only [SS]
 refine ct (Z179.aq H0.1) ?_
 refine ay ret (fun _=>rfl) (fun c1=>?_)
 have dc1:=c1
 try simp only [DC] at dc1
 try have tc1:=Z179.tr (by simpa using c1)
 refine ct (Z180.aq ⟨H0.1,(by
   have:=(H0.1).1
   first | assumption | exact om)⟩) ?_
 try simp only [SS]
 refine ay ret (fun c2=>?_) (fun _=>rfl)
 refine ct (Z197.aq H0.2) ?_
 all_goals exact fz
def af:cG 510 aW:=W1 24 F mix aF bB (.cons Z179.af (.cons Z180.af (.cons Z197.af .nil))) Tryz.func510
def tr {a0:aN}(h:md a0=true):1<=a0.aU.length:=by
 unfold md at h
 cases hc:Z179.md a0.aU
 ·rw [hc] at h;cases h
 ·exact (Z179.tr hc).1
def br (a0:aN):md a0=Z89.md a0:=by
 unfold md Z89.md
 rw [Z179.br,Z197.br]
 unfold Z180.md Z74.md
 cases h:Z73.md a0.aU
 ·rfl
 ·rfl
end Z198
namespace Z199
def F (x0:dS):aK:=(call (Z198.R x0) fun v1=>(cond (!v1) (ret ((-1):Int)) (call (Z180.R x0.aU) fun v2=>ret (v2.bz:Int))))
def md (a0:aN):Int:=(cond (!(Z198.md a0)) ((-1):Int) ((Z180.md a0.aU).bz:Int))
def gd (a0:aN):Prop:=(aN.Sm (2^21) a0)
def R:=RR gd md
def aq {a0}(h:gd a0):R (aN.r a0)=some (md a0):=aR (a:=a0) h
def aW:=CN [.agg tA] oI RT.dec R
def bB (a0)(hg:gd a0):F (aN.r a0)=ret (md a0):=by
 unfold gd at hg
 have H0:=hg
 unfold F md
 try simp only [SS]
 refine ct (Z198.aq H0) ?_
 refine ay ret (fun _=>rfl) (fun c1=>?_)
 have dc1:=c1
 try simp only [DC] at dc1
 try have tc1:=Z198.tr (by simpa using c1)
 refine ct (Z180.aq ⟨H0.1,(by
   have:=(H0.1).1
   first | assumption | exact om)⟩) ?_
 try simp only [SS]
 all_goals exact fz
def af:cG 509 aW:=W1 10 F mix aF bB (.cons Z198.af (.cons Z180.af .nil)) Tryz.func509
def br (a0:aN):md a0=Z90.md a0:=by
 unfold md Z90.md
 rw [Z198.br]
 cases h:Z89.md a0
 ·rfl
 ·have h2:Z73.md a0.aU=true:=by
   unfold Z89.md Z74.md at h
   cases hc:Z73.md a0.aU
   ·rw [hc] at h;cases h
   ·rfl
  unfold Z180.md Z74.md
  rw [h2]
  rfl
end Z199
namespace Z200
def F (x0:dS)(x1:List L):aK:=(call (Z199.R x0) fun v1=>ret ((v1==(gy x1)):Bool))
def pats:List gk:=[.agg [.sl 123,.sl 61],.ptr [aC]]
def res:RP:=.one (.rd (.bool))
def md (a0:aN)(a1:Int):Bool:=(((Z199.md a0)==a1):Bool)
def gd (a0:aN)(a1:Int):Prop:=(aN.Sm (2^21) a0)
def acc (ls:List L):dS×Int:=((dS.dec ls),(gy (cT 1 (aA 2 ls))))
def R:(dS×Int)->Option Bool:=RR (p2 gd) (u2 md)
def aq {a0 a1}(h:gd a0 a1):R ((aN.r a0),a1)=some (md a0 a1):=aR (a:=(a0,a1)) h
def aW:ga:=CN pats res acc R
def bB (a0:aN)(a1:Int)(p1:List L)(e1:a1=(gy p1))(hg:gd a0 a1):F (aN.r a0) p1=ret ((md a0 a1):Bool):=by
 unfold gd at hg
 have H0:=hg
 unfold F md
 try simp only [SS,<-e1]
 refine ct (Z199.aq H0) ?_
 all_goals exact fz
def oR (ls:List L)(a:aN×Int)(e:acc ls=Im.im a)(hg:(p2 gd) a):∃n:Nat,F (dS.dec ls) (cT 1 (aA 2 ls))=ret (Im.im ((u2 md) a)):=by
 have e0:(aN.r a.1)=(dS.dec ls):=(congrArg (fun x=>x.1) e.symm)
 have hn:=bB a.1 a.2 (cT 1 (aA 2 ls)) (congrArg (fun x=>x.2) e.symm) hg
 refine ⟨0,?_⟩
 rw [<-e0]
 exact hn
def af:cG 508 aW:=VP (live:=fun _=>[]) (nt:=8) (accr:=fun ls=>((dS.dec ls),(cT 1 (aA 2 ls)))) (run:=fun _ x=>F x.1 x.2) mix aF (.cons Z199.af .nil) Tryz.func508 (by kernel_rfl) (fun _ _=>by kernel_rfl) (fun ls a _ e hg=>oR ls a e hg)
end Z200
namespace Z201
inductive Pt where
 | p0 (a:aD) (b:List L) (c d:Int)
def pid:Pt->Nat
 | .p0 ..=>2
def cg:Pt->List V
 | .p0 a b c d=>[.sl none 293 a,.fn 508 [.dL none [aC] b 0],.int .i64 c,.int .i64 d]
def bZ:Pt->List aZ
 | .p0 a b c d=>[]
def step (J:Pt->aK):Pt->aK
 | .p0 a b c d=>(cond (decide (d<c)) (m2 d (a.length:Int) (call (Z200.R ((dS.at a (toNat d)),(gy b))) fun v1=>(cond v1 (ret (d:Int)) (J (.p0 a b c (i64.wrap (d+1))))))) (ret ((-1):Int)))
def start (J:Pt->aK)(x0:aD)(x1:List L):aK:=J (.p0 x0 x1 (x0.length:Int) 0)
def live:Nat->Live:=fun i=>match i with | 2=>[(0,none),(1,none),(7,none),(8,none)] | _=>[]
def pats:List gk:=[.rd (.sl 293),.fn 508 [[aC]]]
def res:RP:=.one (.rd (.int .i64))
abbrev E:Env:={ T:=assoc kB,G:=dD [(508,Z200.aW)],nt:=19 }
def step_eq (I:cD)(p:Pt):cV E live I (pid p) (bN Tryz.f507) (fD (live (pid p)) (cg p) (bZ p)) (cE E Tryz.f507 res)=step (fun q=>I (pid q) (cg q) (bZ q)) p:=by
 cases p<;>kernel_rfl
def start_eq (I:cD)(ls:List L):eT E live I (bN Tryz.f507) (cZ pats ls) (cE E Tryz.f507 res)=start (fun q=>I (pid q) (cg q) (bZ q)) (ls.headD .hole).aQ (cT 1 (aA 1 ls)):=by kernel_rfl
def run_eq (n:Nat)(ls:List L):eN E live Tryz.f507 res n (cZ pats ls)=start (iter step n) (ls.headD .hole).aQ (cT 1 (aA 1 ls)):=cy (id:=pid) (vs:=cg) (hs:=bZ) (step:=step) (start:=fun J=>start J (ls.headD .hole).aQ (cT 1 (aA 1 ls))) step_eq (fun I=>start_eq I ls) n
def md (a0:List aN)(a1:Int):Int:=(dJ (S:=Unit) (β:=Int) (fun (i1:Nat) (y1:aN) (s3:Unit)=>(cond (Z200.md y1 a1) (.inr ((i1:Int):Int)) (.inl ()))) (fun (s3:Unit)=>((-1):Int)) 0 a0 ())
def gd (a0:List aN)(a1:Int):Prop:=(bO (2^21) (fun y:aN=>aN.Sm (2^21) y) a0)
def acc (ls:List L):aD×Int:=((ls.headD .hole).aQ,(gy (cT 1 (aA 1 ls))))
def R:(aD×Int)->Option Int:=RR (p2 gd) (u2 md)
def aq {a0 a1}(h:gd a0 a1):R ((a0.map aN.row),a1)=some (md a0 a1):=aR (a:=(a0,a1)) h
def aW:ga:=CN pats res acc R
def bB (a0:List aN)(a1:Int)(p1:List L)(e1:a1=(gy p1))(hg:gd a0 a1):∃n,start (iter step n) (a0.map aN.row) p1=ret ((md a0 a1):Int):=by
 unfold gd at hg
 have H0:=hg
 unfold start md
 try simp only [SS,<-e1]
 have Bh2:a0.length<=maxLen:=(by
   have:=(H0).1
   try simp only [maxLen] at *
   omega)
 refine ex_eq (out:=ret) (dc (z:=aN.zero)) ?_
 refine dR (p:=Pt.p0 (a0.map aN.row) p1 (a0.length:Int) 0) fz ?_
 refine cu (pt:=fun (i1:Nat) (s3:Unit)=>Pt.p0 (a0.map aN.row) p1 (a0.length:Int) (i1:Int)) (s:=(():Unit)) (out:=ret) (fun _ _=>True) (fun J i1 s3 h2 hih2=>?_) (fun s3 hih2=>?_) trivial
 ·simp only [step,SS,<-e1]
  have bb_:=Bh2
  simp only [maxLen] at bb_
  have:=(H0).1
  refine bD.yes (by apply decide_eq_true;omega) ?_
  refine bD.yes aJ ?_
  refine bD.yes (aL h2) ?_
  refine cr (Z200.aq (bO.getD (z:=aN.zero) H0 h2)) ?_
  refine bD.bif (fun c4=>?_) (fun c4=>?_)
  ·refine bD.inr ?_
   all_goals exact fz
  ·refine bD.inl trivial ?_
   rw [aI h2 Bh2]
   all_goals exact fz
 ·simp only [step,SS,<-e1]
  have:=(H0).1
  refine dF (by apply decide_eq_false;omega) ?_
  refine ⟨0,?_⟩
  all_goals exact fz
def oR (ls:List L)(a:List aN×Int)(e:acc ls=Im.im a)(hg:(p2 gd) a):∃n:Nat,start (iter step n) ((ls.headD .hole).aQ) (cT 1 (aA 1 ls))=ret (Im.im ((u2 md) a)):=by
 have e0:(a.1.map aN.row)=(ls.headD .hole).aQ:=(congrArg (fun x=>x.1) e.symm)
 obtain ⟨n,hn⟩:=bB a.1 a.2 (cT 1 (aA 1 ls)) (congrArg (fun x=>x.2) e.symm) hg
 refine ⟨n,?_⟩
 rw [<-e0]
 exact hn
def af:cG 507 aW:=VP (accr:=fun ls=>((ls.headD .hole).aQ,(cT 1 (aA 1 ls)))) (run:=fun n x=>start (iter step n) x.1 x.2) mix aF (.cons Z200.af .nil) Tryz.func507 (by kernel_rfl) run_eq (fun ls a _ e hg=>oR ls a e hg)
def fa (a0:List aN)(a1:Int):-1<=md a0 a1/\md a0 a1<(a0.length:Int):=by
 unfold md
 refine gx ?_ _ _
 all_goals
  intro i x s b h
  revert h
  simp only [Bool.cond_eq_ite]
  repeat' split
  all_goals (intro h;first | (cases h;rfl) | cases h)
def idx_eq (a0:List aN)(a1:Int):md a0 a1=ju (fun y=>Z200.md y a1) 0 a0:=by
 unfold md
 exact ia
end Z201
namespace Z202
def F (x0:cR)(x1:Int):aK:=(cond (decide (x1<0)) (ret ((-1):Int)) (call (Z201.R (x0.bK,x1)) fun v1=>ret (v1:Int)))
def md (a0:av)(a1:Int):Int:=(cond (decide (a1<0)) ((-1):Int) ((Z201.md a0.bK a1):Int))
def gd (a0:av)(a1:Int):Prop:=(av.Sm (2^21) a0)
def R:=RR (p2 gd) (u2 md)
def aq {a0 a1}(h:gd a0 a1):R ((av.r a0),a1)=some (md a0 a1):=aR (a:=(a0,a1)) h
def aW:=CN [.agg ze,pI] oI RT.dec R
def bB (a0)(a1)(hg:gd a0 a1):F (av.r a0) a1=ret (md a0 a1):=by
 unfold gd at hg
 have H0:=hg
 unfold F md
 try simp only [SS]
 refine ay ret (fun _=>rfl) (fun c1=>?_)
 refine ct (Z201.aq H0) ?_
 have fv1_:=Z201.fa a0.bK a1
 all_goals exact fz
def af:cG 436 aW:=W2 11 F mix aF bB (.cons Z201.af .nil) Tryz.func436
def fa (a0:av)(a1:Int):-1<=md a0 a1/\md a0 a1<(a0.bK.length:Int):=by
 unfold md
 have:=Z201.fa a0.bK a1
 cases decide (a1<0)
 ·exact this
 ·simp only [bq];omega
def br (a0:av)(a1:Int):md a0 a1=Z91.md a0 a1:=by
 unfold md Z91.md
 rw [Z201.idx_eq]
 rw [kZ (p:=fun y=>(Z90.md y==a1)&&decide (a1>=0)) (fun i x s=>by cases (Z90.md x==a1)<;>cases decide (a1>=0)<;>rfl)]
 have e:(fun y=>Z200.md y a1)=fun y=>Z90.md y==a1:=by
  funext y
  unfold Z200.md
  rw [Z199.br]
 have key:∀(xs:List aN) (i:Nat),ju (fun _=>false) i xs=-1:=by
  intro xs
  induction xs with
  | nil=>intro i;rfl
  | cons x xs ih=>intro i;unfold ju;exact ih _
 rw [e]
 by_cases h:a1<0
 ·rw [decide_eq_true h,decide_eq_false (show ¬a1>=0 by omega)]
  simp only [bq,Bool.and_false,key]
 ·rw [decide_eq_false h,decide_eq_true (show a1>=0 by omega)]
  simp only [bA,Bool.and_true]
end Z202
namespace Z203
def F (x0:bf)(x1:List L):aK:=ret ((x0.bn==(sDec x1)):Bool)
def pats:List gk:=[.agg [.str,aC,aC,.sl 9],.ptr [.str]]
def res:RP:=.one (.rd (.bool))
def md (a0:ah)(a1:aE):Bool:=((a0.bn==a1):Bool)
def gd (a0:ah)(a1:aE):Prop:=True
def acc (ls:List L):bf×aE:=((bf.dec ls),(sDec (cT 1 (aA 4 ls))))
def R:(bf×aE)->Option Bool:=RR (p2 gd) (u2 md)
def aq {a0 a1}(h:gd a0 a1):R ((ah.r a0),a1)=some (md a0 a1):=aR (a:=(a0,a1)) h
def aW:ga:=CN pats res acc R
def bB (a0:ah)(a1:aE)(p1:List L)(e1:a1=(sDec p1))(hg:gd a0 a1):F (ah.r a0) p1=ret ((md a0 a1):Bool):=by
 unfold F md
 try simp only [SS,<-e1]
 all_goals exact fz
def oR (ls:List L)(a:ah×aE)(e:acc ls=Im.im a)(hg:(p2 gd) a):∃n:Nat,F (bf.dec ls) (cT 1 (aA 4 ls))=ret (Im.im ((u2 md) a)):=by
 have e0:(ah.r a.1)=(bf.dec ls):=(congrArg (fun x=>x.1) e.symm)
 have hn:=bB a.1 a.2 (cT 1 (aA 4 ls)) (congrArg (fun x=>x.2) e.symm) hg
 refine ⟨0,?_⟩
 rw [<-e0]
 exact hn
def af:cG 562 aW:=VP (live:=fun _=>[]) (nt:=8) (accr:=fun ls=>((bf.dec ls),(cT 1 (aA 4 ls)))) (run:=fun _ x=>F x.1 x.2) mix aF .nil Tryz.func562 (by kernel_rfl) (fun _ _=>by kernel_rfl) (fun ls a _ e hg=>oR ls a e hg)
end Z203
namespace Z204
inductive Pt where
 | p0 (a:aD) (b:List L) (c d:Int)
def pid:Pt->Nat
 | .p0 ..=>2
def cg:Pt->List V
 | .p0 a b c d=>[.sl none 61 a,.fn 562 [.dL none [.str] b 0],.int .i64 c,.int .i64 d]
def bZ:Pt->List aZ
 | .p0 a b c d=>[]
def step (J:Pt->aK):Pt->aK
 | .p0 a b c d=>(cond (decide (d<c)) (m2 d (a.length:Int) (call (Z203.R ((bf.at a (toNat d)),(sDec b))) fun v1=>(cond v1 (ret (d:Int)) (J (.p0 a b c (i64.wrap (d+1))))))) (ret ((-1):Int)))
def start (J:Pt->aK)(x0:aD)(x1:List L):aK:=J (.p0 x0 x1 (x0.length:Int) 0)
def live:Nat->Live:=fun i=>match i with | 2=>[(0,none),(1,none),(7,none),(8,none)] | _=>[]
def pats:List gk:=[.rd (.sl 61),.fn 562 [[.str]]]
def res:RP:=.one (.rd (.int .i64))
abbrev E:Env:={ T:=assoc kB,G:=dD [(562,Z203.aW)],nt:=19 }
def step_eq (I:cD)(p:Pt):cV E live I (pid p) (bN Tryz.f561) (fD (live (pid p)) (cg p) (bZ p)) (cE E Tryz.f561 res)=step (fun q=>I (pid q) (cg q) (bZ q)) p:=by
 cases p<;>kernel_rfl
def start_eq (I:cD)(ls:List L):eT E live I (bN Tryz.f561) (cZ pats ls) (cE E Tryz.f561 res)=start (fun q=>I (pid q) (cg q) (bZ q)) (ls.headD .hole).aQ (cT 1 (aA 1 ls)):=by kernel_rfl
def run_eq (n:Nat)(ls:List L):eN E live Tryz.f561 res n (cZ pats ls)=start (iter step n) (ls.headD .hole).aQ (cT 1 (aA 1 ls)):=cy (id:=pid) (vs:=cg) (hs:=bZ) (step:=step) (start:=fun J=>start J (ls.headD .hole).aQ (cT 1 (aA 1 ls))) step_eq (fun I=>start_eq I ls) n
def md (a0:List ah)(a1:aE):Int:=(dJ (S:=Unit) (β:=Int) (fun (i1:Nat) (y1:ah) (s3:Unit)=>(cond (Z203.md y1 a1) (.inr ((i1:Int):Int)) (.inl ()))) (fun (s3:Unit)=>((-1):Int)) 0 a0 ())
def gd (a0:List ah)(a1:aE):Prop:=(bO (2^21) (fun y:ah=>ah.Sm (2^21) y) a0)
def acc (ls:List L):aD×aE:=((ls.headD .hole).aQ,(sDec (cT 1 (aA 1 ls))))
def R:(aD×aE)->Option Int:=RR (p2 gd) (u2 md)
def aq {a0 a1}(h:gd a0 a1):R ((a0.map ah.row),a1)=some (md a0 a1):=aR (a:=(a0,a1)) h
def aW:ga:=CN pats res acc R
def bB (a0:List ah)(a1:aE)(p1:List L)(e1:a1=(sDec p1))(hg:gd a0 a1):∃n,start (iter step n) (a0.map ah.row) p1=ret ((md a0 a1):Int):=by
 unfold gd at hg
 have H0:=hg
 unfold start md
 try simp only [SS,<-e1]
 have Bh2:a0.length<=maxLen:=(by
   have:=(H0).1
   try simp only [maxLen] at *
   omega)
 refine ex_eq (out:=ret) (dc (z:=ah.zero)) ?_
 refine dR (p:=Pt.p0 (a0.map ah.row) p1 (a0.length:Int) 0) fz ?_
 refine cu (pt:=fun (i1:Nat) (s3:Unit)=>Pt.p0 (a0.map ah.row) p1 (a0.length:Int) (i1:Int)) (s:=(():Unit)) (out:=ret) (fun _ _=>True) (fun J i1 s3 h2 hih2=>?_) (fun s3 hih2=>?_) trivial
 ·simp only [step,SS,<-e1]
  have bb_:=Bh2
  simp only [maxLen] at bb_
  have:=(H0).1
  refine bD.yes (by apply decide_eq_true;omega) ?_
  refine bD.yes aJ ?_
  refine bD.yes (aL h2) ?_
  refine cr (Z203.aq trivial) ?_
  refine bD.bif (fun c4=>?_) (fun c4=>?_)
  ·refine bD.inr ?_
   all_goals exact fz
  ·refine bD.inl trivial ?_
   rw [aI h2 Bh2]
   all_goals exact fz
 ·simp only [step,SS,<-e1]
  have:=(H0).1
  refine dF (by apply decide_eq_false;omega) ?_
  refine ⟨0,?_⟩
  all_goals exact fz
def oR (ls:List L)(a:List ah×aE)(e:acc ls=Im.im a)(hg:(p2 gd) a):∃n:Nat,start (iter step n) ((ls.headD .hole).aQ) (cT 1 (aA 1 ls))=ret (Im.im ((u2 md) a)):=by
 have e0:(a.1.map ah.row)=(ls.headD .hole).aQ:=(congrArg (fun x=>x.1) e.symm)
 obtain ⟨n,hn⟩:=bB a.1 a.2 (cT 1 (aA 1 ls)) (congrArg (fun x=>x.2) e.symm) hg
 refine ⟨n,?_⟩
 rw [<-e0]
 exact hn
def af:cG 561 aW:=VP (accr:=fun ls=>((ls.headD .hole).aQ,(cT 1 (aA 1 ls)))) (run:=fun n x=>start (iter step n) x.1 x.2) mix aF (.cons Z203.af .nil) Tryz.func561 (by kernel_rfl) run_eq (fun ls a _ e hg=>oR ls a e hg)
def fa (a0:List ah)(a1:aE):-1<=md a0 a1/\md a0 a1<(a0.length:Int):=by
 unfold md
 refine gx ?_ _ _
 all_goals
  intro i x s b h
  revert h
  simp only [Bool.cond_eq_ite]
  repeat' split
  all_goals (intro h;first | (cases h;rfl) | cases h)
def idx_eq (a0:List ah)(a1:aE):md a0 a1=ju (fun y=>Z203.md y a1) 0 a0:=by
 unfold md
 exact ia
end Z204
namespace Z205
def F (x0:aD)(x1:aE):aK:=(call (Z204.R (x0,x1)) fun v1=>ret (v1:Int))
def md (a0:List ah)(a1:aE):Int:=((Z204.md a0 a1):Int)
def gd (a0:List ah)(a1:aE):Prop:=(bO (2^21) (fun y:ah=>ah.Sm (2^21) y) a0)
def R:=RR (p2 gd) (u2 md)
def aq {a0 a1}(h:gd a0 a1):R ((a0.map ah.row),a1)=some (md a0 a1):=aR (a:=(a0,a1)) h
def aW:=CN [pL 61,pS] oI RT.dec R
def bB (a0)(a1)(hg:gd a0 a1):F (a0.map ah.row) a1=ret (md a0 a1):=by
 unfold gd at hg
 have H0:=hg
 unfold F md
 try simp only [SS]
 refine ct (Z204.aq H0) ?_
 have fv1_:=Z204.fa a0 a1
 all_goals exact fz
def af:cG 511 aW:=W2 8 F mix aF bB (.cons Z204.af .nil) Tryz.func511
def fa (a0:List ah)(a1:aE):-1<=md a0 a1/\md a0 a1<(a0.length:Int):=by
 unfold md
 refine gx ?_ _ _
 all_goals
  intro i x s b h
  revert h
  simp only [Bool.cond_eq_ite]
  repeat' split
  all_goals (intro h;first | (cases h;rfl) | cases h)
def br (a0:List ah)(a1:aE):md a0 a1=Z92.md a0 a1:=by
 unfold md Z92.md
 first
 | (simp only [Z204.idx_eq];done)
 | (simp only [Z204.idx_eq];rfl)
 | rfl
end Z205
namespace Z206
def F (x0:aD):aK:=(cond x0.isEmpty (either (ret ([]:aD)) ((cm (ff ((x0.length:Int)*16)) (ret (x0:aD))))) (cm (ff ((x0.length:Int)*16)) (ret (x0:aD))))
def md (a0:List aE):List aE:=a0
def gd (a0:List aE):Prop:=bO (2^21) (fun y:aE=>y.size<=(2^21)) a0
def R:=RR gd md
def aq {a0}(h:gd a0):R (a0.map cI)=some (a0.map cI):=aR (a:=a0) h
def aW:=CN [pL 9] (oL 9) RT.dec R
def bB (a0)(hg:gd a0):F (a0.map cI)=ret ((md a0).map cI):=by
 have H0:=hg.1
 unfold F md
 have hl:ff (((a0.map cI).length:Int)*16)=true:=je (by simp only [List.length_map];omega)
 simp only [hl,bq]
 cases a0 with
 | nil=>exact lG
 | cons x xs=>rfl
def af:cG 294 aW:=W1 8 F mix aF bB .nil Tryz.func294
end Z206
namespace Z207
def F (x0:bf):aK:=(call (Z206.R x0.bH) fun v1=>ret ((⟨x0.bn,x0.bM,x0.cq,v1⟩:bf):bf))
def md (a0:ah):ah:=a0
def gd (a0:ah):Prop:=(ah.Sm (2^21) a0)
def R:=RR gd md
def aq {a0}(h:gd a0):R (ah.r a0)=some (ah.r a0):=aR (a:=a0) h
def aW:=CN [.agg sn] (.agg f61) RT.dec R
def bB (a0)(hg:gd a0):F (ah.r a0)=ret (ah.r (md a0)):=by
 unfold gd at hg
 have H0:=hg
 unfold F md
 try simp only [SS]
 refine ct (Z206.aq H0.2) ?_
 try simp only [SS]
 all_goals exact fz
def af:cG 280 aW:=W1 8 F mix aF bB (.cons Z206.af .nil) Tryz.func280
end Z207
namespace Z208
inductive Pt where
 | p0 (a:aD) (b:Int) (c:aD)
 | p1 (a:Int) (b c:aD)
def pid:Pt->Nat
 | .p0 ..=>4
 | .p1 ..=>4
def cg:Pt->List V
 | .p0 a b c=>[.sl none 3 a,.int .i64 b,.own 0]
 | .p1 a b c=>[.own 0,.int .i64 a,.own 1]
def bZ:Pt->List aZ
 | .p0 a b c=>[.row 3 c]
 | .p1 a b c=>[.row 3 b,.row 3 c]
def step (J:Pt->aK):Pt->aK
 | .p0 a b c=>(cond (decide ((a.length:Int)>1)) (cond (decide ((mQ .i64 b 1)<(a.length:Int))) (cm (decide ((0:Int)<=(mQ .i64 b 1))) (cm (decide ((mQ .i64 b 1)<(a.length:Int))) (cm (ff (((c.length:Int)+1)*8)) (call (Z193.R a) fun v1=>J (.p1 (i64.wrap (Int.tdiv b 2)) v1 (c++[[L.int (jG a (toNat (mQ .i64 b 1)))]])))))) (call (Z193.R a) fun v2=>J (.p1 (i64.wrap (Int.tdiv b 2)) v2 c))) (ret (c:aD)))
 | .p1 a b c=>(cond (decide ((b.length:Int)>1)) (cond (decide ((mQ .i64 a 1)<(b.length:Int))) (cm (decide ((0:Int)<=(mQ .i64 a 1))) (cm (decide ((mQ .i64 a 1)<(b.length:Int))) (cm (ff (((c.length:Int)+1)*8)) (call (Z193.R b) fun v1=>J (.p1 (i64.wrap (Int.tdiv a 2)) v1 (c++[[L.int (jG b (toNat (mQ .i64 a 1)))]])))))) (call (Z193.R b) fun v2=>J (.p1 (i64.wrap (Int.tdiv a 2)) v2 c))) (ret (c:aD)))
def start (J:Pt->aK)(x0:aD)(x1:Int):aK:=(call (Z135.R (x1,0,(i64.wrap ((x0.length:Int) - 1)))) fun v1=>(cond (!v1) (ret ([]:aD)) (J (.p0 x0 x1 []))))
def live:Nat->Live:=fun i=>match i with | 4=>[(0,none),(1,none),(5,some 3)] | _=>[]
def Cc (b:Nat)(h:b<2^40):mQ .i64 (b:Int) 1=((Z94.vA b:Nat):Int):=by
 have e1:(BitVec.ofInt 64 (b:Int)).toNat=b:=by simp [BitVec.toNat_ofInt];omega
 have e2:(BitVec.ofInt 64 (1:Int)).toNat=1:=by decide
 have e3:(b ^^^ 1)=Z94.vA b:=by
  have a1:(b ^^^ 1) % 2=(b+1) % 2:=by
   have h:=Nat.xor_mod_two_pow (a:=b) (b:=1) (n:=1)
   rw [Nat.pow_one,show (1:Nat) % 2=1 from rfl] at h
   rcases Nat.mod_two_eq_zero_or_one b with e | e
   ·rw [e,show (0:Nat) ^^^ 1=1 from rfl] at h;omega
   ·rw [e,show (1:Nat) ^^^ 1=0 from rfl] at h;omega
  have a2:(b ^^^ 1) / 2=b / 2:=by rw [Nat.xor_div_two];simp
  unfold Z94.vA;split<;>omega
 show i64.wrap (((BitVec.ofInt 64 (b:Int) ^^^ BitVec.ofInt 64 1).toNat:Nat):Int)=_
 rw [BitVec.toNat_xor,e1,e2,e3,wi _ (by unfold Z94.vA;split<;>omega)]
def md (a0:List Int)(a1:Int):List Int:=Z94.md a0 a1
def gd (a0:List Int)(a1:Int):Prop:=bO (2^38) (fun y:Int=>True) a0
def R:=RR (p2 gd) (u2 md)
def aq {a0 a1}(h:gd a0 a1):R ((a0.map bu),a1)=some ((md a0 a1).map bu):=aR (a:=(a0,a1)) h
def aW:=CN [pL 3,pI] (oL 3) RT.dec R
def bB (a0)(a1)(hg:gd a0 a1):∃n,start (iter step n) (a0.map bu) a1=ret ((md a0 a1).map bu):=by
 have one:∀(i:Nat) (l c r:List Int) (n:Nat),bO (2^38) (fun y:Int=>True) l->i<2^40->c.length<2^40->(if l.length>1 then iter step n (Pt.p1 ((i / 2:Nat):Int) ((Z84.up l).map bu) ((Z94.vB i l c).map bu))=ret (r.map bu) else c=r)->
   step (iter step n) (Pt.p0 (l.map bu) (i:Int) (c.map bu))=ret (r.map bu)/\step (iter step n) (Pt.p1 (i:Int) (l.map bu) (c.map bu))=ret (r.map bu):=by
  intro i l c r n hl hi hc h
  have hs:=Cc i hi
  have hd:=Z94.half i hi
  refine ⟨?_,?_⟩
  all_goals
   simp only [step,MM,List.length_map,gU,hs,hd,cB]
   by_cases h1:l.length>1
   ·rw [if_pos h1] at h
    rw [decide_eq_true (show (l.length:Int)>1 by omega),bq]
    by_cases h2:Z94.vA i<l.length
    ·rw [Z94.vB,if_pos h2,List.map_append] at h
     rw [decide_eq_true (show ((Z94.vA i:Nat):Int)<(l.length:Int) by omega),bq,decide_eq_true (show (0:Int)<=((Z94.vA i:Nat):Int) by omega),bq,bq,je (by omega),bq]
     exact bg ((Z84.up l).map bu) (Z193.aq hl) h
    ·rw [Z94.vB,if_neg h2] at h
     rw [decide_eq_false (show ¬((Z94.vA i:Nat):Int)<(l.length:Int) by omega),bA]
     exact bg ((Z84.up l).map bu) (Z193.aq hl) h
   ·rw [if_neg h1] at h
    rw [decide_eq_false (show ¬(l.length:Int)>1 by omega),bA,h]
 have key:∀(k i:Nat) (l c:List Int),bO (2^38) (fun y:Int=>True) l->l.length<=k->i<2^40->c.length+k<2^40->
   ∃n,step (iter step n) (Pt.p0 (l.map bu) (i:Int) (c.map bu))=ret ((Z94.zg k i l c).map bu)/\step (iter step n) (Pt.p1 (i:Int) (l.map bu) (c.map bu))=ret ((Z94.zg k i l c).map bu):=by
  intro k
  induction k with
  | zero=>intro i l c hl hk hi hc;exact ⟨0,one i l c _ 0 hl hi (by omega) (by rw [if_neg (by omega)];rfl)⟩
  | succ k ih=>
   intro i l c hl hk hi hc
   unfold Z94.zg
   by_cases h1:l.length>1
   ·have hu:=Z84.ku l
    have hl1:=hl.1
    have h2:(Z94.vB i l c).length<=c.length+1:=by unfold Z94.vB;split<;>simp
    obtain ⟨n,_,hn⟩:=ih (i / 2) (Z84.up l) (Z94.vB i l c) ⟨by omega,fun _ _=>trivial⟩ (by omega) (by omega) (by omega)
    rw [if_pos h1]
    exact ⟨n+1,one i l c _ (n+1) hl hi (by omega) (by rw [if_pos h1];exact hn)⟩
   ·rw [if_neg h1]
    exact ⟨0,one i l c _ 0 hl hi (by omega) (by rw [if_neg h1])⟩
 unfold gd at hg
 unfold start md Z94.md
 simp only [List.length_map]
 have hlen:=hg.1
 cases h:Z45.md a1 0 (i64.wrap ((a0.length:Int) - 1))
 ·exact ⟨0,bg false (by rw [<-h,<-Z135.br];exact Z135.aq trivial) rfl⟩
 ·have hh:=h
  rw [wi _ (by omega)] at hh
  simp [Z45.md] at hh
  obtain ⟨i,rfl⟩:=Int.eq_ofNat_of_zero_le hh.1
  obtain ⟨n,hn,_⟩:=key a0.length i a0 [] hg (Nat.le_refl _) (by omega) (by simp only [List.length_nil];omega)
  exact ⟨n+1,bg true (by rw [<-h,<-Z135.br];exact Z135.aq trivial) hn⟩
def af:cG 563 aW:=L2 36 pid cg bZ live step start mix aF bB (.cons Z135.af (.cons Z193.af .nil)) Tryz.func563
def len (a0:List Int)(a1:Int):(md a0 a1).length<=a0.length:=by
 intros;unfold md Z94.md
 cases Z45.md _ 0 _
 ·exact zero_le _
 ·exact le_trans (Z94.tF _ _ _ _) (by simp)
def br (a0:List Int)(a1:Int):md a0 a1=Z94.md a0 a1:=by
 unfold md Z94.md
 first
 | (simp only [Z135.br,Z193.br];done)
 | (simp only [Z135.br,Z193.br];rfl)
 | rfl
end Z208
namespace Z209
def F (x0:aD)(x1:aE):aK:=(call (Z205.R (x0,x1)) fun v1=>(cond (decide (v1<0)) (ret (((⟨0,[]⟩:bT),false):bT×Bool)) (call (Z190.R x0) fun v2=>(call (Z208.R (v2,v1)) fun v3=>ret (((⟨v1,v3⟩:bT),true):bT×Bool)))))
def md (a0:List ah)(a1:aE):aP×Bool:=(cond (decide ((Z205.md a0 a1)<0)) ((⟨0,[]⟩:aP),false) ((⟨(Z205.md a0 a1),(Z208.md (Z190.md a0) (Z205.md a0 a1))⟩:aP),true))
def gd (a0:List ah)(a1:aE):Prop:=(bO (2^21) (fun y:ah=>ah.Sm (2^21) y) a0)
def R:=RR (p2 gd) (u2 md)
def aq {a0 a1}(h:gd a0 a1):R ((a0.map ah.row),a1)=some ((aP.r (md a0 a1).1),(md a0 a1).2):=aR (a:=(a0,a1)) h
def aW:=CN [pL 61,pS] (.iW [(true,f128),(false,[fB])]) RT.dec R
def bB (a0)(a1)(hg:gd a0 a1):F (a0.map ah.row) a1=ret ((aP.r (md a0 a1).1),(md a0 a1).2):=by
 unfold gd at hg
 have H0:=hg
 unfold F md
 try simp only [SS]
 refine ct (Z205.aq H0) ?_
 have fv1_:=Z205.fa a0 a1
 refine ay (fun b:aP×Bool=>ret (((aP.r b.1),b.2):bT×Bool)) (fun c1=>?_) (fun c1=>?_)
 ·all_goals exact fz
 ·have dc1:=c1
  try simp only [DC] at dc1
  refine ct (Z190.aq H0) ?_
  try simp only [SS]
  refine ct (Z208.aq ⟨(have:=Z190.len a0;have:=(H0).1;om),fun _ _=>trivial⟩) ?_
  try simp only [SS]
  all_goals exact fz
def af:cG 512 aW:=W2 19 F mix aF bB (.cons Z205.af (.cons Z190.af (.cons Z208.af .nil))) Tryz.func512
def fW {a0:List ah}{a1:aE}(hg:gd a0 a1):aP.Sm (2^21) ((md a0 a1).1):=by
 unfold gd at hg;unfold md
 cases decide (Z205.md a0 a1<0)
 ·refine ⟨?_,fun _ _=>trivial⟩
  have h:=Z208.len (Z190.md a0) (Z205.md a0 a1)
  rw [Z190.len] at h
  exact le_trans h hg.1
 ·exact bO.nil
def br (a0:List ah)(a1:aE):md a0 a1=Z95.md a0 a1:=by
 unfold md Z95.md
 first
 | (simp only [Z205.br,Z190.br,Z208.br];done)
 | (simp only [Z205.br,Z190.br,Z208.br];rfl)
 | rfl
end Z209
namespace Z210
inductive Pt where
 | p0 (a:aE) (b:Int) (c:aD) (d e:Int)
def pid:Pt->Nat
 | .p0 ..=>3
def cg:Pt->List V
 | .p0 a b c d e=>[.str a,.int .i64 b,.sl none 61 c,.int .i64 d,.int .i64 e]
def bZ:Pt->List aZ
 | .p0 a b c d e=>[]
def step (J:Pt->aK):Pt->aK
 | .p0 a b c d e=>(cond (decide (e<d)) (m2 e (c.length:Int) (call (Z184.R ((bf.at c (toNat e)).bn,a)) fun v1=>(cond (decide (v1<0)) (J (.p0 a (i64.wrap (b+1)) c d (i64.wrap (e+1)))) (J (.p0 a b c d (i64.wrap (e+1))))))) (ret (b:Int)))
def start (J:Pt->aK)(x0:aD)(x1:aE):aK:=J (.p0 x1 0 x0 (x0.length:Int) 0)
def live:Nat->Live:=fun i=>match i with | 3=>[(1,none),(5,none),(8,none),(9,none),(10,none)] | _=>[]
def md (a0:List ah)(a1:aE):Int:=(dW (S:=Int) (β:=Int) (fun (y1:ah) (s3:Int)=>(cond (decide ((Z184.md (y1.bn) a1)<0)) (.inl (i64.wrap (s3+1))) (.inl s3))) (fun (s3:Int)=>(s3:Int)) a0 0)
def gd (a0:List ah)(a1:aE):Prop:=(bO (2^21) (fun y:ah=>ah.Sm (2^21) y) a0)
def R:=RR (p2 gd) (u2 md)
def aq {a0 a1}(h:gd a0 a1):R ((a0.map ah.row),a1)=some (md a0 a1):=aR (a:=(a0,a1)) h
def aW:=CN [pL 61,pS] oI RT.dec R
def bB (a0)(a1)(hg:gd a0 a1):∃n,start (iter step n) (a0.map ah.row) a1=ret (md a0 a1):=by
 unfold gd at hg
 have H0:=hg
 unfold start md
 try simp only [SS]
 have Bh2:a0.length<=maxLen:=(by
   have:=(H0).1
   try simp only [maxLen] at *
   omega)
 refine ex_eq (out:=ret) (eJ (z:=ah.zero)) ?_
 refine dR (p:=Pt.p0 a1 0 (a0.map ah.row) (a0.length:Int) 0) fz ?_
 refine cu (pt:=fun (i1:Nat) (s3:Int)=>Pt.p0 a1 s3 (a0.map ah.row) (a0.length:Int) (i1:Int)) (s:=(0:Int)) (out:=ret) (fun _ _=>True) (fun J i1 s3 h2 hih2=>?_) (fun s3 hih2=>?_) trivial
 ·simp only [step,SS]
  have bb_:=Bh2
  simp only [maxLen] at bb_
  have:=(H0).1
  refine bD.yes (by apply decide_eq_true;omega) ?_
  refine bD.yes aJ ?_
  refine bD.yes (aL h2) ?_
  refine cr (Z184.aq trivial) ?_
  refine bD.bif (fun c4=>?_) (fun c4=>?_)
  ·refine bD.inl trivial ?_
   rw [aI h2 Bh2]
   all_goals exact fz
  ·refine bD.inl trivial ?_
   rw [aI h2 Bh2]
   all_goals exact fz
 ·simp only [step,SS]
  have:=(H0).1
  refine dF (by apply decide_eq_false;omega) ?_
  refine ⟨0,?_⟩
  all_goals exact fz
def af:cG 566 aW:=L2 23 pid cg bZ live step start mix aF bB (.cons Z184.af .nil) Tryz.func566
def fa (a0:List ah)(a1:aE):a0.length<=2^21->0<=md a0 a1/\md a0 a1<=(a0.length:Int):=fun hl=>by
 have key:∀(xs:List ah) (s:Int),0<=s->s+xs.length<=2^22->0<=dW (S:=Int) (β:=Int) (fun (y1:ah) (s3:Int)=>(cond (decide ((Z184.md (y1.bn) a1)<0)) (.inl (i64.wrap (s3+1))) (.inl s3))) (fun (s3:Int)=>(s3:Int)) xs s/\dW (S:=Int) (β:=Int) (fun (y1:ah) (s3:Int)=>(cond (decide ((Z184.md (y1.bn) a1)<0)) (.inl (i64.wrap (s3+1))) (.inl s3))) (fun (s3:Int)=>(s3:Int)) xs s<=s+xs.length:=by
  intro xs
  induction xs with
  | nil=>intro s h0 h1;exact ⟨h0,by simp [dW]⟩
  | cons x xs ih=>
   intro s h0 h1
   simp only [List.length_cons] at h1 ⊢
   unfold dW
   cases decide (Z184.md x.bn a1<0)
   ·have:=ih s h0 (by omega)
    simp only [bA]
    omega
   ·have:=ih (s+1) (by omega) (by omega)
    simp only [bq]
    rw [wi _ (by omega)]
    omega
 have:=key a0 0 (Int.le_refl _) (by omega)
 unfold md
 omega
def br (a0:List ah)(a1:aE):md a0 a1=Z96.md a0 a1:=by
 unfold md Z96.md
 first
 | (simp only [Z184.br];done)
 | (simp only [Z184.br];rfl)
 | rfl
end Z210
namespace Z211
def F (x0:aD)(x1:aE):aK:=(call (Z185.R x0) fun v1=>(cond (!v1) (ret (((⟨0,(⟨(⟨#[]⟩:aE),0,0,[]⟩:bf),(⟨(⟨#[]⟩:aE),0,0,[]⟩:bf),(⟨0,[]⟩:bT),(⟨0,[]⟩:bT)⟩:dV),false):dV×Bool)) (call (Z136.R x1) fun v2=>(cond (!v2) (ret (((⟨0,(⟨(⟨#[]⟩:aE),0,0,[]⟩:bf),(⟨(⟨#[]⟩:aE),0,0,[]⟩:bf),(⟨0,[]⟩:bT),(⟨0,[]⟩:bT)⟩:dV),false):dV×Bool)) (call (Z205.R (x0,x1)) fun v3=>(cond (decide (v3>=0)) (ret (((⟨0,(⟨(⟨#[]⟩:aE),0,0,[]⟩:bf),(⟨(⟨#[]⟩:aE),0,0,[]⟩:bf),(⟨0,[]⟩:bT),(⟨0,[]⟩:bT)⟩:dV),false):dV×Bool)) (call (Z210.R (x0,x1)) fun v4=>(cond (decide (v4>0)) (cm (decide ((0:Int)<=(i64.wrap (v4 - 1)))) (cm (decide ((i64.wrap (v4 - 1))<(x0.length:Int))) (call (Z207.R (bf.at x0 (toNat (i64.wrap (v4 - 1))))) fun v5=>(call (Z209.R (x0,v5.bn)) fun v6=>(cond (decide (v4<(x0.length:Int))) (m2 v4 (x0.length:Int) (call (Z207.R (bf.at x0 (toNat v4))) fun v7=>(call (Z209.R (x0,v7.bn)) fun v8=>ret (((⟨v4,v5,v7,v6.1,v8.1⟩:dV),true):dV×Bool)))) (ret (((⟨v4,v5,(⟨(⟨#[]⟩:aE),0,0,[]⟩:bf),v6.1,(⟨0,[]⟩:bT)⟩:dV),true):dV×Bool))))))) (cond (decide (v4<(x0.length:Int))) (m2 v4 (x0.length:Int) (call (Z207.R (bf.at x0 (toNat v4))) fun v9=>(call (Z209.R (x0,v9.bn)) fun v10=>ret (((⟨v4,(⟨(⟨#[]⟩:aE),0,0,[]⟩:bf),v9,(⟨0,[]⟩:bT),v10.1⟩:dV),true):dV×Bool)))) (ret (((⟨v4,(⟨(⟨#[]⟩:aE),0,0,[]⟩:bf),(⟨(⟨#[]⟩:aE),0,0,[]⟩:bf),(⟨0,[]⟩:bT),(⟨0,[]⟩:bT)⟩:dV),true):dV×Bool)))))))))))
def md (a0:List ah)(a1:aE):bW×Bool:=(cond (!(Z185.md a0)) ((⟨0,(⟨((⟨#[]⟩:aE):aE),0,0,[]⟩:ah),(⟨((⟨#[]⟩:aE):aE),0,0,[]⟩:ah),(⟨0,[]⟩:aP),(⟨0,[]⟩:aP)⟩:bW),false) (cond (!(Z136.md a1)) ((⟨0,(⟨((⟨#[]⟩:aE):aE),0,0,[]⟩:ah),(⟨((⟨#[]⟩:aE):aE),0,0,[]⟩:ah),(⟨0,[]⟩:aP),(⟨0,[]⟩:aP)⟩:bW),false) (cond (decide ((Z205.md a0 a1)>=0)) ((⟨0,(⟨((⟨#[]⟩:aE):aE),0,0,[]⟩:ah),(⟨((⟨#[]⟩:aE):aE),0,0,[]⟩:ah),(⟨0,[]⟩:aP),(⟨0,[]⟩:aP)⟩:bW),false) (cond (decide ((Z210.md a0 a1)>0)) (cond (decide ((Z210.md a0 a1)<(a0.length:Int))) ((⟨(Z210.md a0 a1),(a0.getD (toNat (i64.wrap ((Z210.md a0 a1) - 1))) ah.zero),(a0.getD (toNat (Z210.md a0 a1)) ah.zero),(Z209.md a0 ((a0.getD (toNat (i64.wrap ((Z210.md a0 a1) - 1))) ah.zero).bn)).1,(Z209.md a0 ((a0.getD (toNat (Z210.md a0 a1)) ah.zero).bn)).1⟩:bW),true) ((⟨(Z210.md a0 a1),(a0.getD (toNat (i64.wrap ((Z210.md a0 a1) - 1))) ah.zero),(⟨((⟨#[]⟩:aE):aE),0,0,[]⟩:ah),(Z209.md a0 ((a0.getD (toNat (i64.wrap ((Z210.md a0 a1) - 1))) ah.zero).bn)).1,(⟨0,[]⟩:aP)⟩:bW),true)) (cond (decide ((Z210.md a0 a1)<(a0.length:Int))) ((⟨(Z210.md a0 a1),(⟨((⟨#[]⟩:aE):aE),0,0,[]⟩:ah),(a0.getD (toNat (Z210.md a0 a1)) ah.zero),(⟨0,[]⟩:aP),(Z209.md a0 ((a0.getD (toNat (Z210.md a0 a1)) ah.zero).bn)).1⟩:bW),true) ((⟨(Z210.md a0 a1),(⟨((⟨#[]⟩:aE):aE),0,0,[]⟩:ah),(⟨((⟨#[]⟩:aE):aE),0,0,[]⟩:ah),(⟨0,[]⟩:aP),(⟨0,[]⟩:aP)⟩:bW),true))))))
def gd (a0:List ah)(a1:aE):Prop:=(bO (2^21) (fun y:ah=>ah.Sm (2^21) y) a0)/\(a1.size<=(2^21))
def R:=RR (p2 gd) (u2 md)
def aq {a0 a1}(h:gd a0 a1):R ((a0.map ah.row),a1)=some ((bW.r (md a0 a1).1),(md a0 a1).2):=aR (a:=(a0,a1)) h
def aW:=CN [pL 61,pS] (.iW [(true,f130),(false,[fB])]) RT.dec R
def bB (a0)(a1)(hg:gd a0 a1):F (a0.map ah.row) a1=ret ((bW.r (md a0 a1).1),(md a0 a1).2):=by
 obtain ⟨H0,H1⟩:=hg
 unfold F md
 try simp only [SS]
 refine ct (Z185.aq H0) ?_
 refine ay (fun b:bW×Bool=>ret (((bW.r b.1),b.2):dV×Bool)) (fun c1=>?_) (fun c1=>?_)
 ·all_goals exact fz
 ·have dc1:=c1
  try simp only [DC] at dc1
  refine ct (Z136.aq (le_trans H1 (by decide))) ?_
  refine ay (fun b:bW×Bool=>ret (((bW.r b.1),b.2):dV×Bool)) (fun c2=>?_) (fun c2=>?_)
  ·all_goals exact fz
  ·have dc2:=c2
   try simp only [DC] at dc2
   refine ct (Z205.aq H0) ?_
   have fv3_:=Z205.fa a0 a1
   refine ay (fun b:bW×Bool=>ret (((bW.r b.1),b.2):dV×Bool)) (fun c3=>?_) (fun c3=>?_)
   ·all_goals exact fz
   ·have dc3:=c3
    try simp only [DC] at dc3
    refine ct (Z210.aq H0) ?_
    have fv4_:=Z210.fa a0 a1
    refine ay (fun b:bW×Bool=>ret (((bW.r b.1),b.2):dV×Bool)) (fun c4=>?_) (fun c4=>?_)
    ·have dc4:=c4
     try simp only [DC] at dc4
     refine ak (have:=(H0).1;dt) ?_
     refine ak (have:=(H0).1;have:=(H0).1;dt) ?_
     refine ct (Z207.aq (bO.getD (z:=ah.zero) H0 (by have:=(H0).1;first | assumption | omega | (simp (disch:=omega) only [wi];omega) | (simp;omega)))) ?_
     try simp only [SS]
     refine ct (Z209.aq H0) ?_
     try simp only [SS]
     refine ay (fun b:bW×Bool=>ret (((bW.r b.1),b.2):dV×Bool)) (fun c5=>?_) (fun c5=>?_)
     ·have dc5:=c5
      try simp only [DC] at dc5
      refine ak (have:=(H0).1;dt) ?_
      refine ak (have:=(H0).1;have:=(H0).1;dt) ?_
      refine ct (Z207.aq (bO.getD (z:=ah.zero) H0 (by have:=(H0).1;first | assumption | omega | (simp (disch:=omega) only [wi];omega) | (simp;omega)))) ?_
      try simp only [SS]
      refine ct (Z209.aq H0) ?_
      try simp only [SS]
      all_goals exact fz
     ·all_goals exact fz
    ·have dc4:=c4
     try simp only [DC] at dc4
     refine ay (fun b:bW×Bool=>ret (((bW.r b.1),b.2):dV×Bool)) (fun c6=>?_) (fun c6=>?_)
     ·have dc6:=c6
      try simp only [DC] at dc6
      refine ak (have:=(H0).1;dt) ?_
      refine ak (have:=(H0).1;have:=(H0).1;dt) ?_
      refine ct (Z207.aq (bO.getD (z:=ah.zero) H0 (by have:=(H0).1;first | assumption | omega | (simp (disch:=omega) only [wi];omega) | (simp;omega)))) ?_
      try simp only [SS]
      refine ct (Z209.aq H0) ?_
      try simp only [SS]
      all_goals exact fz
     ·all_goals exact fz
def af:cG 513 aW:=W2 68 F mix aF bB (.cons Z185.af (.cons Z136.af (.cons Z205.af (.cons Z210.af (.cons Z207.af (.cons Z209.af .nil)))))) Tryz.func513
def fW {a0:List ah}{a1:aE}(hg:gd a0 a1):bW.Sm (2^21) ((md a0 a1).1):=by
 unfold gd at hg;unfold md
 have ez:ah.Sm (2^21) ⟨⟨#[]⟩,0,0,[]⟩:=⟨zero_le _,bO.nil⟩
 have pz:aP.Sm (2^21) ⟨0,[]⟩:=bO.nil
 have he:∀i,ah.Sm (2^21) (a0.getD i ah.zero):=fun i=>bO.wg hg.1 ez
 have hp:∀x,aP.Sm (2^21) (Z209.md a0 x).1:=fun x=>Z209.fW hg.1
 simp only [Bool.cond_eq_ite]
 repeat' split
 all_goals (refine ⟨?_,?_,?_,?_⟩<;>first | exact he _ | exact hp _ | exact ez | exact pz)
def br (a0:List ah)(a1:aE):md a0 a1=Z97.md a0 a1:=by
 unfold md Z97.md
 first
 | (simp only [Z185.br,Z136.br,Z205.br,Z210.br,Z209.br];done)
 | (simp only [Z185.br,Z136.br,Z205.br,Z210.br,Z209.br];rfl)
 | rfl
end Z211
namespace Z212
def F (x0:dS)(x1:aE):aK:=(call (Z198.R x0) fun v1=>(cond (!v1) (ret ((⟨[],false,(⟨(⟨#[]⟩:aE),0,0,[]⟩:bf),(⟨0,[]⟩:bT),(⟨0,(⟨(⟨#[]⟩:aE),0,0,[]⟩:bf),(⟨(⟨#[]⟩:aE),0,0,[]⟩:bf),(⟨0,[]⟩:bT),(⟨0,[]⟩:bT)⟩:dV)⟩:bp):bp)) (call (Z136.R x1) fun v2=>(cond (!v2) (ret ((⟨[],false,(⟨(⟨#[]⟩:aE),0,0,[]⟩:bf),(⟨0,[]⟩:bT),(⟨0,(⟨(⟨#[]⟩:aE),0,0,[]⟩:bf),(⟨(⟨#[]⟩:aE),0,0,[]⟩:bf),(⟨0,[]⟩:bT),(⟨0,[]⟩:bT)⟩:dV)⟩:bp):bp)) (call (Z132.R x0.aU) fun v3=>(call (Z205.R (x0.bP,x1)) fun v4=>(cond (decide (v4>=0)) (m2 v4 (x0.bP.length:Int) (call (Z207.R (bf.at x0.bP (toNat v4))) fun v5=>(call (Z209.R (x0.bP,x1)) fun v6=>ret ((⟨v3,true,v5,v6.1,(⟨0,(⟨(⟨#[]⟩:aE),0,0,[]⟩:bf),(⟨(⟨#[]⟩:aE),0,0,[]⟩:bf),(⟨0,[]⟩:bT),(⟨0,[]⟩:bT)⟩:dV)⟩:bp):bp)))) (call (Z211.R (x0.bP,x1)) fun v7=>ret ((⟨v3,false,(⟨(⟨#[]⟩:aE),0,0,[]⟩:bf),(⟨0,[]⟩:bT),v7.1⟩:bp):bp)))))))))
def md (a0:aN)(a1:aE):az:=(cond (!(Z198.md a0)) (⟨[],false,(⟨((⟨#[]⟩:aE):aE),0,0,[]⟩:ah),(⟨0,[]⟩:aP),(⟨0,(⟨((⟨#[]⟩:aE):aE),0,0,[]⟩:ah),(⟨((⟨#[]⟩:aE):aE),0,0,[]⟩:ah),(⟨0,[]⟩:aP),(⟨0,[]⟩:aP)⟩:bW)⟩:az) (cond (!(Z136.md a1)) (⟨[],false,(⟨((⟨#[]⟩:aE):aE),0,0,[]⟩:ah),(⟨0,[]⟩:aP),(⟨0,(⟨((⟨#[]⟩:aE):aE),0,0,[]⟩:ah),(⟨((⟨#[]⟩:aE):aE),0,0,[]⟩:ah),(⟨0,[]⟩:aP),(⟨0,[]⟩:aP)⟩:bW)⟩:az) (cond (decide ((Z205.md a0.bP a1)>=0)) (⟨a0.aU,true,(a0.bP.getD (toNat (Z205.md a0.bP a1)) ah.zero),(Z209.md a0.bP a1).1,(⟨0,(⟨((⟨#[]⟩:aE):aE),0,0,[]⟩:ah),(⟨((⟨#[]⟩:aE):aE),0,0,[]⟩:ah),(⟨0,[]⟩:aP),(⟨0,[]⟩:aP)⟩:bW)⟩:az) (⟨a0.aU,false,(⟨((⟨#[]⟩:aE):aE),0,0,[]⟩:ah),(⟨0,[]⟩:aP),(Z211.md a0.bP a1).1⟩:az))))
def gd (a0:aN)(a1:aE):Prop:=(aN.Sm (2^21) a0)/\(a1.size<=(2^21))
def R:=RR (p2 gd) (u2 md)
def aq {a0 a1}(h:gd a0 a1):R ((aN.r a0),a1)=some (az.r (md a0 a1)):=aR (a:=(a0,a1)) h
def aW:=CN [.agg tA,pS] (.agg f132) RT.dec R
def bB (a0)(a1)(hg:gd a0 a1):F (aN.r a0) a1=ret (az.r (md a0 a1)):=by
 obtain ⟨H0,H1⟩:=hg
 unfold F md
 try simp only [SS]
 refine ct (Z198.aq H0) ?_
 refine ay (fun b:az=>ret ((az.r b):bp)) (fun c1=>?_) (fun c1=>?_)
 ·all_goals exact fz
 ·have dc1:=c1
  try simp only [DC] at dc1
  try have tc1:=Z198.tr (by simpa using c1)
  refine ct (Z136.aq (le_trans H1 (by decide))) ?_
  refine ay (fun b:az=>ret ((az.r b):bp)) (fun c2=>?_) (fun c2=>?_)
  ·all_goals exact fz
  ·have dc2:=c2
   try simp only [DC] at dc2
   refine ct (Z132.aq H0.1) ?_
   try simp only [SS]
   refine ct (Z205.aq H0.2) ?_
   have fv4_:=Z205.fa a0.bP a1
   refine ay (fun b:az=>ret ((az.r b):bp)) (fun c3=>?_) (fun c3=>?_)
   ·have dc3:=c3
    try simp only [DC] at dc3
    refine ak dt ?_
    refine ak (have:=(H0.2).1;dt) ?_
    refine ct (Z207.aq (bO.getD (z:=ah.zero) H0.2 (by first | assumption | omega | (simp (disch:=omega) only [wi];omega) | (simp;omega)))) ?_
    try simp only [SS]
    refine ct (Z209.aq H0.2) ?_
    try simp only [SS]
    all_goals exact fz
   ·refine ct (Z211.aq ⟨H0.2,H1⟩) ?_
    try simp only [SS]
    all_goals exact fz
def af:cG 437 aW:=W2 51 F mix aF bB (.cons Z198.af (.cons Z136.af (.cons Z132.af (.cons Z205.af (.cons Z207.af (.cons Z209.af (.cons Z211.af .nil))))))) Tryz.func437
def fW {a0:aN}{a1:aE}(hg:gd a0 a1):az.Sm (2^21) (md a0 a1):=by
 unfold gd at hg;unfold md
 obtain ⟨⟨hc,hl⟩,_⟩:=hg
 have ez:ah.Sm (2^21) ⟨⟨#[]⟩,0,0,[]⟩:=⟨zero_le _,bO.nil⟩
 have pz:aP.Sm (2^21) ⟨0,[]⟩:=bO.nil
 have gz:bW.Sm (2^21) ⟨0,⟨⟨#[]⟩,0,0,[]⟩,⟨⟨#[]⟩,0,0,[]⟩,⟨0,[]⟩,⟨0,[]⟩⟩:=⟨ez,ez,pz,pz⟩
 have he:∀i,ah.Sm (2^21) (a0.bP.getD i ah.zero):=fun i=>bO.wg hl ez
 have hp:∀x,aP.Sm (2^21) (Z209.md a0.bP x).1:=fun x=>Z209.fW hl
 have hga:bW.Sm (2^21) (Z211.md a0.bP a1).1:=Z211.fW ⟨hl,by assumption⟩
 simp only [Bool.cond_eq_ite]
 repeat' split
 all_goals (refine ⟨?_,?_,?_,?_⟩<;>first | exact hc | exact bO.nil | exact he _ | exact hp _ | exact hga | exact ez | exact pz | exact gz)
def br (a0:aN)(a1:aE):md a0 a1=Z98.md a0 a1:=by
 unfold md Z98.md
 first
 | (simp only [Z198.br,Z136.br,Z205.br,Z209.br,Z211.br];done)
 | (simp only [Z198.br,Z136.br,Z205.br,Z209.br,Z211.br];rfl)
 | rfl
end Z212
namespace Z213
def F (x0:cR)(x1:Int)(x2:aE):aK:=(call (Z202.R (x0,x1)) fun v1=>(cond (decide (v1<0)) (ret ((⟨[],false,(⟨(⟨#[]⟩:aE),0,0,[]⟩:bf),(⟨0,[]⟩:bT),(⟨0,(⟨(⟨#[]⟩:aE),0,0,[]⟩:bf),(⟨(⟨#[]⟩:aE),0,0,[]⟩:bf),(⟨0,[]⟩:bT),(⟨0,[]⟩:bT)⟩:dV)⟩:bp):bp)) (cond (x0.gS==4) (ret ((⟨[],false,(⟨(⟨#[]⟩:aE),0,0,[]⟩:bf),(⟨0,[]⟩:bT),(⟨0,(⟨(⟨#[]⟩:aE),0,0,[]⟩:bf),(⟨(⟨#[]⟩:aE),0,0,[]⟩:bf),(⟨0,[]⟩:bT),(⟨0,[]⟩:bT)⟩:dV)⟩:bp):bp)) (m2 v1 (x0.bK.length:Int) (call (Z212.R ((dS.at x0.bK (toNat v1)),x2)) fun v2=>(cond (x0.gS==1) (ret ((⟨v2.aU,v2.cA,(⟨v2.aV.bn,v2.aV.bM,(i64.wrap (v2.aV.cq+1)),v2.aV.bH⟩:bf),v2.eE,v2.fc⟩:bp):bp)) (cond (x0.gS==2) (cm (decide ((0:Int)<=(cond (decide ((0:Int)<(i64.wrap ((v2.aU.length:Int) - 1)))) (i64.wrap ((v2.aU.length:Int) - 1)) 0))) (cm (decide ((cond (decide ((0:Int)<(i64.wrap ((v2.aU.length:Int) - 1)))) (i64.wrap ((v2.aU.length:Int) - 1)) 0)<=(v2.aU.length:Int))) (ret ((⟨(List.take (toNat (cond (decide ((0:Int)<(i64.wrap ((v2.aU.length:Int) - 1)))) (i64.wrap ((v2.aU.length:Int) - 1)) 0)) v2.aU),v2.cA,v2.aV,v2.eE,v2.fc⟩:bp):bp)))) (cond (x0.gS==3) (ret ((⟨v2.aU,false,(⟨(⟨#[]⟩:aE),0,0,[]⟩:bf),(⟨0,[]⟩:bT),(⟨0,(⟨(⟨#[]⟩:aE),0,0,[]⟩:bf),(⟨(⟨#[]⟩:aE),0,0,[]⟩:bf),(⟨0,[]⟩:bT),(⟨0,[]⟩:bT)⟩:dV)⟩:bp):bp)) (ret (v2:bp))))))))))
def pats:List gk:=[.agg [.sl 293,aC],.rd (.int .i64),.rd (.str)]
def res:RP:=.agg [.fr 123,.rd (.bool),.rd (.str),.rd (.int .i64),.rd (.int .i64),.fr 9,.rd (.int .i64),.fr 3,.rd (.int .i64),.rd (.str),.rd (.int .i64),.rd (.int .i64),.fr 9,.rd (.str),.rd (.int .i64),.rd (.int .i64),.fr 9,.rd (.int .i64),.fr 3,.rd (.int .i64),.fr 3]
def md (a0:av)(a1:Int)(a2:aE):az:=(cond (decide ((Z202.md a0 a1)<0)) (⟨[],false,(⟨((⟨#[]⟩:aE):aE),0,0,[]⟩:ah),(⟨0,[]⟩:aP),(⟨0,(⟨((⟨#[]⟩:aE):aE),0,0,[]⟩:ah),(⟨((⟨#[]⟩:aE):aE),0,0,[]⟩:ah),(⟨0,[]⟩:aP),(⟨0,[]⟩:aP)⟩:bW)⟩:az) (cond (a0.gS==4) (⟨[],false,(⟨((⟨#[]⟩:aE):aE),0,0,[]⟩:ah),(⟨0,[]⟩:aP),(⟨0,(⟨((⟨#[]⟩:aE):aE),0,0,[]⟩:ah),(⟨((⟨#[]⟩:aE):aE),0,0,[]⟩:ah),(⟨0,[]⟩:aP),(⟨0,[]⟩:aP)⟩:bW)⟩:az) (cond (a0.gS==1) (⟨(Z212.md (a0.bK.getD (toNat (Z202.md a0 a1)) aN.zero) a2).aU,(Z212.md (a0.bK.getD (toNat (Z202.md a0 a1)) aN.zero) a2).cA,(⟨(Z212.md (a0.bK.getD (toNat (Z202.md a0 a1)) aN.zero) a2).aV.bn,(Z212.md (a0.bK.getD (toNat (Z202.md a0 a1)) aN.zero) a2).aV.bM,(i64.wrap ((Z212.md (a0.bK.getD (toNat (Z202.md a0 a1)) aN.zero) a2).aV.cq+1)),(Z212.md (a0.bK.getD (toNat (Z202.md a0 a1)) aN.zero) a2).aV.bH⟩:ah),(Z212.md (a0.bK.getD (toNat (Z202.md a0 a1)) aN.zero) a2).eE,(Z212.md (a0.bK.getD (toNat (Z202.md a0 a1)) aN.zero) a2).fc⟩:az) (cond (a0.gS==2) (⟨(List.take (toNat (cond (decide ((0:Int)<(i64.wrap (((Z212.md (a0.bK.getD (toNat (Z202.md a0 a1)) aN.zero) a2).aU.length:Int) - 1)))) (i64.wrap (((Z212.md (a0.bK.getD (toNat (Z202.md a0 a1)) aN.zero) a2).aU.length:Int) - 1)) 0)) (Z212.md (a0.bK.getD (toNat (Z202.md a0 a1)) aN.zero) a2).aU),(Z212.md (a0.bK.getD (toNat (Z202.md a0 a1)) aN.zero) a2).cA,(Z212.md (a0.bK.getD (toNat (Z202.md a0 a1)) aN.zero) a2).aV,(Z212.md (a0.bK.getD (toNat (Z202.md a0 a1)) aN.zero) a2).eE,(Z212.md (a0.bK.getD (toNat (Z202.md a0 a1)) aN.zero) a2).fc⟩:az) (cond (a0.gS==3) (⟨(Z212.md (a0.bK.getD (toNat (Z202.md a0 a1)) aN.zero) a2).aU,false,(⟨((⟨#[]⟩:aE):aE),0,0,[]⟩:ah),(⟨0,[]⟩:aP),(⟨0,(⟨((⟨#[]⟩:aE):aE),0,0,[]⟩:ah),(⟨((⟨#[]⟩:aE):aE),0,0,[]⟩:ah),(⟨0,[]⟩:aP),(⟨0,[]⟩:aP)⟩:bW)⟩:az) (Z212.md (a0.bK.getD (toNat (Z202.md a0 a1)) aN.zero) a2))))))
def gd (a0:av)(a1:Int)(a2:aE):Prop:=(av.Sm (2^21) a0)/\(a2.size<=(2^21))
def acc (ls:List L):cR×Int×aE:=((cR.dec ls),((aA 2 ls).headD .hole).toInt,((aA 3 ls).headD .hole).toStr)
def R:(cR×Int×aE)->Option bp:=RR (p3 gd) (u3 md)
def aq {a0 a1 a2}(h:gd a0 a1 a2):R ((av.r a0),a1,a2)=some (az.r (md a0 a1 a2)):=aR (a:=(a0,a1,a2)) h
def aW:ga:=CN pats res acc R
def bB (a0:av)(a1:Int)(a2:aE)(hg:gd a0 a1 a2):F (av.r a0) a1 a2=ret ((az.r (md a0 a1 a2)):bp):=by
 obtain ⟨H0,H2⟩:=hg
 unfold F md
 try simp only [SS]
 refine ct (Z202.aq H0) ?_
 have fv1_:=Z202.fa a0 a1
 refine ay (fun b:az=>ret ((az.r b):bp)) (fun c1=>?_) (fun c1=>?_)
 ·all_goals exact fz
 ·have dc1:=c1
  try simp only [DC] at dc1
  refine ay (fun b:az=>ret ((az.r b):bp)) (fun c2=>?_) (fun c2=>?_)
  ·all_goals exact fz
  ·have dc2:=c2
   try simp only [DC] at dc2
   refine ak (have:=(H0).1;dt) ?_
   refine ak (have:=(H0).1;have:=(H0).1;dt) ?_
   refine ct (Z212.aq ⟨(bO.getD (z:=aN.zero) H0 (by have:=(H0).1;first | assumption | omega | (simp (disch:=omega) only [wi];omega) | (simp;omega))),H2⟩) ?_
   try simp only [SS]
   refine ay (fun b:az=>ret ((az.r b):bp)) (fun c3=>?_) (fun c3=>?_)
   ·all_goals exact fz
   ·have dc3:=c3
    try simp only [DC] at dc3
    refine ay (fun b:az=>ret ((az.r b):bp)) (fun c4=>?_) (fun c4=>?_)
    ·have dc4:=c4
     try simp only [DC] at dc4
     refine ak (have:=((Z212.fW (a0:=a0.bK.getD (toNat (Z202.md a0 a1)) aN.zero) (a1:=a2) ⟨(bO.getD (z:=aN.zero) H0 (by have:=(H0).1;first | assumption | omega | (simp (disch:=omega) only [wi];omega) | (simp;omega))),H2⟩).1).1;have:=(H0).1;dt) ?_
     refine ak (have:=((Z212.fW (a0:=a0.bK.getD (toNat (Z202.md a0 a1)) aN.zero) (a1:=a2) ⟨(bO.getD (z:=aN.zero) H0 (by have:=(H0).1;first | assumption | omega | (simp (disch:=omega) only [wi];omega) | (simp;omega))),H2⟩).1).1;have:=(H0).1;dt) ?_
     all_goals exact fz
    ·refine ay (fun b:az=>ret ((az.r b):bp)) (fun c5=>?_) (fun c5=>?_)
     ·all_goals exact fz
     ·all_goals exact fz
def af:cG 346 aW:=VT (live:=fun _=>[]) (nt:=54) (run:=fun _ x=>F x.1 x.2.1 x.2.2) mix aF (.cons Z202.af (.cons Z212.af .nil)) .nil Tryz.func346 (by kernel_rfl) (fun _ _=>by kernel_rfl) (fun _ a _ _ hg=>⟨0,bB a.1 a.2.1 a.2.2 hg⟩)
def br (a0:av)(a1:Int)(a2:aE):md a0 a1 a2=Z99.md a0 a1 a2:=by
 unfold md Z99.md
 simp only [Z202.br,Z212.br]
 generalize Z98.md (a0.bK.getD (toNat (Z91.md a0 a1)) aN.zero) a2=A
 have mx:∀n:Int,toNat (cond (decide ((0:Int)<n)) n 0)=toNat n:=by
  intro n
  by_cases h:(0:Int)<n
  ·rw [decide_eq_true h];rfl
  ·rw [decide_eq_false h];simp only [bA];omega
 have e:∀k:Nat,(⟨List.take k A.aU,A.cA,A.aV,A.eE,A.fc⟩:az)=bif decide ((A.aU.length:Int)>0) then (⟨List.take k A.aU,A.cA,A.aV,A.eE,A.fc⟩:az) else A:=by
  intro k
  obtain ⟨ch,f,e,p,g⟩:=A
  cases ch with
  | nil=>simp
  | cons x xs=>simp only [List.length_cons];rw [decide_eq_true (by omega)];rfl
 simp only [mx,<-e]
end Z213
namespace Z214
inductive Pt where
 | p0 (a:Int) (b:aE) (c:aD) (d e:Int) (f:aD)
def pid:Pt->Nat
 | .p0 ..=>3
def cg:Pt->List V
 | .p0 a b c d e f=>[.int .i64 a,.str b,.own 0,.sl none 227 c,.int .i64 d,.int .i64 e]
def bZ:Pt->List aZ
 | .p0 a b c d e f=>[.row 132 f]
def step (J:Pt->aK):Pt->aK
 | .p0 a b c d e f=>(cond (decide (e<d)) (m2 e (c.length:Int) (call (Z213.R ((cR.at c (toNat e)),a,b)) fun v1=>(cm (ff (((f.length:Int)+1)*304)) (J (.p0 a b c d (i64.wrap (e+1)) (f++[(bp.enc v1)])))))) (ret (f:aD)))
def start (J:Pt->aK)(x0:aD)(x1:Int)(x2:aE):aK:=(cm (decide ((0:Int)<=(cond (decide ((x0.length:Int)<4)) (x0.length:Int) 4))) (cm (decide ((cond (decide ((x0.length:Int)<4)) (x0.length:Int) 4)<=(x0.length:Int))) (J (.p0 x1 x2 (List.take (toNat ((cond (decide ((x0.length:Int)<4)) (x0.length:Int) 4) - 0)) (List.drop 0 x0)) ((List.take (toNat ((cond (decide ((x0.length:Int)<4)) (x0.length:Int) 4) - 0)) (List.drop 0 x0)).length:Int) 0 []))))
def live:Nat->Live:=fun i=>match i with | 3=>[(1,none),(2,none),(7,some 132),(15,none),(16,none),(17,none)] | _=>[]
def md (a0:List av)(a1:Int)(a2:aE):List az:=((List.take (toNat ((cond (decide ((a0.length:Int)<4)) (a0.length:Int) 4) - 0)) (List.drop 0 a0)).map (fun (y1:av)=>(Z213.md y1 a1 a2)))
def gd (a0:List av)(a1:Int)(a2:aE):Prop:=(bO (2^21) (fun y:av=>av.Sm (2^21) y) a0)/\(a2.size<=(2^21))
def R:=RR (p3 gd) (u3 md)
def aq {a0 a1 a2}(h:gd a0 a1 a2):R ((a0.map av.row),a1,a2)=some ((md a0 a1 a2).map az.row):=aR (a:=(a0,a1,a2)) h
def aW:=CN [pL 227,pI,pS] (oL 132) RT.dec R
def bB (a0)(a1)(a2)(hg:gd a0 a1 a2):∃n,start (iter step n) (a0.map av.row) a1 a2=ret ((md a0 a1 a2).map az.row):=by
 obtain ⟨H0,H2⟩:=hg
 unfold start md
 try simp only [SS]
 refine dK (have:=(H0).1;dt) ?_
 refine dK (have:=(H0).1;dt) ?_
 have Bh2:(List.take (toNat ((cond (decide ((a0.length:Int)<4)) (a0.length:Int) 4) - 0)) (List.drop 0 a0)).length<=maxLen:=(by
   have:=(H0).1
   have:=((bO.take (k:=(toNat ((cond (decide ((a0.length:Int)<4)) (a0.length:Int) 4) - 0))) (bO.drop (k:=0) H0))).1
   try simp only [maxLen] at *
   omega)
 refine ex_eq (out:=(fun b:List az=>ret ((b.map az.row):aD))) (ng (g:=fun (y1:av)=>(Z213.md y1 a1 a2)) (z:=av.zero) (t:=fun (s3:List az)=>s3)) ?_
 refine dR (p:=Pt.p0 a1 a2 ((List.take (toNat ((cond (decide ((a0.length:Int)<4)) (a0.length:Int) 4) - 0)) (List.drop 0 a0)).map av.row) ((List.take (toNat ((cond (decide ((a0.length:Int)<4)) (a0.length:Int) 4) - 0)) (List.drop 0 a0)).length:Int) 0 ([].map az.row)) fz ?_
 refine cu (pt:=fun (i1:Nat) (s3:List az)=>Pt.p0 a1 a2 ((List.take (toNat ((cond (decide ((a0.length:Int)<4)) (a0.length:Int) 4) - 0)) (List.drop 0 a0)).map av.row) ((List.take (toNat ((cond (decide ((a0.length:Int)<4)) (a0.length:Int) 4) - 0)) (List.drop 0 a0)).length:Int) (i1:Int) (s3.map az.row)) (s:=([]:List az)) (out:=(fun b:List az=>ret ((b.map az.row):aD))) (fun (i1:Nat) (s3:List az)=>s3.length<=([]:List Int).length+1*i1) (fun J i1 s3 h2 hih2=>?_) (fun s3 hih2=>?_) (by simp)
 ·simp only [step,SS]
  have gr_:=hih2
  try simp only [LN] at gr_
  have bb_:=Bh2
  simp only [maxLen] at bb_
  have:=(H0).1
  have:=((bO.take (k:=(toNat ((cond (decide ((a0.length:Int)<4)) (a0.length:Int) 4) - 0))) (bO.drop (k:=0) H0))).1
  refine bD.yes (by apply decide_eq_true;omega) ?_
  refine bD.yes aJ ?_
  refine bD.yes (aL h2) ?_
  refine cr (Z213.aq ⟨(bO.getD (z:=av.zero) (bO.take (k:=(toNat ((cond (decide ((a0.length:Int)<4)) (a0.length:Int) 4) - 0))) (bO.drop (k:=0) H0)) h2),H2⟩) ?_
  try simp only [SS]
  refine bD.yes lm ?_
  refine bD.inl (by
    have g_:=hih2
    try simp only [LN] at g_ ⊢
    first | omega | (simp;done) | (simp;omega)) ?_
  rw [aI h2 Bh2]
  all_goals exact fz
 ·simp only [step,SS]
  have gr_:=hih2
  try simp only [LN] at gr_
  have:=(H0).1
  have:=((bO.take (k:=(toNat ((cond (decide ((a0.length:Int)<4)) (a0.length:Int) 4) - 0))) (bO.drop (k:=0) H0))).1
  refine dF (by apply decide_eq_false;omega) ?_
  refine ⟨0,?_⟩
  all_goals exact fz
def af:cG 216 aW:=L3 30 pid cg bZ live step start mix aF bB (.cons Z213.af .nil) Tryz.func216
def br (a0:List av)(a1:Int)(a2:aE):md a0 a1 a2=Z100.md a0 a1 a2:=by
 rw [Z100.qc]
 unfold md
 simp only [Z213.br,Int.sub_zero,List.drop_zero]
 congr 1
 by_cases h:(a0.length:Int)<4
 ·rw [decide_eq_true h,bq,List.take_of_length_le (by omega),List.take_of_length_le (by omega)]
 ·rw [decide_eq_false h];rfl
def fW {a0:List av}{a1:Int}{a2:aE}(hg:gd a0 a1 a2):bO (2^21) (fun y:az=>az.Sm (2^21) y) (md a0 a1 a2):=by
 rw [br]
 exact Z100.fW hg
end Z214
namespace Z215
def F (x0:aD):aK:=(call (Z179.R x0) fun v1=>(cond (!v1) (ret (((⟨0,0,0,0,0,0,0,0,(⟨[],0⟩:bF),(⟨[],0⟩:bF),0,(⟨[],0⟩:bF),false⟩:ck),false):ck×Bool)) (call (Z180.R x0) fun v2=>(call (Z129.R v2) fun v3=>ret ((v3,true):ck×Bool)))))
def md (a0:List aa):aG×Bool:=(cond (!(Z179.md a0)) ((⟨0,0,0,0,0,0,0,0,(⟨[],0⟩:aO),(⟨[],0⟩:aO),0,(⟨[],0⟩:aO),false⟩:aG),false) ((Z180.md a0),true))
def gd (a0:List aa):Prop:=(bO (2^21) (fun y:aa=>aa.Sm (2^21) y) a0)
def R:=RR gd md
def aq {a0}(h:gd a0):R (a0.map aa.row)=some ((aG.r (md a0).1),(md a0).2):=aR (a:=a0) h
def aW:=CN [pL 123] (.iW [(true,f102),(false,[fB])]) RT.dec R
def bB (a0)(hg:gd a0):F (a0.map aa.row)=ret ((aG.r (md a0).1),(md a0).2):=by
 unfold gd at hg
 have H0:=hg
 unfold F md
 try simp only [SS]
 refine ct (Z179.aq H0) ?_
 refine ay (fun b:aG×Bool=>ret (((aG.r b.1),b.2):ck×Bool)) (fun c1=>?_) (fun c1=>?_)
 ·all_goals exact fz
 ·have dc1:=c1
  try simp only [DC] at dc1
  try have tc1:=Z179.tr (by simpa using c1)
  refine ct (Z180.aq ⟨H0,(by
    have:=(H0).1
    first | assumption | exact om)⟩) ?_
  try simp only [SS]
  refine ct (Z129.aq (Z180.fW (a0:=a0) ⟨H0,(by
    have:=(H0).1
    first | assumption | exact om)⟩)) ?_
  try simp only [SS]
  all_goals exact fz
def af:cG 226 aW:=W1 11 F mix aF bB (.cons Z179.af (.cons Z180.af (.cons Z129.af .nil))) Tryz.func226
def br (a0:List aa):md a0=Z74.md a0:=by
 unfold md Z74.md
 first
 | (simp only [Z179.br];done)
 | (simp only [Z179.br];rfl)
 | rfl
end Z215
namespace Z216
def F (x0:ck)(x1:Int):aK:=(call (Z135.R (x1,x0.cK,x0.cF)) fun v1=>ret (v1:Bool))
def md (a0:aG)(a1:Int):Bool:=((Z135.md a1 a0.cK a0.cF):Bool)
def gd (a0:aG)(a1:Int):Prop:=True
def R:=RR (p2 gd) (u2 md)
def aq {a0 a1}(h:gd a0 a1):R ((aG.r a0),a1)=some (md a0 a1):=aR (a:=(a0,a1)) h
def aW:=CN [.agg gi,pI] oB RT.dec R
def bB (a0)(a1)(hg:gd a0 a1):F (aG.r a0) a1=ret (md a0 a1):=by
 unfold F md
 try simp only [SS]
 refine ct (Z135.aq trivial) ?_
 all_goals exact fz
def af:cG 383 aW:=W2 11 F mix aF bB (.cons Z135.af .nil) Tryz.func383
def br (a0:aG)(a1:Int):md a0 a1=Z107.md a0 a1:=by
 unfold md Z107.md
 first
 | (simp only [Z135.br];done)
 | (simp only [Z135.br];rfl)
 | rfl
end Z216
namespace Z217
inductive Pt where
 | p0 (a b c:Int) (d:aD)
def pid:Pt->Nat
 | .p0 ..=>3
def cg:Pt->List V
 | .p0 a b c d=>[.int .i64 a,.int .i64 b,.int .i64 c,.sl none 3 d]
def bZ:Pt->List aZ
 | .p0 a b c d=>[]
def step (J:Pt->aK):Pt->aK
 | .p0 a b c d=>(cond (decide (c>1)) (cond (decide ((mQ .i64 b 1)>=c)) (J (.p0 a (i64.wrap (Int.tdiv b 2)) (i64.wrap (Int.tdiv (i64.wrap (c+1)) 2)) d)) (cond ((d.length:Int)==0) (ret ((0,false):Int×Bool)) (cond ((Int.tmod b 2)==0) (cm (decide ((0:Int)<(d.length:Int))) (call (Z192.R (a,(jG d 0))) fun v1=>(cm (decide ((1:Int)<=(d.length:Int))) (cm (decide ((d.length:Int)<=(d.length:Int))) (J (.p0 v1 (i64.wrap (Int.tdiv b 2)) (i64.wrap (Int.tdiv (i64.wrap (c+1)) 2)) (List.take (toNat ((d.length:Int) - 1)) (List.drop 1 d)))))))) (cm (decide ((0:Int)<(d.length:Int))) (call (Z192.R ((jG d 0),a)) fun v2=>(cm (decide ((1:Int)<=(d.length:Int))) (cm (decide ((d.length:Int)<=(d.length:Int))) (J (.p0 v2 (i64.wrap (Int.tdiv b 2)) (i64.wrap (Int.tdiv (i64.wrap (c+1)) 2)) (List.take (toNat ((d.length:Int) - 1)) (List.drop 1 d))))))))))) (cond (decide ((d.length:Int)>0)) (ret ((0,false):Int×Bool)) (ret ((a,true):Int×Bool))))
def start (J:Pt->aK)(x0 x1 x2:Int)(x3:aD):aK:=(cond (decide (x2<1)) (ret ((0,false):Int×Bool)) (cond (decide (x2>12)) (ret ((0,false):Int×Bool)) (call (Z135.R (x1,0,(i64.wrap (x2 - 1)))) fun v1=>(cond (!v1) (ret ((0,false):Int×Bool)) (J (.p0 x0 x1 x2 x3))))))
def live:Nat->Live:=fun i=>match i with | 3=>[(0,none),(1,none),(2,none),(3,none)] | _=>[]
def md (a0 a1 a2:Int)(a3:List Int):Int×Bool:=Z108.md a0 a1 a2 a3
def gd (a0 a1 a2:Int)(a3:List Int):Prop:=bO (2^38) (fun y:Int=>True) a3
def R:=RR (p4 gd) (u4 md)
def aq {a0 a1 a2 a3}(h:gd a0 a1 a2 a3):R (a0,a1,a2,(a3.map bu))=some ((md a0 a1 a2 a3).1,(md a0 a1 a2 a3).2):=aR (a:=(a0,a1,a2,a3)) h
def aW:=CN [pI,pI,pI,pL 3] (.iW [(false,[fI]),(false,[fB])]) RT.dec R
def bB (a0)(a1)(a2)(a3)(hg:gd a0 a1 a2 a3):∃n,start (iter step n) a0 a1 a2 (a3.map bu)=ret ((md a0 a1 a2 a3).1,(md a0 a1 a2 a3).2):=by
 have tm:∀b:Int,0<=b->b<=11->Int.tmod b 2=b % 2:=fun b h1 h2=>Int.tmod_eq_emod_of_nonneg h1
 have td:∀b:Int,0<=b->b<=13->i64.wrap (Int.tdiv b 2)=b / 2:=fun b h1 h2=>by
  rw [Int.tdiv_eq_ediv_of_nonneg h1,Go.IntWalk.i64_in _ (by omega)]
 have t1:∀b:Int,0<=b->b<=13->i64.wrap (b+1)=b+1:=fun b h1 h2=>Go.IntWalk.i64_in _ (by omega)
 have xr:∀b:Int,0<=b->b<=11->mQ .i64 b 1=if b % 2=0 then b+1 else b - 1:=by
  intro b h1 h2
  have :b=0∨b=1∨b=2∨b=3∨b=4∨b=5∨b=6∨b=7∨b=8∨b=9∨b=10∨b=11:=by omega
  rcases this with h | h | h | h | h | h | h | h | h | h | h | h<;>subst h<;>decide
 have key:∀(k:Nat) (leaf i n:Int) (p:List Int),p.length<=2^38->0<=i->i<n->n<=12->n<=2^k->∃m,iter step m (Pt.p0 leaf i n (p.map bu))=ret ((Z108.tf (k+1) leaf i n p).1,(Z108.tf (k+1) leaf i n p).2):=by
  have fin:∀(leaf:Int) (p:List Int) (J:Pt->aK),step J (Pt.p0 leaf 0 1 (p.map bu))=ret ((if p.isEmpty then (leaf,true) else (0,false)).1,(if p.isEmpty then (leaf,true) else (0,false)).2):=by
   intro leaf p J
   simp only [step,List.length_map]
   refine cM (by decide) ?_
   cases p with
   | nil=>rfl
   | cons x xs=>exact ak (decide_eq_true (by simp only [List.length_cons];omega)) rfl
  intro k
  induction k with
  | zero=>
   intro leaf i n p hp h1 h2 h3 h4
   have hn:n=1:=by omega
   subst hn
   have hi:i=0:=by omega
   subst hi
   exact ⟨1,(fin leaf p _).trans rfl⟩
  | succ k ih=>
   intro leaf i n p hp h1 h2 h3 h4
   have hk:n<=2*2^k:=by rw [Int.pow_succ] at h4;omega
   unfold Z108.tf
   by_cases hn:n>1
   ·have e1:=tm i h1 (by omega)
    have e2:=td i h1 (by omega)
    have e3:=t1 n (by omega) (by omega)
    have e4:=td (n+1) (by omega) (by omega)
    have e6:=xr i h1 (by omega)
    rw [if_pos hn]
    by_cases hc:i % 2=1∨i+1<n
    ·have hx:decide (mQ .i64 i 1>=n)=false:=by
      rw [e6]
      split
      ·exact decide_eq_false (by omega)
      ·exact decide_eq_false (by omega)
     rw [if_pos hc]
     cases p with
     | nil=>
      refine ⟨1,?_⟩
      show step (iter step 0) (Pt.p0 _ _ _ _)=_
      simp only [step,hx]
      exact ak (decide_eq_true (by omega)) (cM rfl (ak rfl rfl))
     | cons x xs=>
      simp only [List.length_cons] at hp
      obtain ⟨m,hm⟩:=ih (if i % 2=1 then Z83.md x leaf else Z83.md leaf x) (i / 2) ((n+1) / 2) xs (by omega) (by omega) (by omega) (by omega) (by omega)
      refine ⟨m+1,?_⟩
      show step (iter step m) (Pt.p0 _ _ _ _)=_
      have ht:List.take (toNat ((xs.length:Int)+1 - 1)) (List.drop 1 ((x::xs).map bu))=xs.map bu:=by
       simp only [List.map_cons,List.drop_succ_cons,List.drop_zero]
       exact List.take_of_length_le (by simp)
      have hl:(((x::xs).map bu).length:Int)=(xs.length:Int)+1:=by simp
      simp only [step,hx,e1,e2,e3,e4,ht,hl]
      refine ak (decide_eq_true (by omega)) (cM rfl (cM (beq_eq_false_iff_ne.2 (by omega)) ?_))
      have hat:jG ((x::xs).map bu) 0=x:=rfl
      rw [hat]
      by_cases hp:i % 2=1
      ·rw [if_pos hp] at hm
       rw [hp]
       refine cM rfl (ak (decide_eq_true (by omega)) (bg (Z83.md x leaf) (by have:=Z192.aq (a0:=x) (a1:=leaf) trivial;rw [Z192.br] at this;exact this) (ak (decide_eq_true (by omega)) (ak (decide_eq_true (by omega)) ?_))))
       rw [if_pos rfl]
       exact hm
      ·rw [if_neg hp] at hm
       have h0:i % 2=0:=by omega
       rw [h0]
       refine ak rfl (ak (decide_eq_true (by omega)) (bg (Z83.md leaf x) (by have:=Z192.aq (a0:=leaf) (a1:=x) trivial;rw [Z192.br] at this;exact this) (ak (decide_eq_true (by omega)) (ak (decide_eq_true (by omega)) ?_))))
       rw [if_neg (by omega)]
       exact hm
    ·have hx:decide (mQ .i64 i 1>=n)=true:=by
      rw [e6,if_pos (by omega)]
      exact decide_eq_true (by omega)
     rw [if_neg hc]
     obtain ⟨m,hm⟩:=ih leaf (i / 2) ((n+1) / 2) p hp (by omega) (by omega) (by omega) (by omega)
     refine ⟨m+1,?_⟩
     show step (iter step m) (Pt.p0 _ _ _ _)=_
     simp only [step,hx,e2,e3,e4]
     exact ak (decide_eq_true (by omega)) (ak rfl hm)
   ·have hn1:n=1:=by omega
    subst hn1
    have hi:i=0:=by omega
    subst hi
    refine ⟨1,(fin leaf p _).trans ?_⟩
    rw [if_neg (show ¬(1:Int)>1 by omega)]
 unfold start md Z108.md
 obtain ⟨H3,_⟩:=hg
 by_cases c1:a2<1
 ·refine ⟨0,ak (decide_eq_true c1) ?_⟩
  rw [show Z45.md a2 1 12=false from by simp [Z45.md];omega];rfl
 refine dF (decide_eq_false c1) ?_
 by_cases c2:a2>12
 ·refine ⟨0,ak (decide_eq_true c2) ?_⟩
  rw [show Z45.md a2 1 12=false from by simp [Z45.md];omega];rfl
 refine dF (decide_eq_false c2) ?_
 rw [show Z45.md a2 1 12=true from by simp [Z45.md];omega]
 simp only [Bool.not_true,bA]
 refine fo (Z45.md a1 0 (i64.wrap (a2 - 1))) (by have:=Z135.aq (a0:=a1) (a1:=0) (a2:=i64.wrap (a2 - 1)) trivial;rw [Z135.br] at this;exact this) ?_
 cases hd:Z45.md a1 0 (i64.wrap (a2 - 1))
 ·exact ⟨0,rfl⟩
 rw [Go.IntWalk.i64_in _ (by omega)] at hd
 have i2:0<=a1/\a1<=a2 - 1:=by simpa [Z45.md] using hd
 exact key 4 a0 a1 a2 a3 H3 (by omega) (by omega) (by omega) (by omega)
def af:cG 540 aW:=L4 56 pid cg bZ live step start mix aF bB (.cons Z135.af (.cons Z192.af .nil)) Tryz.func540
def br (a0 a1 a2:Int)(a3:List Int):md a0 a1 a2 a3=Z108.md a0 a1 a2 a3:=by
 unfold md Z108.md
 first
 | (simp only [Z135.br,Z192.br];done)
 | (simp only [Z135.br,Z192.br];rfl)
 | rfl
end Z217
namespace Z218
def F (x0 x1:Int)(x2:bf)(x3:bT):aK:=(call (Z189.R x2) fun v1=>(call (Z217.R (v1,x3.eG,x1,x3.bH)) fun v2=>(cond v2.2 (call (Z181.R x2) fun v3=>(cond v3 (call (Z195.R (x1,v2.1)) fun v4=>ret ((v4==x0):Bool)) bh)) bh)))
def md (a0 a1:Int)(a2:ah)(a3:aP):Bool:=(cond ((Z217.md (Z189.md a2) a3.eG a1 a3.bH).2) (cond (Z181.md a2) (((Z195.md a1 ((Z217.md (Z189.md a2) a3.eG a1 a3.bH).1))==a0):Bool) (false:Bool)) (false:Bool))
def gd (a0 a1:Int)(a2:ah)(a3:aP):Prop:=(ah.Sm (2^21) a2)/\(aP.Sm (2^21) a3)
def R:=RR (p4 gd) (u4 md)
def aq {a0 a1 a2 a3}(h:gd a0 a1 a2 a3):R (a0,a1,(ah.r a2),(aP.r a3))=some (md a0 a1 a2 a3):=aR (a:=(a0,a1,a2,a3)) h
def aW:=CN [pI,pI,.agg sn,.agg rE] oB RT.dec R
def bB (a0)(a1)(a2)(a3)(hg:gd a0 a1 a2 a3):F a0 a1 (ah.r a2) (aP.r a3)=ret (md a0 a1 a2 a3):=by
 obtain ⟨H2,H3⟩:=hg
 unfold F md
 try simp only [SS]
 refine ct (Z189.aq H2) ?_
 refine ct (Z217.aq (H3.mono (by decide) (fun x hx=>trivial))) ?_
 refine ay ret (fun c1=>?_) (fun _=>rfl)
 refine ct (Z181.aq H2) ?_
 refine ay ret (fun c2=>?_) (fun _=>rfl)
 refine ct (Z195.aq trivial) ?_
 all_goals exact fz
def af:cG 465 aW:=W4 34 F mix aF bB (.cons Z189.af (.cons Z217.af (.cons Z181.af (.cons Z195.af .nil)))) Tryz.func465
def br (a0 a1:Int)(a2:ah)(a3:aP):md a0 a1 a2 a3=Z109.md a0 a1 a2 a3:=by
 unfold md Z109.md
 simp only [Z217.br,Z189.br,Z181.br,Z195.br]
 cases Z75.md a2<;>cases (Z108.md (Z81.md a2) a3.eG a1 a3.bH).2<;>rfl
end Z218
namespace Z219
inductive Pt where
 | p0 (a b:aD) (c d:Int)
def pid:Pt->Nat
 | .p0 ..=>4
def cg:Pt->List V
 | .p0 a b c d=>[.sl none 9 a,.sl none 9 b,.int .i64 c,.int .i64 d]
def bZ:Pt->List aZ
 | .p0 a b c d=>[]
def step (J:Pt->aK):Pt->aK
 | .p0 a b c d=>(cond (decide (d<c)) (m2 d (a.length:Int) (m2 d (b.length:Int) (cond (!((qk a (toNat d))==(qk b (toNat d)))) bh (J (.p0 a b c (i64.wrap (d+1))))))) eF)
def start (J:Pt->aK)(x0 x1:aD):aK:=(cond ((x0.length:Int) != (x1.length:Int)) bh (J (.p0 x0 x1 (x0.length:Int) 0)))
def live:Nat->Live:=fun i=>match i with | 4=>[(0,none),(1,none),(12,none),(13,none)] | _=>[]
def md (a0 a1:List aE):Bool:=(bif ((a0.length:Int) != (a1.length:Int)) then (false:Bool) else (eC (S:=Unit) (β:=Bool) (fun (i2:Nat) (s4:Unit)=>(cond (!((a0.getD i2 ⟨#[]⟩)==(a1.getD i2 ⟨#[]⟩))) (.inr (false:Bool)) (.inl ()))) (fun (s4:Unit)=>(true:Bool)) a0.length 0 ()))
def gd (a0 a1:List aE):Prop:=(bO (2^21) (fun y:aE=>y.size<=(2^21)) a0)/\(bO (2^21) (fun y:aE=>y.size<=(2^21)) a1)
def R:=RR (p2 gd) (u2 md)
def aq {a0 a1}(h:gd a0 a1):R ((a0.map cI),(a1.map cI))=some (md a0 a1):=aR (a:=(a0,a1)) h
def aW:=CN [pL 9,pL 9] oB RT.dec R
def bB (a0)(a1)(hg:gd a0 a1):∃n,start (iter step n) (a0.map cI) (a1.map cI)=ret (md a0 a1):=by
 obtain ⟨H0,H1⟩:=hg
 unfold start md
 try simp only [SS]
 refine hU ret (fun _=>⟨0,rfl⟩) (fun c1=>?_)
 have dc1:=c1
 try simp only [DC] at dc1
 have Bh3:a0.length<=maxLen:=(by
   have:=(H0).1
   try simp only [maxLen] at *
   omega)
 refine dR (p:=Pt.p0 (a0.map cI) (a1.map cI) (a0.length:Int) 0) fz ?_
 refine cu (pt:=fun (i2:Nat) (s4:Unit)=>Pt.p0 (a0.map cI) (a1.map cI) (a0.length:Int) (i2:Int)) (s:=(():Unit)) (out:=ret) (fun _ _=>True) (fun J i2 s4 h3 hih3=>?_) (fun s4 hih3=>?_) trivial
 ·simp only [step,SS]
  have bb_:=Bh3
  simp only [maxLen] at bb_
  have:=(H0).1
  refine bD.yes (by apply decide_eq_true;omega) ?_
  refine bD.yes aJ ?_
  refine bD.yes (aL h3) ?_
  refine bD.yes aJ ?_
  refine bD.yes (have:=(H1).1;dt) ?_
  refine bD.bif (fun _=>bD.inr rfl) (fun c5=>?_)
  refine bD.inl trivial ?_
  rw [aI h3 Bh3]
  all_goals exact fz
 ·simp only [step,SS]
  have:=(H0).1
  refine dF (by apply decide_eq_false;omega) ?_
  refine ⟨0,?_⟩
  all_goals exact fz
def af:cG 289 aW:=L2 26 pid cg bZ live step start mix aF bB .nil Tryz.func289
def md_eq (a0 a1:List aE):md a0 a1=eo a0 a1:=by
 unfold md
 refine kA (⟨#[]⟩) (fun i s h h2=>?_) (fun s=>rfl)
 simp only [bne,fq,bool_beq,eW]
 cases eo _ _<;>rfl
end Z219
namespace Z220
def F (x0 x1:bf):aK:=(cond (x0.bn==x1.bn) (cond (x0.bM==x1.bM) (cond (x0.cq==x1.cq) (call (Z219.R (x0.bH,x1.bH)) fun v1=>ret (v1:Bool)) bh) bh) bh)
def md (a0 a1:ah):Bool:=(cond (a0.bn==a1.bn) (cond (a0.bM==a1.bM) (cond (a0.cq==a1.cq) ((Z219.md a0.bH a1.bH):Bool) (false:Bool)) (false:Bool)) (false:Bool))
def gd (a0 a1:ah):Prop:=(ah.Sm (2^21) a0)/\(ah.Sm (2^21) a1)
def R:=RR (p2 gd) (u2 md)
def aq {a0 a1}(h:gd a0 a1):R ((ah.r a0),(ah.r a1))=some (md a0 a1):=aR (a:=(a0,a1)) h
def aW:=CN [.agg sn,.agg sn] oB RT.dec R
def bB (a0)(a1)(hg:gd a0 a1):F (ah.r a0) (ah.r a1)=ret (md a0 a1):=by
 obtain ⟨H0,H1⟩:=hg
 unfold F md
 try simp only [SS]
 refine ay ret (fun c1=>?_) (fun _=>rfl)
 refine ay ret (fun c2=>?_) (fun _=>rfl)
 refine ay ret (fun c3=>?_) (fun _=>rfl)
 refine ct (Z219.aq ⟨H0.2,H1.2⟩) ?_
 all_goals exact fz
def af:cG 110 aW:=W2 31 F mix aF bB (.cons Z219.af .nil) Tryz.func110
def md_eq (a0 a1:ah):md a0 a1=eo a0 a1:=by
 unfold md
 cases a0;cases a1
 rw [Bool.eq_iff_iff]
 simp [dA,eW,ah.mk.injEq,Z219.md_eq]
 try (constructor<;>(intro h;simp_all))
end Z220
namespace Z221
def F (x0 x1:bT):aK:=(cond (x0.eG==x1.eG) (call (Z171.R (x0.bH,x1.bH)) fun v1=>ret (v1:Bool)) bh)
def md (a0 a1:aP):Bool:=(cond (a0.eG==a1.eG) ((Z171.md a0.bH a1.bH):Bool) (false:Bool))
def gd (a0 a1:aP):Prop:=(aP.Sm (2^21) a0)/\(aP.Sm (2^21) a1)
def R:=RR (p2 gd) (u2 md)
def aq {a0 a1}(h:gd a0 a1):R ((aP.r a0),(aP.r a1))=some (md a0 a1):=aR (a:=(a0,a1)) h
def aW:=CN [.agg rE,.agg rE] oB RT.dec R
def bB (a0)(a1)(hg:gd a0 a1):F (aP.r a0) (aP.r a1)=ret (md a0 a1):=by
 obtain ⟨H0,H1⟩:=hg
 unfold F md
 try simp only [SS]
 refine ay ret (fun c1=>?_) (fun _=>rfl)
 refine ct (Z171.aq ⟨(H0.mono (by decide) (fun x hx=>trivial)),(H1.mono (by decide) (fun x hx=>trivial))⟩) ?_
 all_goals exact fz
def af:cG 273 aW:=W2 17 F mix aF bB (.cons Z171.af .nil) Tryz.func273
def md_eq (a0 a1:aP):md a0 a1=eo a0 a1:=by
 unfold md
 cases a0;cases a1
 rw [Bool.eq_iff_iff]
 simp [dA,eW,aP.mk.injEq,Z171.md_eq]
 try (constructor<;>(intro h;simp_all))
end Z221
namespace Z222
def F (x0 x1:dV):aK:=(cond (x0.eG==x1.eG) (call (Z220.R (x0.aS,x1.aS)) fun v1=>(cond v1 (call (Z220.R (x0.cJ,x1.cJ)) fun v2=>(cond v2 (call (Z221.R (x0.eI,x1.eI)) fun v3=>(cond v3 (call (Z221.R (x0.dh,x1.dh)) fun v4=>ret (v4:Bool)) bh)) bh)) bh)) bh)
def md (a0 a1:bW):Bool:=(cond (a0.eG==a1.eG) (cond (Z220.md a0.aS a1.aS) (cond (Z220.md a0.cJ a1.cJ) (cond (Z221.md a0.eI a1.eI) ((Z221.md a0.dh a1.dh):Bool) (false:Bool)) (false:Bool)) (false:Bool)) (false:Bool))
def gd (a0 a1:bW):Prop:=(bW.Sm (2^21) a0)/\(bW.Sm (2^21) a1)
def R:=RR (p2 gd) (u2 md)
def aq {a0 a1}(h:gd a0 a1):R ((bW.r a0),(bW.r a1))=some (md a0 a1):=aR (a:=(a0,a1)) h
def aW:=CN [.agg vW,.agg vW] oB RT.dec R
def bB (a0)(a1)(hg:gd a0 a1):F (bW.r a0) (bW.r a1)=ret (md a0 a1):=by
 obtain ⟨H0,H1⟩:=hg
 unfold F md
 try simp only [SS]
 refine ay ret (fun c1=>?_) (fun _=>rfl)
 refine ct (Z220.aq ⟨H0.1,H1.1⟩) ?_
 refine ay ret (fun c2=>?_) (fun _=>rfl)
 refine ct (Z220.aq ⟨H0.2.1,H1.2.1⟩) ?_
 refine ay ret (fun c3=>?_) (fun _=>rfl)
 refine ct (Z221.aq ⟨H0.2.2.1,H1.2.2.1⟩) ?_
 refine ay ret (fun c4=>?_) (fun _=>rfl)
 refine ct (Z221.aq ⟨H0.2.2.2,H1.2.2.2⟩) ?_
 all_goals exact fz
def af:cG 274 aW:=W2 38 F mix aF bB (.cons Z220.af (.cons Z221.af .nil)) Tryz.func274
def md_eq (a0 a1:bW):md a0 a1=eo a0 a1:=by
 unfold md
 cases a0;cases a1
 rw [Bool.eq_iff_iff]
 simp [dA,eW,bW.mk.injEq,Z220.md_eq,Z221.md_eq]
 try (constructor<;>(intro h;simp_all))
end Z222
namespace Z223
def F (x0:bf):aK:=(call (Z220.R (x0,(⟨(⟨#[]⟩:aE),0,0,[]⟩:bf))) fun v1=>ret (v1:Bool))
def md (a0:ah):Bool:=((Z220.md a0 (⟨((⟨#[]⟩:aE):aE),0,0,[]⟩:ah)):Bool)
def gd (a0:ah):Prop:=(ah.Sm (2^21) a0)
def R:=RR gd md
def aq {a0}(h:gd a0):R (ah.r a0)=some (md a0):=aR (a:=a0) h
def aW:=CN [.agg sn] oB RT.dec R
def bB (a0)(hg:gd a0):F (ah.r a0)=ret (md a0):=by
 unfold gd at hg
 have H0:=hg
 unfold F md
 try simp only [SS]
 refine ct (Z220.aq (a1:=(⟨((⟨#[]⟩:aE):aE),0,0,[]⟩:ah)) ⟨H0,⟨(by decide),bO.nil⟩⟩) ?_
 all_goals exact fz
def af:cG 467 aW:=W1 6 F mix aF bB (.cons Z220.af .nil) Tryz.func467
end Z223
namespace Z224
def F (x0:bT):aK:=(call (Z221.R (x0,(⟨0,[]⟩:bT))) fun v1=>ret (v1:Bool))
def md (a0:aP):Bool:=((Z221.md a0 (⟨0,[]⟩:aP)):Bool)
def gd (a0:aP):Prop:=(aP.Sm (2^21) a0)
def R:=RR gd md
def aq {a0}(h:gd a0):R (aP.r a0)=some (md a0):=aR (a:=a0) h
def aW:=CN [.agg rE] oB RT.dec R
def bB (a0)(hg:gd a0):F (aP.r a0)=ret (md a0):=by
 unfold gd at hg
 have H0:=hg
 unfold F md
 try simp only [SS]
 refine ct (Z221.aq (a1:=(⟨0,[]⟩:aP)) ⟨H0,bO.nil⟩) ?_
 all_goals exact fz
def af:cG 468 aW:=W1 6 F mix aF bB (.cons Z221.af .nil) Tryz.func468
end Z224
namespace Z225
def F (x0 x1:Int)(x2:bf)(x3:bT)(x4:Int):aK:=(call (Z135.R (x4,0,(i64.wrap (x1 - 1)))) fun v1=>(cond (!v1) (call (Z223.R x2) fun v2=>(cond v2 (call (Z224.R x3) fun v3=>ret (v3:Bool)) bh)) (call (Z218.R (x0,x1,x2,x3)) fun v4=>(cond v4 (ret ((x3.eG==x4):Bool)) bh))))
def md (a0 a1:Int)(a2:ah)(a3:aP)(a4:Int):Bool:=(cond (!(Z135.md a4 0 (i64.wrap (a1 - 1)))) (cond (Z223.md a2) ((Z224.md a3):Bool) (false:Bool)) (cond (Z218.md a0 a1 a2 a3) ((a3.eG==a4):Bool) (false:Bool)))
def gd (a0 a1:Int)(a2:ah)(a3:aP)(a4:Int):Prop:=(ah.Sm (2^21) a2)/\(aP.Sm (2^21) a3)
def R:=RR (p5 gd) (u5 md)
def aq {a0 a1 a2 a3 a4}(h:gd a0 a1 a2 a3 a4):R (a0,a1,(ah.r a2),(aP.r a3),a4)=some (md a0 a1 a2 a3 a4):=aR (a:=(a0,a1,a2,a3,a4)) h
def aW:=CN [pI,pI,.agg sn,.agg rE,pI] oB RT.dec R
def bB (a0)(a1)(a2)(a3)(a4)(hg:gd a0 a1 a2 a3 a4):F a0 a1 (ah.r a2) (aP.r a3) a4=ret (md a0 a1 a2 a3 a4):=by
 obtain ⟨H2,H3⟩:=hg
 unfold F md
 try simp only [SS]
 refine ct (Z135.aq trivial) ?_
 refine ay ret (fun c1=>?_) (fun c1=>?_)
 ·refine ct (Z223.aq H2) ?_
  refine ay ret (fun c2=>?_) (fun _=>rfl)
  refine ct (Z224.aq H3) ?_
  all_goals exact fz
 ·refine ct (Z218.aq ⟨H2,H3⟩) ?_
  refine ay ret (fun c3=>?_) (fun _=>rfl)
  all_goals exact fz
def af:cG 544 aW:=W5 33 F mix aF bB (.cons Z135.af (.cons Z223.af (.cons Z224.af (.cons Z218.af .nil)))) Tryz.func544
end Z225
namespace Z226
def F (x0 x1:Int)(x2:aE)(x3:dV):aK:=(call (Z136.R x2) fun v1=>(cond (!v1) bh (call (Z135.R (x3.eG,0,x1)) fun v2=>(cond (!v2) bh (cond (x1==0) (call (Z196.R []) fun v3=>(cond (x0 != v3) bh (call (Z225.R (x0,x1,x3.aS,x3.eI,(i64.wrap (x3.eG - 1)))) fun v4=>(cond (!v4) bh (call (Z225.R (x0,x1,x3.cJ,x3.dh,x3.eG)) fun v5=>(cond (!v5) bh (cond (x3.eG==0) (cond (x3.eG==x1) eF (call (Z184.R (x3.cJ.bn,x2)) fun v6=>ret ((decide (v6>0)):Bool))) (call (Z184.R (x3.aS.bn,x2)) fun v7=>(cond (decide (v7<0)) (cond (x3.eG==x1) eF (call (Z184.R (x3.cJ.bn,x2)) fun v8=>ret ((decide (v8>0)):Bool))) bh))))))))) (call (Z225.R (x0,x1,x3.aS,x3.eI,(i64.wrap (x3.eG - 1)))) fun v9=>(cond (!v9) bh (call (Z225.R (x0,x1,x3.cJ,x3.dh,x3.eG)) fun v10=>(cond (!v10) bh (cond (x3.eG==0) (cond (x3.eG==x1) eF (call (Z184.R (x3.cJ.bn,x2)) fun v11=>ret ((decide (v11>0)):Bool))) (call (Z184.R (x3.aS.bn,x2)) fun v12=>(cond (decide (v12<0)) (cond (x3.eG==x1) eF (call (Z184.R (x3.cJ.bn,x2)) fun v13=>ret ((decide (v13>0)):Bool))) bh))))))))))))
def md (a0 a1:Int)(a2:aE)(a3:bW):Bool:=(cond (!(Z136.md a2)) (false:Bool) (cond (!(Z135.md a3.eG 0 a1)) (false:Bool) (cond (a1==0) (cond (a0 != (Z196.md [])) (false:Bool) (cond (!(Z225.md a0 a1 a3.aS a3.eI (i64.wrap (a3.eG - 1)))) (false:Bool) (cond (!(Z225.md a0 a1 a3.cJ a3.dh a3.eG)) (false:Bool) (cond (a3.eG==0) (cond (a3.eG==a1) (true:Bool) ((decide ((Z184.md a3.cJ.bn a2)>0)):Bool)) (cond (decide ((Z184.md a3.aS.bn a2)<0)) (cond (a3.eG==a1) (true:Bool) ((decide ((Z184.md a3.cJ.bn a2)>0)):Bool)) (false:Bool)))))) (cond (!(Z225.md a0 a1 a3.aS a3.eI (i64.wrap (a3.eG - 1)))) (false:Bool) (cond (!(Z225.md a0 a1 a3.cJ a3.dh a3.eG)) (false:Bool) (cond (a3.eG==0) (cond (a3.eG==a1) (true:Bool) ((decide ((Z184.md a3.cJ.bn a2)>0)):Bool)) (cond (decide ((Z184.md a3.aS.bn a2)<0)) (cond (a3.eG==a1) (true:Bool) ((decide ((Z184.md a3.cJ.bn a2)>0)):Bool)) (false:Bool))))))))
def gd (a0 a1:Int)(a2:aE)(a3:bW):Prop:=(a2.size<=(2^21))/\(bW.Sm (2^21) a3)
def R:=RR (p4 gd) (u4 md)
def aq {a0 a1 a2 a3}(h:gd a0 a1 a2 a3):R (a0,a1,a2,(bW.r a3))=some (md a0 a1 a2 a3):=aR (a:=(a0,a1,a2,a3)) h
def aW:=CN [pI,pI,pS,.agg vW] oB RT.dec R
def bB (a0)(a1)(a2)(a3)(hg:gd a0 a1 a2 a3):F a0 a1 a2 (bW.r a3)=ret (md a0 a1 a2 a3):=by
 obtain ⟨H2,H3⟩:=hg
 unfold F md
 try simp only [SS]
 refine ct (Z136.aq (le_trans H2 (by decide))) ?_
 refine ay ret (fun _=>rfl) (fun c1=>?_)
 refine ct (Z135.aq trivial) ?_
 refine ay ret (fun _=>rfl) (fun c2=>?_)
 refine ay ret (fun c3=>?_) (fun c3=>?_)
 ·refine bg (Z196.md []) (rq (Z196.aq (a0:=[]) bO.nil)) ?_
  refine ay ret (fun _=>rfl) (fun c4=>?_)
  refine ct (Z225.aq ⟨H3.1,H3.2.2.1⟩) ?_
  refine ay ret (fun _=>rfl) (fun c5=>?_)
  refine ct (Z225.aq ⟨H3.2.1,H3.2.2.2⟩) ?_
  refine ay ret (fun _=>rfl) (fun c6=>?_)
  refine ay ret (fun c7=>?_) (fun c7=>?_)
  ·refine ay ret (fun _=>rfl) (fun c8=>?_)
   refine ct (Z184.aq trivial) ?_
   all_goals exact fz
  ·refine ct (Z184.aq trivial) ?_
   refine ay ret (fun c9=>?_) (fun _=>rfl)
   refine ay ret (fun _=>rfl) (fun c10=>?_)
   refine ct (Z184.aq trivial) ?_
   all_goals exact fz
 ·refine ct (Z225.aq ⟨H3.1,H3.2.2.1⟩) ?_
  refine ay ret (fun _=>rfl) (fun c11=>?_)
  refine ct (Z225.aq ⟨H3.2.1,H3.2.2.2⟩) ?_
  refine ay ret (fun _=>rfl) (fun c12=>?_)
  refine ay ret (fun c13=>?_) (fun c13=>?_)
  ·refine ay ret (fun _=>rfl) (fun c14=>?_)
   refine ct (Z184.aq trivial) ?_
   all_goals exact fz
  ·refine ct (Z184.aq trivial) ?_
   refine ay ret (fun c15=>?_) (fun _=>rfl)
   refine ay ret (fun _=>rfl) (fun c16=>?_)
   refine ct (Z184.aq trivial) ?_
   all_goals exact fz
def af:cG 466 aW:=W4 76 F mix aF bB (.cons Z136.af (.cons Z135.af (.cons Z196.af (.cons Z225.af (.cons Z184.af .nil))))) Tryz.func466
def BH (a0 a1:Int)(a2:aE)(a3:bW)(hc:a1<=1000):md a0 a1 a2 a3=Z115.md a0 a1 a2 a3:=by
 unfold md Z115.md Z225.md Z114.md Z223.md Z224.md
 simp only [Z136.br,Z135.br,Z196.br,Z218.br,Z220.md_eq,Z111.md_eq,Z221.md_eq,Z112.md_eq,Z184.br,Z76.lt,Z76.gt]
 cases Z46.md a2
 ·rfl
 cases hr:Z45.md a3.eG 0 a1
 ·rfl
 have hi:0<=a3.eG/\a3.eG<=a1:=by simpa [Z45.md] using hr
 have w1:i64.wrap (a1 - 1)=a1 - 1:=Go.IntWalk.i64_in _ (by omega)
 have w2:i64.wrap (a3.eG - 1)=a3.eG - 1:=Go.IntWalk.i64_in _ (by omega)
 have e1:Z45.md (a3.eG - 1) 0 (a1 - 1)=!(a3.eG==0):=by
  rw [Bool.eq_iff_iff];simp [Z45.md];omega
 have e2:Z45.md a3.eG 0 (a1 - 1)=!(a3.eG==a1):=by
  rw [Bool.eq_iff_iff];simp [Z45.md];omega
 simp only [w1,w2,e1,e2,bne]
 generalize (a3.eG==0)=z
 generalize (a3.eG==a1)=e
 generalize (a1==0)=c0
 generalize (a0==Z87.md [])=rt
 generalize eo a3.aS _=x1
 generalize eo a3.eI _=x2
 generalize eo a3.cJ _=x3
 generalize eo a3.dh _=x4
 generalize Z109.md a0 a1 a3.aS a3.eI=k1
 generalize Z109.md a0 a1 a3.cJ a3.dh=k2
 generalize (a3.eI.eG==a3.eG - 1)=p1
 generalize (a3.dh.eG==a3.eG)=p2
 generalize (Z76.md a3.aS.bn a2 == -1)=m1
 generalize (Z76.md a3.cJ.bn a2==1)=m2
 cases c0<;>cases rt<;>cases z<;>cases e<;>cases x1<;>cases x2<;>cases k1<;>cases p1<;>cases m1<;>first | rfl | (cases x3<;>cases x4<;>rfl) | (cases k2<;>cases p2<;>cases m2<;>rfl)
end Z226
namespace Z227
def F (x0:ck)(x1:aE)(x2:bp):aK:=(cond x2.cA (cond (x2.aV.bn==x1) (call (Z218.R (x0.dm,x0.cz,x2.aV,x2.eE)) fun v1=>(cond v1 (call (Z222.R (x2.fc,(⟨0,(⟨(⟨#[]⟩:aE),0,0,[]⟩:bf),(⟨(⟨#[]⟩:aE),0,0,[]⟩:bf),(⟨0,[]⟩:bT),(⟨0,[]⟩:bT)⟩:dV))) fun v2=>ret (v2:Bool)) bh)) bh) (call (Z226.R (x0.dm,x0.cz,x1,x2.fc)) fun v3=>(cond v3 (call (Z223.R x2.aV) fun v4=>(cond v4 (call (Z224.R x2.eE) fun v5=>ret (v5:Bool)) bh)) bh)))
def md (a0:aG)(a1:aE)(a2:az):Bool:=(cond a2.cA (cond (a2.aV.bn==a1) (cond (Z218.md a0.dm a0.cz a2.aV a2.eE) ((Z222.md a2.fc (⟨0,(⟨((⟨#[]⟩:aE):aE),0,0,[]⟩:ah),(⟨((⟨#[]⟩:aE):aE),0,0,[]⟩:ah),(⟨0,[]⟩:aP),(⟨0,[]⟩:aP)⟩:bW)):Bool) (false:Bool)) (false:Bool)) (cond (Z226.md a0.dm a0.cz a1 a2.fc) (cond (Z223.md a2.aV) ((Z224.md a2.eE):Bool) (false:Bool)) (false:Bool)))
def gd (a0:aG)(a1:aE)(a2:az):Prop:=(a1.size<=(2^21))/\(az.Sm (2^21) a2)
def R:=RR (p3 gd) (u3 md)
def aq {a0 a1 a2}(h:gd a0 a1 a2):R ((aG.r a0),a1,(az.r a2))=some (md a0 a1 a2):=aR (a:=(a0,a1,a2)) h
def aW:=CN [.agg gi,pS,.agg xL] oB RT.dec R
def bB (a0)(a1)(a2)(hg:gd a0 a1 a2):F (aG.r a0) a1 (az.r a2)=ret (md a0 a1 a2):=by
 obtain ⟨H1,H2⟩:=hg
 unfold F md
 try simp only [SS]
 refine ay ret (fun c1=>?_) (fun c1=>?_)
 ·refine ay ret (fun c2=>?_) (fun _=>rfl)
  refine ct (Z218.aq ⟨H2.2.1,H2.2.2.1⟩) ?_
  refine ay ret (fun c3=>?_) (fun _=>rfl)
  refine ct (Z222.aq (a1:=(⟨0,(⟨((⟨#[]⟩:aE):aE),0,0,[]⟩:ah),(⟨((⟨#[]⟩:aE):aE),0,0,[]⟩:ah),(⟨0,[]⟩:aP),(⟨0,[]⟩:aP)⟩:bW)) ⟨H2.2.2.2,⟨⟨(by decide),bO.nil⟩,⟨(by decide),bO.nil⟩,bO.nil,bO.nil⟩⟩) ?_
  all_goals exact fz
 ·refine ct (Z226.aq ⟨H1,H2.2.2.2⟩) ?_
  refine ay ret (fun c4=>?_) (fun _=>rfl)
  refine ct (Z223.aq H2.2.1) ?_
  refine ay ret (fun c5=>?_) (fun _=>rfl)
  refine ct (Z224.aq H2.2.2.1) ?_
  all_goals exact fz
def af:cG 384 aW:=W3 49 F mix aF bB (.cons Z218.af (.cons Z222.af (.cons Z226.af (.cons Z223.af (.cons Z224.af .nil))))) Tryz.func384
def BH (a0:aG)(a1:aE)(a2:az)(hc:a0.cz<=1000):md a0 a1 a2=Z116.md a0 a1 a2:=by
 unfold md Z116.md Z114.md Z223.md Z224.md
 simp only [Z226.BH _ _ _ _ hc,Z218.br,Z220.md_eq,Z111.md_eq,Z221.md_eq,Z112.md_eq,Z222.md_eq,Z113.md_eq]
end Z227
namespace Z228
def F (x0:Int)(x1:aE)(x2:bp)(x3:Int):aK:=(call (Z215.R x2.aU) fun v1=>(cond (!v1.2) (ret (3:Int)) (cond (v1.1.bz != x0) (ret (2:Int)) (call (Z216.R (v1.1,x3)) fun v2=>(cond (!v2) (ret (4:Int)) (cond v1.1.bG (ret (5:Int)) (call (Z227.R (v1.1,x1,x2)) fun v3=>(cond (!v3) (ret (6:Int)) (ret (1:Int))))))))))
def md (a0:Int)(a1:aE)(a2:az)(a3:Int):Int:=(cond (!(Z215.md a2.aU).2) (3:Int) (cond ((Z215.md a2.aU).1.bz != a0) (2:Int) (cond (!(Z216.md ((Z215.md a2.aU).1) a3)) (4:Int) (cond ((Z215.md a2.aU).1.bG) (5:Int) (cond (!(Z227.md ((Z215.md a2.aU).1) a1 a2)) (6:Int) (1:Int))))))
def gd (a0:Int)(a1:aE)(a2:az)(a3:Int):Prop:=(a1.size<=(2^21))/\(az.Sm (2^21) a2)
def R:=RR (p4 gd) (u4 md)
def aq {a0 a1 a2 a3}(h:gd a0 a1 a2 a3):R (a0,a1,(az.r a2),a3)=some (md a0 a1 a2 a3):=aR (a:=(a0,a1,a2,a3)) h
def aW:=CN [pI,pS,.agg xL,pI] oI RT.dec R
def bB (a0)(a1)(a2)(a3)(hg:gd a0 a1 a2 a3):F a0 a1 (az.r a2) a3=ret (md a0 a1 a2 a3):=by
 obtain ⟨H1,H2⟩:=hg
 unfold F md
 try simp only [SS]
 refine ct (Z215.aq H2.1) ?_
 try simp only [SS]
 refine ay ret (fun _=>rfl) (fun c1=>?_)
 refine ay ret (fun _=>rfl) (fun c2=>?_)
 refine ct (Z216.aq trivial) ?_
 refine ay ret (fun _=>rfl) (fun c3=>?_)
 refine ay ret (fun _=>rfl) (fun c4=>?_)
 refine ct (Z227.aq ⟨H1,H2⟩) ?_
 refine ay ret (fun _=>rfl) (fun _=>rfl)
def af:cG 264 aW:=W4 39 F mix aF bB (.cons Z215.af (.cons Z216.af (.cons Z227.af .nil))) Tryz.func264
def br (a0:Int)(a1:aE)(a2:az)(a3:Int):md a0 a1 a2 a3=Z117.md a0 a1 a2 a3:=by
 unfold md Z117.md
 simp only [Z215.br,Z216.br]
 cases hok:(Z74.md a2.aU).2
 ·rfl
 ·have:=Z51.tr (Z74.head hok).2.2
  rw [Z227.BH _ _ _ (by omega)]
end Z228
namespace Z229
def F (x0:aD)(x1:List L):aK:=(cond (decide ((x0.length:Int)>0)) (cm (decide ((0:Int)<(x0.length:Int))) (ret (((aT.at x0 0).au.bz==(gy x1)):Bool))) bh)
def pats:List gk:=[.rd (.sl 123),.ptr [aC]]
def res:RP:=.one (.rd (.bool))
def md (a0:List aa)(a1:Int):Bool:=(cond (decide ((a0.length:Int)>0)) ((((a0.getD 0 aa.zero).au).bz==a1):Bool) (false:Bool))
def gd (a0:List aa)(a1:Int):Prop:=(bO (2^21) (fun y:aa=>aa.Sm (2^21) y) a0)
def acc (ls:List L):aD×Int:=((ls.headD .hole).aQ,(gy (cT 1 (aA 1 ls))))
def R:(aD×Int)->Option Bool:=RR (p2 gd) (u2 md)
def aq {a0 a1}(h:gd a0 a1):R ((a0.map aa.row),a1)=some (md a0 a1):=aR (a:=(a0,a1)) h
def aW:ga:=CN pats res acc R
def bB (a0:List aa)(a1:Int)(p1:List L)(e1:a1=(gy p1))(hg:gd a0 a1):F (a0.map aa.row) p1=ret ((md a0 a1):Bool):=by
 unfold gd at hg
 have H0:=hg
 unfold F md
 try simp only [SS,<-e1]
 refine ay ret (fun c1=>?_) (fun _=>rfl)
 have dc1:=c1
 try simp only [DC] at dc1
 refine ak (have:=(H0).1;dt) ?_
 all_goals exact fz
def oR (ls:List L)(a:List aa×Int)(e:acc ls=Im.im a)(hg:(p2 gd) a):∃n:Nat,F ((ls.headD .hole).aQ) (cT 1 (aA 1 ls))=ret (Im.im ((u2 md) a)):=by
 have e0:(a.1.map aa.row)=(ls.headD .hole).aQ:=(congrArg (fun x=>x.1) e.symm)
 have hn:=bB a.1 a.2 (cT 1 (aA 1 ls)) (congrArg (fun x=>x.2) e.symm) hg
 refine ⟨0,?_⟩
 rw [<-e0]
 exact hn
def af:cG 366 aW:=VP (live:=fun _=>[]) (nt:=16) (accr:=fun ls=>((ls.headD .hole).aQ,(cT 1 (aA 1 ls)))) (run:=fun _ x=>F x.1 x.2) mix aF .nil Tryz.func366 (by kernel_rfl) (fun _ _=>by kernel_rfl) (fun ls a _ e hg=>oR ls a e hg)
end Z229
namespace Z230
inductive Pt where
 | p0 (a:aD) (b:List L) (c d:Int)
def pid:Pt->Nat
 | .p0 ..=>2
def cg:Pt->List V
 | .p0 a b c d=>[.sl none 92 a,.fn 366 [.dL none [aC] b 0],.int .i64 c,.int .i64 d]
def bZ:Pt->List aZ
 | .p0 a b c d=>[]
def step (J:Pt->aK):Pt->aK
 | .p0 a b c d=>(cond (decide (d<c)) (m2 d (a.length:Int) (call (Z229.R ((oT a (toNat d)),(gy b))) fun v1=>(cond v1 (ret (d:Int)) (J (.p0 a b c (i64.wrap (d+1))))))) (ret ((-1):Int)))
def start (J:Pt->aK)(x0:aD)(x1:List L):aK:=J (.p0 x0 x1 (x0.length:Int) 0)
def live:Nat->Live:=fun i=>match i with | 2=>[(0,none),(1,none),(7,none),(8,none)] | _=>[]
def pats:List gk:=[.rd (.sl 92),.fn 366 [[aC]]]
def res:RP:=.one (.rd (.int .i64))
abbrev E:Env:={ T:=assoc kB,G:=dD [(366,Z229.aW)],nt:=19 }
def step_eq (I:cD)(p:Pt):cV E live I (pid p) (bN Tryz.f365) (fD (live (pid p)) (cg p) (bZ p)) (cE E Tryz.f365 res)=step (fun q=>I (pid q) (cg q) (bZ q)) p:=by
 cases p<;>kernel_rfl
def start_eq (I:cD)(ls:List L):eT E live I (bN Tryz.f365) (cZ pats ls) (cE E Tryz.f365 res)=start (fun q=>I (pid q) (cg q) (bZ q)) (ls.headD .hole).aQ (cT 1 (aA 1 ls)):=by kernel_rfl
def run_eq (n:Nat)(ls:List L):eN E live Tryz.f365 res n (cZ pats ls)=start (iter step n) (ls.headD .hole).aQ (cT 1 (aA 1 ls)):=cy (id:=pid) (vs:=cg) (hs:=bZ) (step:=step) (start:=fun J=>start J (ls.headD .hole).aQ (cT 1 (aA 1 ls))) step_eq (fun I=>start_eq I ls) n
def md (a0:List (List aa))(a1:Int):Int:=(dJ (S:=Unit) (β:=Int) (fun (i1:Nat) (y1:List aa) (s3:Unit)=>(cond (Z229.md y1 a1) (.inr ((i1:Int):Int)) (.inl ()))) (fun (s3:Unit)=>((-1):Int)) 0 a0 ())
def gd (a0:List (List aa))(a1:Int):Prop:=(bO (2^21) (fun y:List aa=>bO (2^21) (fun y:aa=>aa.Sm (2^21) y) y) a0)
def acc (ls:List L):aD×Int:=((ls.headD .hole).aQ,(gy (cT 1 (aA 1 ls))))
def R:(aD×Int)->Option Int:=RR (p2 gd) (u2 md)
def aq {a0 a1}(h:gd a0 a1):R ((a0.map (dO aa.row)),a1)=some (md a0 a1):=aR (a:=(a0,a1)) h
def aW:ga:=CN pats res acc R
def bB (a0:List (List aa))(a1:Int)(p1:List L)(e1:a1=(gy p1))(hg:gd a0 a1):∃n,start (iter step n) (a0.map (dO aa.row)) p1=ret ((md a0 a1):Int):=by
 unfold gd at hg
 have H0:=hg
 unfold start md
 try simp only [SS,<-e1]
 have Bh2:a0.length<=maxLen:=(by
   have:=(H0).1
   try simp only [maxLen] at *
   omega)
 refine ex_eq (out:=ret) (dc (z:=[])) ?_
 refine dR (p:=Pt.p0 (a0.map (dO aa.row)) p1 (a0.length:Int) 0) fz ?_
 refine cu (pt:=fun (i1:Nat) (s3:Unit)=>Pt.p0 (a0.map (dO aa.row)) p1 (a0.length:Int) (i1:Int)) (s:=(():Unit)) (out:=ret) (fun _ _=>True) (fun J i1 s3 h2 hih2=>?_) (fun s3 hih2=>?_) trivial
 ·simp only [step,SS,<-e1]
  have bb_:=Bh2
  simp only [maxLen] at bb_
  have:=(H0).1
  refine bD.yes (by apply decide_eq_true;omega) ?_
  refine bD.yes aJ ?_
  refine bD.yes (aL h2) ?_
  refine cr (Z229.aq (bO.getD (z:=[]) H0 h2)) ?_
  refine bD.bif (fun c4=>?_) (fun c4=>?_)
  ·refine bD.inr ?_
   all_goals exact fz
  ·refine bD.inl trivial ?_
   rw [aI h2 Bh2]
   all_goals exact fz
 ·simp only [step,SS,<-e1]
  have:=(H0).1
  refine dF (by apply decide_eq_false;omega) ?_
  refine ⟨0,?_⟩
  all_goals exact fz
def oR (ls:List L)(a:List (List aa)×Int)(e:acc ls=Im.im a)(hg:(p2 gd) a):∃n:Nat,start (iter step n) ((ls.headD .hole).aQ) (cT 1 (aA 1 ls))=ret (Im.im ((u2 md) a)):=by
 have e0:(a.1.map (dO aa.row))=(ls.headD .hole).aQ:=(congrArg (fun x=>x.1) e.symm)
 obtain ⟨n,hn⟩:=bB a.1 a.2 (cT 1 (aA 1 ls)) (congrArg (fun x=>x.2) e.symm) hg
 refine ⟨n,?_⟩
 rw [<-e0]
 exact hn
def af:cG 365 aW:=VP (accr:=fun ls=>((ls.headD .hole).aQ,(cT 1 (aA 1 ls)))) (run:=fun n x=>start (iter step n) x.1 x.2) mix aF (.cons Z229.af .nil) Tryz.func365 (by kernel_rfl) run_eq (fun ls a _ e hg=>oR ls a e hg)
def fa (a0:List (List aa))(a1:Int):-1<=md a0 a1/\md a0 a1<(a0.length:Int):=by
 unfold md
 refine gx ?_ _ _
 all_goals
  intro i x s b h
  revert h
  simp only [Bool.cond_eq_ite]
  repeat' split
  all_goals (intro h;first | (cases h;rfl) | cases h)
def idx_eq (a0:List (List aa))(a1:Int):md a0 a1=ju (fun y=>Z229.md y a1) 0 a0:=by
 unfold md
 exact ia
end Z230
namespace Z231
def F (x0:bt)(x1:Int):aK:=(call (Z230.R (x0.aH,x1)) fun v1=>ret (v1:Int))
def md (a0:aj)(a1:Int):Int:=((Z230.md a0.aH a1):Int)
def gd (a0:aj)(a1:Int):Prop:=(aj.Sm (2^21) a0)
def R:=RR (p2 gd) (u2 md)
def aq {a0 a1}(h:gd a0 a1):R ((aj.r a0),a1)=some (md a0 a1):=aR (a:=(a0,a1)) h
def aW:=CN [.agg rU,pI] oI RT.dec R
def bB (a0)(a1)(hg:gd a0 a1):F (aj.r a0) a1=ret (md a0 a1):=by
 unfold gd at hg
 have H0:=hg
 unfold F md
 try simp only [SS]
 refine ct (Z230.aq H0.1) ?_
 have fv1_:=Z230.fa a0.aH a1
 all_goals exact fz
def af:cG 242 aW:=W2 9 F mix aF bB (.cons Z230.af .nil) Tryz.func242
def fa (a0:aj)(a1:Int):-1<=md a0 a1/\md a0 a1<(a0.aH.length:Int):=by unfold md;exact Z230.fa _ _
def br (a0:aj)(a1:Int):md a0 a1=Z101.md a0 a1:=by
 unfold md Z101.md
 rw [Z230.idx_eq]
 symm
 refine kZ (fun i x s=>?_) _ _ _
 unfold Z229.md
 cases decide ((x.length:Int)>0)<;>first | rfl | (cases ((x.getD 0 aa.zero).au).bz==a1<;>rfl)
end Z231
namespace Z232
def F (x0 x1:ck):aK:=(call (Z172.R (x0.bQ,x1.bQ)) fun v1=>(cond v1 (call (Z172.R (x0.bE,x1.bE)) fun v2=>(cond v2 (call (Z172.R (x0.bC,x1.bC)) fun v3=>(cond v3 (call (Z157.R x0) fun v4=>(call (Z157.R x1) fun v5=>(call (Z171.R (v4,v5)) fun v6=>ret (v6:Bool)))) bh)) bh)) bh))
def md (a0 a1:aG):Bool:=(cond (Z172.md a0.bQ a1.bQ) (cond (Z172.md a0.bE a1.bE) (cond (Z172.md a0.bC a1.bC) ((Z171.md (Z157.md a0) (Z157.md a1)):Bool) (false:Bool)) (false:Bool)) (false:Bool))
def gd (a0 a1:aG):Prop:=(aG.Sm (2^21) a0)/\(aG.Sm (2^21) a1)
def R:=RR (p2 gd) (u2 md)
def aq {a0 a1}(h:gd a0 a1):R ((aG.r a0),(aG.r a1))=some (md a0 a1):=aR (a:=(a0,a1)) h
def aW:=CN [.agg gi,.agg gi] oB RT.dec R
def bB (a0)(a1)(hg:gd a0 a1):F (aG.r a0) (aG.r a1)=ret (md a0 a1):=by
 obtain ⟨H0,H1⟩:=hg
 unfold F md
 try simp only [SS]
 refine ct (Z172.aq ⟨H0.1,H1.1⟩) ?_
 refine ay ret (fun c1=>?_) (fun _=>rfl)
 refine ct (Z172.aq ⟨H0.2.1,H1.2.1⟩) ?_
 refine ay ret (fun c2=>?_) (fun _=>rfl)
 refine ct (Z172.aq ⟨H0.2.2,H1.2.2⟩) ?_
 refine ay ret (fun c3=>?_) (fun _=>rfl)
 refine ct (Z157.aq H0) ?_
 try simp only [SS]
 refine ct (Z157.aq H1) ?_
 try simp only [SS]
 refine ct (Z171.aq ⟨⟨(have:=Z157.len a0;have:=(H0.1).1;have:=(H0.2.1).1;have:=(H0.2.2).1;om),fun _ _=>trivial⟩,⟨(have:=Z157.len a1;have:=(H1.1).1;have:=(H1.2.1).1;have:=(H1.2.2).1;om),fun _ _=>trivial⟩⟩) ?_
 all_goals exact fz
def af:cG 255 aW:=W2 31 F mix aF bB (.cons Z172.af (.cons Z157.af (.cons Z171.af .nil))) Tryz.func255
def md_eq (a0 a1:aG):md a0 a1=eo a0 a1:=by
 unfold md
 simp only [Z171.md_eq,Z172.md_eq,Z157.br]
 rw [Bool.eq_iff_iff]
 constructor
 ·intro h
  simp only [Af,Bool.and_eq_true] at h
  exact dA.2 (Z56.inj (dA.1 h.2.2.2))
 ·intro h
  rw [dA] at h
  rw [h]
  simp only [eY];rfl
end Z232
namespace Z233
inductive Pt where
 | p0 (a b:aD) (c d:Int)
def pid:Pt->Nat
 | .p0 ..=>4
def cg:Pt->List V
 | .p0 a b c d=>[.sl none 123 a,.sl none 123 b,.int .i64 c,.int .i64 d]
def bZ:Pt->List aZ
 | .p0 a b c d=>[]
def step (J:Pt->aK):Pt->aK
 | .p0 a b c d=>(cond (decide (d<c)) (m2 d (b.length:Int) (m2 d (a.length:Int) (call (Z232.R ((aT.at b (toNat d)).au,(aT.at a (toNat d)).au)) fun v1=>(cond (!v1) bh (J (.p0 a b c (i64.wrap (d+1)))))))) eF)
def start (J:Pt->aK)(x0 x1:aD):aK:=(cond (decide ((x0.length:Int)>(x1.length:Int))) bh (J (.p0 x1 x0 (x0.length:Int) 0)))
def live:Nat->Live:=fun i=>match i with | 4=>[(1,none),(12,none),(13,none),(14,none)] | _=>[]
def md (a0 a1:List aa):Bool:=(bif (decide ((a0.length:Int)>(a1.length:Int))) then (false:Bool) else (eC (S:=Unit) (β:=Bool) (fun (i2:Nat) (s4:Unit)=>(cond (!(Z232.md ((a0.getD i2 aa.zero).au) ((a1.getD i2 aa.zero).au))) (.inr (false:Bool)) (.inl ()))) (fun (s4:Unit)=>(true:Bool)) a0.length 0 ()))
def gd (a0 a1:List aa):Prop:=(bO (2^21) (fun y:aa=>aa.Sm (2^21) y) a0)/\(bO (2^21) (fun y:aa=>aa.Sm (2^21) y) a1)
def R:=RR (p2 gd) (u2 md)
def aq {a0 a1}(h:gd a0 a1):R ((a0.map aa.row),(a1.map aa.row))=some (md a0 a1):=aR (a:=(a0,a1)) h
def aW:=CN [pL 123,pL 123] oB RT.dec R
def bB (a0)(a1)(hg:gd a0 a1):∃n,start (iter step n) (a0.map aa.row) (a1.map aa.row)=ret (md a0 a1):=by
 obtain ⟨H0,H1⟩:=hg
 unfold start md
 try simp only [SS]
 refine hU ret (fun _=>⟨0,rfl⟩) (fun c1=>?_)
 have dc1:=c1
 try simp only [DC] at dc1
 have Bh3:a0.length<=maxLen:=(by
   have:=(H0).1
   try simp only [maxLen] at *
   omega)
 refine dR (p:=Pt.p0 (a1.map aa.row) (a0.map aa.row) (a0.length:Int) 0) fz ?_
 refine cu (pt:=fun (i2:Nat) (s4:Unit)=>Pt.p0 (a1.map aa.row) (a0.map aa.row) (a0.length:Int) (i2:Int)) (s:=(():Unit)) (out:=ret) (fun _ _=>True) (fun J i2 s4 h3 hih3=>?_) (fun s4 hih3=>?_) trivial
 ·simp only [step,SS]
  have bb_:=Bh3
  simp only [maxLen] at bb_
  have:=(H0).1
  refine bD.yes (by apply decide_eq_true;omega) ?_
  refine bD.yes aJ ?_
  refine bD.yes (aL h3) ?_
  refine bD.yes aJ ?_
  refine bD.yes (have:=(H1).1;dt) ?_
  refine cr (Z232.aq ⟨(bO.getD (z:=aa.zero) H0 h3).1,(bO.getD (z:=aa.zero) H1 (by first | assumption | omega | (simp (disch:=omega) only [wi];omega) | (simp;omega))).1⟩) ?_
  refine bD.bif (fun _=>bD.inr rfl) (fun c5=>?_)
  refine bD.inl trivial ?_
  rw [aI h3 Bh3]
  all_goals exact fz
 ·simp only [step,SS]
  have:=(H0).1
  refine dF (by apply decide_eq_false;omega) ?_
  refine ⟨0,?_⟩
  all_goals exact fz
def af:cG 88 aW:=L2 29 pid cg bZ live step start mix aF bB (.cons Z232.af .nil) Tryz.func88
def br (a0 a1:List aa):md a0 a1=Z103.md a0 a1:=by
 unfold md Z103.md
 first
 | (simp only [Z232.md_eq,Z102.md_eq];done)
 | (simp only [Z232.md_eq,Z102.md_eq];rfl)
 | rfl
end Z233
namespace Z234
def F (x0:bt)(x1:aD):aK:=(call (Z179.R x1) fun v1=>(cond (!v1) (ret (6:Int)) (cm (decide ((0:Int)<(x1.length:Int))) (call (Z231.R (x0,(aT.at x1 0).au.bz)) fun v2=>(cond (decide (v2<0)) (ret (1:Int)) (m2 v2 (x0.aH.length:Int) (call (Z233.R ((oT x0.aH (toNat v2)),x1)) fun v3=>(m2 v2 (x0.aH.length:Int) (call (Z233.R (x1,(oT x0.aH (toNat v2)))) fun v4=>(cond v3 (cond v4 (ret (2:Int)) (cond v3 (ret (3:Int)) (cond v4 (ret (4:Int)) (ret (5:Int))))) (cond v3 (ret (3:Int)) (cond v4 (ret (4:Int)) (ret (5:Int))))))))))))))
def md (a0:aj)(a1:List aa):Int:=(cond (!(Z179.md a1)) (6:Int) (cond (decide ((Z231.md a0 (((a1.getD 0 aa.zero).au).bz))<0)) (1:Int) (cond (Z233.md (a0.aH.getD (toNat (Z231.md a0 (((a1.getD 0 aa.zero).au).bz))) []) a1) (cond (Z233.md a1 (a0.aH.getD (toNat (Z231.md a0 (((a1.getD 0 aa.zero).au).bz))) [])) (2:Int) (cond (Z233.md (a0.aH.getD (toNat (Z231.md a0 (((a1.getD 0 aa.zero).au).bz))) []) a1) (3:Int) (cond (Z233.md a1 (a0.aH.getD (toNat (Z231.md a0 (((a1.getD 0 aa.zero).au).bz))) [])) (4:Int) (5:Int)))) (cond (Z233.md (a0.aH.getD (toNat (Z231.md a0 (((a1.getD 0 aa.zero).au).bz))) []) a1) (3:Int) (cond (Z233.md a1 (a0.aH.getD (toNat (Z231.md a0 (((a1.getD 0 aa.zero).au).bz))) [])) (4:Int) (5:Int))))))
def gd (a0:aj)(a1:List aa):Prop:=(aj.Sm (2^21) a0)/\(bO (2^21) (fun y:aa=>aa.Sm (2^21) y) a1)
def R:=RR (p2 gd) (u2 md)
def aq {a0 a1}(h:gd a0 a1):R ((aj.r a0),(a1.map aa.row))=some (md a0 a1):=aR (a:=(a0,a1)) h
def aW:=CN [.agg rU,pL 123] oI RT.dec R
def bB (a0)(a1)(hg:gd a0 a1):F (aj.r a0) (a1.map aa.row)=ret (md a0 a1):=by
 obtain ⟨H0,H1⟩:=hg
 unfold F md
 try simp only [SS]
 refine ct (Z179.aq H1) ?_
 refine ay ret (fun _=>rfl) (fun c1=>?_)
 have dc1:=c1
 try simp only [DC] at dc1
 try have tc1:=Z179.tr (by simpa using c1)
 refine ak (have:=(H1).1;dt) ?_
 refine ct (Z231.aq H0) ?_
 have fv2_:=Z231.fa a0 (((a1.getD 0 aa.zero).au).bz)
 refine ay ret (fun _=>rfl) (fun c2=>?_)
 have dc2:=c2
 try simp only [DC] at dc2
 refine ak dt ?_
 refine ak (have:=(H0.1).1;dt) ?_
 refine ct (Z233.aq ⟨(bO.getD (z:=[]) H0.1 (by first | assumption | omega | (simp (disch:=omega) only [wi];omega) | (simp;omega))),H1⟩) ?_
 refine ak dt ?_
 refine ak (have:=(H0.1).1;dt) ?_
 refine ct (Z233.aq ⟨H1,(bO.getD (z:=[]) H0.1 (by first | assumption | omega | (simp (disch:=omega) only [wi];omega) | (simp;omega)))⟩) ?_
 refine ay ret (fun c3=>?_) (fun c3=>?_)
 ·refine ay ret (fun _=>rfl) (fun c4=>?_)
  refine ay ret (fun _=>rfl) (fun c5=>?_)
  refine ay ret (fun _=>rfl) (fun _=>rfl)
 ·refine ay ret (fun _=>rfl) (fun c7=>?_)
  refine ay ret (fun _=>rfl) (fun _=>rfl)
def af:cG 90 aW:=W2 43 F mix aF bB (.cons Z179.af (.cons Z231.af (.cons Z233.af .nil))) Tryz.func90
def fa (a0:aj)(a1:List aa):(md a0 a1=3->1<=a1.length/\0<=Z231.md a0 (a1.getD 0 aa.zero).au.bz)/\(md a0 a1=5->1<=a1.length/\0<=Z231.md a0 (a1.getD 0 aa.zero).au.bz):=by
 unfold md
 cases h:Z179.md a1
 ·exact ⟨fun h=>by simp at h,fun h=>by simp at h⟩
 ·have t:=Z179.tr h
  cases hf:decide (Z231.md a0 ((a1.getD 0 aa.zero).au.bz)<0)
  ·have:=of_decide_eq_false hf
   exact ⟨fun _=>⟨t.1,by omega⟩,fun _=>⟨t.1,by omega⟩⟩
  ·exact ⟨fun h=>by simp at h,fun h=>by simp at h⟩
def br (a0:aj)(a1:List aa):md a0 a1=Z104.md a0 a1:=by
 unfold md Z104.md
 first
 | (simp only [Z179.br,Z231.br,Z233.br];done)
 | (simp only [Z179.br,Z231.br,Z233.br];rfl)
 | rfl
end Z234
namespace Z235
inductive Pt where
 | p0 (a b:aD) (c d e f g h i j k l m n o:Int) (p:Bool) (q s t u v w y z w24 w25 w26 w27:Int) (w28:Bool) (w29 w30 w31 w32 w33 w34 w35 w36 w37 w38 w39 w40:Int) (w41:Bool)
def pid:Pt->Nat
 | .p0 ..=>4
def cg:Pt->List V
 | .p0 a b c d e f g h i j k l m n o p q s t u v w y z w24 w25 w26 w27 w28 w29 w30 w31 w32 w33 w34 w35 w36 w37 w38 w39 w40 w41=>[.sl none 123 a,.sl none 123 b,.dy 0 0,.int .i64 c]
def bZ:Pt->List aZ
 | .p0 a b c d e f g h i j k l m n o p q s t u v w y z w24 w25 w26 w27 w28 w29 w30 w31 w32 w33 w34 w35 w36 w37 w38 w39 w40 w41=>[.box [.int .i64 d,.int .i64 e,.int .i64 f,.int .i64 g,.int .i64 h,.int .i64 i,.int .i64 j,.int .i64 k,.nil,.int .i64 l,.nil,.int .i64 m,.int .i64 n,.nil,.int .i64 o,.bool p,.nil,.int .i64 q,.int .i64 s,.int .i64 t,.int .i64 u,.int .i64 v,.int .i64 w,.int .i64 y,.int .i64 z,.nil,.int .i64 w24,.nil,.int .i64 w25,.int .i64 w26,.nil,.int .i64 w27,.bool w28,.nil,.int .i64 w29,.int .i64 w30,.int .i64 w31,.int .i64 w32,.int .i64 w33,.int .i64 w34,.int .i64 w35,.int .i64 w36,.nil,.int .i64 w37,.nil,.int .i64 w38,.int .i64 w39,.nil,.int .i64 w40,.bool w41,.nil]]
def step (J:Pt->aK):Pt->aK
 | .p0 a b c d e f g h i j k l m n o p q s t u v w y z w24 w25 w26 w27 w28 w29 w30 w31 w32 w33 w34 w35 w36 w37 w38 w39 w40 w41=>(m2 c (a.length:Int) (m2 c (b.length:Int) (call (Z232.R ((aT.at a (toNat c)).au,(aT.at b (toNat c)).au)) fun v1=>(cond v1 (J (.p0 a b (i64.wrap (c+1)) d e f g h i j k l m n o p q s t u v w y z w24 w25 w26 w27 w28 w29 w30 w31 w32 w33 w34 w35 w36 w37 w38 w39 w40 w41)) (m2 c (a.length:Int) (call (Z131.R (aT.at a (toNat c))) fun v2=>(m2 c (b.length:Int) (call (Z131.R (aT.at b (toNat c))) fun v3=>(cond (decide (c>0)) (cm (decide ((0:Int)<=(i64.wrap (c - 1)))) (cm (decide ((i64.wrap (c - 1))<(a.length:Int))) (call (Z131.R (aT.at a (toNat (i64.wrap (c - 1))))) fun v4=>ret (((⟨v4,v2,v3⟩:bL),true):bL×Bool)))) (ret (((⟨(⟨(⟨0,0,0,0,0,0,0,0,(⟨[],0⟩:bF),(⟨[],0⟩:bF),0,(⟨[],0⟩:bF),false⟩:ck),[]⟩:aT),v2,v3⟩:bL),true):bL×Bool)))))))))))
def start (J:Pt->aK)(x0 x1:aD):aK:=(call (Z179.R x0) fun v1=>(cond (!v1) (ret (((⟨(⟨(⟨0,0,0,0,0,0,0,0,(⟨[],0⟩:bF),(⟨[],0⟩:bF),0,(⟨[],0⟩:bF),false⟩:ck),[]⟩:aT),(⟨(⟨0,0,0,0,0,0,0,0,(⟨[],0⟩:bF),(⟨[],0⟩:bF),0,(⟨[],0⟩:bF),false⟩:ck),[]⟩:aT),(⟨(⟨0,0,0,0,0,0,0,0,(⟨[],0⟩:bF),(⟨[],0⟩:bF),0,(⟨[],0⟩:bF),false⟩:ck),[]⟩:aT)⟩:bL),false):bL×Bool)) (call (Z179.R x1) fun v2=>(cond (!v2) (ret (((⟨(⟨(⟨0,0,0,0,0,0,0,0,(⟨[],0⟩:bF),(⟨[],0⟩:bF),0,(⟨[],0⟩:bF),false⟩:ck),[]⟩:aT),(⟨(⟨0,0,0,0,0,0,0,0,(⟨[],0⟩:bF),(⟨[],0⟩:bF),0,(⟨[],0⟩:bF),false⟩:ck),[]⟩:aT),(⟨(⟨0,0,0,0,0,0,0,0,(⟨[],0⟩:bF),(⟨[],0⟩:bF),0,(⟨[],0⟩:bF),false⟩:ck),[]⟩:aT)⟩:bL),false):bL×Bool)) (cm (decide ((0:Int)<(x0.length:Int))) (cm (decide ((0:Int)<(x1.length:Int))) (cond ((aT.at x0 0).au.bz != (aT.at x1 0).au.bz) (ret (((⟨(⟨(⟨0,0,0,0,0,0,0,0,(⟨[],0⟩:bF),(⟨[],0⟩:bF),0,(⟨[],0⟩:bF),false⟩:ck),[]⟩:aT),(⟨(⟨0,0,0,0,0,0,0,0,(⟨[],0⟩:bF),(⟨[],0⟩:bF),0,(⟨[],0⟩:bF),false⟩:ck),[]⟩:aT),(⟨(⟨0,0,0,0,0,0,0,0,(⟨[],0⟩:bF),(⟨[],0⟩:bF),0,(⟨[],0⟩:bF),false⟩:ck),[]⟩:aT)⟩:bL),false):bL×Bool)) (call (Z233.R (x0,x1)) fun v3=>(cond v3 (ret (((⟨(⟨(⟨0,0,0,0,0,0,0,0,(⟨[],0⟩:bF),(⟨[],0⟩:bF),0,(⟨[],0⟩:bF),false⟩:ck),[]⟩:aT),(⟨(⟨0,0,0,0,0,0,0,0,(⟨[],0⟩:bF),(⟨[],0⟩:bF),0,(⟨[],0⟩:bF),false⟩:ck),[]⟩:aT),(⟨(⟨0,0,0,0,0,0,0,0,(⟨[],0⟩:bF),(⟨[],0⟩:bF),0,(⟨[],0⟩:bF),false⟩:ck),[]⟩:aT)⟩:bL),false):bL×Bool)) (call (Z233.R (x1,x0)) fun v4=>(cond v4 (ret (((⟨(⟨(⟨0,0,0,0,0,0,0,0,(⟨[],0⟩:bF),(⟨[],0⟩:bF),0,(⟨[],0⟩:bF),false⟩:ck),[]⟩:aT),(⟨(⟨0,0,0,0,0,0,0,0,(⟨[],0⟩:bF),(⟨[],0⟩:bF),0,(⟨[],0⟩:bF),false⟩:ck),[]⟩:aT),(⟨(⟨0,0,0,0,0,0,0,0,(⟨[],0⟩:bF),(⟨[],0⟩:bF),0,(⟨[],0⟩:bF),false⟩:ck),[]⟩:aT)⟩:bL),false):bL×Bool)) (J (.p0 x0 x1 0 0 0 0 0 0 0 0 0 0 0 0 0 false 0 0 0 0 0 0 0 0 0 0 0 0 false 0 0 0 0 0 0 0 0 0 0 0 0 false)))))))))))))
def live:Nat->Live:=fun i=>match i with | 4=>[(0,none),(1,none),(4,none),(6,none)] | _=>[]
def pt (a b:aD)(c:Int):Pt:=Pt.p0 a b c 0 0 0 0 0 0 0 0 0 0 0 0 false 0 0 0 0 0 0 0 0 0 0 0 0 false 0 0 0 0 0 0 0 0 0 0 0 0 false
def md (a0 a1:List aa):aB×Bool:=(cond (!(Z179.md a0)) (aB.zero,false) (cond (!(Z179.md a1)) (aB.zero,false) (cond (((a0.getD 0 aa.zero).au).bz != ((a1.getD 0 aa.zero).au).bz) (aB.zero,false) (cond (Z233.md a0 a1) (aB.zero,false) (cond (Z233.md a1 a0) (aB.zero,false) (Z105.uM a0 a1 (Z105.fk a0 a1),true))))))
def gd (a0 a1:List aa):Prop:=bO (2^21) (fun y:aa=>aa.Sm (2^21) y) a0/\bO (2^21) (fun y:aa=>aa.Sm (2^21) y) a1
def R:=RR (p2 gd) (u2 md)
def aq {a0 a1}(h:gd a0 a1):R ((a0.map aa.row),(a1.map aa.row))=some ((aB.r (md a0 a1).1),(md a0 a1).2):=aR (a:=(a0,a1)) h
def aW:=CN [pL 123,pL 123] (.iW [(true,f280),(false,[fB])]) RT.dec R
def bB (a0)(a1)(hg:gd a0 a1):∃n,start (iter step n) (a0.map aa.row) (a1.map aa.row)=ret ((aB.r (md a0 a1).1),(md a0 a1).2):=by
 unfold gd at hg
 obtain ⟨H0,H1⟩:=hg
 have hl0:=H0.1
 have hl1:=H1.1
 have key:Z105.fk a0 a1<a0.length->Z105.fk a0 a1<a1.length->Z102.md (a0.getD (Z105.fk a0 a1) aa.zero).au (a1.getD (Z105.fk a0 a1) aa.zero).au=false->∀d k,k+d=Z105.fk a0 a1->∃n,iter step n (pt (a0.map aa.row) (a1.map aa.row) (k:Int))=ret ((aB.r (Z105.uM a0 a1 (Z105.fk a0 a1)),true):bL×Bool):=by
  intro hn0 hn1 hne d
  have hR:∀k,k<a0.length->k<a1.length->Z232.R (aG.r (a0.getD k aa.zero).au,aG.r (a1.getD k aa.zero).au)=some (Z102.md (a0.getD k aa.zero).au (a1.getD k aa.zero).au):=by
   intro k h0 h1
   rw [Z232.aq ⟨(bO.getD (z:=aa.zero) H0 h0).1,(bO.getD (z:=aa.zero) H1 h1).1⟩,Z232.md_eq,Z102.md_eq]
  induction d with
  | zero=>
   intro k hk
   obtain rfl:k=Z105.fk a0 a1:=by omega
   generalize hkk:Z105.fk a0 a1=k at hn0 hn1 hne ⊢
   refine ⟨1,?_⟩
   show step (iter step 0) _=_
   have q1:(0:Int)<=(k:Int):=by omega
   have q2:(k:Int)<(a0.length:Int):=by omega
   have q3:(k:Int)<(a1.length:Int):=by omega
   simp only [pt,step,MM,S0,aa.rs,aG.rs,q1,q2,q3,decide_true,bq]
   rw [call_eq (hR k hn0 hn1),hne,bA,call_eq (Z131.aq (a0:=a0.getD k aa.zero) (bO.getD (z:=aa.zero) H0 hn0)),call_eq (Z131.aq (a0:=a1.getD k aa.zero) (bO.getD (z:=aa.zero) H1 hn1))]
   cases k with
   | zero=>rfl
   | succ k=>
    have q4:((k+1:Nat):Int)>0:=by omega
    have q5:i64.wrap (((k+1:Nat):Int) - 1)=(k:Int):=by rw [wi _ (by omega)];omega
    have q6:(0:Int)<=(k:Int):=by omega
    have q7:(k:Int)<(a0.length:Int):=by omega
    simp only [q4,q5,q6,q7,decide_true,bq,S0,aa.rs]
    rw [call_eq (Z131.aq (a0:=a0.getD k aa.zero) (bO.getD (z:=aa.zero) H0 (by omega)))]
    rfl
  | succ d ih=>
   intro k hk
   obtain ⟨n,hn⟩:=ih (k+1) (by omega)
   refine ⟨n+1,?_⟩
   show step (iter step n) _=_
   have q1:(0:Int)<=(k:Int):=by omega
   have q2:(k:Int)<(a0.length:Int):=by omega
   have q3:(k:Int)<(a1.length:Int):=by omega
   simp only [pt,step,MM,S0,aa.rs,aG.rs,q1,q2,q3,decide_true,bq]
   rw [call_eq (hR k (by omega) (by omega)),(Z105.qg a0 a1).1 k (by omega),bq,wi _ (by omega)]
   exact hn
 unfold start md
 simp only [S0,aa.rs,aG.rs]
 refine fo (Z179.md a0) (Z179.aq H0) ?_
 cases hc0:Z179.md a0
 ·exact ⟨0,rfl⟩
 simp only [Bool.not_true,bA]
 refine fo (Z179.md a1) (Z179.aq H1) ?_
 cases hc1:Z179.md a1
 ·exact ⟨0,rfl⟩
 have t0:=Z179.tr hc0
 have t1:=Z179.tr hc1
 simp only [Bool.not_true,bA]
 refine dK (decide_eq_true (by omega)) (dK (decide_eq_true (by omega)) ?_)
 cases ((a0.getD 0 aa.zero).au.bz != (a1.getD 0 aa.zero).au.bz)
 case true=>exact ⟨0,rfl⟩
 simp only [bA]
 refine fo (Z233.md a0 a1) (Z233.aq ⟨H0,H1⟩) ?_
 cases hp0:Z233.md a0 a1
 case true=>exact ⟨0,rfl⟩
 simp only [bA]
 refine fo (Z233.md a1 a0) (Z233.aq ⟨H1,H0⟩) ?_
 cases hp1:Z233.md a1 a0
 case true=>exact ⟨0,rfl⟩
 simp only [bA]
 rw [Z233.br] at hp0 hp1
 obtain ⟨h1,h2,h3⟩:=Z105.lT hp0 hp1
 exact key h1 h2 h3 (Z105.fk a0 a1) 0 (by omega)
def af:cG 243 aW:=L2 74 pid cg bZ live step start mix aF bB (.cons Z179.af (.cons Z233.af (.cons Z232.af (.cons Z131.af .nil)))) Tryz.func243
def fW {a0 a1:List aa}(hg:gd a0 a1):aB.Sm (2^21) ((md a0 a1).1):=by
 unfold gd at hg;unfold md
 have z:aB.Sm (2^21) aB.zero:=⟨⟨⟨bO.nil,bO.nil,bO.nil⟩,bO.nil⟩,⟨⟨bO.nil,bO.nil,bO.nil⟩,bO.nil⟩,⟨⟨bO.nil,bO.nil,bO.nil⟩,bO.nil⟩⟩
 cases Z179.md a0
 ·exact z
 cases Z179.md a1
 ·exact z
 cases ((a0.getD 0 aa.zero).au.bz != (a1.getD 0 aa.zero).au.bz)
 case true=>exact z
 cases h1:Z233.md a0 a1
 case true=>exact z
 cases h2:Z233.md a1 a0
 case true=>exact z
 rw [Z233.br] at h1 h2
 obtain ⟨h3,h4,_⟩:=Z105.lT h1 h2
 exact Z105.wj hg.1 hg.2 h3 h4
def br (a0 a1:List aa):md a0 a1=Z105.md a0 a1:=by
 unfold md Z105.md
 first
 | (simp only [Z179.br,Z233.br,Z232.md_eq,Z102.md_eq];done)
 | (simp only [Z179.br,Z233.br,Z232.md_eq,Z102.md_eq];rfl)
 | rfl
end Z235
namespace Z236
def F (x0:bt)(x1:aD):aK:=(call (Z134.R x0) fun v1=>(call (Z234.R (x0,x1)) fun v2=>(cond (v2==1) (cond (decide ((x0.aH.length:Int)>=8)) (ret ((v1,6):bt×Int)) (call (Z132.R x1) fun v3=>(cm (ff (((v1.aH.length:Int)+1)*24)) (ret (((⟨(v1.aH++[[L.sl v3]]),v1.aY⟩:bt),v2):bt×Int))))) (cond (v2==3) (cm (decide ((0:Int)<(x1.length:Int))) (call (Z231.R (x0,(aT.at x1 0).au.bz)) fun v4=>(call (Z132.R x1) fun v5=>(m2 v4 (v1.aH.length:Int) (ret (((⟨(List.set v1.aH (toNat v4) [L.sl v5]),v1.aY⟩:bt),v2):bt×Int)))))) (cond (v2==5) (cm (decide ((0:Int)<(x1.length:Int))) (call (Z231.R (x0,(aT.at x1 0).au.bz)) fun v6=>(m2 v6 (x0.aH.length:Int) (call (Z235.R ((oT x0.aH (toNat v6)),x1)) fun v7=>(cond v7.2 (cond (decide ((x0.aY.length:Int)<8)) (cm (ff (((v1.aY.length:Int)+1)*600)) (ret (((⟨v1.aH,(v1.aY++[(bL.enc v7.1)])⟩:bt),v2):bt×Int))) (ret ((v1,v2):bt×Int))) (ret ((v1,v2):bt×Int))))))) (ret ((v1,v2):bt×Int)))))))
def md (a0:aj)(a1:List aa):aj×Int:=(cond ((Z234.md a0 a1)==1) (cond (decide ((a0.aH.length:Int)>=8)) (a0,6) ((⟨(a0.aH++[a1]),a0.aY⟩:aj),(Z234.md a0 a1))) (cond ((Z234.md a0 a1)==3) ((⟨(List.set a0.aH (toNat (Z231.md a0 (((a1.getD 0 aa.zero).au).bz))) a1),a0.aY⟩:aj),(Z234.md a0 a1)) (cond ((Z234.md a0 a1)==5) (cond ((Z235.md (a0.aH.getD (toNat (Z231.md a0 (((a1.getD 0 aa.zero).au).bz))) []) a1).2) (cond (decide ((a0.aY.length:Int)<8)) ((⟨a0.aH,(a0.aY++[(Z235.md (a0.aH.getD (toNat (Z231.md a0 (((a1.getD 0 aa.zero).au).bz))) []) a1).1])⟩:aj),(Z234.md a0 a1)) (a0,(Z234.md a0 a1))) (a0,(Z234.md a0 a1))) (a0,(Z234.md a0 a1)))))
def gd (a0:aj)(a1:List aa):Prop:=(aj.Sm (2^21) a0)/\(bO (2^21) (fun y:aa=>aa.Sm (2^21) y) a1)
def R:=RR (p2 gd) (u2 md)
def aq {a0 a1}(h:gd a0 a1):R ((aj.r a0),(a1.map aa.row))=some ((aj.r (md a0 a1).1),(md a0 a1).2):=aR (a:=(a0,a1)) h
def aW:=CN [.agg rU,pL 123] (.iW [(true,f37),(false,[fI])]) RT.dec R
def bB (a0)(a1)(hg:gd a0 a1):F (aj.r a0) (a1.map aa.row)=ret ((aj.r (md a0 a1).1),(md a0 a1).2):=by
 obtain ⟨H0,H1⟩:=hg
 unfold F md
 try simp only [SS]
 refine ct (Z134.aq H0) ?_
 try simp only [SS]
 refine ct (Z234.aq ⟨H0,H1⟩) ?_
 have fv2_:=Z234.fa a0 a1
 refine ay (fun b:aj×Int=>ret (((aj.r b.1),b.2):bt×Int)) (fun c1=>?_) (fun c1=>?_)
 ·have dc1:=c1
  try simp only [DC] at dc1
  refine ay (fun b:aj×Int=>ret (((aj.r b.1),b.2):bt×Int)) (fun c2=>?_) (fun c2=>?_)
  ·all_goals exact fz
  ·have dc2:=c2
   try simp only [DC] at dc2
   refine ct (Z132.aq H1) ?_
   try simp only [SS]
   refine ak (have:=(H0.1).1;lm) ?_
   all_goals exact fz
 ·have dc1:=c1
  try simp only [DC] at dc1
  refine ay (fun b:aj×Int=>ret (((aj.r b.1),b.2):bt×Int)) (fun c3=>?_) (fun c3=>?_)
  ·have dc3:=c3
   try simp only [DC] at dc3
   refine ak (have:=(H1).1;dt) ?_
   refine ct (Z231.aq H0) ?_
   have fv4_:=Z231.fa a0 (((a1.getD 0 aa.zero).au).bz)
   refine ct (Z132.aq H1) ?_
   try simp only [SS]
   refine ak dt ?_
   refine ak (have:=(H0.1).1;dt) ?_
   all_goals exact fz
  ·have dc3:=c3
   try simp only [DC] at dc3
   refine ay (fun b:aj×Int=>ret (((aj.r b.1),b.2):bt×Int)) (fun c4=>?_) (fun c4=>?_)
   ·have dc4:=c4
    try simp only [DC] at dc4
    refine ak (have:=(H1).1;dt) ?_
    refine ct (Z231.aq H0) ?_
    have fv6_:=Z231.fa a0 (((a1.getD 0 aa.zero).au).bz)
    refine ak dt ?_
    refine ak (have:=(H0.1).1;dt) ?_
    refine ct (Z235.aq ⟨(bO.getD (z:=[]) H0.1 (by first | assumption | omega | (simp (disch:=omega) only [wi];omega) | (simp;omega))),H1⟩) ?_
    try simp only [SS]
    refine ay (fun b:aj×Int=>ret (((aj.r b.1),b.2):bt×Int)) (fun c5=>?_) (fun c5=>?_)
    ·refine ay (fun b:aj×Int=>ret (((aj.r b.1),b.2):bt×Int)) (fun c6=>?_) (fun c6=>?_)
     ·have dc6:=c6
      try simp only [DC] at dc6
      refine ak (have:=(H0.2).1;lm) ?_
      all_goals exact fz
     ·all_goals exact fz
    ·all_goals exact fz
   ·all_goals exact fz
def af:cG 82 aW:=W2 77 F mix aF bB (.cons Z134.af (.cons Z234.af (.cons Z132.af (.cons Z231.af (.cons Z235.af .nil))))) Tryz.func82
def fW {a0:aj}{a1:List aa}(hg:gd a0 a1):aj.Sm (2^21) ((md a0 a1).1):=by
 unfold gd at hg;unfold md
 obtain ⟨⟨h1,h2⟩,h3⟩:=hg
 simp only [Bool.cond_eq_ite]
 repeat' split
 all_goals (try simp only [decide_eq_true_eq,ge_iff_le] at *)
 all_goals first
  | exact ⟨h1,h2⟩
  | exact ⟨bO.app (a:=7) (b:=1) ⟨by omega,h1.2⟩ (bO.one h3) (by decide),h2⟩
  | exact ⟨bO.set h1 h3,h2⟩
  | exact ⟨h1,bO.app (a:=7) (b:=1) ⟨by omega,h2.2⟩ (bO.one (Z235.fW ⟨bO.wg h1 bO.nil,h3⟩)) (by decide)⟩
def br (a0:aj)(a1:List aa):md a0 a1=Z106.md a0 a1:=by
 unfold md Z106.md
 first
 | (simp only [Z234.br,Z231.br,Z235.br];done)
 | (simp only [Z234.br,Z231.br,Z235.br];rfl)
 | rfl
end Z236
namespace Z237
inductive Pt where
 | p0 (a b:aD) (c d:Int)
def pid:Pt->Nat
 | .p0 ..=>4
def cg:Pt->List V
 | .p0 a b c d=>[.sl none 428 a,.sl none 428 b,.int .i64 c,.int .i64 d]
def bZ:Pt->List aZ
 | .p0 a b c d=>[]
def step (J:Pt->aK):Pt->aK
 | .p0 a b c d=>(cond (decide (d<c)) (m2 d (a.length:Int) (m2 d (b.length:Int) (cond (!((((bw.at a (toNat d)).gW:Int)==(bw.at b (toNat d)).gW)&&((((bw.at a (toNat d)).jD:Int)==(bw.at b (toNat d)).jD)&&true))) bh (J (.p0 a b c (i64.wrap (d+1))))))) eF)
def start (J:Pt->aK)(x0 x1:aD):aK:=(cond ((x0.length:Int) != (x1.length:Int)) bh (J (.p0 x0 x1 (x0.length:Int) 0)))
def live:Nat->Live:=fun i=>match i with | 4=>[(0,none),(1,none),(12,none),(13,none)] | _=>[]
def md (a0 a1:List bw):Bool:=(bif ((a0.length:Int) != (a1.length:Int)) then (false:Bool) else (eC (S:=Unit) (β:=Bool) (fun (i2:Nat) (s4:Unit)=>(cond (!((((a0.getD i2 bw.zero).gW:Int)==(a1.getD i2 bw.zero).gW)&&((((a0.getD i2 bw.zero).jD:Int)==(a1.getD i2 bw.zero).jD)&&true))) (.inr (false:Bool)) (.inl ()))) (fun (s4:Unit)=>(true:Bool)) a0.length 0 ()))
def gd (a0 a1:List bw):Prop:=(bO (2^21) (fun y:bw=>bw.Sm (2^21) y) a0)/\(bO (2^21) (fun y:bw=>bw.Sm (2^21) y) a1)
def R:=RR (p2 gd) (u2 md)
def aq {a0 a1}(h:gd a0 a1):R ((a0.map bw.row),(a1.map bw.row))=some (md a0 a1):=aR (a:=(a0,a1)) h
def aW:=CN [pL 428,pL 428] oB RT.dec R
def bB (a0)(a1)(hg:gd a0 a1):∃n,start (iter step n) (a0.map bw.row) (a1.map bw.row)=ret (md a0 a1):=by
 obtain ⟨H0,H1⟩:=hg
 unfold start md
 try simp only [SS]
 refine hU ret (fun _=>⟨0,rfl⟩) (fun c1=>?_)
 have dc1:=c1
 try simp only [DC] at dc1
 have Bh3:a0.length<=maxLen:=(by
   have:=(H0).1
   try simp only [maxLen] at *
   omega)
 refine dR (p:=Pt.p0 (a0.map bw.row) (a1.map bw.row) (a0.length:Int) 0) fz ?_
 refine cu (pt:=fun (i2:Nat) (s4:Unit)=>Pt.p0 (a0.map bw.row) (a1.map bw.row) (a0.length:Int) (i2:Int)) (s:=(():Unit)) (out:=ret) (fun _ _=>True) (fun J i2 s4 h3 hih3=>?_) (fun s4 hih3=>?_) trivial
 ·simp only [step,SS]
  have bb_:=Bh3
  simp only [maxLen] at bb_
  have:=(H0).1
  refine bD.yes (by apply decide_eq_true;omega) ?_
  refine bD.yes aJ ?_
  refine bD.yes (aL h3) ?_
  refine bD.yes aJ ?_
  refine bD.yes (have:=(H1).1;dt) ?_
  refine bD.bif (fun _=>bD.inr rfl) (fun c5=>?_)
  refine bD.inl trivial ?_
  rw [aI h3 Bh3]
  all_goals exact fz
 ·simp only [step,SS]
  have:=(H0).1
  refine dF (by apply decide_eq_false;omega) ?_
  refine ⟨0,?_⟩
  all_goals exact fz
def af:cG 453 aW:=L2 26 pid cg bZ live step start mix aF bB .nil Tryz.func453
def md_eq (a0 a1:List bw):md a0 a1=eo a0 a1:=by
 unfold md
 refine kA (bw.zero) (fun i s h h2=>?_) (fun s=>rfl)
 simp only [bne,fq,bool_beq,eW,bw.eqc]
 cases eo _ _<;>rfl
end Z237
namespace Z238
def F (x0 x1:aT):aK:=(call (Z232.R (x0.au,x1.au)) fun v1=>(cond v1 (call (Z237.R (x0.cw,x1.cw)) fun v2=>ret (v2:Bool)) bh))
def md (a0 a1:aa):Bool:=(cond (Z232.md a0.au a1.au) ((Z237.md a0.cw a1.cw):Bool) (false:Bool))
def gd (a0 a1:aa):Prop:=(aa.Sm (2^21) a0)/\(aa.Sm (2^21) a1)
def R:=RR (p2 gd) (u2 md)
def aq {a0 a1}(h:gd a0 a1):R ((aa.r a0),(aa.r a1))=some (md a0 a1):=aR (a:=(a0,a1)) h
def aW:=CN [.agg kT,.agg kT] oB RT.dec R
def bB (a0)(a1)(hg:gd a0 a1):F (aa.r a0) (aa.r a1)=ret (md a0 a1):=by
 obtain ⟨H0,H1⟩:=hg
 unfold F md
 try simp only [SS]
 refine ct (Z232.aq ⟨H0.1,H1.1⟩) ?_
 refine ay ret (fun c1=>?_) (fun _=>rfl)
 refine ct (Z237.aq ⟨H0.2,H1.2⟩) ?_
 all_goals exact fz
def af:cG 370 aW:=W2 17 F mix aF bB (.cons Z232.af (.cons Z237.af .nil)) Tryz.func370
def md_eq (a0 a1:aa):md a0 a1=eo a0 a1:=by
 unfold md
 cases a0;cases a1
 rw [Bool.eq_iff_iff]
 simp [dA,eW,aa.mk.injEq,Z232.md_eq,Z237.md_eq]
 try (constructor<;>(intro h;simp_all))
end Z238
namespace Z239
def F (x0:bL):aK:=(call (Z232.R (x0.fA.au,x0.fB.au)) fun v1=>(cond v1 bh (call (Z238.R (x0.aS,(⟨(⟨0,0,0,0,0,0,0,0,(⟨[],0⟩:bF),(⟨[],0⟩:bF),0,(⟨[],0⟩:bF),false⟩:ck),[]⟩:aT))) fun v2=>(cond v2 (call (Z167.R x0.fA) fun v3=>(cond v3 (call (Z167.R x0.fB) fun v4=>(cond v4 (ret ((x0.fA.au.bz==x0.fB.au.bz):Bool)) bh)) bh)) (call (Z177.R (x0.aS.au,x0.fA)) fun v5=>(cond v5 (call (Z177.R (x0.aS.au,x0.fB)) fun v6=>ret (v6:Bool)) bh))))))
def md (a0:aB):Bool:=(cond (Z232.md a0.fA.au a0.fB.au) (false:Bool) (cond (Z238.md a0.aS (⟨(⟨0,0,0,0,0,0,0,0,(⟨[],0⟩:aO),(⟨[],0⟩:aO),0,(⟨[],0⟩:aO),false⟩:aG),[]⟩:aa)) (cond (Z167.md a0.fA) (cond (Z167.md a0.fB) ((a0.fA.au.bz==a0.fB.au.bz):Bool) (false:Bool)) (false:Bool)) (cond (Z177.md a0.aS.au a0.fA) ((Z177.md a0.aS.au a0.fB):Bool) (false:Bool))))
def gd (a0:aB):Prop:=(aB.Sm (2^21) a0)
def R:=RR gd md
def aq {a0}(h:gd a0):R (aB.r a0)=some (md a0):=aR (a:=a0) h
def aW:=CN [.agg sV] oB RT.dec R
def bB (a0)(hg:gd a0):F (aB.r a0)=ret (md a0):=by
 unfold gd at hg
 have H0:=hg
 unfold F md
 try simp only [SS]
 refine ct (Z232.aq ⟨H0.2.1.1,H0.2.2.1⟩) ?_
 refine ay ret (fun _=>rfl) (fun c1=>?_)
 refine ct (Z238.aq (a1:=(⟨(⟨0,0,0,0,0,0,0,0,(⟨[],0⟩:aO),(⟨[],0⟩:aO),0,(⟨[],0⟩:aO),false⟩:aG),[]⟩:aa)) ⟨H0.1,⟨⟨bO.nil,bO.nil,bO.nil⟩,bO.nil⟩⟩) ?_
 refine ay ret (fun c2=>?_) (fun c2=>?_)
 ·refine ct (Z167.aq H0.2.1) ?_
  refine ay ret (fun c3=>?_) (fun _=>rfl)
  refine ct (Z167.aq H0.2.2) ?_
  refine ay ret (fun c4=>?_) (fun _=>rfl)
  all_goals exact fz
 ·refine ct (Z177.aq ⟨H0.1.1,H0.2.1⟩) ?_
  refine ay ret (fun c5=>?_) (fun _=>rfl)
  refine ct (Z177.aq ⟨H0.1.1,H0.2.2⟩) ?_
  all_goals exact fz
def af:cG 253 aW:=W1 49 F mix aF bB (.cons Z232.af (.cons Z238.af (.cons Z167.af (.cons Z177.af .nil)))) Tryz.func253
def br (a0:aB):md a0=Z119.md a0:=by
 unfold md Z119.md
 first
 | (simp only [Z167.br,Z177.br,Z232.md_eq,Z238.md_eq,Z102.md_eq,Z118.md_eq];done)
 | (simp only [Z167.br,Z177.br,Z232.md_eq,Z238.md_eq,Z102.md_eq,Z118.md_eq];rfl)
 | rfl
end Z239
namespace Z240
def F (x0:bL):aK:=(call (Z239.R x0) fun v1=>(cond (!v1) (ret ((-1):Int)) (ret (x0.fA.au.bz:Int))))
def md (a0:aB):Int:=(cond (!(Z239.md a0)) ((-1):Int) (a0.fA.au.bz:Int))
def gd (a0:aB):Prop:=(aB.Sm (2^21) a0)
def R:=RR gd md
def aq {a0}(h:gd a0):R (aB.r a0)=some (md a0):=aR (a:=a0) h
def aW:=CN [.agg sV] oI RT.dec R
def bB (a0)(hg:gd a0):F (aB.r a0)=ret (md a0):=by
 unfold gd at hg
 have H0:=hg
 unfold F md
 try simp only [SS]
 refine ct (Z239.aq H0) ?_
 refine ay ret (fun _=>rfl) (fun c1=>?_)
 all_goals exact fz
def af:cG 257 aW:=W1 10 F mix aF bB (.cons Z239.af .nil) Tryz.func257
def br (a0:aB):md a0=Z120.md a0:=by
 unfold md Z120.md
 first
 | (simp only [Z239.br];done)
 | (simp only [Z239.br];rfl)
 | rfl
end Z240
namespace Z241
def F (x0:bL)(x1:List L):aK:=(call (Z240.R x0) fun v1=>ret ((v1==(gy x1)):Bool))
def pats:List gk:=[.agg [aC,aC,aC,aC,aC,aC,aC,aC,.sl 3,aC,.sl 3,aC,aC,.sl 3,aC,.bool,.sl 428,aC,aC,aC,aC,aC,aC,aC,aC,.sl 3,aC,.sl 3,aC,aC,.sl 3,aC,.bool,.sl 428,aC,aC,aC,aC,aC,aC,aC,aC,.sl 3,aC,.sl 3,aC,aC,.sl 3,aC,.bool,.sl 428],.ptr [aC]]
def res:RP:=.one (.rd (.bool))
def md (a0:aB)(a1:Int):Bool:=(((Z240.md a0)==a1):Bool)
def gd (a0:aB)(a1:Int):Prop:=(aB.Sm (2^21) a0)
def acc (ls:List L):bL×Int:=((bL.dec ls),(gy (cT 1 (aA 51 ls))))
def R:(bL×Int)->Option Bool:=RR (p2 gd) (u2 md)
def aq {a0 a1}(h:gd a0 a1):R ((aB.r a0),a1)=some (md a0 a1):=aR (a:=(a0,a1)) h
def aW:ga:=CN pats res acc R
def bB (a0:aB)(a1:Int)(p1:List L)(e1:a1=(gy p1))(hg:gd a0 a1):F (aB.r a0) p1=ret ((md a0 a1):Bool):=by
 unfold gd at hg
 have H0:=hg
 unfold F md
 try simp only [SS,<-e1]
 refine ct (Z240.aq H0) ?_
 all_goals exact fz
def oR (ls:List L)(a:aB×Int)(e:acc ls=Im.im a)(hg:(p2 gd) a):∃n:Nat,F (bL.dec ls) (cT 1 (aA 51 ls))=ret (Im.im ((u2 md) a)):=by
 have e0:(aB.r a.1)=(bL.dec ls):=(congrArg (fun x=>x.1) e.symm)
 have hn:=bB a.1 a.2 (cT 1 (aA 51 ls)) (congrArg (fun x=>x.2) e.symm) hg
 refine ⟨0,?_⟩
 rw [<-e0]
 exact hn
def af:cG 256 aW:=VP (live:=fun _=>[]) (nt:=8) (accr:=fun ls=>((bL.dec ls),(cT 1 (aA 51 ls)))) (run:=fun _ x=>F x.1 x.2) mix aF (.cons Z240.af .nil) Tryz.func256 (by kernel_rfl) (fun _ _=>by kernel_rfl) (fun ls a _ e hg=>oR ls a e hg)
end Z241
namespace Z242
inductive Pt where
 | p0 (a:aD) (b:List L) (c d:Int)
def pid:Pt->Nat
 | .p0 ..=>2
def cg:Pt->List V
 | .p0 a b c d=>[.sl none 280 a,.fn 256 [.dL none [aC] b 0],.int .i64 c,.int .i64 d]
def bZ:Pt->List aZ
 | .p0 a b c d=>[]
def step (J:Pt->aK):Pt->aK
 | .p0 a b c d=>(cond (decide (d<c)) (m2 d (a.length:Int) (call (Z241.R ((bL.at a (toNat d)),(gy b))) fun v1=>(cond v1 (ret (d:Int)) (J (.p0 a b c (i64.wrap (d+1))))))) (ret ((-1):Int)))
def start (J:Pt->aK)(x0:aD)(x1:List L):aK:=J (.p0 x0 x1 (x0.length:Int) 0)
def live:Nat->Live:=fun i=>match i with | 2=>[(0,none),(1,none),(7,none),(8,none)] | _=>[]
def pats:List gk:=[.rd (.sl 280),.fn 256 [[aC]]]
def res:RP:=.one (.rd (.int .i64))
abbrev E:Env:={ T:=assoc kB,G:=dD [(256,Z241.aW)],nt:=19 }
def step_eq (I:cD)(p:Pt):cV E live I (pid p) (bN Tryz.f371) (fD (live (pid p)) (cg p) (bZ p)) (cE E Tryz.f371 res)=step (fun q=>I (pid q) (cg q) (bZ q)) p:=by
 cases p<;>kernel_rfl
def start_eq (I:cD)(ls:List L):eT E live I (bN Tryz.f371) (cZ pats ls) (cE E Tryz.f371 res)=start (fun q=>I (pid q) (cg q) (bZ q)) (ls.headD .hole).aQ (cT 1 (aA 1 ls)):=by kernel_rfl
def run_eq (n:Nat)(ls:List L):eN E live Tryz.f371 res n (cZ pats ls)=start (iter step n) (ls.headD .hole).aQ (cT 1 (aA 1 ls)):=cy (id:=pid) (vs:=cg) (hs:=bZ) (step:=step) (start:=fun J=>start J (ls.headD .hole).aQ (cT 1 (aA 1 ls))) step_eq (fun I=>start_eq I ls) n
def md (a0:List aB)(a1:Int):Int:=(dJ (S:=Unit) (β:=Int) (fun (i1:Nat) (y1:aB) (s3:Unit)=>(cond (Z241.md y1 a1) (.inr ((i1:Int):Int)) (.inl ()))) (fun (s3:Unit)=>((-1):Int)) 0 a0 ())
def gd (a0:List aB)(a1:Int):Prop:=(bO (2^21) (fun y:aB=>aB.Sm (2^21) y) a0)
def acc (ls:List L):aD×Int:=((ls.headD .hole).aQ,(gy (cT 1 (aA 1 ls))))
def R:(aD×Int)->Option Int:=RR (p2 gd) (u2 md)
def aq {a0 a1}(h:gd a0 a1):R ((a0.map aB.row),a1)=some (md a0 a1):=aR (a:=(a0,a1)) h
def aW:ga:=CN pats res acc R
def bB (a0:List aB)(a1:Int)(p1:List L)(e1:a1=(gy p1))(hg:gd a0 a1):∃n,start (iter step n) (a0.map aB.row) p1=ret ((md a0 a1):Int):=by
 unfold gd at hg
 have H0:=hg
 unfold start md
 try simp only [SS,<-e1]
 have Bh2:a0.length<=maxLen:=(by
   have:=(H0).1
   try simp only [maxLen] at *
   omega)
 refine ex_eq (out:=ret) (dc (z:=aB.zero)) ?_
 refine dR (p:=Pt.p0 (a0.map aB.row) p1 (a0.length:Int) 0) fz ?_
 refine cu (pt:=fun (i1:Nat) (s3:Unit)=>Pt.p0 (a0.map aB.row) p1 (a0.length:Int) (i1:Int)) (s:=(():Unit)) (out:=ret) (fun _ _=>True) (fun J i1 s3 h2 hih2=>?_) (fun s3 hih2=>?_) trivial
 ·simp only [step,SS,<-e1]
  have bb_:=Bh2
  simp only [maxLen] at bb_
  have:=(H0).1
  refine bD.yes (by apply decide_eq_true;omega) ?_
  refine bD.yes aJ ?_
  refine bD.yes (aL h2) ?_
  refine cr (Z241.aq (bO.getD (z:=aB.zero) H0 h2)) ?_
  refine bD.bif (fun c4=>?_) (fun c4=>?_)
  ·refine bD.inr ?_
   all_goals exact fz
  ·refine bD.inl trivial ?_
   rw [aI h2 Bh2]
   all_goals exact fz
 ·simp only [step,SS,<-e1]
  have:=(H0).1
  refine dF (by apply decide_eq_false;omega) ?_
  refine ⟨0,?_⟩
  all_goals exact fz
def oR (ls:List L)(a:List aB×Int)(e:acc ls=Im.im a)(hg:(p2 gd) a):∃n:Nat,start (iter step n) ((ls.headD .hole).aQ) (cT 1 (aA 1 ls))=ret (Im.im ((u2 md) a)):=by
 have e0:(a.1.map aB.row)=(ls.headD .hole).aQ:=(congrArg (fun x=>x.1) e.symm)
 obtain ⟨n,hn⟩:=bB a.1 a.2 (cT 1 (aA 1 ls)) (congrArg (fun x=>x.2) e.symm) hg
 refine ⟨n,?_⟩
 rw [<-e0]
 exact hn
def af:cG 371 aW:=VP (accr:=fun ls=>((ls.headD .hole).aQ,(cT 1 (aA 1 ls)))) (run:=fun n x=>start (iter step n) x.1 x.2) mix aF (.cons Z241.af .nil) Tryz.func371 (by kernel_rfl) run_eq (fun ls a _ e hg=>oR ls a e hg)
def fa (a0:List aB)(a1:Int):-1<=md a0 a1/\md a0 a1<(a0.length:Int):=by
 unfold md
 refine gx ?_ _ _
 all_goals
  intro i x s b h
  revert h
  simp only [Bool.cond_eq_ite]
  repeat' split
  all_goals (intro h;first | (cases h;rfl) | cases h)
def idx_eq (a0:List aB)(a1:Int):md a0 a1=ju (fun y=>Z241.md y a1) 0 a0:=by
 unfold md
 exact ia
end Z242
namespace Z243
def F (x0:aD)(x1:List L):aK:=(call (Z242.R (x0,(gy x1))) fun v1=>ret ((decide (v1>=0)):Bool))
def pats:List gk:=[.rd (.sl 280),.fn 256 [[aC]]]
def res:RP:=.one (.rd (.bool))
def md (a0:List aB)(a1:Int):Bool:=((decide ((Z242.md a0 a1)>=0)):Bool)
def gd (a0:List aB)(a1:Int):Prop:=(bO (2^21) (fun y:aB=>aB.Sm (2^21) y) a0)
def acc (ls:List L):aD×Int:=((ls.headD .hole).aQ,(gy (cT 1 (aA 1 ls))))
def R:(aD×Int)->Option Bool:=RR (p2 gd) (u2 md)
def aq {a0 a1}(h:gd a0 a1):R ((a0.map aB.row),a1)=some (md a0 a1):=aR (a:=(a0,a1)) h
def aW:ga:=CN pats res acc R
def bB (a0:List aB)(a1:Int)(p1:List L)(e1:a1=(gy p1))(hg:gd a0 a1):F (a0.map aB.row) p1=ret ((md a0 a1):Bool):=by
 unfold gd at hg
 have H0:=hg
 unfold F md
 try simp only [SS,<-e1]
 refine ct (Z242.aq H0) ?_
 have fv1_:=Z242.fa a0 a1
 all_goals exact fz
def oR (ls:List L)(a:List aB×Int)(e:acc ls=Im.im a)(hg:(p2 gd) a):∃n:Nat,F ((ls.headD .hole).aQ) (cT 1 (aA 1 ls))=ret (Im.im ((u2 md) a)):=by
 have e0:(a.1.map aB.row)=(ls.headD .hole).aQ:=(congrArg (fun x=>x.1) e.symm)
 have hn:=bB a.1 a.2 (cT 1 (aA 1 ls)) (congrArg (fun x=>x.2) e.symm) hg
 refine ⟨0,?_⟩
 rw [<-e0]
 exact hn
def af:cG 251 aW:=VP (live:=fun _=>[]) (nt:=9) (accr:=fun ls=>((ls.headD .hole).aQ,(cT 1 (aA 1 ls)))) (run:=fun _ x=>F x.1 x.2) mix aF (.cons Z242.af .nil) Tryz.func251 (by kernel_rfl) (fun _ _=>by kernel_rfl) (fun ls a _ e hg=>oR ls a e hg)
def any_eq (a0:List aB)(a1:Int):md a0 a1=a0.any (fun y=>Z241.md y a1):=by
 unfold md
 rw [Z242.idx_eq]
 exact qQ
end Z243
namespace Z244
def F (x0:bt)(x1:Int):aK:=(cond (decide (x1>=0)) (call (Z243.R (x0.aY,x1)) fun v1=>ret (v1:Bool)) bh)
def md (a0:aj)(a1:Int):Bool:=(cond (decide (a1>=0)) ((Z243.md a0.aY a1):Bool) (false:Bool))
def gd (a0:aj)(a1:Int):Prop:=(aj.Sm (2^21) a0)
def R:=RR (p2 gd) (u2 md)
def aq {a0 a1}(h:gd a0 a1):R ((aj.r a0),a1)=some (md a0 a1):=aR (a:=(a0,a1)) h
def aW:=CN [.agg rU,pI] oB RT.dec R
def bB (a0)(a1)(hg:gd a0 a1):F (aj.r a0) a1=ret (md a0 a1):=by
 unfold gd at hg
 have H0:=hg
 unfold F md
 try simp only [SS]
 refine ay ret (fun c1=>?_) (fun _=>rfl)
 refine ct (Z243.aq H0.2) ?_
 all_goals exact fz
def af:cG 89 aW:=W2 13 F mix aF bB (.cons Z243.af .nil) Tryz.func89
def br (a0:aj)(a1:Int):md a0 a1=Z121.md a0 a1:=by
 unfold md Z121.md
 rw [Z243.any_eq]
 rw [mN (p:=fun y=>(Z120.md y==a1)&&decide (a1>=0)) (fun x s=>by
  cases (Z120.md x==a1)<;>cases decide (a1>=0)<;>rfl) a0.aY ()]
 have e:(fun y=>Z241.md y a1)=fun y=>Z120.md y==a1:=by
  funext y
  unfold Z241.md
  rw [Z240.br]
 rw [e]
 cases decide (a1>=0)
 ·simp
 ·simp
end Z244
namespace Z245
abbrev E (n:Nat):Env:={ T:=assoc kB,G:=dD [(264,Z228.aW),(219,Z179.aW),(82,Z236.aW),(348,Z135.aW),(89,Z244.aW)],nt:=74,M:=fT [],np:=n,I:=ot [] }
def ic (n:Nat):mA:=inl (E n) Tryz.f347
def sU (n:Nat):hO Tryz.prog Ev n 347 (ic n):=yJ (mt:=false) mix aF (.cons Z228.af (.cons Z179.af (.cons Z236.af (.cons Z135.af (.cons Z244.af .nil))))) .nil .nil Tryz.func347 (by kernel_rfl)
end Z245
namespace Z246
inductive Pt where
 | p0 (a:Int) (b:aE) (c:Int) (d:aD) (e f:Int) (g:Bool) (h:aE) (i j:Int) (k l:Bool) (m:aE) (n o:Int) (p:Bool) (q s t:aD)
def pid:Pt->Nat
 | .p0 ..=>3
def cg:Pt->List V
 | .p0 a b c d e f g h i j k l m n o p q s t=>[.int .i64 a,.str b,.int .i64 c,.dy 0 0,.dy 1 0,.sl none 132 d,.int .i64 e,.int .i64 f,.dy 1 0]
def bZ:Pt->List aZ
 | .p0 a b c d e f g h i j k l m n o p q s t=>[.box [.nil,.nil,.bool g,.str h,.int .i64 i,.int .i64 j,.nil,.bool k,.nil],.box [.own 2,.own 3,.bool l,.str m,.int .i64 n,.int .i64 o,.nil,.bool p,.own 4],.row 92 q,.row 280 s,.row 3 t]
def step (J:Pt->aK):Pt->aK
 | .p0 a b c d e f g h i j k l m n o p q s t=>(cond (decide (f<e)) (m2 f (d.length:Int) (call (Z228.R (a,b,(bp.at d (toNat f)),c)) fun v1=>(call (Z179.R ((bp.at d (toNat f)).aU)) fun v2=>(cond v2 (cm (decide ((0:Int)<((bp.at d (toNat f)).aU.length:Int))) (cond ((aT.at ((bp.at d (toNat f)).aU) 0).au.bz==a) (call (Z236.R ((⟨q,s⟩:bt),(bp.at d (toNat f)).aU)) fun v3=>(call (Z135.R (v3.2,1,3)) fun v4=>(cond v4 (call (Z244.R (v3.1,a)) fun v5=>(cond (v1==1) (cond (!(!v5)) (cm (ff (((t.length:Int)+1)*8)) (J (.p0 a b c d e (i64.wrap (f+1)) g h i j k l m n o p v3.1.aH v3.1.aY (t++[[L.int 3]])))) (cm (ff (((t.length:Int)+1)*8)) (cond (v1==1) (call (Z207.R ((bp.at d (toNat f)).aV)) fun v6=>ret (((⟨v3.1,(bp.at d (toNat f)).cA,v6,true,(t++[[L.int v1]])⟩:dx),f):dx×Int)) (J (.p0 a b c d e (i64.wrap (f+1)) g h i j k l m n o p v3.1.aH v3.1.aY (t++[[L.int v1]])))))) (cm (ff (((t.length:Int)+1)*8)) (cond (v1==1) (call (Z207.R ((bp.at d (toNat f)).aV)) fun v7=>ret (((⟨v3.1,(bp.at d (toNat f)).cA,v7,true,(t++[[L.int v1]])⟩:dx),f):dx×Int)) (J (.p0 a b c d e (i64.wrap (f+1)) g h i j k l m n o p v3.1.aH v3.1.aY (t++[[L.int v1]]))))))) (cond (v1==1) (cm (ff (((t.length:Int)+1)*8)) (J (.p0 a b c d e (i64.wrap (f+1)) g h i j k l m n o p v3.1.aH v3.1.aY (t++[[L.int 3]])))) (cm (ff (((t.length:Int)+1)*8)) (cond (v1==1) (call (Z207.R ((bp.at d (toNat f)).aV)) fun v8=>ret (((⟨v3.1,(bp.at d (toNat f)).cA,v8,true,(t++[[L.int v1]])⟩:dx),f):dx×Int)) (J (.p0 a b c d e (i64.wrap (f+1)) g h i j k l m n o p v3.1.aH v3.1.aY (t++[[L.int v1]]))))))))) (call (Z135.R (6,1,3)) fun v9=>(cond v9 (call (Z244.R ((⟨q,s⟩:bt),a)) fun v10=>(cond (v1==1) (cond (!(!v10)) (cm (ff (((t.length:Int)+1)*8)) (J (.p0 a b c d e (i64.wrap (f+1)) g h i j k l m n o p q s (t++[[L.int 3]])))) (cm (ff (((t.length:Int)+1)*8)) (cond (v1==1) (call (Z207.R ((bp.at d (toNat f)).aV)) fun v11=>ret (((⟨(⟨q,s⟩:bt),(bp.at d (toNat f)).cA,v11,true,(t++[[L.int v1]])⟩:dx),f):dx×Int)) (J (.p0 a b c d e (i64.wrap (f+1)) g h i j k l m n o p q s (t++[[L.int v1]])))))) (cm (ff (((t.length:Int)+1)*8)) (cond (v1==1) (call (Z207.R ((bp.at d (toNat f)).aV)) fun v12=>ret (((⟨(⟨q,s⟩:bt),(bp.at d (toNat f)).cA,v12,true,(t++[[L.int v1]])⟩:dx),f):dx×Int)) (J (.p0 a b c d e (i64.wrap (f+1)) g h i j k l m n o p q s (t++[[L.int v1]]))))))) (cond (v1==1) (cm (ff (((t.length:Int)+1)*8)) (J (.p0 a b c d e (i64.wrap (f+1)) g h i j k l m n o p q s (t++[[L.int 3]])))) (cm (ff (((t.length:Int)+1)*8)) (cond (v1==1) (call (Z207.R ((bp.at d (toNat f)).aV)) fun v13=>ret (((⟨(⟨q,s⟩:bt),(bp.at d (toNat f)).cA,v13,true,(t++[[L.int v1]])⟩:dx),f):dx×Int)) (J (.p0 a b c d e (i64.wrap (f+1)) g h i j k l m n o p q s (t++[[L.int v1]])))))))))) (call (Z135.R (6,1,3)) fun v14=>(cond v14 (call (Z244.R ((⟨q,s⟩:bt),a)) fun v15=>(cond (v1==1) (cond (!(!v15)) (cm (ff (((t.length:Int)+1)*8)) (J (.p0 a b c d e (i64.wrap (f+1)) g h i j k l m n o p q s (t++[[L.int 3]])))) (cm (ff (((t.length:Int)+1)*8)) (cond (v1==1) (call (Z207.R ((bp.at d (toNat f)).aV)) fun v16=>ret (((⟨(⟨q,s⟩:bt),(bp.at d (toNat f)).cA,v16,true,(t++[[L.int v1]])⟩:dx),f):dx×Int)) (J (.p0 a b c d e (i64.wrap (f+1)) g h i j k l m n o p q s (t++[[L.int v1]])))))) (cm (ff (((t.length:Int)+1)*8)) (cond (v1==1) (call (Z207.R ((bp.at d (toNat f)).aV)) fun v17=>ret (((⟨(⟨q,s⟩:bt),(bp.at d (toNat f)).cA,v17,true,(t++[[L.int v1]])⟩:dx),f):dx×Int)) (J (.p0 a b c d e (i64.wrap (f+1)) g h i j k l m n o p q s (t++[[L.int v1]]))))))) (cond (v1==1) (cm (ff (((t.length:Int)+1)*8)) (J (.p0 a b c d e (i64.wrap (f+1)) g h i j k l m n o p q s (t++[[L.int 3]])))) (cm (ff (((t.length:Int)+1)*8)) (cond (v1==1) (call (Z207.R ((bp.at d (toNat f)).aV)) fun v18=>ret (((⟨(⟨q,s⟩:bt),(bp.at d (toNat f)).cA,v18,true,(t++[[L.int v1]])⟩:dx),f):dx×Int)) (J (.p0 a b c d e (i64.wrap (f+1)) g h i j k l m n o p q s (t++[[L.int v1]])))))))))))) (ret (((⟨(⟨q,s⟩:bt),l,(⟨m,n,o,[]⟩:bf),p,t⟩:dx),(-1)):dx×Int)))
def start (J:Pt->aK)(x0:bt)(x1:aD)(x2:Int)(x3:aE)(x4:Int):aK:=(call (Z134.R x0) fun v1=>J (.p0 x2 x3 x4 x1 (x1.length:Int) 0 false ⟨#[]⟩ 0 0 false false ⟨#[]⟩ 0 0 false v1.aH v1.aY []))
def live:Nat->Live:=fun i=>match i with | 3=>[(2,none),(3,none),(4,none),(10,none),(12,none),(18,none),(19,none),(20,none),(12,some 8388611)] | _=>[]
def pats:List gk:=[.agg [.sl 92,.sl 280],.rd (.sl 132),.rd (.int .i64),.rd (.str),.rd (.int .i64)]
def res:RP:=.iW [(true,[.fr 92,.fr 280,.rd (.bool),.rd (.str),.rd (.int .i64),.rd (.int .i64),.fr 9,.rd (.bool),.fr 3]),(false,[.rd (.int .i64)])]
abbrev E:Env:={ T:=assoc kB,G:=dD [(170,Z134.aW),(280,Z207.aW)],nt:=42,M:=fT [],I:=ot [(347,Z245.ic 0)] }
def step_eq (I:cD)(p:Pt):cV E live I (pid p) (bN Tryz.f217) (fD (live (pid p)) (cg p) (bZ p)) (cE E Tryz.f217 res)=step (fun q=>I (pid q) (cg q) (bZ q)) p:=by
 cases p<;>kernel_rfl
def start_eq (I:cD)(ls:List L):eT E live I (bN Tryz.f217) (cZ pats ls) (cE E Tryz.f217 res)=start (fun q=>I (pid q) (cg q) (bZ q)) (bt.dec ls) ((aA 2 ls).headD .hole).aQ ((aA 3 ls).headD .hole).toInt ((aA 4 ls).headD .hole).toStr ((aA 5 ls).headD .hole).toInt:=by kernel_rfl
def run_eq (n:Nat)(ls:List L):eN E live Tryz.f217 res n (cZ pats ls)=start (iter step n) (bt.dec ls) ((aA 2 ls).headD .hole).aQ ((aA 3 ls).headD .hole).toInt ((aA 4 ls).headD .hole).toStr ((aA 5 ls).headD .hole).toInt:=cy (id:=pid) (vs:=cg) (hs:=bZ) (step:=step) (start:=fun J=>start J (bt.dec ls) ((aA 2 ls).headD .hole).aQ ((aA 3 ls).headD .hole).toInt ((aA 4 ls).headD .hole).toStr ((aA 5 ls).headD .hole).toInt) step_eq (fun I=>start_eq I ls) n
def md (a0:aj)(a1:List az)(a2:Int)(a3:aE)(a4:Int):bU×Int:=(dJ (S:=List (List aa)×List aB×List Int) (β:=bU×Int) (fun (i1:Nat) (y1:az) (s3:List (List aa)×List aB×List Int)=>(cond (Z179.md (y1.aU)) (cond (((y1.aU.getD 0 aa.zero).au).bz==a2) (cond (Z135.md ((Z236.md (⟨s3.1,s3.2.1⟩:aj) (y1.aU)).2) 1 3) (cond ((Z228.md a2 a3 y1 a4)==1) (cond (!(!(Z244.md ((Z236.md (⟨s3.1,s3.2.1⟩:aj) (y1.aU)).1) a2))) (.inl ((Z236.md (⟨s3.1,s3.2.1⟩:aj) (y1.aU)).1.aH,(Z236.md (⟨s3.1,s3.2.1⟩:aj) (y1.aU)).1.aY,(s3.2.2++[3]))) (cond ((Z228.md a2 a3 y1 a4)==1) (.inr ((⟨(Z236.md (⟨s3.1,s3.2.1⟩:aj) (y1.aU)).1,y1.cA,(y1.aV),true,(s3.2.2++[(Z228.md a2 a3 y1 a4)])⟩:bU),(i1:Int))) (.inl ((Z236.md (⟨s3.1,s3.2.1⟩:aj) (y1.aU)).1.aH,(Z236.md (⟨s3.1,s3.2.1⟩:aj) (y1.aU)).1.aY,(s3.2.2++[(Z228.md a2 a3 y1 a4)]))))) (cond ((Z228.md a2 a3 y1 a4)==1) (.inr ((⟨(Z236.md (⟨s3.1,s3.2.1⟩:aj) (y1.aU)).1,y1.cA,(y1.aV),true,(s3.2.2++[(Z228.md a2 a3 y1 a4)])⟩:bU),(i1:Int))) (.inl ((Z236.md (⟨s3.1,s3.2.1⟩:aj) (y1.aU)).1.aH,(Z236.md (⟨s3.1,s3.2.1⟩:aj) (y1.aU)).1.aY,(s3.2.2++[(Z228.md a2 a3 y1 a4)]))))) (cond ((Z228.md a2 a3 y1 a4)==1) (.inl ((Z236.md (⟨s3.1,s3.2.1⟩:aj) (y1.aU)).1.aH,(Z236.md (⟨s3.1,s3.2.1⟩:aj) (y1.aU)).1.aY,(s3.2.2++[3]))) (cond ((Z228.md a2 a3 y1 a4)==1) (.inr ((⟨(Z236.md (⟨s3.1,s3.2.1⟩:aj) (y1.aU)).1,y1.cA,(y1.aV),true,(s3.2.2++[(Z228.md a2 a3 y1 a4)])⟩:bU),(i1:Int))) (.inl ((Z236.md (⟨s3.1,s3.2.1⟩:aj) (y1.aU)).1.aH,(Z236.md (⟨s3.1,s3.2.1⟩:aj) (y1.aU)).1.aY,(s3.2.2++[(Z228.md a2 a3 y1 a4)])))))) (cond (Z135.md 6 1 3) (cond ((Z228.md a2 a3 y1 a4)==1) (cond (!(!(Z244.md (⟨s3.1,s3.2.1⟩:aj) a2))) (.inl (s3.1,s3.2.1,(s3.2.2++[3]))) (cond ((Z228.md a2 a3 y1 a4)==1) (.inr ((⟨(⟨s3.1,s3.2.1⟩:aj),y1.cA,(y1.aV),true,(s3.2.2++[(Z228.md a2 a3 y1 a4)])⟩:bU),(i1:Int))) (.inl (s3.1,s3.2.1,(s3.2.2++[(Z228.md a2 a3 y1 a4)]))))) (cond ((Z228.md a2 a3 y1 a4)==1) (.inr ((⟨(⟨s3.1,s3.2.1⟩:aj),y1.cA,(y1.aV),true,(s3.2.2++[(Z228.md a2 a3 y1 a4)])⟩:bU),(i1:Int))) (.inl (s3.1,s3.2.1,(s3.2.2++[(Z228.md a2 a3 y1 a4)]))))) (cond ((Z228.md a2 a3 y1 a4)==1) (.inl (s3.1,s3.2.1,(s3.2.2++[3]))) (cond ((Z228.md a2 a3 y1 a4)==1) (.inr ((⟨(⟨s3.1,s3.2.1⟩:aj),y1.cA,(y1.aV),true,(s3.2.2++[(Z228.md a2 a3 y1 a4)])⟩:bU),(i1:Int))) (.inl (s3.1,s3.2.1,(s3.2.2++[(Z228.md a2 a3 y1 a4)]))))))) (cond (Z135.md 6 1 3) (cond ((Z228.md a2 a3 y1 a4)==1) (cond (!(!(Z244.md (⟨s3.1,s3.2.1⟩:aj) a2))) (.inl (s3.1,s3.2.1,(s3.2.2++[3]))) (cond ((Z228.md a2 a3 y1 a4)==1) (.inr ((⟨(⟨s3.1,s3.2.1⟩:aj),y1.cA,(y1.aV),true,(s3.2.2++[(Z228.md a2 a3 y1 a4)])⟩:bU),(i1:Int))) (.inl (s3.1,s3.2.1,(s3.2.2++[(Z228.md a2 a3 y1 a4)]))))) (cond ((Z228.md a2 a3 y1 a4)==1) (.inr ((⟨(⟨s3.1,s3.2.1⟩:aj),y1.cA,(y1.aV),true,(s3.2.2++[(Z228.md a2 a3 y1 a4)])⟩:bU),(i1:Int))) (.inl (s3.1,s3.2.1,(s3.2.2++[(Z228.md a2 a3 y1 a4)]))))) (cond ((Z228.md a2 a3 y1 a4)==1) (.inl (s3.1,s3.2.1,(s3.2.2++[3]))) (cond ((Z228.md a2 a3 y1 a4)==1) (.inr ((⟨(⟨s3.1,s3.2.1⟩:aj),y1.cA,(y1.aV),true,(s3.2.2++[(Z228.md a2 a3 y1 a4)])⟩:bU),(i1:Int))) (.inl (s3.1,s3.2.1,(s3.2.2++[(Z228.md a2 a3 y1 a4)])))))))) (fun (s3:List (List aa)×List aB×List Int)=>((⟨(⟨s3.1,s3.2.1⟩:aj),false,(⟨(⟨#[]⟩:aE),0,0,[]⟩:ah),false,s3.2.2⟩:bU),(-1))) 0 a1 (a0.aH,a0.aY,[]))
def gd (a0:aj)(a1:List az)(a2:Int)(a3:aE)(a4:Int):Prop:=(aj.Sm (2^21) a0)/\(bO (2^21) (fun y:az=>az.Sm (2^21) y) a1)/\(a3.size<=(2^21))
def acc (ls:List L):bt×aD×Int×aE×Int:=((bt.dec ls),((aA 2 ls).headD .hole).aQ,((aA 3 ls).headD .hole).toInt,((aA 4 ls).headD .hole).toStr,((aA 5 ls).headD .hole).toInt)
def R:(bt×aD×Int×aE×Int)->Option (dx×Int):=RR (p5 gd) (u5 md)
def aq {a0 a1 a2 a3 a4}(h:gd a0 a1 a2 a3 a4):R ((aj.r a0),(a1.map az.row),a2,a3,a4)=some ((bU.r (md a0 a1 a2 a3 a4).1),(md a0 a1 a2 a3 a4).2):=aR (a:=(a0,a1,a2,a3,a4)) h
def aW:ga:=CN pats res acc R
def bB (a0:aj)(a1:List az)(a2:Int)(a3:aE)(a4:Int)(hg:gd a0 a1 a2 a3 a4):∃n,start (iter step n) (aj.r a0) (a1.map az.row) a2 a3 a4=ret (((bU.r (md a0 a1 a2 a3 a4).1),(md a0 a1 a2 a3 a4).2):dx×Int):=by
 obtain ⟨H0,H1,H3⟩:=hg
 unfold start md
 try simp only [SS]
 refine cx (Z134.aq H0) ?_
 try simp only [SS]
 have Bh2:a1.length<=maxLen:=(by
   have:=(H1).1
   try simp only [maxLen] at *
   omega)
 refine ex_eq (out:=(fun b:bU×Int=>ret (((bU.r b.1),b.2):dx×Int))) (dc (z:=az.zero)) ?_
 refine dR (p:=Pt.p0 a2 a3 a4 (a1.map az.row) (a1.length:Int) 0 false (⟨#[]⟩:aE) 0 0 false false (⟨#[]⟩:aE) 0 0 false (a0.aH.map (dO aa.row)) (a0.aY.map aB.row) ([].map bu)) fz ?_
 refine cu (pt:=fun (i1:Nat) (s3:List (List aa)×List aB×List Int)=>Pt.p0 a2 a3 a4 (a1.map az.row) (a1.length:Int) (i1:Int) false (⟨#[]⟩:aE) 0 0 false false (⟨#[]⟩:aE) 0 0 false (s3.1.map (dO aa.row)) (s3.2.1.map aB.row) (s3.2.2.map bu)) (s:=((a0.aH,a0.aY,[]):List (List aa)×List aB×List Int)) (out:=(fun b:bU×Int=>ret (((bU.r b.1),b.2):dx×Int))) (fun (i1:Nat) (s3:List (List aa)×List aB×List Int)=>aj.Sm (2^21) (⟨s3.1,s3.2.1⟩:aj)/\s3.2.2.length<=i1) (fun J i1 s3 h2 hih2=>?_) (fun s3 hih2=>?_) ⟨H0,zero_le _⟩
 ·simp only [step,SS]
  have gr_:=hih2
  try simp only [LN] at gr_
  have bb_:=Bh2
  simp only [maxLen] at bb_
  have:=(H1).1
  refine bD.yes (by apply decide_eq_true;omega) ?_
  refine bD.yes aJ ?_
  refine bD.yes (aL h2) ?_
  refine cr (Z228.aq ⟨H3,(bO.getD (z:=az.zero) H1 h2)⟩) ?_
  refine cr (Z179.aq (bO.getD (z:=az.zero) H1 h2).1) ?_
  refine bD.bif (fun c4=>?_) (fun c4=>?_)
  ·try have tc4:=Z179.tr (by simpa using c4)
   refine bD.yes (have:=((bO.getD (z:=az.zero) H1 h2).1).1;dt) ?_
   refine bD.bif (fun c5=>?_) (fun c5=>?_)
   ·have dc5:=c5
    try simp only [DC] at dc5
    refine cr (Z236.aq (a0:=(⟨s3.1,s3.2.1⟩:aj)) ⟨⟨hih2.1.1,hih2.1.2⟩,(bO.getD (z:=az.zero) H1 h2).1⟩) ?_
    try simp only [SS]
    refine cr (Z135.aq (a0:=(Z236.md (⟨s3.1,s3.2.1⟩:aj) ((a1.getD i1 az.zero).aU)).2) trivial) ?_
    refine bD.bif (fun c6=>?_) (fun c6=>?_)
    ·have Dc6:=c6
     try simp [Z135.md] at Dc6
     refine cr (Z244.aq (a0:=(Z236.md (⟨s3.1,s3.2.1⟩:aj) ((a1.getD i1 az.zero).aU)).1) (Z236.fW (a0:=(⟨s3.1,s3.2.1⟩:aj)) (a1:=(a1.getD i1 az.zero).aU) ⟨⟨hih2.1.1,hih2.1.2⟩,(bO.getD (z:=az.zero) H1 h2).1⟩)) ?_
     refine bD.bif (fun c7=>?_) (fun c7=>?_)
     ·have dc7:=c7
      try simp only [DC] at dc7
      refine bD.bif (fun c8=>?_) (fun c8=>?_)
      ·have dc8:=c8
       try simp only [DC] at dc8
       refine bD.yes lm ?_
       refine bD.inl (by first | exact ⟨hih2.1,iA hih2.2⟩ | exact ⟨Z236.fW ⟨hih2.1,(bO.getD H1 h2).1⟩,iA hih2.2⟩) ?_
       rw [aI h2 Bh2]
       all_goals exact fz
      ·have dc8:=c8
       try simp only [DC] at dc8
       refine bD.yes lm ?_
       refine bD.bif (fun c9=>?_) (fun c9=>?_)
       ·refine cr (Z207.aq (bO.getD (z:=az.zero) H1 h2).2.1) ?_
        try simp only [SS]
        refine bD.inr ?_
        all_goals exact fz
       ·refine bD.inl (by first | exact ⟨hih2.1,iA hih2.2⟩ | exact ⟨Z236.fW ⟨hih2.1,(bO.getD H1 h2).1⟩,iA hih2.2⟩) ?_
        rw [aI h2 Bh2]
        all_goals exact fz
     ·have dc7:=c7
      try simp only [DC] at dc7
      refine bD.yes lm ?_
      refine bD.bif (fun c10=>?_) (fun c10=>?_)
      ·refine cr (Z207.aq (bO.getD (z:=az.zero) H1 h2).2.1) ?_
       try simp only [SS]
       refine bD.inr ?_
       all_goals exact fz
      ·refine bD.inl (by first | exact ⟨hih2.1,iA hih2.2⟩ | exact ⟨Z236.fW ⟨hih2.1,(bO.getD H1 h2).1⟩,iA hih2.2⟩) ?_
       rw [aI h2 Bh2]
       all_goals exact fz
    ·have Dc6:=c6
     try simp [Z135.md] at Dc6
     refine bD.bif (fun c11=>?_) (fun c11=>?_)
     ·have dc11:=c11
      try simp only [DC] at dc11
      refine bD.yes lm ?_
      refine bD.inl (by first | exact ⟨hih2.1,iA hih2.2⟩ | exact ⟨Z236.fW ⟨hih2.1,(bO.getD H1 h2).1⟩,iA hih2.2⟩) ?_
      rw [aI h2 Bh2]
      all_goals exact fz
     ·have dc11:=c11
      try simp only [DC] at dc11
      refine bD.yes lm ?_
      refine bD.bif (fun c12=>?_) (fun c12=>?_)
      ·refine cr (Z207.aq (bO.getD (z:=az.zero) H1 h2).2.1) ?_
       try simp only [SS]
       refine bD.inr ?_
       all_goals exact fz
      ·refine bD.inl (by first | exact ⟨hih2.1,iA hih2.2⟩ | exact ⟨Z236.fW ⟨hih2.1,(bO.getD H1 h2).1⟩,iA hih2.2⟩) ?_
       rw [aI h2 Bh2]
       all_goals exact fz
   ·have dc5:=c5
    try simp only [DC] at dc5
    refine cr (Z135.aq trivial) ?_
    refine bD.bif (fun c13=>?_) (fun c13=>?_)
    ·refine cr (Z244.aq (a0:=(⟨s3.1,s3.2.1⟩:aj)) ⟨hih2.1.1,hih2.1.2⟩) ?_
     refine bD.bif (fun c14=>?_) (fun c14=>?_)
     ·have dc14:=c14
      try simp only [DC] at dc14
      refine bD.bif (fun c15=>?_) (fun c15=>?_)
      ·have dc15:=c15
       try simp only [DC] at dc15
       refine bD.yes lm ?_
       refine bD.inl (by first | exact ⟨hih2.1,iA hih2.2⟩ | exact ⟨Z236.fW ⟨hih2.1,(bO.getD H1 h2).1⟩,iA hih2.2⟩) ?_
       rw [aI h2 Bh2]
       all_goals exact fz
      ·have dc15:=c15
       try simp only [DC] at dc15
       refine bD.yes lm ?_
       refine bD.bif (fun c16=>?_) (fun c16=>?_)
       ·refine cr (Z207.aq (bO.getD (z:=az.zero) H1 h2).2.1) ?_
        try simp only [SS]
        refine bD.inr ?_
        all_goals exact fz
       ·refine bD.inl (by first | exact ⟨hih2.1,iA hih2.2⟩ | exact ⟨Z236.fW ⟨hih2.1,(bO.getD H1 h2).1⟩,iA hih2.2⟩) ?_
        rw [aI h2 Bh2]
        all_goals exact fz
     ·have dc14:=c14
      try simp only [DC] at dc14
      refine bD.yes lm ?_
      refine bD.bif (fun c17=>?_) (fun c17=>?_)
      ·refine cr (Z207.aq (bO.getD (z:=az.zero) H1 h2).2.1) ?_
       try simp only [SS]
       refine bD.inr ?_
       all_goals exact fz
      ·refine bD.inl (by first | exact ⟨hih2.1,iA hih2.2⟩ | exact ⟨Z236.fW ⟨hih2.1,(bO.getD H1 h2).1⟩,iA hih2.2⟩) ?_
       rw [aI h2 Bh2]
       all_goals exact fz
    ·refine bD.bif (fun c18=>?_) (fun c18=>?_)
     ·have dc18:=c18
      try simp only [DC] at dc18
      refine bD.yes lm ?_
      refine bD.inl (by first | exact ⟨hih2.1,iA hih2.2⟩ | exact ⟨Z236.fW ⟨hih2.1,(bO.getD H1 h2).1⟩,iA hih2.2⟩) ?_
      rw [aI h2 Bh2]
      all_goals exact fz
     ·have dc18:=c18
      try simp only [DC] at dc18
      refine bD.yes lm ?_
      refine bD.bif (fun c19=>?_) (fun c19=>?_)
      ·refine cr (Z207.aq (bO.getD (z:=az.zero) H1 h2).2.1) ?_
       try simp only [SS]
       refine bD.inr ?_
       all_goals exact fz
      ·refine bD.inl (by first | exact ⟨hih2.1,iA hih2.2⟩ | exact ⟨Z236.fW ⟨hih2.1,(bO.getD H1 h2).1⟩,iA hih2.2⟩) ?_
       rw [aI h2 Bh2]
       all_goals exact fz
  ·try have tc4:=Z179.tr (by simpa using c4)
   refine cr (Z135.aq trivial) ?_
   refine bD.bif (fun c20=>?_) (fun c20=>?_)
   ·refine cr (Z244.aq (a0:=(⟨s3.1,s3.2.1⟩:aj)) ⟨hih2.1.1,hih2.1.2⟩) ?_
    refine bD.bif (fun c21=>?_) (fun c21=>?_)
    ·have dc21:=c21
     try simp only [DC] at dc21
     refine bD.bif (fun c22=>?_) (fun c22=>?_)
     ·have dc22:=c22
      try simp only [DC] at dc22
      refine bD.yes lm ?_
      refine bD.inl (by first | exact ⟨hih2.1,iA hih2.2⟩ | exact ⟨Z236.fW ⟨hih2.1,(bO.getD H1 h2).1⟩,iA hih2.2⟩) ?_
      rw [aI h2 Bh2]
      all_goals exact fz
     ·have dc22:=c22
      try simp only [DC] at dc22
      refine bD.yes lm ?_
      refine bD.bif (fun c23=>?_) (fun c23=>?_)
      ·refine cr (Z207.aq (bO.getD (z:=az.zero) H1 h2).2.1) ?_
       try simp only [SS]
       refine bD.inr ?_
       all_goals exact fz
      ·refine bD.inl (by first | exact ⟨hih2.1,iA hih2.2⟩ | exact ⟨Z236.fW ⟨hih2.1,(bO.getD H1 h2).1⟩,iA hih2.2⟩) ?_
       rw [aI h2 Bh2]
       all_goals exact fz
    ·have dc21:=c21
     try simp only [DC] at dc21
     refine bD.yes lm ?_
     refine bD.bif (fun c24=>?_) (fun c24=>?_)
     ·refine cr (Z207.aq (bO.getD (z:=az.zero) H1 h2).2.1) ?_
      try simp only [SS]
      refine bD.inr ?_
      all_goals exact fz
     ·refine bD.inl (by first | exact ⟨hih2.1,iA hih2.2⟩ | exact ⟨Z236.fW ⟨hih2.1,(bO.getD H1 h2).1⟩,iA hih2.2⟩) ?_
      rw [aI h2 Bh2]
      all_goals exact fz
   ·refine bD.bif (fun c25=>?_) (fun c25=>?_)
    ·have dc25:=c25
     try simp only [DC] at dc25
     refine bD.yes lm ?_
     refine bD.inl (by first | exact ⟨hih2.1,iA hih2.2⟩ | exact ⟨Z236.fW ⟨hih2.1,(bO.getD H1 h2).1⟩,iA hih2.2⟩) ?_
     rw [aI h2 Bh2]
     all_goals exact fz
    ·have dc25:=c25
     try simp only [DC] at dc25
     refine bD.yes lm ?_
     refine bD.bif (fun c26=>?_) (fun c26=>?_)
     ·refine cr (Z207.aq (bO.getD (z:=az.zero) H1 h2).2.1) ?_
      try simp only [SS]
      refine bD.inr ?_
      all_goals exact fz
     ·refine bD.inl (by first | exact ⟨hih2.1,iA hih2.2⟩ | exact ⟨Z236.fW ⟨hih2.1,(bO.getD H1 h2).1⟩,iA hih2.2⟩) ?_
      rw [aI h2 Bh2]
      all_goals exact fz
 ·simp only [step,SS]
  have gr_:=hih2
  try simp only [LN] at gr_
  have:=(H1).1
  refine dF (by apply decide_eq_false;omega) ?_
  refine ⟨0,?_⟩
  all_goals exact fz
def af:cG 217 aW:=VI (mt:=false) (run:=fun n x=>start (iter step n) x.1 x.2.1 x.2.2.1 x.2.2.2.1 x.2.2.2.2) mix aF (.cons Z134.af (.cons Z207.af .nil)) .nil (.cons (Z245.sU 0) .nil) Tryz.func217 (by kernel_rfl) run_eq (fun _ a _ _ hg=>bB a.1 a.2.1 a.2.2.1 a.2.2.2.1 a.2.2.2.2 hg)
def ry (a0:aj)(a1:List az)(a2:Int)(a3:aE)(a4:Int):md a0 a1 a2 a3 a4=dJ (fun i y s=>(Z122.pX a2 a3 a4 y s).map id (fun b=>(b,(i:Int)))) (fun s=>(Z122.fin s,-1)) 0 a1 (a0.aH,a0.aY,[]):=by
 unfold md
 refine lS (fun i y _ s=>?_) (fun s=>rfl)
 have h31:((3:Int)==1)=false:=rfl
 have h61:((6:Int)==1)=false:=rfl
 have h62:((6:Int)==2)=false:=rfl
 have h63:((6:Int)==3)=false:=rfl
 have hin:∀n:Int,Z135.md n 1 3=(n==1||(n==2||n==3)):=fun n=>by
  unfold Z135.md
  rw [Bool.eq_iff_iff];simp;omega
 simp only [Z228.br,Z179.br,Z236.br,Z244.br,hin]
 unfold Z122.pX Z122.nF
 cases g1:Z73.md y.aU
 ·have e:(Z74.md y.aU).2=false:=by unfold Z74.md;rw [g1];rfl
  cases g2:(Z117.md a2 a3 y a4==1)<;>simp [e,g2,h31,h61,h62,h63,Sum.map]
 have hl:=Z73.tr g1
 have e:(Z74.md y.aU).2=true:=by unfold Z74.md;rw [g1];rfl
 have e2:(Z74.md y.aU).1.bz=(y.aU.getD 0 aa.zero).au.bz:=by
  have hi:toNat (i64.wrap ((y.aU.length:Int) - 1))=y.aU.length - 1:=by simp (disch:=omega) only [wi];omega
  have:=Z73.Bn g1 (y.aU.length - 1) (by omega)
  unfold Z74.md
  rw [g1,hi]
  exact this
 rw [e2,e]
 cases g3:((y.aU.getD 0 aa.zero).au.bz==a2)
 ·cases g2:(Z117.md a2 a3 y a4==1)<;>simp [g2,h31,h61,h62,h63,Sum.map]
 generalize Z106.md (⟨s.1,s.2.1⟩:aj) y.aU=r
 cases g2:(Z117.md a2 a3 y a4==1)<;>cases g4:(r.2==1)<;>cases g5:(r.2==2)<;>cases g6:(r.2==3)<;>cases g7:Z121.md r.1 a2<;>simp [g2,g4,g5,g6,g7,h31,Sum.map]
def CD (a0:aj)(a1:List az)(a2:Int)(a3:aE)(a4:Int):(md a0 a1 a2 a3 a4).1=Z122.md a0 a1 a2 a3 a4:=by
 rw [ry,Z122.ry]
 exact qU (p:=Prod.fst) (fun i y s=>by cases Z122.pX a2 a3 a4 y s<;>rfl) (fun s=>rfl) a1 0 _
end Z246
namespace Z247
def F (x0:bt)(x1:aD)(x2:Int)(x3:aE)(x4:Int):aK:=(call (Z246.R (x0,x1,x2,x3,x4)) fun v1=>ret (v1.1:dx))
def md (a0:aj)(a1:List az)(a2:Int)(a3:aE)(a4:Int):bU:=(Z246.md a0 a1 a2 a3 a4).1
def gd (a0:aj)(a1:List az)(a2:Int)(a3:aE)(a4:Int):Prop:=(aj.Sm (2^21) a0)/\(bO (2^21) (fun y:az=>az.Sm (2^21) y) a1)/\(a3.size<=(2^21))
def R:=RR (p5 gd) (u5 md)
def aq {a0 a1 a2 a3 a4}(h:gd a0 a1 a2 a3 a4):R ((aj.r a0),(a1.map az.row),a2,a3,a4)=some (bU.r (md a0 a1 a2 a3 a4)):=aR (a:=(a0,a1,a2,a3,a4)) h
def aW:=CN [.agg rU,pL 132,pI,pS,pI] (.agg f169) RT.dec R
def bB (a0)(a1)(a2)(a3)(a4)(hg:gd a0 a1 a2 a3 a4):F (aj.r a0) (a1.map az.row) a2 a3 a4=ret (bU.r (md a0 a1 a2 a3 a4)):=by
 obtain ⟨H0,H1,H3⟩:=hg
 unfold F md
 try simp only [SS]
 refine ct (Z246.aq ⟨H0,H1,H3⟩) ?_
 try simp only [SS]
 all_goals exact fz
def af:cG 118 aW:=W5 23 F mix aF bB (.cons Z246.af .nil) Tryz.func118
def br (a0:aj)(a1:List az)(a2:Int)(a3:aE)(a4:Int):md a0 a1 a2 a3 a4=Z122.md a0 a1 a2 a3 a4:=by
 unfold md
 exact Z246.CD a0 a1 a2 a3 a4
end Z247
namespace Z248
def F (x0:bt)(x1:Int)(x2:aE)(x3 x4:List L):aK:=(call (Z214.R ((mw x3),x1,x2)) fun v1=>(call (Z247.R (x0,v1,x1,x2,(gy x4))) fun v2=>ret (v2:dx)))
def pats:List gk:=[.agg [.sl 92,.sl 280],.rd (.int .i64),.rd (.str),.ptr [.sl 227],.ptr [aC]]
def res:RP:=.agg [.fr 92,.fr 280,.rd (.bool),.rd (.str),.rd (.int .i64),.rd (.int .i64),.fr 9,.rd (.bool),.fr 3]
def md (a0:aj)(a1:Int)(a2:aE)(a3:List av)(a4:Int):bU:=(Z247.md a0 (Z214.md a3 a1 a2) a1 a2 a4)
def gd (a0:aj)(a1:Int)(a2:aE)(a3:List av)(a4:Int):Prop:=(aj.Sm (2^21) a0)/\(a2.size<=(2^21))/\(bO (2^21) (fun y:av=>av.Sm (2^21) y) a3)
def acc (ls:List L):bt×Int×aE×aD×Int:=((bt.dec ls),((aA 2 ls).headD .hole).toInt,((aA 3 ls).headD .hole).toStr,(mw (cT 1 (aA 4 ls))),(gy (cT 1 (aA 5 ls))))
def R:(bt×Int×aE×aD×Int)->Option dx:=RR (p5 gd) (u5 md)
def aq {a0 a1 a2 a3 a4}(h:gd a0 a1 a2 a3 a4):R ((aj.r a0),a1,a2,(a3.map av.row),a4)=some (bU.r (md a0 a1 a2 a3 a4)):=aR (a:=(a0,a1,a2,a3,a4)) h
def aW:ga:=CN pats res acc R
def bB (a0:aj)(a1:Int)(a2:aE)(a3:List av)(a4:Int)(p3 p4:List L)(e3:(a3.map av.row)=(mw p3))(e4:a4=(gy p4))(hg:gd a0 a1 a2 a3 a4):F (aj.r a0) a1 a2 p3 p4=ret ((bU.r (md a0 a1 a2 a3 a4)):dx):=by
 obtain ⟨H0,H2,H3⟩:=hg
 unfold F md
 try simp only [SS,<-e3,<-e4]
 refine ct (Z214.aq ⟨H3,H2⟩) ?_
 try simp only [SS,<-e3,<-e4]
 refine ct (Z247.aq ⟨H0,(Z214.fW (a0:=a3) (a1:=a1) (a2:=a2) ⟨H3,H2⟩),H2⟩) ?_
 try simp only [SS,<-e3,<-e4]
 all_goals exact fz
def oR (ls:List L)(a:aj×Int×aE×List av×Int)(e:acc ls=Im.im a)(hg:(p5 gd) a):∃n:Nat,F (bt.dec ls) (((aA 2 ls).headD .hole).toInt) (((aA 3 ls).headD .hole).toStr) (cT 1 (aA 4 ls)) (cT 1 (aA 5 ls))=ret (Im.im ((u5 md) a)):=by
 have e0:(aj.r a.1)=(bt.dec ls):=(congrArg (fun x=>x.1) e.symm)
 have e1:a.2.1=((aA 2 ls).headD .hole).toInt:=(congrArg (fun x=>x.2.1) e.symm)
 have e2:a.2.2.1=((aA 3 ls).headD .hole).toStr:=(congrArg (fun x=>x.2.2.1) e.symm)
 have hn:=bB a.1 a.2.1 a.2.2.1 a.2.2.2.1 a.2.2.2.2 (cT 1 (aA 4 ls)) (cT 1 (aA 5 ls)) (congrArg (fun x=>x.2.2.2.1) e.symm) (congrArg (fun x=>x.2.2.2.2) e.symm) hg
 refine ⟨0,?_⟩
 rw [<-e0,<-e1,<-e2]
 exact hn
def af:cG 307 aW:=VP (live:=fun _=>[]) (nt:=18) (accr:=fun ls=>((bt.dec ls),((aA 2 ls).headD .hole).toInt,((aA 3 ls).headD .hole).toStr,(cT 1 (aA 4 ls)),(cT 1 (aA 5 ls)))) (run:=fun _ x=>F x.1 x.2.1 x.2.2.1 x.2.2.2.1 x.2.2.2.2) mix aF (.cons Z214.af (.cons Z247.af .nil)) Tryz.func307 (by kernel_rfl) (fun _ _=>by kernel_rfl) (fun ls a _ e hg=>oR ls a e hg)
def lk (a0:aj)(a1:Int)(a2:aE)(a3:List av)(a4:Int):md a0 a1 a2 a3 a4=Z122.md a0 (Z100.md a3 a1 a2) a1 a2 a4:=by
 unfold md
 rw [Z247.br,Z214.br]
end Z248
namespace Z249
abbrev E (n:Nat):Env:={ T:=assoc kB,G:=dD [(294,Z206.aW),(298,Z140.aW),(280,Z207.aW)],nt:=83,M:=fT [],np:=n,I:=ot [] }
def ic (n:Nat):mA:=inl (E n) Tryz.f345
def sU (n:Nat):hO Tryz.prog Ev n 345 (ic n):=yJ (mt:=false) mix aF (.cons Z206.af (.cons Z140.af (.cons Z207.af .nil))) .nil .nil Tryz.func345 (by kernel_rfl)
end Z249
namespace Z250
inductive Pt where
 | p0 (a:aD) (b c:List L) (d e:Int) (f:aE) (g h i j:Int) (k:aE) (l m n:Int) (o p q s:aD)
def pid:Pt->Nat
 | .p0 ..=>6
def cg:Pt->List V
 | .p0 a b c d e f g h i j k l m n o p q s=>[.sl none 9 a,.fn 307 [.dL none [.sl 227] b 0,.dL none [aC] c 0],.dy 0 0,.dy 1 0,.int .i64 d,.dy 1 0,.dy 1 0]
def bZ:Pt->List aZ
 | .p0 a b c d e f g h i j k l m n o p q s=>[.box [.nil,.nil,.int .i64 e,.str f,.int .i64 g,.int .i64 h,.nil,.nil,.int .i64 i],.box [.own 2,.own 3,.int .i64 j,.str k,.int .i64 l,.int .i64 m,.own 4,.own 5,.int .i64 n],.row 92 o,.row 280 p,.row 9 q,.row 3 s]
def step (J:Pt->aK):Pt->aK
 | .p0 a b c d e f g h i j k l m n o p q s=>(cond (j==0) (cm (decide ((0:Int)<(a.length:Int))) (call (Z248.R ((⟨o,p⟩:bt),d,(qk a 0),(mw b),(gy c))) fun v1=>(cm (ff (((s.length:Int)+1)*8)) (cm (decide ((1:Int)<=(a.length:Int))) (cm (decide ((a.length:Int)<=(a.length:Int))) (cond (!v1.kC) (J (.p0 [] b c 0 e f g h i 3 k l m n v1.bR.aH v1.bR.aY q (s++[[L.int d]]))) (cond (!v1.cA) (J (.p0 [] b c 0 e f g h i 2 k l m n v1.bR.aH v1.bR.aY q (s++[[L.int d]]))) (cond (v1.aV.bM==3) (call (Z206.R v1.aV.bH) fun v2=>(cm (ff (((v2.length:Int)+((List.take (toNat ((a.length:Int) - 1)) (List.drop 1 a)).length:Int))*16)) (cond (decide (n>=3)) (J (.p0 [] b c 0 e f g h i 5 k l m n v1.bR.aH v1.bR.aY q (s++[[L.int d]]))) (call (Z140.R (v2++(List.take (toNat ((a.length:Int) - 1)) (List.drop 1 a)))) fun v3=>(cond (!v3) (J (.p0 [] b c 0 e f g h i 5 k l m n v1.bR.aH v1.bR.aY q (s++[[L.int d]]))) (J (.p0 (v2++(List.take (toNat ((a.length:Int) - 1)) (List.drop 1 a))) b c v1.aV.cq e f g h i j k l m (i64.wrap (n+1)) v1.bR.aH v1.bR.aY q (s++[[L.int d]])))))))) (cond (((List.take (toNat ((a.length:Int) - 1)) (List.drop 1 a)).length:Int)==0) (call (Z207.R v1.aV) fun v4=>J (.p0 [] b c 0 e f g h i 1 v4.bn v4.bM v4.cq n v1.bR.aH v1.bR.aY v4.bH (s++[[L.int d]]))) (cond (v1.aV.bM==2) (J (.p0 (List.take (toNat ((a.length:Int) - 1)) (List.drop 1 a)) b c v1.aV.cq e f g h i j k l m n v1.bR.aH v1.bR.aY q (s++[[L.int d]]))) (J (.p0 [] b c 0 e f g h i 4 k l m n v1.bR.aH v1.bR.aY q (s++[[L.int d]]))))))))))))) (ret ((⟨(⟨o,p⟩:bt),j,(⟨k,l,m,q⟩:bf),s,n⟩:cO):cO)))
def start (J:Pt->aK)(x0:bt)(x1:Int)(x2:aD)(x3 x4:List L):aK:=(call (Z134.R x0) fun v1=>(call (Z140.R x2) fun v2=>(cond (!v2) (ret ((⟨v1,6,(⟨(⟨#[]⟩:aE),0,0,[]⟩:bf),[],0⟩:cO):cO)) (J (.p0 x2 x3 x4 x1 0 ⟨#[]⟩ 0 0 0 0 ⟨#[]⟩ 0 0 0 v1.aH v1.aY [] [])))))
def live:Nat->Live:=fun i=>match i with | 6=>[(2,some 1099511627785),(3,none),(8,none),(9,none),(10,none),(9,some 6291465),(9,some 7340035)] | _=>[]
def pats:List gk:=[.agg [.sl 92,.sl 280],.rd (.int .i64),.rd (.sl 9),.fn 307 [[.sl 227],[aC]]]
def res:RP:=.agg [.fr 92,.fr 280,.rd (.int .i64),.rd (.str),.rd (.int .i64),.rd (.int .i64),.fr 9,.fr 3,.rd (.int .i64)]
abbrev E:Env:={ T:=assoc kB,G:=dD [(170,Z134.aW),(298,Z140.aW),(307,Z248.aW)],nt:=48,M:=fT [],I:=ot [(345,Z249.ic 0)] }
def step_eq (I:cD)(p:Pt):cV E live I (pid p) (bN Tryz.f214) (fD (live (pid p)) (cg p) (bZ p)) (cE E Tryz.f214 res)=step (fun q=>I (pid q) (cg q) (bZ q)) p:=by
 cases p<;>kernel_rfl
def start_eq (I:cD)(ls:List L):eT E live I (bN Tryz.f214) (cZ pats ls) (cE E Tryz.f214 res)=start (fun q=>I (pid q) (cg q) (bZ q)) (bt.dec ls) ((aA 2 ls).headD .hole).toInt ((aA 3 ls).headD .hole).aQ (cT 1 (aA 4 ls)) (cT 1 (aA 5 ls)):=by kernel_rfl
def run_eq (n:Nat)(ls:List L):eN E live Tryz.f214 res n (cZ pats ls)=start (iter step n) (bt.dec ls) ((aA 2 ls).headD .hole).toInt ((aA 3 ls).headD .hole).aQ (cT 1 (aA 4 ls)) (cT 1 (aA 5 ls)):=cy (id:=pid) (vs:=cg) (hs:=bZ) (step:=step) (start:=fun J=>start J (bt.dec ls) ((aA 2 ls).headD .hole).toInt ((aA 3 ls).headD .hole).aQ (cT 1 (aA 4 ls)) (cT 1 (aA 5 ls))) step_eq (fun I=>start_eq I ls) n
def md (a0:aj)(a1:Int)(a2:List aE)(a3:List av)(a4:Int):aM:=(cond (!Z140.md a2) ⟨a0,6,⟨⟨#[]⟩,0,0,[]⟩,[],0⟩ ((Z125.rs (Z125.lk a3 a4) 17 () a0 [] 0 a1 a2).1))
def gd (a0:aj)(a1:Int)(a2:List aE)(a3:List av)(a4:Int):Prop:=(aj.Sm (2^21) a0)/\(bO (2^21) (fun y:aE=>y.size<=(2^21)) a2)/\(bO (2^21) (fun y:av=>av.Sm (2^21) y) a3)
def acc (ls:List L):bt×Int×aD×aD×Int:=((bt.dec ls),((aA 2 ls).headD .hole).toInt,((aA 3 ls).headD .hole).aQ,(mw (cT 1 (aA 4 ls))),(gy (cT 1 (aA 5 ls))))
def R:(bt×Int×aD×aD×Int)->Option cO:=RR (p5 gd) (u5 md)
def aq {a0 a1 a2 a3 a4}(h:gd a0 a1 a2 a3 a4):R ((aj.r a0),a1,(a2.map cI),(a3.map av.row),a4)=some (aM.r (md a0 a1 a2 a3 a4)):=aR (a:=(a0,a1,a2,a3,a4)) h
def aW:ga:=CN pats res acc R
def bB (a0:aj)(a1:Int)(a2:List aE)(a3:List av)(a4:Int)(p3 p4:List L)(e3:(a3.map av.row)=(mw p3))(e4:a4=(gy p4))(hg:gd a0 a1 a2 a3 a4):∃n,start (iter step n) (aj.r a0) a1 (a2.map cI) p3 p4=ret ((aM.r (md a0 a1 a2 a3 a4)):cO):=by
 obtain ⟨H0,H2,H3⟩:=hg
 have fin:∀(J:Pt->aK) (code:Int) (x z:Int) (xs:aD) (lab:aE) (kd vl mv:Int) (o p q s:aD),¬code=0->step J (Pt.p0 xs p3 p4 z 0 ⟨#[]⟩ 0 0 0 code lab kd vl mv o p q s)=ret (⟨⟨o,p⟩,code,⟨lab,kd,vl,q⟩,s,mv⟩:cO):=by
  intro J code x z xs lab kd vl mv o p q s h
  simp only [step]
  exact cM (beq_eq_false_iff_ne.2 h) rfl
 have key:∀(n:Nat) (k:aj) (zs:List Int) (mv z:Int) (p:List aE),aj.Sm (2^21) k->Z47.md p=true->0<=mv->mv<=3->(3 - mv)*4+(p.length:Int)<=n->zs.length+n<=100->
   ∃m,iter step m (Pt.p0 (p.map cI) p3 p4 z 0 ⟨#[]⟩ 0 0 0 0 ⟨#[]⟩ 0 0 mv (k.aH.map (dO aa.row)) (k.aY.map aB.row) [] (zs.map bu))=ret (aM.r (Z125.rs (Z125.lk a3 a4) n () k zs mv z p).1):=by
  intro n
  induction n with
  | zero=>intro k zs mv z p _ hp _ _ hm _;have:=(Z47.tr hp).1;omega
  | succ n ih=>
   intro k zs mv z p hk hp h0 h3 hm hz
   obtain ⟨⟨p1,p4'⟩,p8⟩:=Z47.tr hp
   obtain ⟨x,xs,rfl⟩:∃x xs,p=x::xs:=by
    cases p with
    | nil=>simp at p1
    | cons x xs=>exact ⟨x,xs,rfl⟩
   have hx:x.size<=2^21:=le_trans (p8 x (by simp)) (by decide)
   have hxs:∀y∈xs,y.size<=2^22:=fun y hy=>le_trans (p8 y (by simp [hy])) (by decide)
   have hask:=Z100.fW (a0:=a3) (a1:=z) (a2:=x) ⟨H3,hx⟩
   have hlk:=Z122.fW (a0:=k) (a1:=Z100.md a3 z x) (a2:=z) (a3:=x) (a4:=a4) ⟨hk,hask,hx⟩
   have hat:qk ((x::xs).map cI) 0=x:=rfl
   have ht:List.take (toNat (((xs.length+1:Nat):Int) - 1)) (List.drop 1 ((x::xs).map cI))=xs.map cI:=by
    simp only [List.map_cons,List.drop_succ_cons,List.drop_zero]
    exact List.take_of_length_le (by simp)
   simp only [List.length_cons] at p4' hm
   refine Z125.wo ?_
   simp only [step,hat,List.length_map,List.length_cons,ht,<-e3,<-e4]
   refine dK rfl (dK dt ?_)
   have hR:=Z248.aq (a0:=k) (a1:=z) (a2:=x) (a3:=a3) (a4:=a4) ⟨hk,hx,H3⟩
   rw [Z248.lk] at hR
   refine cx hR ?_
   have hcase:∀q,Z125.nx (Z122.md k (Z100.md a3 z x) z x a4) mv (x::xs)=.inl q->Z125.rs (Z125.lk a3 a4) (n+1) () k zs mv z (x::xs)=(⟨(Z122.md k (Z100.md a3 z x) z x a4).bR,q.1,q.2,zs++[z],mv⟩,()):=fun q hq=>Z125.tP hq
   have hcase2:∀q,Z125.nx (Z122.md k (Z100.md a3 z x) z x a4) mv (x::xs)=.inr q->Z125.rs (Z125.lk a3 a4) (n+1) () k zs mv z (x::xs)=Z125.rs (Z125.lk a3 a4) n () (Z122.md k (Z100.md a3 z x) z x a4).bR (zs++[z]) q.1 q.2.1 q.2.2:=fun q hq=>Z125.tu hq
   clear hR
   revert hcase hcase2 hlk
   generalize Z122.md k (Z100.md a3 z x) z x a4=l
   intro hlk hcase hcase2
   refine dK lm (dK dt (dK dt ?_))
   obtain ⟨lk0,lf,le,ld,lc⟩:=l
   unfold Z125.nx at hcase hcase2
   have hzz:zs.map bu++[[L.int z]]=(zs++[z]).map bu:=by simp [bu]
   cases ld
   ·exact dK rfl ⟨1,(fin _ 3 0 _ _ _ _ _ _ _ _ _ _ (by decide)).trans (by rw [hcase _ rfl];exact fz)⟩
   cases lf
   ·exact dF rfl (dK rfl ⟨1,(fin _ 2 0 _ _ _ _ _ _ _ _ _ _ (by decide)).trans (by rw [hcase _ rfl];exact fz)⟩)
   simp only [Bool.not_true,bA,bq,List.tail_cons] at hcase hcase2 ⊢
   have hpl:bO (2^21) (fun y:aE=>y.size<=(2^21)) le.bH:=hlk.2.1.2
   have hpl1:le.bH.length<=2^21:=hpl.1
   refine dF rfl (dF rfl ?_)
   try simp only [SS]
   cases hk3:(le.bM==3)
   ·simp only [hk3,bA] at hcase hcase2 ⊢
    by_cases hx0:xs.length=0
    ·have e0:((xs.length:Int)==0)=true:=by simp [hx0]
     rw [e0] at hcase
     refine dK (beq_iff_eq.2 (by omega)) (cx (Z207.aq (a0:=le) hlk.2.1) ?_)
     exact ⟨1,(fin _ 1 0 _ _ _ _ _ _ _ _ _ _ (by decide)).trans (by rw [hcase _ rfl];exact fz)⟩
    ·have e0:((xs.length:Int)==0)=false:=by simpa using hx0
     rw [e0] at hcase hcase2
     refine dF (beq_eq_false_iff_ne.2 (by omega)) ?_
     cases hk2:(le.bM==2)
     ·simp only [hk2,bA] at hcase
      exact dF rfl ⟨1,(fin _ 4 0 _ _ _ _ _ _ _ _ _ _ (by decide)).trans (by rw [hcase _ rfl];exact fz)⟩
     ·simp only [hk2,bA,bq] at hcase2
      refine dK rfl ?_
      have hip:Z47.md xs=true:=Z47.tl hp hx0
      rw [hcase2 _ rfl,hzz]
      exact ih lk0 (zs++[z]) mv le.cq xs hlk.1 hip h0 h3 (by omega) (by simp;omega)
   ·simp only [hk3,bq] at hcase hcase2 ⊢
    refine cx (Z206.aq (a0:=le.bH) hpl) ?_
    refine dK (by have :(le.bH.map cI).length=le.bH.length:=List.length_map ..;have :(xs.map cI).length=xs.length:=List.length_map ..;exact je (by omega)) ?_
    by_cases hmv:mv>=3
    ·rw [decide_eq_true hmv] at hcase ⊢
     exact dK rfl ⟨1,(fin _ 5 0 _ _ _ _ _ _ _ _ _ _ (by decide)).trans (by rw [hcase _ rfl];exact fz)⟩
    ·rw [decide_eq_false hmv] at hcase hcase2 ⊢
     simp only [bA] at hcase hcase2 ⊢
     have e:le.bH.map cI++xs.map cI=(le.bH++xs).map cI:=by simp
     rw [e]
     have hq:=Z140.aq (a0:=le.bH++xs) ⟨by rw [List.length_append];omega,fun y hy=>(List.mem_append.1 hy).elim (fun h=>le_trans (hpl.2 y h) (by decide)) (hxs y)⟩
     rw [Z140.br] at hq
     refine cx hq ?_
     cases hip:Z47.md (le.bH++xs)
     ·rw [hip] at hcase
      exact dK rfl ⟨1,(fin _ 5 0 _ _ _ _ _ _ _ _ _ _ (by decide)).trans (by rw [hcase _ rfl];exact fz)⟩
     ·rw [hip] at hcase2
      have ht:=Z47.tr hip
      rw [hcase2 _ rfl,hzz,wi _ (by omega)]
      exact ih lk0 (zs++[z]) (mv+1) le.cq (le.bH++xs) hlk.1 hip (by omega) (by omega) (by omega) (by simp;omega)
 unfold start md
 refine cx (Z134.aq (a0:=a0) H0) ?_
 refine cx (Z140.aq (a0:=a2) (bO.mono H2 (by decide) (fun y hy=>le_trans hy (by decide)))) ?_
 cases hp:Z140.md a2
 ·exact ⟨0,rfl⟩
 ·simp only [Bool.not_true,bA]
  rw [Z140.br] at hp
  exact key 17 a0 [] 0 a1 a2 H0 hp (by decide) (by decide) (by have:=(Z47.tr hp).1;omega) (by simp)
def oR (ls:List L)(a:aj×Int×List aE×List av×Int)(e:acc ls=Im.im a)(hg:(p5 gd) a):∃n:Nat,start (iter step n) (bt.dec ls) (((aA 2 ls).headD .hole).toInt) (((aA 3 ls).headD .hole).aQ) (cT 1 (aA 4 ls)) (cT 1 (aA 5 ls))=ret (Im.im ((u5 md) a)):=by
 have e0:(aj.r a.1)=(bt.dec ls):=(congrArg (fun x=>x.1) e.symm)
 have e1:a.2.1=((aA 2 ls).headD .hole).toInt:=(congrArg (fun x=>x.2.1) e.symm)
 have e2:(a.2.2.1.map cI)=((aA 3 ls).headD .hole).aQ:=(congrArg (fun x=>x.2.2.1) e.symm)
 obtain ⟨n,hn⟩:=bB a.1 a.2.1 a.2.2.1 a.2.2.2.1 a.2.2.2.2 (cT 1 (aA 4 ls)) (cT 1 (aA 5 ls)) (congrArg (fun x=>x.2.2.2.1) e.symm) (congrArg (fun x=>x.2.2.2.2) e.symm) hg
 refine ⟨n,?_⟩
 rw [<-e0,<-e1,<-e2]
 exact hn
def af:cG 214 aW:=VJ (mt:=false) (accr:=fun ls=>((bt.dec ls),((aA 2 ls).headD .hole).toInt,((aA 3 ls).headD .hole).aQ,(cT 1 (aA 4 ls)),(cT 1 (aA 5 ls)))) (run:=fun n x=>start (iter step n) x.1 x.2.1 x.2.2.1 x.2.2.2.1 x.2.2.2.2) mix aF (.cons Z134.af (.cons Z140.af (.cons Z248.af .nil))) .nil (.cons (Z249.sU 0) .nil) Tryz.func214 (by kernel_rfl) run_eq (fun ls a _ e hg=>oR ls a e hg)
end Z250
namespace Z251
def F (x0:bt)(x1:aD)(x2:Int)(x3:aD)(x4:Int):aK:=(call (Z250.R (x0,x2,x3,x1,x4)) fun v1=>ret (v1:cO))
def md (a0:aj)(a1:List av)(a2:Int)(a3:List aE)(a4:Int):aM:=(Z250.md a0 a2 a3 a1 a4)
def gd (a0:aj)(a1:List av)(a2:Int)(a3:List aE)(a4:Int):Prop:=(aj.Sm (2^21) a0)/\(bO (2^21) (fun y:av=>av.Sm (2^21) y) a1)/\(bO (2^21) (fun y:aE=>y.size<=(2^21)) a3)
def R:=RR (p5 gd) (u5 md)
def aq {a0 a1 a2 a3 a4}(h:gd a0 a1 a2 a3 a4):R ((aj.r a0),(a1.map av.row),a2,(a3.map cI),a4)=some (aM.r (md a0 a1 a2 a3 a4)):=aR (a:=(a0,a1,a2,a3,a4)) h
def aW:=CN [.agg rU,pL 227,pI,pL 9,pI] (.agg f64) RT.dec R
def bB (a0)(a1)(a2)(a3)(a4)(hg:gd a0 a1 a2 a3 a4):F (aj.r a0) (a1.map av.row) a2 (a3.map cI) a4=ret (aM.r (md a0 a1 a2 a3 a4)):=by
 obtain ⟨H0,H1,H3⟩:=hg
 unfold F md
 try simp only [SS]
 refine ct (Z250.aq ⟨H0,H3,H1⟩) ?_
 try simp only [SS]
 all_goals exact fz
def af:cG 127 aW:=W5 16 F mix aF bB (.cons Z250.af .nil) Tryz.func127
def br (a0:aj)(a1:List av)(a2:Int)(a3:List aE)(a4:Int):md a0 a1 a2 a3 a4=Z125.md a0 a1 a2 a3 a4:=by
 unfold md Z250.md Z125.md
 rw [Z140.br]
def fW {a0:aj}{a1:List av}{a2:Int}{a3:List aE}{a4:Int}(hg:gd a0 a1 a2 a3 a4):aM.Sm (2^21) (md a0 a1 a2 a3 a4):=by
 rw [br]
 exact Z125.fW hg
end Z251
namespace Z252
inductive Pt where
 | p0 (a b:aD) (c:Int) (d:aD) (e f:Int) (g h i:aD)
def pid:Pt->Nat
 | .p0 ..=>4
def cg:Pt->List V
 | .p0 a b c d e f g h i=>[.sl none 227 a,.sl none 9 b,.int .i64 c,.dy 0 0,.own 1,.dy 2 0,.sl none 222 d,.int .i64 e,.int .i64 f]
def bZ:Pt->List aZ
 | .p0 a b c d e f g h i=>[.box [.nil,.nil],.row 64 g,.box [.own 3,.own 4],.row 92 h,.row 280 i]
def step (J:Pt->aK):Pt->aK
 | .p0 a b c d e f g h i=>(cond (decide (f<e)) (m2 f (d.length:Int) (call (Z251.R ((⟨h,i⟩:bt),a,(bk.at d (toNat f)).bz,b,c)) fun v1=>(cm (ff (((g.length:Int)+1)*144)) (call (Z134.R v1.bR) fun v2=>J (.p0 a b c d e (i64.wrap (f+1)) (g++[(cO.enc v1)]) v2.aH v2.aY))))) (ret ((g,(⟨h,i⟩:bt)):aD×bt)))
def start (J:Pt->aK)(x0:bt)(x1 x2 x3:aD)(x4:Int):aK:=(call (Z134.R x0) fun v1=>(cm (decide ((0:Int)<=(cond (decide ((x2.length:Int)<3)) (x2.length:Int) 3))) (cm (decide ((cond (decide ((x2.length:Int)<3)) (x2.length:Int) 3)<=(x2.length:Int))) (J (.p0 x1 x3 x4 (List.take (toNat ((cond (decide ((x2.length:Int)<3)) (x2.length:Int) 3) - 0)) (List.drop 0 x2)) ((List.take (toNat ((cond (decide ((x2.length:Int)<3)) (x2.length:Int) 3) - 0)) (List.drop 0 x2)).length:Int) 0 [] v1.aH v1.aY)))))
def live:Nat->Live:=fun i=>match i with | 4=>[(1,none),(3,none),(4,none),(11,none),(12,some 64),(13,none),(24,none),(25,none),(26,none)] | _=>[]
def md (a0:aj)(a1:List av)(a2:List bk)(a3:List aE)(a4:Int):List aM×aj:=(dW (S:=List aM×List (List aa)×List aB) (β:=List aM×aj) (fun (y1:bk) (s3:List aM×List (List aa)×List aB)=>(.inl ((s3.1++[(Z251.md (⟨s3.2.1,s3.2.2⟩:aj) a1 (y1.bz) a3 a4)]),((Z251.md (⟨s3.2.1,s3.2.2⟩:aj) a1 (y1.bz) a3 a4).bR).aH,((Z251.md (⟨s3.2.1,s3.2.2⟩:aj) a1 (y1.bz) a3 a4).bR).aY))) (fun (s3:List aM×List (List aa)×List aB)=>(s3.1,(⟨s3.2.1,s3.2.2⟩:aj))) (List.take (toNat ((cond (decide ((a2.length:Int)<3)) (a2.length:Int) 3) - 0)) (List.drop 0 a2)) ([],a0.aH,a0.aY))
def gd (a0:aj)(a1:List av)(a2:List bk)(a3:List aE)(a4:Int):Prop:=(aj.Sm (2^21) a0)/\(bO (2^21) (fun y:av=>av.Sm (2^21) y) a1)/\(bO (2^21) (fun y:bk=>bk.Sm (2^21) y) a2)/\(bO (2^21) (fun y:aE=>y.size<=(2^21)) a3)
def R:=RR (p5 gd) (u5 md)
def aq {a0 a1 a2 a3 a4}(h:gd a0 a1 a2 a3 a4):R ((aj.r a0),(a1.map av.row),(a2.map bk.row),(a3.map cI),a4)=some (((md a0 a1 a2 a3 a4).1.map aM.row),(aj.r (md a0 a1 a2 a3 a4).2)):=aR (a:=(a0,a1,a2,a3,a4)) h
def aW:=CN [.agg rU,pL 227,pL 222,pL 9,pI] (.iW [(false,[.fr 64]),(true,f37)]) RT.dec R
def bB (a0)(a1)(a2)(a3)(a4)(hg:gd a0 a1 a2 a3 a4):∃n,start (iter step n) (aj.r a0) (a1.map av.row) (a2.map bk.row) (a3.map cI) a4=ret (((md a0 a1 a2 a3 a4).1.map aM.row),(aj.r (md a0 a1 a2 a3 a4).2)):=by
 obtain ⟨H0,H1,H2,H3⟩:=hg
 unfold start md
 try simp only [SS]
 refine cx (Z134.aq H0) ?_
 try simp only [SS]
 refine dK (have:=(H2).1;dt) ?_
 refine dK (have:=(H2).1;dt) ?_
 have Bh2:(List.take (toNat ((cond (decide ((a2.length:Int)<3)) (a2.length:Int) 3) - 0)) (List.drop 0 a2)).length<=maxLen:=(by
   have:=(H2).1
   have:=((bO.take (k:=(toNat ((cond (decide ((a2.length:Int)<3)) (a2.length:Int) 3) - 0))) (bO.drop (k:=0) H2))).1
   try simp only [maxLen] at *
   omega)
 refine ex_eq (out:=(fun b:List aM×aj=>ret (((b.1.map aM.row),(aj.r b.2)):aD×bt))) (eJ (z:=bk.zero)) ?_
 refine dR (p:=Pt.p0 (a1.map av.row) (a3.map cI) a4 ((List.take (toNat ((cond (decide ((a2.length:Int)<3)) (a2.length:Int) 3) - 0)) (List.drop 0 a2)).map bk.row) ((List.take (toNat ((cond (decide ((a2.length:Int)<3)) (a2.length:Int) 3) - 0)) (List.drop 0 a2)).length:Int) 0 ([].map aM.row) (a0.aH.map (dO aa.row)) (a0.aY.map aB.row)) fz ?_
 refine cu (pt:=fun (i1:Nat) (s3:List aM×List (List aa)×List aB)=>Pt.p0 (a1.map av.row) (a3.map cI) a4 ((List.take (toNat ((cond (decide ((a2.length:Int)<3)) (a2.length:Int) 3) - 0)) (List.drop 0 a2)).map bk.row) ((List.take (toNat ((cond (decide ((a2.length:Int)<3)) (a2.length:Int) 3) - 0)) (List.drop 0 a2)).length:Int) (i1:Int) (s3.1.map aM.row) (s3.2.1.map (dO aa.row)) (s3.2.2.map aB.row)) (s:=(([],a0.aH,a0.aY):List aM×List (List aa)×List aB)) (out:=(fun b:List aM×aj=>ret (((b.1.map aM.row),(aj.r b.2)):aD×bt))) (fun (i1:Nat) (s3:List aM×List (List aa)×List aB)=>aj.Sm (2^21) (⟨s3.2.1,s3.2.2⟩:aj)/\s3.1.length<=i1) (fun J i1 s3 h2 hih2=>?_) (fun s3 hih2=>?_) ⟨H0,zero_le _⟩
 ·simp only [step,SS]
  have gr_:=hih2
  try simp only [LN] at gr_
  have bb_:=Bh2
  simp only [maxLen] at bb_
  have:=(H2).1
  have:=((bO.take (k:=(toNat ((cond (decide ((a2.length:Int)<3)) (a2.length:Int) 3) - 0))) (bO.drop (k:=0) H2))).1
  refine bD.yes (by apply decide_eq_true;omega) ?_
  refine bD.yes aJ ?_
  refine bD.yes (aL h2) ?_
  refine cr (Z251.aq (a0:=(⟨s3.2.1,s3.2.2⟩:aj)) ⟨⟨hih2.1.1,hih2.1.2⟩,H1,H3⟩) ?_
  try simp only [SS]
  refine bD.yes lm ?_
  refine cr (Z134.aq (a0:=(Z251.md (⟨s3.2.1,s3.2.2⟩:aj) a1 (((List.take (toNat ((cond (decide ((a2.length:Int)<3)) (a2.length:Int) 3) - 0)) (List.drop 0 a2)).getD i1 bk.zero).bz) a3 a4).bR) (Z251.fW (a0:=(⟨s3.2.1,s3.2.2⟩:aj)) (a1:=a1) (a2:=(((List.take (toNat ((cond (decide ((a2.length:Int)<3)) (a2.length:Int) 3) - 0)) (List.drop 0 a2)).getD i1 bk.zero).bz)) (a3:=a3) (a4:=a4) ⟨⟨hih2.1.1,hih2.1.2⟩,H1,H3⟩).1) ?_
  try simp only [SS]
  refine bD.inl (by exact ⟨(Z251.fW ⟨hih2.1,H1,H3⟩).1,iA hih2.2⟩) ?_
  rw [aI h2 Bh2]
  all_goals exact fz
 ·simp only [step,SS]
  have gr_:=hih2
  try simp only [LN] at gr_
  have:=(H2).1
  have:=((bO.take (k:=(toNat ((cond (decide ((a2.length:Int)<3)) (a2.length:Int) 3) - 0))) (bO.drop (k:=0) H2))).1
  refine dF (by apply decide_eq_false;omega) ?_
  refine ⟨0,?_⟩
  all_goals exact fz
def af:cG 30 aW:=L5 47 pid cg bZ live step start mix aF bB (.cons Z134.af (.cons Z251.af .nil)) Tryz.func30
def tk {α S β:Type}{g:α->S->S}{t:S->β}:∀(xs:List α) (i:Nat) (s:S),dW (fun y s=>.inl (g y s)) t (xs.take (3 - i)) s=dJ (fun i y s=>bif decide ((i:Int)<3) then .inl (g y s) else .inr (t s)) t i xs s
 | [],i,s=>by simp [dW,dJ]
 | y::xs,i,s=>by
  by_cases h:i<3
  ·rw [show 3 - i=(3 - (i+1))+1 by omega,List.take_succ_cons]
   unfold dW dJ
   rw [decide_eq_true (show (i:Int)<3 by omega)]
   exact tk xs (i+1) (g y s)
  ·rw [show 3 - i=0 by omega,List.take_zero]
   unfold dW dJ
   rw [decide_eq_false (show ¬(i:Int)<3 by omega)]
   rfl
def br (a0:aj)(a1:List av)(a2:List bk)(a3:List aE)(a4:Int):md a0 a1 a2 a3 a4=Z126.md a0 a1 a2 a3 a4:=by
 unfold md Z126.md
 simp only [Z251.br]
 have e:List.take (toNat ((cond (decide ((a2.length:Int)<3)) (a2.length:Int) 3) - 0)) (List.drop 0 a2)=a2.take (3 - 0):=by
  rw [List.drop_zero]
  by_cases h:(a2.length:Int)<3
  ·rw [decide_eq_true h,bq,List.take_of_length_le (by omega),List.take_of_length_le (by omega)]
  ·rw [decide_eq_false h,bA]
   rfl
 rw [e]
 exact tk a2 0 _
end Z252
namespace Z253
inductive Pt where
 | p0 (a b:aD) (c:Int)
def pid:Pt->Nat
 | .p0 ..=>4
def cg:Pt->List V
 | .p0 a b c=>[.sl none 3 a,.sl none 3 b,.int .i64 c]
def bZ:Pt->List aZ
 | .p0 a b c=>[]
def step (J:Pt->aK):Pt->aK
 | .p0 a b c=>(cond (decide (c<(a.length:Int))) (m2 c (a.length:Int) (m2 c (b.length:Int) (cond ((jG a (toNat c)) != (jG b (toNat c))) bh (J (.p0 a b (i64.wrap (c+1))))))) eF)
def start (J:Pt->aK)(x0 x1:aD):aK:=(cond ((x0.length:Int) != (x1.length:Int)) bh (J (.p0 x0 x1 0)))
def live:Nat->Live:=fun i=>match i with | 4=>[(0,none),(1,none),(5,none)] | _=>[]
def pats:List gk:=[.rd (.sl 3),.rd (.sl 3)]
def res:RP:=.one (.rd (.bool))
abbrev E:Env:={ T:=assoc kB,G:=dD [],nt:=26 }
def step_eq (I:cD)(p:Pt):cV E live I (pid p) (bN Tryz.f187) (fD (live (pid p)) (cg p) (bZ p)) (cE E Tryz.f187 res)=step (fun q=>I (pid q) (cg q) (bZ q)) p:=by
 cases p<;>kernel_rfl
def start_eq (I:cD)(ls:List L):eT E live I (bN Tryz.f187) (cZ pats ls) (cE E Tryz.f187 res)=start (fun q=>I (pid q) (cg q) (bZ q)) (ls.headD .hole).aQ ((aA 1 ls).headD .hole).aQ:=by kernel_rfl
def run_eq (n:Nat)(ls:List L):eN E live Tryz.f187 res n (cZ pats ls)=start (iter step n) (ls.headD .hole).aQ ((aA 1 ls).headD .hole).aQ:=cy (id:=pid) (vs:=cg) (hs:=bZ) (step:=step) (start:=fun J=>start J (ls.headD .hole).aQ ((aA 1 ls).headD .hole).aQ) step_eq (fun I=>start_eq I ls) n
def md (a0 a1:List Int):Bool:=eo a0 a1
def gd (a0 a1:List Int):Prop:=True
def acc (ls:List L):aD×aD:=((ls.headD .hole).aQ,((aA 1 ls).headD .hole).aQ)
def R:(aD×aD)->Option Bool:=RR (p2 gd) (u2 md)
def aq {a0 a1}(h:gd a0 a1):R ((a0.map bu),(a1.map bu))=some (md a0 a1):=aR (a:=(a0,a1)) h
def aW:ga:=CN pats res acc R
def bB (a0 a1:List Int)(hg:gd a0 a1)(h0:a0.length<=maxLen)(h1:a1.length<=maxLen):∃n,start (iter step n) (a0.map bu) (a1.map bu)=ret ((md a0 a1):Bool):=by
 unfold start md
 simp only [List.length_map]
 refine iC (pt:=fun i=>Pt.p0 (a0.map bu) (a1.map bu) (i:Int)) (fun hl J i h h2=>?_) (fun J=>?_)
 ·simp only [step,MM,List.length_map,aL h,aL h2,aJ,bq,cB,tG h,tG h2]
  rw [aI h h0]
  simp only [bne,fq,bool_beq,eW]
  cases eo a0[i] a1[i]<;>rfl
 ·simp only [step,List.length_map,dY,bA]
def af:cG 187 aW:=VV (run:=fun n x=>start (iter step n) x.1 x.2) mix aF .nil Tryz.func187 (by kernel_rfl) run_eq (fun ls a hl e hg=>bB a.1 a.2 hg (by have h:(ls.headD .hole).aQ.length<=maxLen:=hl.1.len;have e:a.1.map bu=(ls.headD .hole).aQ:=(congrArg (fun x=>x.1) e.symm);rw [<-e] at h;simpa using h) (by have h:((aA 1 ls).headD .hole).aQ.length<=maxLen:=hl.2.1.len;have e:a.2.map bu=((aA 1 ls).headD .hole).aQ:=(congrArg (fun x=>x.2) e.symm);rw [<-e] at h;simpa using h))
end Z253
namespace Z254
def F (x0 x1:bF):aK:=(call (Z253.R (x0.aX,x1.aX)) fun v1=>(cond (!v1) bh (cond (x0.cH != x1.cH) bh eF)))
def md (a0 a1:aO):Bool:=eo a0 a1
def gd (a0 a1:aO):Prop:=True
def R:=RR (p2 gd) (u2 md)
def aq {a0 a1}(h:gd a0 a1):R ((aO.r a0),(aO.r a1))=some (md a0 a1):=aR (a:=(a0,a1)) h
def aW:=CN [.agg pZ,.agg pZ] oB RT.dec R
def bB (a0)(a1)(hg:gd a0 a1):F (aO.r a0) (aO.r a1)=ret (md a0 a1):=by
 unfold md
 show (call (Z253.R ((a0.aX.map bu),(a1.aX.map bu))) fun v1=>(cond (!v1) bh (cond (a0.cH != a1.cH) bh eF)))=_
 simp only [call_eq (Z253.aq (a0:=a0.aX) (a1:=a1.aX) trivial),Z253.md]
 try simp only [bne,fq,bool_beq,eW]
 have e:eo a0 a1=(eo a0.aX a1.aX&&(eo a0.cH a1.cH&&true)):=by
  cases a0;cases a1
  rw [Bool.eq_iff_iff]
  simp only [dA,Bool.and_eq_true,aO.mk.injEq,and_true]
 rw [e]
 refine cS fun _=>?_
 refine cS fun _=>?_
 rfl
def af:cG 553 aW:=W2 16 F mix aF bB (.cons Z253.af .nil) Tryz.func553
end Z254
namespace Z255
def F (x0 x1:ck):aK:=(cond (x0.bz != x1.bz) bh (cond (x0.cN != x1.cN) bh (cond (x0.bM != x1.bM) bh (cond (x0.cK != x1.cK) bh (cond (x0.cF != x1.cF) bh (cond (x0.cz != x1.cz) bh (cond (x0.dm != x1.dm) bh (cond (x0.dH != x1.dH) bh (call (Z254.R (x0.bQ,x1.bQ)) fun v1=>(cond (!v1) bh (call (Z254.R (x0.bE,x1.bE)) fun v2=>(cond (!v2) bh (cond (x0.dw != x1.dw) bh (call (Z254.R (x0.bC,x1.bC)) fun v3=>(cond (!v3) bh (cond (!(x0.bG==x1.bG)) bh eF))))))))))))))))
def md (a0 a1:aG):Bool:=eo a0 a1
def gd (a0 a1:aG):Prop:=True
def R:=RR (p2 gd) (u2 md)
def aq {a0 a1}(h:gd a0 a1):R ((aG.r a0),(aG.r a1))=some (md a0 a1):=aR (a:=(a0,a1)) h
def aW:=CN [.agg gi,.agg gi] oB RT.dec R
def bB (a0)(a1)(hg:gd a0 a1):F (aG.r a0) (aG.r a1)=ret (md a0 a1):=by
 unfold md
 show (bif (a0.bz != a1.bz) then bh else (bif (a0.cN != a1.cN) then bh else (bif (a0.bM != a1.bM) then bh else (bif (a0.cK != a1.cK) then bh else (bif (a0.cF != a1.cF) then bh else (bif (a0.cz != a1.cz) then bh else (bif (a0.dm != a1.dm) then bh else (bif (a0.dH != a1.dH) then bh else (call (Z254.R ((aO.r a0.bQ),(aO.r a1.bQ))) fun v1=>(bif (!v1) then bh else (call (Z254.R ((aO.r a0.bE),(aO.r a1.bE))) fun v2=>(bif (!v2) then bh else (bif (a0.dw != a1.dw) then bh else (call (Z254.R ((aO.r a0.bC),(aO.r a1.bC))) fun v3=>(cond (!v3) bh (cond (!(a0.bG==a1.bG)) bh eF))))))))))))))))=_
 simp only [call_eq (Z254.aq (a0:=a0.bQ) (a1:=a1.bQ) trivial),Z254.md]
 simp only [call_eq (Z254.aq (a0:=a0.bE) (a1:=a1.bE) trivial),Z254.md]
 simp only [call_eq (Z254.aq (a0:=a0.bC) (a1:=a1.bC) trivial),Z254.md]
 try simp only [bne,fq,bool_beq,eW]
 have e:eo a0 a1=(eo a0.bz a1.bz&&(eo a0.cN a1.cN&&(eo a0.bM a1.bM&&(eo a0.cK a1.cK&&(eo a0.cF a1.cF&&(eo a0.cz a1.cz&&(eo a0.dm a1.dm&&(eo a0.dH a1.dH&&(eo a0.bQ a1.bQ&&(eo a0.bE a1.bE&&(eo a0.dw a1.dw&&(eo a0.bC a1.bC&&(eo a0.bG a1.bG&&true))))))))))))):=by
  cases a0;cases a1
  rw [Bool.eq_iff_iff]
  simp only [dA,Bool.and_eq_true,aG.mk.injEq,and_true]
 rw [e]
 refine cS fun _=>?_
 refine cS fun _=>?_
 refine cS fun _=>?_
 refine cS fun _=>?_
 refine cS fun _=>?_
 refine cS fun _=>?_
 refine cS fun _=>?_
 refine cS fun _=>?_
 refine cS fun _=>?_
 refine cS fun _=>?_
 refine cS fun _=>?_
 refine cS fun _=>?_
 refine cS fun _=>?_
 rfl
def af:cG 492 aW:=W2 73 F mix aF bB (.cons Z254.af .nil) Tryz.func492
end Z255
namespace Z256
def F (x0 x1:bw):aK:=(cond (x0.gW != x1.gW) bh (cond (x0.jD != x1.jD) bh eF))
def md (a0 a1:bw):Bool:=eo a0 a1
def gd (a0 a1:bw):Prop:=True
def R:=RR (p2 gd) (u2 md)
def aq {a0 a1}(h:gd a0 a1):R (a0,a1)=some (md a0 a1):=aR (a:=(a0,a1)) h
def aW:=CN [.agg yL,.agg yL] oB RT.dec R
def bB (a0)(a1)(hg:gd a0 a1):F a0 a1=ret (md a0 a1):=by
 unfold md
 show (cond (a0.gW != a1.gW) bh (cond (a0.jD != a1.jD) bh eF))=_
 try simp only [bne,fq,bool_beq,eW]
 have e:eo a0 a1=(eo a0.gW a1.gW&&(eo a0.jD a1.jD&&true)):=by
  cases a0;cases a1
  rw [Bool.eq_iff_iff]
  simp only [dA,Bool.and_eq_true,bw.mk.injEq,and_true]
 rw [e]
 refine cS fun _=>?_
 refine cS fun _=>?_
 rfl
def af:cG 554 aW:=W2 15 F mix aF bB .nil Tryz.func554
end Z256
namespace Z257
inductive Pt where
 | p0 (a b:aD) (c:Int)
def pid:Pt->Nat
 | .p0 ..=>4
def cg:Pt->List V
 | .p0 a b c=>[.sl none 428 a,.sl none 428 b,.int .i64 c]
def bZ:Pt->List aZ
 | .p0 a b c=>[]
def step (J:Pt->aK):Pt->aK
 | .p0 a b c=>(cond (decide (c<(a.length:Int))) (m2 c (a.length:Int) (m2 c (b.length:Int) (call (Z256.R ((bw.at a (toNat c)),(bw.at b (toNat c)))) fun v1=>(cond (!v1) bh (J (.p0 a b (i64.wrap (c+1)))))))) eF)
def start (J:Pt->aK)(x0 x1:aD):aK:=(cond ((x0.length:Int) != (x1.length:Int)) bh (J (.p0 x0 x1 0)))
def live:Nat->Live:=fun i=>match i with | 4=>[(0,none),(1,none),(5,none)] | _=>[]
def pats:List gk:=[.rd (.sl 428),.rd (.sl 428)]
def res:RP:=.one (.rd (.bool))
abbrev E:Env:={ T:=assoc kB,G:=dD [(554,Z256.aW)],nt:=27 }
def step_eq (I:cD)(p:Pt):cV E live I (pid p) (bN Tryz.f493) (fD (live (pid p)) (cg p) (bZ p)) (cE E Tryz.f493 res)=step (fun q=>I (pid q) (cg q) (bZ q)) p:=by
 cases p<;>kernel_rfl
def start_eq (I:cD)(ls:List L):eT E live I (bN Tryz.f493) (cZ pats ls) (cE E Tryz.f493 res)=start (fun q=>I (pid q) (cg q) (bZ q)) (ls.headD .hole).aQ ((aA 1 ls).headD .hole).aQ:=by kernel_rfl
def run_eq (n:Nat)(ls:List L):eN E live Tryz.f493 res n (cZ pats ls)=start (iter step n) (ls.headD .hole).aQ ((aA 1 ls).headD .hole).aQ:=cy (id:=pid) (vs:=cg) (hs:=bZ) (step:=step) (start:=fun J=>start J (ls.headD .hole).aQ ((aA 1 ls).headD .hole).aQ) step_eq (fun I=>start_eq I ls) n
def md (a0 a1:List bw):Bool:=eo a0 a1
def gd (a0 a1:List bw):Prop:=True
def acc (ls:List L):aD×aD:=((ls.headD .hole).aQ,((aA 1 ls).headD .hole).aQ)
def R:(aD×aD)->Option Bool:=RR (p2 gd) (u2 md)
def aq {a0 a1}(h:gd a0 a1):R ((a0.map bw.row),(a1.map bw.row))=some (md a0 a1):=aR (a:=(a0,a1)) h
def aW:ga:=CN pats res acc R
def bB (a0 a1:List bw)(hg:gd a0 a1)(h0:a0.length<=maxLen)(h1:a1.length<=maxLen):∃n,start (iter step n) (a0.map bw.row) (a1.map bw.row)=ret ((md a0 a1):Bool):=by
 unfold start md
 simp only [List.length_map]
 refine iC (pt:=fun i=>Pt.p0 (a0.map bw.row) (a1.map bw.row) (i:Int)) (fun hl J i h h2=>?_) (fun J=>?_)
 ·simp only [step,MM,List.length_map,aL h,aL h2,aJ,bq,cB,bw.ec h,bw.ec h2]
  rw [aI h h0]
  rw [call_eq (Z256.aq (a0:=a0[i]) (a1:=a1[i]) trivial),Z256.md]
  cases eo a0[i] a1[i]<;>rfl
 ·simp only [step,List.length_map,dY,bA]
def af:cG 493 aW:=VV (run:=fun n x=>start (iter step n) x.1 x.2) mix aF (.cons Z256.af .nil) Tryz.func493 (by kernel_rfl) run_eq (fun ls a hl e hg=>bB a.1 a.2 hg (by have h:(ls.headD .hole).aQ.length<=maxLen:=hl.1.len;have e:a.1.map bw.row=(ls.headD .hole).aQ:=(congrArg (fun x=>x.1) e.symm);rw [<-e] at h;simpa using h) (by have h:((aA 1 ls).headD .hole).aQ.length<=maxLen:=hl.2.1.len;have e:a.2.map bw.row=((aA 1 ls).headD .hole).aQ:=(congrArg (fun x=>x.2) e.symm);rw [<-e] at h;simpa using h))
end Z257
namespace Z258
def F (x0 x1:aT):aK:=(call (Z255.R (x0.au,x1.au)) fun v1=>(cond (!v1) bh (call (Z257.R (x0.cw,x1.cw)) fun v2=>(cond (!v2) bh eF))))
def md (a0 a1:aa):Bool:=eo a0 a1
def gd (a0 a1:aa):Prop:=True
def R:=RR (p2 gd) (u2 md)
def aq {a0 a1}(h:gd a0 a1):R ((aa.r a0),(aa.r a1))=some (md a0 a1):=aR (a:=(a0,a1)) h
def aW:=CN [.agg kT,.agg kT] oB RT.dec R
def bB (a0)(a1)(hg:gd a0 a1):F (aa.r a0) (aa.r a1)=ret (md a0 a1):=by
 unfold md
 show (call (Z255.R ((aG.r a0.au),(aG.r a1.au))) fun v1=>(bif (!v1) then bh else (call (Z257.R ((a0.cw.map bw.row),(a1.cw.map bw.row))) fun v2=>(cond (!v2) bh eF))))=_
 simp only [call_eq (Z255.aq (a0:=a0.au) (a1:=a1.au) trivial),Z255.md]
 simp only [call_eq (Z257.aq (a0:=a0.cw) (a1:=a1.cw) trivial),Z257.md]
 try simp only [bne,fq,bool_beq,eW]
 have e:eo a0 a1=(eo a0.au a1.au&&(eo a0.cw a1.cw&&true)):=by
  cases a0;cases a1
  rw [Bool.eq_iff_iff]
  simp only [dA,Bool.and_eq_true,aa.mk.injEq,and_true]
 rw [e]
 refine cS fun _=>?_
 refine cS fun _=>?_
 rfl
def af:cG 426 aW:=W2 17 F mix aF bB (.cons Z255.af (.cons Z257.af .nil)) Tryz.func426
end Z258
namespace Z259
inductive Pt where
 | p0 (a b:aD) (c:Int)
def pid:Pt->Nat
 | .p0 ..=>4
def cg:Pt->List V
 | .p0 a b c=>[.sl none 123 a,.sl none 123 b,.int .i64 c]
def bZ:Pt->List aZ
 | .p0 a b c=>[]
def step (J:Pt->aK):Pt->aK
 | .p0 a b c=>(cond (decide (c<(a.length:Int))) (m2 c (a.length:Int) (m2 c (b.length:Int) (call (Z258.R ((aT.at a (toNat c)),(aT.at b (toNat c)))) fun v1=>(cond (!v1) bh (J (.p0 a b (i64.wrap (c+1)))))))) eF)
def start (J:Pt->aK)(x0 x1:aD):aK:=(cond ((x0.length:Int) != (x1.length:Int)) bh (J (.p0 x0 x1 0)))
def live:Nat->Live:=fun i=>match i with | 4=>[(0,none),(1,none),(5,none)] | _=>[]
def pats:List gk:=[.rd (.sl 123),.rd (.sl 123)]
def res:RP:=.one (.rd (.bool))
abbrev E:Env:={ T:=assoc kB,G:=dD [(426,Z258.aW)],nt:=27 }
def step_eq (I:cD)(p:Pt):cV E live I (pid p) (bN Tryz.f328) (fD (live (pid p)) (cg p) (bZ p)) (cE E Tryz.f328 res)=step (fun q=>I (pid q) (cg q) (bZ q)) p:=by
 cases p<;>kernel_rfl
def start_eq (I:cD)(ls:List L):eT E live I (bN Tryz.f328) (cZ pats ls) (cE E Tryz.f328 res)=start (fun q=>I (pid q) (cg q) (bZ q)) (ls.headD .hole).aQ ((aA 1 ls).headD .hole).aQ:=by kernel_rfl
def run_eq (n:Nat)(ls:List L):eN E live Tryz.f328 res n (cZ pats ls)=start (iter step n) (ls.headD .hole).aQ ((aA 1 ls).headD .hole).aQ:=cy (id:=pid) (vs:=cg) (hs:=bZ) (step:=step) (start:=fun J=>start J (ls.headD .hole).aQ ((aA 1 ls).headD .hole).aQ) step_eq (fun I=>start_eq I ls) n
def md (a0 a1:List aa):Bool:=eo a0 a1
def gd (a0 a1:List aa):Prop:=True
def acc (ls:List L):aD×aD:=((ls.headD .hole).aQ,((aA 1 ls).headD .hole).aQ)
def R:(aD×aD)->Option Bool:=RR (p2 gd) (u2 md)
def aq {a0 a1}(h:gd a0 a1):R ((a0.map aa.row),(a1.map aa.row))=some (md a0 a1):=aR (a:=(a0,a1)) h
def aW:ga:=CN pats res acc R
def bB (a0 a1:List aa)(hg:gd a0 a1)(h0:a0.length<=maxLen)(h1:a1.length<=maxLen):∃n,start (iter step n) (a0.map aa.row) (a1.map aa.row)=ret ((md a0 a1):Bool):=by
 unfold start md
 simp only [List.length_map]
 refine iC (pt:=fun i=>Pt.p0 (a0.map aa.row) (a1.map aa.row) (i:Int)) (fun hl J i h h2=>?_) (fun J=>?_)
 ·simp only [step,MM,List.length_map,aL h,aL h2,aJ,bq,cB,aa.ec h,aa.ec h2]
  rw [aI h h0]
  rw [call_eq (Z258.aq (a0:=a0[i]) (a1:=a1[i]) trivial),Z258.md]
  cases eo a0[i] a1[i]<;>rfl
 ·simp only [step,List.length_map,dY,bA]
def af:cG 328 aW:=VV (run:=fun n x=>start (iter step n) x.1 x.2) mix aF (.cons Z258.af .nil) Tryz.func328 (by kernel_rfl) run_eq (fun ls a hl e hg=>bB a.1 a.2 hg (by have h:(ls.headD .hole).aQ.length<=maxLen:=hl.1.len;have e:a.1.map aa.row=(ls.headD .hole).aQ:=(congrArg (fun x=>x.1) e.symm);rw [<-e] at h;simpa using h) (by have h:((aA 1 ls).headD .hole).aQ.length<=maxLen:=hl.2.1.len;have e:a.2.map aa.row=((aA 1 ls).headD .hole).aQ:=(congrArg (fun x=>x.2) e.symm);rw [<-e] at h;simpa using h))
end Z259
namespace Z260
inductive Pt where
 | p0 (a b:aD) (c:Int)
def pid:Pt->Nat
 | .p0 ..=>4
def cg:Pt->List V
 | .p0 a b c=>[.sl none 92 a,.sl none 92 b,.int .i64 c]
def bZ:Pt->List aZ
 | .p0 a b c=>[]
def step (J:Pt->aK):Pt->aK
 | .p0 a b c=>(cond (decide (c<(a.length:Int))) (m2 c (a.length:Int) (m2 c (b.length:Int) (call (Z259.R ((oT a (toNat c)),(oT b (toNat c)))) fun v1=>(cond (!v1) bh (J (.p0 a b (i64.wrap (c+1)))))))) eF)
def start (J:Pt->aK)(x0 x1:aD):aK:=(cond ((x0.length:Int) != (x1.length:Int)) bh (J (.p0 x0 x1 0)))
def live:Nat->Live:=fun i=>match i with | 4=>[(0,none),(1,none),(5,none)] | _=>[]
def pats:List gk:=[.rd (.sl 92),.rd (.sl 92)]
def res:RP:=.one (.rd (.bool))
abbrev E:Env:={ T:=assoc kB,G:=dD [(328,Z259.aW)],nt:=27 }
def step_eq (I:cD)(p:Pt):cV E live I (pid p) (bN Tryz.f171) (fD (live (pid p)) (cg p) (bZ p)) (cE E Tryz.f171 res)=step (fun q=>I (pid q) (cg q) (bZ q)) p:=by
 cases p<;>kernel_rfl
def start_eq (I:cD)(ls:List L):eT E live I (bN Tryz.f171) (cZ pats ls) (cE E Tryz.f171 res)=start (fun q=>I (pid q) (cg q) (bZ q)) (ls.headD .hole).aQ ((aA 1 ls).headD .hole).aQ:=by kernel_rfl
def run_eq (n:Nat)(ls:List L):eN E live Tryz.f171 res n (cZ pats ls)=start (iter step n) (ls.headD .hole).aQ ((aA 1 ls).headD .hole).aQ:=cy (id:=pid) (vs:=cg) (hs:=bZ) (step:=step) (start:=fun J=>start J (ls.headD .hole).aQ ((aA 1 ls).headD .hole).aQ) step_eq (fun I=>start_eq I ls) n
def md (a0 a1:List (List aa)):Bool:=eo a0 a1
def gd (a0 a1:List (List aa)):Prop:=True
def acc (ls:List L):aD×aD:=((ls.headD .hole).aQ,((aA 1 ls).headD .hole).aQ)
def R:(aD×aD)->Option Bool:=RR (p2 gd) (u2 md)
def aq {a0 a1}(h:gd a0 a1):R ((a0.map (dO aa.row)),(a1.map (dO aa.row)))=some (md a0 a1):=aR (a:=(a0,a1)) h
def aW:ga:=CN pats res acc R
def bB (a0 a1:List (List aa))(hg:gd a0 a1)(h0:a0.length<=maxLen)(h1:a1.length<=maxLen):∃n,start (iter step n) (a0.map (dO aa.row)) (a1.map (dO aa.row))=ret ((md a0 a1):Bool):=by
 unfold start md
 simp only [List.length_map]
 refine iC (pt:=fun i=>Pt.p0 (a0.map (dO aa.row)) (a1.map (dO aa.row)) (i:Int)) (fun hl J i h h2=>?_) (fun J=>?_)
 ·simp only [step,MM,List.length_map,aL h,aL h2,aJ,bq,cB,qd h,qd h2]
  rw [aI h h0]
  rw [call_eq (Z259.aq (a0:=a0[i]) (a1:=a1[i]) trivial),Z259.md]
  cases eo a0[i] a1[i]<;>rfl
 ·simp only [step,List.length_map,dY,bA]
def af:cG 171 aW:=VV (run:=fun n x=>start (iter step n) x.1 x.2) mix aF (.cons Z259.af .nil) Tryz.func171 (by kernel_rfl) run_eq (fun ls a hl e hg=>bB a.1 a.2 hg (by have h:(ls.headD .hole).aQ.length<=maxLen:=hl.1.len;have e:a.1.map (dO aa.row)=(ls.headD .hole).aQ:=(congrArg (fun x=>x.1) e.symm);rw [<-e] at h;simpa using h) (by have h:((aA 1 ls).headD .hole).aQ.length<=maxLen:=hl.2.1.len;have e:a.2.map (dO aa.row)=((aA 1 ls).headD .hole).aQ:=(congrArg (fun x=>x.2) e.symm);rw [<-e] at h;simpa using h))
end Z260
namespace Z261
def F (x0 x1:bL):aK:=(call (Z258.R (x0.aS,x1.aS)) fun v1=>(cond (!v1) bh (call (Z258.R (x0.fA,x1.fA)) fun v2=>(cond (!v2) bh (call (Z258.R (x0.fB,x1.fB)) fun v3=>(cond (!v3) bh eF))))))
def md (a0 a1:aB):Bool:=eo a0 a1
def gd (a0 a1:aB):Prop:=True
def R:=RR (p2 gd) (u2 md)
def aq {a0 a1}(h:gd a0 a1):R ((aB.r a0),(aB.r a1))=some (md a0 a1):=aR (a:=(a0,a1)) h
def aW:=CN [.agg sV,.agg sV] oB RT.dec R
def bB (a0)(a1)(hg:gd a0 a1):F (aB.r a0) (aB.r a1)=ret (md a0 a1):=by
 unfold md
 show (call (Z258.R ((aa.r a0.aS),(aa.r a1.aS))) fun v1=>(bif (!v1) then bh else (call (Z258.R ((aa.r a0.fA),(aa.r a1.fA))) fun v2=>(bif (!v2) then bh else (call (Z258.R ((aa.r a0.fB),(aa.r a1.fB))) fun v3=>(cond (!v3) bh eF))))))=_
 simp only [call_eq (Z258.aq (a0:=a0.aS) (a1:=a1.aS) trivial),Z258.md]
 simp only [call_eq (Z258.aq (a0:=a0.fA) (a1:=a1.fA) trivial),Z258.md]
 simp only [call_eq (Z258.aq (a0:=a0.fB) (a1:=a1.fB) trivial),Z258.md]
 try simp only [bne,fq,bool_beq,eW]
 have e:eo a0 a1=(eo a0.aS a1.aS&&(eo a0.fA a1.fA&&(eo a0.fB a1.fB&&true))):=by
  cases a0;cases a1
  rw [Bool.eq_iff_iff]
  simp only [dA,Bool.and_eq_true,aB.mk.injEq,and_true]
 rw [e]
 refine cS fun _=>?_
 refine cS fun _=>?_
 refine cS fun _=>?_
 rfl
def af:cG 329 aW:=W2 23 F mix aF bB (.cons Z258.af .nil) Tryz.func329
end Z261
namespace Z262
inductive Pt where
 | p0 (a b:aD) (c:Int)
def pid:Pt->Nat
 | .p0 ..=>4
def cg:Pt->List V
 | .p0 a b c=>[.sl none 280 a,.sl none 280 b,.int .i64 c]
def bZ:Pt->List aZ
 | .p0 a b c=>[]
def step (J:Pt->aK):Pt->aK
 | .p0 a b c=>(cond (decide (c<(a.length:Int))) (m2 c (a.length:Int) (m2 c (b.length:Int) (call (Z261.R ((bL.at a (toNat c)),(bL.at b (toNat c)))) fun v1=>(cond (!v1) bh (J (.p0 a b (i64.wrap (c+1)))))))) eF)
def start (J:Pt->aK)(x0 x1:aD):aK:=(cond ((x0.length:Int) != (x1.length:Int)) bh (J (.p0 x0 x1 0)))
def live:Nat->Live:=fun i=>match i with | 4=>[(0,none),(1,none),(5,none)] | _=>[]
def pats:List gk:=[.rd (.sl 280),.rd (.sl 280)]
def res:RP:=.one (.rd (.bool))
abbrev E:Env:={ T:=assoc kB,G:=dD [(329,Z261.aW)],nt:=27 }
def step_eq (I:cD)(p:Pt):cV E live I (pid p) (bN Tryz.f172) (fD (live (pid p)) (cg p) (bZ p)) (cE E Tryz.f172 res)=step (fun q=>I (pid q) (cg q) (bZ q)) p:=by
 cases p<;>kernel_rfl
def start_eq (I:cD)(ls:List L):eT E live I (bN Tryz.f172) (cZ pats ls) (cE E Tryz.f172 res)=start (fun q=>I (pid q) (cg q) (bZ q)) (ls.headD .hole).aQ ((aA 1 ls).headD .hole).aQ:=by kernel_rfl
def run_eq (n:Nat)(ls:List L):eN E live Tryz.f172 res n (cZ pats ls)=start (iter step n) (ls.headD .hole).aQ ((aA 1 ls).headD .hole).aQ:=cy (id:=pid) (vs:=cg) (hs:=bZ) (step:=step) (start:=fun J=>start J (ls.headD .hole).aQ ((aA 1 ls).headD .hole).aQ) step_eq (fun I=>start_eq I ls) n
def md (a0 a1:List aB):Bool:=eo a0 a1
def gd (a0 a1:List aB):Prop:=True
def acc (ls:List L):aD×aD:=((ls.headD .hole).aQ,((aA 1 ls).headD .hole).aQ)
def R:(aD×aD)->Option Bool:=RR (p2 gd) (u2 md)
def aq {a0 a1}(h:gd a0 a1):R ((a0.map aB.row),(a1.map aB.row))=some (md a0 a1):=aR (a:=(a0,a1)) h
def aW:ga:=CN pats res acc R
def bB (a0 a1:List aB)(hg:gd a0 a1)(h0:a0.length<=maxLen)(h1:a1.length<=maxLen):∃n,start (iter step n) (a0.map aB.row) (a1.map aB.row)=ret ((md a0 a1):Bool):=by
 unfold start md
 simp only [List.length_map]
 refine iC (pt:=fun i=>Pt.p0 (a0.map aB.row) (a1.map aB.row) (i:Int)) (fun hl J i h h2=>?_) (fun J=>?_)
 ·simp only [step,MM,List.length_map,aL h,aL h2,aJ,bq,cB,aB.ec h,aB.ec h2]
  rw [aI h h0]
  rw [call_eq (Z261.aq (a0:=a0[i]) (a1:=a1[i]) trivial),Z261.md]
  cases eo a0[i] a1[i]<;>rfl
 ·simp only [step,List.length_map,dY,bA]
def af:cG 172 aW:=VV (run:=fun n x=>start (iter step n) x.1 x.2) mix aF (.cons Z261.af .nil) Tryz.func172 (by kernel_rfl) run_eq (fun ls a hl e hg=>bB a.1 a.2 hg (by have h:(ls.headD .hole).aQ.length<=maxLen:=hl.1.len;have e:a.1.map aB.row=(ls.headD .hole).aQ:=(congrArg (fun x=>x.1) e.symm);rw [<-e] at h;simpa using h) (by have h:((aA 1 ls).headD .hole).aQ.length<=maxLen:=hl.2.1.len;have e:a.2.map aB.row=((aA 1 ls).headD .hole).aQ:=(congrArg (fun x=>x.2) e.symm);rw [<-e] at h;simpa using h))
end Z262
namespace Z263
def F (x0 x1:bt):aK:=(call (Z260.R (x0.aH,x1.aH)) fun v1=>(cond (!v1) bh (call (Z262.R (x0.aY,x1.aY)) fun v2=>(cond (!v2) bh eF))))
def md (a0 a1:aj):Bool:=eo a0 a1
def gd (a0 a1:aj):Prop:=True
def R:=RR (p2 gd) (u2 md)
def aq {a0 a1}(h:gd a0 a1):R ((aj.r a0),(aj.r a1))=some (md a0 a1):=aR (a:=(a0,a1)) h
def aW:=CN [.agg rU,.agg rU] oB RT.dec R
def bB (a0)(a1)(hg:gd a0 a1):F (aj.r a0) (aj.r a1)=ret (md a0 a1):=by
 unfold md
 show (call (Z260.R ((a0.aH.map (dO aa.row)),(a1.aH.map (dO aa.row)))) fun v1=>(bif (!v1) then bh else (call (Z262.R ((a0.aY.map aB.row),(a1.aY.map aB.row))) fun v2=>(cond (!v2) bh eF))))=_
 simp only [call_eq (Z260.aq (a0:=a0.aH) (a1:=a1.aH) trivial),Z260.md]
 simp only [call_eq (Z262.aq (a0:=a0.aY) (a1:=a1.aY) trivial),Z262.md]
 try simp only [bne,fq,bool_beq,eW]
 have e:eo a0 a1=(eo a0.aH a1.aH&&(eo a0.aY a1.aY&&true)):=by
  cases a0;cases a1
  rw [Bool.eq_iff_iff]
  simp only [dA,Bool.and_eq_true,aj.mk.injEq,and_true]
 rw [e]
 refine cS fun _=>?_
 refine cS fun _=>?_
 rfl
def af:cG 32 aW:=W2 17 F mix aF bB (.cons Z260.af (.cons Z262.af .nil)) Tryz.func32
end Z263
namespace Z264
inductive Pt where
 | p0 (a b:aD) (c:Int)
def pid:Pt->Nat
 | .p0 ..=>4
def cg:Pt->List V
 | .p0 a b c=>[.sl none 9 a,.sl none 9 b,.int .i64 c]
def bZ:Pt->List aZ
 | .p0 a b c=>[]
def step (J:Pt->aK):Pt->aK
 | .p0 a b c=>(cond (decide (c<(a.length:Int))) (m2 c (a.length:Int) (m2 c (b.length:Int) (cond (!((qk a (toNat c))==(qk b (toNat c)))) bh (J (.p0 a b (i64.wrap (c+1))))))) eF)
def start (J:Pt->aK)(x0 x1:aD):aK:=(cond ((x0.length:Int) != (x1.length:Int)) bh (J (.p0 x0 x1 0)))
def live:Nat->Live:=fun i=>match i with | 4=>[(0,none),(1,none),(5,none)] | _=>[]
def pats:List gk:=[.rd (.sl 9),.rd (.sl 9)]
def res:RP:=.one (.rd (.bool))
abbrev E:Env:={ T:=assoc kB,G:=dD [],nt:=26 }
def step_eq (I:cD)(p:Pt):cV E live I (pid p) (bN Tryz.f35) (fD (live (pid p)) (cg p) (bZ p)) (cE E Tryz.f35 res)=step (fun q=>I (pid q) (cg q) (bZ q)) p:=by
 cases p<;>kernel_rfl
def start_eq (I:cD)(ls:List L):eT E live I (bN Tryz.f35) (cZ pats ls) (cE E Tryz.f35 res)=start (fun q=>I (pid q) (cg q) (bZ q)) (ls.headD .hole).aQ ((aA 1 ls).headD .hole).aQ:=by kernel_rfl
def run_eq (n:Nat)(ls:List L):eN E live Tryz.f35 res n (cZ pats ls)=start (iter step n) (ls.headD .hole).aQ ((aA 1 ls).headD .hole).aQ:=cy (id:=pid) (vs:=cg) (hs:=bZ) (step:=step) (start:=fun J=>start J (ls.headD .hole).aQ ((aA 1 ls).headD .hole).aQ) step_eq (fun I=>start_eq I ls) n
def md (a0 a1:List aE):Bool:=eo a0 a1
def gd (a0 a1:List aE):Prop:=True
def acc (ls:List L):aD×aD:=((ls.headD .hole).aQ,((aA 1 ls).headD .hole).aQ)
def R:(aD×aD)->Option Bool:=RR (p2 gd) (u2 md)
def aq {a0 a1}(h:gd a0 a1):R ((a0.map cI),(a1.map cI))=some (md a0 a1):=aR (a:=(a0,a1)) h
def aW:ga:=CN pats res acc R
def bB (a0 a1:List aE)(hg:gd a0 a1)(h0:a0.length<=maxLen)(h1:a1.length<=maxLen):∃n,start (iter step n) (a0.map cI) (a1.map cI)=ret ((md a0 a1):Bool):=by
 unfold start md
 simp only [List.length_map]
 refine iC (pt:=fun i=>Pt.p0 (a0.map cI) (a1.map cI) (i:Int)) (fun hl J i h h2=>?_) (fun J=>?_)
 ·simp only [step,MM,List.length_map,aL h,aL h2,aJ,bq,cB,qe h,qe h2]
  rw [aI h h0]
  simp only [bne,fq,bool_beq,eW]
  cases eo a0[i] a1[i]<;>rfl
 ·simp only [step,List.length_map,dY,bA]
def af:cG 35 aW:=VV (run:=fun n x=>start (iter step n) x.1 x.2) mix aF .nil Tryz.func35 (by kernel_rfl) run_eq (fun ls a hl e hg=>bB a.1 a.2 hg (by have h:(ls.headD .hole).aQ.length<=maxLen:=hl.1.len;have e:a.1.map cI=(ls.headD .hole).aQ:=(congrArg (fun x=>x.1) e.symm);rw [<-e] at h;simpa using h) (by have h:((aA 1 ls).headD .hole).aQ.length<=maxLen:=hl.2.1.len;have e:a.2.map cI=((aA 1 ls).headD .hole).aQ:=(congrArg (fun x=>x.2) e.symm);rw [<-e] at h;simpa using h))
end Z264
namespace Z265
def F (x0 x1:bf):aK:=(cond (!(x0.bn==x1.bn)) bh (cond (x0.bM != x1.bM) bh (cond (x0.cq != x1.cq) bh (call (Z264.R (x0.bH,x1.bH)) fun v1=>(cond (!v1) bh eF)))))
def md (a0 a1:ah):Bool:=eo a0 a1
def gd (a0 a1:ah):Prop:=True
def R:=RR (p2 gd) (u2 md)
def aq {a0 a1}(h:gd a0 a1):R ((ah.r a0),(ah.r a1))=some (md a0 a1):=aR (a:=(a0,a1)) h
def aW:=CN [.agg sn,.agg sn] oB RT.dec R
def bB (a0)(a1)(hg:gd a0 a1):F (ah.r a0) (ah.r a1)=ret (md a0 a1):=by
 unfold md
 show (bif (!(a0.bn==a1.bn)) then bh else (bif (a0.bM != a1.bM) then bh else (bif (a0.cq != a1.cq) then bh else (call (Z264.R ((a0.bH.map cI),(a1.bH.map cI))) fun v1=>(cond (!v1) bh eF)))))=_
 simp only [call_eq (Z264.aq (a0:=a0.bH) (a1:=a1.bH) trivial),Z264.md]
 try simp only [bne,fq,bool_beq,eW]
 have e:eo a0 a1=(eo a0.bn a1.bn&&(eo a0.bM a1.bM&&(eo a0.cq a1.cq&&(eo a0.bH a1.bH&&true)))):=by
  cases a0;cases a1
  rw [Bool.eq_iff_iff]
  simp only [dA,Bool.and_eq_true,ah.mk.injEq,and_true]
 rw [e]
 refine cS fun _=>?_
 refine cS fun _=>?_
 refine cS fun _=>?_
 refine cS fun _=>?_
 rfl
def af:cG 186 aW:=W2 26 F mix aF bB (.cons Z264.af .nil) Tryz.func186
end Z265
namespace Z266
def F (x0 x1:cO):aK:=(call (Z263.R (x0.bR,x1.bR)) fun v1=>(cond (!v1) bh (cond (x0.gF != x1.gF) bh (call (Z265.R (x0.aV,x1.aV)) fun v2=>(cond (!v2) bh (call (Z253.R (x0.bK,x1.bK)) fun v3=>(cond (!v3) bh (cond (x0.gO != x1.gO) bh eF))))))))
def md (a0 a1:aM):Bool:=eo a0 a1
def gd (a0 a1:aM):Prop:=True
def R:=RR (p2 gd) (u2 md)
def aq {a0 a1}(h:gd a0 a1):R ((aM.r a0),(aM.r a1))=some (md a0 a1):=aR (a:=(a0,a1)) h
def aW:=CN [.agg BL,.agg BL] oB RT.dec R
def bB (a0)(a1)(hg:gd a0 a1):F (aM.r a0) (aM.r a1)=ret (md a0 a1):=by
 unfold md
 show (call (Z263.R ((aj.r a0.bR),(aj.r a1.bR))) fun v1=>(bif (!v1) then bh else (bif (a0.gF != a1.gF) then bh else (call (Z265.R ((ah.r a0.aV),(ah.r a1.aV))) fun v2=>(bif (!v2) then bh else (call (Z253.R ((a0.bK.map bu),(a1.bK.map bu))) fun v3=>(cond (!v3) bh (cond (a0.gO != a1.gO) bh eF))))))))=_
 simp only [call_eq (Z263.aq (a0:=a0.bR) (a1:=a1.bR) trivial),Z263.md]
 simp only [call_eq (Z265.aq (a0:=a0.aV) (a1:=a1.aV) trivial),Z265.md]
 simp only [call_eq (Z253.aq (a0:=a0.bK) (a1:=a1.bK) trivial),Z253.md]
 try simp only [bne,fq,bool_beq,eW]
 have e:eo a0 a1=(eo a0.bR a1.bR&&(eo a0.gF a1.gF&&(eo a0.aV a1.aV&&(eo a0.bK a1.bK&&(eo a0.gO a1.gO&&true))))):=by
  cases a0;cases a1
  rw [Bool.eq_iff_iff]
  simp only [dA,Bool.and_eq_true,aM.mk.injEq,and_true]
 rw [e]
 refine cS fun _=>?_
 refine cS fun _=>?_
 refine cS fun _=>?_
 refine cS fun _=>?_
 refine cS fun _=>?_
 rfl
def af:cG 47 aW:=W2 33 F mix aF bB (.cons Z263.af (.cons Z265.af (.cons Z253.af .nil))) Tryz.func47
end Z266
namespace Z267
inductive Pt where
 | p0 (a b:aD) (c:Int)
def pid:Pt->Nat
 | .p0 ..=>4
def cg:Pt->List V
 | .p0 a b c=>[.sl none 64 a,.sl none 64 b,.int .i64 c]
def bZ:Pt->List aZ
 | .p0 a b c=>[]
def step (J:Pt->aK):Pt->aK
 | .p0 a b c=>(cond (decide (c<(a.length:Int))) (m2 c (a.length:Int) (m2 c (b.length:Int) (call (Z266.R ((cO.at a (toNat c)),(cO.at b (toNat c)))) fun v1=>(cond (!v1) bh (J (.p0 a b (i64.wrap (c+1)))))))) eF)
def start (J:Pt->aK)(x0 x1:aD):aK:=(cond ((x0.length:Int) != (x1.length:Int)) bh (J (.p0 x0 x1 0)))
def live:Nat->Live:=fun i=>match i with | 4=>[(0,none),(1,none),(5,none)] | _=>[]
def pats:List gk:=[.rd (.sl 64),.rd (.sl 64)]
def res:RP:=.one (.rd (.bool))
abbrev E:Env:={ T:=assoc kB,G:=dD [(47,Z266.aW)],nt:=27 }
def step_eq (I:cD)(p:Pt):cV E live I (pid p) (bN Tryz.f31) (fD (live (pid p)) (cg p) (bZ p)) (cE E Tryz.f31 res)=step (fun q=>I (pid q) (cg q) (bZ q)) p:=by
 cases p<;>kernel_rfl
def start_eq (I:cD)(ls:List L):eT E live I (bN Tryz.f31) (cZ pats ls) (cE E Tryz.f31 res)=start (fun q=>I (pid q) (cg q) (bZ q)) (ls.headD .hole).aQ ((aA 1 ls).headD .hole).aQ:=by kernel_rfl
def run_eq (n:Nat)(ls:List L):eN E live Tryz.f31 res n (cZ pats ls)=start (iter step n) (ls.headD .hole).aQ ((aA 1 ls).headD .hole).aQ:=cy (id:=pid) (vs:=cg) (hs:=bZ) (step:=step) (start:=fun J=>start J (ls.headD .hole).aQ ((aA 1 ls).headD .hole).aQ) step_eq (fun I=>start_eq I ls) n
def md (a0 a1:List aM):Bool:=eo a0 a1
def gd (a0 a1:List aM):Prop:=True
def acc (ls:List L):aD×aD:=((ls.headD .hole).aQ,((aA 1 ls).headD .hole).aQ)
def R:(aD×aD)->Option Bool:=RR (p2 gd) (u2 md)
def aq {a0 a1}(h:gd a0 a1):R ((a0.map aM.row),(a1.map aM.row))=some (md a0 a1):=aR (a:=(a0,a1)) h
def aW:ga:=CN pats res acc R
def bB (a0 a1:List aM)(hg:gd a0 a1)(h0:a0.length<=maxLen)(h1:a1.length<=maxLen):∃n,start (iter step n) (a0.map aM.row) (a1.map aM.row)=ret ((md a0 a1):Bool):=by
 unfold start md
 simp only [List.length_map]
 refine iC (pt:=fun i=>Pt.p0 (a0.map aM.row) (a1.map aM.row) (i:Int)) (fun hl J i h h2=>?_) (fun J=>?_)
 ·simp only [step,MM,List.length_map,aL h,aL h2,aJ,bq,cB,aM.ec h,aM.ec h2]
  rw [aI h h0]
  rw [call_eq (Z266.aq (a0:=a0[i]) (a1:=a1[i]) trivial),Z266.md]
  cases eo a0[i] a1[i]<;>rfl
 ·simp only [step,List.length_map,dY,bA]
def af:cG 31 aW:=VV (run:=fun n x=>start (iter step n) x.1 x.2) mix aF (.cons Z266.af .nil) Tryz.func31 (by kernel_rfl) run_eq (fun ls a hl e hg=>bB a.1 a.2 hg (by have h:(ls.headD .hole).aQ.length<=maxLen:=hl.1.len;have e:a.1.map aM.row=(ls.headD .hole).aQ:=(congrArg (fun x=>x.1) e.symm);rw [<-e] at h;simpa using h) (by have h:((aA 1 ls).headD .hole).aQ.length<=maxLen:=hl.2.1.len;have e:a.2.map aM.row=((aA 1 ls).headD .hole).aQ:=(congrArg (fun x=>x.2) e.symm);rw [<-e] at h;simpa using h))
end Z267
namespace Z268
inductive Pt where
 | p0 (a b:aD) (c:Int)
def pid:Pt->Nat
 | .p0 ..=>4
def cg:Pt->List V
 | .p0 a b c=>[.sl none 61 a,.sl none 61 b,.int .i64 c]
def bZ:Pt->List aZ
 | .p0 a b c=>[]
def step (J:Pt->aK):Pt->aK
 | .p0 a b c=>(cond (decide (c<(a.length:Int))) (m2 c (a.length:Int) (m2 c (b.length:Int) (call (Z265.R ((bf.at a (toNat c)),(bf.at b (toNat c)))) fun v1=>(cond (!v1) bh (J (.p0 a b (i64.wrap (c+1)))))))) eF)
def start (J:Pt->aK)(x0 x1:aD):aK:=(cond ((x0.length:Int) != (x1.length:Int)) bh (J (.p0 x0 x1 0)))
def live:Nat->Live:=fun i=>match i with | 4=>[(0,none),(1,none),(5,none)] | _=>[]
def pats:List gk:=[.rd (.sl 61),.rd (.sl 61)]
def res:RP:=.one (.rd (.bool))
abbrev E:Env:={ T:=assoc kB,G:=dD [(186,Z265.aW)],nt:=27 }
def step_eq (I:cD)(p:Pt):cV E live I (pid p) (bN Tryz.f494) (fD (live (pid p)) (cg p) (bZ p)) (cE E Tryz.f494 res)=step (fun q=>I (pid q) (cg q) (bZ q)) p:=by
 cases p<;>kernel_rfl
def start_eq (I:cD)(ls:List L):eT E live I (bN Tryz.f494) (cZ pats ls) (cE E Tryz.f494 res)=start (fun q=>I (pid q) (cg q) (bZ q)) (ls.headD .hole).aQ ((aA 1 ls).headD .hole).aQ:=by kernel_rfl
def run_eq (n:Nat)(ls:List L):eN E live Tryz.f494 res n (cZ pats ls)=start (iter step n) (ls.headD .hole).aQ ((aA 1 ls).headD .hole).aQ:=cy (id:=pid) (vs:=cg) (hs:=bZ) (step:=step) (start:=fun J=>start J (ls.headD .hole).aQ ((aA 1 ls).headD .hole).aQ) step_eq (fun I=>start_eq I ls) n
def md (a0 a1:List ah):Bool:=eo a0 a1
def gd (a0 a1:List ah):Prop:=True
def acc (ls:List L):aD×aD:=((ls.headD .hole).aQ,((aA 1 ls).headD .hole).aQ)
def R:(aD×aD)->Option Bool:=RR (p2 gd) (u2 md)
def aq {a0 a1}(h:gd a0 a1):R ((a0.map ah.row),(a1.map ah.row))=some (md a0 a1):=aR (a:=(a0,a1)) h
def aW:ga:=CN pats res acc R
def bB (a0 a1:List ah)(hg:gd a0 a1)(h0:a0.length<=maxLen)(h1:a1.length<=maxLen):∃n,start (iter step n) (a0.map ah.row) (a1.map ah.row)=ret ((md a0 a1):Bool):=by
 unfold start md
 simp only [List.length_map]
 refine iC (pt:=fun i=>Pt.p0 (a0.map ah.row) (a1.map ah.row) (i:Int)) (fun hl J i h h2=>?_) (fun J=>?_)
 ·simp only [step,MM,List.length_map,aL h,aL h2,aJ,bq,cB,ah.ec h,ah.ec h2]
  rw [aI h h0]
  rw [call_eq (Z265.aq (a0:=a0[i]) (a1:=a1[i]) trivial),Z265.md]
  cases eo a0[i] a1[i]<;>rfl
 ·simp only [step,List.length_map,dY,bA]
def af:cG 494 aW:=VV (run:=fun n x=>start (iter step n) x.1 x.2) mix aF (.cons Z265.af .nil) Tryz.func494 (by kernel_rfl) run_eq (fun ls a hl e hg=>bB a.1 a.2 hg (by have h:(ls.headD .hole).aQ.length<=maxLen:=hl.1.len;have e:a.1.map ah.row=(ls.headD .hole).aQ:=(congrArg (fun x=>x.1) e.symm);rw [<-e] at h;simpa using h) (by have h:((aA 1 ls).headD .hole).aQ.length<=maxLen:=hl.2.1.len;have e:a.2.map ah.row=((aA 1 ls).headD .hole).aQ:=(congrArg (fun x=>x.2) e.symm);rw [<-e] at h;simpa using h))
end Z268
namespace Z269
def F (x0 x1:dS):aK:=(call (Z259.R (x0.aU,x1.aU)) fun v1=>(cond (!v1) bh (call (Z268.R (x0.bP,x1.bP)) fun v2=>(cond (!v2) bh eF))))
def md (a0 a1:aN):Bool:=eo a0 a1
def gd (a0 a1:aN):Prop:=True
def R:=RR (p2 gd) (u2 md)
def aq {a0 a1}(h:gd a0 a1):R ((aN.r a0),(aN.r a1))=some (md a0 a1):=aR (a:=(a0,a1)) h
def aW:=CN [.agg tA,.agg tA] oB RT.dec R
def bB (a0)(a1)(hg:gd a0 a1):F (aN.r a0) (aN.r a1)=ret (md a0 a1):=by
 unfold md
 show (call (Z259.R ((a0.aU.map aa.row),(a1.aU.map aa.row))) fun v1=>(bif (!v1) then bh else (call (Z268.R ((a0.bP.map ah.row),(a1.bP.map ah.row))) fun v2=>(cond (!v2) bh eF))))=_
 simp only [call_eq (Z259.aq (a0:=a0.aU) (a1:=a1.aU) trivial),Z259.md]
 simp only [call_eq (Z268.aq (a0:=a0.bP) (a1:=a1.bP) trivial),Z268.md]
 try simp only [bne,fq,bool_beq,eW]
 have e:eo a0 a1=(eo a0.aU a1.aU&&(eo a0.bP a1.bP&&true)):=by
  cases a0;cases a1
  rw [Bool.eq_iff_iff]
  simp only [dA,Bool.and_eq_true,aN.mk.injEq,and_true]
 rw [e]
 refine cS fun _=>?_
 refine cS fun _=>?_
 rfl
def af:cG 427 aW:=W2 17 F mix aF bB (.cons Z259.af (.cons Z268.af .nil)) Tryz.func427
end Z269
namespace Z270
inductive Pt where
 | p0 (a b:aD) (c:Int)
def pid:Pt->Nat
 | .p0 ..=>4
def cg:Pt->List V
 | .p0 a b c=>[.sl none 293 a,.sl none 293 b,.int .i64 c]
def bZ:Pt->List aZ
 | .p0 a b c=>[]
def step (J:Pt->aK):Pt->aK
 | .p0 a b c=>(cond (decide (c<(a.length:Int))) (m2 c (a.length:Int) (m2 c (b.length:Int) (call (Z269.R ((dS.at a (toNat c)),(dS.at b (toNat c)))) fun v1=>(cond (!v1) bh (J (.p0 a b (i64.wrap (c+1)))))))) eF)
def start (J:Pt->aK)(x0 x1:aD):aK:=(cond ((x0.length:Int) != (x1.length:Int)) bh (J (.p0 x0 x1 0)))
def live:Nat->Live:=fun i=>match i with | 4=>[(0,none),(1,none),(5,none)] | _=>[]
def pats:List gk:=[.rd (.sl 293),.rd (.sl 293)]
def res:RP:=.one (.rd (.bool))
abbrev E:Env:={ T:=assoc kB,G:=dD [(427,Z269.aW)],nt:=27 }
def step_eq (I:cD)(p:Pt):cV E live I (pid p) (bN Tryz.f330) (fD (live (pid p)) (cg p) (bZ p)) (cE E Tryz.f330 res)=step (fun q=>I (pid q) (cg q) (bZ q)) p:=by
 cases p<;>kernel_rfl
def start_eq (I:cD)(ls:List L):eT E live I (bN Tryz.f330) (cZ pats ls) (cE E Tryz.f330 res)=start (fun q=>I (pid q) (cg q) (bZ q)) (ls.headD .hole).aQ ((aA 1 ls).headD .hole).aQ:=by kernel_rfl
def run_eq (n:Nat)(ls:List L):eN E live Tryz.f330 res n (cZ pats ls)=start (iter step n) (ls.headD .hole).aQ ((aA 1 ls).headD .hole).aQ:=cy (id:=pid) (vs:=cg) (hs:=bZ) (step:=step) (start:=fun J=>start J (ls.headD .hole).aQ ((aA 1 ls).headD .hole).aQ) step_eq (fun I=>start_eq I ls) n
def md (a0 a1:List aN):Bool:=eo a0 a1
def gd (a0 a1:List aN):Prop:=True
def acc (ls:List L):aD×aD:=((ls.headD .hole).aQ,((aA 1 ls).headD .hole).aQ)
def R:(aD×aD)->Option Bool:=RR (p2 gd) (u2 md)
def aq {a0 a1}(h:gd a0 a1):R ((a0.map aN.row),(a1.map aN.row))=some (md a0 a1):=aR (a:=(a0,a1)) h
def aW:ga:=CN pats res acc R
def bB (a0 a1:List aN)(hg:gd a0 a1)(h0:a0.length<=maxLen)(h1:a1.length<=maxLen):∃n,start (iter step n) (a0.map aN.row) (a1.map aN.row)=ret ((md a0 a1):Bool):=by
 unfold start md
 simp only [List.length_map]
 refine iC (pt:=fun i=>Pt.p0 (a0.map aN.row) (a1.map aN.row) (i:Int)) (fun hl J i h h2=>?_) (fun J=>?_)
 ·simp only [step,MM,List.length_map,aL h,aL h2,aJ,bq,cB,aN.ec h,aN.ec h2]
  rw [aI h h0]
  rw [call_eq (Z269.aq (a0:=a0[i]) (a1:=a1[i]) trivial),Z269.md]
  cases eo a0[i] a1[i]<;>rfl
 ·simp only [step,List.length_map,dY,bA]
def af:cG 330 aW:=VV (run:=fun n x=>start (iter step n) x.1 x.2) mix aF (.cons Z269.af .nil) Tryz.func330 (by kernel_rfl) run_eq (fun ls a hl e hg=>bB a.1 a.2 hg (by have h:(ls.headD .hole).aQ.length<=maxLen:=hl.1.len;have e:a.1.map aN.row=(ls.headD .hole).aQ:=(congrArg (fun x=>x.1) e.symm);rw [<-e] at h;simpa using h) (by have h:((aA 1 ls).headD .hole).aQ.length<=maxLen:=hl.2.1.len;have e:a.2.map aN.row=((aA 1 ls).headD .hole).aQ:=(congrArg (fun x=>x.2) e.symm);rw [<-e] at h;simpa using h))
end Z270
namespace Z271
def F (x0 x1:cR):aK:=(call (Z270.R (x0.bK,x1.bK)) fun v1=>(cond (!v1) bh (cond (x0.gS != x1.gS) bh eF)))
def md (a0 a1:av):Bool:=eo a0 a1
def gd (a0 a1:av):Prop:=True
def R:=RR (p2 gd) (u2 md)
def aq {a0 a1}(h:gd a0 a1):R ((av.r a0),(av.r a1))=some (md a0 a1):=aR (a:=(a0,a1)) h
def aW:=CN [.agg ze,.agg ze] oB RT.dec R
def bB (a0)(a1)(hg:gd a0 a1):F (av.r a0) (av.r a1)=ret (md a0 a1):=by
 unfold md
 show (call (Z270.R ((a0.bK.map aN.row),(a1.bK.map aN.row))) fun v1=>(cond (!v1) bh (cond (a0.gS != a1.gS) bh eF)))=_
 simp only [call_eq (Z270.aq (a0:=a0.bK) (a1:=a1.bK) trivial),Z270.md]
 try simp only [bne,fq,bool_beq,eW]
 have e:eo a0 a1=(eo a0.bK a1.bK&&(eo a0.gS a1.gS&&true)):=by
  cases a0;cases a1
  rw [Bool.eq_iff_iff]
  simp only [dA,Bool.and_eq_true,av.mk.injEq,and_true]
 rw [e]
 refine cS fun _=>?_
 refine cS fun _=>?_
 rfl
def af:cG 173 aW:=W2 16 F mix aF bB (.cons Z270.af .nil) Tryz.func173
end Z271
namespace Z272
inductive Pt where
 | p0 (a b:aD) (c:Int)
def pid:Pt->Nat
 | .p0 ..=>4
def cg:Pt->List V
 | .p0 a b c=>[.sl none 227 a,.sl none 227 b,.int .i64 c]
def bZ:Pt->List aZ
 | .p0 a b c=>[]
def step (J:Pt->aK):Pt->aK
 | .p0 a b c=>(cond (decide (c<(a.length:Int))) (m2 c (a.length:Int) (m2 c (b.length:Int) (call (Z271.R ((cR.at a (toNat c)),(cR.at b (toNat c)))) fun v1=>(cond (!v1) bh (J (.p0 a b (i64.wrap (c+1)))))))) eF)
def start (J:Pt->aK)(x0 x1:aD):aK:=(cond ((x0.length:Int) != (x1.length:Int)) bh (J (.p0 x0 x1 0)))
def live:Nat->Live:=fun i=>match i with | 4=>[(0,none),(1,none),(5,none)] | _=>[]
def pats:List gk:=[.rd (.sl 227),.rd (.sl 227)]
def res:RP:=.one (.rd (.bool))
abbrev E:Env:={ T:=assoc kB,G:=dD [(173,Z271.aW)],nt:=27 }
def step_eq (I:cD)(p:Pt):cV E live I (pid p) (bN Tryz.f33) (fD (live (pid p)) (cg p) (bZ p)) (cE E Tryz.f33 res)=step (fun q=>I (pid q) (cg q) (bZ q)) p:=by
 cases p<;>kernel_rfl
def start_eq (I:cD)(ls:List L):eT E live I (bN Tryz.f33) (cZ pats ls) (cE E Tryz.f33 res)=start (fun q=>I (pid q) (cg q) (bZ q)) (ls.headD .hole).aQ ((aA 1 ls).headD .hole).aQ:=by kernel_rfl
def run_eq (n:Nat)(ls:List L):eN E live Tryz.f33 res n (cZ pats ls)=start (iter step n) (ls.headD .hole).aQ ((aA 1 ls).headD .hole).aQ:=cy (id:=pid) (vs:=cg) (hs:=bZ) (step:=step) (start:=fun J=>start J (ls.headD .hole).aQ ((aA 1 ls).headD .hole).aQ) step_eq (fun I=>start_eq I ls) n
def md (a0 a1:List av):Bool:=eo a0 a1
def gd (a0 a1:List av):Prop:=True
def acc (ls:List L):aD×aD:=((ls.headD .hole).aQ,((aA 1 ls).headD .hole).aQ)
def R:(aD×aD)->Option Bool:=RR (p2 gd) (u2 md)
def aq {a0 a1}(h:gd a0 a1):R ((a0.map av.row),(a1.map av.row))=some (md a0 a1):=aR (a:=(a0,a1)) h
def aW:ga:=CN pats res acc R
def bB (a0 a1:List av)(hg:gd a0 a1)(h0:a0.length<=maxLen)(h1:a1.length<=maxLen):∃n,start (iter step n) (a0.map av.row) (a1.map av.row)=ret ((md a0 a1):Bool):=by
 unfold start md
 simp only [List.length_map]
 refine iC (pt:=fun i=>Pt.p0 (a0.map av.row) (a1.map av.row) (i:Int)) (fun hl J i h h2=>?_) (fun J=>?_)
 ·simp only [step,MM,List.length_map,aL h,aL h2,aJ,bq,cB,av.ec h,av.ec h2]
  rw [aI h h0]
  rw [call_eq (Z271.aq (a0:=a0[i]) (a1:=a1[i]) trivial),Z271.md]
  cases eo a0[i] a1[i]<;>rfl
 ·simp only [step,List.length_map,dY,bA]
def af:cG 33 aW:=VV (run:=fun n x=>start (iter step n) x.1 x.2) mix aF (.cons Z271.af .nil) Tryz.func33 (by kernel_rfl) run_eq (fun ls a hl e hg=>bB a.1 a.2 hg (by have h:(ls.headD .hole).aQ.length<=maxLen:=hl.1.len;have e:a.1.map av.row=(ls.headD .hole).aQ:=(congrArg (fun x=>x.1) e.symm);rw [<-e] at h;simpa using h) (by have h:((aA 1 ls).headD .hole).aQ.length<=maxLen:=hl.2.1.len;have e:a.2.map av.row=((aA 1 ls).headD .hole).aQ:=(congrArg (fun x=>x.2) e.symm);rw [<-e] at h;simpa using h))
end Z272
namespace Z273
def F (x0 x1:bk):aK:=(cond (!(x0.fName==x1.fName)) bh (cond (x0.bz != x1.bz) bh eF))
def md (a0 a1:bk):Bool:=eo a0 a1
def gd (a0 a1:bk):Prop:=True
def R:=RR (p2 gd) (u2 md)
def aq {a0 a1}(h:gd a0 a1):R (a0,a1)=some (md a0 a1):=aR (a:=(a0,a1)) h
def aW:=CN [.agg AX,.agg AX] oB RT.dec R
def bB (a0)(a1)(hg:gd a0 a1):F a0 a1=ret (md a0 a1):=by
 unfold md
 show (cond (!(a0.fName==a1.fName)) bh (cond (a0.bz != a1.bz) bh eF))=_
 try simp only [bne,fq,bool_beq,eW]
 have e:eo a0 a1=(eo a0.fName a1.fName&&(eo a0.bz a1.bz&&true)):=by
  cases a0;cases a1
  rw [Bool.eq_iff_iff]
  simp only [dA,Bool.and_eq_true,bk.mk.injEq,and_true]
 rw [e]
 refine cS fun _=>?_
 refine cS fun _=>?_
 rfl
def af:cG 174 aW:=W2 15 F mix aF bB .nil Tryz.func174
end Z273
namespace Z274
inductive Pt where
 | p0 (a b:aD) (c:Int)
def pid:Pt->Nat
 | .p0 ..=>4
def cg:Pt->List V
 | .p0 a b c=>[.sl none 222 a,.sl none 222 b,.int .i64 c]
def bZ:Pt->List aZ
 | .p0 a b c=>[]
def step (J:Pt->aK):Pt->aK
 | .p0 a b c=>(cond (decide (c<(a.length:Int))) (m2 c (a.length:Int) (m2 c (b.length:Int) (call (Z273.R ((bk.at a (toNat c)),(bk.at b (toNat c)))) fun v1=>(cond (!v1) bh (J (.p0 a b (i64.wrap (c+1)))))))) eF)
def start (J:Pt->aK)(x0 x1:aD):aK:=(cond ((x0.length:Int) != (x1.length:Int)) bh (J (.p0 x0 x1 0)))
def live:Nat->Live:=fun i=>match i with | 4=>[(0,none),(1,none),(5,none)] | _=>[]
def pats:List gk:=[.rd (.sl 222),.rd (.sl 222)]
def res:RP:=.one (.rd (.bool))
abbrev E:Env:={ T:=assoc kB,G:=dD [(174,Z273.aW)],nt:=27 }
def step_eq (I:cD)(p:Pt):cV E live I (pid p) (bN Tryz.f34) (fD (live (pid p)) (cg p) (bZ p)) (cE E Tryz.f34 res)=step (fun q=>I (pid q) (cg q) (bZ q)) p:=by
 cases p<;>kernel_rfl
def start_eq (I:cD)(ls:List L):eT E live I (bN Tryz.f34) (cZ pats ls) (cE E Tryz.f34 res)=start (fun q=>I (pid q) (cg q) (bZ q)) (ls.headD .hole).aQ ((aA 1 ls).headD .hole).aQ:=by kernel_rfl
def run_eq (n:Nat)(ls:List L):eN E live Tryz.f34 res n (cZ pats ls)=start (iter step n) (ls.headD .hole).aQ ((aA 1 ls).headD .hole).aQ:=cy (id:=pid) (vs:=cg) (hs:=bZ) (step:=step) (start:=fun J=>start J (ls.headD .hole).aQ ((aA 1 ls).headD .hole).aQ) step_eq (fun I=>start_eq I ls) n
def md (a0 a1:List bk):Bool:=eo a0 a1
def gd (a0 a1:List bk):Prop:=True
def acc (ls:List L):aD×aD:=((ls.headD .hole).aQ,((aA 1 ls).headD .hole).aQ)
def R:(aD×aD)->Option Bool:=RR (p2 gd) (u2 md)
def aq {a0 a1}(h:gd a0 a1):R ((a0.map bk.row),(a1.map bk.row))=some (md a0 a1):=aR (a:=(a0,a1)) h
def aW:ga:=CN pats res acc R
def bB (a0 a1:List bk)(hg:gd a0 a1)(h0:a0.length<=maxLen)(h1:a1.length<=maxLen):∃n,start (iter step n) (a0.map bk.row) (a1.map bk.row)=ret ((md a0 a1):Bool):=by
 unfold start md
 simp only [List.length_map]
 refine iC (pt:=fun i=>Pt.p0 (a0.map bk.row) (a1.map bk.row) (i:Int)) (fun hl J i h h2=>?_) (fun J=>?_)
 ·simp only [step,MM,List.length_map,aL h,aL h2,aJ,bq,cB,bk.ec h,bk.ec h2]
  rw [aI h h0]
  rw [call_eq (Z273.aq (a0:=a0[i]) (a1:=a1[i]) trivial),Z273.md]
  cases eo a0[i] a1[i]<;>rfl
 ·simp only [step,List.length_map,dY,bA]
def af:cG 34 aW:=VV (run:=fun n x=>start (iter step n) x.1 x.2) mix aF (.cons Z273.af .nil) Tryz.func34 (by kernel_rfl) run_eq (fun ls a hl e hg=>bB a.1 a.2 hg (by have h:(ls.headD .hole).aQ.length<=maxLen:=hl.1.len;have e:a.1.map bk.row=(ls.headD .hole).aQ:=(congrArg (fun x=>x.1) e.symm);rw [<-e] at h;simpa using h) (by have h:((aA 1 ls).headD .hole).aQ.length<=maxLen:=hl.2.1.len;have e:a.2.map bk.row=((aA 1 ls).headD .hole).aQ:=(congrArg (fun x=>x.2) e.symm);rw [<-e] at h;simpa using h))
end Z274
namespace Z275
set_option maxHeartbeats 8000000
inductive Pt where
 | p0 (a b:Int) (c:aD)
def pid:Pt->Nat
 | .p0 ..=>2
def cg:Pt->List V
 | .p0 a b c=>[.own 0,.int .i64 a,.int .i64 b]
def bZ:Pt->List aZ
 | .p0 a b c=>[.row 3 c]
def step (J:Pt->aK):Pt->aK
 | .p0 a b c=>(cond (decide (b<(c.length:Int))) (m2 b (c.length:Int) (J (.p0 (i64.wrap (a+1)) (i64.wrap (b+1)) (List.set c (toNat b) [L.int a])))) (ret ((a,c):Int×aD)))
def start (J:Pt->aK)(x0:aD)(x1:Int):aK:=J (.p0 x1 0 x0)
def live:Nat->Live:=fun i=>match i with | 2=>[(0,none),(1,none),(5,none)] | _=>[]
def pats:List (Bool×List K):=[(false,[.sl 3]),(false,[aC])]
def res:RP:=.oA [3]
abbrev E:Env:={ T:=assoc kB,G:=dD [],nt:=19,M:=fT [],np:=1,mt:=true }
def step_eq (I:cD)(p:Pt):cV E live I (pid p) (bN Tryz.f179) (fD (live (pid p)) (cg p) (bZ p)) (cE E Tryz.f179 res)=step (fun q=>I (pid q) (cg q) (bZ q)) p:=by
 cases p<;>kernel_rfl
def start_eq (I:cD)(ls:List L):eT E live I (bN Tryz.f179) (gm pats ls) (cE E Tryz.f179 res)=start (fun q=>I (pid q) (cg q) (bZ q)) (ls.headD .hole).aQ ((aA 1 ls).headD .hole).toInt:=by kernel_rfl
def run_eq (n:Nat)(ls:List L):eN E live Tryz.f179 res n (gm pats ls)=start (iter step n) (ls.headD .hole).aQ ((aA 1 ls).headD .hole).toInt:=cy (id:=pid) (vs:=cg) (hs:=bZ) (step:=step) (start:=fun J=>start J (ls.headD .hole).aQ ((aA 1 ls).headD .hole).toInt) step_eq (fun I=>start_eq I ls) n
def el (x k:Int):Int×Int:=((i64.wrap (k+1)),(k))
def gT (x k:Int)(hk:eL k):eL (el x k).1:=(cj _)
def cnt (x:Int):Nat:=1
def sum (a:List Int):Nat:=(a.map cnt).sum
def md (a0:List Int)(a1:Int):Int×List Int:=jq el a0 a1
def gd (a0:List Int)(a1:Int):Prop:=eL a1
def acc (ls:List L):aD×Int:=((ls.headD .hole).aQ,((aA 1 ls).headD .hole).toInt)
def R:(aD×Int)->Option (Int×aD):=RR (p2 gd) (u2 md)
def aq {a0 a1}(h:gd a0 a1):R ((a0.map bu),a1)=some ((md a0 a1).1,((md a0 a1).2.map bu)):=aR (a:=(a0,a1)) h
def aW:gP:=MN pats acc R
def bB (a0:List Int)(a1:Int)(hg:gd a0 a1)(h0:a0.length<=maxLen):∃n,start (iter step n) (a0.map bu) a1=ret (((md a0 a1).1,((md a0 a1).2.map bu)):Int×aD):=by
 unfold gd at hg
 show ∃n,iter step n (Pt.p0 a1 0 (a0.map bu))=_
 unfold md
 refine fY (el:=el) (xs:=a0) 0 eL gT (pt:=fun i k c=>Pt.p0 k (i:Int) (c.map bu)) (out:=fun b=>ret (b.1,b.2.map bu)) (fun J i k c hi hc hk=>?_) (fun J k c hc=>?_) hg
 ·have hm:c.length<=maxLen:=hc ▸ h0
  simp only [step,SS]
  refine ak (aL hi) ?_
  refine ak aJ ?_
  refine ak (aL hi) ?_
  rw [aI hi hm]
  exact congrArg (fun q=>J (Pt.p0 (el (c.getD i 0) k).1 ((i+1:Nat):Int) q)) (List.map_set (f:=bu) (l:=c) (i:=i) (a:=(el (c.getD i 0) k).2)).symm
 ·simp only [step,SS]
  refine cM (by apply decide_eq_false;omega) ?_
  rfl
def af:fm Tryz.prog Ev 179 aW:=MV (run:=fun n x=>start (iter step n) x.1 x.2) mix aF .nil .nil Tryz.func179 (by kernel_rfl) run_eq (fun ls a hl e hg=>bB a.1 a.2 hg (by have h:(ls.headD .hole).aQ.length<=maxLen:=(hl _ _ (.head _)).len;have e:a.1.map bu=(ls.headD .hole).aQ:=(congrArg (fun x=>x.1) e.symm);rw [<-e] at h;simpa using h))
def iq {a0:List Int}{a1:Int}(h:eL a1):eL (md a0 a1).1:=jl gT h
def oC (x k:Int)(h0:0<=k)(hb:k+(cnt x:Int)<=4611686018427387904):(el x k).1=k+cnt x:=by
 simp only [cnt,Int.natCast_add] at hb ⊢
 simp (disch:=omega) only [el,wi]
 all_goals first | done | omega
def kk (a0:List Int)(a1:Int)(h0:0<=a1)(hb:a1+(sum a0:Int)<=4611686018427387904):(md a0 a1).1=a1+sum a0:=gq oC a0 a1 h0 hb
def sz (a:List Int):sum a<=60*(dP (fun y:Int=>0) a):=jo (fun x=>by
 try simp only [cnt] at *
 omega) a
end Z275
namespace Z276
set_option maxHeartbeats 8000000
inductive Pt where
 | p0 (a b:Int) (c:aD)
def pid:Pt->Nat
 | .p0 ..=>2
def cg:Pt->List V
 | .p0 a b c=>[.own 0,.int .i64 a,.int .i64 b]
def bZ:Pt->List aZ
 | .p0 a b c=>[.row 428 c]
def step (J:Pt->aK):Pt->aK
 | .p0 a b c=>(cond (decide (b<(c.length:Int))) (m2 b (c.length:Int) (m2 b (c.length:Int) (cm (Nat.beq (toNat b) (toNat b)&&true) (J (.p0 (i64.wrap ((i64.wrap (a+1))+1)) (i64.wrap (b+1)) (List.set c (toNat b) (bw.enc (⟨a,(i64.wrap (a+1))⟩:bw)))))))) (ret ((a,c):Int×aD)))
def start (J:Pt->aK)(x0:aD)(x1:Int):aK:=J (.p0 x1 0 x0)
def live:Nat->Live:=fun i=>match i with | 2=>[(0,none),(1,none),(5,none)] | _=>[]
def pats:List (Bool×List K):=[(false,[.sl 428]),(false,[aC])]
def res:RP:=.oA [428]
abbrev E:Env:={ T:=assoc kB,G:=dD [],nt:=27,M:=fT [],np:=1,mt:=true }
def step_eq (I:cD)(p:Pt):cV E live I (pid p) (bN Tryz.f332) (fD (live (pid p)) (cg p) (bZ p)) (cE E Tryz.f332 res)=step (fun q=>I (pid q) (cg q) (bZ q)) p:=by
 cases p<;>kernel_rfl
def start_eq (I:cD)(ls:List L):eT E live I (bN Tryz.f332) (gm pats ls) (cE E Tryz.f332 res)=start (fun q=>I (pid q) (cg q) (bZ q)) (ls.headD .hole).aQ ((aA 1 ls).headD .hole).toInt:=by kernel_rfl
def run_eq (n:Nat)(ls:List L):eN E live Tryz.f332 res n (gm pats ls)=start (iter step n) (ls.headD .hole).aQ ((aA 1 ls).headD .hole).toInt:=cy (id:=pid) (vs:=cg) (hs:=bZ) (step:=step) (start:=fun J=>start J (ls.headD .hole).aQ ((aA 1 ls).headD .hole).toInt) step_eq (fun I=>start_eq I ls) n
def el (x:bw)(k:Int):Int×bw:=((i64.wrap ((i64.wrap (k+1))+1)),(⟨k,(i64.wrap (k+1))⟩:bw))
def gT (x:bw)(k:Int)(hk:eL k):eL (el x k).1:=(cj _)
def cnt (x:bw):Nat:=2
def sum (a:List bw):Nat:=(a.map cnt).sum
def md (a0:List bw)(a1:Int):Int×List bw:=jq el a0 a1
def gd (a0:List bw)(a1:Int):Prop:=eL a1
def acc (ls:List L):aD×Int:=((ls.headD .hole).aQ,((aA 1 ls).headD .hole).toInt)
def R:(aD×Int)->Option (Int×aD):=RR (p2 gd) (u2 md)
def aq {a0 a1}(h:gd a0 a1):R ((a0.map bw.row),a1)=some ((md a0 a1).1,((md a0 a1).2.map bw.row)):=aR (a:=(a0,a1)) h
def aW:gP:=MN pats acc R
def bB (a0:List bw)(a1:Int)(hg:gd a0 a1)(h0:a0.length<=maxLen):∃n,start (iter step n) (a0.map bw.row) a1=ret (((md a0 a1).1,((md a0 a1).2.map bw.row)):Int×aD):=by
 unfold gd at hg
 show ∃n,iter step n (Pt.p0 a1 0 (a0.map bw.row))=_
 unfold md
 refine fY (el:=el) (xs:=a0) bw.zero eL gT (pt:=fun i k c=>Pt.p0 k (i:Int) (c.map bw.row)) (out:=fun b=>ret (b.1,b.2.map bw.row)) (fun J i k c hi hc hk=>?_) (fun J k c hc=>?_) hg
 ·have hm:c.length<=maxLen:=hc ▸ h0
  simp only [step,SS]
  refine ak (aL hi) ?_
  repeat first | refine ak aJ ?_ | refine ak (aL hi) ?_ | refine ak (gh _) ?_
  rw [aI hi hm]
  exact congrArg (fun q=>J (Pt.p0 (el (c.getD i bw.zero) k).1 ((i+1:Nat):Int) q)) (List.map_set (f:=bw.row) (l:=c) (i:=i) (a:=(el (c.getD i bw.zero) k).2)).symm
 ·simp only [step,SS]
  refine cM (by apply decide_eq_false;omega) ?_
  rfl
def af:fm Tryz.prog Ev 332 aW:=MV (run:=fun n x=>start (iter step n) x.1 x.2) mix aF .nil .nil Tryz.func332 (by kernel_rfl) run_eq (fun ls a hl e hg=>bB a.1 a.2 hg (by have h:(ls.headD .hole).aQ.length<=maxLen:=(hl _ _ (.head _)).len;have e:a.1.map bw.row=(ls.headD .hole).aQ:=(congrArg (fun x=>x.1) e.symm);rw [<-e] at h;simpa using h))
def iq {a0:List bw}{a1:Int}(h:eL a1):eL (md a0 a1).1:=jl gT h
def oC (x:bw)(k:Int)(h0:0<=k)(hb:k+(cnt x:Int)<=4611686018427387904):(el x k).1=k+cnt x:=by
 simp only [cnt,Int.natCast_add] at hb ⊢
 simp (disch:=omega) only [el,wi]
 all_goals first | done | omega
def kk (a0:List bw)(a1:Int)(h0:0<=a1)(hb:a1+(sum a0:Int)<=4611686018427387904):(md a0 a1).1=a1+sum a0:=gq oC a0 a1 h0 hb
def sz (a:List bw):sum a<=60*(dP (fun y:bw=>bw.size y) a):=jo (fun x=>by
 try simp only [cnt,bw.size] at *
 omega) a
end Z276
end Go.DM
end
