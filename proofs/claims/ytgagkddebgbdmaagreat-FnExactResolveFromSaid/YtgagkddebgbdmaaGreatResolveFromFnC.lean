/- What the functions compute that the law reaches, and that the law returns true. Conditions: none. -/
import Derived.Test.YtgagkddebgbdmaaGreatResolveFromTy
import Derived.Test.YtgagkddebgbdmaaGreatResolveFromFnB
set_option linter.all false
set_option maxRecDepth 100000
noncomputable section
namespace Go.DM
open Go.Proofs
open Go.IntKind (i64)
open Int (toNat)
open Nat (le_trans zero_le)
namespace Z235
def F (x0:eE)(x1:aE):aI:=(call (Z223.R x0) fun v1=>(cond (!v1) (ret ((⟨[],false,(⟨(⟨#[]⟩:aE),0,0,[]⟩),(⟨0,[]⟩),(⟨0,(⟨(⟨#[]⟩:aE),0,0,[]⟩),(⟨(⟨#[]⟩:aE),0,0,[]⟩),(⟨0,[]⟩),(⟨0,[]⟩)⟩)⟩):bq)) (call (Z157.R x1) fun v2=>(cond (!v2) (ret ((⟨[],false,(⟨(⟨#[]⟩:aE),0,0,[]⟩),(⟨0,[]⟩),(⟨0,(⟨(⟨#[]⟩:aE),0,0,[]⟩),(⟨(⟨#[]⟩:aE),0,0,[]⟩),(⟨0,[]⟩),(⟨0,[]⟩)⟩)⟩):bq)) (call (Z146.R x0.aQ) fun v3=>(call (Z230.R (x0.bR,x1)) fun v4=>(cond (v4>=0) (m2 v4 x0.bR.length (call (Z148.R (bK.at x0.bR (toNat v4))) fun v5=>(call (Z232.R (x0.bR,x1)) fun v6=>ret ((⟨v3,true,v5,v6.1,(⟨0,(⟨(⟨#[]⟩:aE),0,0,[]⟩),(⟨(⟨#[]⟩:aE),0,0,[]⟩),(⟨0,[]⟩),(⟨0,[]⟩)⟩)⟩):bq)))) (call (Z234.R (x0.bR,x1)) fun v7=>ret ((⟨v3,false,(⟨(⟨#[]⟩:aE),0,0,[]⟩),(⟨0,[]⟩),v7.1⟩):bq)))))))))
def md (a0:aP)(a1:aE):aq:=(cond (!(Z223.md a0)) (⟨[],false,(⟨((⟨#[]⟩:aE)),0,0,[]⟩),(⟨0,[]⟩),(⟨0,(⟨((⟨#[]⟩:aE)),0,0,[]⟩),(⟨((⟨#[]⟩:aE)),0,0,[]⟩),(⟨0,[]⟩),(⟨0,[]⟩)⟩)⟩) (cond (!(Z157.md a1)) (⟨[],false,(⟨((⟨#[]⟩:aE)),0,0,[]⟩),(⟨0,[]⟩),(⟨0,(⟨((⟨#[]⟩:aE)),0,0,[]⟩),(⟨((⟨#[]⟩:aE)),0,0,[]⟩),(⟨0,[]⟩),(⟨0,[]⟩)⟩)⟩) (cond ((Z230.md a0.bR a1)>=0) (⟨a0.aQ,true,(a0.bR.getD (toNat (Z230.md a0.bR a1)) ah.zero),(Z232.md a0.bR a1).1,(⟨0,(⟨((⟨#[]⟩:aE)),0,0,[]⟩),(⟨((⟨#[]⟩:aE)),0,0,[]⟩),(⟨0,[]⟩),(⟨0,[]⟩)⟩)⟩) (⟨a0.aQ,false,(⟨((⟨#[]⟩:aE)),0,0,[]⟩),(⟨0,[]⟩),(Z234.md a0.bR a1).1⟩))))
def gd (a0:aP)(a1:aE):Prop:=(aP.Sm (2^21) a0)/\(a1.size<=(2^21))
def R:=cm gd md
def ak {a0 a1}(h:gd a0 a1):R ((aP.r a0),a1)=some (aq.r (md a0 a1)):=cq h
def aT:=CN [.agg uQ,pS] (.agg f126) RT.dec R
def aY (a0)(a1)(hg:gd a0 a1):F (aP.r a0) a1=ret (aq.r (md a0 a1)):=by
 obtain ⟨H0,H1⟩:=hg
 refine ct (Z223.ak H0) (bo (fun c1=>fz) (fun c1=>?_))
 refine ct (Z157.ak (le_trans H1 (by decide))) (bo (fun c2=>fz) (fun c2=>?_))
 refine ct (Z146.ak H0.1) ?_
 simp only [SS]
 refine ct (Z230.ak H0.2) ?_
 have fv4_:=Z230.fa a0.bR a1
 refine bo (fun c3=>?_) (fun c3=>ct (Z234.ak ⟨H0.2,H1⟩) fz)
 have dc3:=c3
 simp only [DC] at dc3
 refine aj dt (aj (have:=(H0.2).1;dt) ?_)
 refine ct (Z148.ak (bN.getD H0.2 (by omega))) (ct (Z232.ak H0.2) ?_)
 exact fz
def af:cz 194 aT:=W2 51 F mix aC aY (Ae Z223.af Z157.af Z146.af Z230.af Z148.af Z232.af Z234.af) Tryz.func194
def iR {a0:aP}{a1:aE}(hg:gd a0 a1):aq.Sm (2^21) (md a0 a1):=by
 unfold gd at hg;unfold md
 obtain ⟨⟨hc,hl⟩,_⟩:=hg
 have ez:ah.Sm (2^21) ⟨⟨#[]⟩,0,0,[]⟩:=⟨zero_le _,bN.nil⟩
 have pz:aL.Sm (2^21) ⟨0,[]⟩:=bN.nil
 have gz:bL.Sm (2^21) ⟨0,⟨⟨#[]⟩,0,0,[]⟩,⟨⟨#[]⟩,0,0,[]⟩,⟨0,[]⟩,⟨0,[]⟩⟩:=⟨ez,ez,pz,pz⟩
 have he:∀i,ah.Sm (2^21) (a0.bR.getD i ah.zero):=fun i=>bN.sW hl ez
 have hp:∀x,aL.Sm (2^21) (Z232.md a0.bR x).1:=fun x=>Z232.iR hl
 have hga:bL.Sm (2^21) (Z234.md a0.bR a1).1:=Z234.iR ⟨hl,by assumption⟩
 simp only [Bool.cond_eq_ite]
 repeat' split
 all_goals (refine ⟨?_,?_,?_,?_⟩<;>first | exact hc | exact bN.nil | exact he _ | exact hp _ | exact hga | exact ez | exact pz | exact gz)
def br (a0:aP)(a1:aE):md a0 a1=Z112.md a0 a1:=by
 unfold md Z112.md
 simp only [Z223.br,Z157.br,Z230.br,Z232.br,Z234.br]
end Z235
namespace Z236
def F (x0:cZ)(x1:Int)(x2:aE):aI:=(call (Z227.R (x0,x1)) fun v1=>(cond (v1<0) (ret ((⟨[],false,(⟨(⟨#[]⟩:aE),0,0,[]⟩),(⟨0,[]⟩),(⟨0,(⟨(⟨#[]⟩:aE),0,0,[]⟩),(⟨(⟨#[]⟩:aE),0,0,[]⟩),(⟨0,[]⟩),(⟨0,[]⟩)⟩)⟩):bq)) (cond (x0.iG==4) (ret ((⟨[],false,(⟨(⟨#[]⟩:aE),0,0,[]⟩),(⟨0,[]⟩),(⟨0,(⟨(⟨#[]⟩:aE),0,0,[]⟩),(⟨(⟨#[]⟩:aE),0,0,[]⟩),(⟨0,[]⟩),(⟨0,[]⟩)⟩)⟩):bq)) (m2 v1 x0.bM.length (call (Z235.R ((eE.at x0.bM (toNat v1)),x2)) fun v2=>(cond (x0.iG==1) (ret ((⟨v2.aQ,v2.cj,(⟨v2.aS.aV,v2.aS.bJ,(i64.wrap (v2.aS.bX+1)),v2.aS.bh⟩),v2.dy,v2.dA⟩):bq)) (cond (x0.iG==2) (bY ((0:Int)<=(cond ((0:Int)<(i64.wrap (v2.aQ.length - 1))) (i64.wrap (v2.aQ.length - 1)) 0)) (bY ((cond ((0:Int)<(i64.wrap (v2.aQ.length - 1))) (i64.wrap (v2.aQ.length - 1)) 0)<=v2.aQ.length) (ret ((⟨(List.take (toNat (cond ((0:Int)<(i64.wrap (v2.aQ.length - 1))) (i64.wrap (v2.aQ.length - 1)) 0)) v2.aQ),v2.cj,v2.aS,v2.dy,v2.dA⟩):bq)))) (cond (x0.iG==3) (ret ((⟨v2.aQ,false,(⟨(⟨#[]⟩:aE),0,0,[]⟩),(⟨0,[]⟩),(⟨0,(⟨(⟨#[]⟩:aE),0,0,[]⟩),(⟨(⟨#[]⟩:aE),0,0,[]⟩),(⟨0,[]⟩),(⟨0,[]⟩)⟩)⟩):bq)) (ret v2)))))))))
def pats:List gK:=[.agg [.sl 215,au],.rd (.int .i64),.rd (.str)]
def res:RP:=.agg [.fr 178,.rd (.bool),.rd (.str),.rd (.int .i64),.rd (.int .i64),.fr 9,.rd (.int .i64),.fr 3,.rd (.int .i64),.rd (.str),.rd (.int .i64),.rd (.int .i64),.fr 9,.rd (.str),.rd (.int .i64),.rd (.int .i64),.fr 9,.rd (.int .i64),.fr 3,.rd (.int .i64),.fr 3]
def md (a0:ay)(a1:Int)(a2:aE):aq:=(cond ((Z227.md a0 a1)<0) (⟨[],false,(⟨((⟨#[]⟩:aE)),0,0,[]⟩),(⟨0,[]⟩),(⟨0,(⟨((⟨#[]⟩:aE)),0,0,[]⟩),(⟨((⟨#[]⟩:aE)),0,0,[]⟩),(⟨0,[]⟩),(⟨0,[]⟩)⟩)⟩) (cond (a0.iG==4) (⟨[],false,(⟨((⟨#[]⟩:aE)),0,0,[]⟩),(⟨0,[]⟩),(⟨0,(⟨((⟨#[]⟩:aE)),0,0,[]⟩),(⟨((⟨#[]⟩:aE)),0,0,[]⟩),(⟨0,[]⟩),(⟨0,[]⟩)⟩)⟩) (cond (a0.iG==1) (⟨(Z235.md (a0.bM.getD (toNat (Z227.md a0 a1)) aP.zero) a2).aQ,(Z235.md (a0.bM.getD (toNat (Z227.md a0 a1)) aP.zero) a2).cj,(⟨(Z235.md (a0.bM.getD (toNat (Z227.md a0 a1)) aP.zero) a2).aS.aV,(Z235.md (a0.bM.getD (toNat (Z227.md a0 a1)) aP.zero) a2).aS.bJ,(i64.wrap ((Z235.md (a0.bM.getD (toNat (Z227.md a0 a1)) aP.zero) a2).aS.bX+1)),(Z235.md (a0.bM.getD (toNat (Z227.md a0 a1)) aP.zero) a2).aS.bh⟩),(Z235.md (a0.bM.getD (toNat (Z227.md a0 a1)) aP.zero) a2).dy,(Z235.md (a0.bM.getD (toNat (Z227.md a0 a1)) aP.zero) a2).dA⟩) (cond (a0.iG==2) (⟨(List.take (toNat (cond ((0:Int)<(i64.wrap (((Z235.md (a0.bM.getD (toNat (Z227.md a0 a1)) aP.zero) a2).aQ.length) - 1))) (i64.wrap (((Z235.md (a0.bM.getD (toNat (Z227.md a0 a1)) aP.zero) a2).aQ.length) - 1)) 0)) (Z235.md (a0.bM.getD (toNat (Z227.md a0 a1)) aP.zero) a2).aQ),(Z235.md (a0.bM.getD (toNat (Z227.md a0 a1)) aP.zero) a2).cj,(Z235.md (a0.bM.getD (toNat (Z227.md a0 a1)) aP.zero) a2).aS,(Z235.md (a0.bM.getD (toNat (Z227.md a0 a1)) aP.zero) a2).dy,(Z235.md (a0.bM.getD (toNat (Z227.md a0 a1)) aP.zero) a2).dA⟩) (cond (a0.iG==3) (⟨(Z235.md (a0.bM.getD (toNat (Z227.md a0 a1)) aP.zero) a2).aQ,false,(⟨((⟨#[]⟩:aE)),0,0,[]⟩),(⟨0,[]⟩),(⟨0,(⟨((⟨#[]⟩:aE)),0,0,[]⟩),(⟨((⟨#[]⟩:aE)),0,0,[]⟩),(⟨0,[]⟩),(⟨0,[]⟩)⟩)⟩) (Z235.md (a0.bM.getD (toNat (Z227.md a0 a1)) aP.zero) a2))))))
def gd (a0:ay)(a1:Int)(a2:aE):Prop:=(ay.Sm (2^21) a0)/\(a2.size<=(2^21))
def acc (ls:List L):cZ×Int×aE:=((cZ.dec ls),(dH 2 ls),(qX 3 ls))
def R:(cZ×Int×aE)->Option bq:=lp gd md
def ak {a0 a1 a2}(h:gd a0 a1 a2):R ((ay.r a0),a1,a2)=some (aq.r (md a0 a1 a2)):=kZ h
def aT:gh:=CN pats res acc R
def aY (a0:ay)(a1:Int)(a2:aE)(hg:gd a0 a1 a2):F (ay.r a0) a1 a2=ret ((aq.r (md a0 a1 a2)):bq):=by
 obtain ⟨H0,H2⟩:=hg
 unfold F md
 simp only [SS]
 refine ct (Z227.ak H0) ?_
 have fv1_:=Z227.fa a0 a1
 refine bo (fun c1=>fz) (fun c1=>?_)
 have dc1:=c1
 simp only [DC] at dc1
 refine bo (fun c2=>fz) (fun c2=>?_)
 refine aj dt (aj (have:=(H0).1;have:=(H0).1;dt) ?_)
 refine ct (Z235.ak ⟨(bN.getD H0 (by have:=(H0).1;first | assumption | omega | (simp (disch:=omega) only [wi];omega) | (simp;omega))),H2⟩) ?_
 simp only [SS]
 refine bo (fun c3=>fz) (fun c3=>?_)
 refine bo (fun c4=>?_) (fun c4=>?_)
 ·refine aj (have:=((Z235.iR (a0:=a0.bM.getD (toNat (Z227.md a0 a1)) aP.zero) ⟨(bN.getD H0 (by have:=(H0).1;first | assumption | omega | (simp (disch:=omega) only [wi];omega) | (simp;omega))),H2⟩).1).1;have:=(H0).1;dt) (aj (have:=((Z235.iR (a0:=a0.bM.getD (toNat (Z227.md a0 a1)) aP.zero) ⟨(bN.getD H0 (by have:=(H0).1;first | assumption | omega | (simp (disch:=omega) only [wi];omega) | (simp;omega))),H2⟩).1).1;have:=(H0).1;dt) ?_)
  exact fz
 ·exact bo (fun c5=>fz) (fun c5=>fz)
def af:cz 148 aT:=VT (live:=fun _=>[]) (nt:=54) (run:=fun _ x=>F x.1 x.2.1 x.2.2) mix aC (eP Z227.af Z235.af) .nil Tryz.func148 (by kernel_rfl) (fun _ _=>by kernel_rfl) (fun _ a _ _ hg=>⟨0,aY a.1 a.2.1 a.2.2 hg⟩)
def br (a0:ay)(a1:Int)(a2:aE):md a0 a1 a2=Z113.md a0 a1 a2:=by
 unfold md Z113.md
 simp only [Z227.br,Z235.br]
 generalize Z112.md (a0.bM.getD (toNat (Z106.md a0 a1)) aP.zero) a2=A
 have mx:∀n:Int,toNat (cond ((0:Int)<n) n 0)=toNat n:=by
  intro n
  by_cases h:(0:Int)<n
  ·rw [decide_eq_true h];rfl
  ·rw [decide_eq_false h];simp only [aX];omega
 have e:∀k:Nat,(⟨List.take k A.aQ,A.cj,A.aS,A.dy,A.dA⟩:aq)=bif decide ((A.aQ.length:Int)>0) then (⟨List.take k A.aQ,A.cj,A.aS,A.dy,A.dA⟩:aq) else A:=by
  intro k
  obtain ⟨ch,f,e,p,g⟩:=A
  cases ch with
  | nil=>simp
  | cons x xs=>simp only [List.length_cons];rw [decide_eq_true (by omega)];rfl
 simp only [mx,<-e]
end Z236
namespace Z237
inductive Pt where
 | p0 (a:Int) (b:aE) (c:aB) (d e:Int) (f:aB)
def cu:Pt->List V
 | .p0 a b c d e f=>[.int .i64 a,.str b,.own 0,.sl none 138 c,.int .i64 d,.int .i64 e]
def cR:Pt->List aW
 | .p0 a b c d e f=>[.row 126 f]
def step (J:Pt->aI):Pt->aI
 | .p0 a b c d e f=>(cond (e<d) (m2 e (c.length:Int) (call (Z236.R ((cZ.at c (toNat e)),a,b)) fun v1=>(bY (fJ (((f.length:Int)+1)*304)) (J (.p0 a b c d (i64.wrap (e+1)) (f++[(bq.enc v1)])))))) (ret (f:aB)))
def start (J:Pt->aI)(x0:aB)(x1:Int)(x2:aE):aI:=(bY ((0:Int)<=(cond ((x0.length:Int)<4) (x0.length:Int) 4)) (bY ((cond ((x0.length:Int)<4) (x0.length:Int) 4)<=x0.length) (J (.p0 x1 x2 (List.take (toNat ((cond ((x0.length:Int)<4) (x0.length:Int) 4) - 0)) (List.drop 0 x0)) ((List.take (toNat ((cond ((x0.length:Int)<4) (x0.length:Int) 4) - 0)) (List.drop 0 x0)).length) 0 []))))
def live:Nat->Live:=fK [(3,[(1,none),(2,none),(7,some 126),(15,none),(16,none),(17,none)])]
def md (a0:List ay)(a1:Int)(a2:aE):List aq:=((List.take (toNat ((cond ((a0.length:Int)<4) (a0.length:Int) 4) - 0)) (List.drop 0 a0)).map (fun y1=>(Z236.md y1 a1 a2)))
def gd (a0:List ay)(a1:Int)(a2:aE):Prop:=(bN (2^21) (fun y:ay=>ay.Sm (2^21) y) a0)/\(a2.size<=(2^21))
def R:=lp gd md
def ak {a0 a1 a2}(h:gd a0 a1 a2):R ((a0.map ay.row),a1,a2)=some ((md a0 a1 a2).map aq.row):=kZ h
def aT:=CN [pL 138,pI,pS] (oL 126) RT.dec R
def aY (a0)(a1)(a2)(hg:gd a0 a1 a2):∃n,start (iter step n) (a0.map ay.row) a1 a2=ret ((md a0 a1 a2).map aq.row):=by
 obtain ⟨H0,H2⟩:=hg
 refine dW dt (dW dt ?_)
 have Bh2:(List.take (toNat ((cond ((a0.length:Int)<4) (a0.length:Int) 4) - 0)) (List.drop 0 a0)).length<=maxLen:=(by
   have:=((bN.take (k:=(toNat ((cond ((a0.length:Int)<4) (a0.length:Int) 4) - 0))) (bN.drop (k:=0) H0))).1
   simp only [maxLen] at *
   omega)
 refine ex_eq (out:=(fun b:List aq=>ret ((b.map aq.row):aB))) (oF (g:=fun (y1:ay)=>(Z236.md y1 a1 a2)) (z:=ay.zero) (t:=fun (s3:List aq)=>s3)) (eo (p:=Pt.p0 a1 a2 ((List.take (toNat ((cond ((a0.length:Int)<4) (a0.length:Int) 4) - 0)) (List.drop 0 a0)).map ay.row) ((List.take (toNat ((cond ((a0.length:Int)<4) (a0.length:Int) 4) - 0)) (List.drop 0 a0)).length:Int) 0 ([].map aq.row)) fz ?_)
 refine cw (pt:=fun (i1:Nat) (s3:List aq)=>Pt.p0 a1 a2 ((List.take (toNat ((cond ((a0.length:Int)<4) (a0.length:Int) 4) - 0)) (List.drop 0 a0)).map ay.row) ((List.take (toNat ((cond ((a0.length:Int)<4) (a0.length:Int) 4) - 0)) (List.drop 0 a0)).length:Int) (i1:Int) (s3.map aq.row)) (out:=(fun b:List aq=>ret ((b.map aq.row):aB))) (fun (i1:Nat) (s3:List aq)=>s3.length<=([]:List Int).length+1*i1) (fun J i1 s3 h2 hih2=>?_) (fun s3 hih2=>?_) (by simp)
 ·simp only [step,SS]
  have gr_:=hih2
  simp only [LN] at gr_
  have:=((bN.take (k:=(toNat ((cond ((a0.length:Int)<4) (a0.length:Int) 4) - 0))) (bN.drop (k:=0) H0))).1
  refine bp.yes (by apply decide_eq_true;omega) (bp.yes aD ?_)
  refine bp.yes (aK h2) (cr (Z236.ak ⟨(bN.getD (bN.take (k:=(toNat ((cond ((a0.length:Int)<4) (a0.length:Int) 4) - 0))) (bN.drop (k:=0) H0)) h2),H2⟩) ?_)
  refine bp.yes lm ?_
  refine bp.inl (by
    (simp;omega)) ?_
  rw [aH h2 Bh2]
  exact fz
 ·simp only [step,SS]
  refine dO dn (⟨0,?_⟩)
  exact fz
def af:cz 98 aT:=L3 30 (fun _=>3) cu cR live step start mix aC aY (cD Z236.af) Tryz.func98
def br (a0:List ay)(a1:Int)(a2:aE):md a0 a1 a2=Z114.md a0 a1 a2:=by
 rw [Z114.rA]
 unfold md
 simp only [Z236.br,Int.sub_zero,List.drop_zero]
 congr 1
 by_cases h:(a0.length:Int)<4
 ·rw [decide_eq_true h,aZ,List.take_of_length_le (by omega),List.take_of_length_le (by omega)]
 ·rw [decide_eq_false h];rfl
end Z237
namespace Z238
def F (x0:aB):aI:=(call (Z204.R x0) fun v1=>(cond (!v1) (ret (((⟨0,0,0,0,0,0,0,0,(⟨[],0⟩),(⟨[],0⟩),0,(⟨[],0⟩),false⟩),false):dI×Bool)) (call (Z205.R x0) fun v2=>(call (Z143.R v2) fun v3=>ret ((v3,true):dI×Bool)))))
def md (a0:List aa):aF×Bool:=(cond (!(Z204.md a0)) ((⟨0,0,0,0,0,0,0,0,(⟨[],0⟩),(⟨[],0⟩),0,(⟨[],0⟩),false⟩),false) ((Z205.md a0),true))
def gd (a0:List aa):Prop:=(bN (2^21) (fun y:aa=>aa.Sm (2^21) y) a0)
def R:=RR gd md
def ak {a0}(h:gd a0):R (a0.map aa.row)=some ((aF.r (md a0).1),(md a0).2):=cV h
def aT:=CN [pL 178] (.iS [(true,f175),(false,[fB])]) RT.dec R
def aY (a0)(H0:gd a0):F (a0.map aa.row)=ret ((aF.r (md a0).1),(md a0).2):=by
 refine ct (Z204.ak H0) (ec (fun b:aF×Bool=>ret (((aF.r b.1),b.2):dI×Bool)) (fun c1=>fz) (fun c1=>?_))
 have tc1:=Z204.tr (by simpa using c1)
 refine ct (Z205.ak ⟨H0,om⟩) (ct (Z143.ak (Z205.iR ⟨H0,om⟩)) ?_)
 exact fz
def af:cz 156 aT:=W1 11 F mix aC aY (kC Z204.af Z205.af Z143.af) Tryz.func156
def br (a0:List aa):md a0=Z89.md a0:=by
 unfold md Z89.md
 (simp only [Z204.br];rfl)
end Z238
namespace Z239
def F (x0:dI)(x1:Int):aI:=(call (Z156.R (x1,x0.cT,x0.cL)) fun v1=>ret v1)
def md (a0:aF)(a1:Int):Bool:=((Z156.md a1 a0.cT a0.cL))
def gd (a0:aF)(a1:Int):Prop:=True
def R:=cm gd md
def ak {a0 a1}(h:gd a0 a1):R ((aF.r a0),a1)=some (md a0 a1):=cq h
def aT:=CN [.agg gH,pI] oB RT.dec R
def aY (a0)(a1)(hg:gd a0 a1):F (aF.r a0) a1=ret (md a0 a1):=ct (Z156.ak trivial) fz
def af:cz 157 aT:=W2 11 F mix aC aY (cD Z156.af) Tryz.func157
def br (a0:aF)(a1:Int):md a0 a1=Z121.md a0 a1:=by
 unfold md Z121.md
 simp only [Z156.br]
end Z239
namespace Z240
inductive Pt where
 | p0 (a b c:Int) (d:aB)
def cu:Pt->List V
 | .p0 a b c d=>[.int .i64 a,.int .i64 b,.int .i64 c,.sl none 3 d]
def step (J:Pt->aI):Pt->aI
 | .p0 a b c d=>(cond (c>1) (cond ((oN .i64 b 1)>=c) (J (.p0 a (i64.wrap (Int.tdiv b 2)) (i64.wrap (Int.tdiv (i64.wrap (c+1)) 2)) d)) (cond ((d.length:Int)==0) (ret ((0,false):Int×Bool)) (cond ((Int.tmod b 2)==0) (bY ((0:Int)<(d.length:Int)) (call (Z217.R (a,(kr d 0))) fun v1=>(bY ((1:Int)<=(d.length:Int)) (bY ((d.length:Int)<=(d.length:Int)) (J (.p0 v1 (i64.wrap (Int.tdiv b 2)) (i64.wrap (Int.tdiv (i64.wrap (c+1)) 2)) (List.take (toNat ((d.length:Int) - 1)) (List.drop 1 d)))))))) (bY ((0:Int)<(d.length:Int)) (call (Z217.R ((kr d 0),a)) fun v2=>(bY ((1:Int)<=(d.length:Int)) (bY ((d.length:Int)<=(d.length:Int)) (J (.p0 v2 (i64.wrap (Int.tdiv b 2)) (i64.wrap (Int.tdiv (i64.wrap (c+1)) 2)) (List.take (toNat ((d.length:Int) - 1)) (List.drop 1 d))))))))))) (cond ((d.length:Int)>0) (ret ((0,false):Int×Bool)) (ret ((a,true):Int×Bool))))
def start (J:Pt->aI)(x0 x1 x2:Int)(x3:aB):aI:=(cond (x2<1) (ret ((0,false):Int×Bool)) (cond (x2>12) (ret ((0,false):Int×Bool)) (call (Z156.R (x1,0,(i64.wrap (x2 - 1)))) fun v1=>(cond (!v1) (ret ((0,false):Int×Bool)) (J (.p0 x0 x1 x2 x3))))))
def live:Nat->Live:=fK [(3,gj [0,1,2,3])]
def md (a0 a1 a2:Int)(a3:List Int):Int×Bool:=Z122.md a0 a1 a2 a3
def gd (a0 a1 a2:Int)(a3:List Int):Prop:=bN (2^38) (fun y:Int=>True) a3
def R:=vZ gd md
def ak {a0 a1 a2 a3}(h:gd a0 a1 a2 a3):R (a0,a1,a2,(a3.map bt))=some ((md a0 a1 a2 a3).1,(md a0 a1 a2 a3).2):=wH h
def aT:=CN [pI,pI,pI,pL 3] (.iS [(false,[fI]),(false,[fB])]) RT.dec R
def aY (a0)(a1)(a2)(a3)(hg:gd a0 a1 a2 a3):∃n,start (iter step n) a0 a1 a2 (a3.map bt)=ret ((md a0 a1 a2 a3).1,(md a0 a1 a2 a3).2):=by
 have tm:∀b:Int,0<=b->b<=11->Int.tmod b 2=b % 2:=fun b h1 h2=>Int.tmod_eq_emod_of_nonneg h1
 have td:∀b:Int,0<=b->b<=13->i64.wrap (Int.tdiv b 2)=b / 2:=fun b h1 h2=>by
  rw [Int.tdiv_eq_ediv_of_nonneg h1,Go.IntWalk.i64_in _ (by omega)]
 have t1:∀b:Int,0<=b->b<=13->i64.wrap (b+1)=b+1:=fun b h1 h2=>Go.IntWalk.i64_in _ (by omega)
 have xr:∀b:Int,0<=b->b<=11->oN .i64 b 1=if b % 2=0 then b+1 else b - 1:=by
  intro b h1 h2
  have :b=0∨b=1∨b=2∨b=3∨b=4∨b=5∨b=6∨b=7∨b=8∨b=9∨b=10∨b=11:=by omega
  rcases this with h | h | h | h | h | h | h | h | h | h | h | h<;>subst h<;>decide
 have key:∀(k:Nat) (leaf i n:Int) (p:List Int),p.length<=2^38->0<=i->i<n->n<=12->n<=2^k->∃m,iter step m (Pt.p0 leaf i n (p.map bt))=ret ((Z122.tf (k+1) leaf i n p).1,(Z122.tf (k+1) leaf i n p).2):=by
  have fin:∀(leaf:Int) (p:List Int) (J:Pt->aI),step J (Pt.p0 leaf 0 1 (p.map bt))=ret ((if p.isEmpty then (leaf,true) else (0,false)).1,(if p.isEmpty then (leaf,true) else (0,false)).2):=by
   intro leaf p J
   simp only [step,List.length_map]
   refine cW (by decide) ?_
   cases p with
   | nil=>rfl
   | cons x xs=>exact aj (decide_eq_true (by simp only [List.length_cons];omega)) rfl
  intro k
  induction k with
  | zero=>
   intro leaf i n p hp h1 h2 h3 h4
   have hn:n=1:=by omega
   subst hn
   have hi:i=0:=by omega
   subst hi
   exact ⟨1,(fin leaf p _).trans rfl⟩
  | succ k ih=>
   intro leaf i n p hp h1 h2 h3 h4
   unfold Z122.tf
   by_cases hn:n>1
   ·have e1:=tm i h1 (by omega)
    have e2:=td i h1 (by omega)
    have e3:=t1 n (by omega) (by omega)
    have e4:=td (n+1) (by omega) (by omega)
    have e6:=xr i h1 (by omega)
    rw [if_pos hn]
    by_cases hc:i % 2=1∨i+1<n
    ·have hx:decide (oN .i64 i 1>=n)=false:=by
      rw [e6]
      split
      ·exact decide_eq_false (by omega)
      ·exact decide_eq_false (by omega)
     rw [if_pos hc]
     cases p with
     | nil=>
      refine ⟨1,?_⟩
      show step (iter step 0) (Pt.p0 _ _ _ _)=_
      simp only [step,hx]
      exact aj (decide_eq_true (by omega)) (cW rfl (aj rfl rfl))
     | cons x xs=>
      simp only [List.length_cons] at hp
      obtain ⟨m,hm⟩:=ih (if i % 2=1 then Z98.md x leaf else Z98.md leaf x) (i / 2) ((n+1) / 2) xs (by omega) (by omega) (by omega) (by omega) (by omega)
      refine ⟨m+1,?_⟩
      show step (iter step m) (Pt.p0 _ _ _ _)=_
      have ht:List.take (toNat ((xs.length:Int)+1 - 1)) (List.drop 1 ((x::xs).map bt))=xs.map bt:=by
       simp only [List.map_cons,List.drop_succ_cons,List.drop_zero]
       exact List.take_of_length_le (by simp)
      have hl:(((x::xs).map bt).length:Int)=(xs.length:Int)+1:=by simp
      simp only [step,hx,e1,e2,e3,e4,ht,hl]
      refine aj (decide_eq_true (by omega)) (cW rfl (cW (beq_eq_false_iff_ne.2 (by omega)) ?_))
      have hat:kr ((x::xs).map bt) 0=x:=rfl
      rw [hat]
      by_cases hp:i % 2=1
      ·rw [if_pos hp] at hm
       rw [hp]
       refine cW rfl (aj (decide_eq_true (by omega)) (aU _ (by have:=Z217.ak (a0:=x) (a1:=leaf) trivial;rw [Z217.br] at this;exact this) (aj (decide_eq_true (by omega)) (aj (decide_eq_true (by omega)) ?_))))
       rw [if_pos rfl]
       exact hm
      ·rw [if_neg hp] at hm
       have h0:i % 2=0:=by omega
       rw [h0]
       refine aj rfl (aj (decide_eq_true (by omega)) (aU _ (by have:=Z217.ak (a0:=leaf) (a1:=x) trivial;rw [Z217.br] at this;exact this) (aj (decide_eq_true (by omega)) (aj (decide_eq_true (by omega)) ?_))))
       rw [if_neg (by omega)]
       exact hm
    ·have hx:decide (oN .i64 i 1>=n)=true:=by
      rw [e6,if_pos (by omega)]
      exact decide_eq_true (by omega)
     rw [if_neg hc]
     obtain ⟨m,hm⟩:=ih leaf (i / 2) ((n+1) / 2) p hp (by omega) (by omega) (by omega) (by omega)
     refine ⟨m+1,?_⟩
     show step (iter step m) (Pt.p0 _ _ _ _)=_
     simp only [step,hx,e2,e3,e4]
     exact aj (decide_eq_true (by omega)) (aj rfl hm)
   ·have hn1:n=1:=by omega
    subst hn1
    have hi:i=0:=by omega
    subst hi
    refine ⟨1,(fin leaf p _).trans ?_⟩
    rw [if_neg (show ¬(1:Int)>1 by omega)]
 unfold start md Z122.md
 obtain ⟨H3,_⟩:=hg
 by_cases c1:a2<1
 ·refine ⟨0,aj (decide_eq_true c1) ?_⟩
  rw [show Z59.md a2 1 12=false from by simp [Z59.md];omega];rfl
 refine dO (decide_eq_false c1) ?_
 by_cases c2:a2>12
 ·refine ⟨0,aj (decide_eq_true c2) ?_⟩
  rw [show Z59.md a2 1 12=false from by simp [Z59.md];omega];rfl
 refine dO (decide_eq_false c2) ?_
 rw [show Z59.md a2 1 12=true from by simp [Z59.md];omega]
 simp only [Bool.not_true,aX]
 refine fP _ (by have:=Z156.ak (a0:=a1) (a1:=0) (a2:=i64.wrap (a2 - 1)) trivial;rw [Z156.br] at this;exact this) ?_
 cases hd:Z59.md a1 0 (i64.wrap (a2 - 1))
 ·exact ⟨0,rfl⟩
 rw [Go.IntWalk.i64_in _ (by omega)] at hd
 have i2:0<=a1/\a1<=a2 - 1:=by simpa [Z59.md] using hd
 exact key 4 a0 a1 a2 a3 H3 (by omega) (by omega) (by omega) (by omega)
def af:cz 266 aT:=L4 56 (fun _=>3) cu (fun _=>[]) live step start mix aC aY (eP Z156.af Z217.af) Tryz.func266
def br (a0 a1 a2:Int)(a3:List Int):md a0 a1 a2 a3=Z122.md a0 a1 a2 a3:=by
 unfold md Z122.md
 simp only [Z156.br,Z217.br]
end Z240
namespace Z241
def F (x0 x1:Int)(x2:bK)(x3:dX):aI:=(call (Z214.R x2) fun v1=>(call (Z240.R (v1,x3.eG,x1,x3.bh)) fun v2=>(cond v2.2 (call (Z206.R x2) fun v3=>(cond v3 (call (Z220.R (x1,v2.1)) fun v4=>ret ((v4==x0))) (ret false))) (ret false))))
def md (a0 a1:Int)(a2:ah)(a3:aL):Bool:=(cond ((Z240.md (Z214.md a2) a3.eG a1 a3.bh).2) (cond (Z206.md a2) (((Z220.md a1 ((Z240.md (Z214.md a2) a3.eG a1 a3.bh).1))==a0)) false) false)
def gd (a0 a1:Int)(a2:ah)(a3:aL):Prop:=(ah.Sm (2^21) a2)/\(aL.Sm (2^21) a3)
def R:=vZ gd md
def ak {a0 a1 a2 a3}(h:gd a0 a1 a2 a3):R (a0,a1,(ah.r a2),(aL.r a3))=some (md a0 a1 a2 a3):=wH h
def aT:=CN [pI,pI,.agg tw,.agg pP] oB RT.dec R
def aY (a0)(a1)(a2)(a3)(hg:gd a0 a1 a2 a3):F a0 a1 (ah.r a2) (aL.r a3)=ret (md a0 a1 a2 a3):=by
 obtain ⟨H2,H3⟩:=hg
 refine ct (Z214.ak H2) (ct (Z240.ak (H3.mono (by decide) (fun x hx=>trivial))) ?_)
 refine bs (fun c1=>?_) (fun _=>rfl)
 refine ct (Z206.ak H2) (bs (fun c2=>?_) (fun _=>rfl))
 exact ct (Z220.ak trivial) fz
def af:cz 205 aT:=W4 34 F mix aC aY (kE Z214.af Z240.af Z206.af Z220.af) Tryz.func205
def br (a0 a1:Int)(a2:ah)(a3:aL):md a0 a1 a2 a3=Z123.md a0 a1 a2 a3:=by
 unfold md Z123.md
 simp only [Z240.br,Z214.br,Z206.br,Z220.br]
 cases Z90.md a2<;>cases (Z122.md (Z96.md a2) a3.eG a1 a3.bh).2<;>rfl
end Z241
namespace Z242
inductive Pt where
 | p0 (a b:aB) (c d:Int)
def cu:Pt->List V
 | .p0 a b c d=>[.sl none 9 a,.sl none 9 b,.int .i64 c,.int .i64 d]
def step (J:Pt->aI):Pt->aI
 | .p0 a b c d=>(cond (d<c) (m2 d (a.length:Int) (m2 d (b.length:Int) (cond (!((qS a (toNat d))==(qS b (toNat d)))) dx (J (.p0 a b c (i64.wrap (d+1))))))) gA)
def start (J:Pt->aI)(x0 x1:aB):aI:=(cond (x0.length != (x1.length:Int)) (ret false) (J (.p0 x0 x1 x0.length 0)))
def live:Nat->Live:=fK [(4,gj [0,1,12,13])]
def md (a0 a1:List aE):Bool:=(bif (a0.length != (a1.length:Int)) then false else (eX (S:=Unit) (β:=Bool) (fun i2 s4=>(cond (!((a0.getD i2 ⟨#[]⟩)==(a1.getD i2 ⟨#[]⟩))) (.inr false) (.inl ()))) (fun s4=>true) a0.length 0 ()))
def gd (a0 a1:List aE):Prop:=(bN (2^21) (fun y:aE=>y.size<=(2^21)) a0)/\(bN (2^21) (fun y:aE=>y.size<=(2^21)) a1)
def R:=cm gd md
def ak {a0 a1}(h:gd a0 a1):R ((a0.map cX),(a1.map cX))=some (md a0 a1):=cq h
def aT:=CN [pL 9,pL 9] oB RT.dec R
def aY (a0)(a1)(hg:gd a0 a1):∃n,start (iter step n) (a0.map cX) (a1.map cX)=ret (md a0 a1):=by
 obtain ⟨H0,H1⟩:=hg
 unfold start md
 simp only [SS]
 refine iK ret (fun _=>⟨0,rfl⟩) (fun c1=>?_)
 have dc1:=c1
 simp only [DC] at dc1
 have Bh3:=bl H0
 refine eo fz (cw (pt:=fun (i2:Nat) (s4:Unit)=>Pt.p0 (a0.map cX) (a1.map cX) (a0.length:Int) (i2:Int)) (fun _ _=>True) (fun J i2 s4 h3 hih3=>?_) (fun s4 hih3=>?_) trivial)
 ·simp only [step,SS]
  refine bp.yes dt (bp.yes aD ?_)
  refine bp.yes (aK h3) (bp.yes aD ?_)
  refine bp.yes dt (bp.bif (fun _=>bp.inr rfl) (fun c5=>?_))
  refine bp.inl trivial ?_
  rw [aH h3 Bh3]
 ·simp only [step,SS]
  refine dO dn (⟨0,?_⟩)
  exact fz
def af:cz 319 aT:=L2 26 (fun _=>4) cu (fun _=>[]) live step start mix aC aY .nil Tryz.func319
def md_eq (a0 a1:List aE):md a0 a1=eu a0 a1:=by
 refine lM (⟨#[]⟩) (fun i s h h2=>?_) (fun s=>rfl)
 simp only [bne,gf,bool_beq,fM]
 cases eu _ _<;>rfl
end Z242
namespace Z243
def F (x0 x1:bK):aI:=(cond (x0.aV==x1.aV) (cond (x0.bJ==x1.bJ) (cond (x0.bX==x1.bX) (call (Z242.R (x0.bh,x1.bh)) fun v1=>ret v1) (ret false)) (ret false)) (ret false))
def md (a0 a1:ah):Bool:=(cond (a0.aV==a1.aV) (cond (a0.bJ==a1.bJ) (cond (a0.bX==a1.bX) ((Z242.md a0.bh a1.bh)) false) false) false)
def gd (a0 a1:ah):Prop:=(ah.Sm (2^21) a0)/\(ah.Sm (2^21) a1)
def R:=cm gd md
def ak {a0 a1}(h:gd a0 a1):R ((ah.r a0),(ah.r a1))=some (md a0 a1):=cq h
def aT:=CN [.agg tw,.agg tw] oB RT.dec R
def aY (a0)(a1)(hg:gd a0 a1):F (ah.r a0) (ah.r a1)=ret (md a0 a1):=by
 obtain ⟨H0,H1⟩:=hg
 refine bs (fun c1=>?_) (fun _=>rfl)
 refine bs (fun c2=>?_) (fun _=>rfl)
 refine bs (fun c3=>?_) (fun _=>rfl)
 exact ct (Z242.ak ⟨H0.2,H1.2⟩) fz
def af:cz 270 aT:=W2 31 F mix aC aY (cD Z242.af) Tryz.func270
def md_eq (a0 a1:ah):md a0 a1=eu a0 a1:=by
 unfold md
 cases a0;cases a1
 rw [Bool.eq_iff_iff]
 simp [dm,fM,ah.mk.injEq,Z242.md_eq]
end Z243
namespace Z244
def F (x0 x1:dX):aI:=(cond (x0.eG==x1.eG) (call (Z196.R (x0.bh,x1.bh)) fun v1=>ret v1) (ret false))
def md (a0 a1:aL):Bool:=(cond (a0.eG==a1.eG) ((Z196.md a0.bh a1.bh)) false)
def gd (a0 a1:aL):Prop:=(aL.Sm (2^21) a0)/\(aL.Sm (2^21) a1)
def R:=cm gd md
def ak {a0 a1}(h:gd a0 a1):R ((aL.r a0),(aL.r a1))=some (md a0 a1):=cq h
def aT:=CN [.agg pP,.agg pP] oB RT.dec R
def aY (a0)(a1)(hg:gd a0 a1):F (aL.r a0) (aL.r a1)=ret (md a0 a1):=by
 obtain ⟨H0,H1⟩:=hg
 refine bs (fun c1=>?_) (fun _=>rfl)
 exact ct (Z196.ak ⟨(H0.mono (by decide) (fun x hx=>trivial)),(H1.mono (by decide) (fun x hx=>trivial))⟩) fz
def af:cz 271 aT:=W2 17 F mix aC aY (cD Z196.af) Tryz.func271
def md_eq (a0 a1:aL):md a0 a1=eu a0 a1:=by
 unfold md
 cases a0;cases a1
 rw [Bool.eq_iff_iff]
 simp [dm,fM,aL.mk.injEq,Z196.md_eq]
end Z244
namespace Z245
def F (x0 x1:ff):aI:=(cond (x0.eG==x1.eG) (call (Z243.R (x0.aN,x1.aN)) fun v1=>(cond v1 (call (Z243.R (x0.bT,x1.bT)) fun v2=>(cond v2 (call (Z244.R (x0.dN,x1.dN)) fun v3=>(cond v3 (call (Z244.R (x0.cA,x1.cA)) fun v4=>ret v4) (ret false))) (ret false))) (ret false))) (ret false))
def md (a0 a1:bL):Bool:=(cond (a0.eG==a1.eG) (cond (Z243.md a0.aN a1.aN) (cond (Z243.md a0.bT a1.bT) (cond (Z244.md a0.dN a1.dN) ((Z244.md a0.cA a1.cA)) false) false) false) false)
def gd (a0 a1:bL):Prop:=(bL.Sm (2^21) a0)/\(bL.Sm (2^21) a1)
def R:=cm gd md
def ak {a0 a1}(h:gd a0 a1):R ((bL.r a0),(bL.r a1))=some (md a0 a1):=cq h
def aT:=CN [.agg sQ,.agg sQ] oB RT.dec R
def aY (a0)(a1)(hg:gd a0 a1):F (bL.r a0) (bL.r a1)=ret (md a0 a1):=by
 obtain ⟨H0,H1⟩:=hg
 refine bs (fun c1=>?_) (fun _=>rfl)
 refine ct (Z243.ak ⟨H0.1,H1.1⟩) (bs (fun c2=>?_) (fun _=>rfl))
 refine ct (Z243.ak ⟨H0.2.1,H1.2.1⟩) (bs (fun c3=>?_) (fun _=>rfl))
 refine ct (Z244.ak ⟨H0.2.2.1,H1.2.2.1⟩) (bs (fun c4=>?_) (fun _=>rfl))
 exact ct (Z244.ak ⟨H0.2.2.2,H1.2.2.2⟩) fz
def af:cz 206 aT:=W2 38 F mix aC aY (eP Z243.af Z244.af) Tryz.func206
def md_eq (a0 a1:bL):md a0 a1=eu a0 a1:=by
 unfold md
 cases a0;cases a1
 rw [Bool.eq_iff_iff]
 simp [dm,fM,bL.mk.injEq,Z243.md_eq,Z244.md_eq]
end Z245
namespace Z246
def F (x0:bK):aI:=(call (Z243.R (x0,(⟨(⟨#[]⟩:aE),0,0,[]⟩))) fun v1=>ret v1)
def md (a0:ah):Bool:=((Z243.md a0 (⟨((⟨#[]⟩:aE)),0,0,[]⟩)))
def gd (a0:ah):Prop:=(ah.Sm (2^21) a0)
def R:=RR gd md
def ak {a0}(h:gd a0):R (ah.r a0)=some (md a0):=cV h
def aT:=CN [.agg tw] oB RT.dec R
def aY (a0)(H0:gd a0):F (ah.r a0)=ret (md a0):=ct (Z243.ak (a1:=(⟨((⟨#[]⟩:aE):aE),0,0,[]⟩:ah)) ⟨H0,⟨(by decide),bN.nil⟩⟩) fz
def af:cz 208 aT:=W1 6 F mix aC aY (cD Z243.af) Tryz.func208
end Z246
namespace Z247
def F (x0:dX):aI:=(call (Z244.R (x0,(⟨0,[]⟩))) fun v1=>ret v1)
def md (a0:aL):Bool:=((Z244.md a0 (⟨0,[]⟩)))
def gd (a0:aL):Prop:=(aL.Sm (2^21) a0)
def R:=RR gd md
def ak {a0}(h:gd a0):R (aL.r a0)=some (md a0):=cV h
def aT:=CN [.agg pP] oB RT.dec R
def aY (a0)(H0:gd a0):F (aL.r a0)=ret (md a0):=ct (Z244.ak (a1:=(⟨0,[]⟩:aL)) ⟨H0,bN.nil⟩) fz
def af:cz 209 aT:=W1 6 F mix aC aY (cD Z244.af) Tryz.func209
end Z247
namespace Z248
def F (x0 x1:Int)(x2:bK)(x3:dX)(x4:Int):aI:=(call (Z156.R (x4,0,(i64.wrap (x1 - 1)))) fun v1=>(cond (!v1) (call (Z246.R x2) fun v2=>(cond v2 (call (Z247.R x3) fun v3=>ret v3) (ret false))) (call (Z241.R (x0,x1,x2,x3)) fun v4=>(cond v4 (ret ((x3.eG==x4))) (ret false)))))
def md (a0 a1:Int)(a2:ah)(a3:aL)(a4:Int):Bool:=(cond (!(Z156.md a4 0 (i64.wrap (a1 - 1)))) (cond (Z246.md a2) ((Z247.md a3)) false) (cond (Z241.md a0 a1 a2 a3) ((a3.eG==a4)) false))
def gd (a0 a1:Int)(a2:ah)(a3:aL)(a4:Int):Prop:=(ah.Sm (2^21) a2)/\(aL.Sm (2^21) a3)
def R:=zV gd md
def ak {a0 a1 a2 a3 a4}(h:gd a0 a1 a2 a3 a4):R (a0,a1,(ah.r a2),(aL.r a3),a4)=some (md a0 a1 a2 a3 a4):=zy h
def aT:=CN [pI,pI,.agg tw,.agg pP,pI] oB RT.dec R
def aY (a0)(a1)(a2)(a3)(a4)(hg:gd a0 a1 a2 a3 a4):F a0 a1 (ah.r a2) (aL.r a3) a4=ret (md a0 a1 a2 a3 a4):=by
 obtain ⟨H2,H3⟩:=hg
 refine ct (Z156.ak trivial) (bs (fun c1=>?_) (fun c1=>?_))
 ·refine ct (Z246.ak H2) (bs (fun c2=>?_) (fun _=>rfl))
  exact ct (Z247.ak H3) fz
 ·refine ct (Z241.ak ⟨H2,H3⟩) (bs (fun c3=>?_) (fun _=>rfl))
  exact fz
def af:cz 273 aT:=W5 33 F mix aC aY (kE Z156.af Z246.af Z247.af Z241.af) Tryz.func273
end Z248
namespace Z249
def F (x0 x1:Int)(x2:aE)(x3:ff):aI:=(call (Z157.R x2) fun v1=>(cond (!v1) (ret false) (call (Z156.R (x3.eG,0,x1)) fun v2=>(cond (!v2) (ret false) (cond (x1==0) (call (Z221.R []) fun v3=>(cond (x0 != v3) (ret false) (call (Z248.R (x0,x1,x3.aN,x3.dN,(i64.wrap (x3.eG - 1)))) fun v4=>(cond (!v4) (ret false) (call (Z248.R (x0,x1,x3.bT,x3.cA,x3.eG)) fun v5=>(cond (!v5) (ret false) (cond (x3.eG==0) (cond (x3.eG==x1) (ret true) (call (Z209.R (x3.bT.aV,x2)) fun v6=>ret ((decide (v6>0))))) (call (Z209.R (x3.aN.aV,x2)) fun v7=>(cond (v7<0) (cond (x3.eG==x1) (ret true) (call (Z209.R (x3.bT.aV,x2)) fun v8=>ret ((decide (v8>0))))) (ret false)))))))))) (call (Z248.R (x0,x1,x3.aN,x3.dN,(i64.wrap (x3.eG - 1)))) fun v9=>(cond (!v9) (ret false) (call (Z248.R (x0,x1,x3.bT,x3.cA,x3.eG)) fun v10=>(cond (!v10) (ret false) (cond (x3.eG==0) (cond (x3.eG==x1) (ret true) (call (Z209.R (x3.bT.aV,x2)) fun v11=>ret ((decide (v11>0))))) (call (Z209.R (x3.aN.aV,x2)) fun v12=>(cond (v12<0) (cond (x3.eG==x1) (ret true) (call (Z209.R (x3.bT.aV,x2)) fun v13=>ret ((decide (v13>0))))) (ret false)))))))))))))
def md (a0 a1:Int)(a2:aE)(a3:bL):Bool:=(cond (!(Z157.md a2)) false (cond (!(Z156.md a3.eG 0 a1)) false (cond (a1==0) (cond (a0 != (Z221.md [])) false (cond (!(Z248.md a0 a1 a3.aN a3.dN (i64.wrap (a3.eG - 1)))) false (cond (!(Z248.md a0 a1 a3.bT a3.cA a3.eG)) false (cond (a3.eG==0) (cond (a3.eG==a1) true ((decide ((Z209.md a3.bT.aV a2)>0)))) (cond ((Z209.md a3.aN.aV a2)<0) (cond (a3.eG==a1) true ((decide ((Z209.md a3.bT.aV a2)>0)))) false))))) (cond (!(Z248.md a0 a1 a3.aN a3.dN (i64.wrap (a3.eG - 1)))) false (cond (!(Z248.md a0 a1 a3.bT a3.cA a3.eG)) false (cond (a3.eG==0) (cond (a3.eG==a1) true ((decide ((Z209.md a3.bT.aV a2)>0)))) (cond ((Z209.md a3.aN.aV a2)<0) (cond (a3.eG==a1) true ((decide ((Z209.md a3.bT.aV a2)>0)))) false)))))))
def gd (a0 a1:Int)(a2:aE)(a3:bL):Prop:=(a2.size<=(2^21))/\(bL.Sm (2^21) a3)
def R:=vZ gd md
def ak {a0 a1 a2 a3}(h:gd a0 a1 a2 a3):R (a0,a1,a2,(bL.r a3))=some (md a0 a1 a2 a3):=wH h
def aT:=CN [pI,pI,pS,.agg sQ] oB RT.dec R
def aY (a0)(a1)(a2)(a3)(hg:gd a0 a1 a2 a3):F a0 a1 a2 (bL.r a3)=ret (md a0 a1 a2 a3):=by
 obtain ⟨H2,H3⟩:=hg
 refine ct (Z157.ak (le_trans H2 (by decide))) (bs (fun _=>rfl) (fun c1=>?_))
 refine ct (Z156.ak trivial) (bs (fun _=>rfl) (fun c2=>?_))
 refine bs (fun c3=>?_) (fun c3=>?_)
 ·refine aU _ (rq (Z221.ak bN.nil)) (bs (fun _=>rfl) (fun c4=>?_))
  refine ct (Z248.ak ⟨H3.1,H3.2.2.1⟩) (bs (fun _=>rfl) (fun c5=>?_))
  refine ct (Z248.ak ⟨H3.2.1,H3.2.2.2⟩) (bs (fun _=>rfl) (fun c6=>?_))
  refine bs (fun c7=>?_) (fun c7=>?_)
  ·refine bs (fun _=>rfl) (fun c8=>?_)
   exact ct (Z209.ak trivial) fz
  ·refine ct (Z209.ak trivial) (bs (fun c9=>?_) (fun _=>rfl))
   refine bs (fun _=>rfl) (fun c10=>?_)
   exact ct (Z209.ak trivial) fz
 ·refine ct (Z248.ak ⟨H3.1,H3.2.2.1⟩) (bs (fun _=>rfl) (fun c11=>?_))
  refine ct (Z248.ak ⟨H3.2.1,H3.2.2.2⟩) (bs (fun _=>rfl) (fun c12=>?_))
  refine bs (fun c13=>?_) (fun c13=>?_)
  ·refine bs (fun _=>rfl) (fun c14=>?_)
   exact ct (Z209.ak trivial) fz
  ·refine ct (Z209.ak trivial) (bs (fun c15=>?_) (fun _=>rfl))
   refine bs (fun _=>rfl) (fun c16=>?_)
   exact ct (Z209.ak trivial) fz
def af:cz 207 aT:=W4 76 F mix aC aY (xy Z157.af Z156.af Z221.af Z248.af Z209.af) Tryz.func207
def Dz (a0 a1:Int)(a2:aE)(a3:bL)(hc:a1<=1000):md a0 a1 a2 a3=Z129.md a0 a1 a2 a3:=by
 unfold md Z129.md Z248.md Z128.md Z246.md Z247.md
 simp only [Z157.br,Z156.br,Z221.br,Z241.br,Z243.md_eq,Z125.md_eq,Z244.md_eq,Z126.md_eq,Z209.br,Z91.lt,Z91.gt]
 cases Z60.md a2
 ·rfl
 cases hr:Z59.md a3.eG 0 a1
 ·rfl
 have hi:0<=a3.eG/\a3.eG<=a1:=by simpa [Z59.md] using hr
 have w1:i64.wrap (a1 - 1)=a1 - 1:=Go.IntWalk.i64_in _ (by omega)
 have w2:i64.wrap (a3.eG - 1)=a3.eG - 1:=Go.IntWalk.i64_in _ (by omega)
 have e1:Z59.md (a3.eG - 1) 0 (a1 - 1)=!(a3.eG==0):=by
  rw [Bool.eq_iff_iff];simp [Z59.md];omega
 have e2:Z59.md a3.eG 0 (a1 - 1)=!(a3.eG==a1):=by
  rw [Bool.eq_iff_iff];simp [Z59.md];omega
 simp only [w1,w2,e1,e2,bne]
 generalize (a3.eG==0)=z
 generalize (a3.eG==a1)=e
 generalize (a1==0)=c0
 generalize (a0==Z102.md [])=rt
 generalize eu a3.aN _=x1
 generalize eu a3.dN _=x2
 generalize eu a3.bT _=x3
 generalize eu a3.cA _=x4
 generalize Z123.md a0 a1 a3.aN a3.dN=k1
 generalize Z123.md a0 a1 a3.bT a3.cA=k2
 generalize (a3.dN.eG==a3.eG - 1)=p1
 generalize (a3.cA.eG==a3.eG)=p2
 generalize (Z91.md a3.aN.aV a2 == -1)=m1
 generalize (Z91.md a3.bT.aV a2==1)=m2
 cases c0<;>cases rt<;>cases z<;>cases e<;>cases x1<;>cases x2<;>cases k1<;>cases p1<;>cases m1<;>first | rfl | (cases x3<;>cases x4<;>rfl) | (cases k2<;>cases p2<;>cases m2<;>rfl)
end Z249
namespace Z250
def F (x0:dI)(x1:aE)(x2:bq):aI:=(cond x2.cj (cond (x2.aS.aV==x1) (call (Z241.R (x0.dG,x0.cE,x2.aS,x2.dy)) fun v1=>(cond v1 (call (Z245.R (x2.dA,(⟨0,(⟨(⟨#[]⟩:aE),0,0,[]⟩),(⟨(⟨#[]⟩:aE),0,0,[]⟩),(⟨0,[]⟩),(⟨0,[]⟩)⟩))) fun v2=>ret v2) (ret false))) (ret false)) (call (Z249.R (x0.dG,x0.cE,x1,x2.dA)) fun v3=>(cond v3 (call (Z246.R x2.aS) fun v4=>(cond v4 (call (Z247.R x2.dy) fun v5=>ret v5) (ret false))) (ret false))))
def md (a0:aF)(a1:aE)(a2:aq):Bool:=(cond a2.cj (cond (a2.aS.aV==a1) (cond (Z241.md a0.dG a0.cE a2.aS a2.dy) ((Z245.md a2.dA (⟨0,(⟨((⟨#[]⟩:aE)),0,0,[]⟩),(⟨((⟨#[]⟩:aE)),0,0,[]⟩),(⟨0,[]⟩),(⟨0,[]⟩)⟩))) false) false) (cond (Z249.md a0.dG a0.cE a1 a2.dA) (cond (Z246.md a2.aS) ((Z247.md a2.dy)) false) false))
def gd (a0:aF)(a1:aE)(a2:aq):Prop:=(a1.size<=(2^21))/\(aq.Sm (2^21) a2)
def R:=lp gd md
def ak {a0 a1 a2}(h:gd a0 a1 a2):R ((aF.r a0),a1,(aq.r a2))=some (md a0 a1 a2):=kZ h
def aT:=CN [.agg gH,pS,.agg sn] oB RT.dec R
def aY (a0)(a1)(a2)(hg:gd a0 a1 a2):F (aF.r a0) a1 (aq.r a2)=ret (md a0 a1 a2):=by
 obtain ⟨H1,H2⟩:=hg
 refine bs (fun c1=>?_) (fun c1=>?_)
 ·refine bs (fun c2=>?_) (fun _=>rfl)
  refine ct (Z241.ak ⟨H2.2.1,H2.2.2.1⟩) (bs (fun c3=>?_) (fun _=>rfl))
  exact ct (Z245.ak (a1:=(⟨0,(⟨((⟨#[]⟩:aE):aE),0,0,[]⟩:ah),(⟨((⟨#[]⟩:aE):aE),0,0,[]⟩:ah),(⟨0,[]⟩:aL),(⟨0,[]⟩:aL)⟩:bL)) ⟨H2.2.2.2,⟨⟨(by decide),bN.nil⟩,⟨(by decide),bN.nil⟩,bN.nil,bN.nil⟩⟩) fz
 ·refine ct (Z249.ak ⟨H1,H2.2.2.2⟩) (bs (fun c4=>?_) (fun _=>rfl))
  refine ct (Z246.ak H2.2.1) (bs (fun c5=>?_) (fun _=>rfl))
  exact ct (Z247.ak H2.2.2.1) fz
def af:cz 158 aT:=W3 49 F mix aC aY (xy Z241.af Z245.af Z249.af Z246.af Z247.af) Tryz.func158
def Dz (a0:aF)(a1:aE)(a2:aq)(hc:a0.cE<=1000):md a0 a1 a2=Z130.md a0 a1 a2:=by
 unfold md Z130.md Z128.md Z246.md Z247.md
 simp only [Z249.Dz _ _ _ _ hc,Z241.br,Z243.md_eq,Z125.md_eq,Z244.md_eq,Z126.md_eq,Z245.md_eq,Z127.md_eq]
end Z250
namespace Z251
def F (x0:Int)(x1:aE)(x2:bq)(x3:Int):aI:=(call (Z238.R x2.aQ) fun v1=>(cond (!v1.2) (ret (3:Int)) (cond (v1.1.bz != x0) (ret (2:Int)) (call (Z239.R (v1.1,x3)) fun v2=>(cond (!v2) (ret (4:Int)) (cond v1.1.bD (ret (5:Int)) (call (Z250.R (v1.1,x1,x2)) fun v3=>(cond (!v3) (ret (6:Int)) (ret (1:Int))))))))))
def md (a0:Int)(a1:aE)(a2:aq)(a3:Int):Int:=(cond (!(Z238.md a2.aQ).2) (3:Int) (cond ((Z238.md a2.aQ).1.bz != a0) (2:Int) (cond (!(Z239.md ((Z238.md a2.aQ).1) a3)) (4:Int) (cond ((Z238.md a2.aQ).1.bD) (5:Int) (cond (!(Z250.md ((Z238.md a2.aQ).1) a1 a2)) (6:Int) (1:Int))))))
def gd (a0:Int)(a1:aE)(a2:aq)(a3:Int):Prop:=(a1.size<=(2^21))/\(aq.Sm (2^21) a2)
def R:=vZ gd md
def ak {a0 a1 a2 a3}(h:gd a0 a1 a2 a3):R (a0,a1,(aq.r a2),a3)=some (md a0 a1 a2 a3):=wH h
def aT:=CN [pI,pS,.agg sn,pI] oI RT.dec R
def aY (a0)(a1)(a2)(a3)(hg:gd a0 a1 a2 a3):F a0 a1 (aq.r a2) a3=ret (md a0 a1 a2 a3):=by
 obtain ⟨H1,H2⟩:=hg
 refine ct (Z238.ak H2.1) (bs (fun _=>rfl) (fun c1=>?_))
 refine bs (fun _=>rfl) (fun c2=>?_)
 refine ct (Z239.ak trivial) (bs (fun _=>rfl) (fun c3=>?_))
 refine bs (fun _=>rfl) (fun c4=>?_)
 refine ct (Z250.ak ⟨H1,H2⟩) (bs (fun _=>rfl) (fun _=>rfl))
def af:cz 106 aT:=W4 39 F mix aC aY (kC Z238.af Z239.af Z250.af) Tryz.func106
def br (a0:Int)(a1:aE)(a2:aq)(a3:Int):md a0 a1 a2 a3=Z131.md a0 a1 a2 a3:=by
 unfold md Z131.md
 simp only [Z238.br,Z239.br]
 cases hok:(Z89.md a2.aQ).2
 ·rfl
 ·have:=Z66.tr (Z89.head hok).2.2
  rw [Z250.Dz _ _ _ (by omega)]
end Z251
namespace Z252
def F (x0:aB)(x1:List L):aI:=(cond ((x0.length:Int)>0) (bY ((0:Int)<x0.length) (ret (((bf.at x0 0).an.bz==(gq x1))))) (ret false))
def pats:List gK:=[.rd (.sl 178),.ptr [au]]
def res:RP:=.one (.rd (.bool))
def md (a0:List aa)(a1:Int):Bool:=(cond ((a0.length:Int)>0) ((((a0.getD 0 aa.zero).an).bz==a1)) false)
def gd (a0:List aa)(a1:Int):Prop:=(bN (2^21) (fun y:aa=>aa.Sm (2^21) y) a0)
def acc (ls:List L):aB×Int:=((dc ls),(gq (cI 1 (bE 1 ls))))
def R:(aB×Int)->Option Bool:=cm gd md
def ak {a0 a1}(h:gd a0 a1):R ((a0.map aa.row),a1)=some (md a0 a1):=cq h
def aT:gh:=CN pats res acc R
def aY (a0:List aa)(a1:Int)(p1:List L)(e1:a1=(gq p1))(hg:gd a0 a1):F (a0.map aa.row) p1=ret ((md a0 a1):Bool):=by
 unfold F md
 simp only [SS,<-e1]
 refine bs (fun c1=>?_) (fun _=>rfl)
 have dc1:=c1
 simp only [DC] at dc1
 exact aj dt fz
def nY (ls:List L)(a:List aa×Int)(e:acc ls=Im.im a)(hg:(p2 gd) a):∃n:Nat,F ((dc ls)) (cI 1 (bE 1 ls))=ret (Im.im ((u2 md) a)):=by
 have e0:(a.1.map aa.row)=(dc ls):=(congrArg (fun x=>x.1) e.symm)
 have hn:=aY a.1 a.2 (cI 1 (bE 1 ls)) (congrArg (fun x=>x.2) e.symm) hg
 refine ⟨0,?_⟩
 rw [<-e0]
 exact hn
def af:cz 306 aT:=VP (live:=fun _=>[]) (nt:=16) (accr:=fun ls=>((dc ls),(cI 1 (bE 1 ls)))) (run:=fun _ x=>F x.1 x.2) mix aC .nil Tryz.func306 (by kernel_rfl) (fun _ _=>by kernel_rfl) (fun ls a _ e hg=>nY ls a e hg)
end Z252
namespace Z253
inductive Pt where
 | p0 (a:aB) (b:List L) (c d:Int)
def pid:Pt->Nat
 | .p0 ..=>2
def cu:Pt->List V
 | .p0 a b c d=>[.sl none 120 a,.fn 306 [.dQ none [au] b 0],.int .i64 c,.int .i64 d]
def cR:Pt->List aW
 | .p0 a b c d=>[]
def step (J:Pt->aI):Pt->aI
 | .p0 a b c d=>(cond (d<c) (m2 d (a.length:Int) (call (Z252.R ((qi a (toNat d)),(gq b))) fun v1=>(cond v1 (ret (d:Int)) (J (.p0 a b c (i64.wrap (d+1))))))) bV)
def start (J:Pt->aI)(x0:aB)(x1:List L):aI:=J (.p0 x0 x1 x0.length 0)
def live:Nat->Live:=fK [(2,gj [0,1,7,8])]
def pats:List gK:=[.rd (.sl 120),.fn 306 [[au]]]
def res:RP:=.one (.rd (.int .i64))
abbrev E:Env:={ T:=assoc lC,G:=dK [(306,Z252.aT)],nt:=19 }
def step_eq (I:cJ)(p:Pt):dh E live I (pid p) (bI Tryz.f305) (fU (live (pid p)) (cu p) (cR p)) (cG E Tryz.f305 res)=step (fun q=>I (pid q) (cu q) (cR q)) p:=by
 cases p<;>kernel_rfl
def start_eq (I:cJ)(ls:List L):fH E live I (bI Tryz.f305) (dF pats ls) (cG E Tryz.f305 res)=start (fun q=>I (pid q) (cu q) (cR q)) (dc ls) (cI 1 (bE 1 ls)):=by kernel_rfl
def run_eq (n:Nat)(ls:List L):eY E live Tryz.f305 res n (dF pats ls)=start (iter step n) (dc ls) (cI 1 (bE 1 ls)):=cB (id:=pid) (vs:=cu) (hs:=cR) (step:=step) (start:=fun J=>start J (dc ls) (cI 1 (bE 1 ls))) step_eq (fun I=>start_eq I ls) n
def md (a0:List (List aa))(a1:Int):Int:=(ep (S:=Unit) (β:=Int) (fun i1 (y1:List aa) s3=>(cond (Z252.md y1 a1) (.inr (i1)) (.inl ()))) (fun s3=>((-1):Int)) 0 a0 ())
def gd (a0:List (List aa))(a1:Int):Prop:=(bN (2^21) (fun y:List aa=>bN (2^21) (fun y:aa=>aa.Sm (2^21) y) y) a0)
def acc (ls:List L):aB×Int:=((dc ls),(gq (cI 1 (bE 1 ls))))
def R:(aB×Int)->Option Int:=cm gd md
def ak {a0 a1}(h:gd a0 a1):R ((a0.map (eK aa.row)),a1)=some (md a0 a1):=cq h
def aT:gh:=CN pats res acc R
def aY (a0:List (List aa))(a1:Int)(p1:List L)(e1:a1=(gq p1))(H0:gd a0 a1):∃n,start (iter step n) (a0.map (eK aa.row)) p1=ret ((md a0 a1):Int):=by
 have Bh2:=bl H0
 refine ex_eq (dw (z:=[])) (eo (p:=Pt.p0 (a0.map (eK aa.row)) p1 (a0.length:Int) 0) fz ?_)
 refine cw (pt:=fun (i1:Nat) (s3:Unit)=>Pt.p0 (a0.map (eK aa.row)) p1 (a0.length:Int) (i1:Int)) (fun _ _=>True) (fun J i1 s3 h2 hih2=>?_) (fun s3 hih2=>?_) trivial
 ·simp only [step,SS,<-e1]
  refine bp.yes dt (bp.yes aD ?_)
  refine bp.yes (aK h2) (cr (Z252.ak (bN.getD H0 h2)) ?_)
  refine bp.bif (fun c4=>bp.inr fz) (fun c4=>?_)
  refine bp.inl trivial ?_
  rw [aH h2 Bh2]
 ·simp only [step,SS,<-e1]
  refine dO dn (⟨0,?_⟩)
  exact fz
def nY (ls:List L)(a:List (List aa)×Int)(e:acc ls=Im.im a)(hg:(p2 gd) a):∃n:Nat,start (iter step n) ((dc ls)) (cI 1 (bE 1 ls))=ret (Im.im ((u2 md) a)):=by
 have e0:(a.1.map (eK aa.row))=(dc ls):=(congrArg (fun x=>x.1) e.symm)
 obtain ⟨n,hn⟩:=aY a.1 a.2 (cI 1 (bE 1 ls)) (congrArg (fun x=>x.2) e.symm) hg
 refine ⟨n,?_⟩
 rw [<-e0]
 exact hn
def af:cz 305 aT:=VP (accr:=fun ls=>((dc ls),(cI 1 (bE 1 ls)))) (run:=fun n x=>start (iter step n) x.1 x.2) mix aC (cD Z252.af) Tryz.func305 (by kernel_rfl) run_eq (fun ls a _ e hg=>nY ls a e hg)
def fa (a0:List (List aa))(a1:Int):-1<=md a0 a1/\md a0 a1<(a0.length:Int):=by
 refine iO ?_ _ _
 all_goals
  intro i x s b h
  revert h
  simp only [Bool.cond_eq_ite]
  repeat' split
  all_goals (intro h;first | (cases h;rfl) | cases h)
def idx_eq (a0:List (List aa))(a1:Int):md a0 a1=jE (fun y=>Z252.md y a1) 0 a0:=iL
end Z253
namespace Z254
def F (x0:bA)(x1:Int):aI:=(call (Z253.R (x0.aM,x1)) fun v1=>ret v1)
def md (a0:aA)(a1:Int):Int:=((Z253.md a0.aM a1))
def gd (a0:aA)(a1:Int):Prop:=(aA.Sm (2^21) a0)
def R:=cm gd md
def ak {a0 a1}(h:gd a0 a1):R ((aA.r a0),a1)=some (md a0 a1):=cq h
def aT:=CN [.agg xg,pI] oI RT.dec R
def aY (a0)(a1)(H0:gd a0 a1):F (aA.r a0) a1=ret (md a0 a1):=ct (Z253.ak H0.1) fz
def af:cz 252 aT:=W2 9 F mix aC aY (cD Z253.af) Tryz.func252
def fa (a0:aA)(a1:Int):-1<=md a0 a1/\md a0 a1<(a0.aM.length:Int):=by unfold md;exact Z253.fa _ _
def br (a0:aA)(a1:Int):md a0 a1=Z115.md a0 a1:=by
 unfold md Z115.md
 rw [Z253.idx_eq]
 symm
 refine kU (fun i x s=>?_) _ _ _
 unfold Z252.md
 cases decide ((x.length:Int)>0)<;>first | rfl | (cases ((x.getD 0 aa.zero).an).bz==a1<;>rfl)
end Z254
namespace Z255
def F (x0 x1:dI):aI:=(call (Z197.R (x0.bU,x1.bU)) fun v1=>(cond v1 (call (Z197.R (x0.bF,x1.bF)) fun v2=>(cond v2 (call (Z197.R (x0.bC,x1.bC)) fun v3=>(cond v3 (call (Z182.R x0) fun v4=>(call (Z182.R x1) fun v5=>(call (Z196.R (v4,v5)) fun v6=>ret v6))) (ret false))) (ret false))) (ret false)))
def md (a0 a1:aF):Bool:=(cond (Z197.md a0.bU a1.bU) (cond (Z197.md a0.bF a1.bF) (cond (Z197.md a0.bC a1.bC) ((Z196.md (Z182.md a0) (Z182.md a1))) false) false) false)
def gd (a0 a1:aF):Prop:=(aF.Sm (2^21) a0)/\(aF.Sm (2^21) a1)
def R:=cm gd md
def ak {a0 a1}(h:gd a0 a1):R ((aF.r a0),(aF.r a1))=some (md a0 a1):=cq h
def aT:=CN [.agg gH,.agg gH] oB RT.dec R
def aY (a0)(a1)(hg:gd a0 a1):F (aF.r a0) (aF.r a1)=ret (md a0 a1):=by
 obtain ⟨H0,H1⟩:=hg
 refine ct (Z197.ak ⟨H0.1,H1.1⟩) (bs (fun c1=>?_) (fun _=>rfl))
 refine ct (Z197.ak ⟨H0.2.1,H1.2.1⟩) (bs (fun c2=>?_) (fun _=>rfl))
 refine ct (Z197.ak ⟨H0.2.2,H1.2.2⟩) (bs (fun c3=>?_) (fun _=>rfl))
 refine ct (Z182.ak H0) (ct (Z182.ak H1) ?_)
 exact ct (Z196.ak ⟨⟨(have:=Z182.len a0;have:=(H0.1).1;have:=(H0.2.1).1;have:=(H0.2.2).1;om),fun _ _=>trivial⟩,⟨(have:=Z182.len a1;have:=(H1.1).1;have:=(H1.2.1).1;have:=(H1.2.2).1;om),fun _ _=>trivial⟩⟩) fz
def af:cz 307 aT:=W2 31 F mix aC aY (kC Z197.af Z182.af Z196.af) Tryz.func307
def md_eq (a0 a1:aF):md a0 a1=eu a0 a1:=by
 unfold md
 simp only [Z196.md_eq,Z197.md_eq,Z182.br]
 rw [Bool.eq_iff_iff]
 constructor
 ·intro h
  simp only [BA,Bool.and_eq_true] at h
  exact dm.2 (Z71.inj (dm.1 h.2.2.2))
 ·intro h
  rw [dm] at h
  rw [h]
  simp only [gL];rfl
end Z255
namespace Z256
inductive Pt where
 | p0 (a b:aB) (c d:Int)
def cu:Pt->List V
 | .p0 a b c d=>[.sl none 178 a,.sl none 178 b,.int .i64 c,.int .i64 d]
def step (J:Pt->aI):Pt->aI
 | .p0 a b c d=>(cond (d<c) (m2 d (b.length:Int) (m2 d (a.length:Int) (call (Z255.R ((bf.at b (toNat d)).an,(bf.at a (toNat d)).an)) fun v1=>(cond (!v1) dx (J (.p0 a b c (i64.wrap (d+1)))))))) gA)
def start (J:Pt->aI)(x0 x1:aB):aI:=(cond (x0.length>(x1.length:Int)) (ret false) (J (.p0 x1 x0 x0.length 0)))
def live:Nat->Live:=fK [(4,gj [1,12,13,14])]
def md (a0 a1:List aa):Bool:=(bif (decide (a0.length>(a1.length:Int))) then false else (eX (S:=Unit) (β:=Bool) (fun i2 s4=>(cond (!(Z255.md ((a0.getD i2 aa.zero).an) ((a1.getD i2 aa.zero).an))) (.inr false) (.inl ()))) (fun s4=>true) a0.length 0 ()))
def gd (a0 a1:List aa):Prop:=(bN (2^21) (fun y:aa=>aa.Sm (2^21) y) a0)/\(bN (2^21) (fun y:aa=>aa.Sm (2^21) y) a1)
def R:=cm gd md
def ak {a0 a1}(h:gd a0 a1):R ((a0.map aa.row),(a1.map aa.row))=some (md a0 a1):=cq h
def aT:=CN [pL 178,pL 178] oB RT.dec R
def aY (a0)(a1)(hg:gd a0 a1):∃n,start (iter step n) (a0.map aa.row) (a1.map aa.row)=ret (md a0 a1):=by
 obtain ⟨H0,H1⟩:=hg
 unfold start md
 simp only [SS]
 refine iK ret (fun _=>⟨0,rfl⟩) (fun c1=>?_)
 have dc1:=c1
 simp only [DC] at dc1
 have Bh3:=bl H0
 refine eo fz (cw (pt:=fun (i2:Nat) (s4:Unit)=>Pt.p0 (a1.map aa.row) (a0.map aa.row) (a0.length:Int) (i2:Int)) (fun _ _=>True) (fun J i2 s4 h3 hih3=>?_) (fun s4 hih3=>?_) trivial)
 ·simp only [step,SS]
  refine bp.yes dt (bp.yes aD ?_)
  refine bp.yes (aK h3) (bp.yes aD ?_)
  refine bp.yes dt (cr (Z255.ak ⟨(bN.getD H0 h3).1,(bN.getD H1 (by omega)).1⟩) ?_)
  refine bp.bif (fun _=>bp.inr rfl) (fun c5=>?_)
  refine bp.inl trivial ?_
  rw [aH h3 Bh3]
 ·simp only [step,SS]
  refine dO dn (⟨0,?_⟩)
  exact fz
def af:cz 304 aT:=L2 29 (fun _=>4) cu (fun _=>[]) live step start mix aC aY (cD Z255.af) Tryz.func304
def br (a0 a1:List aa):md a0 a1=Z117.md a0 a1:=by
 unfold md Z117.md
 simp only [Z255.md_eq,Z116.md_eq]
end Z256
namespace Z257
def F (x0:bA)(x1:aB):aI:=(call (Z204.R x1) fun v1=>(cond (!v1) (ret (6:Int)) (bY ((0:Int)<x1.length) (call (Z254.R (x0,(bf.at x1 0).an.bz)) fun v2=>(cond (v2<0) (ret (1:Int)) (m2 v2 x0.aM.length (call (Z256.R ((qi x0.aM (toNat v2)),x1)) fun v3=>(m2 v2 x0.aM.length (call (Z256.R (x1,(qi x0.aM (toNat v2)))) fun v4=>(cond v3 (cond v4 (ret (2:Int)) (cond v3 (ret (3:Int)) (cond v4 (ret (4:Int)) (ret (5:Int))))) (cond v3 (ret (3:Int)) (cond v4 (ret (4:Int)) (ret (5:Int))))))))))))))
def md (a0:aA)(a1:List aa):Int:=(cond (!(Z204.md a1)) (6:Int) (cond ((Z254.md a0 (((a1.getD 0 aa.zero).an).bz))<0) (1:Int) (cond (Z256.md (a0.aM.getD (toNat (Z254.md a0 (((a1.getD 0 aa.zero).an).bz))) []) a1) (cond (Z256.md a1 (a0.aM.getD (toNat (Z254.md a0 (((a1.getD 0 aa.zero).an).bz))) [])) (2:Int) (cond (Z256.md (a0.aM.getD (toNat (Z254.md a0 (((a1.getD 0 aa.zero).an).bz))) []) a1) (3:Int) (cond (Z256.md a1 (a0.aM.getD (toNat (Z254.md a0 (((a1.getD 0 aa.zero).an).bz))) [])) (4:Int) (5:Int)))) (cond (Z256.md (a0.aM.getD (toNat (Z254.md a0 (((a1.getD 0 aa.zero).an).bz))) []) a1) (3:Int) (cond (Z256.md a1 (a0.aM.getD (toNat (Z254.md a0 (((a1.getD 0 aa.zero).an).bz))) [])) (4:Int) (5:Int))))))
def gd (a0:aA)(a1:List aa):Prop:=(aA.Sm (2^21) a0)/\(bN (2^21) (fun y:aa=>aa.Sm (2^21) y) a1)
def R:=cm gd md
def ak {a0 a1}(h:gd a0 a1):R ((aA.r a0),(a1.map aa.row))=some (md a0 a1):=cq h
def aT:=CN [.agg xg,pL 178] oI RT.dec R
def aY (a0)(a1)(hg:gd a0 a1):F (aA.r a0) (a1.map aa.row)=ret (md a0 a1):=by
 obtain ⟨H0,H1⟩:=hg
 unfold F md
 simp only [SS]
 refine ct (Z204.ak H1) (bs (fun _=>rfl) (fun c1=>?_))
 have tc1:=Z204.tr (by simpa using c1)
 refine aj dt (ct (Z254.ak H0) ?_)
 have fv2_:=Z254.fa a0 (((a1.getD 0 aa.zero).an).bz)
 refine bs (fun _=>rfl) (fun c2=>?_)
 have dc2:=c2
 simp only [DC] at dc2
 refine aj dt (aj (have:=(H0.1).1;dt) ?_)
 refine ct (Z256.ak ⟨(bN.getD H0.1 (by omega)),H1⟩) (aj dt ?_)
 refine aj (have:=(H0.1).1;dt) (ct (Z256.ak ⟨H1,(bN.getD H0.1 (by omega))⟩) ?_)
 refine bs (fun c3=>?_) (fun c3=>?_)
 ·refine bs (fun _=>rfl) (fun c4=>?_)
  refine bs (fun _=>rfl) (fun c5=>?_)
  refine bs (fun _=>rfl) (fun _=>rfl)
 ·refine bs (fun _=>rfl) (fun c7=>?_)
  refine bs (fun _=>rfl) (fun _=>rfl)
def af:cz 251 aT:=W2 43 F mix aC aY (kC Z204.af Z254.af Z256.af) Tryz.func251
def fa (a0:aA)(a1:List aa):(md a0 a1=3->1<=a1.length/\0<=Z254.md a0 (a1.getD 0 aa.zero).an.bz)/\(md a0 a1=5->1<=a1.length/\0<=Z254.md a0 (a1.getD 0 aa.zero).an.bz):=by
 unfold md
 cases h:Z204.md a1
 ·exact ⟨fun h=>by simp at h,fun h=>by simp at h⟩
 ·have t:=Z204.tr h
  cases hf:decide (Z254.md a0 ((a1.getD 0 aa.zero).an.bz)<0)
  ·have:=of_decide_eq_false hf
   exact ⟨fun _=>⟨t.1,by omega⟩,fun _=>⟨t.1,by omega⟩⟩
  ·exact ⟨fun h=>by simp at h,fun h=>by simp at h⟩
def br (a0:aA)(a1:List aa):md a0 a1=Z118.md a0 a1:=by
 unfold md Z118.md
 simp only [Z204.br,Z254.br,Z256.br]
end Z257
namespace Z258
inductive Pt where
 | p0 (a b:aB) (c d e f g h i j k l m n o:Int) (p:Bool) (q s t u v w y z w24 w25 w26 w27:Int) (w28:Bool) (w29 w30 w31 w32 w33 w34 w35 w36 w37 w38 w39 w40:Int) (w41:Bool)
def cu:Pt->List V
 | .p0 a b c d e f g h i j k l m n o p q s t u v w y z w24 w25 w26 w27 w28 w29 w30 w31 w32 w33 w34 w35 w36 w37 w38 w39 w40 w41=>[.sl none 178 a,.sl none 178 b,.cC 0 0,.int .i64 c]
def cR:Pt->List aW
 | .p0 a b c d e f g h i j k l m n o p q s t u v w y z w24 w25 w26 w27 w28 w29 w30 w31 w32 w33 w34 w35 w36 w37 w38 w39 w40 w41=>[.box [.int .i64 d,.int .i64 e,.int .i64 f,.int .i64 g,.int .i64 h,.int .i64 i,.int .i64 j,.int .i64 k,.nil,.int .i64 l,.nil,.int .i64 m,.int .i64 n,.nil,.int .i64 o,.bool p,.nil,.int .i64 q,.int .i64 s,.int .i64 t,.int .i64 u,.int .i64 v,.int .i64 w,.int .i64 y,.int .i64 z,.nil,.int .i64 w24,.nil,.int .i64 w25,.int .i64 w26,.nil,.int .i64 w27,.bool w28,.nil,.int .i64 w29,.int .i64 w30,.int .i64 w31,.int .i64 w32,.int .i64 w33,.int .i64 w34,.int .i64 w35,.int .i64 w36,.nil,.int .i64 w37,.nil,.int .i64 w38,.int .i64 w39,.nil,.int .i64 w40,.bool w41,.nil]]
def step (J:Pt->aI):Pt->aI
 | .p0 a b c d e f g h i j k l m n o p q s t u v w y z w24 w25 w26 w27 w28 w29 w30 w31 w32 w33 w34 w35 w36 w37 w38 w39 w40 w41=>(m2 c (a.length:Int) (m2 c (b.length:Int) (call (Z255.R ((bf.at a (toNat c)).an,(bf.at b (toNat c)).an)) fun v1=>(cond v1 (J (.p0 a b (i64.wrap (c+1)) d e f g h i j k l m n o p q s t u v w y z w24 w25 w26 w27 w28 w29 w30 w31 w32 w33 w34 w35 w36 w37 w38 w39 w40 w41)) (m2 c (a.length:Int) (call (Z145.R (bf.at a (toNat c))) fun v2=>(m2 c (b.length:Int) (call (Z145.R (bf.at b (toNat c))) fun v3=>(cond (c>0) (bY ((0:Int)<=(i64.wrap (c - 1))) (bY ((i64.wrap (c - 1))<(a.length:Int)) (call (Z145.R (bf.at a (toNat (i64.wrap (c - 1))))) fun v4=>ret (((⟨v4,v2,v3⟩:bO),true):bO×Bool)))) (ret (((⟨(⟨(⟨0,0,0,0,0,0,0,0,(⟨[],0⟩:dz),(⟨[],0⟩:dz),0,(⟨[],0⟩:dz),false⟩:dI),[]⟩:bf),v2,v3⟩:bO),true):bO×Bool)))))))))))
def start (J:Pt->aI)(x0 x1:aB):aI:=(call (Z204.R x0) fun v1=>(cond (!v1) (ret (((⟨(⟨(⟨0,0,0,0,0,0,0,0,(⟨[],0⟩),(⟨[],0⟩),0,(⟨[],0⟩),false⟩),[]⟩),(⟨(⟨0,0,0,0,0,0,0,0,(⟨[],0⟩),(⟨[],0⟩),0,(⟨[],0⟩),false⟩),[]⟩),(⟨(⟨0,0,0,0,0,0,0,0,(⟨[],0⟩),(⟨[],0⟩),0,(⟨[],0⟩),false⟩),[]⟩)⟩),false):bO×Bool)) (call (Z204.R x1) fun v2=>(cond (!v2) (ret (((⟨(⟨(⟨0,0,0,0,0,0,0,0,(⟨[],0⟩),(⟨[],0⟩),0,(⟨[],0⟩),false⟩),[]⟩),(⟨(⟨0,0,0,0,0,0,0,0,(⟨[],0⟩),(⟨[],0⟩),0,(⟨[],0⟩),false⟩),[]⟩),(⟨(⟨0,0,0,0,0,0,0,0,(⟨[],0⟩),(⟨[],0⟩),0,(⟨[],0⟩),false⟩),[]⟩)⟩),false):bO×Bool)) (bY ((0:Int)<x0.length) (bY ((0:Int)<x1.length) (cond ((bf.at x0 0).an.bz != (bf.at x1 0).an.bz) (ret (((⟨(⟨(⟨0,0,0,0,0,0,0,0,(⟨[],0⟩),(⟨[],0⟩),0,(⟨[],0⟩),false⟩),[]⟩),(⟨(⟨0,0,0,0,0,0,0,0,(⟨[],0⟩),(⟨[],0⟩),0,(⟨[],0⟩),false⟩),[]⟩),(⟨(⟨0,0,0,0,0,0,0,0,(⟨[],0⟩),(⟨[],0⟩),0,(⟨[],0⟩),false⟩),[]⟩)⟩),false):bO×Bool)) (call (Z256.R (x0,x1)) fun v3=>(cond v3 (ret (((⟨(⟨(⟨0,0,0,0,0,0,0,0,(⟨[],0⟩),(⟨[],0⟩),0,(⟨[],0⟩),false⟩),[]⟩),(⟨(⟨0,0,0,0,0,0,0,0,(⟨[],0⟩),(⟨[],0⟩),0,(⟨[],0⟩),false⟩),[]⟩),(⟨(⟨0,0,0,0,0,0,0,0,(⟨[],0⟩),(⟨[],0⟩),0,(⟨[],0⟩),false⟩),[]⟩)⟩),false):bO×Bool)) (call (Z256.R (x1,x0)) fun v4=>(cond v4 (ret (((⟨(⟨(⟨0,0,0,0,0,0,0,0,(⟨[],0⟩),(⟨[],0⟩),0,(⟨[],0⟩),false⟩),[]⟩),(⟨(⟨0,0,0,0,0,0,0,0,(⟨[],0⟩),(⟨[],0⟩),0,(⟨[],0⟩),false⟩),[]⟩),(⟨(⟨0,0,0,0,0,0,0,0,(⟨[],0⟩),(⟨[],0⟩),0,(⟨[],0⟩),false⟩),[]⟩)⟩),false):bO×Bool)) (J (.p0 x0 x1 0 0 0 0 0 0 0 0 0 0 0 0 0 false 0 0 0 0 0 0 0 0 0 0 0 0 false 0 0 0 0 0 0 0 0 0 0 0 0 false)))))))))))))
def live:Nat->Live:=fK [(4,gj [0,1,4,6])]
def pt (a b:aB)(c:Int):Pt:=Pt.p0 a b c 0 0 0 0 0 0 0 0 0 0 0 0 false 0 0 0 0 0 0 0 0 0 0 0 0 false 0 0 0 0 0 0 0 0 0 0 0 0 false
def md (a0 a1:List aa):aG×Bool:=(cond (!(Z204.md a0)) (aG.zero,false) (cond (!(Z204.md a1)) (aG.zero,false) (cond (((a0.getD 0 aa.zero).an).bz != ((a1.getD 0 aa.zero).an).bz) (aG.zero,false) (cond (Z256.md a0 a1) (aG.zero,false) (cond (Z256.md a1 a0) (aG.zero,false) (Z119.wv a0 a1 (Z119.fk a0 a1),true))))))
def gd (a0 a1:List aa):Prop:=bN (2^21) (fun y:aa=>aa.Sm (2^21) y) a0/\bN (2^21) (fun y:aa=>aa.Sm (2^21) y) a1
def R:=cm gd md
def ak {a0 a1}(h:gd a0 a1):R ((a0.map aa.row),(a1.map aa.row))=some ((aG.r (md a0 a1).1),(md a0 a1).2):=cq h
def aT:=CN [pL 178,pL 178] (.iS [(true,f180),(false,[fB])]) RT.dec R
def aY (a0)(a1)(hg:gd a0 a1):∃n,start (iter step n) (a0.map aa.row) (a1.map aa.row)=ret ((aG.r (md a0 a1).1),(md a0 a1).2):=by
 obtain ⟨H0,H1⟩:=hg
 have hl1:=H1.1
 have key:Z119.fk a0 a1<a0.length->Z119.fk a0 a1<a1.length->Z116.md (a0.getD (Z119.fk a0 a1) aa.zero).an (a1.getD (Z119.fk a0 a1) aa.zero).an=false->∀d k,k+d=Z119.fk a0 a1->∃n,iter step n (pt (a0.map aa.row) (a1.map aa.row) (k:Int))=ret ((aG.r (Z119.wv a0 a1 (Z119.fk a0 a1)),true):bO×Bool):=by
  intro hn0 hn1 hne d
  have hR:∀k,k<a0.length->k<a1.length->Z255.R (aF.r (a0.getD k aa.zero).an,aF.r (a1.getD k aa.zero).an)=some (Z116.md (a0.getD k aa.zero).an (a1.getD k aa.zero).an):=by
   intro k h0 h1
   rw [Z255.ak ⟨(bN.getD H0 h0).1,(bN.getD H1 h1).1⟩,Z255.md_eq,Z116.md_eq]
  induction d with
  | zero=>
   intro k hk
   obtain rfl:k=Z119.fk a0 a1:=by omega
   generalize hkk:Z119.fk a0 a1=k at hn0 hn1 hne ⊢
   refine ⟨1,?_⟩
   show step (iter step 0) _=_
   have q1:(0:Int)<=(k:Int):=by omega
   have q2:(k:Int)<(a0.length:Int):=by omega
   have q3:(k:Int)<(a1.length:Int):=by omega
   simp only [pt,step,MM,S0,aa.rs,aF.rs,q1,q2,q3,decide_true,aZ]
   rw [call_eq (hR k hn0 hn1),hne,aX,call_eq (Z145.ak (bN.getD H0 hn0)),call_eq (Z145.ak (bN.getD H1 hn1))]
   cases k with
   | zero=>rfl
   | succ k=>
    have q4:((k+1:Nat):Int)>0:=by omega
    have q5:i64.wrap (((k+1:Nat):Int) - 1)=(k:Int):=by rw [wi _ (by omega)];omega
    have q6:(0:Int)<=(k:Int):=by omega
    have q7:(k:Int)<(a0.length:Int):=by omega
    simp only [q4,q5,q6,q7,decide_true,aZ,S0,aa.rs]
    rw [call_eq (Z145.ak (bN.getD H0 (by omega)))]
    rfl
  | succ d ih=>
   intro k hk
   obtain ⟨n,hn⟩:=ih (k+1) (by omega)
   refine ⟨n+1,?_⟩
   show step (iter step n) _=_
   have q1:(0:Int)<=(k:Int):=by omega
   have q2:(k:Int)<(a0.length:Int):=by omega
   have q3:(k:Int)<(a1.length:Int):=by omega
   simp only [pt,step,MM,S0,aa.rs,aF.rs,q1,q2,q3,decide_true,aZ]
   rw [call_eq (hR k (by omega) (by omega)),(Z119.rF a0 a1).1 k (by omega),aZ,wi _ (by omega)]
   exact hn
 unfold start md
 simp only [S0,aa.rs,aF.rs]
 refine fP _ (Z204.ak H0) ?_
 cases hc0:Z204.md a0
 ·exact ⟨0,rfl⟩
 simp only [Bool.not_true,aX]
 refine fP _ (Z204.ak H1) ?_
 cases hc1:Z204.md a1
 ·exact ⟨0,rfl⟩
 have t0:=Z204.tr hc0
 have t1:=Z204.tr hc1
 simp only [Bool.not_true,aX]
 refine dW (decide_eq_true (by omega)) (dW (decide_eq_true (by omega)) ?_)
 cases ((a0.getD 0 aa.zero).an.bz != (a1.getD 0 aa.zero).an.bz)
 case true=>exact ⟨0,rfl⟩
 simp only [aX]
 refine fP _ (Z256.ak ⟨H0,H1⟩) ?_
 cases hp0:Z256.md a0 a1
 case true=>exact ⟨0,rfl⟩
 simp only [aX]
 refine fP _ (Z256.ak ⟨H1,H0⟩) ?_
 cases hp1:Z256.md a1 a0
 case true=>exact ⟨0,rfl⟩
 simp only [aX]
 rw [Z256.br] at hp0 hp1
 obtain ⟨h1,h2,h3⟩:=Z119.mM hp0 hp1
 exact key h1 h2 h3 (Z119.fk a0 a1) 0 (by omega)
def af:cz 253 aT:=L2 74 (fun _=>4) cu cR live step start mix aC aY (kE Z204.af Z256.af Z255.af Z145.af) Tryz.func253
def iR {a0 a1:List aa}(hg:gd a0 a1):aG.Sm (2^21) ((md a0 a1).1):=by
 unfold gd at hg;unfold md
 have z:aG.Sm (2^21) aG.zero:=⟨⟨⟨bN.nil,bN.nil,bN.nil⟩,bN.nil⟩,⟨⟨bN.nil,bN.nil,bN.nil⟩,bN.nil⟩,⟨⟨bN.nil,bN.nil,bN.nil⟩,bN.nil⟩⟩
 cases Z204.md a0
 ·exact z
 cases Z204.md a1
 ·exact z
 cases ((a0.getD 0 aa.zero).an.bz != (a1.getD 0 aa.zero).an.bz)
 case true=>exact z
 cases h1:Z256.md a0 a1
 case true=>exact z
 cases h2:Z256.md a1 a0
 case true=>exact z
 rw [Z256.br] at h1 h2
 obtain ⟨h3,h4,_⟩:=Z119.mM h1 h2
 exact Z119.xY hg.1 hg.2 h3 h4
def br (a0 a1:List aa):md a0 a1=Z119.md a0 a1:=by
 unfold md Z119.md
 simp only [Z204.br,Z256.br,Z255.md_eq,Z116.md_eq]
end Z258
namespace Z259
def F (x0:bA)(x1:aB):aI:=(call (Z155.R x0) fun v1=>(call (Z257.R (x0,x1)) fun v2=>(cond (v2==1) (cond ((x0.aM.length:Int)>=8) (ret ((v1,6):bA×Int)) (call (Z146.R x1) fun v3=>(bY (fJ ((v1.aM.length+1)*24)) (ret (((⟨(v1.aM++[[L.sl v3]]),v1.bu⟩),v2):bA×Int))))) (cond (v2==3) (bY ((0:Int)<x1.length) (call (Z254.R (x0,(bf.at x1 0).an.bz)) fun v4=>(call (Z146.R x1) fun v5=>(m2 v4 v1.aM.length (ret (((⟨(List.set v1.aM (toNat v4) [L.sl v5]),v1.bu⟩),v2):bA×Int)))))) (cond (v2==5) (bY ((0:Int)<x1.length) (call (Z254.R (x0,(bf.at x1 0).an.bz)) fun v6=>(m2 v6 x0.aM.length (call (Z258.R ((qi x0.aM (toNat v6)),x1)) fun v7=>(cond v7.2 (cond ((x0.bu.length:Int)<8) (bY (fJ ((v1.bu.length+1)*600)) (ret (((⟨v1.aM,(v1.bu++[(bO.enc v7.1)])⟩),v2):bA×Int))) (ret ((v1,v2):bA×Int))) (ret ((v1,v2):bA×Int))))))) (ret ((v1,v2):bA×Int)))))))
def md (a0:aA)(a1:List aa):aA×Int:=(cond ((Z257.md a0 a1)==1) (cond ((a0.aM.length:Int)>=8) (a0,6) ((⟨(a0.aM++[a1]),a0.bu⟩),(Z257.md a0 a1))) (cond ((Z257.md a0 a1)==3) ((⟨(List.set a0.aM (toNat (Z254.md a0 (((a1.getD 0 aa.zero).an).bz))) a1),a0.bu⟩),(Z257.md a0 a1)) (cond ((Z257.md a0 a1)==5) (cond ((Z258.md (a0.aM.getD (toNat (Z254.md a0 (((a1.getD 0 aa.zero).an).bz))) []) a1).2) (cond ((a0.bu.length:Int)<8) ((⟨a0.aM,(a0.bu++[(Z258.md (a0.aM.getD (toNat (Z254.md a0 (((a1.getD 0 aa.zero).an).bz))) []) a1).1])⟩),(Z257.md a0 a1)) (a0,(Z257.md a0 a1))) (a0,(Z257.md a0 a1))) (a0,(Z257.md a0 a1)))))
def gd (a0:aA)(a1:List aa):Prop:=(aA.Sm (2^21) a0)/\(bN (2^21) (fun y:aa=>aa.Sm (2^21) y) a1)
def R:=cm gd md
def ak {a0 a1}(h:gd a0 a1):R ((aA.r a0),(a1.map aa.row))=some ((aA.r (md a0 a1).1),(md a0 a1).2):=cq h
def aT:=CN [.agg xg,pL 178] (.iS [(true,f36),(false,[fI])]) RT.dec R
def aY (a0)(a1)(hg:gd a0 a1):F (aA.r a0) (a1.map aa.row)=ret ((aA.r (md a0 a1).1),(md a0 a1).2):=by
 obtain ⟨H0,H1⟩:=hg
 refine ct (Z155.ak H0) ?_
 simp only [SS]
 refine ct (Z257.ak ⟨H0,H1⟩) ?_
 have fv2_:=Z257.fa a0 a1
 refine ec (fun b:aA×Int=>ret (((aA.r b.1),b.2):bA×Int)) (fun c1=>?_) (fun c1=>?_)
 ·refine ec (fun b:aA×Int=>ret (((aA.r b.1),b.2):bA×Int)) (fun c2=>fz) (fun c2=>?_)
  refine ct (Z146.ak H1) (aj (have:=(H0.1).1;lm) ?_)
  exact fz
 ·refine ec (fun b:aA×Int=>ret (((aA.r b.1),b.2):bA×Int)) (fun c3=>?_) (fun c3=>?_)
  ·have dc3:=c3
   simp only [DC] at dc3
   refine aj dt (ct (Z254.ak H0) ?_)
   have fv4_:=Z254.fa a0 (((a1.getD 0 aa.zero).an).bz)
   refine ct (Z146.ak H1) (aj dt ?_)
   exact aj (have:=(H0.1).1;dt) fz
  ·refine ec (fun b:aA×Int=>ret (((aA.r b.1),b.2):bA×Int)) (fun c4=>?_) (fun c4=>fz)
   have dc4:=c4
   simp only [DC] at dc4
   refine aj dt (ct (Z254.ak H0) ?_)
   have fv6_:=Z254.fa a0 (((a1.getD 0 aa.zero).an).bz)
   refine aj dt (aj (have:=(H0.1).1;dt) ?_)
   refine ct (Z258.ak ⟨(bN.getD H0.1 (by omega)),H1⟩) (ec (fun b:aA×Int=>ret (((aA.r b.1),b.2):bA×Int)) (fun c5=>?_) (fun c5=>fz))
   exact ec (fun b:aA×Int=>ret (((aA.r b.1),b.2):bA×Int)) (fun c6=>aj (have:=(H0.2).1;lm) fz) (fun c6=>fz)
def af:cz 196 aT:=W2 77 F mix aC aY (xy Z155.af Z257.af Z146.af Z254.af Z258.af) Tryz.func196
def iR {a0:aA}{a1:List aa}(hg:gd a0 a1):aA.Sm (2^21) ((md a0 a1).1):=by
 unfold gd at hg;unfold md
 obtain ⟨⟨h1,h2⟩,h3⟩:=hg
 simp only [Bool.cond_eq_ite]
 repeat' split
 all_goals (try simp only [decide_eq_true_eq,ge_iff_le] at *)
 all_goals first
  | exact ⟨h1,h2⟩
  | exact ⟨bN.app (a:=7) (b:=1) ⟨by omega,h1.2⟩ (bN.one h3) (by decide),h2⟩
  | exact ⟨bN.set h1 h3,h2⟩
  | exact ⟨h1,bN.app (a:=7) (b:=1) ⟨by omega,h2.2⟩ (bN.one (Z258.iR ⟨bN.sW h1 bN.nil,h3⟩)) (by decide)⟩
def br (a0:aA)(a1:List aa):md a0 a1=Z120.md a0 a1:=by
 unfold md Z120.md
 simp only [Z257.br,Z254.br,Z258.br]
end Z259
namespace Z260
inductive Pt where
 | p0 (a b:aB) (c d:Int)
def cu:Pt->List V
 | .p0 a b c d=>[.sl none 227 a,.sl none 227 b,.int .i64 c,.int .i64 d]
def step (J:Pt->aI):Pt->aI
 | .p0 a b c d=>(cond (d<c) (m2 d (a.length:Int) (m2 d (b.length:Int) (cond (!((((bn.at a (toNat d)).iD:Int)==(bn.at b (toNat d)).iD)&&((((bn.at a (toNat d)).ko:Int)==(bn.at b (toNat d)).ko)&&true))) dx (J (.p0 a b c (i64.wrap (d+1))))))) gA)
def start (J:Pt->aI)(x0 x1:aB):aI:=(cond (x0.length != (x1.length:Int)) (ret false) (J (.p0 x0 x1 x0.length 0)))
def live:Nat->Live:=fK [(4,gj [0,1,12,13])]
def md (a0 a1:List bn):Bool:=(bif (a0.length != (a1.length:Int)) then false else (eX (S:=Unit) (β:=Bool) (fun i2 s4=>(cond (!((((a0.getD i2 bn.zero).iD)==(a1.getD i2 bn.zero).iD)&&((((a0.getD i2 bn.zero).ko)==(a1.getD i2 bn.zero).ko)&&true))) (.inr false) (.inl ()))) (fun s4=>true) a0.length 0 ()))
def gd (a0 a1:List bn):Prop:=(bN (2^21) (fun y:bn=>bn.Sm (2^21) y) a0)/\(bN (2^21) (fun y:bn=>bn.Sm (2^21) y) a1)
def R:=cm gd md
def ak {a0 a1}(h:gd a0 a1):R ((a0.map bn.row),(a1.map bn.row))=some (md a0 a1):=cq h
def aT:=CN [pL 227,pL 227] oB RT.dec R
def aY (a0)(a1)(hg:gd a0 a1):∃n,start (iter step n) (a0.map bn.row) (a1.map bn.row)=ret (md a0 a1):=by
 obtain ⟨H0,H1⟩:=hg
 unfold start md
 simp only [SS]
 refine iK ret (fun _=>⟨0,rfl⟩) (fun c1=>?_)
 have dc1:=c1
 simp only [DC] at dc1
 have Bh3:=bl H0
 refine eo fz (cw (pt:=fun (i2:Nat) (s4:Unit)=>Pt.p0 (a0.map bn.row) (a1.map bn.row) (a0.length:Int) (i2:Int)) (fun _ _=>True) (fun J i2 s4 h3 hih3=>?_) (fun s4 hih3=>?_) trivial)
 ·simp only [step,SS]
  refine bp.yes dt (bp.yes aD ?_)
  refine bp.yes (aK h3) (bp.yes aD ?_)
  refine bp.yes dt (bp.bif (fun _=>bp.inr rfl) (fun c5=>?_))
  refine bp.inl trivial ?_
  rw [aH h3 Bh3]
 ·simp only [step,SS]
  refine dO dn (⟨0,?_⟩)
  exact fz
def af:cz 372 aT:=L2 26 (fun _=>4) cu (fun _=>[]) live step start mix aC aY .nil Tryz.func372
def md_eq (a0 a1:List bn):md a0 a1=eu a0 a1:=by
 refine lM (bn.zero) (fun i s h h2=>?_) (fun s=>rfl)
 simp only [bne,gf,bool_beq,fM,bn.eqc]
 cases eu _ _<;>rfl
end Z260
namespace Z261
def F (x0 x1:bf):aI:=(call (Z255.R (x0.an,x1.an)) fun v1=>(cond v1 (call (Z260.R (x0.cP,x1.cP)) fun v2=>ret v2) (ret false)))
def md (a0 a1:aa):Bool:=(cond (Z255.md a0.an a1.an) ((Z260.md a0.cP a1.cP)) false)
def gd (a0 a1:aa):Prop:=(aa.Sm (2^21) a0)/\(aa.Sm (2^21) a1)
def R:=cm gd md
def ak {a0 a1}(h:gd a0 a1):R ((aa.r a0),(aa.r a1))=some (md a0 a1):=cq h
def aT:=CN [.agg lU,.agg lU] oB RT.dec R
def aY (a0)(a1)(hg:gd a0 a1):F (aa.r a0) (aa.r a1)=ret (md a0 a1):=by
 obtain ⟨H0,H1⟩:=hg
 refine ct (Z255.ak ⟨H0.1,H1.1⟩) (bs (fun c1=>?_) (fun _=>rfl))
 exact ct (Z260.ak ⟨H0.2,H1.2⟩) fz
def af:cz 341 aT:=W2 17 F mix aC aY (eP Z255.af Z260.af) Tryz.func341
def md_eq (a0 a1:aa):md a0 a1=eu a0 a1:=by
 unfold md
 cases a0;cases a1
 rw [Bool.eq_iff_iff]
 simp [dm,fM,aa.mk.injEq,Z255.md_eq,Z260.md_eq]
end Z261
namespace Z262
def F (x0:bO):aI:=(call (Z255.R (x0.fA.an,x0.fB.an)) fun v1=>(cond v1 (ret false) (call (Z261.R (x0.aN,(⟨(⟨0,0,0,0,0,0,0,0,(⟨[],0⟩),(⟨[],0⟩),0,(⟨[],0⟩),false⟩),[]⟩))) fun v2=>(cond v2 (call (Z192.R x0.fA) fun v3=>(cond v3 (call (Z192.R x0.fB) fun v4=>(cond v4 (ret ((x0.fA.an.bz==x0.fB.an.bz))) (ret false))) (ret false))) (call (Z202.R (x0.aN.an,x0.fA)) fun v5=>(cond v5 (call (Z202.R (x0.aN.an,x0.fB)) fun v6=>ret v6) (ret false)))))))
def md (a0:aG):Bool:=(cond (Z255.md a0.fA.an a0.fB.an) false (cond (Z261.md a0.aN (⟨(⟨0,0,0,0,0,0,0,0,(⟨[],0⟩),(⟨[],0⟩),0,(⟨[],0⟩),false⟩),[]⟩)) (cond (Z192.md a0.fA) (cond (Z192.md a0.fB) ((a0.fA.an.bz==a0.fB.an.bz)) false) false) (cond (Z202.md a0.aN.an a0.fA) ((Z202.md a0.aN.an a0.fB)) false)))
def gd (a0:aG):Prop:=(aG.Sm (2^21) a0)
def R:=RR gd md
def ak {a0}(h:gd a0):R (aG.r a0)=some (md a0):=cV h
def aT:=CN [.agg uS] oB RT.dec R
def aY (a0)(H0:gd a0):F (aG.r a0)=ret (md a0):=by
 refine ct (Z255.ak ⟨H0.2.1.1,H0.2.2.1⟩) (bs (fun _=>rfl) (fun c1=>?_))
 refine ct (Z261.ak (a1:=(⟨(⟨0,0,0,0,0,0,0,0,(⟨[],0⟩:aR),(⟨[],0⟩:aR),0,(⟨[],0⟩:aR),false⟩:aF),[]⟩:aa)) ⟨H0.1,⟨⟨bN.nil,bN.nil,bN.nil⟩,bN.nil⟩⟩) (bs (fun c2=>?_) (fun c2=>?_))
 ·refine ct (Z192.ak H0.2.1) (bs (fun c3=>?_) (fun _=>rfl))
  refine ct (Z192.ak H0.2.2) (bs (fun c4=>?_) (fun _=>rfl))
  exact fz
 ·refine ct (Z202.ak ⟨H0.1.1,H0.2.1⟩) (bs (fun c5=>?_) (fun _=>rfl))
  exact ct (Z202.ak ⟨H0.1.1,H0.2.2⟩) fz
def af:cz 309 aT:=W1 49 F mix aC aY (kE Z255.af Z261.af Z192.af Z202.af) Tryz.func309
def br (a0:aG):md a0=Z133.md a0:=by
 unfold md Z133.md
 simp only [Z192.br,Z202.br,Z255.md_eq,Z261.md_eq,Z116.md_eq,Z132.md_eq]
end Z262
namespace Z263
def F (x0:bO):aI:=(call (Z262.R x0) fun v1=>(cond (!v1) bV (ret x0.fA.an.bz)))
def md (a0:aG):Int:=(cond (!(Z262.md a0)) ((-1):Int) a0.fA.an.bz)
def gd (a0:aG):Prop:=(aG.Sm (2^21) a0)
def R:=RR gd md
def ak {a0}(h:gd a0):R (aG.r a0)=some (md a0):=cV h
def aT:=CN [.agg uS] oI RT.dec R
def aY (a0)(H0:gd a0):F (aG.r a0)=ret (md a0):=by
 refine ct (Z262.ak H0) (bs (fun _=>rfl) (fun c1=>?_))
 exact fz
def af:cz 256 aT:=W1 10 F mix aC aY (cD Z262.af) Tryz.func256
def br (a0:aG):md a0=Z134.md a0:=by
 unfold md Z134.md
 simp only [Z262.br]
end Z263
namespace Z264
def F (x0:bO)(x1:List L):aI:=(call (Z263.R x0) fun v1=>ret ((v1==(gq x1))))
def pats:List gK:=[.agg [au,au,au,au,au,au,au,au,.sl 3,au,.sl 3,au,au,.sl 3,au,.bool,.sl 227,au,au,au,au,au,au,au,au,.sl 3,au,.sl 3,au,au,.sl 3,au,.bool,.sl 227,au,au,au,au,au,au,au,au,.sl 3,au,.sl 3,au,au,.sl 3,au,.bool,.sl 227],.ptr [au]]
def res:RP:=.one (.rd (.bool))
def md (a0:aG)(a1:Int):Bool:=(((Z263.md a0)==a1))
def gd (a0:aG)(a1:Int):Prop:=(aG.Sm (2^21) a0)
def acc (ls:List L):bO×Int:=((bO.dec ls),(gq (cI 1 (bE 51 ls))))
def R:(bO×Int)->Option Bool:=cm gd md
def ak {a0 a1}(h:gd a0 a1):R ((aG.r a0),a1)=some (md a0 a1):=cq h
def aT:gh:=CN pats res acc R
def aY (a0:aG)(a1:Int)(p1:List L)(e1:a1=(gq p1))(H0:gd a0 a1):F (aG.r a0) p1=ret ((md a0 a1):Bool):=by
 unfold F md
 simp only [SS,<-e1]
 exact ct (Z263.ak H0) fz
def nY (ls:List L)(a:aG×Int)(e:acc ls=Im.im a)(hg:(p2 gd) a):∃n:Nat,F (bO.dec ls) (cI 1 (bE 51 ls))=ret (Im.im ((u2 md) a)):=by
 have e0:(aG.r a.1)=(bO.dec ls):=(congrArg (fun x=>x.1) e.symm)
 have hn:=aY a.1 a.2 (cI 1 (bE 51 ls)) (congrArg (fun x=>x.2) e.symm) hg
 refine ⟨0,?_⟩
 rw [<-e0]
 exact hn
def af:cz 255 aT:=VP (live:=fun _=>[]) (nt:=8) (accr:=fun ls=>((bO.dec ls),(cI 1 (bE 51 ls)))) (run:=fun _ x=>F x.1 x.2) mix aC (cD Z263.af) Tryz.func255 (by kernel_rfl) (fun _ _=>by kernel_rfl) (fun ls a _ e hg=>nY ls a e hg)
end Z264
namespace Z265
inductive Pt where
 | p0 (a:aB) (b:List L) (c d:Int)
def pid:Pt->Nat
 | .p0 ..=>2
def cu:Pt->List V
 | .p0 a b c d=>[.sl none 180 a,.fn 255 [.dQ none [au] b 0],.int .i64 c,.int .i64 d]
def cR:Pt->List aW
 | .p0 a b c d=>[]
def step (J:Pt->aI):Pt->aI
 | .p0 a b c d=>(cond (d<c) (m2 d (a.length:Int) (call (Z264.R ((bO.at a (toNat d)),(gq b))) fun v1=>(cond v1 (ret (d:Int)) (J (.p0 a b c (i64.wrap (d+1))))))) bV)
def start (J:Pt->aI)(x0:aB)(x1:List L):aI:=J (.p0 x0 x1 x0.length 0)
def live:Nat->Live:=fK [(2,gj [0,1,7,8])]
def pats:List gK:=[.rd (.sl 180),.fn 255 [[au]]]
def res:RP:=.one (.rd (.int .i64))
abbrev E:Env:={ T:=assoc lC,G:=dK [(255,Z264.aT)],nt:=19 }
def step_eq (I:cJ)(p:Pt):dh E live I (pid p) (bI Tryz.f308) (fU (live (pid p)) (cu p) (cR p)) (cG E Tryz.f308 res)=step (fun q=>I (pid q) (cu q) (cR q)) p:=by
 cases p<;>kernel_rfl
def start_eq (I:cJ)(ls:List L):fH E live I (bI Tryz.f308) (dF pats ls) (cG E Tryz.f308 res)=start (fun q=>I (pid q) (cu q) (cR q)) (dc ls) (cI 1 (bE 1 ls)):=by kernel_rfl
def run_eq (n:Nat)(ls:List L):eY E live Tryz.f308 res n (dF pats ls)=start (iter step n) (dc ls) (cI 1 (bE 1 ls)):=cB (id:=pid) (vs:=cu) (hs:=cR) (step:=step) (start:=fun J=>start J (dc ls) (cI 1 (bE 1 ls))) step_eq (fun I=>start_eq I ls) n
def md (a0:List aG)(a1:Int):Int:=(ep (S:=Unit) (β:=Int) (fun i1 y1 s3=>(cond (Z264.md y1 a1) (.inr (i1)) (.inl ()))) (fun s3=>((-1):Int)) 0 a0 ())
def gd (a0:List aG)(a1:Int):Prop:=(bN (2^21) (fun y:aG=>aG.Sm (2^21) y) a0)
def acc (ls:List L):aB×Int:=((dc ls),(gq (cI 1 (bE 1 ls))))
def R:(aB×Int)->Option Int:=cm gd md
def ak {a0 a1}(h:gd a0 a1):R ((a0.map aG.row),a1)=some (md a0 a1):=cq h
def aT:gh:=CN pats res acc R
def aY (a0:List aG)(a1:Int)(p1:List L)(e1:a1=(gq p1))(H0:gd a0 a1):∃n,start (iter step n) (a0.map aG.row) p1=ret ((md a0 a1):Int):=by
 have Bh2:=bl H0
 refine ex_eq (dw (z:=aG.zero)) (eo (p:=Pt.p0 (a0.map aG.row) p1 (a0.length:Int) 0) fz ?_)
 refine cw (pt:=fun (i1:Nat) (s3:Unit)=>Pt.p0 (a0.map aG.row) p1 (a0.length:Int) (i1:Int)) (fun _ _=>True) (fun J i1 s3 h2 hih2=>?_) (fun s3 hih2=>?_) trivial
 ·simp only [step,SS,<-e1]
  refine bp.yes dt (bp.yes aD ?_)
  refine bp.yes (aK h2) (cr (Z264.ak (bN.getD H0 h2)) ?_)
  refine bp.bif (fun c4=>bp.inr fz) (fun c4=>?_)
  refine bp.inl trivial ?_
  rw [aH h2 Bh2]
 ·simp only [step,SS,<-e1]
  refine dO dn (⟨0,?_⟩)
  exact fz
def nY (ls:List L)(a:List aG×Int)(e:acc ls=Im.im a)(hg:(p2 gd) a):∃n:Nat,start (iter step n) ((dc ls)) (cI 1 (bE 1 ls))=ret (Im.im ((u2 md) a)):=by
 have e0:(a.1.map aG.row)=(dc ls):=(congrArg (fun x=>x.1) e.symm)
 obtain ⟨n,hn⟩:=aY a.1 a.2 (cI 1 (bE 1 ls)) (congrArg (fun x=>x.2) e.symm) hg
 refine ⟨n,?_⟩
 rw [<-e0]
 exact hn
def af:cz 308 aT:=VP (accr:=fun ls=>((dc ls),(cI 1 (bE 1 ls)))) (run:=fun n x=>start (iter step n) x.1 x.2) mix aC (cD Z264.af) Tryz.func308 (by kernel_rfl) run_eq (fun ls a _ e hg=>nY ls a e hg)
def idx_eq (a0:List aG)(a1:Int):md a0 a1=jE (fun y=>Z264.md y a1) 0 a0:=iL
end Z265
namespace Z266
def F (x0:aB)(x1:List L):aI:=(call (Z265.R (x0,(gq x1))) fun v1=>ret ((decide (v1>=0))))
def pats:List gK:=[.rd (.sl 180),.fn 255 [[au]]]
def res:RP:=.one (.rd (.bool))
def md (a0:List aG)(a1:Int):Bool:=((decide ((Z265.md a0 a1)>=0)))
def gd (a0:List aG)(a1:Int):Prop:=(bN (2^21) (fun y:aG=>aG.Sm (2^21) y) a0)
def acc (ls:List L):aB×Int:=((dc ls),(gq (cI 1 (bE 1 ls))))
def R:(aB×Int)->Option Bool:=cm gd md
def ak {a0 a1}(h:gd a0 a1):R ((a0.map aG.row),a1)=some (md a0 a1):=cq h
def aT:gh:=CN pats res acc R
def aY (a0:List aG)(a1:Int)(p1:List L)(e1:a1=(gq p1))(H0:gd a0 a1):F (a0.map aG.row) p1=ret ((md a0 a1):Bool):=by
 unfold F md
 simp only [SS,<-e1]
 exact ct (Z265.ak H0) fz
def nY (ls:List L)(a:List aG×Int)(e:acc ls=Im.im a)(hg:(p2 gd) a):∃n:Nat,F ((dc ls)) (cI 1 (bE 1 ls))=ret (Im.im ((u2 md) a)):=by
 have e0:(a.1.map aG.row)=(dc ls):=(congrArg (fun x=>x.1) e.symm)
 have hn:=aY a.1 a.2 (cI 1 (bE 1 ls)) (congrArg (fun x=>x.2) e.symm) hg
 refine ⟨0,?_⟩
 rw [<-e0]
 exact hn
def af:cz 254 aT:=VP (live:=fun _=>[]) (nt:=9) (accr:=fun ls=>((dc ls),(cI 1 (bE 1 ls)))) (run:=fun _ x=>F x.1 x.2) mix aC (cD Z265.af) Tryz.func254 (by kernel_rfl) (fun _ _=>by kernel_rfl) (fun ls a _ e hg=>nY ls a e hg)
def any_eq (a0:List aG)(a1:Int):md a0 a1=a0.any (fun y=>Z264.md y a1):=by
 unfold md
 rw [Z265.idx_eq]
 exact sD
end Z266
namespace Z267
def F (x0:bA)(x1:Int):aI:=(cond (x1>=0) (call (Z266.R (x0.bu,x1)) fun v1=>ret v1) (ret false))
def md (a0:aA)(a1:Int):Bool:=(cond (a1>=0) ((Z266.md a0.bu a1)) false)
def gd (a0:aA)(a1:Int):Prop:=(aA.Sm (2^21) a0)
def R:=cm gd md
def ak {a0 a1}(h:gd a0 a1):R ((aA.r a0),a1)=some (md a0 a1):=cq h
def aT:=CN [.agg xg,pI] oB RT.dec R
def aY (a0)(a1)(H0:gd a0 a1):F (aA.r a0) a1=ret (md a0 a1):=by
 refine bs (fun c1=>?_) (fun _=>rfl)
 exact ct (Z266.ak H0.2) fz
def af:cz 197 aT:=W2 13 F mix aC aY (cD Z266.af) Tryz.func197
def br (a0:aA)(a1:Int):md a0 a1=Z135.md a0 a1:=by
 unfold md Z135.md
 rw [Z266.any_eq]
 rw [oy (p:=fun y=>(Z134.md y==a1)&&decide (a1>=0)) (fun x s=>by
  cases (Z134.md x==a1)<;>cases decide (a1>=0)<;>rfl) a0.bu ()]
 have e:(fun y=>Z264.md y a1)=fun y=>Z134.md y==a1:=by
  funext y
  unfold Z264.md
  rw [Z263.br]
 rw [e]
 cases decide (a1>=0)
 ·simp
 ·simp
end Z267
namespace Z268
abbrev E (n:Nat):Env:={ T:=assoc lC,G:=dK [(106,Z251.aT),(195,Z204.aT),(196,Z259.aT),(167,Z156.aT),(197,Z267.aT)],nt:=74,M:=gm [],np:=n,I:=mq [] }
def ic (n:Nat):kD:=inl (E n) Tryz.f149
def lX (n:Nat):gI Tryz.prog Ev n 149 (ic n):=Ax (mt:=false) mix aC (xy Z251.af Z204.af Z259.af Z156.af Z267.af) .nil .nil Tryz.func149 (by kernel_rfl)
end Z268
namespace Z269
inductive Pt where
 | p0 (a:Int) (b:aE) (c:Int) (d:aB) (e f:Int) (g:Bool) (h:aE) (i j:Int) (k l:Bool) (m:aE) (n o:Int) (p:Bool) (q s t:aB)
def pid:Pt->Nat
 | .p0 ..=>3
def cu:Pt->List V
 | .p0 a b c d e f g h i j k l m n o p q s t=>[.int .i64 a,.str b,.int .i64 c,.cC 0 0,.cC 1 0,.sl none 126 d,.int .i64 e,.int .i64 f,.cC 1 0]
def cR:Pt->List aW
 | .p0 a b c d e f g h i j k l m n o p q s t=>[.box [.nil,.nil,.bool g,.str h,.int .i64 i,.int .i64 j,.nil,.bool k,.nil],.box [.own 2,.own 3,.bool l,.str m,.int .i64 n,.int .i64 o,.nil,.bool p,.own 4],.row 120 q,.row 180 s,.row 3 t]
def step (J:Pt->aI):Pt->aI
 | .p0 a b c d e f g h i j k l m n o p q s t=>(cond (f<e) (m2 f (d.length:Int) (call (Z251.R (a,b,(bq.at d (toNat f)),c)) fun v1=>(call (Z204.R ((bq.at d (toNat f)).aQ)) fun v2=>(cond v2 (bY ((0:Int)<((bq.at d (toNat f)).aQ.length:Int)) (cond ((bf.at ((bq.at d (toNat f)).aQ) 0).an.bz==a) (call (Z259.R ((⟨q,s⟩:bA),(bq.at d (toNat f)).aQ)) fun v3=>(call (Z156.R (v3.2,1,3)) fun v4=>(cond v4 (call (Z267.R (v3.1,a)) fun v5=>(cond (v1==1) (cond (!(!v5)) (bY (fJ (((t.length:Int)+1)*8)) (J (.p0 a b c d e (i64.wrap (f+1)) g h i j k l m n o p v3.1.aM v3.1.bu (t++[[L.int 3]])))) (bY (fJ (((t.length:Int)+1)*8)) (cond (v1==1) (call (Z148.R ((bq.at d (toNat f)).aS)) fun v6=>ret (((⟨v3.1,(bq.at d (toNat f)).cj,v6,true,(t++[[L.int v1]])⟩:dL),f):dL×Int)) (J (.p0 a b c d e (i64.wrap (f+1)) g h i j k l m n o p v3.1.aM v3.1.bu (t++[[L.int v1]])))))) (bY (fJ (((t.length:Int)+1)*8)) (cond (v1==1) (call (Z148.R ((bq.at d (toNat f)).aS)) fun v7=>ret (((⟨v3.1,(bq.at d (toNat f)).cj,v7,true,(t++[[L.int v1]])⟩:dL),f):dL×Int)) (J (.p0 a b c d e (i64.wrap (f+1)) g h i j k l m n o p v3.1.aM v3.1.bu (t++[[L.int v1]]))))))) (cond (v1==1) (bY (fJ (((t.length:Int)+1)*8)) (J (.p0 a b c d e (i64.wrap (f+1)) g h i j k l m n o p v3.1.aM v3.1.bu (t++[[L.int 3]])))) (bY (fJ (((t.length:Int)+1)*8)) (cond (v1==1) (call (Z148.R ((bq.at d (toNat f)).aS)) fun v8=>ret (((⟨v3.1,(bq.at d (toNat f)).cj,v8,true,(t++[[L.int v1]])⟩:dL),f):dL×Int)) (J (.p0 a b c d e (i64.wrap (f+1)) g h i j k l m n o p v3.1.aM v3.1.bu (t++[[L.int v1]]))))))))) (call (Z156.R (6,1,3)) fun v9=>(cond v9 (call (Z267.R ((⟨q,s⟩:bA),a)) fun v10=>(cond (v1==1) (cond (!(!v10)) (bY (fJ (((t.length:Int)+1)*8)) (J (.p0 a b c d e (i64.wrap (f+1)) g h i j k l m n o p q s (t++[[L.int 3]])))) (bY (fJ (((t.length:Int)+1)*8)) (cond (v1==1) (call (Z148.R ((bq.at d (toNat f)).aS)) fun v11=>ret (((⟨(⟨q,s⟩:bA),(bq.at d (toNat f)).cj,v11,true,(t++[[L.int v1]])⟩:dL),f):dL×Int)) (J (.p0 a b c d e (i64.wrap (f+1)) g h i j k l m n o p q s (t++[[L.int v1]])))))) (bY (fJ (((t.length:Int)+1)*8)) (cond (v1==1) (call (Z148.R ((bq.at d (toNat f)).aS)) fun v12=>ret (((⟨(⟨q,s⟩:bA),(bq.at d (toNat f)).cj,v12,true,(t++[[L.int v1]])⟩:dL),f):dL×Int)) (J (.p0 a b c d e (i64.wrap (f+1)) g h i j k l m n o p q s (t++[[L.int v1]]))))))) (cond (v1==1) (bY (fJ (((t.length:Int)+1)*8)) (J (.p0 a b c d e (i64.wrap (f+1)) g h i j k l m n o p q s (t++[[L.int 3]])))) (bY (fJ (((t.length:Int)+1)*8)) (cond (v1==1) (call (Z148.R ((bq.at d (toNat f)).aS)) fun v13=>ret (((⟨(⟨q,s⟩:bA),(bq.at d (toNat f)).cj,v13,true,(t++[[L.int v1]])⟩:dL),f):dL×Int)) (J (.p0 a b c d e (i64.wrap (f+1)) g h i j k l m n o p q s (t++[[L.int v1]])))))))))) (call (Z156.R (6,1,3)) fun v14=>(cond v14 (call (Z267.R ((⟨q,s⟩:bA),a)) fun v15=>(cond (v1==1) (cond (!(!v15)) (bY (fJ (((t.length:Int)+1)*8)) (J (.p0 a b c d e (i64.wrap (f+1)) g h i j k l m n o p q s (t++[[L.int 3]])))) (bY (fJ (((t.length:Int)+1)*8)) (cond (v1==1) (call (Z148.R ((bq.at d (toNat f)).aS)) fun v16=>ret (((⟨(⟨q,s⟩:bA),(bq.at d (toNat f)).cj,v16,true,(t++[[L.int v1]])⟩:dL),f):dL×Int)) (J (.p0 a b c d e (i64.wrap (f+1)) g h i j k l m n o p q s (t++[[L.int v1]])))))) (bY (fJ (((t.length:Int)+1)*8)) (cond (v1==1) (call (Z148.R ((bq.at d (toNat f)).aS)) fun v17=>ret (((⟨(⟨q,s⟩:bA),(bq.at d (toNat f)).cj,v17,true,(t++[[L.int v1]])⟩:dL),f):dL×Int)) (J (.p0 a b c d e (i64.wrap (f+1)) g h i j k l m n o p q s (t++[[L.int v1]]))))))) (cond (v1==1) (bY (fJ (((t.length:Int)+1)*8)) (J (.p0 a b c d e (i64.wrap (f+1)) g h i j k l m n o p q s (t++[[L.int 3]])))) (bY (fJ (((t.length:Int)+1)*8)) (cond (v1==1) (call (Z148.R ((bq.at d (toNat f)).aS)) fun v18=>ret (((⟨(⟨q,s⟩:bA),(bq.at d (toNat f)).cj,v18,true,(t++[[L.int v1]])⟩:dL),f):dL×Int)) (J (.p0 a b c d e (i64.wrap (f+1)) g h i j k l m n o p q s (t++[[L.int v1]])))))))))))) (ret (((⟨(⟨q,s⟩:bA),l,(⟨m,n,o,[]⟩:bK),p,t⟩:dL),(-1)):dL×Int)))
def start (J:Pt->aI)(x0:bA)(x1:aB)(x2:Int)(x3:aE)(x4:Int):aI:=(call (Z155.R x0) fun v1=>J (.p0 x2 x3 x4 x1 x1.length 0 false ⟨#[]⟩ 0 0 false false ⟨#[]⟩ 0 0 false v1.aM v1.bu []))
def live:Nat->Live:=fK [(3,[(2,none),(3,none),(4,none),(10,none),(12,none),(18,none),(19,none),(20,none),(12,some 8388611)])]
def pats:List gK:=[.agg [.sl 120,.sl 180],.rd (.sl 126),.rd (.int .i64),.rd (.str),.rd (.int .i64)]
def res:RP:=.iS [(true,[.fr 120,.fr 180,.rd (.bool),.rd (.str),.rd (.int .i64),.rd (.int .i64),.fr 9,.rd (.bool),.fr 3]),(false,[.rd (.int .i64)])]
abbrev E:Env:={ T:=assoc lC,G:=dK [(143,Z155.aT),(150,Z148.aT)],nt:=42,M:=gm [],I:=mq [(149,Z268.ic 0)] }
def step_eq (I:cJ)(p:Pt):dh E live I (pid p) (bI Tryz.f99) (fU (live (pid p)) (cu p) (cR p)) (cG E Tryz.f99 res)=step (fun q=>I (pid q) (cu q) (cR q)) p:=by
 cases p<;>kernel_rfl
def start_eq (I:cJ)(ls:List L):fH E live I (bI Tryz.f99) (dF pats ls) (cG E Tryz.f99 res)=start (fun q=>I (pid q) (cu q) (cR q)) (bA.dec ls) (eR 2 ls) (dH 3 ls) (qX 4 ls) (dH 5 ls):=by kernel_rfl
def run_eq (n:Nat)(ls:List L):eY E live Tryz.f99 res n (dF pats ls)=start (iter step n) (bA.dec ls) (eR 2 ls) (dH 3 ls) (qX 4 ls) (dH 5 ls):=cB (id:=pid) (vs:=cu) (hs:=cR) (step:=step) (start:=fun J=>start J (bA.dec ls) (eR 2 ls) (dH 3 ls) (qX 4 ls) (dH 5 ls)) step_eq (fun I=>start_eq I ls) n
def md (a0:aA)(a1:List aq)(a2:Int)(a3:aE)(a4:Int):cy×Int:=(ep (S:=List (List aa)×List aG×List Int) (β:=cy×Int) (fun i1 y1 (s3:List (List aa)×List aG×List Int)=>(cond (Z204.md (y1.aQ)) (cond (((y1.aQ.getD 0 aa.zero).an).bz==a2) (cond (Z156.md ((Z259.md (⟨s3.1,s3.2.1⟩) (y1.aQ)).2) 1 3) (cond ((Z251.md a2 a3 y1 a4)==1) (cond (!(!(Z267.md ((Z259.md (⟨s3.1,s3.2.1⟩) (y1.aQ)).1) a2))) (.inl ((Z259.md (⟨s3.1,s3.2.1⟩) (y1.aQ)).1.aM,(Z259.md (⟨s3.1,s3.2.1⟩) (y1.aQ)).1.bu,(s3.2.2++[3]))) (cond ((Z251.md a2 a3 y1 a4)==1) (.inr ((⟨(Z259.md (⟨s3.1,s3.2.1⟩) (y1.aQ)).1,y1.cj,(y1.aS),true,(s3.2.2++[(Z251.md a2 a3 y1 a4)])⟩),i1)) (.inl ((Z259.md (⟨s3.1,s3.2.1⟩) (y1.aQ)).1.aM,(Z259.md (⟨s3.1,s3.2.1⟩) (y1.aQ)).1.bu,(s3.2.2++[(Z251.md a2 a3 y1 a4)]))))) (cond ((Z251.md a2 a3 y1 a4)==1) (.inr ((⟨(Z259.md (⟨s3.1,s3.2.1⟩) (y1.aQ)).1,y1.cj,(y1.aS),true,(s3.2.2++[(Z251.md a2 a3 y1 a4)])⟩),i1)) (.inl ((Z259.md (⟨s3.1,s3.2.1⟩) (y1.aQ)).1.aM,(Z259.md (⟨s3.1,s3.2.1⟩) (y1.aQ)).1.bu,(s3.2.2++[(Z251.md a2 a3 y1 a4)]))))) (cond ((Z251.md a2 a3 y1 a4)==1) (.inl ((Z259.md (⟨s3.1,s3.2.1⟩) (y1.aQ)).1.aM,(Z259.md (⟨s3.1,s3.2.1⟩) (y1.aQ)).1.bu,(s3.2.2++[3]))) (cond ((Z251.md a2 a3 y1 a4)==1) (.inr ((⟨(Z259.md (⟨s3.1,s3.2.1⟩) (y1.aQ)).1,y1.cj,(y1.aS),true,(s3.2.2++[(Z251.md a2 a3 y1 a4)])⟩),i1)) (.inl ((Z259.md (⟨s3.1,s3.2.1⟩) (y1.aQ)).1.aM,(Z259.md (⟨s3.1,s3.2.1⟩) (y1.aQ)).1.bu,(s3.2.2++[(Z251.md a2 a3 y1 a4)])))))) (cond (Z156.md 6 1 3) (cond ((Z251.md a2 a3 y1 a4)==1) (cond (!(!(Z267.md (⟨s3.1,s3.2.1⟩) a2))) (.inl (s3.1,s3.2.1,(s3.2.2++[3]))) (cond ((Z251.md a2 a3 y1 a4)==1) (.inr ((⟨(⟨s3.1,s3.2.1⟩),y1.cj,(y1.aS),true,(s3.2.2++[(Z251.md a2 a3 y1 a4)])⟩),i1)) (.inl (s3.1,s3.2.1,(s3.2.2++[(Z251.md a2 a3 y1 a4)]))))) (cond ((Z251.md a2 a3 y1 a4)==1) (.inr ((⟨(⟨s3.1,s3.2.1⟩),y1.cj,(y1.aS),true,(s3.2.2++[(Z251.md a2 a3 y1 a4)])⟩),i1)) (.inl (s3.1,s3.2.1,(s3.2.2++[(Z251.md a2 a3 y1 a4)]))))) (cond ((Z251.md a2 a3 y1 a4)==1) (.inl (s3.1,s3.2.1,(s3.2.2++[3]))) (cond ((Z251.md a2 a3 y1 a4)==1) (.inr ((⟨(⟨s3.1,s3.2.1⟩),y1.cj,(y1.aS),true,(s3.2.2++[(Z251.md a2 a3 y1 a4)])⟩),i1)) (.inl (s3.1,s3.2.1,(s3.2.2++[(Z251.md a2 a3 y1 a4)]))))))) (cond (Z156.md 6 1 3) (cond ((Z251.md a2 a3 y1 a4)==1) (cond (!(!(Z267.md (⟨s3.1,s3.2.1⟩) a2))) (.inl (s3.1,s3.2.1,(s3.2.2++[3]))) (cond ((Z251.md a2 a3 y1 a4)==1) (.inr ((⟨(⟨s3.1,s3.2.1⟩),y1.cj,(y1.aS),true,(s3.2.2++[(Z251.md a2 a3 y1 a4)])⟩),i1)) (.inl (s3.1,s3.2.1,(s3.2.2++[(Z251.md a2 a3 y1 a4)]))))) (cond ((Z251.md a2 a3 y1 a4)==1) (.inr ((⟨(⟨s3.1,s3.2.1⟩),y1.cj,(y1.aS),true,(s3.2.2++[(Z251.md a2 a3 y1 a4)])⟩),i1)) (.inl (s3.1,s3.2.1,(s3.2.2++[(Z251.md a2 a3 y1 a4)]))))) (cond ((Z251.md a2 a3 y1 a4)==1) (.inl (s3.1,s3.2.1,(s3.2.2++[3]))) (cond ((Z251.md a2 a3 y1 a4)==1) (.inr ((⟨(⟨s3.1,s3.2.1⟩),y1.cj,(y1.aS),true,(s3.2.2++[(Z251.md a2 a3 y1 a4)])⟩),i1)) (.inl (s3.1,s3.2.1,(s3.2.2++[(Z251.md a2 a3 y1 a4)])))))))) (fun (s3:List (List aa)×List aG×List Int)=>((⟨(⟨s3.1,s3.2.1⟩),false,(⟨(⟨#[]⟩:aE),0,0,[]⟩),false,s3.2.2⟩),(-1))) 0 a1 (a0.aM,a0.bu,[]))
def gd (a0:aA)(a1:List aq)(a2:Int)(a3:aE)(a4:Int):Prop:=(aA.Sm (2^21) a0)/\(bN (2^21) (fun y:aq=>aq.Sm (2^21) y) a1)/\(a3.size<=(2^21))
def acc (ls:List L):bA×aB×Int×aE×Int:=((bA.dec ls),(eR 2 ls),(dH 3 ls),(qX 4 ls),(dH 5 ls))
def R:(bA×aB×Int×aE×Int)->Option (dL×Int):=zV gd md
def ak {a0 a1 a2 a3 a4}(h:gd a0 a1 a2 a3 a4):R ((aA.r a0),(a1.map aq.row),a2,a3,a4)=some ((cy.r (md a0 a1 a2 a3 a4).1),(md a0 a1 a2 a3 a4).2):=zy h
def aT:gh:=CN pats res acc R
def aY (a0:aA)(a1:List aq)(a2:Int)(a3:aE)(a4:Int)(hg:gd a0 a1 a2 a3 a4):∃n,start (iter step n) (aA.r a0) (a1.map aq.row) a2 a3 a4=ret (((cy.r (md a0 a1 a2 a3 a4).1),(md a0 a1 a2 a3 a4).2):dL×Int):=by
 obtain ⟨H0,H1,H3⟩:=hg
 refine cx (Z155.ak H0) ?_
 have Bh2:=bl H1
 refine ex_eq (out:=(fun b:cy×Int=>ret (((cy.r b.1),b.2):dL×Int))) (dw (z:=aq.zero)) (eo (p:=Pt.p0 a2 a3 a4 (a1.map aq.row) (a1.length:Int) 0 false (⟨#[]⟩:aE) 0 0 false false (⟨#[]⟩:aE) 0 0 false (a0.aM.map (eK aa.row)) (a0.bu.map aG.row) ([].map bt)) fz ?_)
 refine cw (pt:=fun (i1:Nat) (s3:List (List aa)×List aG×List Int)=>Pt.p0 a2 a3 a4 (a1.map aq.row) (a1.length:Int) (i1:Int) false (⟨#[]⟩:aE) 0 0 false false (⟨#[]⟩:aE) 0 0 false (s3.1.map (eK aa.row)) (s3.2.1.map aG.row) (s3.2.2.map bt)) (s:=((a0.aM,a0.bu,[]):List (List aa)×List aG×List Int)) (out:=(fun b:cy×Int=>ret (((cy.r b.1),b.2):dL×Int))) (fun (i1:Nat) (s3:List (List aa)×List aG×List Int)=>aA.Sm (2^21) (⟨s3.1,s3.2.1⟩:aA)/\s3.2.2.length<=i1) (fun J i1 s3 h2 hih2=>?_) (fun s3 hih2=>?_) ⟨H0,zero_le _⟩
 ·simp only [step,SS]
  have:=(H1).1
  refine bp.yes dt (bp.yes aD ?_)
  refine bp.yes (aK h2) (cr (Z251.ak ⟨H3,(bN.getD H1 h2)⟩) ?_)
  refine cr (Z204.ak (bN.getD H1 h2).1) (bp.bif (fun c4=>?_) (fun c4=>?_))
  ·have tc4:=Z204.tr (by simpa using c4)
   refine bp.yes (have:=((bN.getD (z:=aq.zero) H1 h2).1).1;dt) (bp.bif (fun c5=>?_) (fun c5=>?_))
   ·refine cr (Z259.ak ⟨⟨hih2.1.1,hih2.1.2⟩,(bN.getD H1 h2).1⟩) (cr (Z156.ak trivial) ?_)
    refine bp.bif (fun c6=>?_) (fun c6=>?_)
    ·refine cr (Z267.ak (Z259.iR ⟨⟨hih2.1.1,hih2.1.2⟩,(bN.getD H1 h2).1⟩)) (bp.bif (fun c7=>?_) (fun c7=>?_))
     ·refine bp.bif (fun c8=>?_) (fun c8=>?_)
      ·refine bp.yes lm (bp.inl (⟨Z259.iR ⟨hih2.1,(bN.getD H1 h2).1⟩,pW hih2.2⟩) ?_)
       rw [aH h2 Bh2]
       exact fz
      ·refine bp.yes lm (bp.bif (fun c9=>?_) (fun c9=>?_))
       ·refine cr (Z148.ak (bN.getD H1 h2).2.1) (bp.inr ?_)
        exact fz
       ·refine bp.inl (⟨Z259.iR ⟨hih2.1,(bN.getD H1 h2).1⟩,pW hih2.2⟩) ?_
        rw [aH h2 Bh2]
        exact fz
     ·refine bp.yes lm (bp.bif (fun c10=>?_) (fun c10=>?_))
      ·refine cr (Z148.ak (bN.getD H1 h2).2.1) (bp.inr ?_)
       exact fz
      ·refine bp.inl (⟨Z259.iR ⟨hih2.1,(bN.getD H1 h2).1⟩,pW hih2.2⟩) ?_
       rw [aH h2 Bh2]
       exact fz
    ·refine bp.bif (fun c11=>?_) (fun c11=>?_)
     ·refine bp.yes lm (bp.inl (⟨Z259.iR ⟨hih2.1,(bN.getD H1 h2).1⟩,pW hih2.2⟩) ?_)
      rw [aH h2 Bh2]
      exact fz
     ·refine bp.yes lm (bp.bif (fun c12=>?_) (fun c12=>?_))
      ·refine cr (Z148.ak (bN.getD H1 h2).2.1) (bp.inr ?_)
       exact fz
      ·refine bp.inl (⟨Z259.iR ⟨hih2.1,(bN.getD H1 h2).1⟩,pW hih2.2⟩) ?_
       rw [aH h2 Bh2]
       exact fz
   ·refine cr (Z156.ak trivial) (bp.bif (fun c13=>?_) (fun c13=>?_))
    ·refine cr (Z267.ak ⟨hih2.1.1,hih2.1.2⟩) (bp.bif (fun c14=>?_) (fun c14=>?_))
     ·refine bp.bif (fun c15=>?_) (fun c15=>?_)
      ·refine bp.yes lm (bp.inl (⟨hih2.1,pW hih2.2⟩) ?_)
       rw [aH h2 Bh2]
       exact fz
      ·refine bp.yes lm (bp.bif (fun c16=>?_) (fun c16=>?_))
       ·refine cr (Z148.ak (bN.getD H1 h2).2.1) (bp.inr ?_)
        exact fz
       ·refine bp.inl (⟨hih2.1,pW hih2.2⟩) ?_
        rw [aH h2 Bh2]
        exact fz
     ·refine bp.yes lm (bp.bif (fun c17=>?_) (fun c17=>?_))
      ·refine cr (Z148.ak (bN.getD H1 h2).2.1) (bp.inr ?_)
       exact fz
      ·refine bp.inl (⟨hih2.1,pW hih2.2⟩) ?_
       rw [aH h2 Bh2]
       exact fz
    ·refine bp.bif (fun c18=>?_) (fun c18=>?_)
     ·refine bp.yes lm (bp.inl (⟨hih2.1,pW hih2.2⟩) ?_)
      rw [aH h2 Bh2]
      exact fz
     ·refine bp.yes lm (bp.bif (fun c19=>?_) (fun c19=>?_))
      ·refine cr (Z148.ak (bN.getD H1 h2).2.1) (bp.inr ?_)
       exact fz
      ·refine bp.inl (⟨hih2.1,pW hih2.2⟩) ?_
       rw [aH h2 Bh2]
       exact fz
  ·refine cr (Z156.ak trivial) (bp.bif (fun c20=>?_) (fun c20=>?_))
   ·refine cr (Z267.ak ⟨hih2.1.1,hih2.1.2⟩) (bp.bif (fun c21=>?_) (fun c21=>?_))
    ·refine bp.bif (fun c22=>?_) (fun c22=>?_)
     ·refine bp.yes lm (bp.inl (⟨hih2.1,pW hih2.2⟩) ?_)
      rw [aH h2 Bh2]
      exact fz
     ·refine bp.yes lm (bp.bif (fun c23=>?_) (fun c23=>?_))
      ·refine cr (Z148.ak (bN.getD H1 h2).2.1) (bp.inr ?_)
       exact fz
      ·refine bp.inl (⟨hih2.1,pW hih2.2⟩) ?_
       rw [aH h2 Bh2]
       exact fz
    ·refine bp.yes lm (bp.bif (fun c24=>?_) (fun c24=>?_))
     ·refine cr (Z148.ak (bN.getD H1 h2).2.1) (bp.inr ?_)
      exact fz
     ·refine bp.inl (⟨hih2.1,pW hih2.2⟩) ?_
      rw [aH h2 Bh2]
      exact fz
   ·refine bp.bif (fun c25=>?_) (fun c25=>?_)
    ·refine bp.yes lm (bp.inl (⟨hih2.1,pW hih2.2⟩) ?_)
     rw [aH h2 Bh2]
     exact fz
    ·refine bp.yes lm (bp.bif (fun c26=>?_) (fun c26=>?_))
     ·refine cr (Z148.ak (bN.getD H1 h2).2.1) (bp.inr ?_)
      exact fz
     ·refine bp.inl (⟨hih2.1,pW hih2.2⟩) ?_
      rw [aH h2 Bh2]
      exact fz
 ·simp only [step,SS]
  refine dO dn (⟨0,?_⟩)
  exact fz
def af:cz 99 aT:=VI (mt:=false) (run:=fun n x=>start (iter step n) x.1 x.2.1 x.2.2.1 x.2.2.2.1 x.2.2.2.2) mix aC (eP Z155.af Z148.af) .nil (.cons (Z268.lX 0) .nil) Tryz.func99 (by kernel_rfl) run_eq (fun _ a _ _ hg=>aY a.1 a.2.1 a.2.2.1 a.2.2.2.1 a.2.2.2.2 hg)
def oE (a0:aA)(a1:List aq)(a2:Int)(a3:aE)(a4:Int):md a0 a1 a2 a3 a4=ep (fun i y s=>(Z136.qe a2 a3 a4 y s).map id (fun b=>(b,(i:Int)))) (fun s=>(Z136.fin s,-1)) 0 a1 (a0.aM,a0.bu,[]):=by
 refine mW (fun i y _ s=>?_) (fun s=>rfl)
 have h31:((3:Int)==1)=false:=rfl
 have h61:((6:Int)==1)=false:=rfl
 have h62:((6:Int)==2)=false:=rfl
 have h63:((6:Int)==3)=false:=rfl
 have hin:∀n:Int,Z156.md n 1 3=(n==1||(n==2||n==3)):=fun n=>by
  unfold Z156.md
  rw [Bool.eq_iff_iff];simp;omega
 simp only [Z251.br,Z204.br,Z259.br,Z267.br,hin]
 unfold Z136.qe Z136.nQ
 cases g1:Z88.md y.aQ
 ·have e:(Z89.md y.aQ).2=false:=by unfold Z89.md;rw [g1];rfl
  cases g2:(Z131.md a2 a3 y a4==1)<;>simp [e,g2,h31,h61,h62,h63,Sum.map]
 have hl:=Z88.tr g1
 have e:(Z89.md y.aQ).2=true:=by unfold Z89.md;rw [g1];rfl
 have e2:(Z89.md y.aQ).1.bz=(y.aQ.getD 0 aa.zero).an.bz:=by
  have hi:toNat (i64.wrap ((y.aQ.length:Int) - 1))=y.aQ.length - 1:=by simp (disch:=omega) only [wi];omega
  have:=Z88.CS g1 (y.aQ.length - 1) (by omega)
  unfold Z89.md
  rw [g1,hi]
  exact this
 rw [e2,e]
 cases g3:((y.aQ.getD 0 aa.zero).an.bz==a2)
 ·cases g2:(Z131.md a2 a3 y a4==1)<;>simp [g2,h31,h61,h62,h63,Sum.map]
 generalize Z120.md (⟨s.1,s.2.1⟩:aA) y.aQ=r
 cases g2:(Z131.md a2 a3 y a4==1)<;>cases g4:(r.2==1)<;>cases g5:(r.2==2)<;>cases g6:(r.2==3)<;>cases g7:Z135.md r.1 a2<;>simp [g2,g4,g5,g6,g7,h31,Sum.map]
def DN (a0:aA)(a1:List aq)(a2:Int)(a3:aE)(a4:Int):(md a0 a1 a2 a3 a4).1=Z136.md a0 a1 a2 a3 a4:=by
 rw [oE,Z136.oE]
 exact su (fun i y s=>by cases Z136.qe a2 a3 a4 y s<;>rfl) (fun s=>rfl) a1 0 _
end Z269
namespace Z270
def F (x0:cH)(x1:Int)(x2:aE)(x3:bq)(x4:Int):aI:=(call (Z153.R x0) fun v1=>(call (Z251.R (x1,x2,x3,x4)) fun v2=>(cond (v2 != 1) (ret v1) (call (Z151.R x3) fun v3=>(call (Z164.R (x0,x1,x2)) fun v4=>(cond (v4>=0) (m2 v4 v1.aO.length (ret ((⟨(List.set v1.aO (toNat v4) (bP.enc (⟨x1,x2,v3⟩)))⟩):cH))) (cond ((x0.aO.length:Int)<16) (bY (fJ ((v1.aO.length+1)*328)) (ret ((⟨(v1.aO++[(bP.enc (⟨x1,x2,v3⟩))])⟩):cH))) (ret v1))))))))
def md (a0:aJ)(a1:Int)(a2:aE)(a3:aq)(a4:Int):aJ:=(cond ((Z251.md a1 a2 a3 a4) != 1) a0 (cond ((Z164.md a0 a1 a2)>=0) (⟨(List.set a0.aO (toNat (Z164.md a0 a1 a2)) (⟨a1,a2,a3⟩))⟩) (cond ((a0.aO.length:Int)<16) (⟨(a0.aO++[(⟨a1,a2,a3⟩)])⟩) a0)))
def gd (a0:aJ)(a1:Int)(a2:aE)(a3:aq)(a4:Int):Prop:=(aJ.Sm (2^21) a0)/\(a2.size<=(2^21))/\(aq.Sm (2^21) a3)
def R:=zV gd md
def ak {a0 a1 a2 a3 a4}(h:gd a0 a1 a2 a3 a4):R ((aJ.r a0),a1,a2,(aq.r a3),a4)=some (aJ.r (md a0 a1 a2 a3 a4)):=zy h
def aT:=CN [.agg zh,pI,pS,.agg sn,pI] (.agg f46) RT.dec R
def aY (a0)(a1)(a2)(a3)(a4)(hg:gd a0 a1 a2 a3 a4):F (aJ.r a0) a1 a2 (aq.r a3) a4=ret (aJ.r (md a0 a1 a2 a3 a4)):=by
 obtain ⟨H0,H2,H3⟩:=hg
 refine ct (Z153.ak H0) (ct (Z251.ak ⟨H2,H3⟩) ?_)
 refine bo (fun c1=>fz) (fun c1=>?_)
 refine ct (Z151.ak H3) ?_
 simp only [SS]
 refine ct (Z164.ak H0) ?_
 have fv4_:=Z164.fa a0 a1 a2
 refine bo (fun c2=>?_) (fun c2=>?_)
 ·have dc2:=c2
  simp only [DC] at dc2
  refine aj dt (aj dt ?_)
  exact fz
 ·refine bo (fun c3=>?_) (fun c3=>fz)
  have dc3:=c3
  simp only [DC] at dc3
  exact aj lm fz
def af:cz 100 aT:=W5 50 F mix aC aY (kE Z153.af Z251.af Z151.af Z164.af) Tryz.func100
def br (a0:aJ)(a1:Int)(a2:aE)(a3:aq)(a4:Int):md a0 a1 a2 a3 a4=Z137.md a0 a1 a2 a3 a4:=by
 unfold md Z137.md
 simp only [Z251.br,Z164.br]
end Z270
namespace Z271
def F (x0:aB)(x1:bA)(x2:Int)(x3:aE)(x4 x5:List L):aI:=(call (Z165.R ((⟨x0⟩),x2,x3)) fun v1=>(call (Z237.R ((nL x4),x2,x3)) fun v2=>(bY (fJ (((1:Int)+v2.length)*304)) (call (Z269.R (x1,([(bq.enc v1)]++v2),x2,x3,(gq x5))) fun v3=>(cond (v3.2>=0) (bY ((0:Int)<=v3.2) (bY (v3.2<(([(bq.enc v1)]++v2).length)) (call (Z270.R ((⟨x0⟩),x2,x3,(bq.at ([(bq.enc v1)]++v2) (toNat v3.2)),(gq x5))) fun v4=>ret ((v4.aO,v3.1):aB×dL)))) (ret ((x0,v3.1):aB×dL)))))))
def pats:List mw:=[.rd (.agg [.sl 120,.sl 180]),.rd (.rd (.int .i64)),.rd (.rd (.str)),.box,.rd (.ptr [.sl 138]),.rd (.ptr [au])]
def res:RP:=.agg [.fr 120,.fr 180,.rd (.bool),.rd (.str),.rd (.int .i64),.rd (.int .i64),.fr 9,.rd (.bool),.fr 3]
abbrev E:Env:={ T:=assoc lC,G:=dK [(97,Z165.aT),(98,Z237.aT),(99,Z269.aT),(100,Z270.aT)],nt:=44,M:=gm [],np:=1,I:=mq [] }
def run_eq (n:Nat)(ls:List L):eY E (fun _=>[]) Tryz.f96 (.tc 148 res.parts) n (uz 148 pats ls)=F (dc ls) (bA.dec (bE 1 ls)) (dH 3 ls) (qX 4 ls) (cI 1 (bE 5 ls)) (cI 1 (bE 6 ls)):=by kernel_rfl
def ix (z:Int)(l:aE)(now:Int):∀(xs:List aq) (i:Nat) (s:List (List aa)×List aG×List Int),s.2.2.length=i->
  (ep (fun i y s=>(Z136.qe z l now y s).map id (fun b=>(b,(i:Int)))) (fun s=>(Z136.fin s,-1)) i xs s).2=bif (ep (fun i y s=>(Z136.qe z l now y s).map id (fun b=>(b,(i:Int)))) (fun s=>(Z136.fin s,-1)) i xs s).1.ia then (((ep (fun i y s=>(Z136.qe z l now y s).map id (fun b=>(b,(i:Int)))) (fun s=>(Z136.fin s,-1)) i xs s).1.fR.length - 1:Nat):Int) else -1
 | [],i,s,h=>by unfold ep Z136.fin;rfl
 | y::xs,i,s,h=>by
  unfold ep
  cases hb:Z136.qe z l now y s with
  | inl s'=>
   refine ix z l now xs (i+1) s' ?_
   unfold Z136.qe at hb
   revert hb
   cases ((Z136.nQ z l now y ⟨s.1,s.2.1⟩).2==1)
   ·intro hb
    injection hb with hb
    subst hb
    simp [h]
   ·intro hb;cases hb
  | inr b=>
   unfold Z136.qe at hb
   revert hb
   cases ((Z136.nQ z l now y ⟨s.1,s.2.1⟩).2==1)
   ·intro hb;cases hb
   ·intro hb
    injection hb with hb
    subst hb
    simp [Sum.map,h]
def DR (k:aA)(xs:List aq)(z:Int)(l:aE)(now:Int):(Z269.md k xs z l now).2=bif (Z136.md k xs z l now).ia then (((Z136.md k xs z l now).fR.length - 1:Nat):Int) else -1:=by
 rw [<-Z269.DN,Z269.oE]
 exact ix z l now xs 0 _ rfl
def md (a0:List av)(a1:aA)(a2:Int)(a3:aE)(a4:List ay)(a5:Int):List av×cy:=((Z140.lk a4 a5 ⟨a0⟩ a1 a2 a3).2.aO,(Z140.lk a4 a5 ⟨a0⟩ a1 a2 a3).1)
def gd (a0:List av)(a1:aA)(a2:Int)(a3:aE)(a4:List ay)(a5:Int):Prop:=(aJ.Sm (2^21) ⟨a0⟩)/\(aA.Sm (2^21) a1)/\(a3.size<=(2^21))/\(bN (2^21) (fun y:ay=>ay.Sm (2^21) y) a4)
def acc (ls:List L):aB×bA×Int×aE×aB×Int:=((dc ls),(bA.dec (bE 1 ls)),(dH 3 ls),(qX 4 ls),(nL (cI 1 (bE 5 ls))),(gq (cI 1 (bE 6 ls))))
def R:(aB×bA×Int×aE×aB×Int)->Option (aB×dL):=zq gd md
def ak {a0 a1 a2 a3 a4 a5}(h:gd a0 a1 a2 a3 a4 a5):R ((a0.map av.row),(aA.r a1),a2,a3,(a4.map ay.row),a5)=some (((md a0 a1 a2 a3 a4 a5).1.map av.row),(cy.r (md a0 a1 a2 a3 a4 a5).2)):=Ah h
def aT:qB:=ON pats 148 res acc R
def aY (a0:List av)(a1:aA)(a2:Int)(a3:aE)(a4:List ay)(a5:Int)(p4 p5:List L)(e4:(a4.map ay.row)=(nL p4))(e5:a5=(gq p5))(hg:gd a0 a1 a2 a3 a4 a5):F (a0.map av.row) (aA.r a1) a2 a3 p4 p5=ret ((((md a0 a1 a2 a3 a4 a5).1.map av.row),(cy.r (md a0 a1 a2 a3 a4 a5).2)):aB×dL):=by
 obtain ⟨HC,HK,HL,HS⟩:=hg
 have hans:=Z140.xB (z:=a2) HC HS HL
 have h4:=Z114.Bd a4 a2 a3
 have hrow:[bq.enc (aq.r (Z63.md ⟨a0⟩ a2 a3))]++(Z114.md a4 a2 a3).map aq.row=(Z140.bQ a4 ⟨a0⟩ a2 a3).map aq.row:=rfl
 have r1:=Z165.ak (a1:=a2) (a2:=a3) HC
 rw [Z165.br] at r1
 have r2:=Z237.ak (a1:=a2) ⟨HS,HL⟩
 rw [Z237.br] at r2
 have r3:=Z269.ak (a2:=a2) (a4:=a5) ⟨HK,hans,HL⟩
 rw [Z269.DN,DR] at r3
 unfold F md
 rw [<-e4,<-e5]
 refine aU _ r1 (aU _ r2 ?_)
 rw [hrow]
 simp only [List.length_map]
 refine aj (iV (by omega)) (aU _ r3 ?_)
 unfold Z140.lk
 have hd2:=Z140.DL (k:=a1) (xs:=Z140.bQ a4 ⟨a0⟩ a2 a3) (z:=a2) (l:=a3) (now:=a5)
 generalize Z136.md a1 (Z140.bQ a4 ⟨a0⟩ a2 a3) a2 a3 a5=l at hd2 ⊢
 cases hd:l.ia
 ·refine cW (by apply decide_eq_false;simp) ?_
  rfl
 ·obtain ⟨d1,d2⟩:=hd2 hd
  simp only [aZ]
  refine aj dt (aj dt (aj dt ?_))
  have hat2:bq.at ((Z140.bQ a4 ⟨a0⟩ a2 a3).map aq.row) (toNat ((l.fR.length - 1:Nat):Int))=((Z140.bQ a4 ⟨a0⟩ a2 a3).getD (l.fR.length - 1) aq.zero).r:=aq.dR
  have hke:=Z270.ak (a1:=a2) (a3:=(Z140.bQ a4 ⟨a0⟩ a2 a3).getD (l.fR.length - 1) aq.zero) (a4:=a5) ⟨HC,HL,bN.sW hans Z140.az⟩
  rw [Z270.br,<-hat2] at hke
  refine aU _ hke ?_
  rfl
def nY (ls:List L)(a:List av×aA×Int×aE×List ay×Int)(e:acc ls=Im.im a)(hg:(p6 gd) a):∃n:Nat,F ((dc ls)) (bA.dec (bE 1 ls)) ((dH 3 ls)) ((qX 4 ls)) (cI 1 (bE 5 ls)) (cI 1 (bE 6 ls))=ret (Im.im ((u6 md) a)):=by
 have e0:(a.1.map av.row)=(dc ls):=(congrArg (fun x=>x.1) e.symm)
 have e1:(aA.r a.2.1)=(bA.dec (bE 1 ls)):=(congrArg (fun x=>x.2.1) e.symm)
 have e2:a.2.2.1=(dH 3 ls):=(congrArg (fun x=>x.2.2.1) e.symm)
 have e3:a.2.2.2.1=(qX 4 ls):=(congrArg (fun x=>x.2.2.2.1) e.symm)
 have hn:=aY a.1 a.2.1 a.2.2.1 a.2.2.2.1 a.2.2.2.2.1 a.2.2.2.2.2 (cI 1 (bE 5 ls)) (cI 1 (bE 6 ls)) (congrArg (fun x=>x.2.2.2.2.1) e.symm) (congrArg (fun x=>x.2.2.2.2.2) e.symm) hg
 refine ⟨0,?_⟩
 rw [<-e0,<-e1,<-e2,<-e3]
 exact hn
def af:oP Tryz.prog Ev 96 aT:=VO (mt:=false) (accr:=fun ls=>((dc ls),(bA.dec (bE 1 ls)),(dH 3 ls),(qX 4 ls),(cI 1 (bE 5 ls)),(cI 1 (bE 6 ls)))) (run:=fun _ x=>F x.1 x.2.1 x.2.2.1 x.2.2.2.1 x.2.2.2.2.1 x.2.2.2.2.2) mix aC (kE Z165.af Z237.af Z269.af Z270.af) .nil .nil Tryz.func96 (by kernel_rfl) run_eq (fun ls a e hg=>nY ls a e hg)
def ic (_:Nat):kD:=uJ Ev aT
def lX (n:Nat):gI Tryz.prog Ev n 96 (ic n):=so af
end Z271
namespace Z272
abbrev E (n:Nat):Env:={ T:=assoc lC,G:=dK [(189,Z147.aT),(144,Z161.aT),(150,Z148.aT)],nt:=83,M:=gm [],np:=n,I:=mq [] }
def ic (n:Nat):kD:=inl (E n) Tryz.f145
def lX (n:Nat):gI Tryz.prog Ev n 145 (ic n):=Ax (mt:=false) mix aC (kC Z147.af Z161.af Z148.af) .nil .nil Tryz.func145 (by kernel_rfl)
end Z272
namespace Z273
inductive Pt where
 | p0 (a:aB) (b c:List L) (d e:Int) (f:aE) (g h i j:Int) (k:aE) (l m n:Int) (o p q s t:aB)
def pid:Pt->Nat
 | .p0 ..=>6
def cu:Pt->List V
 | .p0 a b c d e f g h i j k l m n o p q s t=>[.sl none 9 a,.fn 96 [.cC 0 0,.dQ none [.sl 138] b 0,.dQ none [au] c 0],.cC 1 0,.cC 2 0,.int .i64 d,.cC 2 0,.cC 2 0]
def cR:Pt->List aW
 | .p0 a b c d e f g h i j k l m n o p q s t=>[.box [.own 3],.box [.nil,.nil,.int .i64 e,.str f,.int .i64 g,.int .i64 h,.nil,.nil,.int .i64 i],.box [.own 4,.own 5,.int .i64 j,.str k,.int .i64 l,.int .i64 m,.own 6,.own 7,.int .i64 n],.row 148 o,.row 120 p,.row 180 q,.row 9 s,.row 3 t]
def step (J:Pt->aI):Pt->aI
 | .p0 a b c d e f g h i j k l m n o p q s t=>(cond (j==0) (bY ((0:Int)<(a.length:Int)) (call (Z271.R (o,(⟨p,q⟩:bA),d,(qS a 0),(nL b),(gq c))) fun v1=>(bY (fJ (((t.length:Int)+1)*8)) (bY ((1:Int)<=(a.length:Int)) (bY ((a.length:Int)<=(a.length:Int)) (cond (!v1.2.ia) (J (.p0 [] b c 0 e f g h i 3 k l m n v1.1 v1.2.cg.aM v1.2.cg.bu s (t++[[L.int d]]))) (cond (!v1.2.cj) (J (.p0 [] b c 0 e f g h i 2 k l m n v1.1 v1.2.cg.aM v1.2.cg.bu s (t++[[L.int d]]))) (cond (v1.2.aS.bJ==3) (call (Z147.R v1.2.aS.bh) fun v2=>(bY (fJ (((v2.length:Int)+((List.take (toNat ((a.length:Int) - 1)) (List.drop 1 a)).length:Int))*16)) (cond (n>=3) (J (.p0 [] b c 0 e f g h i 5 k l m n v1.1 v1.2.cg.aM v1.2.cg.bu s (t++[[L.int d]]))) (call (Z161.R (v2++(List.take (toNat ((a.length:Int) - 1)) (List.drop 1 a)))) fun v3=>(cond (!v3) (J (.p0 [] b c 0 e f g h i 5 k l m n v1.1 v1.2.cg.aM v1.2.cg.bu s (t++[[L.int d]]))) (J (.p0 (v2++(List.take (toNat ((a.length:Int) - 1)) (List.drop 1 a))) b c v1.2.aS.bX e f g h i j k l m (i64.wrap (n+1)) v1.1 v1.2.cg.aM v1.2.cg.bu s (t++[[L.int d]])))))))) (cond (((List.take (toNat ((a.length:Int) - 1)) (List.drop 1 a)).length:Int)==0) (call (Z148.R v1.2.aS) fun v4=>J (.p0 [] b c 0 e f g h i 1 v4.aV v4.bJ v4.bX n v1.1 v1.2.cg.aM v1.2.cg.bu v4.bh (t++[[L.int d]]))) (cond (v1.2.aS.bJ==2) (J (.p0 (List.take (toNat ((a.length:Int) - 1)) (List.drop 1 a)) b c v1.2.aS.bX e f g h i j k l m n v1.1 v1.2.cg.aM v1.2.cg.bu s (t++[[L.int d]]))) (J (.p0 [] b c 0 e f g h i 4 k l m n v1.1 v1.2.cg.aM v1.2.cg.bu s (t++[[L.int d]]))))))))))))) (ret ((o,(⟨(⟨p,q⟩:bA),j,(⟨k,l,m,s⟩:bK),t,n⟩:dU)):aB×dU)))
def start (J:Pt->aI)(x0:aB)(x1:bA)(x2:Int)(x3:aB)(x4 x5:List L):aI:=(call (Z155.R x1) fun v1=>(call (Z161.R x3) fun v2=>(cond (!v2) (ret ((x0,(⟨v1,6,(⟨(⟨#[]⟩:aE),0,0,[]⟩),[],0⟩)):aB×dU)) (J (.p0 x3 x4 x5 x2 0 ⟨#[]⟩ 0 0 0 0 ⟨#[]⟩ 0 0 0 x0 v1.aM v1.bu [] [])))))
def live:Nat->Live:=fK [(6,[(2,some 1099511627785),(3,none),(8,none),(9,none),(10,none),(9,some 6291465),(9,some 7340035)])]
def pats:List mw:=[.rd (.agg [.sl 120,.sl 180]),.rd (.rd (.int .i64)),.rd (.rd (.sl 9)),.fn 96 [none,some [.sl 138],some [au]]]
def res:RP:=.agg [.fr 120,.fr 180,.rd (.int .i64),.rd (.str),.rd (.int .i64),.rd (.int .i64),.fr 9,.fr 3,.rd (.int .i64)]
abbrev E:Env:={ T:=assoc lC,G:=dK [(143,Z155.aT),(144,Z161.aT)],nt:=48,M:=gm [],np:=1,I:=mq [(96,Z271.ic 1),(145,Z272.ic 1)],J:=[24] }
def step_eq (I:cJ)(p:Pt):dh E live I (pid p) (bI Tryz.f95) (fU (live (pid p)) (cu p) (cR p)) (cG E Tryz.f95 (.tc 148 res.parts))=step (fun q=>I (pid q) (cu q) (cR q)) p:=by
 cases p<;>kernel_rfl
def start_eq (I:cJ)(ls:List L):fH E live I (bI Tryz.f95) (uz 148 pats ls) (cG E Tryz.f95 (.tc 148 res.parts))=start (fun q=>I (pid q) (cu q) (cR q)) (dc ls) (bA.dec (bE 1 ls)) (dH 3 ls) (eR 4 ls) (cI 1 (bE 5 ls)) (cI 1 (bE 6 ls)):=by kernel_rfl
def run_eq (n:Nat)(ls:List L):eY E live Tryz.f95 (.tc 148 res.parts) n (uz 148 pats ls)=start (iter step n) (dc ls) (bA.dec (bE 1 ls)) (dH 3 ls) (eR 4 ls) (cI 1 (bE 5 ls)) (cI 1 (bE 6 ls)):=cB (id:=pid) (vs:=cu) (hs:=cR) (step:=step) (start:=fun J=>start J (dc ls) (bA.dec (bE 1 ls)) (dH 3 ls) (eR 4 ls) (cI 1 (bE 5 ls)) (cI 1 (bE 6 ls))) step_eq (fun I=>start_eq I ls) n
def md (a0:List av)(a1:aA)(a2:Int)(a3:List aE)(a4:List ay)(a5:Int):List av×bH:=(cond (!Z161.md a3) (a0,⟨a1,6,⟨⟨#[]⟩,0,0,[]⟩,[],0⟩) ((Z140.rs (Z140.lk a4 a5) 17 ⟨a0⟩ a1 [] 0 a2 a3).2.aO,(Z140.rs (Z140.lk a4 a5) 17 ⟨a0⟩ a1 [] 0 a2 a3).1))
def gd (a0:List av)(a1:aA)(a2:Int)(a3:List aE)(a4:List ay)(a5:Int):Prop:=(aJ.Sm (2^21) ⟨a0⟩)/\(aA.Sm (2^21) a1)/\(bN (2^21) (fun y:aE=>y.size<=(2^21)) a3)/\(bN (2^21) (fun y:ay=>ay.Sm (2^21) y) a4)
def acc (ls:List L):aB×bA×Int×aB×aB×Int:=((dc ls),(bA.dec (bE 1 ls)),(dH 3 ls),(eR 4 ls),(nL (cI 1 (bE 5 ls))),(gq (cI 1 (bE 6 ls))))
def R:(aB×bA×Int×aB×aB×Int)->Option (aB×dU):=zq gd md
def ak {a0 a1 a2 a3 a4 a5}(h:gd a0 a1 a2 a3 a4 a5):R ((a0.map av.row),(aA.r a1),a2,(a3.map cX),(a4.map ay.row),a5)=some (((md a0 a1 a2 a3 a4 a5).1.map av.row),(bH.r (md a0 a1 a2 a3 a4 a5).2)):=Ah h
def aT:qB:=ON pats 148 res acc R
def aY (a0:List av)(a1:aA)(a2:Int)(a3:List aE)(a4:List ay)(a5:Int)(p4 p5:List L)(e4:(a4.map ay.row)=(nL p4))(e5:a5=(gq p5))(hg:gd a0 a1 a2 a3 a4 a5):∃n,start (iter step n) (a0.map av.row) (aA.r a1) a2 (a3.map cX) p4 p5=ret ((((md a0 a1 a2 a3 a4 a5).1.map av.row),(bH.r (md a0 a1 a2 a3 a4 a5).2)):aB×dU):=by
 obtain ⟨HC,H0,H2,H3⟩:=hg
 have fin:∀(J:Pt->aI) (code:Int) (x z:Int) (xs:aB) (lab:aE) (kd vl mv:Int) (c o p q s:aB),¬code=0->step J (Pt.p0 xs p4 p5 z 0 ⟨#[]⟩ 0 0 0 code lab kd vl mv c o p q s)=ret ((c,(⟨⟨o,p⟩,code,⟨lab,kd,vl,q⟩,s,mv⟩:dU)):aB×dU):=by
  intro J code x z xs lab kd vl mv c o p q s h
  simp only [step]
  exact cW (beq_eq_false_iff_ne.2 h) rfl
 have key:∀(n:Nat) (c:aJ) (k:aA) (zs:List Int) (mv z:Int) (p:List aE),aJ.Sm (2^21) c->aA.Sm (2^21) k->Z61.md p=true->0<=mv->mv<=3->(3 - mv)*4+(p.length:Int)<=n->zs.length+n<=100->
   ∃m,iter step m (Pt.p0 (p.map cX) p4 p5 z 0 ⟨#[]⟩ 0 0 0 0 ⟨#[]⟩ 0 0 mv (c.aO.map av.row) (k.aM.map (eK aa.row)) (k.bu.map aG.row) [] (zs.map bt))=ret ((((Z140.rs (Z140.lk a4 a5) n c k zs mv z p).2.aO.map av.row),(bH.r (Z140.rs (Z140.lk a4 a5) n c k zs mv z p).1)):aB×dU):=by
  intro n
  induction n with
  | zero=>intro c k zs mv z p _ _ hp _ _ hm _;have:=(Z61.tr hp).1;omega
  | succ n ih=>
   intro c k zs mv z p hc hk hp h0 h3 hm hz
   obtain ⟨⟨p1,p4'⟩,p8⟩:=Z61.tr hp
   obtain ⟨x,xs,rfl⟩:∃x xs,p=x::xs:=by
    cases p with
    | nil=>simp at p1
    | cons x xs=>exact ⟨x,xs,rfl⟩
   have hx:x.size<=2^21:=le_trans (p8 x (by simp)) (by decide)
   have hxs:∀y∈xs,y.size<=2^22:=fun y hy=>le_trans (p8 y (by simp [hy])) (by decide)
   have hlk:=Z140.BL (now:=a5) (z:=z) H3 hc hk hx
   have hat:qS ((x::xs).map cX) 0=x:=rfl
   have ht:List.take (toNat (((xs.length+1:Nat):Int) - 1)) (List.drop 1 ((x::xs).map cX))=xs.map cX:=by
    simp only [List.map_cons,List.drop_succ_cons,List.drop_zero]
    exact List.take_of_length_le (by simp)
   simp only [List.length_cons] at p4' hm
   refine Z140.yd ?_
   simp only [step,hat,List.length_map,List.length_cons,ht,<-e4,<-e5]
   refine dW rfl (dW dt ?_)
   have hR:Z271.R (c.aO.map av.row,aA.r k,z,x,a4.map ay.row,a5)=some ((Z140.lk a4 a5 c k z x).2.aO.map av.row,cy.r (Z140.lk a4 a5 c k z x).1):=Z271.ak ⟨hc,hk,hx,H3⟩
   refine cx hR ?_
   have hcase:∀q,Z140.nx (Z140.lk a4 a5 c k z x).1 mv (x::xs)=.inl q->Z140.rs (Z140.lk a4 a5) (n+1) c k zs mv z (x::xs)=(⟨(Z140.lk a4 a5 c k z x).1.cg,q.1,q.2,zs++[z],mv⟩,(Z140.lk a4 a5 c k z x).2):=fun q hq=>Z140.xP hq
   have hcase2:∀q,Z140.nx (Z140.lk a4 a5 c k z x).1 mv (x::xs)=.inr q->Z140.rs (Z140.lk a4 a5) (n+1) c k zs mv z (x::xs)=Z140.rs (Z140.lk a4 a5) n (Z140.lk a4 a5 c k z x).2 (Z140.lk a4 a5 c k z x).1.cg (zs++[z]) q.1 q.2.1 q.2.2:=fun q hq=>Z140.xK hq
   generalize Z140.lk a4 a5 c k z x=w at hlk hcase hcase2 ⊢
   refine dW lm (dW dt (dW dt ?_))
   obtain ⟨l,c2⟩:=w
   obtain ⟨hl1,hl2⟩:=hlk
   obtain ⟨lk0,lf,le,ld,lc⟩:=l
   simp only at hl1 hl2
   unfold Z140.nx at hcase hcase2
   have hzz:zs.map bt++[[L.int z]]=(zs++[z]).map bt:=by simp [bt]
   cases ld
   ·exact dW rfl ⟨1,(fin _ 3 0 _ _ _ _ _ _ _ _ _ _ _ (by decide)).trans (by rw [hcase _ rfl];exact fz)⟩
   cases lf
   ·exact dO rfl (dW rfl ⟨1,(fin _ 2 0 _ _ _ _ _ _ _ _ _ _ _ (by decide)).trans (by rw [hcase _ rfl];exact fz)⟩)
   simp only [Bool.not_true,aX,aZ,List.tail_cons] at hcase hcase2 ⊢
   have hpl:bN (2^21) (fun y:aE=>y.size<=(2^21)) le.bh:=hl1.2.1.2
   have hpl1:le.bh.length<=2^21:=hpl.1
   refine dO rfl (dO rfl ?_)
   simp only [SS]
   cases hk3:(le.bJ==3)
   ·simp only [hk3,aX] at hcase hcase2 ⊢
    by_cases hx0:xs.length=0
    ·have e0:((xs.length:Int)==0)=true:=by simp [hx0]
     rw [e0] at hcase
     refine dW (beq_iff_eq.2 (by omega)) (cx (Z148.ak hl1.2.1) ?_)
     exact ⟨1,(fin _ 1 0 _ _ _ _ _ _ _ _ _ _ _ (by decide)).trans (by rw [hcase _ rfl];exact fz)⟩
    ·have e0:((xs.length:Int)==0)=false:=by simpa using hx0
     rw [e0] at hcase hcase2
     refine dO (beq_eq_false_iff_ne.2 (by omega)) ?_
     cases hk2:(le.bJ==2)
     ·simp only [hk2,aX] at hcase
      exact dO rfl ⟨1,(fin _ 4 0 _ _ _ _ _ _ _ _ _ _ _ (by decide)).trans (by rw [hcase _ rfl];exact fz)⟩
     ·simp only [hk2,aX,aZ] at hcase2
      refine dW rfl ?_
      have hip:Z61.md xs=true:=Z61.tl hp hx0
      rw [hcase2 _ rfl,hzz]
      exact ih c2 lk0 (zs++[z]) mv le.bX xs hl2 hl1.1 hip h0 h3 (by omega) (by simp;omega)
   ·simp only [hk3,aZ] at hcase hcase2 ⊢
    refine cx (Z147.ak hpl) (dW (by have :(le.bh.map cX).length=le.bh.length:=List.length_map ..;have :(xs.map cX).length=xs.length:=List.length_map ..;exact iV (by omega)) ?_)
    by_cases hmv:mv>=3
    ·rw [decide_eq_true hmv] at hcase ⊢
     exact dW rfl ⟨1,(fin _ 5 0 _ _ _ _ _ _ _ _ _ _ _ (by decide)).trans (by rw [hcase _ rfl];exact fz)⟩
    ·rw [decide_eq_false hmv] at hcase hcase2 ⊢
     simp only [aX] at hcase hcase2 ⊢
     have e:le.bh.map cX++xs.map cX=(le.bh++xs).map cX:=by simp
     rw [e]
     have hq:=Z161.ak ⟨by rw [List.length_append];omega,fun y hy=>(List.mem_append.1 hy).elim (fun h=>le_trans (hpl.2 y h) (by decide)) (hxs y)⟩
     rw [Z161.br] at hq
     refine cx hq ?_
     cases hip:Z61.md (le.bh++xs)
     ·rw [hip] at hcase
      exact dW rfl ⟨1,(fin _ 5 0 _ _ _ _ _ _ _ _ _ _ _ (by decide)).trans (by rw [hcase _ rfl];exact fz)⟩
     ·rw [hip] at hcase2
      have ht:=Z61.tr hip
      rw [hcase2 _ rfl,hzz,wi _ (by omega)]
      exact ih c2 lk0 (zs++[z]) (mv+1) le.bX (le.bh++xs) hl2 hl1.1 hip (by omega) (by omega) (by omega) (by simp;omega)
 unfold start md
 refine cx (Z155.ak H0) (cx (Z161.ak (bN.mono H2 (by decide) (fun y hy=>le_trans hy (by decide)))) ?_)
 cases hp:Z161.md a3
 ·exact ⟨0,rfl⟩
 ·simp only [Bool.not_true,aX]
  rw [Z161.br] at hp
  exact key 17 ⟨a0⟩ a1 [] 0 a2 a3 HC H0 hp (by decide) (by decide) (by have:=(Z61.tr hp).1;omega) (by simp)
def nY (ls:List L)(a:List av×aA×Int×List aE×List ay×Int)(e:acc ls=Im.im a)(hg:(p6 gd) a):∃n:Nat,start (iter step n) ((dc ls)) (bA.dec (bE 1 ls)) ((dH 3 ls)) ((eR 4 ls)) (cI 1 (bE 5 ls)) (cI 1 (bE 6 ls))=ret (Im.im ((u6 md) a)):=by
 have e0:(a.1.map av.row)=(dc ls):=(congrArg (fun x=>x.1) e.symm)
 have e1:(aA.r a.2.1)=(bA.dec (bE 1 ls)):=(congrArg (fun x=>x.2.1) e.symm)
 have e2:a.2.2.1=(dH 3 ls):=(congrArg (fun x=>x.2.2.1) e.symm)
 have e3:(a.2.2.2.1.map cX)=(eR 4 ls):=(congrArg (fun x=>x.2.2.2.1) e.symm)
 obtain ⟨n,hn⟩:=aY a.1 a.2.1 a.2.2.1 a.2.2.2.1 a.2.2.2.2.1 a.2.2.2.2.2 (cI 1 (bE 5 ls)) (cI 1 (bE 6 ls)) (congrArg (fun x=>x.2.2.2.2.1) e.symm) (congrArg (fun x=>x.2.2.2.2.2) e.symm) hg
 refine ⟨n,?_⟩
 rw [<-e0,<-e1,<-e2,<-e3]
 exact hn
def af:oP Tryz.prog Ev 95 aT:=VO (mt:=false) (accr:=fun ls=>((dc ls),(bA.dec (bE 1 ls)),(dH 3 ls),(eR 4 ls),(cI 1 (bE 5 ls)),(cI 1 (bE 6 ls)))) (run:=fun n x=>start (iter step n) x.1 x.2.1 x.2.2.1 x.2.2.2.1 x.2.2.2.2.1 x.2.2.2.2.2) mix aC (eP Z155.af Z161.af) .nil (.cons (Z271.lX 1) (.cons (Z272.lX 1) .nil)) Tryz.func95 (by kernel_rfl) run_eq (fun ls a e hg=>nY ls a e hg)
def ic (_:Nat):kD:=uJ Ev aT
def lX (n:Nat):gI Tryz.prog Ev n 95 (ic n):=so af
end Z273
namespace Z274
def F (x0:bA)(x1:cH)(x2:aB)(x3:Int)(x4:aB)(x5:Int):aI:=(call (Z153.R x1) fun v1=>(call (Z273.R (v1.aO,x0,x3,x4,x2,x5)) fun v2=>ret ((⟨v2.2,(⟨v2.1⟩)⟩):eB)))
def pats:List gK:=[.agg [.sl 120,.sl 180],.agg [.sl 148],.rd (.sl 138),.rd (.int .i64),.rd (.sl 9),.rd (.int .i64)]
def res:RP:=.agg [.fr 120,.fr 180,.rd (.int .i64),.rd (.str),.rd (.int .i64),.rd (.int .i64),.fr 9,.fr 3,.rd (.int .i64),.fr 148]
abbrev E:Env:={ T:=assoc lC,G:=dK [(94,Z153.aT)],nt:=25,M:=gm [],I:=mq [(95,Z273.ic 0)] }
def run_eq (n:Nat)(ls:List L):eY E (fun _=>[]) Tryz.f35 res n (dF pats ls)=F (bA.dec ls) (cH.dec (bE 2 ls)) (eR 3 ls) (dH 4 ls) (eR 5 ls) (dH 6 ls):=by kernel_rfl
def md (a0:aA)(a1:aJ)(a2:List ay)(a3:Int)(a4:List aE)(a5:Int):cK:=(⟨(Z273.md a1.aO a0 a3 a4 a2 a5).2,(⟨(Z273.md a1.aO a0 a3 a4 a2 a5).1⟩)⟩)
def gd (a0:aA)(a1:aJ)(a2:List ay)(a3:Int)(a4:List aE)(a5:Int):Prop:=(aA.Sm (2^21) a0)/\(aJ.Sm (2^21) a1)/\(bN (2^21) (fun y:ay=>ay.Sm (2^21) y) a2)/\(bN (2^21) (fun y:aE=>y.size<=(2^21)) a4)
def acc (ls:List L):bA×cH×aB×Int×aB×Int:=((bA.dec ls),(cH.dec (bE 2 ls)),(eR 3 ls),(dH 4 ls),(eR 5 ls),(dH 6 ls))
def R:(bA×cH×aB×Int×aB×Int)->Option eB:=zq gd md
def ak {a0 a1 a2 a3 a4 a5}(h:gd a0 a1 a2 a3 a4 a5):R ((aA.r a0),(aJ.r a1),(a2.map ay.row),a3,(a4.map cX),a5)=some (cK.r (md a0 a1 a2 a3 a4 a5)):=Ah h
def aT:gh:=CN pats res acc R
def aY (a0:aA)(a1:aJ)(a2:List ay)(a3:Int)(a4:List aE)(a5:Int)(hg:gd a0 a1 a2 a3 a4 a5):F (aA.r a0) (aJ.r a1) (a2.map ay.row) a3 (a4.map cX) a5=ret ((cK.r (md a0 a1 a2 a3 a4 a5)):eB):=by
 obtain ⟨H0,H1,H2,H4⟩:=hg
 refine ct (Z153.ak H1) (ct (Z273.ak ⟨H1,H0,H4,H2⟩) ?_)
 exact fz
def af:cz 35 aT:=VI (mt:=false) (run:=fun _ x=>F x.1 x.2.1 x.2.2.1 x.2.2.2.1 x.2.2.2.2.1 x.2.2.2.2.2) mix aC (cD Z153.af) .nil (.cons (Z273.lX 0) .nil) Tryz.func35 (by kernel_rfl) run_eq (fun _ a _ _ hg=>⟨0,aY a.1 a.2.1 a.2.2.1 a.2.2.2.1 a.2.2.2.2.1 a.2.2.2.2.2 hg⟩)
def br (a0:aA)(a1:aJ)(a2:List ay)(a3:Int)(a4:List aE)(a5:Int):md a0 a1 a2 a3 a4 a5=Z140.md a0 a1 a2 a3 a4 a5:=by
 unfold md Z273.md Z140.md
 rw [Z161.br]
 cases Z61.md a4<;>rfl
end Z274
namespace Z275
inductive Pt where
 | p0 (a b:aB) (c:Int)
def pid:Pt->Nat
 | .p0 ..=>4
def cu:Pt->List V
 | .p0 a b c=>[.sl none 3 a,.sl none 3 b,.int .i64 c]
def cR:Pt->List aW
 | .p0 a b c=>[]
def step (J:Pt->aI):Pt->aI
 | .p0 a b c=>(cond (c<(a.length:Int)) (m2 c (a.length:Int) (m2 c (b.length:Int) (cond ((kr a (toNat c)) != (kr b (toNat c))) dx (J (.p0 a b (i64.wrap (c+1))))))) gA)
def start (J:Pt->aI)(x0 x1:aB):aI:=(cond (x0.length != (x1.length:Int)) (ret false) (J (.p0 x0 x1 0)))
def live:Nat->Live:=fK [(4,gj [0,1,5])]
def pats:List gK:=[.rd (.sl 3),.rd (.sl 3)]
def res:RP:=.one (.rd (.bool))
abbrev E:Env:={ T:=assoc lC,G:=dK [],nt:=26 }
def step_eq (I:cJ)(p:Pt):dh E live I (pid p) (bI Tryz.f53) (fU (live (pid p)) (cu p) (cR p)) (cG E Tryz.f53 res)=step (fun q=>I (pid q) (cu q) (cR q)) p:=by
 cases p<;>kernel_rfl
def start_eq (I:cJ)(ls:List L):fH E live I (bI Tryz.f53) (dF pats ls) (cG E Tryz.f53 res)=start (fun q=>I (pid q) (cu q) (cR q)) (dc ls) (eR 1 ls):=by kernel_rfl
def run_eq (n:Nat)(ls:List L):eY E live Tryz.f53 res n (dF pats ls)=start (iter step n) (dc ls) (eR 1 ls):=cB (id:=pid) (vs:=cu) (hs:=cR) (step:=step) (start:=fun J=>start J (dc ls) (eR 1 ls)) step_eq (fun I=>start_eq I ls) n
def md (a0 a1:List Int):Bool:=eu a0 a1
def gd (a0 a1:List Int):Prop:=True
def acc (ls:List L):aB×aB:=((dc ls),(eR 1 ls))
def R:(aB×aB)->Option Bool:=cm gd md
def ak {a0 a1}(h:gd a0 a1):R ((a0.map bt),(a1.map bt))=some (md a0 a1):=cq h
def aT:gh:=CN pats res acc R
def aY (a0 a1:List Int)(hg:gd a0 a1)(h0:a0.length<=maxLen)(h1:a1.length<=maxLen):∃n,start (iter step n) (a0.map bt) (a1.map bt)=ret ((md a0 a1):Bool):=by
 unfold start md
 simp only [List.length_map]
 refine jo (pt:=fun i=>Pt.p0 (a0.map bt) (a1.map bt) (i:Int)) (fun hl J i h h2=>?_) (fun J=>?_)
 ·simp only [step,MM,List.length_map,aK h,aK h2,aD,aZ,cM,vf h,vf h2]
  rw [aH h h0]
  simp only [bne,gf,bool_beq,fM]
  cases eu a0[i] a1[i]<;>rfl
 ·simp only [step,List.length_map,eM,aX]
def af:cz 53 aT:=VV (run:=fun n x=>start (iter step n) x.1 x.2) mix aC .nil Tryz.func53 (by kernel_rfl) run_eq (fun ls a hl e hg=>aY a.1 a.2 hg (by have h:(dc ls).length<=maxLen:=hl.1.len;have e:a.1.map bt=(dc ls):=(congrArg (fun x=>x.1) e.symm);rw [<-e] at h;simpa using h) (by have h:(eR 1 ls).length<=maxLen:=hl.2.1.len;have e:a.2.map bt=(eR 1 ls):=(congrArg (fun x=>x.2) e.symm);rw [<-e] at h;simpa using h))
end Z275
namespace Z276
def F (x0 x1:dz):aI:=(call (Z275.R (x0.aO,x1.aO)) fun v1=>(cond (!v1) (ret false) (cond (x0.cO != x1.cO) (ret false) (ret true))))
def md (a0 a1:aR):Bool:=eu a0 a1
def gd (a0 a1:aR):Prop:=True
def R:=cm gd md
def ak {a0 a1}(h:gd a0 a1):R ((aR.r a0),(aR.r a1))=some (md a0 a1):=cq h
def aT:=CN [.agg jG,.agg jG] oB RT.dec R
def aY (a0)(a1)(hg:gd a0 a1):F (aR.r a0) (aR.r a1)=ret (md a0 a1):=by
 unfold md
 show (call (Z275.R ((a0.aO.map bt),(a1.aO.map bt))) fun v1=>(cond (!v1) dx (cond (a0.cO != a1.cO) dx gA)))=_
 simp only [call_eq (Z275.ak trivial),Z275.md]
 simp only [bne,gf,bool_beq,fM]
 have e:eu a0 a1=(eu a0.aO a1.aO&&(eu a0.cO a1.cO&&true)):=by
  cases a0;cases a1
  rw [Bool.eq_iff_iff]
  simp only [dm,Bool.and_eq_true,aR.mk.injEq,and_true]
 rw [e]
 refine ck fun _=>(ck fun _=>?_)
 rfl
def af:cz 279 aT:=W2 16 F mix aC aY (cD Z275.af) Tryz.func279
end Z276
namespace Z277
def F (x0 x1:dI):aI:=(cond (x0.bz != x1.bz) (ret false) (cond (x0.cU != x1.cU) (ret false) (cond (x0.bJ != x1.bJ) (ret false) (cond (x0.cT != x1.cT) (ret false) (cond (x0.cL != x1.cL) (ret false) (cond (x0.cE != x1.cE) (ret false) (cond (x0.dG != x1.dG) (ret false) (cond (x0.dY != x1.dY) (ret false) (call (Z276.R (x0.bU,x1.bU)) fun v1=>(cond (!v1) (ret false) (call (Z276.R (x0.bF,x1.bF)) fun v2=>(cond (!v2) (ret false) (cond (x0.dM != x1.dM) (ret false) (call (Z276.R (x0.bC,x1.bC)) fun v3=>(cond (!v3) (ret false) (cond (!(x0.bD==x1.bD)) (ret false) (ret true)))))))))))))))))
def md (a0 a1:aF):Bool:=eu a0 a1
def gd (a0 a1:aF):Prop:=True
def R:=cm gd md
def ak {a0 a1}(h:gd a0 a1):R ((aF.r a0),(aF.r a1))=some (md a0 a1):=cq h
def aT:=CN [.agg gH,.agg gH] oB RT.dec R
def aY (a0)(a1)(hg:gd a0 a1):F (aF.r a0) (aF.r a1)=ret (md a0 a1):=by
 unfold md
 show (bif (a0.bz != a1.bz) then dx else (bif (a0.cU != a1.cU) then dx else (bif (a0.bJ != a1.bJ) then dx else (bif (a0.cT != a1.cT) then dx else (bif (a0.cL != a1.cL) then dx else (bif (a0.cE != a1.cE) then dx else (bif (a0.dG != a1.dG) then dx else (bif (a0.dY != a1.dY) then dx else (call (Z276.R ((aR.r a0.bU),(aR.r a1.bU))) fun v1=>(bif (!v1) then dx else (call (Z276.R ((aR.r a0.bF),(aR.r a1.bF))) fun v2=>(bif (!v2) then dx else (bif (a0.dM != a1.dM) then dx else (call (Z276.R ((aR.r a0.bC),(aR.r a1.bC))) fun v3=>(cond (!v3) dx (cond (!(a0.bD==a1.bD)) dx gA))))))))))))))))=_
 simp only [call_eq (Z276.ak (a1:=a1.bU) trivial),Z276.md]
 simp only [call_eq (Z276.ak (a1:=a1.bF) trivial),Z276.md]
 simp only [call_eq (Z276.ak trivial),Z276.md]
 simp only [bne,gf,bool_beq,fM]
 have e:eu a0 a1=(eu a0.bz a1.bz&&(eu a0.cU a1.cU&&(eu a0.bJ a1.bJ&&(eu a0.cT a1.cT&&(eu a0.cL a1.cL&&(eu a0.cE a1.cE&&(eu a0.dG a1.dG&&(eu a0.dY a1.dY&&(eu a0.bU a1.bU&&(eu a0.bF a1.bF&&(eu a0.dM a1.dM&&(eu a0.bC a1.bC&&(eu a0.bD a1.bD&&true))))))))))))):=by
  cases a0;cases a1
  rw [Bool.eq_iff_iff]
  simp only [dm,Bool.and_eq_true,aF.mk.injEq,and_true]
 rw [e]
 refine ck fun _=>(ck fun _=>?_)
 refine ck fun _=>(ck fun _=>?_)
 refine ck fun _=>(ck fun _=>?_)
 refine ck fun _=>(ck fun _=>?_)
 refine ck fun _=>(ck fun _=>?_)
 refine ck fun _=>(ck fun _=>?_)
 refine ck fun _=>?_
 rfl
def af:cz 220 aT:=W2 73 F mix aC aY (cD Z276.af) Tryz.func220
end Z277
namespace Z278
def F (x0 x1:bn):aI:=(cond (x0.iD != x1.iD) (ret false) (cond (x0.ko != x1.ko) (ret false) (ret true)))
def md (a0 a1:bn):Bool:=eu a0 a1
def gd (a0 a1:bn):Prop:=True
def R:=cm gd md
def ak {a0 a1}(h:gd a0 a1):R (a0,a1)=some (md a0 a1):=cq h
def aT:=CN [.agg Aj,.agg Aj] oB RT.dec R
def aY (a0)(a1)(hg:gd a0 a1):F a0 a1=ret (md a0 a1):=by
 unfold md
 show (cond (a0.iD != a1.iD) dx (cond (a0.ko != a1.ko) dx gA))=_
 simp only [bne,gf,bool_beq,fM]
 have e:eu a0 a1=(eu a0.iD a1.iD&&(eu a0.ko a1.ko&&true)):=by
  cases a0;cases a1
  rw [Bool.eq_iff_iff]
  simp only [dm,Bool.and_eq_true,bn.mk.injEq,and_true]
 rw [e]
 refine ck fun _=>(ck fun _=>?_)
 rfl
def af:cz 280 aT:=W2 15 F mix aC aY .nil Tryz.func280
end Z278
namespace Z279
inductive Pt where
 | p0 (a b:aB) (c:Int)
def pid:Pt->Nat
 | .p0 ..=>4
def cu:Pt->List V
 | .p0 a b c=>[.sl none 227 a,.sl none 227 b,.int .i64 c]
def cR:Pt->List aW
 | .p0 a b c=>[]
def step (J:Pt->aI):Pt->aI
 | .p0 a b c=>(cond (c<(a.length:Int)) (m2 c (a.length:Int) (m2 c (b.length:Int) (call (Z278.R ((bn.at a (toNat c)),(bn.at b (toNat c)))) fun v1=>(cond (!v1) dx (J (.p0 a b (i64.wrap (c+1)))))))) gA)
def start (J:Pt->aI)(x0 x1:aB):aI:=(cond (x0.length != (x1.length:Int)) (ret false) (J (.p0 x0 x1 0)))
def live:Nat->Live:=fK [(4,gj [0,1,5])]
def pats:List gK:=[.rd (.sl 227),.rd (.sl 227)]
def res:RP:=.one (.rd (.bool))
abbrev E:Env:={ T:=assoc lC,G:=dK [(280,Z278.aT)],nt:=27 }
def step_eq (I:cJ)(p:Pt):dh E live I (pid p) (bI Tryz.f221) (fU (live (pid p)) (cu p) (cR p)) (cG E Tryz.f221 res)=step (fun q=>I (pid q) (cu q) (cR q)) p:=by
 cases p<;>kernel_rfl
def start_eq (I:cJ)(ls:List L):fH E live I (bI Tryz.f221) (dF pats ls) (cG E Tryz.f221 res)=start (fun q=>I (pid q) (cu q) (cR q)) (dc ls) (eR 1 ls):=by kernel_rfl
def run_eq (n:Nat)(ls:List L):eY E live Tryz.f221 res n (dF pats ls)=start (iter step n) (dc ls) (eR 1 ls):=cB (id:=pid) (vs:=cu) (hs:=cR) (step:=step) (start:=fun J=>start J (dc ls) (eR 1 ls)) step_eq (fun I=>start_eq I ls) n
def md (a0 a1:List bn):Bool:=eu a0 a1
def gd (a0 a1:List bn):Prop:=True
def acc (ls:List L):aB×aB:=((dc ls),(eR 1 ls))
def R:(aB×aB)->Option Bool:=cm gd md
def ak {a0 a1}(h:gd a0 a1):R ((a0.map bn.row),(a1.map bn.row))=some (md a0 a1):=cq h
def aT:gh:=CN pats res acc R
def aY (a0 a1:List bn)(hg:gd a0 a1)(h0:a0.length<=maxLen)(h1:a1.length<=maxLen):∃n,start (iter step n) (a0.map bn.row) (a1.map bn.row)=ret ((md a0 a1):Bool):=by
 unfold start md
 simp only [List.length_map]
 refine jo (pt:=fun i=>Pt.p0 (a0.map bn.row) (a1.map bn.row) (i:Int)) (fun hl J i h h2=>?_) (fun J=>?_)
 ·simp only [step,MM,List.length_map,aK h,aK h2,aD,aZ,cM,bn.eT h,bn.eT h2]
  rw [aH h h0]
  rw [call_eq (Z278.ak trivial),Z278.md]
  cases eu a0[i] a1[i]<;>rfl
 ·simp only [step,List.length_map,eM,aX]
def af:cz 221 aT:=VV (run:=fun n x=>start (iter step n) x.1 x.2) mix aC (cD Z278.af) Tryz.func221 (by kernel_rfl) run_eq (fun ls a hl e hg=>aY a.1 a.2 hg (by have h:(dc ls).length<=maxLen:=hl.1.len;have e:a.1.map bn.row=(dc ls):=(congrArg (fun x=>x.1) e.symm);rw [<-e] at h;simpa using h) (by have h:(eR 1 ls).length<=maxLen:=hl.2.1.len;have e:a.2.map bn.row=(eR 1 ls):=(congrArg (fun x=>x.2) e.symm);rw [<-e] at h;simpa using h))
end Z279
namespace Z280
def F (x0 x1:bf):aI:=(call (Z277.R (x0.an,x1.an)) fun v1=>(cond (!v1) (ret false) (call (Z279.R (x0.cP,x1.cP)) fun v2=>(cond (!v2) (ret false) (ret true)))))
def md (a0 a1:aa):Bool:=eu a0 a1
def gd (a0 a1:aa):Prop:=True
def R:=cm gd md
def ak {a0 a1}(h:gd a0 a1):R ((aa.r a0),(aa.r a1))=some (md a0 a1):=cq h
def aT:=CN [.agg lU,.agg lU] oB RT.dec R
def aY (a0)(a1)(hg:gd a0 a1):F (aa.r a0) (aa.r a1)=ret (md a0 a1):=by
 unfold md
 show (call (Z277.R ((aF.r a0.an),(aF.r a1.an))) fun v1=>(bif (!v1) then dx else (call (Z279.R ((a0.cP.map bn.row),(a1.cP.map bn.row))) fun v2=>(cond (!v2) dx gA))))=_
 simp only [call_eq (Z277.ak trivial),Z277.md]
 simp only [call_eq (Z279.ak trivial),Z279.md]
 have e:eu a0 a1=(eu a0.an a1.an&&(eu a0.cP a1.cP&&true)):=by
  cases a0;cases a1
  rw [Bool.eq_iff_iff]
  simp only [dm,Bool.and_eq_true,aa.mk.injEq,and_true]
 rw [e]
 refine ck fun _=>(ck fun _=>?_)
 rfl
def af:cz 164 aT:=W2 17 F mix aC aY (eP Z277.af Z279.af) Tryz.func164
end Z280
namespace Z281
inductive Pt where
 | p0 (a b:aB) (c:Int)
def pid:Pt->Nat
 | .p0 ..=>4
def cu:Pt->List V
 | .p0 a b c=>[.sl none 178 a,.sl none 178 b,.int .i64 c]
def cR:Pt->List aW
 | .p0 a b c=>[]
def step (J:Pt->aI):Pt->aI
 | .p0 a b c=>(cond (c<(a.length:Int)) (m2 c (a.length:Int) (m2 c (b.length:Int) (call (Z280.R ((bf.at a (toNat c)),(bf.at b (toNat c)))) fun v1=>(cond (!v1) dx (J (.p0 a b (i64.wrap (c+1)))))))) gA)
def start (J:Pt->aI)(x0 x1:aB):aI:=(cond (x0.length != (x1.length:Int)) (ret false) (J (.p0 x0 x1 0)))
def live:Nat->Live:=fK [(4,gj [0,1,5])]
def pats:List gK:=[.rd (.sl 178),.rd (.sl 178)]
def res:RP:=.one (.rd (.bool))
abbrev E:Env:={ T:=assoc lC,G:=dK [(164,Z280.aT)],nt:=27 }
def step_eq (I:cJ)(p:Pt):dh E live I (pid p) (bI Tryz.f114) (fU (live (pid p)) (cu p) (cR p)) (cG E Tryz.f114 res)=step (fun q=>I (pid q) (cu q) (cR q)) p:=by
 cases p<;>kernel_rfl
def start_eq (I:cJ)(ls:List L):fH E live I (bI Tryz.f114) (dF pats ls) (cG E Tryz.f114 res)=start (fun q=>I (pid q) (cu q) (cR q)) (dc ls) (eR 1 ls):=by kernel_rfl
def run_eq (n:Nat)(ls:List L):eY E live Tryz.f114 res n (dF pats ls)=start (iter step n) (dc ls) (eR 1 ls):=cB (id:=pid) (vs:=cu) (hs:=cR) (step:=step) (start:=fun J=>start J (dc ls) (eR 1 ls)) step_eq (fun I=>start_eq I ls) n
def md (a0 a1:List aa):Bool:=eu a0 a1
def gd (a0 a1:List aa):Prop:=True
def acc (ls:List L):aB×aB:=((dc ls),(eR 1 ls))
def R:(aB×aB)->Option Bool:=cm gd md
def ak {a0 a1}(h:gd a0 a1):R ((a0.map aa.row),(a1.map aa.row))=some (md a0 a1):=cq h
def aT:gh:=CN pats res acc R
def aY (a0 a1:List aa)(hg:gd a0 a1)(h0:a0.length<=maxLen)(h1:a1.length<=maxLen):∃n,start (iter step n) (a0.map aa.row) (a1.map aa.row)=ret ((md a0 a1):Bool):=by
 unfold start md
 simp only [List.length_map]
 refine jo (pt:=fun i=>Pt.p0 (a0.map aa.row) (a1.map aa.row) (i:Int)) (fun hl J i h h2=>?_) (fun J=>?_)
 ·simp only [step,MM,List.length_map,aK h,aK h2,aD,aZ,cM,aa.eT h,aa.eT h2]
  rw [aH h h0]
  rw [call_eq (Z280.ak trivial),Z280.md]
  cases eu a0[i] a1[i]<;>rfl
 ·simp only [step,List.length_map,eM,aX]
def af:cz 114 aT:=VV (run:=fun n x=>start (iter step n) x.1 x.2) mix aC (cD Z280.af) Tryz.func114 (by kernel_rfl) run_eq (fun ls a hl e hg=>aY a.1 a.2 hg (by have h:(dc ls).length<=maxLen:=hl.1.len;have e:a.1.map aa.row=(dc ls):=(congrArg (fun x=>x.1) e.symm);rw [<-e] at h;simpa using h) (by have h:(eR 1 ls).length<=maxLen:=hl.2.1.len;have e:a.2.map aa.row=(eR 1 ls):=(congrArg (fun x=>x.2) e.symm);rw [<-e] at h;simpa using h))
end Z281
namespace Z282
inductive Pt where
 | p0 (a b:aB) (c:Int)
def pid:Pt->Nat
 | .p0 ..=>4
def cu:Pt->List V
 | .p0 a b c=>[.sl none 120 a,.sl none 120 b,.int .i64 c]
def cR:Pt->List aW
 | .p0 a b c=>[]
def step (J:Pt->aI):Pt->aI
 | .p0 a b c=>(cond (c<(a.length:Int)) (m2 c (a.length:Int) (m2 c (b.length:Int) (call (Z281.R ((qi a (toNat c)),(qi b (toNat c)))) fun v1=>(cond (!v1) dx (J (.p0 a b (i64.wrap (c+1)))))))) gA)
def start (J:Pt->aI)(x0 x1:aB):aI:=(cond (x0.length != (x1.length:Int)) (ret false) (J (.p0 x0 x1 0)))
def live:Nat->Live:=fK [(4,gj [0,1,5])]
def pats:List gK:=[.rd (.sl 120),.rd (.sl 120)]
def res:RP:=.one (.rd (.bool))
abbrev E:Env:={ T:=assoc lC,G:=dK [(114,Z281.aT)],nt:=27 }
def step_eq (I:cJ)(p:Pt):dh E live I (pid p) (bI Tryz.f54) (fU (live (pid p)) (cu p) (cR p)) (cG E Tryz.f54 res)=step (fun q=>I (pid q) (cu q) (cR q)) p:=by
 cases p<;>kernel_rfl
def start_eq (I:cJ)(ls:List L):fH E live I (bI Tryz.f54) (dF pats ls) (cG E Tryz.f54 res)=start (fun q=>I (pid q) (cu q) (cR q)) (dc ls) (eR 1 ls):=by kernel_rfl
def run_eq (n:Nat)(ls:List L):eY E live Tryz.f54 res n (dF pats ls)=start (iter step n) (dc ls) (eR 1 ls):=cB (id:=pid) (vs:=cu) (hs:=cR) (step:=step) (start:=fun J=>start J (dc ls) (eR 1 ls)) step_eq (fun I=>start_eq I ls) n
def md (a0 a1:List (List aa)):Bool:=eu a0 a1
def gd (a0 a1:List (List aa)):Prop:=True
def acc (ls:List L):aB×aB:=((dc ls),(eR 1 ls))
def R:(aB×aB)->Option Bool:=cm gd md
def ak {a0 a1}(h:gd a0 a1):R ((a0.map (eK aa.row)),(a1.map (eK aa.row)))=some (md a0 a1):=cq h
def aT:gh:=CN pats res acc R
def aY (a0 a1:List (List aa))(hg:gd a0 a1)(h0:a0.length<=maxLen)(h1:a1.length<=maxLen):∃n,start (iter step n) (a0.map (eK aa.row)) (a1.map (eK aa.row))=ret ((md a0 a1):Bool):=by
 unfold start md
 simp only [List.length_map]
 refine jo (pt:=fun i=>Pt.p0 (a0.map (eK aa.row)) (a1.map (eK aa.row)) (i:Int)) (fun hl J i h h2=>?_) (fun J=>?_)
 ·simp only [step,MM,List.length_map,aK h,aK h2,aD,aZ,cM,ru h,ru h2]
  rw [aH h h0]
  rw [call_eq (Z281.ak trivial),Z281.md]
  cases eu a0[i] a1[i]<;>rfl
 ·simp only [step,List.length_map,eM,aX]
def af:cz 54 aT:=VV (run:=fun n x=>start (iter step n) x.1 x.2) mix aC (cD Z281.af) Tryz.func54 (by kernel_rfl) run_eq (fun ls a hl e hg=>aY a.1 a.2 hg (by have h:(dc ls).length<=maxLen:=hl.1.len;have e:a.1.map (eK aa.row)=(dc ls):=(congrArg (fun x=>x.1) e.symm);rw [<-e] at h;simpa using h) (by have h:(eR 1 ls).length<=maxLen:=hl.2.1.len;have e:a.2.map (eK aa.row)=(eR 1 ls):=(congrArg (fun x=>x.2) e.symm);rw [<-e] at h;simpa using h))
end Z282
namespace Z283
def F (x0 x1:bO):aI:=(call (Z280.R (x0.aN,x1.aN)) fun v1=>(cond (!v1) (ret false) (call (Z280.R (x0.fA,x1.fA)) fun v2=>(cond (!v2) (ret false) (call (Z280.R (x0.fB,x1.fB)) fun v3=>(cond (!v3) (ret false) (ret true)))))))
def md (a0 a1:aG):Bool:=eu a0 a1
def gd (a0 a1:aG):Prop:=True
def R:=cm gd md
def ak {a0 a1}(h:gd a0 a1):R ((aG.r a0),(aG.r a1))=some (md a0 a1):=cq h
def aT:=CN [.agg uS,.agg uS] oB RT.dec R
def aY (a0)(a1)(hg:gd a0 a1):F (aG.r a0) (aG.r a1)=ret (md a0 a1):=by
 unfold md
 show (call (Z280.R ((aa.r a0.aN),(aa.r a1.aN))) fun v1=>(bif (!v1) then dx else (call (Z280.R ((aa.r a0.fA),(aa.r a1.fA))) fun v2=>(bif (!v2) then dx else (call (Z280.R ((aa.r a0.fB),(aa.r a1.fB))) fun v3=>(cond (!v3) dx gA))))))=_
 simp only [call_eq (Z280.ak (a1:=a1.aN) trivial),Z280.md]
 simp only [call_eq (Z280.ak (a1:=a1.fA) trivial),Z280.md]
 simp only [call_eq (Z280.ak trivial),Z280.md]
 have e:eu a0 a1=(eu a0.aN a1.aN&&(eu a0.fA a1.fA&&(eu a0.fB a1.fB&&true))):=by
  cases a0;cases a1
  rw [Bool.eq_iff_iff]
  simp only [dm,Bool.and_eq_true,aG.mk.injEq,and_true]
 rw [e]
 refine ck fun _=>(ck fun _=>?_)
 refine ck fun _=>?_
 rfl
def af:cz 115 aT:=W2 23 F mix aC aY (cD Z280.af) Tryz.func115
end Z283
namespace Z284
inductive Pt where
 | p0 (a b:aB) (c:Int)
def pid:Pt->Nat
 | .p0 ..=>4
def cu:Pt->List V
 | .p0 a b c=>[.sl none 180 a,.sl none 180 b,.int .i64 c]
def cR:Pt->List aW
 | .p0 a b c=>[]
def step (J:Pt->aI):Pt->aI
 | .p0 a b c=>(cond (c<(a.length:Int)) (m2 c (a.length:Int) (m2 c (b.length:Int) (call (Z283.R ((bO.at a (toNat c)),(bO.at b (toNat c)))) fun v1=>(cond (!v1) dx (J (.p0 a b (i64.wrap (c+1)))))))) gA)
def start (J:Pt->aI)(x0 x1:aB):aI:=(cond (x0.length != (x1.length:Int)) (ret false) (J (.p0 x0 x1 0)))
def live:Nat->Live:=fK [(4,gj [0,1,5])]
def pats:List gK:=[.rd (.sl 180),.rd (.sl 180)]
def res:RP:=.one (.rd (.bool))
abbrev E:Env:={ T:=assoc lC,G:=dK [(115,Z283.aT)],nt:=27 }
def step_eq (I:cJ)(p:Pt):dh E live I (pid p) (bI Tryz.f55) (fU (live (pid p)) (cu p) (cR p)) (cG E Tryz.f55 res)=step (fun q=>I (pid q) (cu q) (cR q)) p:=by
 cases p<;>kernel_rfl
def start_eq (I:cJ)(ls:List L):fH E live I (bI Tryz.f55) (dF pats ls) (cG E Tryz.f55 res)=start (fun q=>I (pid q) (cu q) (cR q)) (dc ls) (eR 1 ls):=by kernel_rfl
def run_eq (n:Nat)(ls:List L):eY E live Tryz.f55 res n (dF pats ls)=start (iter step n) (dc ls) (eR 1 ls):=cB (id:=pid) (vs:=cu) (hs:=cR) (step:=step) (start:=fun J=>start J (dc ls) (eR 1 ls)) step_eq (fun I=>start_eq I ls) n
def md (a0 a1:List aG):Bool:=eu a0 a1
def gd (a0 a1:List aG):Prop:=True
def acc (ls:List L):aB×aB:=((dc ls),(eR 1 ls))
def R:(aB×aB)->Option Bool:=cm gd md
def ak {a0 a1}(h:gd a0 a1):R ((a0.map aG.row),(a1.map aG.row))=some (md a0 a1):=cq h
def aT:gh:=CN pats res acc R
def aY (a0 a1:List aG)(hg:gd a0 a1)(h0:a0.length<=maxLen)(h1:a1.length<=maxLen):∃n,start (iter step n) (a0.map aG.row) (a1.map aG.row)=ret ((md a0 a1):Bool):=by
 unfold start md
 simp only [List.length_map]
 refine jo (pt:=fun i=>Pt.p0 (a0.map aG.row) (a1.map aG.row) (i:Int)) (fun hl J i h h2=>?_) (fun J=>?_)
 ·simp only [step,MM,List.length_map,aK h,aK h2,aD,aZ,cM,aG.eT h,aG.eT h2]
  rw [aH h h0]
  rw [call_eq (Z283.ak trivial),Z283.md]
  cases eu a0[i] a1[i]<;>rfl
 ·simp only [step,List.length_map,eM,aX]
def af:cz 55 aT:=VV (run:=fun n x=>start (iter step n) x.1 x.2) mix aC (cD Z283.af) Tryz.func55 (by kernel_rfl) run_eq (fun ls a hl e hg=>aY a.1 a.2 hg (by have h:(dc ls).length<=maxLen:=hl.1.len;have e:a.1.map aG.row=(dc ls):=(congrArg (fun x=>x.1) e.symm);rw [<-e] at h;simpa using h) (by have h:(eR 1 ls).length<=maxLen:=hl.2.1.len;have e:a.2.map aG.row=(eR 1 ls):=(congrArg (fun x=>x.2) e.symm);rw [<-e] at h;simpa using h))
end Z284
namespace Z285
def F (x0 x1:bA):aI:=(call (Z282.R (x0.aM,x1.aM)) fun v1=>(cond (!v1) (ret false) (call (Z284.R (x0.bu,x1.bu)) fun v2=>(cond (!v2) (ret false) (ret true)))))
def md (a0 a1:aA):Bool:=eu a0 a1
def gd (a0 a1:aA):Prop:=True
def R:=cm gd md
def ak {a0 a1}(h:gd a0 a1):R ((aA.r a0),(aA.r a1))=some (md a0 a1):=cq h
def aT:=CN [.agg xg,.agg xg] oB RT.dec R
def aY (a0)(a1)(hg:gd a0 a1):F (aA.r a0) (aA.r a1)=ret (md a0 a1):=by
 unfold md
 show (call (Z282.R ((a0.aM.map (eK aa.row)),(a1.aM.map (eK aa.row)))) fun v1=>(bif (!v1) then dx else (call (Z284.R ((a0.bu.map aG.row),(a1.bu.map aG.row))) fun v2=>(cond (!v2) dx gA))))=_
 simp only [call_eq (Z282.ak trivial),Z282.md]
 simp only [call_eq (Z284.ak trivial),Z284.md]
 have e:eu a0 a1=(eu a0.aM a1.aM&&(eu a0.bu a1.bu&&true)):=by
  cases a0;cases a1
  rw [Bool.eq_iff_iff]
  simp only [dm,Bool.and_eq_true,aA.mk.injEq,and_true]
 rw [e]
 refine ck fun _=>(ck fun _=>?_)
 rfl
def af:cz 17 aT:=W2 17 F mix aC aY (eP Z282.af Z284.af) Tryz.func17
end Z285
namespace Z286
inductive Pt where
 | p0 (a b:aB) (c:Int)
def pid:Pt->Nat
 | .p0 ..=>4
def cu:Pt->List V
 | .p0 a b c=>[.sl none 9 a,.sl none 9 b,.int .i64 c]
def cR:Pt->List aW
 | .p0 a b c=>[]
def step (J:Pt->aI):Pt->aI
 | .p0 a b c=>(cond (c<(a.length:Int)) (m2 c (a.length:Int) (m2 c (b.length:Int) (cond (!((qS a (toNat c))==(qS b (toNat c)))) dx (J (.p0 a b (i64.wrap (c+1))))))) gA)
def start (J:Pt->aI)(x0 x1:aB):aI:=(cond (x0.length != (x1.length:Int)) (ret false) (J (.p0 x0 x1 0)))
def live:Nat->Live:=fK [(4,gj [0,1,5])]
def pats:List gK:=[.rd (.sl 9),.rd (.sl 9)]
def res:RP:=.one (.rd (.bool))
abbrev E:Env:={ T:=assoc lC,G:=dK [],nt:=26 }
def step_eq (I:cJ)(p:Pt):dh E live I (pid p) (bI Tryz.f19) (fU (live (pid p)) (cu p) (cR p)) (cG E Tryz.f19 res)=step (fun q=>I (pid q) (cu q) (cR q)) p:=by
 cases p<;>kernel_rfl
def start_eq (I:cJ)(ls:List L):fH E live I (bI Tryz.f19) (dF pats ls) (cG E Tryz.f19 res)=start (fun q=>I (pid q) (cu q) (cR q)) (dc ls) (eR 1 ls):=by kernel_rfl
def run_eq (n:Nat)(ls:List L):eY E live Tryz.f19 res n (dF pats ls)=start (iter step n) (dc ls) (eR 1 ls):=cB (id:=pid) (vs:=cu) (hs:=cR) (step:=step) (start:=fun J=>start J (dc ls) (eR 1 ls)) step_eq (fun I=>start_eq I ls) n
def md (a0 a1:List aE):Bool:=eu a0 a1
def gd (a0 a1:List aE):Prop:=True
def acc (ls:List L):aB×aB:=((dc ls),(eR 1 ls))
def R:(aB×aB)->Option Bool:=cm gd md
def ak {a0 a1}(h:gd a0 a1):R ((a0.map cX),(a1.map cX))=some (md a0 a1):=cq h
def aT:gh:=CN pats res acc R
def aY (a0 a1:List aE)(hg:gd a0 a1)(h0:a0.length<=maxLen)(h1:a1.length<=maxLen):∃n,start (iter step n) (a0.map cX) (a1.map cX)=ret ((md a0 a1):Bool):=by
 unfold start md
 simp only [List.length_map]
 refine jo (pt:=fun i=>Pt.p0 (a0.map cX) (a1.map cX) (i:Int)) (fun hl J i h h2=>?_) (fun J=>?_)
 ·simp only [step,MM,List.length_map,aK h,aK h2,aD,aZ,cM,rj h,rj h2]
  rw [aH h h0]
  simp only [bne,gf,bool_beq,fM]
  cases eu a0[i] a1[i]<;>rfl
 ·simp only [step,List.length_map,eM,aX]
def af:cz 19 aT:=VV (run:=fun n x=>start (iter step n) x.1 x.2) mix aC .nil Tryz.func19 (by kernel_rfl) run_eq (fun ls a hl e hg=>aY a.1 a.2 hg (by have h:(dc ls).length<=maxLen:=hl.1.len;have e:a.1.map cX=(dc ls):=(congrArg (fun x=>x.1) e.symm);rw [<-e] at h;simpa using h) (by have h:(eR 1 ls).length<=maxLen:=hl.2.1.len;have e:a.2.map cX=(eR 1 ls):=(congrArg (fun x=>x.2) e.symm);rw [<-e] at h;simpa using h))
end Z286
namespace Z287
def F (x0 x1:bK):aI:=(cond (!(x0.aV==x1.aV)) (ret false) (cond (x0.bJ != x1.bJ) (ret false) (cond (x0.bX != x1.bX) (ret false) (call (Z286.R (x0.bh,x1.bh)) fun v1=>(cond (!v1) (ret false) (ret true))))))
def md (a0 a1:ah):Bool:=eu a0 a1
def gd (a0 a1:ah):Prop:=True
def R:=cm gd md
def ak {a0 a1}(h:gd a0 a1):R ((ah.r a0),(ah.r a1))=some (md a0 a1):=cq h
def aT:=CN [.agg tw,.agg tw] oB RT.dec R
def aY (a0)(a1)(hg:gd a0 a1):F (ah.r a0) (ah.r a1)=ret (md a0 a1):=by
 unfold md
 show (bif (!(a0.aV==a1.aV)) then dx else (bif (a0.bJ != a1.bJ) then dx else (bif (a0.bX != a1.bX) then dx else (call (Z286.R ((a0.bh.map cX),(a1.bh.map cX))) fun v1=>(cond (!v1) dx gA)))))=_
 simp only [call_eq (Z286.ak trivial),Z286.md]
 simp only [bne,gf,bool_beq,fM]
 have e:eu a0 a1=(eu a0.aV a1.aV&&(eu a0.bJ a1.bJ&&(eu a0.bX a1.bX&&(eu a0.bh a1.bh&&true)))):=by
  cases a0;cases a1
  rw [Bool.eq_iff_iff]
  simp only [dm,Bool.and_eq_true,ah.mk.injEq,and_true]
 rw [e]
 refine ck fun _=>(ck fun _=>?_)
 refine ck fun _=>(ck fun _=>?_)
 rfl
def af:cz 52 aT:=W2 26 F mix aC aY (cD Z286.af) Tryz.func52
end Z287
namespace Z288
def F (x0 x1:dU):aI:=(call (Z285.R (x0.cg,x1.cg)) fun v1=>(cond (!v1) (ret false) (cond (x0.ij != x1.ij) (ret false) (call (Z287.R (x0.aS,x1.aS)) fun v2=>(cond (!v2) (ret false) (call (Z275.R (x0.bM,x1.bM)) fun v3=>(cond (!v3) (ret false) (cond (x0.fV != x1.fV) (ret false) (ret true)))))))))
def md (a0 a1:bH):Bool:=eu a0 a1
def gd (a0 a1:bH):Prop:=True
def R:=cm gd md
def ak {a0 a1}(h:gd a0 a1):R ((bH.r a0),(bH.r a1))=some (md a0 a1):=cq h
def aT:=CN [.agg C5,.agg C5] oB RT.dec R
def aY (a0)(a1)(hg:gd a0 a1):F (bH.r a0) (bH.r a1)=ret (md a0 a1):=by
 unfold md
 show (call (Z285.R ((aA.r a0.cg),(aA.r a1.cg))) fun v1=>(bif (!v1) then dx else (bif (a0.ij != a1.ij) then dx else (call (Z287.R ((ah.r a0.aS),(ah.r a1.aS))) fun v2=>(bif (!v2) then dx else (call (Z275.R ((a0.bM.map bt),(a1.bM.map bt))) fun v3=>(cond (!v3) dx (cond (a0.fV != a1.fV) dx gA))))))))=_
 simp only [call_eq (Z285.ak trivial),Z285.md]
 simp only [call_eq (Z287.ak trivial),Z287.md]
 simp only [call_eq (Z275.ak trivial),Z275.md]
 simp only [bne,gf,bool_beq,fM]
 have e:eu a0 a1=(eu a0.cg a1.cg&&(eu a0.ij a1.ij&&(eu a0.aS a1.aS&&(eu a0.bM a1.bM&&(eu a0.fV a1.fV&&true))))):=by
  cases a0;cases a1
  rw [Bool.eq_iff_iff]
  simp only [dm,Bool.and_eq_true,bH.mk.injEq,and_true]
 rw [e]
 refine ck fun _=>(ck fun _=>?_)
 refine ck fun _=>(ck fun _=>?_)
 refine ck fun _=>?_
 rfl
def af:cz 16 aT:=W2 33 F mix aC aY (kC Z285.af Z287.af Z275.af) Tryz.func16
end Z288
namespace Z289
def F (x0 x1:dX):aI:=(cond (x0.eG != x1.eG) (ret false) (call (Z275.R (x0.bh,x1.bh)) fun v1=>(cond (!v1) (ret false) (ret true))))
def md (a0 a1:aL):Bool:=eu a0 a1
def gd (a0 a1:aL):Prop:=True
def R:=cm gd md
def ak {a0 a1}(h:gd a0 a1):R ((aL.r a0),(aL.r a1))=some (md a0 a1):=cq h
def aT:=CN [.agg pP,.agg pP] oB RT.dec R
def aY (a0)(a1)(hg:gd a0 a1):F (aL.r a0) (aL.r a1)=ret (md a0 a1):=by
 unfold md
 show (bif (a0.eG != a1.eG) then dx else (call (Z275.R ((a0.bh.map bt),(a1.bh.map bt))) fun v1=>(cond (!v1) dx gA)))=_
 simp only [call_eq (Z275.ak trivial),Z275.md]
 simp only [bne,gf,bool_beq,fM]
 have e:eu a0 a1=(eu a0.eG a1.eG&&(eu a0.bh a1.bh&&true)):=by
  cases a0;cases a1
  rw [Bool.eq_iff_iff]
  simp only [dm,Bool.and_eq_true,aL.mk.injEq,and_true]
 rw [e]
 refine ck fun _=>(ck fun _=>?_)
 rfl
def af:cz 222 aT:=W2 16 F mix aC aY (cD Z275.af) Tryz.func222
end Z289
namespace Z290
def F (x0 x1:ff):aI:=(cond (x0.eG != x1.eG) (ret false) (call (Z287.R (x0.aN,x1.aN)) fun v1=>(cond (!v1) (ret false) (call (Z287.R (x0.bT,x1.bT)) fun v2=>(cond (!v2) (ret false) (call (Z289.R (x0.dN,x1.dN)) fun v3=>(cond (!v3) (ret false) (call (Z289.R (x0.cA,x1.cA)) fun v4=>(cond (!v4) (ret false) (ret true))))))))))
def md (a0 a1:bL):Bool:=eu a0 a1
def gd (a0 a1:bL):Prop:=True
def R:=cm gd md
def ak {a0 a1}(h:gd a0 a1):R ((bL.r a0),(bL.r a1))=some (md a0 a1):=cq h
def aT:=CN [.agg sQ,.agg sQ] oB RT.dec R
def aY (a0)(a1)(hg:gd a0 a1):F (bL.r a0) (bL.r a1)=ret (md a0 a1):=by
 unfold md
 show (bif (a0.eG != a1.eG) then dx else (call (Z287.R ((ah.r a0.aN),(ah.r a1.aN))) fun v1=>(bif (!v1) then dx else (call (Z287.R ((ah.r a0.bT),(ah.r a1.bT))) fun v2=>(bif (!v2) then dx else (call (Z289.R ((aL.r a0.dN),(aL.r a1.dN))) fun v3=>(bif (!v3) then dx else (call (Z289.R ((aL.r a0.cA),(aL.r a1.cA))) fun v4=>(cond (!v4) dx gA)))))))))=_
 simp only [call_eq (Z287.ak (a1:=a1.aN) trivial),Z287.md]
 simp only [call_eq (Z287.ak trivial),Z287.md]
 simp only [call_eq (Z289.ak (a1:=a1.dN) trivial),Z289.md]
 simp only [call_eq (Z289.ak trivial),Z289.md]
 simp only [bne,gf,bool_beq,fM]
 have e:eu a0 a1=(eu a0.eG a1.eG&&(eu a0.aN a1.aN&&(eu a0.bT a1.bT&&(eu a0.dN a1.dN&&(eu a0.cA a1.cA&&true))))):=by
  cases a0;cases a1
  rw [Bool.eq_iff_iff]
  simp only [dm,Bool.and_eq_true,bL.mk.injEq,and_true]
 rw [e]
 refine ck fun _=>(ck fun _=>?_)
 refine ck fun _=>(ck fun _=>?_)
 refine ck fun _=>?_
 rfl
def af:cz 223 aT:=W2 34 F mix aC aY (eP Z287.af Z289.af) Tryz.func223
end Z290
namespace Z291
def F (x0 x1:bq):aI:=(call (Z281.R (x0.aQ,x1.aQ)) fun v1=>(cond (!v1) (ret false) (cond (!(x0.cj==x1.cj)) (ret false) (call (Z287.R (x0.aS,x1.aS)) fun v2=>(cond (!v2) (ret false) (call (Z289.R (x0.dy,x1.dy)) fun v3=>(cond (!v3) (ret false) (call (Z290.R (x0.dA,x1.dA)) fun v4=>(cond (!v4) (ret false) (ret true))))))))))
def md (a0 a1:aq):Bool:=eu a0 a1
def gd (a0 a1:aq):Prop:=True
def R:=cm gd md
def ak {a0 a1}(h:gd a0 a1):R ((aq.r a0),(aq.r a1))=some (md a0 a1):=cq h
def aT:=CN [.agg sn,.agg sn] oB RT.dec R
def aY (a0)(a1)(hg:gd a0 a1):F (aq.r a0) (aq.r a1)=ret (md a0 a1):=by
 unfold md
 show (call (Z281.R ((a0.aQ.map aa.row),(a1.aQ.map aa.row))) fun v1=>(bif (!v1) then dx else (bif (!(a0.cj==a1.cj)) then dx else (call (Z287.R ((ah.r a0.aS),(ah.r a1.aS))) fun v2=>(bif (!v2) then dx else (call (Z289.R ((aL.r a0.dy),(aL.r a1.dy))) fun v3=>(bif (!v3) then dx else (call (Z290.R ((bL.r a0.dA),(bL.r a1.dA))) fun v4=>(cond (!v4) dx gA)))))))))=_
 simp only [call_eq (Z281.ak trivial),Z281.md]
 simp only [call_eq (Z287.ak trivial),Z287.md]
 simp only [call_eq (Z289.ak trivial),Z289.md]
 simp only [call_eq (Z290.ak trivial),Z290.md]
 simp only [bne,gf,bool_beq,fM]
 have e:eu a0 a1=(eu a0.aQ a1.aQ&&(eu a0.cj a1.cj&&(eu a0.aS a1.aS&&(eu a0.dy a1.dy&&(eu a0.dA a1.dA&&true))))):=by
  cases a0;cases a1
  rw [Bool.eq_iff_iff]
  simp only [dm,Bool.and_eq_true,aq.mk.injEq,and_true]
 rw [e]
 refine ck fun _=>(ck fun _=>?_)
 refine ck fun _=>(ck fun _=>?_)
 refine ck fun _=>?_
 rfl
def af:cz 165 aT:=W2 34 F mix aC aY (kE Z281.af Z287.af Z289.af Z290.af) Tryz.func165
end Z291
namespace Z292
def F (x0 x1:bP):aI:=(cond (x0.bz != x1.bz) (ret false) (cond (!(x0.aV==x1.aV)) (ret false) (call (Z291.R (x0.bk,x1.bk)) fun v1=>(cond (!v1) (ret false) (ret true)))))
def md (a0 a1:av):Bool:=eu a0 a1
def gd (a0 a1:av):Prop:=True
def R:=cm gd md
def ak {a0 a1}(h:gd a0 a1):R ((av.r a0),(av.r a1))=some (md a0 a1):=cq h
def aT:=CN [.agg AS,.agg AS] oB RT.dec R
def aY (a0)(a1)(hg:gd a0 a1):F (av.r a0) (av.r a1)=ret (md a0 a1):=by
 unfold md
 show (bif (a0.bz != a1.bz) then dx else (bif (!(a0.aV==a1.aV)) then dx else (call (Z291.R ((aq.r a0.bk),(aq.r a1.bk))) fun v1=>(cond (!v1) dx gA))))=_
 simp only [call_eq (Z291.ak trivial),Z291.md]
 simp only [bne,gf,bool_beq,fM]
 have e:eu a0 a1=(eu a0.bz a1.bz&&(eu a0.aV a1.aV&&(eu a0.bk a1.bk&&true))):=by
  cases a0;cases a1
  rw [Bool.eq_iff_iff]
  simp only [dm,Bool.and_eq_true,av.mk.injEq,and_true]
 rw [e]
 refine ck fun _=>(ck fun _=>?_)
 refine ck fun _=>?_
 rfl
def af:cz 116 aT:=W2 21 F mix aC aY (cD Z291.af) Tryz.func116
end Z292
namespace Z293
inductive Pt where
 | p0 (a b:aB) (c:Int)
def pid:Pt->Nat
 | .p0 ..=>4
def cu:Pt->List V
 | .p0 a b c=>[.sl none 148 a,.sl none 148 b,.int .i64 c]
def cR:Pt->List aW
 | .p0 a b c=>[]
def step (J:Pt->aI):Pt->aI
 | .p0 a b c=>(cond (c<(a.length:Int)) (m2 c (a.length:Int) (m2 c (b.length:Int) (call (Z292.R ((bP.at a (toNat c)),(bP.at b (toNat c)))) fun v1=>(cond (!v1) dx (J (.p0 a b (i64.wrap (c+1)))))))) gA)
def start (J:Pt->aI)(x0 x1:aB):aI:=(cond (x0.length != (x1.length:Int)) (ret false) (J (.p0 x0 x1 0)))
def live:Nat->Live:=fK [(4,gj [0,1,5])]
def pats:List gK:=[.rd (.sl 148),.rd (.sl 148)]
def res:RP:=.one (.rd (.bool))
abbrev E:Env:={ T:=assoc lC,G:=dK [(116,Z292.aT)],nt:=27 }
def step_eq (I:cJ)(p:Pt):dh E live I (pid p) (bI Tryz.f56) (fU (live (pid p)) (cu p) (cR p)) (cG E Tryz.f56 res)=step (fun q=>I (pid q) (cu q) (cR q)) p:=by
 cases p<;>kernel_rfl
def start_eq (I:cJ)(ls:List L):fH E live I (bI Tryz.f56) (dF pats ls) (cG E Tryz.f56 res)=start (fun q=>I (pid q) (cu q) (cR q)) (dc ls) (eR 1 ls):=by kernel_rfl
def run_eq (n:Nat)(ls:List L):eY E live Tryz.f56 res n (dF pats ls)=start (iter step n) (dc ls) (eR 1 ls):=cB (id:=pid) (vs:=cu) (hs:=cR) (step:=step) (start:=fun J=>start J (dc ls) (eR 1 ls)) step_eq (fun I=>start_eq I ls) n
def md (a0 a1:List av):Bool:=eu a0 a1
def gd (a0 a1:List av):Prop:=True
def acc (ls:List L):aB×aB:=((dc ls),(eR 1 ls))
def R:(aB×aB)->Option Bool:=cm gd md
def ak {a0 a1}(h:gd a0 a1):R ((a0.map av.row),(a1.map av.row))=some (md a0 a1):=cq h
def aT:gh:=CN pats res acc R
def aY (a0 a1:List av)(hg:gd a0 a1)(h0:a0.length<=maxLen)(h1:a1.length<=maxLen):∃n,start (iter step n) (a0.map av.row) (a1.map av.row)=ret ((md a0 a1):Bool):=by
 unfold start md
 simp only [List.length_map]
 refine jo (pt:=fun i=>Pt.p0 (a0.map av.row) (a1.map av.row) (i:Int)) (fun hl J i h h2=>?_) (fun J=>?_)
 ·simp only [step,MM,List.length_map,aK h,aK h2,aD,aZ,cM,av.eT h,av.eT h2]
  rw [aH h h0]
  rw [call_eq (Z292.ak trivial),Z292.md]
  cases eu a0[i] a1[i]<;>rfl
 ·simp only [step,List.length_map,eM,aX]
def af:cz 56 aT:=VV (run:=fun n x=>start (iter step n) x.1 x.2) mix aC (cD Z292.af) Tryz.func56 (by kernel_rfl) run_eq (fun ls a hl e hg=>aY a.1 a.2 hg (by have h:(dc ls).length<=maxLen:=hl.1.len;have e:a.1.map av.row=(dc ls):=(congrArg (fun x=>x.1) e.symm);rw [<-e] at h;simpa using h) (by have h:(eR 1 ls).length<=maxLen:=hl.2.1.len;have e:a.2.map av.row=(eR 1 ls):=(congrArg (fun x=>x.2) e.symm);rw [<-e] at h;simpa using h))
end Z293
namespace Z294
def F (x0 x1:cH):aI:=(call (Z293.R (x0.aO,x1.aO)) fun v1=>(cond (!v1) (ret false) (ret true)))
def md (a0 a1:aJ):Bool:=eu a0 a1
def gd (a0 a1:aJ):Prop:=True
def R:=cm gd md
def ak {a0 a1}(h:gd a0 a1):R ((aJ.r a0),(aJ.r a1))=some (md a0 a1):=cq h
def aT:=CN [.agg zh,.agg zh] oB RT.dec R
def aY (a0)(a1)(hg:gd a0 a1):F (aJ.r a0) (aJ.r a1)=ret (md a0 a1):=by
 unfold md
 show (call (Z293.R ((a0.aO.map av.row),(a1.aO.map av.row))) fun v1=>(cond (!v1) dx gA))=_
 simp only [call_eq (Z293.ak trivial),Z293.md]
 have e:eu a0 a1=(eu a0.aO a1.aO&&true):=by
  cases a0;cases a1
  rw [Bool.eq_iff_iff]
  simp only [dm,Bool.and_eq_true,aJ.mk.injEq,and_true]
 rw [e]
 refine ck fun _=>?_
 rfl
def af:cz 18 aT:=W2 11 F mix aC aY (cD Z293.af) Tryz.func18
end Z294
namespace Z295
def F (x0 x1:eB):aI:=(call (Z288.R (x0.cN,x1.cN)) fun v1=>(cond (!v1) (ret false) (call (Z294.R (x0.gD,x1.gD)) fun v2=>(cond (!v2) (ret false) (ret true)))))
def md (a0 a1:cK):Bool:=eu a0 a1
def gd (a0 a1:cK):Prop:=True
def R:=cm gd md
def ak {a0 a1}(h:gd a0 a1):R ((cK.r a0),(cK.r a1))=some (md a0 a1):=cq h
def aT:=CN [.agg C6,.agg C6] oB RT.dec R
def aY (a0)(a1)(hg:gd a0 a1):F (cK.r a0) (cK.r a1)=ret (md a0 a1):=by
 unfold md
 show (call (Z288.R ((bH.r a0.cN),(bH.r a1.cN))) fun v1=>(bif (!v1) then dx else (call (Z294.R ((aJ.r a0.gD),(aJ.r a1.gD))) fun v2=>(cond (!v2) dx gA))))=_
 simp only [call_eq (Z288.ak trivial),Z288.md]
 simp only [call_eq (Z294.ak trivial),Z294.md]
 have e:eu a0 a1=(eu a0.cN a1.cN&&(eu a0.gD a1.gD&&true)):=by
  cases a0;cases a1
  rw [Bool.eq_iff_iff]
  simp only [dm,Bool.and_eq_true,cK.mk.injEq,and_true]
 rw [e]
 refine ck fun _=>(ck fun _=>?_)
 rfl
def af:cz 36 aT:=W2 17 F mix aC aY (eP Z288.af Z294.af) Tryz.func36
end Z295
namespace Z296
inductive Pt where
 | p0 (a b:aB) (c:Int)
def pid:Pt->Nat
 | .p0 ..=>4
def cu:Pt->List V
 | .p0 a b c=>[.sl none 38 a,.sl none 38 b,.int .i64 c]
def cR:Pt->List aW
 | .p0 a b c=>[]
def step (J:Pt->aI):Pt->aI
 | .p0 a b c=>(cond (c<(a.length:Int)) (m2 c (a.length:Int) (m2 c (b.length:Int) (call (Z287.R ((bK.at a (toNat c)),(bK.at b (toNat c)))) fun v1=>(cond (!v1) dx (J (.p0 a b (i64.wrap (c+1)))))))) gA)
def start (J:Pt->aI)(x0 x1:aB):aI:=(cond (x0.length != (x1.length:Int)) (ret false) (J (.p0 x0 x1 0)))
def live:Nat->Live:=fK [(4,gj [0,1,5])]
def pats:List gK:=[.rd (.sl 38),.rd (.sl 38)]
def res:RP:=.one (.rd (.bool))
abbrev E:Env:={ T:=assoc lC,G:=dK [(52,Z287.aT)],nt:=27 }
def step_eq (I:cJ)(p:Pt):dh E live I (pid p) (bI Tryz.f257) (fU (live (pid p)) (cu p) (cR p)) (cG E Tryz.f257 res)=step (fun q=>I (pid q) (cu q) (cR q)) p:=by
 cases p<;>kernel_rfl
def start_eq (I:cJ)(ls:List L):fH E live I (bI Tryz.f257) (dF pats ls) (cG E Tryz.f257 res)=start (fun q=>I (pid q) (cu q) (cR q)) (dc ls) (eR 1 ls):=by kernel_rfl
def run_eq (n:Nat)(ls:List L):eY E live Tryz.f257 res n (dF pats ls)=start (iter step n) (dc ls) (eR 1 ls):=cB (id:=pid) (vs:=cu) (hs:=cR) (step:=step) (start:=fun J=>start J (dc ls) (eR 1 ls)) step_eq (fun I=>start_eq I ls) n
def md (a0 a1:List ah):Bool:=eu a0 a1
def gd (a0 a1:List ah):Prop:=True
def acc (ls:List L):aB×aB:=((dc ls),(eR 1 ls))
def R:(aB×aB)->Option Bool:=cm gd md
def ak {a0 a1}(h:gd a0 a1):R ((a0.map ah.row),(a1.map ah.row))=some (md a0 a1):=cq h
def aT:gh:=CN pats res acc R
def aY (a0 a1:List ah)(hg:gd a0 a1)(h0:a0.length<=maxLen)(h1:a1.length<=maxLen):∃n,start (iter step n) (a0.map ah.row) (a1.map ah.row)=ret ((md a0 a1):Bool):=by
 unfold start md
 simp only [List.length_map]
 refine jo (pt:=fun i=>Pt.p0 (a0.map ah.row) (a1.map ah.row) (i:Int)) (fun hl J i h h2=>?_) (fun J=>?_)
 ·simp only [step,MM,List.length_map,aK h,aK h2,aD,aZ,cM,ah.eT h,ah.eT h2]
  rw [aH h h0]
  rw [call_eq (Z287.ak trivial),Z287.md]
  cases eu a0[i] a1[i]<;>rfl
 ·simp only [step,List.length_map,eM,aX]
def af:cz 257 aT:=VV (run:=fun n x=>start (iter step n) x.1 x.2) mix aC (cD Z287.af) Tryz.func257 (by kernel_rfl) run_eq (fun ls a hl e hg=>aY a.1 a.2 hg (by have h:(dc ls).length<=maxLen:=hl.1.len;have e:a.1.map ah.row=(dc ls):=(congrArg (fun x=>x.1) e.symm);rw [<-e] at h;simpa using h) (by have h:(eR 1 ls).length<=maxLen:=hl.2.1.len;have e:a.2.map ah.row=(eR 1 ls):=(congrArg (fun x=>x.2) e.symm);rw [<-e] at h;simpa using h))
end Z296
namespace Z297
def F (x0 x1:eE):aI:=(call (Z281.R (x0.aQ,x1.aQ)) fun v1=>(cond (!v1) (ret false) (call (Z296.R (x0.bR,x1.bR)) fun v2=>(cond (!v2) (ret false) (ret true)))))
def md (a0 a1:aP):Bool:=eu a0 a1
def gd (a0 a1:aP):Prop:=True
def R:=cm gd md
def ak {a0 a1}(h:gd a0 a1):R ((aP.r a0),(aP.r a1))=some (md a0 a1):=cq h
def aT:=CN [.agg uQ,.agg uQ] oB RT.dec R
def aY (a0)(a1)(hg:gd a0 a1):F (aP.r a0) (aP.r a1)=ret (md a0 a1):=by
 unfold md
 show (call (Z281.R ((a0.aQ.map aa.row),(a1.aQ.map aa.row))) fun v1=>(bif (!v1) then dx else (call (Z296.R ((a0.bR.map ah.row),(a1.bR.map ah.row))) fun v2=>(cond (!v2) dx gA))))=_
 simp only [call_eq (Z281.ak trivial),Z281.md]
 simp only [call_eq (Z296.ak trivial),Z296.md]
 have e:eu a0 a1=(eu a0.aQ a1.aQ&&(eu a0.bR a1.bR&&true)):=by
  cases a0;cases a1
  rw [Bool.eq_iff_iff]
  simp only [dm,Bool.and_eq_true,aP.mk.injEq,and_true]
 rw [e]
 refine ck fun _=>(ck fun _=>?_)
 rfl
def af:cz 198 aT:=W2 17 F mix aC aY (eP Z281.af Z296.af) Tryz.func198
end Z297
namespace Z298
inductive Pt where
 | p0 (a b:aB) (c:Int)
def pid:Pt->Nat
 | .p0 ..=>4
def cu:Pt->List V
 | .p0 a b c=>[.sl none 215 a,.sl none 215 b,.int .i64 c]
def cR:Pt->List aW
 | .p0 a b c=>[]
def step (J:Pt->aI):Pt->aI
 | .p0 a b c=>(cond (c<(a.length:Int)) (m2 c (a.length:Int) (m2 c (b.length:Int) (call (Z297.R ((eE.at a (toNat c)),(eE.at b (toNat c)))) fun v1=>(cond (!v1) dx (J (.p0 a b (i64.wrap (c+1)))))))) gA)
def start (J:Pt->aI)(x0 x1:aB):aI:=(cond (x0.length != (x1.length:Int)) (ret false) (J (.p0 x0 x1 0)))
def live:Nat->Live:=fK [(4,gj [0,1,5])]
def pats:List gK:=[.rd (.sl 215),.rd (.sl 215)]
def res:RP:=.one (.rd (.bool))
abbrev E:Env:={ T:=assoc lC,G:=dK [(198,Z297.aT)],nt:=27 }
def step_eq (I:cJ)(p:Pt):dh E live I (pid p) (bI Tryz.f151) (fU (live (pid p)) (cu p) (cR p)) (cG E Tryz.f151 res)=step (fun q=>I (pid q) (cu q) (cR q)) p:=by
 cases p<;>kernel_rfl
def start_eq (I:cJ)(ls:List L):fH E live I (bI Tryz.f151) (dF pats ls) (cG E Tryz.f151 res)=start (fun q=>I (pid q) (cu q) (cR q)) (dc ls) (eR 1 ls):=by kernel_rfl
def run_eq (n:Nat)(ls:List L):eY E live Tryz.f151 res n (dF pats ls)=start (iter step n) (dc ls) (eR 1 ls):=cB (id:=pid) (vs:=cu) (hs:=cR) (step:=step) (start:=fun J=>start J (dc ls) (eR 1 ls)) step_eq (fun I=>start_eq I ls) n
def md (a0 a1:List aP):Bool:=eu a0 a1
def gd (a0 a1:List aP):Prop:=True
def acc (ls:List L):aB×aB:=((dc ls),(eR 1 ls))
def R:(aB×aB)->Option Bool:=cm gd md
def ak {a0 a1}(h:gd a0 a1):R ((a0.map aP.row),(a1.map aP.row))=some (md a0 a1):=cq h
def aT:gh:=CN pats res acc R
def aY (a0 a1:List aP)(hg:gd a0 a1)(h0:a0.length<=maxLen)(h1:a1.length<=maxLen):∃n,start (iter step n) (a0.map aP.row) (a1.map aP.row)=ret ((md a0 a1):Bool):=by
 unfold start md
 simp only [List.length_map]
 refine jo (pt:=fun i=>Pt.p0 (a0.map aP.row) (a1.map aP.row) (i:Int)) (fun hl J i h h2=>?_) (fun J=>?_)
 ·simp only [step,MM,List.length_map,aK h,aK h2,aD,aZ,cM,aP.eT h,aP.eT h2]
  rw [aH h h0]
  rw [call_eq (Z297.ak trivial),Z297.md]
  cases eu a0[i] a1[i]<;>rfl
 ·simp only [step,List.length_map,eM,aX]
def af:cz 151 aT:=VV (run:=fun n x=>start (iter step n) x.1 x.2) mix aC (cD Z297.af) Tryz.func151 (by kernel_rfl) run_eq (fun ls a hl e hg=>aY a.1 a.2 hg (by have h:(dc ls).length<=maxLen:=hl.1.len;have e:a.1.map aP.row=(dc ls):=(congrArg (fun x=>x.1) e.symm);rw [<-e] at h;simpa using h) (by have h:(eR 1 ls).length<=maxLen:=hl.2.1.len;have e:a.2.map aP.row=(eR 1 ls):=(congrArg (fun x=>x.2) e.symm);rw [<-e] at h;simpa using h))
end Z298
namespace Z299
def F (x0 x1:cZ):aI:=(call (Z298.R (x0.bM,x1.bM)) fun v1=>(cond (!v1) (ret false) (cond (x0.iG != x1.iG) (ret false) (ret true))))
def md (a0 a1:ay):Bool:=eu a0 a1
def gd (a0 a1:ay):Prop:=True
def R:=cm gd md
def ak {a0 a1}(h:gd a0 a1):R ((ay.r a0),(ay.r a1))=some (md a0 a1):=cq h
def aT:=CN [.agg zG,.agg zG] oB RT.dec R
def aY (a0)(a1)(hg:gd a0 a1):F (ay.r a0) (ay.r a1)=ret (md a0 a1):=by
 unfold md
 show (call (Z298.R ((a0.bM.map aP.row),(a1.bM.map aP.row))) fun v1=>(cond (!v1) dx (cond (a0.iG != a1.iG) dx gA)))=_
 simp only [call_eq (Z298.ak trivial),Z298.md]
 simp only [bne,gf,bool_beq,fM]
 have e:eu a0 a1=(eu a0.bM a1.bM&&(eu a0.iG a1.iG&&true)):=by
  cases a0;cases a1
  rw [Bool.eq_iff_iff]
  simp only [dm,Bool.and_eq_true,ay.mk.injEq,and_true]
 rw [e]
 refine ck fun _=>(ck fun _=>?_)
 rfl
def af:cz 101 aT:=W2 16 F mix aC aY (cD Z298.af) Tryz.func101
end Z299
namespace Z300
inductive Pt where
 | p0 (a b:aB) (c:Int)
def pid:Pt->Nat
 | .p0 ..=>4
def cu:Pt->List V
 | .p0 a b c=>[.sl none 138 a,.sl none 138 b,.int .i64 c]
def cR:Pt->List aW
 | .p0 a b c=>[]
def step (J:Pt->aI):Pt->aI
 | .p0 a b c=>(cond (c<(a.length:Int)) (m2 c (a.length:Int) (m2 c (b.length:Int) (call (Z299.R ((cZ.at a (toNat c)),(cZ.at b (toNat c)))) fun v1=>(cond (!v1) dx (J (.p0 a b (i64.wrap (c+1)))))))) gA)
def start (J:Pt->aI)(x0 x1:aB):aI:=(cond (x0.length != (x1.length:Int)) (ret false) (J (.p0 x0 x1 0)))
def live:Nat->Live:=fK [(4,gj [0,1,5])]
def pats:List gK:=[.rd (.sl 138),.rd (.sl 138)]
def res:RP:=.one (.rd (.bool))
abbrev E:Env:={ T:=assoc lC,G:=dK [(101,Z299.aT)],nt:=27 }
def step_eq (I:cJ)(p:Pt):dh E live I (pid p) (bI Tryz.f37) (fU (live (pid p)) (cu p) (cR p)) (cG E Tryz.f37 res)=step (fun q=>I (pid q) (cu q) (cR q)) p:=by
 cases p<;>kernel_rfl
def start_eq (I:cJ)(ls:List L):fH E live I (bI Tryz.f37) (dF pats ls) (cG E Tryz.f37 res)=start (fun q=>I (pid q) (cu q) (cR q)) (dc ls) (eR 1 ls):=by kernel_rfl
def run_eq (n:Nat)(ls:List L):eY E live Tryz.f37 res n (dF pats ls)=start (iter step n) (dc ls) (eR 1 ls):=cB (id:=pid) (vs:=cu) (hs:=cR) (step:=step) (start:=fun J=>start J (dc ls) (eR 1 ls)) step_eq (fun I=>start_eq I ls) n
def md (a0 a1:List ay):Bool:=eu a0 a1
def gd (a0 a1:List ay):Prop:=True
def acc (ls:List L):aB×aB:=((dc ls),(eR 1 ls))
def R:(aB×aB)->Option Bool:=cm gd md
def ak {a0 a1}(h:gd a0 a1):R ((a0.map ay.row),(a1.map ay.row))=some (md a0 a1):=cq h
def aT:gh:=CN pats res acc R
def aY (a0 a1:List ay)(hg:gd a0 a1)(h0:a0.length<=maxLen)(h1:a1.length<=maxLen):∃n,start (iter step n) (a0.map ay.row) (a1.map ay.row)=ret ((md a0 a1):Bool):=by
 unfold start md
 simp only [List.length_map]
 refine jo (pt:=fun i=>Pt.p0 (a0.map ay.row) (a1.map ay.row) (i:Int)) (fun hl J i h h2=>?_) (fun J=>?_)
 ·simp only [step,MM,List.length_map,aK h,aK h2,aD,aZ,cM,ay.eT h,ay.eT h2]
  rw [aH h h0]
  rw [call_eq (Z299.ak trivial),Z299.md]
  cases eu a0[i] a1[i]<;>rfl
 ·simp only [step,List.length_map,eM,aX]
def af:cz 37 aT:=VV (run:=fun n x=>start (iter step n) x.1 x.2) mix aC (cD Z299.af) Tryz.func37 (by kernel_rfl) run_eq (fun ls a hl e hg=>aY a.1 a.2 hg (by have h:(dc ls).length<=maxLen:=hl.1.len;have e:a.1.map ay.row=(dc ls):=(congrArg (fun x=>x.1) e.symm);rw [<-e] at h;simpa using h) (by have h:(eR 1 ls).length<=maxLen:=hl.2.1.len;have e:a.2.map ay.row=(eR 1 ls):=(congrArg (fun x=>x.2) e.symm);rw [<-e] at h;simpa using h))
end Z300
namespace Z301
set_option maxHeartbeats 8000000
inductive Pt where
 | p0 (a b:Int) (c:aB)
def pid:Pt->Nat
 | .p0 ..=>2
def cu:Pt->List V
 | .p0 a b c=>[.own 0,.int .i64 a,.int .i64 b]
def cR:Pt->List aW
 | .p0 a b c=>[.row 3 c]
def step (J:Pt->aI):Pt->aI
 | .p0 a b c=>(cond (b<(c.length:Int)) (m2 b (c.length:Int) (J (.p0 (i64.wrap (a+1)) (i64.wrap (b+1)) (List.set c (toNat b) [L.int a])))) (ret ((a,c):Int×aB)))
def start (J:Pt->aI)(x0:aB)(x1:Int):aI:=J (.p0 x1 0 x0)
def live:Nat->Live:=fK [(2,gj [0,1,5])]
def pats:List (Bool×List K):=[(false,[.sl 3]),(false,[au])]
def res:RP:=.nR [3]
abbrev E:Env:={ T:=assoc lC,G:=dK [],nt:=19,M:=gm [],np:=1,mt:=true }
def step_eq (I:cJ)(p:Pt):dh E live I (pid p) (bI Tryz.f62) (fU (live (pid p)) (cu p) (cR p)) (cG E Tryz.f62 res)=step (fun q=>I (pid q) (cu q) (cR q)) p:=by
 cases p<;>kernel_rfl
def start_eq (I:cJ)(ls:List L):fH E live I (bI Tryz.f62) (ig pats ls) (cG E Tryz.f62 res)=start (fun q=>I (pid q) (cu q) (cR q)) (dc ls) (dH 1 ls):=by kernel_rfl
def run_eq (n:Nat)(ls:List L):eY E live Tryz.f62 res n (ig pats ls)=start (iter step n) (dc ls) (dH 1 ls):=cB (id:=pid) (vs:=cu) (hs:=cR) (step:=step) (start:=fun J=>start J (dc ls) (dH 1 ls)) step_eq (fun I=>start_eq I ls) n
def el (x k:Int):Int×Int:=((i64.wrap (k+1)),(k))
def iY (x k:Int)(hk:eS k):eS (el x k).1:=(bS _)
def cnt (x:Int):Nat:=1
def sum (a:List Int):Nat:=(a.map cnt).sum
def md (a0:List Int)(a1:Int):Int×List Int:=jF el a0 a1
def gd (a0:List Int)(a1:Int):Prop:=eS a1
def acc (ls:List L):aB×Int:=((dc ls),(dH 1 ls))
def R:(aB×Int)->Option (Int×aB):=cm gd md
def ak {a0 a1}(h:gd a0 a1):R ((a0.map bt),a1)=some ((md a0 a1).1,((md a0 a1).2.map bt)):=cq h
def aT:gX:=MN pats acc R
def aY (a0:List Int)(a1:Int)(hg:gd a0 a1)(h0:a0.length<=maxLen):∃n,start (iter step n) (a0.map bt) a1=ret (((md a0 a1).1,((md a0 a1).2.map bt)):Int×aB):=by
 show ∃n,iter step n (Pt.p0 a1 0 (a0.map bt))=_
 refine gM (el:=el) (xs:=a0) 0 eS iY (pt:=fun i k c=>Pt.p0 k (i:Int) (c.map bt)) (out:=fun b=>ret (b.1,b.2.map bt)) (fun J i k c hi hc hk=>?_) (fun J k c hc=>?_) hg
 ·have hm:c.length<=maxLen:=hc ▸ h0
  simp only [step,SS]
  refine aj (aK hi) (aj aD ?_)
  refine aj (aK hi) ?_
  rw [aH hi hm]
  exact congrArg (fun q=>J (Pt.p0 (el (c.getD i 0) k).1 ((i+1:Nat):Int) q)) (List.map_set (f:=bt) (l:=c) (i:=i) (a:=(el (c.getD i 0) k).2)).symm
 ·simp only [step,SS]
  refine cW dn ?_
  rfl
def af:fD Tryz.prog Ev 62 aT:=MV (run:=fun n x=>start (iter step n) x.1 x.2) mix aC .nil .nil Tryz.func62 (by kernel_rfl) run_eq (fun ls a hl e hg=>aY a.1 a.2 hg (by have h:(dc ls).length<=maxLen:=(hl _ _ (.head _)).len;have e:a.1.map bt=(dc ls):=(congrArg (fun x=>x.1) e.symm);rw [<-e] at h;simpa using h))
def iq {a0:List Int}{a1:Int}(h:eS a1):eS (md a0 a1).1:=ke iY h
def qK (x k:Int)(h0:0<=k)(hb:k+(cnt x:Int)<=4611686018427387904):(el x k).1=k+cnt x:=by
 simp only [cnt,Int.natCast_add] at hb ⊢
 simp (disch:=omega) only [el,wi]
 all_goals first | done | omega
def kk (a0:List Int)(a1:Int)(h0:0<=a1)(hb:a1+(sum a0:Int)<=4611686018427387904):(md a0 a1).1=a1+sum a0:=iu qK a0 a1 h0 hb
def sz (a:List Int):sum a<=60*(eC (fun y:Int=>0) a):=ku (fun x=>by
 try simp only [cnt] at *
 omega) a
end Z301
namespace Z302
set_option maxHeartbeats 8000000
inductive Pt where
 | p0 (a b:Int) (c:aB)
def pid:Pt->Nat
 | .p0 ..=>2
def cu:Pt->List V
 | .p0 a b c=>[.own 0,.int .i64 a,.int .i64 b]
def cR:Pt->List aW
 | .p0 a b c=>[.row 227 c]
def step (J:Pt->aI):Pt->aI
 | .p0 a b c=>(cond (b<(c.length:Int)) (m2 b (c.length:Int) (m2 b (c.length:Int) (bY (fc b) (J (.p0 (i64.wrap ((i64.wrap (a+1))+1)) (i64.wrap (b+1)) (List.set c (toNat b) (bn.enc (⟨a,(i64.wrap (a+1))⟩:bn)))))))) (ret ((a,c):Int×aB)))
def start (J:Pt->aI)(x0:aB)(x1:Int):aI:=J (.p0 x1 0 x0)
def live:Nat->Live:=fK [(2,gj [0,1,5])]
def pats:List (Bool×List K):=[(false,[.sl 227]),(false,[au])]
def res:RP:=.nR [227]
abbrev E:Env:={ T:=assoc lC,G:=dK [],nt:=27,M:=gm [],np:=1,mt:=true }
def step_eq (I:cJ)(p:Pt):dh E live I (pid p) (bI Tryz.f118) (fU (live (pid p)) (cu p) (cR p)) (cG E Tryz.f118 res)=step (fun q=>I (pid q) (cu q) (cR q)) p:=by
 cases p<;>kernel_rfl
def start_eq (I:cJ)(ls:List L):fH E live I (bI Tryz.f118) (ig pats ls) (cG E Tryz.f118 res)=start (fun q=>I (pid q) (cu q) (cR q)) (dc ls) (dH 1 ls):=by kernel_rfl
def run_eq (n:Nat)(ls:List L):eY E live Tryz.f118 res n (ig pats ls)=start (iter step n) (dc ls) (dH 1 ls):=cB (id:=pid) (vs:=cu) (hs:=cR) (step:=step) (start:=fun J=>start J (dc ls) (dH 1 ls)) step_eq (fun I=>start_eq I ls) n
def el (x:bn)(k:Int):Int×bn:=((i64.wrap ((i64.wrap (k+1))+1)),(⟨k,(i64.wrap (k+1))⟩:bn))
def iY (x:bn)(k:Int)(hk:eS k):eS (el x k).1:=(bS _)
def cnt (x:bn):Nat:=2
def sum (a:List bn):Nat:=(a.map cnt).sum
def md (a0:List bn)(a1:Int):Int×List bn:=jF el a0 a1
def gd (a0:List bn)(a1:Int):Prop:=eS a1
def acc (ls:List L):aB×Int:=((dc ls),(dH 1 ls))
def R:(aB×Int)->Option (Int×aB):=cm gd md
def ak {a0 a1}(h:gd a0 a1):R ((a0.map bn.row),a1)=some ((md a0 a1).1,((md a0 a1).2.map bn.row)):=cq h
def aT:gX:=MN pats acc R
def aY (a0:List bn)(a1:Int)(hg:gd a0 a1)(h0:a0.length<=maxLen):∃n,start (iter step n) (a0.map bn.row) a1=ret (((md a0 a1).1,((md a0 a1).2.map bn.row)):Int×aB):=by
 show ∃n,iter step n (Pt.p0 a1 0 (a0.map bn.row))=_
 refine gM (el:=el) (xs:=a0) bn.zero eS iY (pt:=fun i k c=>Pt.p0 k (i:Int) (c.map bn.row)) (out:=fun b=>ret (b.1,b.2.map bn.row)) (fun J i k c hi hc hk=>?_) (fun J k c hc=>?_) hg
 ·have hm:c.length<=maxLen:=hc ▸ h0
  simp only [step,SS]
  refine aj (aK hi) ?_
  repeat first | refine aj aD ?_ | refine aj (aK hi) ?_ | refine aj (gp _) ?_
  rw [aH hi hm]
  exact congrArg (fun q=>J (Pt.p0 (el (c.getD i bn.zero) k).1 ((i+1:Nat):Int) q)) (List.map_set (f:=bn.row) (l:=c) (i:=i) (a:=(el (c.getD i bn.zero) k).2)).symm
 ·simp only [step,SS]
  refine cW dn ?_
  rfl
def af:fD Tryz.prog Ev 118 aT:=MV (run:=fun n x=>start (iter step n) x.1 x.2) mix aC .nil .nil Tryz.func118 (by kernel_rfl) run_eq (fun ls a hl e hg=>aY a.1 a.2 hg (by have h:(dc ls).length<=maxLen:=(hl _ _ (.head _)).len;have e:a.1.map bn.row=(dc ls):=(congrArg (fun x=>x.1) e.symm);rw [<-e] at h;simpa using h))
def iq {a0:List bn}{a1:Int}(h:eS a1):eS (md a0 a1).1:=ke iY h
def qK (x:bn)(k:Int)(h0:0<=k)(hb:k+(cnt x:Int)<=4611686018427387904):(el x k).1=k+cnt x:=by
 simp only [cnt,Int.natCast_add] at hb ⊢
 simp (disch:=omega) only [el,wi]
 all_goals first | done | omega
def kk (a0:List bn)(a1:Int)(h0:0<=a1)(hb:a1+(sum a0:Int)<=4611686018427387904):(md a0 a1).1=a1+sum a0:=iu qK a0 a1 h0 hb
def sz (a:List bn):sum a<=60*(eC (fun y:bn=>bn.size y) a):=ku (fun x=>by
 try simp only [cnt,bn.size] at *
 omega) a
end Z302
namespace Z303
set_option maxHeartbeats 8000000
inductive Pt where
 | p0 (a b:Int) (c:aB)
def pid:Pt->Nat
 | .p0 ..=>2
def cu:Pt->List V
 | .p0 a b c=>[.own 0,.int .i64 a,.int .i64 b]
def cR:Pt->List aW
 | .p0 a b c=>[.row 178 c]
def step (J:Pt->aI):Pt->aI
 | .p0 a b c=>(cond (b<(c.length:Int)) (m2 b (c.length:Int) (m2 b (c.length:Int) (bY (fc b) (m2 b (c.length:Int) (bY (fc b) (m2 b (c.length:Int) (bY (fc b) (m2 b (c.length:Int) (bY (fc b) (m2 b (c.length:Int) (bY (fc b) (m2 b (c.length:Int) (bY (fc b) (m2 b (c.length:Int) (bY (fc b) (m2 b (c.length:Int) (bY (fc b) (bY (fc b) (call (Z301.R ((bf.at c (toNat b)).an.bU.aO,(i64.wrap ((i64.wrap ((i64.wrap ((i64.wrap ((i64.wrap ((i64.wrap ((i64.wrap ((i64.wrap (a+1))+1))+1))+1))+1))+1))+1))+1)))) fun v1=>(m2 b (c.length:Int) (bY (fc b) (m2 b (c.length:Int) (bY (fc b) (bY (fc b) (call (Z301.R ((bf.at c (toNat b)).an.bF.aO,(i64.wrap (v1.1+1)))) fun v2=>(m2 b (c.length:Int) (bY (fc b) (m2 b (c.length:Int) (bY (fc b) (m2 b (c.length:Int) (bY (fc b) (bY (fc b) (call (Z301.R ((bf.at c (toNat b)).an.bC.aO,(i64.wrap ((i64.wrap (v2.1+1))+1)))) fun v3=>(m2 b (c.length:Int) (bY (fc b) (m2 b (c.length:Int) (bY (fc b) (m2 b (c.length:Int) (bY (fc b) (bY (fc b) (call (Z302.R ((bf.at c (toNat b)).cP,(i64.wrap ((i64.wrap (v3.1+1))+1)))) fun v4=>J (.p0 v4.1 (i64.wrap (b+1)) (List.set c (toNat b) (bf.enc (⟨(⟨a,(i64.wrap (a+1)),(i64.wrap ((i64.wrap (a+1))+1)),(i64.wrap ((i64.wrap ((i64.wrap (a+1))+1))+1)),(i64.wrap ((i64.wrap ((i64.wrap ((i64.wrap (a+1))+1))+1))+1)),(i64.wrap ((i64.wrap ((i64.wrap ((i64.wrap ((i64.wrap (a+1))+1))+1))+1))+1)),(i64.wrap ((i64.wrap ((i64.wrap ((i64.wrap ((i64.wrap ((i64.wrap (a+1))+1))+1))+1))+1))+1)),(i64.wrap ((i64.wrap ((i64.wrap ((i64.wrap ((i64.wrap ((i64.wrap ((i64.wrap (a+1))+1))+1))+1))+1))+1))+1)),(⟨v1.2,v1.1⟩:dz),(⟨v2.2,v2.1⟩:dz),(i64.wrap (v2.1+1)),(⟨v3.2,v3.1⟩:dz),((Int.tmod (i64.wrap (v3.1+1)) 3)==0)⟩:dI),v4.2⟩:bf))))))))))))))))))))))))))))))))))))))))))))) (ret ((a,c):Int×aB)))
def start (J:Pt->aI)(x0:aB)(x1:Int):aI:=J (.p0 x1 0 x0)
def live:Nat->Live:=fK [(2,gj [0,1,5])]
def pats:List (Bool×List K):=[(false,[.sl 178]),(false,[au])]
def res:RP:=.nR [178]
abbrev E:Env:={ T:=assoc lC,G:=dK [],nt:=156,M:=gm [(62,Z301.aT),(118,Z302.aT)],np:=1,mt:=true }
def step_eq (I:cJ)(p:Pt):dh E live I (pid p) (bI Tryz.f117) (fU (live (pid p)) (cu p) (cR p)) (cG E Tryz.f117 res)=step (fun q=>I (pid q) (cu q) (cR q)) p:=by
 cases p<;>kernel_rfl
def start_eq (I:cJ)(ls:List L):fH E live I (bI Tryz.f117) (ig pats ls) (cG E Tryz.f117 res)=start (fun q=>I (pid q) (cu q) (cR q)) (dc ls) (dH 1 ls):=by kernel_rfl
def run_eq (n:Nat)(ls:List L):eY E live Tryz.f117 res n (ig pats ls)=start (iter step n) (dc ls) (dH 1 ls):=cB (id:=pid) (vs:=cu) (hs:=cR) (step:=step) (start:=fun J=>start J (dc ls) (dH 1 ls)) step_eq (fun I=>start_eq I ls) n
def e1 (x:aa)(k:Int):=Z301.md (((x.an).bU).aO) (i64.wrap ((i64.wrap ((i64.wrap ((i64.wrap ((i64.wrap ((i64.wrap ((i64.wrap ((i64.wrap (k+1))+1))+1))+1))+1))+1))+1))+1))
def e2 (x:aa)(k:Int):=Z301.md (((x.an).bF).aO) (i64.wrap ((e1 x k).1+1))
def e3 (x:aa)(k:Int):=Z301.md (((x.an).bC).aO) (i64.wrap ((i64.wrap ((e2 x k).1+1))+1))
def e4 (x:aa)(k:Int):=Z302.md x.cP (i64.wrap ((i64.wrap ((e3 x k).1+1))+1))
def el (x:aa)(k:Int):Int×aa:=((e4 x k).1,(⟨(⟨k,(i64.wrap (k+1)),(i64.wrap ((i64.wrap (k+1))+1)),(i64.wrap ((i64.wrap ((i64.wrap (k+1))+1))+1)),(i64.wrap ((i64.wrap ((i64.wrap ((i64.wrap (k+1))+1))+1))+1)),(i64.wrap ((i64.wrap ((i64.wrap ((i64.wrap ((i64.wrap (k+1))+1))+1))+1))+1)),(i64.wrap ((i64.wrap ((i64.wrap ((i64.wrap ((i64.wrap ((i64.wrap (k+1))+1))+1))+1))+1))+1)),(i64.wrap ((i64.wrap ((i64.wrap ((i64.wrap ((i64.wrap ((i64.wrap ((i64.wrap (k+1))+1))+1))+1))+1))+1))+1)),(⟨(e1 x k).2,(e1 x k).1⟩:aR),(⟨(e2 x k).2,(e2 x k).1⟩:aR),(i64.wrap ((e2 x k).1+1)),(⟨(e3 x k).2,(e3 x k).1⟩:aR),((Int.tmod (i64.wrap ((e3 x k).1+1)) 3)==0)⟩:aF),(e4 x k).2⟩:aa))
def iY (x:aa)(k:Int)(hk:eS k):eS (el x k).1:=(Z302.iq (bS _))
def cnt (x:aa):Nat:=13+Z301.sum (((x.an).bU).aO)+Z301.sum (((x.an).bF).aO)+Z301.sum (((x.an).bC).aO)+Z302.sum x.cP
def sum (a:List aa):Nat:=(a.map cnt).sum
def md (a0:List aa)(a1:Int):Int×List aa:=jF el a0 a1
def gd (a0:List aa)(a1:Int):Prop:=eS a1
def acc (ls:List L):aB×Int:=((dc ls),(dH 1 ls))
def R:(aB×Int)->Option (Int×aB):=cm gd md
def ak {a0 a1}(h:gd a0 a1):R ((a0.map aa.row),a1)=some ((md a0 a1).1,((md a0 a1).2.map aa.row)):=cq h
def aT:gX:=MN pats acc R
def aY (a0:List aa)(a1:Int)(hg:gd a0 a1)(h0:a0.length<=maxLen):∃n,start (iter step n) (a0.map aa.row) a1=ret (((md a0 a1).1,((md a0 a1).2.map aa.row)):Int×aB):=by
 show ∃n,iter step n (Pt.p0 a1 0 (a0.map aa.row))=_
 refine gM (el:=el) (xs:=a0) aa.zero eS iY (pt:=fun i k c=>Pt.p0 k (i:Int) (c.map aa.row)) (out:=fun b=>ret (b.1,b.2.map aa.row)) (fun J i k c hi hc hk=>?_) (fun J k c hc=>?_) hg
 ·have hm:c.length<=maxLen:=hc ▸ h0
  simp only [step,SS]
  refine aj (aK hi) ?_
  repeat first | refine aj aD ?_ | refine aj (aK hi) ?_ | refine aj (gp _) ?_
  refine aU _ (Z301.ak (bS _)) ?_
  repeat first | refine aj aD ?_ | refine aj (aK hi) ?_ | refine aj (gp _) ?_
  refine aU _ (Z301.ak (bS _)) ?_
  repeat first | refine aj aD ?_ | refine aj (aK hi) ?_ | refine aj (gp _) ?_
  refine aU _ (Z301.ak (bS _)) ?_
  repeat first | refine aj aD ?_ | refine aj (aK hi) ?_ | refine aj (gp _) ?_
  refine aU _ (Z302.ak (bS _)) ?_
  rw [aH hi hm]
  exact congrArg (fun q=>J (Pt.p0 (el (c.getD i aa.zero) k).1 ((i+1:Nat):Int) q)) (List.map_set (f:=aa.row) (l:=c) (i:=i) (a:=(el (c.getD i aa.zero) k).2)).symm
 ·simp only [step,SS]
  refine cW dn ?_
  rfl
def af:fD Tryz.prog Ev 117 aT:=MV (run:=fun n x=>start (iter step n) x.1 x.2) mix aC .nil (.cons Z301.af (.cons Z302.af .nil)) Tryz.func117 (by kernel_rfl) run_eq (fun ls a hl e hg=>aY a.1 a.2 hg (by have h:(dc ls).length<=maxLen:=(hl _ _ (.head _)).len;have e:a.1.map aa.row=(dc ls):=(congrArg (fun x=>x.1) e.symm);rw [<-e] at h;simpa using h))
def iq {a0:List aa}{a1:Int}(h:eS a1):eS (md a0 a1).1:=ke iY h
def qK (x:aa)(k:Int)(h0:0<=k)(hb:k+(cnt x:Int)<=4611686018427387904):(el x k).1=k+cnt x:=by
 simp only [cnt,Int.natCast_add] at hb ⊢
 simp (disch:=omega) only [el,e1,e2,e3,e4,wi,Z301.kk,Z302.kk]
 all_goals first | done | omega
def kk (a0:List aa)(a1:Int)(h0:0<=a1)(hb:a1+(sum a0:Int)<=4611686018427387904):(md a0 a1).1=a1+sum a0:=iu qK a0 a1 h0 hb
def sz (a:List aa):sum a<=60*(eC (fun y:aa=>aa.size y) a):=ku (fun x=>by
 have:=Z301.sz (((x.an).bU).aO)
 have:=Z301.sz (((x.an).bF).aO)
 have:=Z301.sz (((x.an).bC).aO)
 have:=Z302.sz x.cP
 try simp only [cnt,aa.size,aF.size,aR.size] at *
 omega) a
end Z303
namespace Z304
set_option maxHeartbeats 8000000
inductive Pt where
 | p0 (a b:Int) (c:aB)
def pid:Pt->Nat
 | .p0 ..=>2
def cu:Pt->List V
 | .p0 a b c=>[.own 0,.int .i64 a,.int .i64 b]
def cR:Pt->List aW
 | .p0 a b c=>[.row 120 c]
def step (J:Pt->aI):Pt->aI
 | .p0 a b c=>(cond (b<(c.length:Int)) (m2 b (c.length:Int) (call (Z303.R ((qi c (toNat b)),a)) fun v1=>J (.p0 v1.1 (i64.wrap (b+1)) (List.set c (toNat b) [L.sl v1.2])))) (ret ((a,c):Int×aB)))
def start (J:Pt->aI)(x0:aB)(x1:Int):aI:=J (.p0 x1 0 x0)
def live:Nat->Live:=fK [(2,gj [0,1,5])]
def pats:List (Bool×List K):=[(false,[.sl 120]),(false,[au])]
def res:RP:=.nR [120]
abbrev E:Env:={ T:=assoc lC,G:=dK [],nt:=19,M:=gm [(117,Z303.aT)],np:=1,mt:=true }
def step_eq (I:cJ)(p:Pt):dh E live I (pid p) (bI Tryz.f57) (fU (live (pid p)) (cu p) (cR p)) (cG E Tryz.f57 res)=step (fun q=>I (pid q) (cu q) (cR q)) p:=by
 cases p<;>kernel_rfl
def start_eq (I:cJ)(ls:List L):fH E live I (bI Tryz.f57) (ig pats ls) (cG E Tryz.f57 res)=start (fun q=>I (pid q) (cu q) (cR q)) (dc ls) (dH 1 ls):=by kernel_rfl
def run_eq (n:Nat)(ls:List L):eY E live Tryz.f57 res n (ig pats ls)=start (iter step n) (dc ls) (dH 1 ls):=cB (id:=pid) (vs:=cu) (hs:=cR) (step:=step) (start:=fun J=>start J (dc ls) (dH 1 ls)) step_eq (fun I=>start_eq I ls) n
def e1 (x:List aa)(k:Int):=Z303.md x k
def el (x:List aa)(k:Int):Int×(List aa):=((e1 x k).1,((e1 x k).2))
def iY (x:List aa)(k:Int)(hk:eS k):eS (el x k).1:=(Z303.iq hk)
def cnt (x:List aa):Nat:=0+Z303.sum x
def sum (a:List (List aa)):Nat:=(a.map cnt).sum
def md (a0:List (List aa))(a1:Int):Int×List (List aa):=jF el a0 a1
def gd (a0:List (List aa))(a1:Int):Prop:=eS a1
def acc (ls:List L):aB×Int:=((dc ls),(dH 1 ls))
def R:(aB×Int)->Option (Int×aB):=cm gd md
def ak {a0 a1}(h:gd a0 a1):R ((a0.map (eK aa.row)),a1)=some ((md a0 a1).1,((md a0 a1).2.map (eK aa.row))):=cq h
def aT:gX:=MN pats acc R
def aY (a0:List (List aa))(a1:Int)(hg:gd a0 a1)(h0:a0.length<=maxLen):∃n,start (iter step n) (a0.map (eK aa.row)) a1=ret (((md a0 a1).1,((md a0 a1).2.map (eK aa.row))):Int×aB):=by
 show ∃n,iter step n (Pt.p0 a1 0 (a0.map (eK aa.row)))=_
 refine gM (el:=el) (xs:=a0) [] eS iY (pt:=fun i k c=>Pt.p0 k (i:Int) (c.map (eK aa.row))) (out:=fun b=>ret (b.1,b.2.map (eK aa.row))) (fun J i k c hi hc hk=>?_) (fun J k c hc=>?_) hg
 ·have hm:c.length<=maxLen:=hc ▸ h0
  simp only [step,SS]
  refine aj (aK hi) (aj aD ?_)
  refine aj (aK hi) (aU _ (Z303.ak hk) ?_)
  rw [aH hi hm]
  exact congrArg (fun q=>J (Pt.p0 (el (c.getD i []) k).1 ((i+1:Nat):Int) q)) (List.map_set (f:=(eK aa.row)) (l:=c) (i:=i) (a:=(el (c.getD i []) k).2)).symm
 ·simp only [step,SS]
  refine cW dn ?_
  rfl
def af:fD Tryz.prog Ev 57 aT:=MV (run:=fun n x=>start (iter step n) x.1 x.2) mix aC .nil (.cons Z303.af .nil) Tryz.func57 (by kernel_rfl) run_eq (fun ls a hl e hg=>aY a.1 a.2 hg (by have h:(dc ls).length<=maxLen:=(hl _ _ (.head _)).len;have e:a.1.map (eK aa.row)=(dc ls):=(congrArg (fun x=>x.1) e.symm);rw [<-e] at h;simpa using h))
def iq {a0:List (List aa)}{a1:Int}(h:eS a1):eS (md a0 a1).1:=ke iY h
def qK (x:List aa)(k:Int)(h0:0<=k)(hb:k+(cnt x:Int)<=4611686018427387904):(el x k).1=k+cnt x:=by
 simp only [cnt,Int.natCast_add] at hb ⊢
 simp (disch:=omega) only [el,e1,wi,Z303.kk]
 all_goals first | done | omega
def kk (a0:List (List aa))(a1:Int)(h0:0<=a1)(hb:a1+(sum a0:Int)<=4611686018427387904):(md a0 a1).1=a1+sum a0:=iu qK a0 a1 h0 hb
def sz (a:List (List aa)):sum a<=60*(eC (fun y:List aa=>eC (fun y:aa=>aa.size y) y) a):=ku (fun x=>by
 have:=Z303.sz x
 try simp only [cnt] at *
 omega) a
end Z304
namespace Z305
set_option maxHeartbeats 8000000
inductive Pt where
 | p0 (a b:Int) (c:aB)
def pid:Pt->Nat
 | .p0 ..=>2
def cu:Pt->List V
 | .p0 a b c=>[.own 0,.int .i64 a,.int .i64 b]
def cR:Pt->List aW
 | .p0 a b c=>[.row 180 c]
def step (J:Pt->aI):Pt->aI
 | .p0 a b c=>(cond (b<(c.length:Int)) (m2 b (c.length:Int) (m2 b (c.length:Int) (bY (fc b) (m2 b (c.length:Int) (bY (fc b) (m2 b (c.length:Int) (bY (fc b) (m2 b (c.length:Int) (bY (fc b) (m2 b (c.length:Int) (bY (fc b) (m2 b (c.length:Int) (bY (fc b) (m2 b (c.length:Int) (bY (fc b) (m2 b (c.length:Int) (bY (fc b) (bY (fc b) (call (Z301.R ((bO.at c (toNat b)).aN.an.bU.aO,(i64.wrap ((i64.wrap ((i64.wrap ((i64.wrap ((i64.wrap ((i64.wrap ((i64.wrap ((i64.wrap (a+1))+1))+1))+1))+1))+1))+1))+1)))) fun v1=>(m2 b (c.length:Int) (bY (fc b) (m2 b (c.length:Int) (bY (fc b) (bY (fc b) (call (Z301.R ((bO.at c (toNat b)).aN.an.bF.aO,(i64.wrap (v1.1+1)))) fun v2=>(m2 b (c.length:Int) (bY (fc b) (m2 b (c.length:Int) (bY (fc b) (m2 b (c.length:Int) (bY (fc b) (bY (fc b) (call (Z301.R ((bO.at c (toNat b)).aN.an.bC.aO,(i64.wrap ((i64.wrap (v2.1+1))+1)))) fun v3=>(m2 b (c.length:Int) (bY (fc b) (m2 b (c.length:Int) (bY (fc b) (m2 b (c.length:Int) (bY (fc b) (bY (fc b) (call (Z302.R ((bO.at c (toNat b)).aN.cP,(i64.wrap ((i64.wrap (v3.1+1))+1)))) fun v4=>(m2 b (c.length:Int) (bY (fc b) (m2 b (c.length:Int) (bY (fc b) (m2 b (c.length:Int) (bY (fc b) (m2 b (c.length:Int) (bY (fc b) (m2 b (c.length:Int) (bY (fc b) (m2 b (c.length:Int) (bY (fc b) (m2 b (c.length:Int) (bY (fc b) (m2 b (c.length:Int) (bY (fc b) (m2 b (c.length:Int) (bY (fc b) (bY (fc b) (call (Z301.R ((bO.at c (toNat b)).fA.an.bU.aO,(i64.wrap ((i64.wrap ((i64.wrap ((i64.wrap ((i64.wrap ((i64.wrap ((i64.wrap ((i64.wrap (v4.1+1))+1))+1))+1))+1))+1))+1))+1)))) fun v5=>(m2 b (c.length:Int) (bY (fc b) (m2 b (c.length:Int) (bY (fc b) (bY (fc b) (call (Z301.R ((bO.at c (toNat b)).fA.an.bF.aO,(i64.wrap (v5.1+1)))) fun v6=>(m2 b (c.length:Int) (bY (fc b) (m2 b (c.length:Int) (bY (fc b) (m2 b (c.length:Int) (bY (fc b) (bY (fc b) (call (Z301.R ((bO.at c (toNat b)).fA.an.bC.aO,(i64.wrap ((i64.wrap (v6.1+1))+1)))) fun v7=>(m2 b (c.length:Int) (bY (fc b) (m2 b (c.length:Int) (bY (fc b) (m2 b (c.length:Int) (bY (fc b) (bY (fc b) (call (Z302.R ((bO.at c (toNat b)).fA.cP,(i64.wrap ((i64.wrap (v7.1+1))+1)))) fun v8=>(m2 b (c.length:Int) (bY (fc b) (m2 b (c.length:Int) (bY (fc b) (m2 b (c.length:Int) (bY (fc b) (m2 b (c.length:Int) (bY (fc b) (m2 b (c.length:Int) (bY (fc b) (m2 b (c.length:Int) (bY (fc b) (m2 b (c.length:Int) (bY (fc b) (m2 b (c.length:Int) (bY (fc b) (m2 b (c.length:Int) (bY (fc b) (bY (fc b) (call (Z301.R ((bO.at c (toNat b)).fB.an.bU.aO,(i64.wrap ((i64.wrap ((i64.wrap ((i64.wrap ((i64.wrap ((i64.wrap ((i64.wrap ((i64.wrap (v8.1+1))+1))+1))+1))+1))+1))+1))+1)))) fun v9=>(m2 b (c.length:Int) (bY (fc b) (m2 b (c.length:Int) (bY (fc b) (bY (fc b) (call (Z301.R ((bO.at c (toNat b)).fB.an.bF.aO,(i64.wrap (v9.1+1)))) fun v10=>(m2 b (c.length:Int) (bY (fc b) (m2 b (c.length:Int) (bY (fc b) (m2 b (c.length:Int) (bY (fc b) (bY (fc b) (call (Z301.R ((bO.at c (toNat b)).fB.an.bC.aO,(i64.wrap ((i64.wrap (v10.1+1))+1)))) fun v11=>(m2 b (c.length:Int) (bY (fc b) (m2 b (c.length:Int) (bY (fc b) (m2 b (c.length:Int) (bY (fc b) (bY (fc b) (call (Z302.R ((bO.at c (toNat b)).fB.cP,(i64.wrap ((i64.wrap (v11.1+1))+1)))) fun v12=>J (.p0 v12.1 (i64.wrap (b+1)) (List.set c (toNat b) (bO.enc (⟨(⟨(⟨a,(i64.wrap (a+1)),(i64.wrap ((i64.wrap (a+1))+1)),(i64.wrap ((i64.wrap ((i64.wrap (a+1))+1))+1)),(i64.wrap ((i64.wrap ((i64.wrap ((i64.wrap (a+1))+1))+1))+1)),(i64.wrap ((i64.wrap ((i64.wrap ((i64.wrap ((i64.wrap (a+1))+1))+1))+1))+1)),(i64.wrap ((i64.wrap ((i64.wrap ((i64.wrap ((i64.wrap ((i64.wrap (a+1))+1))+1))+1))+1))+1)),(i64.wrap ((i64.wrap ((i64.wrap ((i64.wrap ((i64.wrap ((i64.wrap ((i64.wrap (a+1))+1))+1))+1))+1))+1))+1)),(⟨v1.2,v1.1⟩:dz),(⟨v2.2,v2.1⟩:dz),(i64.wrap (v2.1+1)),(⟨v3.2,v3.1⟩:dz),((Int.tmod (i64.wrap (v3.1+1)) 3)==0)⟩:dI),v4.2⟩:bf),(⟨(⟨v4.1,(i64.wrap (v4.1+1)),(i64.wrap ((i64.wrap (v4.1+1))+1)),(i64.wrap ((i64.wrap ((i64.wrap (v4.1+1))+1))+1)),(i64.wrap ((i64.wrap ((i64.wrap ((i64.wrap (v4.1+1))+1))+1))+1)),(i64.wrap ((i64.wrap ((i64.wrap ((i64.wrap ((i64.wrap (v4.1+1))+1))+1))+1))+1)),(i64.wrap ((i64.wrap ((i64.wrap ((i64.wrap ((i64.wrap ((i64.wrap (v4.1+1))+1))+1))+1))+1))+1)),(i64.wrap ((i64.wrap ((i64.wrap ((i64.wrap ((i64.wrap ((i64.wrap ((i64.wrap (v4.1+1))+1))+1))+1))+1))+1))+1)),(⟨v5.2,v5.1⟩:dz),(⟨v6.2,v6.1⟩:dz),(i64.wrap (v6.1+1)),(⟨v7.2,v7.1⟩:dz),((Int.tmod (i64.wrap (v7.1+1)) 3)==0)⟩:dI),v8.2⟩:bf),(⟨(⟨v8.1,(i64.wrap (v8.1+1)),(i64.wrap ((i64.wrap (v8.1+1))+1)),(i64.wrap ((i64.wrap ((i64.wrap (v8.1+1))+1))+1)),(i64.wrap ((i64.wrap ((i64.wrap ((i64.wrap (v8.1+1))+1))+1))+1)),(i64.wrap ((i64.wrap ((i64.wrap ((i64.wrap ((i64.wrap (v8.1+1))+1))+1))+1))+1)),(i64.wrap ((i64.wrap ((i64.wrap ((i64.wrap ((i64.wrap ((i64.wrap (v8.1+1))+1))+1))+1))+1))+1)),(i64.wrap ((i64.wrap ((i64.wrap ((i64.wrap ((i64.wrap ((i64.wrap ((i64.wrap (v8.1+1))+1))+1))+1))+1))+1))+1)),(⟨v9.2,v9.1⟩:dz),(⟨v10.2,v10.1⟩:dz),(i64.wrap (v10.1+1)),(⟨v11.2,v11.1⟩:dz),((Int.tmod (i64.wrap (v11.1+1)) 3)==0)⟩:dI),v12.2⟩:bf)⟩:bO))))))))))))))))))))))))))))))))))))))))))))))))))))))))))))))))))))))))))))))))))))))))))))))))))))))))))))))))))))))))))))))))) (ret ((a,c):Int×aB)))
def start (J:Pt->aI)(x0:aB)(x1:Int):aI:=J (.p0 x1 0 x0)
def live:Nat->Live:=fK [(2,gj [0,1,5])]
def pats:List (Bool×List K):=[(false,[.sl 180]),(false,[au])]
def res:RP:=.nR [180]
abbrev E:Env:={ T:=assoc lC,G:=dK [],nt:=493,M:=gm [(62,Z301.aT),(118,Z302.aT)],np:=1,mt:=true }
def step_eq (I:cJ)(p:Pt):dh E live I (pid p) (bI Tryz.f58) (fU (live (pid p)) (cu p) (cR p)) (cG E Tryz.f58 res)=step (fun q=>I (pid q) (cu q) (cR q)) p:=by
 cases p<;>kernel_rfl
def start_eq (I:cJ)(ls:List L):fH E live I (bI Tryz.f58) (ig pats ls) (cG E Tryz.f58 res)=start (fun q=>I (pid q) (cu q) (cR q)) (dc ls) (dH 1 ls):=by kernel_rfl
def run_eq (n:Nat)(ls:List L):eY E live Tryz.f58 res n (ig pats ls)=start (iter step n) (dc ls) (dH 1 ls):=cB (id:=pid) (vs:=cu) (hs:=cR) (step:=step) (start:=fun J=>start J (dc ls) (dH 1 ls)) step_eq (fun I=>start_eq I ls) n
def e1 (x:aG)(k:Int):=Z301.md ((((x.aN).an).bU).aO) (i64.wrap ((i64.wrap ((i64.wrap ((i64.wrap ((i64.wrap ((i64.wrap ((i64.wrap ((i64.wrap (k+1))+1))+1))+1))+1))+1))+1))+1))
def e2 (x:aG)(k:Int):=Z301.md ((((x.aN).an).bF).aO) (i64.wrap ((e1 x k).1+1))
def e3 (x:aG)(k:Int):=Z301.md ((((x.aN).an).bC).aO) (i64.wrap ((i64.wrap ((e2 x k).1+1))+1))
def e4 (x:aG)(k:Int):=Z302.md ((x.aN).cP) (i64.wrap ((i64.wrap ((e3 x k).1+1))+1))
def e5 (x:aG)(k:Int):=Z301.md ((((x.fA).an).bU).aO) (i64.wrap ((i64.wrap ((i64.wrap ((i64.wrap ((i64.wrap ((i64.wrap ((i64.wrap ((i64.wrap ((e4 x k).1+1))+1))+1))+1))+1))+1))+1))+1))
def e6 (x:aG)(k:Int):=Z301.md ((((x.fA).an).bF).aO) (i64.wrap ((e5 x k).1+1))
def e7 (x:aG)(k:Int):=Z301.md ((((x.fA).an).bC).aO) (i64.wrap ((i64.wrap ((e6 x k).1+1))+1))
def e8 (x:aG)(k:Int):=Z302.md ((x.fA).cP) (i64.wrap ((i64.wrap ((e7 x k).1+1))+1))
def e9 (x:aG)(k:Int):=Z301.md ((((x.fB).an).bU).aO) (i64.wrap ((i64.wrap ((i64.wrap ((i64.wrap ((i64.wrap ((i64.wrap ((i64.wrap ((i64.wrap ((e8 x k).1+1))+1))+1))+1))+1))+1))+1))+1))
def zl (x:aG)(k:Int):=Z301.md ((((x.fB).an).bF).aO) (i64.wrap ((e9 x k).1+1))
def zk (x:aG)(k:Int):=Z301.md ((((x.fB).an).bC).aO) (i64.wrap ((i64.wrap ((zl x k).1+1))+1))
def BF (x:aG)(k:Int):=Z302.md ((x.fB).cP) (i64.wrap ((i64.wrap ((zk x k).1+1))+1))
def el (x:aG)(k:Int):Int×aG:=((BF x k).1,(⟨(⟨(⟨k,(i64.wrap (k+1)),(i64.wrap ((i64.wrap (k+1))+1)),(i64.wrap ((i64.wrap ((i64.wrap (k+1))+1))+1)),(i64.wrap ((i64.wrap ((i64.wrap ((i64.wrap (k+1))+1))+1))+1)),(i64.wrap ((i64.wrap ((i64.wrap ((i64.wrap ((i64.wrap (k+1))+1))+1))+1))+1)),(i64.wrap ((i64.wrap ((i64.wrap ((i64.wrap ((i64.wrap ((i64.wrap (k+1))+1))+1))+1))+1))+1)),(i64.wrap ((i64.wrap ((i64.wrap ((i64.wrap ((i64.wrap ((i64.wrap ((i64.wrap (k+1))+1))+1))+1))+1))+1))+1)),(⟨(e1 x k).2,(e1 x k).1⟩:aR),(⟨(e2 x k).2,(e2 x k).1⟩:aR),(i64.wrap ((e2 x k).1+1)),(⟨(e3 x k).2,(e3 x k).1⟩:aR),((Int.tmod (i64.wrap ((e3 x k).1+1)) 3)==0)⟩:aF),(e4 x k).2⟩:aa),(⟨(⟨(e4 x k).1,(i64.wrap ((e4 x k).1+1)),(i64.wrap ((i64.wrap ((e4 x k).1+1))+1)),(i64.wrap ((i64.wrap ((i64.wrap ((e4 x k).1+1))+1))+1)),(i64.wrap ((i64.wrap ((i64.wrap ((i64.wrap ((e4 x k).1+1))+1))+1))+1)),(i64.wrap ((i64.wrap ((i64.wrap ((i64.wrap ((i64.wrap ((e4 x k).1+1))+1))+1))+1))+1)),(i64.wrap ((i64.wrap ((i64.wrap ((i64.wrap ((i64.wrap ((i64.wrap ((e4 x k).1+1))+1))+1))+1))+1))+1)),(i64.wrap ((i64.wrap ((i64.wrap ((i64.wrap ((i64.wrap ((i64.wrap ((i64.wrap ((e4 x k).1+1))+1))+1))+1))+1))+1))+1)),(⟨(e5 x k).2,(e5 x k).1⟩:aR),(⟨(e6 x k).2,(e6 x k).1⟩:aR),(i64.wrap ((e6 x k).1+1)),(⟨(e7 x k).2,(e7 x k).1⟩:aR),((Int.tmod (i64.wrap ((e7 x k).1+1)) 3)==0)⟩:aF),(e8 x k).2⟩:aa),(⟨(⟨(e8 x k).1,(i64.wrap ((e8 x k).1+1)),(i64.wrap ((i64.wrap ((e8 x k).1+1))+1)),(i64.wrap ((i64.wrap ((i64.wrap ((e8 x k).1+1))+1))+1)),(i64.wrap ((i64.wrap ((i64.wrap ((i64.wrap ((e8 x k).1+1))+1))+1))+1)),(i64.wrap ((i64.wrap ((i64.wrap ((i64.wrap ((i64.wrap ((e8 x k).1+1))+1))+1))+1))+1)),(i64.wrap ((i64.wrap ((i64.wrap ((i64.wrap ((i64.wrap ((i64.wrap ((e8 x k).1+1))+1))+1))+1))+1))+1)),(i64.wrap ((i64.wrap ((i64.wrap ((i64.wrap ((i64.wrap ((i64.wrap ((i64.wrap ((e8 x k).1+1))+1))+1))+1))+1))+1))+1)),(⟨(e9 x k).2,(e9 x k).1⟩:aR),(⟨(zl x k).2,(zl x k).1⟩:aR),(i64.wrap ((zl x k).1+1)),(⟨(zk x k).2,(zk x k).1⟩:aR),((Int.tmod (i64.wrap ((zk x k).1+1)) 3)==0)⟩:aF),(BF x k).2⟩:aa)⟩:aG))
def iY (x:aG)(k:Int)(hk:eS k):eS (el x k).1:=(Z302.iq (bS _))
def cnt (x:aG):Nat:=39+Z301.sum ((((x.aN).an).bU).aO)+Z301.sum ((((x.aN).an).bF).aO)+Z301.sum ((((x.aN).an).bC).aO)+Z302.sum ((x.aN).cP)+Z301.sum ((((x.fA).an).bU).aO)+Z301.sum ((((x.fA).an).bF).aO)+Z301.sum ((((x.fA).an).bC).aO)+Z302.sum ((x.fA).cP)+Z301.sum ((((x.fB).an).bU).aO)+Z301.sum ((((x.fB).an).bF).aO)+Z301.sum ((((x.fB).an).bC).aO)+Z302.sum ((x.fB).cP)
def sum (a:List aG):Nat:=(a.map cnt).sum
def md (a0:List aG)(a1:Int):Int×List aG:=jF el a0 a1
def gd (a0:List aG)(a1:Int):Prop:=eS a1
def acc (ls:List L):aB×Int:=((dc ls),(dH 1 ls))
def R:(aB×Int)->Option (Int×aB):=cm gd md
def ak {a0 a1}(h:gd a0 a1):R ((a0.map aG.row),a1)=some ((md a0 a1).1,((md a0 a1).2.map aG.row)):=cq h
def aT:gX:=MN pats acc R
def aY (a0:List aG)(a1:Int)(hg:gd a0 a1)(h0:a0.length<=maxLen):∃n,start (iter step n) (a0.map aG.row) a1=ret (((md a0 a1).1,((md a0 a1).2.map aG.row)):Int×aB):=by
 show ∃n,iter step n (Pt.p0 a1 0 (a0.map aG.row))=_
 refine gM (el:=el) (xs:=a0) aG.zero eS iY (pt:=fun i k c=>Pt.p0 k (i:Int) (c.map aG.row)) (out:=fun b=>ret (b.1,b.2.map aG.row)) (fun J i k c hi hc hk=>?_) (fun J k c hc=>?_) hg
 ·have hm:c.length<=maxLen:=hc ▸ h0
  simp only [step,SS]
  refine aj (aK hi) ?_
  repeat first | refine aj aD ?_ | refine aj (aK hi) ?_ | refine aj (gp _) ?_
  refine aU _ (Z301.ak (bS _)) ?_
  repeat first | refine aj aD ?_ | refine aj (aK hi) ?_ | refine aj (gp _) ?_
  refine aU _ (Z301.ak (bS _)) ?_
  repeat first | refine aj aD ?_ | refine aj (aK hi) ?_ | refine aj (gp _) ?_
  refine aU _ (Z301.ak (bS _)) ?_
  repeat first | refine aj aD ?_ | refine aj (aK hi) ?_ | refine aj (gp _) ?_
  refine aU _ (Z302.ak (bS _)) ?_
  repeat first | refine aj aD ?_ | refine aj (aK hi) ?_ | refine aj (gp _) ?_
  refine aU _ (Z301.ak (bS _)) ?_
  repeat first | refine aj aD ?_ | refine aj (aK hi) ?_ | refine aj (gp _) ?_
  refine aU _ (Z301.ak (bS _)) ?_
  repeat first | refine aj aD ?_ | refine aj (aK hi) ?_ | refine aj (gp _) ?_
  refine aU _ (Z301.ak (bS _)) ?_
  repeat first | refine aj aD ?_ | refine aj (aK hi) ?_ | refine aj (gp _) ?_
  refine aU _ (Z302.ak (bS _)) ?_
  repeat first | refine aj aD ?_ | refine aj (aK hi) ?_ | refine aj (gp _) ?_
  refine aU _ (Z301.ak (bS _)) ?_
  repeat first | refine aj aD ?_ | refine aj (aK hi) ?_ | refine aj (gp _) ?_
  refine aU _ (Z301.ak (bS _)) ?_
  repeat first | refine aj aD ?_ | refine aj (aK hi) ?_ | refine aj (gp _) ?_
  refine aU _ (Z301.ak (bS _)) ?_
  repeat first | refine aj aD ?_ | refine aj (aK hi) ?_ | refine aj (gp _) ?_
  refine aU _ (Z302.ak (bS _)) ?_
  rw [aH hi hm]
  exact congrArg (fun q=>J (Pt.p0 (el (c.getD i aG.zero) k).1 ((i+1:Nat):Int) q)) (List.map_set (f:=aG.row) (l:=c) (i:=i) (a:=(el (c.getD i aG.zero) k).2)).symm
 ·simp only [step,SS]
  refine cW dn ?_
  rfl
def af:fD Tryz.prog Ev 58 aT:=MV (run:=fun n x=>start (iter step n) x.1 x.2) mix aC .nil (.cons Z301.af (.cons Z302.af .nil)) Tryz.func58 (by kernel_rfl) run_eq (fun ls a hl e hg=>aY a.1 a.2 hg (by have h:(dc ls).length<=maxLen:=(hl _ _ (.head _)).len;have e:a.1.map aG.row=(dc ls):=(congrArg (fun x=>x.1) e.symm);rw [<-e] at h;simpa using h))
def iq {a0:List aG}{a1:Int}(h:eS a1):eS (md a0 a1).1:=ke iY h
def qK (x:aG)(k:Int)(h0:0<=k)(hb:k+(cnt x:Int)<=4611686018427387904):(el x k).1=k+cnt x:=by
 simp only [cnt,Int.natCast_add] at hb ⊢
 simp (disch:=omega) only [el,e1,e2,e3,e4,e5,e6,e7,e8,e9,zl,zk,BF,wi,Z301.kk,Z302.kk]
 all_goals first | done | omega
def kk (a0:List aG)(a1:Int)(h0:0<=a1)(hb:a1+(sum a0:Int)<=4611686018427387904):(md a0 a1).1=a1+sum a0:=iu qK a0 a1 h0 hb
def sz (a:List aG):sum a<=60*(eC (fun y:aG=>aG.size y) a):=ku (fun x=>by
 have:=Z301.sz ((((x.aN).an).bU).aO)
 have:=Z301.sz ((((x.aN).an).bF).aO)
 have:=Z301.sz ((((x.aN).an).bC).aO)
 have:=Z302.sz ((x.aN).cP)
 have:=Z301.sz ((((x.fA).an).bU).aO)
 have:=Z301.sz ((((x.fA).an).bF).aO)
 have:=Z301.sz ((((x.fA).an).bC).aO)
 have:=Z302.sz ((x.fA).cP)
 have:=Z301.sz ((((x.fB).an).bU).aO)
 have:=Z301.sz ((((x.fB).an).bF).aO)
 have:=Z301.sz ((((x.fB).an).bC).aO)
 have:=Z302.sz ((x.fB).cP)
 try simp only [cnt,aG.size,aa.size,aF.size,aR.size] at *
 omega) a
end Z305
namespace Z306
set_option maxHeartbeats 8000000
def F (x0:bA)(x1:Int):aI:=(call (Z304.R (x0.aM,x1)) fun v1=>(call (Z305.R (x0.bu,v1.1)) fun v2=>ret ((v2.1,v1.2,v2.2):Int×aB×aB)))
def pats:List (Bool×List K):=[(true,[.sl 120,.sl 180]),(false,[au])]
def res:RP:=.nR [120,180]
def e1 (x:aA)(k:Int):=Z304.md x.aM k
def e2 (x:aA)(k:Int):=Z305.md x.bu ((e1 x k).1)
def sum (x:aA):Nat:=0+Z304.sum x.aM+Z305.sum x.bu
def md (a0:aA)(a1:Int):Int×List (List aa)×List aG:=((e2 a0 a1).1,(e1 a0 a1).2,(e2 a0 a1).2)
def gd (a0:aA)(a1:Int):Prop:=eS a1
def acc (ls:List L):bA×Int:=((bA.dec ls),(dH 2 ls))
def R:(bA×Int)->Option (Int×aB×aB):=cm gd md
def ak {a0 a1}(h:gd a0 a1):R ((aA.r a0),a1)=some ((md a0 a1).1,((md a0 a1).2.1.map (eK aa.row)),((md a0 a1).2.2.map aG.row)):=cq h
def aT:gX:=MN pats acc R
def aY (a0:aA)(a1:Int)(hg:gd a0 a1):F (aA.r a0) a1=ret (((md a0 a1).1,((md a0 a1).2.1.map (eK aa.row)),((md a0 a1).2.2.map aG.row)):Int×aB×aB):=by
 simp only [F,SS]
 refine aU _ (Z304.ak hg) (aU _ (Z305.ak (Z304.iq hg)) ?_)
 rfl
def af:fD Tryz.prog Ev 20 aT:=MV (live:=fun _=>[]) (nt:=14) (run:=fun _ x=>F x.1 x.2) mix aC .nil (.cons Z304.af (.cons Z305.af .nil)) Tryz.func20 (by kernel_rfl) (fun _ _=>by kernel_rfl) (fun _ a _ _ hg=>⟨0,aY a.1 a.2 hg⟩)
def iq {a0:aA}{a1:Int}(hk:eS a1):eS (md a0 a1).1:=(Z305.iq (Z304.iq hk))
def kk (x:aA)(k:Int)(h0:0<=k)(hb:k+(sum x:Int)<=4611686018427387904):(md x k).1=k+sum x:=by
 simp only [sum,Int.natCast_add] at hb ⊢
 simp (disch:=omega) only [md,e1,e2,wi,Z304.kk,Z305.kk]
 all_goals first | done | omega
def sz (x:aA):sum x<=60*aA.size x:=by
 have:=Z304.sz x.aM
 have:=Z305.sz x.bu
 simp only [sum,aA.size] at *
 omega
def upd (x:aA)(k:Int):aA:=(⟨(md x k).2.1,(md x k).2.2⟩:aA)
end Z306
namespace Z307
inductive Pt where
 | p0 (a:Int) (b:aE)
def cu:Pt->List V
 | .p0 a b=>[.int .i64 a,.str b]
def step (J:Pt->aI):Pt->aI
 | .p0 a b=>(cond (a>0) (cond ((((vr [[L.int (IntKind.u8.wrap (i64.wrap (48+(Int.tmod a 10))))]]).size+b.size:Nat):Int)>9223372036854775807) none (J (.p0 (i64.wrap (Int.tdiv a 10)) ((vr [[L.int (IntKind.u8.wrap (i64.wrap (48+(Int.tmod a 10))))]])++b)))) (cond ((((⟨#[109]⟩:aE).size+b.size:Nat):Int)>9223372036854775807) none (ret (((⟨#[109]⟩:aE)++b):aE))))
def start (J:Pt->aI)(x0:Int):aI:=(cond (x0<=0) (ret ((⟨#[109,48]⟩):aE)) (J (.p0 x0 ⟨#[]⟩)))
def live:Nat->Live:=fK [(4,gj [0,3])]
def dg (a:Int):aE:=vr [[L.int (IntKind.u8.wrap (i64.wrap (48+(Int.tmod a 10))))]]
def txt:Nat->Int->aE->aE
 | 0,_,b=>b
 | n+1,a,b=>bif decide (a>0) then txt n (i64.wrap (Int.tdiv a 10)) (dg a++b) else b
def Bv (a:Int):(vr [[L.int (IntKind.u8.wrap (i64.wrap (48+(Int.tmod a 10))))]]).size=1:=rfl
def run:∀(n:Nat) (a:Int) (b:aE),n<=64->a<2^n->eS a->b.size+n<=1000->∃m,iter step m (.p0 a b)=ret ((⟨#[109]⟩:aE)++txt n a b)
 | 0,a,b,_,h1,_,h3=>by
  refine ⟨1,?_⟩
  show step _ (.p0 a b)=_
  have e1:decide (a>0)=false:=decide_eq_false (by simp at h1;omega)
  have e2:decide ((((⟨#[109]⟩:aE).size+b.size:Nat):Int)>9223372036854775807)=false:=decide_eq_false (by have :(⟨#[109]⟩:aE).size=1:=rfl;omega)
  simp only [step,e1,e2,aX]
  rfl
 | n+1,a,b,hn,h1,h2,h3=>by
  by_cases hp:a>0
  ·have e1:decide (a>0)=true:=decide_eq_true hp
   have hq:Int.tdiv a 10=a / 10:=Int.tdiv_eq_ediv_of_nonneg (by omega)
   unfold eS at h2
   have hw:i64.wrap (Int.tdiv a 10)=a / 10:=by rw [hq];exact wi _ (by omega)
   have hlt:a / 10<2^n:=by
    have :(2:Int)^(n+1)=2^n*2:=Int.pow_succ 2 n
    omega
   have hs:(dg a++b).size=1+b.size:=by rw [ByteArray.size_append];rfl
   obtain ⟨m,hm⟩:=run n (a / 10) (dg a++b) (by omega) hlt ⟨by omega,by omega⟩ (by rw [hs];omega)
   refine ⟨m+1,?_⟩
   show step _ (.p0 a b)=_
   have e2:decide ((((vr [[L.int (IntKind.u8.wrap (i64.wrap (48+(Int.tmod a 10))))]]).size+b.size:Nat):Int)>9223372036854775807)=false:=decide_eq_false (by rw [Bv];omega)
   simp only [step,txt,e1,e2,aZ,aX,hw]
   exact hm
  ·refine ⟨1,?_⟩
   show step _ (.p0 a b)=_
   have e1:decide (a>0)=false:=decide_eq_false hp
   have e2:decide ((((⟨#[109]⟩:aE).size+b.size:Nat):Int)>9223372036854775807)=false:=decide_eq_false (by have :(⟨#[109]⟩:aE).size=1:=rfl;omega)
   simp only [step,txt,e1,e2,aX]
def md (a0:Int):aE:=(cond (a0<=0) (⟨#[109,48]⟩) ((⟨#[109]⟩)++txt 64 a0 ⟨#[]⟩))
def gd (a0:Int):Prop:=eS a0
def R:=RR gd md
def ak {a0}(h:gd a0):R a0=some (md a0):=cV h
def aT:=CN [pI] oS RT.dec R
def aY (a0)(hg:gd a0):∃n,start (iter step n) a0=ret (md a0):=by
 unfold start md
 cases h:decide (a0<=0)
 ·have h2:=hg.2
  have h3:(2:Int)^64=18446744073709551616:=by decide
  obtain ⟨m,hm⟩:=run 64 a0 ⟨#[]⟩ (Nat.le_refl _) (by rw [h3];omega) hg (by show 0+64<=1000;omega)
  exact ⟨m,hm⟩
 ·exact ⟨0,rfl⟩
def af:cz 60 aT:=L1 20 (fun _=>4) cu (fun _=>[]) live step start mix aC aY .nil Tryz.func60
end Z307
namespace Z308
set_option maxHeartbeats 8000000
inductive Pt where
 | p0 (a b:Int) (c:aB)
def pid:Pt->Nat
 | .p0 ..=>2
def cu:Pt->List V
 | .p0 a b c=>[.own 0,.int .i64 a,.int .i64 b]
def cR:Pt->List aW
 | .p0 a b c=>[.row 9 c]
def step (J:Pt->aI):Pt->aI
 | .p0 a b c=>(cond (b<(c.length:Int)) (call (Z307.R a) fun v1=>(m2 b (c.length:Int) (J (.p0 (i64.wrap (a+1)) (i64.wrap (b+1)) (List.set c (toNat b) [L.str v1]))))) (ret ((a,c):Int×aB)))
def start (J:Pt->aI)(x0:aB)(x1:Int):aI:=J (.p0 x1 0 x0)
def live:Nat->Live:=fK [(2,gj [0,1,5])]
def pats:List (Bool×List K):=[(false,[.sl 9]),(false,[au])]
def res:RP:=.nR [9]
abbrev E:Env:={ T:=assoc lC,G:=dK [(60,Z307.aT)],nt:=20,M:=gm [],np:=1,mt:=true }
def step_eq (I:cJ)(p:Pt):dh E live I (pid p) (bI Tryz.f22) (fU (live (pid p)) (cu p) (cR p)) (cG E Tryz.f22 res)=step (fun q=>I (pid q) (cu q) (cR q)) p:=by
 cases p<;>kernel_rfl
def start_eq (I:cJ)(ls:List L):fH E live I (bI Tryz.f22) (ig pats ls) (cG E Tryz.f22 res)=start (fun q=>I (pid q) (cu q) (cR q)) (dc ls) (dH 1 ls):=by kernel_rfl
def run_eq (n:Nat)(ls:List L):eY E live Tryz.f22 res n (ig pats ls)=start (iter step n) (dc ls) (dH 1 ls):=cB (id:=pid) (vs:=cu) (hs:=cR) (step:=step) (start:=fun J=>start J (dc ls) (dH 1 ls)) step_eq (fun I=>start_eq I ls) n
def el (x:aE)(k:Int):Int×aE:=((i64.wrap (k+1)),(Z307.md k))
def iY (x:aE)(k:Int)(hk:eS k):eS (el x k).1:=(bS _)
def cnt (x:aE):Nat:=1
def sum (a:List aE):Nat:=(a.map cnt).sum
def md (a0:List aE)(a1:Int):Int×List aE:=jF el a0 a1
def gd (a0:List aE)(a1:Int):Prop:=eS a1
def acc (ls:List L):aB×Int:=((dc ls),(dH 1 ls))
def R:(aB×Int)->Option (Int×aB):=cm gd md
def ak {a0 a1}(h:gd a0 a1):R ((a0.map cX),a1)=some ((md a0 a1).1,((md a0 a1).2.map cX)):=cq h
def aT:gX:=MN pats acc R
def aY (a0:List aE)(a1:Int)(hg:gd a0 a1)(h0:a0.length<=maxLen):∃n,start (iter step n) (a0.map cX) a1=ret (((md a0 a1).1,((md a0 a1).2.map cX)):Int×aB):=by
 show ∃n,iter step n (Pt.p0 a1 0 (a0.map cX))=_
 refine gM (el:=el) (xs:=a0) ⟨#[]⟩ eS iY (pt:=fun i k c=>Pt.p0 k (i:Int) (c.map cX)) (out:=fun b=>ret (b.1,b.2.map cX)) (fun J i k c hi hc hk=>?_) (fun J k c hc=>?_) hg
 ·have hm:c.length<=maxLen:=hc ▸ h0
  simp only [step,SS]
  refine aj (aK hi) (aU _ (Z307.ak hk) ?_)
  refine aj aD (aj (aK hi) ?_)
  rw [aH hi hm]
  exact congrArg (fun q=>J (Pt.p0 (el (c.getD i ⟨#[]⟩) k).1 ((i+1:Nat):Int) q)) (List.map_set (f:=cX) (l:=c) (i:=i) (a:=(el (c.getD i ⟨#[]⟩) k).2)).symm
 ·simp only [step,SS]
  refine cW dn ?_
  rfl
def af:fD Tryz.prog Ev 22 aT:=MV (run:=fun n x=>start (iter step n) x.1 x.2) mix aC (cD Z307.af) .nil Tryz.func22 (by kernel_rfl) run_eq (fun ls a hl e hg=>aY a.1 a.2 hg (by have h:(dc ls).length<=maxLen:=(hl _ _ (.head _)).len;have e:a.1.map cX=(dc ls):=(congrArg (fun x=>x.1) e.symm);rw [<-e] at h;simpa using h))
def iq {a0:List aE}{a1:Int}(h:eS a1):eS (md a0 a1).1:=ke iY h
def qK (x:aE)(k:Int)(h0:0<=k)(hb:k+(cnt x:Int)<=4611686018427387904):(el x k).1=k+cnt x:=by
 simp only [cnt,Int.natCast_add] at hb ⊢
 simp (disch:=omega) only [el,wi]
 all_goals first | done | omega
def kk (a0:List aE)(a1:Int)(h0:0<=a1)(hb:a1+(sum a0:Int)<=4611686018427387904):(md a0 a1).1=a1+sum a0:=iu qK a0 a1 h0 hb
def sz (a:List aE):sum a<=60*(eC (fun y:aE=>y.size) a):=ku (fun x=>by
 try simp only [cnt] at *
 omega) a
end Z308
namespace Z309
set_option maxHeartbeats 8000000
inductive Pt where
 | p0 (a b:Int) (c:aB)
def pid:Pt->Nat
 | .p0 ..=>2
def cu:Pt->List V
 | .p0 a b c=>[.own 0,.int .i64 a,.int .i64 b]
def cR:Pt->List aW
 | .p0 a b c=>[.row 148 c]
def step (J:Pt->aI):Pt->aI
 | .p0 a b c=>(cond (b<(c.length:Int)) (m2 b (c.length:Int) (call (Z307.R (i64.wrap (a+1))) fun v1=>(m2 b (c.length:Int) (bY (fc b) (m2 b (c.length:Int) (bY (fc b) (bY (fc b) (call (Z303.R ((bP.at c (toNat b)).bk.aQ,(i64.wrap ((i64.wrap (a+1))+1)))) fun v2=>(m2 b (c.length:Int) (bY (fc b) (call (Z307.R (i64.wrap (v2.1+1))) fun v3=>(m2 b (c.length:Int) (bY (fc b) (m2 b (c.length:Int) (bY (fc b) (m2 b (c.length:Int) (bY (fc b) (m2 b (c.length:Int) (bY (fc b) (bY (fc b) (call (Z308.R ((bP.at c (toNat b)).bk.aS.bh,(i64.wrap ((i64.wrap ((i64.wrap ((i64.wrap (v2.1+1))+1))+1))+1)))) fun v4=>(m2 b (c.length:Int) (bY (fc b) (m2 b (c.length:Int) (bY (fc b) (bY (fc b) (call (Z301.R ((bP.at c (toNat b)).bk.dy.bh,(i64.wrap (v4.1+1)))) fun v5=>(m2 b (c.length:Int) (bY (fc b) (call (Z307.R (i64.wrap (v5.1+1))) fun v6=>(m2 b (c.length:Int) (bY (fc b) (m2 b (c.length:Int) (bY (fc b) (m2 b (c.length:Int) (bY (fc b) (m2 b (c.length:Int) (bY (fc b) (bY (fc b) (call (Z308.R ((bP.at c (toNat b)).bk.dA.aN.bh,(i64.wrap ((i64.wrap ((i64.wrap ((i64.wrap (v5.1+1))+1))+1))+1)))) fun v7=>(call (Z307.R v7.1) fun v8=>(m2 b (c.length:Int) (bY (fc b) (m2 b (c.length:Int) (bY (fc b) (m2 b (c.length:Int) (bY (fc b) (m2 b (c.length:Int) (bY (fc b) (bY (fc b) (call (Z308.R ((bP.at c (toNat b)).bk.dA.bT.bh,(i64.wrap ((i64.wrap ((i64.wrap (v7.1+1))+1))+1)))) fun v9=>(m2 b (c.length:Int) (bY (fc b) (m2 b (c.length:Int) (bY (fc b) (bY (fc b) (call (Z301.R ((bP.at c (toNat b)).bk.dA.dN.bh,(i64.wrap (v9.1+1)))) fun v10=>(m2 b (c.length:Int) (bY (fc b) (m2 b (c.length:Int) (bY (fc b) (bY (fc b) (call (Z301.R ((bP.at c (toNat b)).bk.dA.cA.bh,(i64.wrap (v10.1+1)))) fun v11=>J (.p0 v11.1 (i64.wrap (b+1)) (List.set c (toNat b) (bP.enc (⟨a,v1,(⟨v2.2,((Int.tmod v2.1 3)==0),(⟨v3,(i64.wrap ((i64.wrap (v2.1+1))+1)),(i64.wrap ((i64.wrap ((i64.wrap (v2.1+1))+1))+1)),v4.2⟩:bK),(⟨v4.1,v5.2⟩:dX),(⟨v5.1,(⟨v6,(i64.wrap ((i64.wrap (v5.1+1))+1)),(i64.wrap ((i64.wrap ((i64.wrap (v5.1+1))+1))+1)),v7.2⟩:bK),(⟨v8,(i64.wrap (v7.1+1)),(i64.wrap ((i64.wrap (v7.1+1))+1)),v9.2⟩:bK),(⟨v9.1,v10.2⟩:dX),(⟨v10.1,v11.2⟩:dX)⟩:ff)⟩:bq)⟩:bP))))))))))))))))))))))))))))))))))))))))))))))))))))))))))))))))))) (ret ((a,c):Int×aB)))
def start (J:Pt->aI)(x0:aB)(x1:Int):aI:=J (.p0 x1 0 x0)
def live:Nat->Live:=fK [(2,gj [0,1,5])]
def pats:List (Bool×List K):=[(false,[.sl 148]),(false,[au])]
def res:RP:=.nR [148]
abbrev E:Env:={ T:=assoc lC,G:=dK [(60,Z307.aT)],nt:=232,M:=gm [(117,Z303.aT),(22,Z308.aT),(62,Z301.aT)],np:=1,mt:=true }
def step_eq (I:cJ)(p:Pt):dh E live I (pid p) (bI Tryz.f59) (fU (live (pid p)) (cu p) (cR p)) (cG E Tryz.f59 res)=step (fun q=>I (pid q) (cu q) (cR q)) p:=by
 cases p<;>kernel_rfl
def start_eq (I:cJ)(ls:List L):fH E live I (bI Tryz.f59) (ig pats ls) (cG E Tryz.f59 res)=start (fun q=>I (pid q) (cu q) (cR q)) (dc ls) (dH 1 ls):=by kernel_rfl
def run_eq (n:Nat)(ls:List L):eY E live Tryz.f59 res n (ig pats ls)=start (iter step n) (dc ls) (dH 1 ls):=cB (id:=pid) (vs:=cu) (hs:=cR) (step:=step) (start:=fun J=>start J (dc ls) (dH 1 ls)) step_eq (fun I=>start_eq I ls) n
def e1 (x:av)(k:Int):=Z303.md ((x.bk).aQ) (i64.wrap ((i64.wrap (k+1))+1))
def e2 (x:av)(k:Int):=Z308.md (((x.bk).aS).bh) (i64.wrap ((i64.wrap ((i64.wrap ((i64.wrap ((e1 x k).1+1))+1))+1))+1))
def e3 (x:av)(k:Int):=Z301.md (((x.bk).dy).bh) (i64.wrap ((e2 x k).1+1))
def e4 (x:av)(k:Int):=Z308.md ((((x.bk).dA).aN).bh) (i64.wrap ((i64.wrap ((i64.wrap ((i64.wrap ((e3 x k).1+1))+1))+1))+1))
def e5 (x:av)(k:Int):=Z308.md ((((x.bk).dA).bT).bh) (i64.wrap ((i64.wrap ((i64.wrap ((e4 x k).1+1))+1))+1))
def e6 (x:av)(k:Int):=Z301.md ((((x.bk).dA).dN).bh) (i64.wrap ((e5 x k).1+1))
def e7 (x:av)(k:Int):=Z301.md ((((x.bk).dA).cA).bh) (i64.wrap ((e6 x k).1+1))
def el (x:av)(k:Int):Int×av:=((e7 x k).1,(⟨k,(Z307.md (i64.wrap (k+1))),(⟨(e1 x k).2,((Int.tmod (e1 x k).1 3)==0),(⟨(Z307.md (i64.wrap ((e1 x k).1+1))),(i64.wrap ((i64.wrap ((e1 x k).1+1))+1)),(i64.wrap ((i64.wrap ((i64.wrap ((e1 x k).1+1))+1))+1)),(e2 x k).2⟩:ah),(⟨(e2 x k).1,(e3 x k).2⟩:aL),(⟨(e3 x k).1,(⟨(Z307.md (i64.wrap ((e3 x k).1+1))),(i64.wrap ((i64.wrap ((e3 x k).1+1))+1)),(i64.wrap ((i64.wrap ((i64.wrap ((e3 x k).1+1))+1))+1)),(e4 x k).2⟩:ah),(⟨(Z307.md ((e4 x k).1)),(i64.wrap ((e4 x k).1+1)),(i64.wrap ((i64.wrap ((e4 x k).1+1))+1)),(e5 x k).2⟩:ah),(⟨(e5 x k).1,(e6 x k).2⟩:aL),(⟨(e6 x k).1,(e7 x k).2⟩:aL)⟩:bL)⟩:aq)⟩:av))
def iY (x:av)(k:Int)(hk:eS k):eS (el x k).1:=(Z301.iq (bS _))
def cnt (x:av):Nat:=16+Z303.sum ((x.bk).aQ)+Z308.sum (((x.bk).aS).bh)+Z301.sum (((x.bk).dy).bh)+Z308.sum ((((x.bk).dA).aN).bh)+Z308.sum ((((x.bk).dA).bT).bh)+Z301.sum ((((x.bk).dA).dN).bh)+Z301.sum ((((x.bk).dA).cA).bh)
def sum (a:List av):Nat:=(a.map cnt).sum
def md (a0:List av)(a1:Int):Int×List av:=jF el a0 a1
def gd (a0:List av)(a1:Int):Prop:=eS a1
def acc (ls:List L):aB×Int:=((dc ls),(dH 1 ls))
def R:(aB×Int)->Option (Int×aB):=cm gd md
def ak {a0 a1}(h:gd a0 a1):R ((a0.map av.row),a1)=some ((md a0 a1).1,((md a0 a1).2.map av.row)):=cq h
def aT:gX:=MN pats acc R
def aY (a0:List av)(a1:Int)(hg:gd a0 a1)(h0:a0.length<=maxLen):∃n,start (iter step n) (a0.map av.row) a1=ret (((md a0 a1).1,((md a0 a1).2.map av.row)):Int×aB):=by
 show ∃n,iter step n (Pt.p0 a1 0 (a0.map av.row))=_
 refine gM (el:=el) (xs:=a0) av.zero eS iY (pt:=fun i k c=>Pt.p0 k (i:Int) (c.map av.row)) (out:=fun b=>ret (b.1,b.2.map av.row)) (fun J i k c hi hc hk=>?_) (fun J k c hc=>?_) hg
 ·have hm:c.length<=maxLen:=hc ▸ h0
  simp only [step,SS]
  refine aj (aK hi) (aj aD ?_)
  refine aj (aK hi) (aU _ (Z307.ak (bS _)) ?_)
  repeat first | refine aj aD ?_ | refine aj (aK hi) ?_ | refine aj (gp _) ?_
  refine aU _ (Z303.ak (bS _)) (aj aD ?_)
  refine aj (aK hi) (aj (gp _) ?_)
  refine aU _ (Z307.ak (bS _)) ?_
  repeat first | refine aj aD ?_ | refine aj (aK hi) ?_ | refine aj (gp _) ?_
  refine aU _ (Z308.ak (bS _)) ?_
  repeat first | refine aj aD ?_ | refine aj (aK hi) ?_ | refine aj (gp _) ?_
  refine aU _ (Z301.ak (bS _)) (aj aD ?_)
  refine aj (aK hi) (aj (gp _) ?_)
  refine aU _ (Z307.ak (bS _)) ?_
  repeat first | refine aj aD ?_ | refine aj (aK hi) ?_ | refine aj (gp _) ?_
  refine aU _ (Z308.ak (bS _)) (aU _ (Z307.ak (Z308.iq (bS _))) ?_)
  repeat first | refine aj aD ?_ | refine aj (aK hi) ?_ | refine aj (gp _) ?_
  refine aU _ (Z308.ak (bS _)) ?_
  repeat first | refine aj aD ?_ | refine aj (aK hi) ?_ | refine aj (gp _) ?_
  refine aU _ (Z301.ak (bS _)) ?_
  repeat first | refine aj aD ?_ | refine aj (aK hi) ?_ | refine aj (gp _) ?_
  refine aU _ (Z301.ak (bS _)) ?_
  rw [aH hi hm]
  exact congrArg (fun q=>J (Pt.p0 (el (c.getD i av.zero) k).1 ((i+1:Nat):Int) q)) (List.map_set (f:=av.row) (l:=c) (i:=i) (a:=(el (c.getD i av.zero) k).2)).symm
 ·simp only [step,SS]
  refine cW dn ?_
  rfl
def af:fD Tryz.prog Ev 59 aT:=MV (run:=fun n x=>start (iter step n) x.1 x.2) mix aC (cD Z307.af) (.cons Z303.af (.cons Z308.af (.cons Z301.af .nil))) Tryz.func59 (by kernel_rfl) run_eq (fun ls a hl e hg=>aY a.1 a.2 hg (by have h:(dc ls).length<=maxLen:=(hl _ _ (.head _)).len;have e:a.1.map av.row=(dc ls):=(congrArg (fun x=>x.1) e.symm);rw [<-e] at h;simpa using h))
def iq {a0:List av}{a1:Int}(h:eS a1):eS (md a0 a1).1:=ke iY h
def qK (x:av)(k:Int)(h0:0<=k)(hb:k+(cnt x:Int)<=4611686018427387904):(el x k).1=k+cnt x:=by
 simp only [cnt,Int.natCast_add] at hb ⊢
 simp (disch:=omega) only [el,e1,e2,e3,e4,e5,e6,e7,wi,Z303.kk,Z308.kk,Z301.kk]
 all_goals first | done | omega
def kk (a0:List av)(a1:Int)(h0:0<=a1)(hb:a1+(sum a0:Int)<=4611686018427387904):(md a0 a1).1=a1+sum a0:=iu qK a0 a1 h0 hb
def sz (a:List av):sum a<=60*(eC (fun y:av=>av.size y) a):=ku (fun x=>by
 have:=Z303.sz ((x.bk).aQ)
 have:=Z308.sz (((x.bk).aS).bh)
 have:=Z301.sz (((x.bk).dy).bh)
 have:=Z308.sz ((((x.bk).dA).aN).bh)
 have:=Z308.sz ((((x.bk).dA).bT).bh)
 have:=Z301.sz ((((x.bk).dA).dN).bh)
 have:=Z301.sz ((((x.bk).dA).cA).bh)
 try simp only [cnt,av.size,aq.size,ah.size,aL.size,bL.size] at *
 omega) a
end Z309
namespace Z310
set_option maxHeartbeats 8000000
def F (x0:cH)(x1:Int):aI:=(call (Z309.R (x0.aO,x1)) fun v1=>ret ((v1.1,v1.2):Int×aB))
def pats:List (Bool×List K):=[(true,[.sl 148]),(false,[au])]
def res:RP:=.nR [148]
def e1 (x:aJ)(k:Int):=Z309.md x.aO k
def sum (x:aJ):Nat:=0+Z309.sum x.aO
def md (a0:aJ)(a1:Int):Int×List av:=((e1 a0 a1).1,(e1 a0 a1).2)
def gd (a0:aJ)(a1:Int):Prop:=eS a1
def acc (ls:List L):cH×Int:=((cH.dec ls),(dH 1 ls))
def R:(cH×Int)->Option (Int×aB):=cm gd md
def ak {a0 a1}(h:gd a0 a1):R ((aJ.r a0),a1)=some ((md a0 a1).1,((md a0 a1).2.map av.row)):=cq h
def aT:gX:=MN pats acc R
def aY (a0:aJ)(a1:Int)(hg:gd a0 a1):F (aJ.r a0) a1=ret (((md a0 a1).1,((md a0 a1).2.map av.row)):Int×aB):=by
 simp only [F,SS]
 refine aU _ (Z309.ak hg) ?_
 rfl
def af:fD Tryz.prog Ev 21 aT:=MV (live:=fun _=>[]) (nt:=10) (run:=fun _ x=>F x.1 x.2) mix aC .nil (.cons Z309.af .nil) Tryz.func21 (by kernel_rfl) (fun _ _=>by kernel_rfl) (fun _ a _ _ hg=>⟨0,aY a.1 a.2 hg⟩)
def iq {a0:aJ}{a1:Int}(hk:eS a1):eS (md a0 a1).1:=(Z309.iq hk)
def kk (x:aJ)(k:Int)(h0:0<=k)(hb:k+(sum x:Int)<=4611686018427387904):(md x k).1=k+sum x:=by
 simp only [sum,Int.natCast_add] at hb ⊢
 simp (disch:=omega) only [md,e1,wi,Z309.kk]
 all_goals first | done | omega
def sz (x:aJ):sum x<=60*aJ.size x:=by
 have:=Z309.sz x.aO
 simp only [sum,aJ.size] at *
 omega
def upd (x:aJ)(k:Int):aJ:=(⟨(md x k).2⟩:aJ)
end Z310
namespace Z311
set_option maxHeartbeats 8000000
inductive Pt where
 | p0 (a b:Int) (c:aB)
def pid:Pt->Nat
 | .p0 ..=>2
def cu:Pt->List V
 | .p0 a b c=>[.own 0,.int .i64 a,.int .i64 b]
def cR:Pt->List aW
 | .p0 a b c=>[.row 38 c]
def step (J:Pt->aI):Pt->aI
 | .p0 a b c=>(cond (b<(c.length:Int)) (call (Z307.R a) fun v1=>(m2 b (c.length:Int) (m2 b (c.length:Int) (bY (fc b) (m2 b (c.length:Int) (bY (fc b) (m2 b (c.length:Int) (bY (fc b) (bY (fc b) (call (Z308.R ((bK.at c (toNat b)).bh,(i64.wrap ((i64.wrap ((i64.wrap (a+1))+1))+1)))) fun v2=>J (.p0 v2.1 (i64.wrap (b+1)) (List.set c (toNat b) (bK.enc (⟨v1,(i64.wrap (a+1)),(i64.wrap ((i64.wrap (a+1))+1)),v2.2⟩:bK)))))))))))))) (ret ((a,c):Int×aB)))
def start (J:Pt->aI)(x0:aB)(x1:Int):aI:=J (.p0 x1 0 x0)
def live:Nat->Live:=fK [(2,gj [0,1,5])]
def pats:List (Bool×List K):=[(false,[.sl 38]),(false,[au])]
def res:RP:=.nR [38]
abbrev E:Env:={ T:=assoc lC,G:=dK [(60,Z307.aT)],nt:=42,M:=gm [(22,Z308.aT)],np:=1,mt:=true }
def step_eq (I:cJ)(p:Pt):dh E live I (pid p) (bI Tryz.f152) (fU (live (pid p)) (cu p) (cR p)) (cG E Tryz.f152 res)=step (fun q=>I (pid q) (cu q) (cR q)) p:=by
 cases p<;>kernel_rfl
def start_eq (I:cJ)(ls:List L):fH E live I (bI Tryz.f152) (ig pats ls) (cG E Tryz.f152 res)=start (fun q=>I (pid q) (cu q) (cR q)) (dc ls) (dH 1 ls):=by kernel_rfl
def run_eq (n:Nat)(ls:List L):eY E live Tryz.f152 res n (ig pats ls)=start (iter step n) (dc ls) (dH 1 ls):=cB (id:=pid) (vs:=cu) (hs:=cR) (step:=step) (start:=fun J=>start J (dc ls) (dH 1 ls)) step_eq (fun I=>start_eq I ls) n
def e1 (x:ah)(k:Int):=Z308.md x.bh (i64.wrap ((i64.wrap ((i64.wrap (k+1))+1))+1))
def el (x:ah)(k:Int):Int×ah:=((e1 x k).1,(⟨(Z307.md k),(i64.wrap (k+1)),(i64.wrap ((i64.wrap (k+1))+1)),(e1 x k).2⟩:ah))
def iY (x:ah)(k:Int)(hk:eS k):eS (el x k).1:=(Z308.iq (bS _))
def cnt (x:ah):Nat:=3+Z308.sum x.bh
def sum (a:List ah):Nat:=(a.map cnt).sum
def md (a0:List ah)(a1:Int):Int×List ah:=jF el a0 a1
def gd (a0:List ah)(a1:Int):Prop:=eS a1
def acc (ls:List L):aB×Int:=((dc ls),(dH 1 ls))
def R:(aB×Int)->Option (Int×aB):=cm gd md
def ak {a0 a1}(h:gd a0 a1):R ((a0.map ah.row),a1)=some ((md a0 a1).1,((md a0 a1).2.map ah.row)):=cq h
def aT:gX:=MN pats acc R
def aY (a0:List ah)(a1:Int)(hg:gd a0 a1)(h0:a0.length<=maxLen):∃n,start (iter step n) (a0.map ah.row) a1=ret (((md a0 a1).1,((md a0 a1).2.map ah.row)):Int×aB):=by
 show ∃n,iter step n (Pt.p0 a1 0 (a0.map ah.row))=_
 refine gM (el:=el) (xs:=a0) ah.zero eS iY (pt:=fun i k c=>Pt.p0 k (i:Int) (c.map ah.row)) (out:=fun b=>ret (b.1,b.2.map ah.row)) (fun J i k c hi hc hk=>?_) (fun J k c hc=>?_) hg
 ·have hm:c.length<=maxLen:=hc ▸ h0
  simp only [step,SS]
  refine aj (aK hi) (aU _ (Z307.ak hk) ?_)
  repeat first | refine aj aD ?_ | refine aj (aK hi) ?_ | refine aj (gp _) ?_
  refine aU _ (Z308.ak (bS _)) ?_
  rw [aH hi hm]
  exact congrArg (fun q=>J (Pt.p0 (el (c.getD i ah.zero) k).1 ((i+1:Nat):Int) q)) (List.map_set (f:=ah.row) (l:=c) (i:=i) (a:=(el (c.getD i ah.zero) k).2)).symm
 ·simp only [step,SS]
  refine cW dn ?_
  rfl
def af:fD Tryz.prog Ev 152 aT:=MV (run:=fun n x=>start (iter step n) x.1 x.2) mix aC (cD Z307.af) (.cons Z308.af .nil) Tryz.func152 (by kernel_rfl) run_eq (fun ls a hl e hg=>aY a.1 a.2 hg (by have h:(dc ls).length<=maxLen:=(hl _ _ (.head _)).len;have e:a.1.map ah.row=(dc ls):=(congrArg (fun x=>x.1) e.symm);rw [<-e] at h;simpa using h))
def iq {a0:List ah}{a1:Int}(h:eS a1):eS (md a0 a1).1:=ke iY h
def qK (x:ah)(k:Int)(h0:0<=k)(hb:k+(cnt x:Int)<=4611686018427387904):(el x k).1=k+cnt x:=by
 simp only [cnt,Int.natCast_add] at hb ⊢
 simp (disch:=omega) only [el,e1,wi,Z308.kk]
 all_goals first | done | omega
def kk (a0:List ah)(a1:Int)(h0:0<=a1)(hb:a1+(sum a0:Int)<=4611686018427387904):(md a0 a1).1=a1+sum a0:=iu qK a0 a1 h0 hb
def sz (a:List ah):sum a<=60*(eC (fun y:ah=>ah.size y) a):=ku (fun x=>by
 have:=Z308.sz x.bh
 try simp only [cnt,ah.size] at *
 omega) a
end Z311
end Go.DM
end
