/- What the functions compute that the law reaches, and that the law returns true. Conditions: none. -/
import Derived.Test.YtojkbdgmandmpaaGreatLDecisionsTy
import Derived.Test.YtojkbdgmandmpaaGreatLDecisionsFnB
set_option linter.all false
set_option maxRecDepth 100000
noncomputable section
namespace Go.DM
open Go.Proofs
open Go.IntKind (i64)
open Int (toNat)
open Nat (le_trans zero_le)
namespace Z156
def F (x0 x1 x2:an):aD:=(call (Z144.R x1) fun v1=>(call (Z147.R x1) fun v2=>(cond ((v1.length:Int)==0) (ret ((⟨5,(⟨(⟨#[]⟩:av),0,0,[]⟩:aC),v2⟩:aO):aO)) (call (Z152.R (x0,x2)) fun v3=>(cX ((0:Int)<(v1.length:Int)) (cX ((0:Int)<((jT v1 0).length:Int)) (cX ((0:Int)<=(iE (jT v1 0) 0)) (cX ((iE (jT v1 0) 0)<(x1.length:Int)) (cond v3.2 (call (Z155.R (x1,v3.1)) fun v4=>(cond v4 (ret ((⟨1,v3.1,v2⟩:aO):aO)) (cond v3.2 (ret ((⟨3,(⟨(⟨#[]⟩:av),0,0,[]⟩:aC),v2⟩:aO):aO)) (cond ((v1.length:Int)>=2) (ret ((⟨3,(⟨(⟨#[]⟩:av),0,0,[]⟩:aC),v2⟩:aO):aO)) (cond ((bL.at x1 (toNat (iE (jT v1 0) 0))).bB != 1) (ret ((⟨4,(⟨(⟨#[]⟩:av),0,0,[]⟩:aC),v2⟩:aO):aO)) (call (Z146.R ((bL.at x1 (toNat (iE (jT v1 0) 0))).aE)) fun v5=>ret ((⟨2,v5,v2⟩:aO):aO))))))) (cond v3.2 (ret ((⟨3,(⟨(⟨#[]⟩:av),0,0,[]⟩:aC),v2⟩:aO):aO)) (cond ((v1.length:Int)>=2) (ret ((⟨3,(⟨(⟨#[]⟩:av),0,0,[]⟩:aC),v2⟩:aO):aO)) (cond ((bL.at x1 (toNat (iE (jT v1 0) 0))).bB != 1) (ret ((⟨4,(⟨(⟨#[]⟩:av),0,0,[]⟩:aC),v2⟩:aO):aO)) (call (Z146.R ((bL.at x1 (toNat (iE (jT v1 0) 0))).aE)) fun v6=>ret ((⟨2,v6,v2⟩:aO):aO))))))))))))))
def md (a0:List aj)(a1:List ak)(a2:List av):aA:=(cond (((Z144.md a1).length:Int)==0) (⟨5,(⟨((⟨#[]⟩:av):av),0,0,[]⟩:aa),(Z147.md a1)⟩:aA) (cond ((Z152.md a0 a2).2) (cond (Z155.md a1 ((Z152.md a0 a2).1)) (⟨1,(Z152.md a0 a2).1,(Z147.md a1)⟩:aA) (cond ((Z152.md a0 a2).2) (⟨3,(⟨((⟨#[]⟩:av):av),0,0,[]⟩:aa),(Z147.md a1)⟩:aA) (cond (((Z144.md a1).length:Int)>=2) (⟨3,(⟨((⟨#[]⟩:av):av),0,0,[]⟩:aa),(Z147.md a1)⟩:aA) (cond ((a1.getD (toNat (((Z144.md a1).getD 0 []).getD 0 0)) ak.zero).bB != 1) (⟨4,(⟨((⟨#[]⟩:av):av),0,0,[]⟩:aa),(Z147.md a1)⟩:aA) (⟨2,((a1.getD (toNat (((Z144.md a1).getD 0 []).getD 0 0)) ak.zero).aE),(Z147.md a1)⟩:aA))))) (cond ((Z152.md a0 a2).2) (⟨3,(⟨((⟨#[]⟩:av):av),0,0,[]⟩:aa),(Z147.md a1)⟩:aA) (cond (((Z144.md a1).length:Int)>=2) (⟨3,(⟨((⟨#[]⟩:av):av),0,0,[]⟩:aa),(Z147.md a1)⟩:aA) (cond ((a1.getD (toNat (((Z144.md a1).getD 0 []).getD 0 0)) ak.zero).bB != 1) (⟨4,(⟨((⟨#[]⟩:av):av),0,0,[]⟩:aa),(Z147.md a1)⟩:aA) (⟨2,((a1.getD (toNat (((Z144.md a1).getD 0 []).getD 0 0)) ak.zero).aE),(Z147.md a1)⟩:aA))))))
def gd (a0:List aj)(a1:List ak)(a2:List av):Prop:=(bn (2^21) (fun y:aj=>aj.Sm (2^21) y) a0)/\(bn (2^21) (fun y:ak=>ak.Sm (2^21) y) a1)/\(bn (2^21) (fun y:av=>y.size<=(2^21)) a2)
def R:=ot gd md
def aq {a0 a1 a2}(h:gd a0 a1 a2):R ((a0.map aj.row),(a1.map ak.row),(a2.map bY))=some (aA.r (md a0 a1 a2)):=nZ h
def aV:=CN [pL 114,pL 67,pL 9] (.agg f56) RT.dec R
def bH (a0)(a1)(a2)(hg:gd a0 a1 a2):F (a0.map aj.row) (a1.map ak.row) (a2.map bY)=ret (aA.r (md a0 a1 a2)):=by
 obtain ⟨H0,H1,H2⟩:=hg
 unfold F md
 try simp only [SS]
 refine ct (Z144.aq H1) ?_
 try simp only [SS]
 have fv1_:=Z144.fa a1
 refine ct (Z147.aq H1) ?_
 try simp only [SS]
 refine au (fun b:aA=>ret ((aA.r b):aO)) (fun c1=>?_) (fun c1=>?_)
 ·all_goals exact fz
 ·have dc1:=c1
  try simp only [DC] at dc1
  refine ct (Z152.aq ⟨H0,H2⟩) ?_
  try simp only [SS]
  refine aW dt ?_
  refine aW dt ?_
  refine aW dt ?_
  refine aW (have:=(H1).1;dt) ?_
  refine au (fun b:aA=>ret ((aA.r b):aO)) (fun c2=>?_) (fun c2=>?_)
  ·refine ct (Z155.aq ⟨H1,(Z152.fY (a0:=a0) (a1:=a2) ⟨H0,H2⟩)⟩) ?_
   refine au (fun b:aA=>ret ((aA.r b):aO)) (fun c3=>?_) (fun c3=>?_)
   ·all_goals exact fz
   ·refine au (fun b:aA=>ret ((aA.r b):aO)) (fun c4=>?_) (fun c4=>?_)
    ·all_goals exact fz
    ·refine au (fun b:aA=>ret ((aA.r b):aO)) (fun c5=>?_) (fun c5=>?_)
     ·all_goals exact fz
     ·have dc5:=c5
      try simp only [DC] at dc5
      refine au (fun b:aA=>ret ((aA.r b):aO)) (fun c6=>?_) (fun c6=>?_)
      ·all_goals exact fz
      ·have dc6:=c6
       try simp only [DC] at dc6
       refine ct (Z146.aq (bn.getD (z:=ak.zero) H1 (by first | assumption | omega | (simp (disch:=omega) only [wi];omega) | (simp;omega))).2.1) ?_
       try simp only [SS]
       all_goals exact fz
  ·refine au (fun b:aA=>ret ((aA.r b):aO)) (fun c7=>?_) (fun c7=>?_)
   ·all_goals exact fz
   ·refine au (fun b:aA=>ret ((aA.r b):aO)) (fun c8=>?_) (fun c8=>?_)
    ·all_goals exact fz
    ·have dc8:=c8
     try simp only [DC] at dc8
     refine au (fun b:aA=>ret ((aA.r b):aO)) (fun c9=>?_) (fun c9=>?_)
     ·all_goals exact fz
     ·have dc9:=c9
      try simp only [DC] at dc9
      refine ct (Z146.aq (bn.getD (z:=ak.zero) H1 (by first | assumption | omega | (simp (disch:=omega) only [wi];omega) | (simp;omega))).2.1) ?_
      try simp only [SS]
      all_goals exact fz
def ah:cY 23 aV:=W3 64 F mix aJ bH (xY Z144.ah Z147.ah Z152.ah Z155.ah Z146.ah) Tryz.func23
def br (a0:List aj)(a1:List ak)(a2:List av):md a0 a1 a2=Z139.md a0 a1 a2:=by
 have ho:∀e:aa,Z155.md a1 e=Z138.md a1 e:=by
  intro e
  rw [Z155.any_eq]
  unfold Z138.md
  rw [rP (p:=fun y=>Z153.md y e) (fun x s=>?_)]
  ·cases a1.any fun y=>Z153.md y e<;>rfl
  ·unfold Z153.md
   rw [Z142.md_eq,Z110.md_eq]
   cases (x.bB==1)<;>rfl
 have hd:∀n:Int,decide (n>=2)=decide (n>1):=fun n=>by
  by_cases h:n>=2
  ·rw [decide_eq_true h,decide_eq_true (by omega)]
  ·rw [decide_eq_false h,decide_eq_false (by omega)]
 unfold md Z139.md
 rw [Z144.br,Z147.br,Z152.br,ho,hd]
end Z156
namespace Z157
inductive Pt where
 | p0 (a b:an) (c d:Int)
def pid:Pt->Nat
 | .p0 ..=>4
def cZ:Pt->List V
 | .p0 a b c d=>[.sl none 53 a,.fn 28 [],.sl none 53 b,.int .i64 c,.int .i64 d]
def eD:Pt->List aK
 | .p0 a b c d=>[]
def step (J:Pt->aD):Pt->aD
 | .p0 a b c d=>(cond (d<c) (m2 d (b.length:Int) (m2 d (a.length:Int) (call (Z142.R ((aC.at b (toNat d)),(aC.at a (toNat d)))) fun v1=>(cond (!v1) aS (J (.p0 a b c (i64.wrap (d+1)))))))) ff)
def start (J:Pt->aD)(x0 x1:an):aD:=(cond ((x0.length:Int) != (x1.length:Int)) aS (J (.p0 x1 x0 (x0.length:Int) 0)))
def live:Nat->Live:=iD [(4,mN [1,2,15,16,17])]
def pats:List fH:=[.rd (.sl 53),.rd (.sl 53),.fn 28 []]
def res:RP:=.one (.rd (.bool))
abbrev E:Env:={ T:=assoc mD,G:=cN [(28,Z142.aV)],nt:=32 }
def step_eq (I:dK)(p:Pt):dP E live I (pid p) (bQ Tryz.f116) (jr (live (pid p)) (cZ p) (eD p)) (dG E Tryz.f116 res)=step (fun q=>I (pid q) (cZ q) (eD q)) p:=by
 cases p<;>kernel_rfl
def start_eq (I:dK)(ls:List L):gU E live I (bQ Tryz.f116) (dS pats ls) (dG E Tryz.f116 res)=start (fun q=>I (pid q) (cZ q) (eD q)) (fc ls) (gS 1 ls):=by kernel_rfl
def run_eq (n:Nat)(ls:List L):eS E live Tryz.f116 res n (dS pats ls)=start (iter step n) (fc ls) (gS 1 ls):=dM (id:=pid) (vs:=cZ) (hs:=eD) (step:=step) (start:=fun J=>start J (fc ls) (gS 1 ls)) step_eq (fun I=>start_eq I ls) n
def md (a0 a1:List aa):Bool:=(bif ((a0.length:Int) != (a1.length:Int)) then (false:Bool) else (eW (S:=Unit) (β:=Bool) (fun (i2:Nat) (s4:Unit)=>(cond (!(Z142.md (a0.getD i2 aa.zero) (a1.getD i2 aa.zero))) (.inr (false:Bool)) (.inl ()))) (fun (s4:Unit)=>(true:Bool)) a0.length 0 ()))
def gd (a0 a1:List aa):Prop:=(bn (2^21) (fun y:aa=>aa.Sm (2^21) y) a0)/\(bn (2^21) (fun y:aa=>aa.Sm (2^21) y) a1)
def acc (ls:List L):an×an:=((fc ls),(gS 1 ls))
def R:(an×an)->Option Bool:=eA gd md
def aq {a0 a1}(h:gd a0 a1):R ((a0.map aa.row),(a1.map aa.row))=some (md a0 a1):=eB h
def aV:gW:=CN pats res acc R
def bH (a0 a1:List aa)(hg:gd a0 a1):∃n,start (iter step n) (a0.map aa.row) (a1.map aa.row)=ret ((md a0 a1):Bool):=by
 obtain ⟨H0,H1⟩:=hg
 unfold start md
 try simp only [SS]
 refine iG ret (fun _=>⟨0,rfl⟩) (fun c1=>?_)
 have dc1:=c1
 try simp only [DC] at dc1
 have Bh3:a0.length<=maxLen:=(by
   have:=(H0).1
   try simp only [maxLen] at *
   omega)
 refine dW (p:=Pt.p0 (a1.map aa.row) (a0.map aa.row) (a0.length:Int) 0) fz ?_
 refine bV (pt:=fun (i2:Nat) (s4:Unit)=>Pt.p0 (a1.map aa.row) (a0.map aa.row) (a0.length:Int) (i2:Int)) (s:=(():Unit)) (out:=ret) (fun _ _=>True) (fun J i2 s4 h3 hih3=>?_) (fun s4 hih3=>?_) trivial
 ·simp only [step,SS]
  have bb_:=Bh3
  simp only [maxLen] at bb_
  have:=(H0).1
  refine bf.yes (by apply decide_eq_true;omega) ?_
  refine bf.yes bA ?_
  refine bf.yes (bU h3) ?_
  refine bf.yes bA ?_
  refine bf.yes (have:=(H1).1;dt) ?_
  refine cr (Z142.aq ⟨(bn.getD (z:=aa.zero) H0 h3),(bn.getD (z:=aa.zero) H1 (by first | assumption | omega | (simp (disch:=omega) only [wi];omega) | (simp;omega)))⟩) ?_
  refine bf.bif (fun _=>bf.inr rfl) (fun c5=>?_)
  refine bf.inl trivial ?_
  rw [aR h3 Bh3]
  all_goals exact fz
 ·simp only [step,SS]
  have:=(H0).1
  refine dQ (by apply decide_eq_false;omega) ?_
  refine ⟨0,?_⟩
  all_goals exact fz
def ah:cY 116 aV:=VV (run:=fun n x=>start (iter step n) x.1 x.2) mix aJ (dV Z142.ah) Tryz.func116 (by kernel_rfl) run_eq (fun _ a _ _ hg=>bH a.1 a.2 hg)
def md_eq (a0 a1:List aa):md a0 a1=pY a0 a1:=by
 unfold md
 refine pF (aa.zero) (fun i s h h2=>?_) (fun s=>rfl)
 simp only [bne,rG,bool_beq,nT,Z142.md_eq]
 cases pY _ _<;>rfl
end Z157
namespace Z158
def F (x0 x1:an):aD:=(call (Z157.R (x0,x1)) fun v1=>ret (v1:Bool))
def md (a0 a1:List aa):Bool:=((Z157.md a0 a1):Bool)
def gd (a0 a1:List aa):Prop:=(bn (2^21) (fun y:aa=>aa.Sm (2^21) y) a0)/\(bn (2^21) (fun y:aa=>aa.Sm (2^21) y) a1)
def R:=eA gd md
def aq {a0 a1}(h:gd a0 a1):R ((a0.map aa.row),(a1.map aa.row))=some (md a0 a1):=eB h
def aV:=CN [pL 53,pL 53] oB RT.dec R
def bH (a0)(a1)(hg:gd a0 a1):F (a0.map aa.row) (a1.map aa.row)=ret (md a0 a1):=by
 obtain ⟨H0,H1⟩:=hg
 unfold F md
 try simp only [SS]
 refine ct (Z157.aq ⟨H0,H1⟩) ?_
 all_goals exact fz
def ah:cY 65 aV:=W2 8 F mix aJ bH (dV Z157.ah) Tryz.func65
def md_eq (a0 a1:List aa):md a0 a1=pY a0 a1:=by
 unfold md
 rw [Z157.md_eq]
end Z158
namespace Z159
def F (x0 x1:aO):aD:=(cond (x0.bB==x1.bB) (call (Z142.R (x0.aE,x1.aE)) fun v1=>(cond v1 (call (Z158.R (x0.eN,x1.eN)) fun v2=>ret (v2:Bool)) aS)) aS)
def md (a0 a1:aA):Bool:=(cond (a0.bB==a1.bB) (cond (Z142.md a0.aE a1.aE) ((Z158.md a0.eN a1.eN):Bool) (false:Bool)) (false:Bool))
def gd (a0 a1:aA):Prop:=(aA.Sm (2^21) a0)/\(aA.Sm (2^21) a1)
def R:=eA gd md
def aq {a0 a1}(h:gd a0 a1):R ((aA.r a0),(aA.r a1))=some (md a0 a1):=eB h
def aV:=CN [.agg Eb,.agg Eb] oB RT.dec R
def bH (a0)(a1)(hg:gd a0 a1):F (aA.r a0) (aA.r a1)=ret (md a0 a1):=by
 obtain ⟨H0,H1⟩:=hg
 unfold F md
 try simp only [SS]
 refine au ret (fun c1=>?_) (fun _=>rfl)
 refine ct (Z142.aq ⟨H0.1,H1.1⟩) ?_
 refine au ret (fun c2=>?_) (fun _=>rfl)
 refine ct (Z158.aq ⟨H0.2,H1.2⟩) ?_
 all_goals exact fz
def ah:cY 24 aV:=W2 24 F mix aJ bH (gH Z142.ah Z158.ah) Tryz.func24
def md_eq (a0 a1:aA):md a0 a1=pY a0 a1:=by
 unfold md
 cases a0;cases a1
 rw [Bool.eq_iff_iff]
 simp [fm,nT,aA.mk.injEq,Z142.md_eq,Z158.md_eq]
 try (constructor<;>(intro h;simp_all))
end Z159
namespace Z160
def F (x0 x1 x2:Int):aD:=(cond (x1<=x0) (ret ((decide (x0<=x2)):Bool)) aS)
def md (a0 a1 a2:Int):Bool:=(cond (a1<=a0) ((decide (a0<=a2)):Bool) (false:Bool))
def gd (a0 a1 a2:Int):Prop:=True
def R:=ot gd md
def aq {a0 a1 a2}(h:gd a0 a1 a2):R (a0,a1,a2)=some (md a0 a1 a2):=nZ h
def aV:=CN [pI,pI,pI] oB RT.dec R
def bH (a0)(a1)(a2)(hg:gd a0 a1 a2):F a0 a1 a2=ret (md a0 a1 a2):=by
 unfold F md
 try simp only [SS]
 refine au ret (fun c1=>?_) (fun _=>rfl)
 all_goals exact fz
def ah:cY 86 aV:=W3 15 F mix aJ bH .nil Tryz.func86
def br (a0 a1 a2:Int):md a0 a1 a2=Z11.md a0 a1 a2:=by
 unfold md Z11.md
 first | rfl | (rw [Bool.eq_iff_iff];simp)
end Z160
namespace Z161
def F (x0:Int)(x1:an):aD:=(call (Z160.R (x0,1,(x1.length:Int))) fun v1=>(cond (!v1) (ret ((⟨#[]⟩:av):av)) (cX ((0:Int)<=(i64.wrap (x0 - 1))) (cX ((i64.wrap (x0 - 1))<(x1.length:Int)) (ret ((tw x1 (toNat (i64.wrap (x0 - 1)))):av))))))
def md (a0:Int)(a1:List av):av:=(cond (!(Z160.md a0 1 (a1.length:Int))) (((⟨#[]⟩:av):av):av) ((a1.getD (toNat (i64.wrap (a0 - 1))) ⟨#[]⟩):av))
def gd (a0:Int)(a1:List av):Prop:=(bn (2^21) (fun y:av=>y.size<=(2^21)) a1)
def R:=eA gd md
def aq {a0 a1}(h:gd a0 a1):R (a0,(a1.map bY))=some (md a0 a1):=eB h
def aV:=CN [pI,pL 9] oS RT.dec R
def bH (a0)(a1)(hg:gd a0 a1):F a0 (a1.map bY)=ret (md a0 a1):=by
 unfold gd at hg
 have H1:=hg
 unfold F md
 try simp only [SS]
 refine ct (Z160.aq trivial) ?_
 refine au ret (fun c1=>?_) (fun c1=>?_)
 ·all_goals exact fz
 ·have dc1:=c1
  try simp only [DC] at dc1
  have Dc1:=c1
  try simp [Z160.md] at Dc1
  refine aW (have:=(H1).1;dt) ?_
  refine aW (have:=(H1).1;have:=(H1).1;dt) ?_
  all_goals exact fz
def ah:cY 71 aV:=W2 15 F mix aJ bH (dV Z160.ah) Tryz.func71
end Z161
namespace Z162
def F (x0:Int):aD:=(call (Z161.R (x0,[[L.str (⟨#[115,117,114,101]⟩:av)],[L.str (⟨#[97,103,114,101,101,100]⟩:av)],[L.str (⟨#[97,115,107]⟩:av)],[L.str (⟨#[97,98,115,101,110,116]⟩:av)],[L.str (⟨#[110,111,110,101]⟩:av)]])) fun v1=>ret (v1:av))
def md (a0:Int):av:=Z161.md a0 [(⟨#[115,117,114,101]⟩:av),(⟨#[97,103,114,101,101,100]⟩:av),(⟨#[97,115,107]⟩:av),(⟨#[97,98,115,101,110,116]⟩:av),(⟨#[110,111,110,101]⟩:av)]
def gd (a0:Int):Prop:=True
def R:=RR gd md
def aq {a0}(h:gd a0):R a0=some (md a0):=dX h
def aV:=CN [pI] oS RT.dec R
def bH (a0)(hg:gd a0):F a0=ret (md a0):=by
 unfold F md
 refine ct (Z161.aq (a0:=a0) (a1:=[(⟨#[115,117,114,101]⟩:av),(⟨#[97,103,114,101,101,100]⟩:av),(⟨#[97,115,107]⟩:av),(⟨#[97,98,115,101,110,116]⟩:av),(⟨#[110,111,110,101]⟩:av)]) ⟨by show 5<=2^21;decide,fun x hx=>?_⟩) rfl
 simp only [List.mem_cons,List.not_mem_nil,or_false] at hx
 rcases hx with h | h | h | h | h<;>(rw [h];exact Nat.le_of_ble_eq_true rfl)
def ah:cY 26 aV:=W1 6 F mix aJ bH (dV Z161.ah) Tryz.func26
end Z162
namespace Z163
def F (x0:aO):aD:=(cond (x0.bB==1) ff (ret ((x0.bB==2):Bool)))
def md (a0:aA):Bool:=(cond (a0.bB==1) (true:Bool) ((a0.bB==2):Bool))
def gd (a0:aA):Prop:=True
def R:=RR gd md
def aq {a0}(h:gd a0):R (aA.r a0)=some (md a0):=dX h
def aV:=CN [.agg Eb] oB RT.dec R
def bH (a0)(hg:gd a0):F (aA.r a0)=ret (md a0):=by
 unfold F md
 try simp only [SS]
 refine au ret (fun _=>rfl) (fun c1=>?_)
 all_goals exact fz
def ah:cY 29 aV:=W1 11 F mix aJ bH .nil Tryz.func29
end Z163
namespace Z164
def F (x0:an):aD:=(call (Z144.R x0) fun v1=>ret (((v1.length:Int)==1):Bool))
def md (a0:List ak):Bool:=((((Z144.md a0).length:Int)==1):Bool)
def gd (a0:List ak):Prop:=(bn (2^21) (fun y:ak=>ak.Sm (2^21) y) a0)
def R:=RR gd md
def aq {a0}(h:gd a0):R (a0.map ak.row)=some (md a0):=dX h
def aV:=CN [pL 67] oB RT.dec R
def bH (a0)(hg:gd a0):F (a0.map ak.row)=ret (md a0):=by
 unfold gd at hg
 have H0:=hg
 unfold F md
 try simp only [SS]
 refine ct (Z144.aq H0) ?_
 try simp only [SS]
 try have fv1_:=Z144.fa a0
 all_goals exact fz
def ah:cY 30 aV:=W1 7 F mix aJ bH (dV Z144.ah) Tryz.func30
end Z164
namespace Z165
inductive Pt where
 | p0 (a b c:Int) (d e:an)
def pid:Pt->Nat
 | .p0 ..=>3
def cZ:Pt->List V
 | .p0 a b c d e=>[.bK 0 0,.own 2,.int .i64 a]
def eD:Pt->List aK
 | .p0 a b c d e=>[.box [.own 1,.int .i64 b,.int .i64 c],.vw 5 d,.row 114 e]
def step (J:Pt->aD):Pt->aD
 | .p0 a b c d e=>(cond (a>0) (call (Z96.R (d,b,c)) fun v1=>(call (Z127.R (d,v1.2.1,v1.2.2.1)) fun v2=>(call (Z131.R (e,v1.2.2.2,v2.2.2.2)) fun v3=>J (.p0 (i64.wrap (a - 1)) v2.2.1 v2.2.2.1 d v3.1)))) (ret ((Hl.mk,b,c,e):Hl×Int×Int×an)))
def start (J:Pt->aD)(x0:an)(x1 x2:Int):aD:=(call (Z4.R (x0,x1,x2,4)) fun v1=>J (.p0 v1.2.2.2 v1.2.1 v1.2.2.1 x0 []))
def live:Nat->Live:=iD [(3,[(0,none),(3,some 114),(4,none)])]
abbrev cG:List K:=[.sl 5,aQ,aQ]
def pats:List (Option fH):=[none]
def res:RP:=.one (.fr 114)
abbrev E:Env:={ T:=assoc mD,G:=cN [(33,Z131.aV)],nt:=24,M:=eL [],np:=(nC cG),mt:=false,I:=fV [(52,Z4.ic (nC cG)),(105,Z96.ic (nC cG)),(59,Z127.ic (nC cG))] }
def step_eq (I:dK)(p:Pt):dP E live I (pid p) (bQ Tryz.f74) (jr (live (pid p)) (cZ p) (eD p)) (dG E Tryz.f74 (.cur cG res.parts))=step (fun q=>I (pid q) (cZ q) (eD q)) p:=by
 cases p<;>kernel_rfl
def start_eq (I:dK)(ls:List L):gU E live I (bQ Tryz.f74) (gr cG pats ls) (dG E Tryz.f74 (.cur cG res.parts))=start (fun q=>I (pid q) (cZ q) (eD q)) (fc ls) (cA 1 ls) (cA 2 ls):=by kernel_rfl
def run_eq (n:Nat)(ls:List L):eS E live Tryz.f74 (.cur cG res.parts) n (gr cG pats ls)=start (iter step n) (fc ls) (cA 1 ls) (cA 2 ls):=dM (id:=pid) (vs:=cZ) (hs:=eD) (step:=step) (start:=fun J=>start J (fc ls) (cA 1 ls) (cA 2 ls)) step_eq (fun I=>start_eq I ls) n
def gd (x0:an)(x1 x2:Int):Prop:=CI x0 x1
def post (x0:an)(x1 x2:Int)(y:Hl×Int×Int×an):Prop:=CI x0 y.2.1/\∃m:List aj,y.2.2.2=m.map aj.row/\bn 4 (fun z:aj=>aj.Sm 64 z) m
def wp (x0:an)(x1 x2:Int)(hg:gd x0 x1 x2):∃n,Wp (start (iter step n) x0 x1 x2) (post x0 x1 x2):=by
 have key:∀a d e,0<=a->a<=3->CI x0 d->∃n,Wp (iter step n (.p0 a d e x0 [])) (post x0 x1 x2):=by
  intro a d e h1 h2 h3
  refine ⟨5,jD (fun p=>match p with | .p0 a b c d e=>0<=a/\a<=3/\CI d b/\d=x0/\∃ms:List aj,e=ms.map aj.row/\(ms.length:Int)+a<=3/\∀s∈ms,aj.Sm 64 s) (fun p=>match p with | .p0 a b c d e=>a.toNat) (fun J p hI hJ=>?_) _ _ ⟨h1,h2,h3,rfl,[],rfl,by show (0:Int)+a<=3;omega,fun _ h=>(nomatch h)⟩ (by show a.toNat<5;omega)⟩
  obtain ⟨a,b,c,d,e⟩:=p
  obtain ⟨k1,k2,k3,rfl,ms,rfl,h6,h7⟩:=hI
  refine wp_cond (fun c1=>?_) (fun c1=>wp_ret ⟨k3,ms,rfl,by omega,h7⟩)
  have c1:=of_decide_eq_true c1
  have e1:i64.wrap (a - 1)=a - 1:=wi _ (by omega)
  refine Z96.cF k3 (fun v1 ⟨d1,ps,e2,s2⟩=>Z127.cF d1 (fun v2 ⟨d2,en,e3,s3⟩=>?_))
  rw [e2,e3]
  have hp:bn 64 (fun y:av=>y.size<=64) ps:=s2.mono (by decide) fun _ h=>le_trans h (by decide)
  have hk:=Z131.BA (a0:=ms) (a1:=ps) (a2:=en) h7 ⟨hp,aa.bC (by decide) s3⟩
  refine bD (Z131.aq (a0:=ms) (a1:=ps) (a2:=en) ⟨⟨by omega,fun x hx=>aj.bC (by decide) (h7 x hx)⟩,hp.mono (by decide) fun _ h=>le_trans h (by decide),aa.bC (by decide) s3⟩) (hJ _ ⟨?_,?_,d2,rfl,_,rfl,?_,hk.2⟩ ?_)
  ·show 0<=i64.wrap (a - 1);omega
  ·show i64.wrap (a - 1)<=3;omega
  ·have:=hk.1;rw [e1];omega
  ·show (i64.wrap (a - 1)).toNat<a.toNat;omega
 obtain ⟨v,hv,pv⟩:=Z4.kO (x3:=4) hg
 obtain ⟨h1,h2⟩:=pv.2.2 (by decide)
 obtain ⟨n,hn⟩:=key v.2.2.2 v.2.1 v.2.2.1 h1 (by omega) pv.1
 exact ⟨n,bD hv hn⟩
def R:(an×Int×Int)->Option (Hl×Int×Int×an):=RQ (fun n x=>start (iter step n) x.1 x.2.1 x.2.2) (fun x=>post x.1 x.2.1 x.2.2)
def cF {x0:an}{x1 x2:Int}{γ:Type}[RT γ]{k:(Hl×Int×Int×an)->aD}{Q:γ->Prop}(hg:gd x0 x1 x2)(hk:∀y,post x0 x1 x2 y->Wp (k y) Q):Wp (call (R (x0,x1,x2)) k) Q:=dY (wp x0 x1 x2 hg) hk
def acc (ls:List L):an×Int×Int:=((fc ls),(cA 1 ls),(cA 2 ls))
def aV:iL:=CC cG pats res acc R
def ah:fG Tryz.prog Ev 74 aV:=VC (live:=live) (mt:=false) mix aJ (dV Z131.ah) .nil (.cons (Z4.bq (nC cG)) (.cons (Z96.bq (nC cG)) (.cons (Z127.bq (nC cG)) .nil))) Tryz.func74 (by kernel_rfl) run_eq
def ic (_:Nat):fU:=iQ Ev aV
def bq (n:Nat):dh Tryz.prog Ev n 74 (ic n):=dF ah
end Z165
namespace Z166
def F (x0:an)(x1 x2:Int):aD:=(call (Z126.R (x0,x1,x2)) fun v1=>(call (Z4.R (x0,v1.2.1,v1.2.2.1,8)) fun v2=>(cond (v2.2.2.2==0) (call (Z95.R (x0,v2.2.1,v2.2.2.1)) fun v3=>(call (Z95.R (x0,v3.2.1,v3.2.2.1)) fun v4=>(cX (fu (((v1.2.2.2.length:Int)+2)*16)) (ret ((Hl.mk,v4.2.1,v4.2.2.1,(v1.2.2.2++[[L.str v3.2.2.2],[L.str v4.2.2.2]])):Hl×Int×Int×an))))) (cond (v2.2.2.2==1) (ret ((Hl.mk,v2.2.1,v2.2.2.1,[]):Hl×Int×Int×an)) (ret ((Hl.mk,v2.2.1,v2.2.2.1,v1.2.2.2):Hl×Int×Int×an))))))
abbrev cG:List K:=[.sl 5,aQ,aQ]
def pats:List (Option fH):=[none]
def res:RP:=.one (.fr 9)
abbrev E:Env:={ T:=assoc mD,G:=cN [],nt:=21,M:=eL [],np:=(nC cG),mt:=false,I:=fV [(111,Z126.ic (nC cG)),(52,Z4.ic (nC cG)),(123,Z95.ic (nC cG))] }
def run_eq (n:Nat)(ls:List L):eS E (fun _=>[]) Tryz.f75 (.cur cG res.parts) n (gr cG pats ls)=F (fc ls) (cA 1 ls) (cA 2 ls):=by kernel_rfl
def gd (x0:an)(x1 x2:Int):Prop:=CI x0 x1
def post (x0:an)(x1 x2:Int)(y:Hl×Int×Int×an):Prop:=CI x0 y.2.1/\∃m:List av,y.2.2.2=m.map bY/\bn 32 (fun y:av=>y.size<=16) m
def wp (x0:an)(x1 x2:Int)(hg:gd x0 x1 x2):Wp (F x0 x1 x2) (post x0 x1 x2):=by
 unfold F
 refine Z126.cF hg (fun v ⟨hv,m,e,hm⟩=>Z4.cF hv (fun w ⟨hw,_,_⟩=>wp_cond (fun _=>?_) (fun _=>wp_cond (fun _=>wp_ret ⟨hw,[],rfl,bn.nil⟩) (fun _=>wp_ret ⟨hw,m,e,hm.mono (by decide) fun _ h=>h⟩))))
 refine Z95.cF hw (fun s ⟨hs,h1⟩=>Z95.cF hs (fun t ⟨ht,h2⟩=>?_))
 have hl:=hm.1
 rw [e]
 refine eX (gq (by rw [List.length_map];omega)) (wp_ret ⟨ht,m++[s.2.2.2,t.2.2.2],by rw [List.map_append];rfl,by simp;omega,fun z hz=>?_⟩)
 rcases List.mem_append.1 hz with hz | hz
 ·exact hm.2 z hz
 ·simp at hz
  rcases hz with rfl | rfl
  ·exact h1
  ·exact h2
def R:(an×Int×Int)->Option (Hl×Int×Int×an):=RQ (fun _ x=>F x.1 x.2.1 x.2.2) (fun x=>post x.1 x.2.1 x.2.2)
def cF {x0:an}{x1 x2:Int}{γ:Type}[RT γ]{k:(Hl×Int×Int×an)->aD}{Q:γ->Prop}(hg:gd x0 x1 x2)(hk:∀y,post x0 x1 x2 y->Wp (k y) Q):Wp (call (R (x0,x1,x2)) k) Q:=dY ⟨0,wp x0 x1 x2 hg⟩ hk
def acc (ls:List L):an×Int×Int:=((fc ls),(cA 1 ls),(cA 2 ls))
def aV:iL:=CC cG pats res acc R
def ah:fG Tryz.prog Ev 75 aV:=VC (live:=(fun _=>[])) (mt:=false) mix aJ .nil .nil (.cons (Z126.bq (nC cG)) (.cons (Z4.bq (nC cG)) (.cons (Z95.bq (nC cG)) .nil))) Tryz.func75 (by kernel_rfl) run_eq
def ic (_:Nat):fU:=iQ Ev aV
def bq (n:Nat):dh Tryz.prog Ev n 75 (ic n):=dF ah
end Z166
namespace Z167
def F (x0:an)(x1 x2:Int):aD:=(call (Z127.R (x0,x1,x2)) fun v1=>(call (Z4.R (x0,v1.2.1,v1.2.2.1,10)) fun v2=>(cond (v2.2.2.2==0) (call (Z84.R (x0,v2.2.1,v2.2.2.1,[[L.int 0],[L.int 1],[L.int 2],[L.int 3],[L.int 4]])) fun v3=>ret ((Hl.mk,v3.2.1,v3.2.2.1,(⟨v1.2.2.2.bk,v3.2.2.2,v1.2.2.2.bJ,v1.2.2.2.bg⟩:aC)):Hl×Int×Int×aC)) (cond (v2.2.2.2==1) (call (Z84.R (x0,v2.2.1,v2.2.2.1,[[L.int (-1)],[L.int 999999],[L.int 1000000],[L.int 2147483646],[L.int 2147483647]])) fun v4=>ret ((Hl.mk,v4.2.1,v4.2.2.1,(⟨v1.2.2.2.bk,v1.2.2.2.bp,v4.2.2.2,v1.2.2.2.bg⟩:aC)):Hl×Int×Int×aC)) (cond (v2.2.2.2==2) (call (Z95.R (x0,v2.2.1,v2.2.2.1)) fun v5=>ret ((Hl.mk,v5.2.1,v5.2.2.1,(⟨v5.2.2.2,v1.2.2.2.bp,v1.2.2.2.bJ,v1.2.2.2.bg⟩:aC)):Hl×Int×Int×aC)) (cond (v2.2.2.2==3) (call (Z166.R (x0,v2.2.1,v2.2.2.1)) fun v6=>ret ((Hl.mk,v6.2.1,v6.2.2.1,(⟨v1.2.2.2.bk,v1.2.2.2.bp,v1.2.2.2.bJ,v6.2.2.2⟩:aC)):Hl×Int×Int×aC)) (ret ((Hl.mk,v2.2.1,v2.2.2.1,v1.2.2.2):Hl×Int×Int×aC))))))))
abbrev cG:List K:=[.sl 5,aQ,aQ]
def pats:List (Option fH):=[none]
def res:RP:=.agg [.rd (.str),.rd (.int .i64),.rd (.int .i64),.fr 9]
abbrev E:Env:={ T:=assoc mD,G:=cN [],nt:=31,M:=eL [],np:=(nC cG),mt:=false,I:=fV [(59,Z127.ic (nC cG)),(52,Z4.ic (nC cG)),(53,Z84.ic (nC cG)),(123,Z95.ic (nC cG)),(75,Z166.ic (nC cG))] }
def run_eq (n:Nat)(ls:List L):eS E (fun _=>[]) Tryz.f77 (.cur cG res.parts) n (gr cG pats ls)=F (fc ls) (cA 1 ls) (cA 2 ls):=by kernel_rfl
def gd (x0:an)(x1 x2:Int):Prop:=CI x0 x1
def post (x0:an)(x1 x2:Int)(y:Hl×Int×Int×aC):Prop:=CI x0 y.2.1/\∃m:aa,y.2.2.2=aa.r m/\aa.Sm 32 m
def wp (x0:an)(x1 x2:Int)(hg:gd x0 x1 x2):Wp (F x0 x1 x2) (post x0 x1 x2):=by
 unfold F
 refine Z127.cF hg (fun v ⟨hv,m,e,hm⟩=>Z4.cF hv (fun w ⟨hw,_,_⟩=>?_))
 have h32:aa.Sm 32 m:=aa.bC (by decide) hm
 rw [e]
 refine wp_cond (fun _=>?_) (fun _=>wp_cond (fun _=>?_) (fun _=>wp_cond (fun _=>?_) (fun _=>wp_cond (fun _=>?_) (fun _=>wp_ret ⟨hw,m,rfl,h32⟩))))
 ·exact Z84.cF ⟨hw,by show 0<5;decide⟩ (fun z ⟨hz,_⟩=>wp_ret ⟨hz,⟨m.bk,z.2.2.2,m.bJ,m.bg⟩,rfl,h32⟩)
 ·exact Z84.cF ⟨hw,by show 0<5;decide⟩ (fun z ⟨hz,_⟩=>wp_ret ⟨hz,⟨m.bk,m.bp,z.2.2.2,m.bg⟩,rfl,h32⟩)
 ·exact Z95.cF hw (fun z ⟨hz,h⟩=>wp_ret ⟨hz,⟨z.2.2.2,m.bp,m.bJ,m.bg⟩,rfl,le_trans h (by decide),h32.2⟩)
 ·refine Z166.cF hw (fun z ⟨hz,p,ep,hp⟩=>?_)
  rw [ep]
  exact wp_ret ⟨hz,⟨m.bk,m.bp,m.bJ,p⟩,rfl,h32.1,hp.mono (by decide) fun _ h=>le_trans h (by decide)⟩
def R:(an×Int×Int)->Option (Hl×Int×Int×aC):=RQ (fun _ x=>F x.1 x.2.1 x.2.2) (fun x=>post x.1 x.2.1 x.2.2)
def cF {x0:an}{x1 x2:Int}{γ:Type}[RT γ]{k:(Hl×Int×Int×aC)->aD}{Q:γ->Prop}(hg:gd x0 x1 x2)(hk:∀y,post x0 x1 x2 y->Wp (k y) Q):Wp (call (R (x0,x1,x2)) k) Q:=dY ⟨0,wp x0 x1 x2 hg⟩ hk
def acc (ls:List L):an×Int×Int:=((fc ls),(cA 1 ls),(cA 2 ls))
def aV:iL:=CC cG pats res acc R
def ah:fG Tryz.prog Ev 77 aV:=VC (live:=(fun _=>[])) (mt:=false) mix aJ .nil .nil (.cons (Z127.bq (nC cG)) (.cons (Z4.bq (nC cG)) (.cons (Z84.bq (nC cG)) (.cons (Z95.bq (nC cG)) (.cons (Z166.bq (nC cG)) .nil))))) Tryz.func77 (by kernel_rfl) run_eq
def ic (_:Nat):fU:=iQ Ev aV
def bq (n:Nat):dh Tryz.prog Ev n 77 (ic n):=dF ah
end Z167
namespace Z168
def F (x0:an):aD:=(call (Z1.R x0) fun v1=>(call (Z165.R (v1.1,v1.2.1,v1.2.2)) fun v2=>(call (Z166.R (v1.1,v2.2.1,v2.2.2.1)) fun v3=>(cond ((v2.2.2.2.length:Int)>0) (call (Z67.R (v1.1,v3.2.1,v3.2.2.1,2)) fun v4=>(cond v4.2.2.2 (cX ((0:Int)<(v2.2.2.2.length:Int)) (call (Z167.R (v1.1,v4.2.1,v4.2.2.1)) fun v5=>ret ((v2.2.2.2,(bI.at v2.2.2.2 0).bg,v5.2.2.2):an×an×aC))) (call (Z167.R (v1.1,v4.2.1,v4.2.2.1)) fun v6=>ret ((v2.2.2.2,v3.2.2.2,v6.2.2.2):an×an×aC)))) (call (Z167.R (v1.1,v3.2.1,v3.2.2.1)) fun v7=>ret ((v2.2.2.2,v3.2.2.2,v7.2.2.2):an×an×aC))))))
def pats:List fH:=[.rd (.sl 5)]
def res:RP:=.gK [(false,[.rd (.sl 114)]),(false,[.rd (.sl 9)]),(true,[.rd (.str),.rd (.int .i64),.rd (.int .i64),.rd (.sl 9)])]
abbrev E:Env:={ T:=assoc mD,G:=cN [],nt:=29,M:=eL [],np:=0,mt:=false,I:=fV [(50,Z1.ic 0),(74,Z165.ic 0),(75,Z166.ic 0),(76,Z67.ic 0),(77,Z167.ic 0)] }
def run_eq (n:Nat)(ls:List L):eS E (fun _=>[]) Tryz.f31 res n (dS pats ls)=F (fc ls):=by kernel_rfl
def gd (x0:an):Prop:=x0.length<=1048576
def post (x0:an)(y:an×an×aC):Prop:=∃(l:List aj) (p:List av) (e:aa),y=(l.map aj.row,p.map bY,aa.r e)/\bn 4 (fun z:aj=>aj.Sm 64 z) l/\bn 64 (fun y:av=>y.size<=64) p/\aa.Sm 64 e
def wp (x0:an)(hg:gd x0):Wp (F x0) (post x0):=by
 unfold F
 refine Z1.cF hg (fun v1 ⟨e1,c1⟩=>Z165.cF (by rw [e1];exact c1) (fun v2 ⟨c2,ms,e2,s2⟩=>Z166.cF c2 (fun v3 ⟨c3,ps,e3,s3⟩=>?_)))
 rw [e2,e3]
 have hp:bn 64 (fun y:av=>y.size<=64) ps:=s3.mono (by decide) fun _ h=>le_trans h (by decide)
 refine wp_cond (fun h1=>?_) (fun _=>Z167.cF c3 (fun v7 ⟨c7,en,e7,s7⟩=>?_))
 ·have h1:=of_decide_eq_true h1
  rw [List.length_map] at h1
  have hi:0<ms.length:=by omega
  refine Z67.cF c3 (fun v4 c4=>wp_cond (fun _=>eX (decide_eq_true (by rw [List.length_map];omega)) (Z167.cF c4 (fun v7 ⟨c7,en,e7,s7⟩=>?_))) (fun _=>Z167.cF c4 (fun v7 ⟨c7,en,e7,s7⟩=>?_)))
  ·rw [e7,aj.kP hi]
   exact wp_ret ⟨ms,ms[0].bg,en,rfl,s2,(s2.2 _ (List.getElem_mem hi)).1,aa.bC (by decide) s7⟩
  ·rw [e7]
   exact wp_ret ⟨ms,ps,en,rfl,s2,hp,aa.bC (by decide) s7⟩
 ·rw [e7]
  exact wp_ret ⟨ms,ps,en,rfl,s2,hp,aa.bC (by decide) s7⟩
def R:(an)->Option (an×an×aC):=RQ (fun _ x=>F x) (fun x=>post x)
def kO {x0:an}(hg:gd x0):∃y,R x0=some y/\post x0 y:=pU ⟨0,wp x0 hg⟩
def acc (ls:List L):an:=(fc ls)
def aV:gW:=CN pats res acc R
def ah:cY 31 aV:=VQ (live:=(fun _=>[])) (mt:=false) mix aJ .nil .nil (.cons (Z1.bq 0) (.cons (Z165.bq 0) (.cons (Z166.bq 0) (.cons (Z67.bq 0) (.cons (Z167.bq 0) .nil))))) Tryz.func31 (by kernel_rfl) run_eq
end Z168
namespace Z169
inductive Pt where
 | p0 (a:an) (b c:Int) (d:an)
def cZ:Pt->List V
 | .p0 a b c d=>[.own 0,.sl none 114 a,.int .i64 b,.int .i64 c]
def eD:Pt->List aK
 | .p0 a b c d=>[.row 114 d]
def step (J:Pt->aD):Pt->aD
 | .p0 a b c d=>(cond (c<b) (m2 c (a.length:Int) (call (Z145.R ((bI.at a (toNat c)).bg)) fun v1=>(call (Z146.R ((bI.at a (toNat c)).aE)) fun v2=>(cX (fu (((d.length:Int)+1)*80)) (J (.p0 a b (i64.wrap (c+1)) (d++[(bI.enc (⟨v1,v2⟩:bI))]))))))) (ret (d:an)))
def start (J:Pt->aD)(x0:an):aD:=J (.p0 x0 (x0.length:Int) 0 [])
def live:Nat->Live:=iD [(3,[(3,some 114),(7,none),(8,none),(9,none)])]
def md (a0:List aj):List aj:=a0
def gd (a0:List aj):Prop:=(bn (2^21) (fun y:aj=>aj.Sm (2^21) y) a0)
def R:=RR gd md
def aq {a0}(h:gd a0):R (a0.map aj.row)=some (a0.map aj.row):=dX h
def aV:=CN [pL 114] (oL 114) RT.dec R
def bH (a0)(hg:gd a0):∃n,start (iter step n) (a0.map aj.row)=ret ((md a0).map aj.row):=by
 unfold gd at hg
 have H0:=hg
 unfold start md
 try simp only [SS]
 have Bh2:a0.length<=maxLen:=(by
   have:=(H0).1
   try simp only [maxLen] at *
   omega)
 refine ex_eq (out:=(fun b:List aj=>ret ((b.map aj.row):an))) (hU (xs:=a0) (z:=aj.zero) (t:=fun s3:List aj=>s3)) ?_
 refine dW (p:=Pt.p0 (a0.map aj.row) (a0.length:Int) 0 ([].map aj.row)) fz ?_
 refine bV (pt:=fun (i1:Nat) (s3:List aj)=>Pt.p0 (a0.map aj.row) (a0.length:Int) (i1:Int) (s3.map aj.row)) (s:=([]:List aj)) (out:=(fun b:List aj=>ret ((b.map aj.row):an))) (fun (i1:Nat) (s3:List aj)=>s3.length<=([]:List Int).length+1*i1) (fun J i1 s3 h2 hih2=>?_) (fun s3 hih2=>?_) (by simp)
 ·simp only [step,SS]
  have gr_:=hih2
  try simp only [LN] at gr_
  have bb_:=Bh2
  simp only [maxLen] at bb_
  have:=(H0).1
  refine bf.yes (by apply decide_eq_true;omega) ?_
  refine bf.yes bA ?_
  refine bf.yes (bU h2) ?_
  refine cr (Z145.aq (bn.getD (z:=aj.zero) H0 h2).1) ?_
  try simp only [SS]
  refine cr (Z146.aq (bn.getD (z:=aj.zero) H0 h2).2) ?_
  try simp only [SS]
  refine bf.yes lm ?_
  refine bf.inl (by
    have g_:=hih2
    try simp only [LN] at g_ ⊢
    first | omega | (simp;done) | (simp;omega)) ?_
  rw [aR h2 Bh2]
  all_goals exact fz
 ·simp only [step,SS]
  have gr_:=hih2
  try simp only [LN] at gr_
  have:=(H0).1
  refine dQ (by apply decide_eq_false;omega) ?_
  refine ⟨0,?_⟩
  all_goals exact fz
def ah:cY 78 aV:=L1 25 (fun _=>3) cZ eD live step start mix aJ bH (gH Z145.ah Z146.ah) Tryz.func78
end Z169
namespace Z170
inductive Pt where
 | p0 (a:av) (b c:Int)
def cZ:Pt->List V
 | .p0 a b c=>[.str a,.int .i64 b,.int .i64 c]
def step (J:Pt->aD):Pt->aD
 | .p0 a b c=>(cond (c<b) (m2 c (a.size:Int) (cond ((dZ a (toNat c))>=97) (cond ((dZ a (toNat c))<=122) (J (.p0 a b (i64.wrap (c+1)))) (cond ((dZ a (toNat c))>=48) (cond ((dZ a (toNat c))<=57) (J (.p0 a b (i64.wrap (c+1)))) (cond ((dZ a (toNat c))==45) (cond (c>0) (cond (!(decide (c<(i64.wrap ((a.size:Int) - 1))))) aS (J (.p0 a b (i64.wrap (c+1))))) aS) aS)) (cond ((dZ a (toNat c))==45) (cond (c>0) (cond (!(decide (c<(i64.wrap ((a.size:Int) - 1))))) aS (J (.p0 a b (i64.wrap (c+1))))) aS) aS))) (cond ((dZ a (toNat c))>=48) (cond ((dZ a (toNat c))<=57) (J (.p0 a b (i64.wrap (c+1)))) (cond ((dZ a (toNat c))==45) (cond (c>0) (cond (!(decide (c<(i64.wrap ((a.size:Int) - 1))))) aS (J (.p0 a b (i64.wrap (c+1))))) aS) aS)) (cond ((dZ a (toNat c))==45) (cond (c>0) (cond (!(decide (c<(i64.wrap ((a.size:Int) - 1))))) aS (J (.p0 a b (i64.wrap (c+1))))) aS) aS)))) (call (Z160.R ((a.size:Int),1,8)) fun v1=>ret (v1:Bool)))
def start (J:Pt->aD)(x0:av):aD:=J (.p0 x0 (x0.size:Int) 0)
def live:Nat->Live:=iD [(2,mN [0,6,7])]
def md (a0:av):Bool:=(eW (S:=Unit) (β:=Bool) (fun (i1:Nat) (s3:Unit)=>(cond ((dZ a0 i1)>=97) (cond ((dZ a0 i1)<=122) (.inl ()) (cond ((dZ a0 i1)>=48) (cond ((dZ a0 i1)<=57) (.inl ()) (cond ((dZ a0 i1)==45) (cond ((i1:Int)>0) (cond (!(decide ((i1:Int)<(i64.wrap ((a0.size:Int) - 1))))) (.inr (false:Bool)) (.inl ())) (.inr (false:Bool))) (.inr (false:Bool)))) (cond ((dZ a0 i1)==45) (cond ((i1:Int)>0) (cond (!(decide ((i1:Int)<(i64.wrap ((a0.size:Int) - 1))))) (.inr (false:Bool)) (.inl ())) (.inr (false:Bool))) (.inr (false:Bool))))) (cond ((dZ a0 i1)>=48) (cond ((dZ a0 i1)<=57) (.inl ()) (cond ((dZ a0 i1)==45) (cond ((i1:Int)>0) (cond (!(decide ((i1:Int)<(i64.wrap ((a0.size:Int) - 1))))) (.inr (false:Bool)) (.inl ())) (.inr (false:Bool))) (.inr (false:Bool)))) (cond ((dZ a0 i1)==45) (cond ((i1:Int)>0) (cond (!(decide ((i1:Int)<(i64.wrap ((a0.size:Int) - 1))))) (.inr (false:Bool)) (.inl ())) (.inr (false:Bool))) (.inr (false:Bool)))))) (fun (s3:Unit)=>((Z160.md (a0.size:Int) 1 8):Bool)) a0.size 0 ())
def gd (a0:av):Prop:=(a0.size<=(2^22))
def R:=RR gd md
def aq {a0}(h:gd a0):R a0=some (md a0):=dX h
def aV:=CN [pS] oB RT.dec R
def bH (a0)(hg:gd a0):∃n,start (iter step n) a0=ret (md a0):=by
 unfold gd at hg
 have H0:=hg
 unfold start md
 try simp only [SS]
 have Bh2:a0.size<=maxLen:=(by
   have:=H0
   try simp only [maxLen] at *
   omega)
 refine dW (p:=Pt.p0 a0 (a0.size:Int) 0) fz ?_
 refine bV (pt:=fun (i1:Nat) (s3:Unit)=>Pt.p0 a0 (a0.size:Int) (i1:Int)) (s:=(():Unit)) (out:=ret) (fun _ _=>True) (fun J i1 s3 h2 hih2=>?_) (fun s3 hih2=>?_) trivial
 ·simp only [step,SS]
  have bb_:=Bh2
  simp only [maxLen] at bb_
  have:=H0
  refine bf.yes (by apply decide_eq_true;omega) ?_
  refine bf.yes bA ?_
  refine bf.yes (bU h2) ?_
  refine bf.bif (fun c4=>?_) (fun c4=>?_)
  ·refine bf.bif (fun c5=>?_) (fun c5=>?_)
   ·refine bf.inl trivial ?_
    rw [aR h2 Bh2]
    all_goals exact fz
   ·refine bf.bif (fun c6=>?_) (fun c6=>?_)
    ·refine bf.bif (fun c7=>?_) (fun c7=>?_)
     ·refine bf.inl trivial ?_
      rw [aR h2 Bh2]
      all_goals exact fz
     ·refine bf.bif (fun c8=>?_) (fun _=>bf.inr rfl)
      refine bf.bif (fun c9=>?_) (fun _=>bf.inr rfl)
      refine bf.bif (fun _=>bf.inr rfl) (fun c10=>?_)
      refine bf.inl trivial ?_
      rw [aR h2 Bh2]
      all_goals exact fz
    ·refine bf.bif (fun c11=>?_) (fun _=>bf.inr rfl)
     refine bf.bif (fun c12=>?_) (fun _=>bf.inr rfl)
     refine bf.bif (fun _=>bf.inr rfl) (fun c13=>?_)
     refine bf.inl trivial ?_
     rw [aR h2 Bh2]
     all_goals exact fz
  ·refine bf.bif (fun c14=>?_) (fun c14=>?_)
   ·refine bf.bif (fun c15=>?_) (fun c15=>?_)
    ·refine bf.inl trivial ?_
     rw [aR h2 Bh2]
     all_goals exact fz
    ·refine bf.bif (fun c16=>?_) (fun _=>bf.inr rfl)
     refine bf.bif (fun c17=>?_) (fun _=>bf.inr rfl)
     refine bf.bif (fun _=>bf.inr rfl) (fun c18=>?_)
     refine bf.inl trivial ?_
     rw [aR h2 Bh2]
     all_goals exact fz
   ·refine bf.bif (fun c19=>?_) (fun _=>bf.inr rfl)
    refine bf.bif (fun c20=>?_) (fun _=>bf.inr rfl)
    refine bf.bif (fun _=>bf.inr rfl) (fun c21=>?_)
    refine bf.inl trivial ?_
    rw [aR h2 Bh2]
    all_goals exact fz
 ·simp only [step,SS]
  have:=H0
  refine dQ (by apply decide_eq_false;omega) ?_
  refine cx (Z160.aq trivial) ?_
  refine ⟨0,?_⟩
  all_goals exact fz
def ah:cY 129 aV:=L1 47 (fun _=>2) cZ (fun _=>[]) live step start mix aJ bH (dV Z160.ah) Tryz.func129
def br (a0:av):md a0=Z12.md a0:=by
 unfold md Z12.md
 by_cases hl:1<=a0.size/\a0.size<=8
 ·have e1:Z11.md (a0.size:Int) 1 8=true:=by simp [Z11.md];omega
  simp only [Z160.br,e1]
  have ew:i64.wrap ((a0.size:Int) - 1)=((a0.size - 1:Nat):Int):=by
   rw [Go.IntWalk.i64_in _ (by omega)];omega
  simp only [ew,jI]
  rw [Bool.eq_iff_iff]
  rw [lC (fun i=>(97<=dZ a0 i/\dZ a0 i<=122)∨(48<=dZ a0 i/\dZ a0 i<=57)∨(dZ a0 i=45/\0<i/\i<a0.size - 1)) (fun i hi h=>by simp;grind) (fun i hi h=>by simp;grind)]
  have e2:=lC (n:=a0.size) (f:=fun (i4:Nat) (s6:Unit)=>(cond ((dZ a0 i4)<97) (cond ((dZ a0 i4)<48) (cond ((dZ a0 i4) != 45) (.inr (false:Bool)) (.inl ())) (cond ((dZ a0 i4)>57) (cond ((dZ a0 i4) != 45) (.inr (false:Bool)) (.inl ())) (.inl ()))) (cond ((dZ a0 i4)>122) (cond ((dZ a0 i4)<48) (cond ((dZ a0 i4) != 45) (.inr (false:Bool)) (.inl ())) (cond ((dZ a0 i4)>57) (cond ((dZ a0 i4) != 45) (.inr (false:Bool)) (.inl ())) (.inl ()))) (.inl ())))) (t:=fun _=>true)
   (fun i=>(97<=dZ a0 i/\dZ a0 i<=122)∨(48<=dZ a0 i/\dZ a0 i<=57)∨dZ a0 i=45) (fun i hi h=>by simp;grind) (fun i hi h=>by simp;grind)
  have e3:∀b c d:Bool,(cond (!true) false (bif b then false else bif c then false else d))=true↔b=false/\c=false/\d=true:=by intro b c d;cases b<;>cases c<;>simp
  rw [e3,e2]
  simp only [beq_eq_false_iff_ne,ne_eq,and_true]
  constructor
  ·intro h
   refine ⟨fun h0=>?_,fun h0=>?_,fun i hi=>?_⟩
   ·have:=h 0 (by omega);omega
   ·have:=h (a0.size - 1) (by omega);omega
   ·have:=h i hi;omega
  ·intro ⟨h1,h2,h3⟩ i hi
   have:=h3 i hi
   by_cases h0:i=0
   ·subst h0;omega
   ·by_cases h9:i=a0.size - 1
    ·subst h9;omega
    ·omega
 ·have e1:Z11.md (a0.size:Int) 1 8=false:=by simp [Z11.md];omega
  simp only [Z160.br,e1]
  refine qU ?_ _ _ _
  intro i s b h
  revert h
  simp only [Bool.cond_eq_ite]
  repeat' split
  all_goals (intro h;first | (cases h;rfl) | cases h)
end Z170
namespace Z171
def F (x0:av):aD:=(call (Z170.R x0) fun v1=>ret ((!v1):Bool))
def md (a0:av):Bool:=((!(Z170.md a0)):Bool)
def gd (a0:av):Prop:=(a0.size<=(2^22))
def R:=RR gd md
def aq {a0}(h:gd a0):R a0=some (md a0):=dX h
def aV:=CN [pS] oB RT.dec R
def bH (a0)(hg:gd a0):F a0=ret (md a0):=by
 unfold gd at hg
 have H0:=hg
 unfold F md
 try simp only [SS]
 refine ct (Z170.aq H0) ?_
 all_goals exact fz
def ah:cY 128 aV:=W1 6 F mix aJ bH (dV Z170.ah) Tryz.func128
end Z171
namespace Z172
inductive Pt where
 | p0 (a:an) (b c:Int)
def pid:Pt->Nat
 | .p0 ..=>2
def cZ:Pt->List V
 | .p0 a b c=>[.sl none 9 a,.fn 128 [],.int .i64 b,.int .i64 c]
def eD:Pt->List aK
 | .p0 a b c=>[]
def step (J:Pt->aD):Pt->aD
 | .p0 a b c=>(cond (c<b) (m2 c (a.length:Int) (call (Z171.R (tw a (toNat c))) fun v1=>(cond v1 (ret (c:Int)) (J (.p0 a b (i64.wrap (c+1))))))) sP)
def start (J:Pt->aD)(x0:an):aD:=J (.p0 x0 (x0.length:Int) 0)
def live:Nat->Live:=iD [(2,mN [0,1,7,8])]
def pats:List fH:=[.rd (.sl 9),.fn 128 []]
def res:RP:=.one (.rd (.int .i64))
abbrev E:Env:={ T:=assoc mD,G:=cN [(128,Z171.aV)],nt:=19 }
def step_eq (I:dK)(p:Pt):dP E live I (pid p) (bQ Tryz.f163) (jr (live (pid p)) (cZ p) (eD p)) (dG E Tryz.f163 res)=step (fun q=>I (pid q) (cZ q) (eD q)) p:=by
 cases p<;>kernel_rfl
def start_eq (I:dK)(ls:List L):gU E live I (bQ Tryz.f163) (dS pats ls) (dG E Tryz.f163 res)=start (fun q=>I (pid q) (cZ q) (eD q)) (fc ls):=by kernel_rfl
def run_eq (n:Nat)(ls:List L):eS E live Tryz.f163 res n (dS pats ls)=start (iter step n) (fc ls):=dM (id:=pid) (vs:=cZ) (hs:=eD) (step:=step) (start:=fun J=>start J (fc ls)) step_eq (fun I=>start_eq I ls) n
def md (a0:List av):Int:=(eP (S:=Unit) (β:=Int) (fun (i1:Nat) (y1:av) (s3:Unit)=>(cond (Z171.md y1) (.inr ((i1:Int):Int)) (.inl ()))) (fun (s3:Unit)=>((-1):Int)) 0 a0 ())
def gd (a0:List av):Prop:=(bn (2^22) (fun y:av=>y.size<=(2^22)) a0)
def acc (ls:List L):an:=(fc ls)
def R:(an)->Option Int:=RR gd md
def aq {a0}(h:gd a0):R (a0.map bY)=some (md a0):=dX h
def aV:gW:=CN pats res acc R
def bH (a0:List av)(hg:gd a0):∃n,start (iter step n) (a0.map bY)=ret ((md a0):Int):=by
 unfold gd at hg
 have H0:=hg
 unfold start md
 try simp only [SS]
 have Bh2:a0.length<=maxLen:=(by
   have:=(H0).1
   try simp only [maxLen] at *
   omega)
 refine ex_eq (out:=ret) (dD (z:=⟨#[]⟩)) ?_
 refine dW (p:=Pt.p0 (a0.map bY) (a0.length:Int) 0) fz ?_
 refine bV (pt:=fun (i1:Nat) (s3:Unit)=>Pt.p0 (a0.map bY) (a0.length:Int) (i1:Int)) (s:=(():Unit)) (out:=ret) (fun _ _=>True) (fun J i1 s3 h2 hih2=>?_) (fun s3 hih2=>?_) trivial
 ·simp only [step,SS]
  have bb_:=Bh2
  simp only [maxLen] at bb_
  have:=(H0).1
  refine bf.yes (by apply decide_eq_true;omega) ?_
  refine bf.yes bA ?_
  refine bf.yes (bU h2) ?_
  refine cr (Z171.aq (bn.getD (z:=⟨#[]⟩) H0 h2)) ?_
  refine bf.bif (fun c4=>?_) (fun c4=>?_)
  ·refine bf.inr ?_
   all_goals exact fz
  ·refine bf.inl trivial ?_
   rw [aR h2 Bh2]
   all_goals exact fz
 ·simp only [step,SS]
  have:=(H0).1
  refine dQ (by apply decide_eq_false;omega) ?_
  refine ⟨0,?_⟩
  all_goals exact fz
def ah:cY 163 aV:=VV (run:=fun n x=>start (iter step n) x) mix aJ (dV Z171.ah) Tryz.func163 (by kernel_rfl) run_eq (fun _ a _ _ hg=>bH a hg)
def fa (a0:List av):-1<=md a0/\md a0<(a0.length:Int):=by
 unfold md
 refine iU ?_ _ _
 all_goals
  intro i x s b h
  revert h
  simp only [Bool.cond_eq_ite]
  repeat' split
  all_goals (intro h;first | (cases h;rfl) | cases h)
def idx_eq (a0:List av):md a0=oN (fun y=>Z171.md y) 0 a0:=by
 unfold md
 exact lG
end Z172
namespace Z173
def F (x0:an):aD:=(call (Z172.R x0) fun v1=>ret ((decide (v1>=0)):Bool))
def pats:List fH:=[.rd (.sl 9),.fn 128 []]
def res:RP:=.one (.rd (.bool))
def md (a0:List av):Bool:=((decide ((Z172.md a0)>=0)):Bool)
def gd (a0:List av):Prop:=(bn (2^22) (fun y:av=>y.size<=(2^22)) a0)
def acc (ls:List L):an:=(fc ls)
def R:(an)->Option Bool:=RR gd md
def aq {a0}(h:gd a0):R (a0.map bY)=some (md a0):=dX h
def aV:gW:=CN pats res acc R
def bH (a0:List av)(hg:gd a0):F (a0.map bY)=ret ((md a0):Bool):=by
 unfold gd at hg
 have H0:=hg
 unfold F md
 try simp only [SS]
 refine ct (Z172.aq H0) ?_
 have fv1_:=Z172.fa a0
 all_goals exact fz
def ah:cY 127 aV:=VV (live:=fun _=>[]) (nt:=9) (run:=fun _ x=>F x) mix aJ (dV Z172.ah) Tryz.func127 (by kernel_rfl) (fun _ _=>by kernel_rfl) (fun _ a _ _ hg=>⟨0,bH a hg⟩)
def any_eq (a0:List av):md a0=a0.any (fun y=>Z171.md y):=by
 unfold md
 rw [Z172.idx_eq]
 exact wh
end Z173
namespace Z174
def F (x0:an):aD:=(call (Z160.R ((x0.length:Int),1,4)) fun v1=>(cond v1 (call (Z173.R x0) fun v2=>ret ((!v2):Bool)) aS))
def md (a0:List av):Bool:=(cond (Z160.md (a0.length:Int) 1 4) ((!(Z173.md a0)):Bool) (false:Bool))
def gd (a0:List av):Prop:=(bn (2^22) (fun y:av=>y.size<=(2^22)) a0)
def R:=RR gd md
def aq {a0}(h:gd a0):R (a0.map bY)=some (md a0):=dX h
def aV:=CN [pL 9] oB RT.dec R
def bH (a0)(hg:gd a0):F (a0.map bY)=ret (md a0):=by
 unfold gd at hg
 have H0:=hg
 unfold F md
 try simp only [SS]
 refine ct (Z160.aq trivial) ?_
 refine au ret (fun c1=>?_) (fun _=>rfl)
 refine ct (Z173.aq H0) ?_
 all_goals exact fz
def ah:cY 84 aV:=W1 11 F mix aJ bH (gH Z160.ah Z173.ah) Tryz.func84
def br (a0:List av):md a0=Z13.md a0:=by
 unfold md Z13.md
 rw [Z173.any_eq]
 have e:=nk (p:=fun y=>!(Z12.md y)) (b:=false) (c:=Z11.md (a0.length:Int) 1 4) (xs:=a0) (s:=())
 refine Eq.trans ?_ e.symm
 simp only [Z171.md,Z170.br,Z160.br]
 cases a0.any (fun y=>!(Z12.md y))<;>cases Z11.md (a0.length:Int) 1 4<;>rfl
end Z174
namespace Z175
def F (x0:Int):aD:=(call (Z160.R (x0,0,2147483646)) fun v1=>ret (v1:Bool))
def md (a0:Int):Bool:=((Z160.md a0 0 2147483646):Bool)
def gd (a0:Int):Prop:=True
def R:=RR gd md
def aq {a0}(h:gd a0):R a0=some (md a0):=dX h
def aV:=CN [pI] oB RT.dec R
def bH (a0)(hg:gd a0):F a0=ret (md a0):=by
 unfold F md
 try simp only [SS]
 refine ct (Z160.aq trivial) ?_
 all_goals exact fz
def ah:cY 130 aV:=W1 5 F mix aJ bH (dV Z160.ah) Tryz.func130
end Z175
namespace Z176
def F (x0:aC):aD:=(call (Z170.R x0.bk) fun v1=>(cond (!v1) aS (cond (x0.bp==1) (call (Z160.R (x0.bJ,0,999999)) fun v2=>(cond v2 (ret (((x0.bg.length:Int)==0):Bool)) aS)) (cond (x0.bp==2) (call (Z175.R x0.bJ) fun v3=>(cond v3 (ret (((x0.bg.length:Int)==0):Bool)) aS)) (cond (x0.bp==3) (call (Z175.R x0.bJ) fun v4=>(cond v4 (call (Z174.R x0.bg) fun v5=>ret (v5:Bool)) aS)) aS)))))
def md (a0:aa):Bool:=(cond (!(Z170.md a0.bk)) (false:Bool) (cond (a0.bp==1) (cond (Z160.md a0.bJ 0 999999) (((a0.bg.length:Int)==0):Bool) (false:Bool)) (cond (a0.bp==2) (cond (Z175.md a0.bJ) (((a0.bg.length:Int)==0):Bool) (false:Bool)) (cond (a0.bp==3) (cond (Z175.md a0.bJ) ((Z174.md a0.bg):Bool) (false:Bool)) (false:Bool)))))
def gd (a0:aa):Prop:=(aa.Sm (2^21) a0)
def R:=RR gd md
def aq {a0}(h:gd a0):R (aa.r a0)=some (md a0):=dX h
def aV:=CN [.agg xx] oB RT.dec R
def bH (a0)(hg:gd a0):F (aa.r a0)=ret (md a0):=by
 unfold gd at hg
 have H0:=hg
 unfold F md
 try simp only [SS]
 refine ct (Z170.aq (le_trans H0.1 (by decide))) ?_
 refine au ret (fun _=>rfl) (fun c1=>?_)
 refine au ret (fun c2=>?_) (fun c2=>?_)
 ·refine ct (Z160.aq trivial) ?_
  refine au ret (fun c3=>?_) (fun _=>rfl)
  all_goals exact fz
 ·refine au ret (fun c4=>?_) (fun c4=>?_)
  ·refine ct (Z175.aq trivial) ?_
   refine au ret (fun c5=>?_) (fun _=>rfl)
   all_goals exact fz
  ·refine au ret (fun c6=>?_) (fun _=>rfl)
   refine ct (Z175.aq trivial) ?_
   refine au ret (fun c7=>?_) (fun _=>rfl)
   refine ct (Z174.aq (H0.2.mono (by decide) (fun x hx=>(le_trans hx (by decide))))) ?_
   all_goals exact fz
def ah:cY 85 aV:=W1 41 F mix aJ bH (tG Z170.ah Z160.ah Z175.ah Z174.ah) Tryz.func85
def br (a0:aa):md a0=Z14.md a0:=by
 unfold md Z14.md
 simp only [Z170.br,Z160.br,Z175.md,Z174.br]
 cases Z12.md a0.bk<;>simp
end Z176
namespace Z177
inductive Pt where
 | p0 (a b:an) (c d:Int)
def cZ:Pt->List V
 | .p0 a b c d=>[.sl none 114 a,.sl none 114 b,.int .i64 c,.int .i64 d]
def step (J:Pt->aD):Pt->aD
 | .p0 a b c d=>(cond (d<c) (m2 d (b.length:Int) (call (Z174.R ((bI.at b (toNat d)).bg)) fun v1=>(cond (!v1) aS (call (Z176.R ((bI.at b (toNat d)).aE)) fun v2=>(cond (!v2) aS (call (Z151.R (a,(bI.at b (toNat d)).bg)) fun v3=>(cond (v3 != d) aS (J (.p0 a b c (i64.wrap (d+1))))))))))) (ret ((decide ((a.length:Int)<=8)):Bool)))
def start (J:Pt->aD)(x0:an):aD:=J (.p0 x0 x0 (x0.length:Int) 0)
def live:Nat->Live:=iD [(2,mN [0,5,6,7])]
def md (a0:List aj):Bool:=(eP (S:=Unit) (β:=Bool) (fun (i1:Nat) (y1:aj) (s3:Unit)=>(cond (!(Z174.md (y1.bg))) (.inr (false:Bool)) (cond (!(Z176.md (y1.aE))) (.inr (false:Bool)) (cond ((Z151.md a0 (y1.bg)) != (i1:Int)) (.inr (false:Bool)) (.inl ()))))) (fun (s3:Unit)=>((decide ((a0.length:Int)<=8)):Bool)) 0 a0 ())
def gd (a0:List aj):Prop:=(bn (2^21) (fun y:aj=>aj.Sm (2^21) y) a0)
def R:=RR gd md
def aq {a0}(h:gd a0):R (a0.map aj.row)=some (md a0):=dX h
def aV:=CN [pL 114] oB RT.dec R
def bH (a0)(hg:gd a0):∃n,start (iter step n) (a0.map aj.row)=ret (md a0):=by
 unfold gd at hg
 have H0:=hg
 unfold start md
 try simp only [SS]
 have Bh2:a0.length<=maxLen:=(by
   have:=(H0).1
   try simp only [maxLen] at *
   omega)
 refine ex_eq (out:=ret) (dD (z:=aj.zero)) ?_
 refine dW (p:=Pt.p0 (a0.map aj.row) (a0.map aj.row) (a0.length:Int) 0) fz ?_
 refine bV (pt:=fun (i1:Nat) (s3:Unit)=>Pt.p0 (a0.map aj.row) (a0.map aj.row) (a0.length:Int) (i1:Int)) (s:=(():Unit)) (out:=ret) (fun _ _=>True) (fun J i1 s3 h2 hih2=>?_) (fun s3 hih2=>?_) trivial
 ·simp only [step,SS]
  have bb_:=Bh2
  simp only [maxLen] at bb_
  have:=(H0).1
  refine bf.yes (by apply decide_eq_true;omega) ?_
  refine bf.yes bA ?_
  refine bf.yes (bU h2) ?_
  refine cr (Z174.aq ((bn.getD (z:=aj.zero) H0 h2).1.mono (by decide) (fun x hx=>(le_trans hx (by decide))))) ?_
  refine bf.bif (fun _=>bf.inr rfl) (fun c4=>?_)
  refine cr (Z176.aq (bn.getD (z:=aj.zero) H0 h2).2) ?_
  refine bf.bif (fun _=>bf.inr rfl) (fun c5=>?_)
  refine cr (Z151.aq ⟨H0,(bn.getD (z:=aj.zero) H0 h2).1⟩) ?_
  have fv3_:=Z151.fa a0 ((a0.getD i1 aj.zero).bg)
  refine bf.bif (fun _=>bf.inr rfl) (fun c6=>?_)
  refine bf.inl trivial ?_
  rw [aR h2 Bh2]
  all_goals exact fz
 ·simp only [step,SS]
  have:=(H0).1
  refine dQ (by apply decide_eq_false;omega) ?_
  refine ⟨0,?_⟩
  all_goals exact fz
def ah:cY 34 aV:=L1 34 (fun _=>2) cZ (fun _=>[]) live step start mix aJ bH (nD Z174.ah Z176.ah Z151.ah) Tryz.func34
def br (a0:List aj):md a0=Z130.md a0:=by
 unfold md Z130.md
 first
 | (simp only [Z174.br,Z176.br,Z151.br];done)
 | (simp only [Z174.br,Z176.br,Z151.br];rfl)
 | rfl
end Z177
namespace Z178
def F (x0 x1:an)(x2:aC):aD:=(call (Z169.R x0) fun v1=>(call (Z145.R x1) fun v2=>(call (Z146.R x2) fun v3=>(call (Z151.R (x0,x1)) fun v4=>(cond (v4>=0) (m2 v4 (v1.length:Int) (call (Z177.R x0) fun v5=>(cond (!v5) (call (Z169.R x0) fun v6=>ret ((v6,false):an×Bool)) (call (Z177.R (List.set v1 (toNat v4) (bI.enc (⟨v2,v3⟩:bI)))) fun v7=>(cond (!v7) (call (Z169.R x0) fun v8=>ret ((v8,false):an×Bool)) (ret (((List.set v1 (toNat v4) (bI.enc (⟨v2,v3⟩:bI))),true):an×Bool))))))) (cX (fu (((v1.length:Int)+1)*80)) (call (Z177.R x0) fun v9=>(cond (!v9) (call (Z169.R x0) fun v10=>ret ((v10,false):an×Bool)) (call (Z177.R (v1++[(bI.enc (⟨v2,v3⟩:bI))])) fun v11=>(cond (!v11) (call (Z169.R x0) fun v12=>ret ((v12,false):an×Bool)) (ret (((v1++[(bI.enc (⟨v2,v3⟩:bI))]),true):an×Bool))))))))))))
def md (a0:List aj)(a1:List av)(a2:aa):List aj×Bool:=(cond ((Z151.md a0 a1)>=0) (cond (!(Z177.md a0)) (a0,false) (cond (!(Z177.md (List.set a0 (toNat (Z151.md a0 a1)) (⟨a1,a2⟩:aj)))) (a0,false) ((List.set a0 (toNat (Z151.md a0 a1)) (⟨a1,a2⟩:aj)),true))) (cond (!(Z177.md a0)) (a0,false) (cond (!(Z177.md (a0++[(⟨a1,a2⟩:aj)]))) (a0,false) ((a0++[(⟨a1,a2⟩:aj)]),true))))
def gd (a0:List aj)(a1:List av)(a2:aa):Prop:=(bn (2^20) (fun y:aj=>aj.Sm (2^20) y) a0)/\(bn (2^21) (fun y:av=>y.size<=(2^21)) a1)/\(aa.Sm (2^21) a2)
def R:=ot gd md
def aq {a0 a1 a2}(h:gd a0 a1 a2):R ((a0.map aj.row),(a1.map bY),(aa.r a2))=some (((md a0 a1 a2).1.map aj.row),(md a0 a1 a2).2):=nZ h
def aV:=CN [pL 114,pL 9,.agg xx] (.gK [(false,[.fr 114]),(false,[fB])]) RT.dec R
def bH (a0)(a1)(a2)(hg:gd a0 a1 a2):F (a0.map aj.row) (a1.map bY) (aa.r a2)=ret (((md a0 a1 a2).1.map aj.row),(md a0 a1 a2).2):=by
 obtain ⟨H0,H1,H2⟩:=hg
 unfold F md
 try simp only [SS]
 refine ct (Z169.aq (H0.mono (by decide) (fun x hx=>(aj.bC (by decide) hx)))) ?_
 try simp only [SS]
 refine ct (Z145.aq H1) ?_
 try simp only [SS]
 refine ct (Z146.aq H2) ?_
 try simp only [SS]
 refine ct (Z151.aq ⟨(H0.mono (by decide) (fun x hx=>(aj.bC (by decide) hx))),H1⟩) ?_
 have fv4_:=Z151.fa a0 a1
 refine au (fun b:List aj×Bool=>ret (((b.1.map aj.row),b.2):an×Bool)) (fun c1=>?_) (fun c1=>?_)
 ·have dc1:=c1
  try simp only [DC] at dc1
  refine aW dt ?_
  refine aW (have:=(H0).1;dt) ?_
  refine ct (Z177.aq (H0.mono (by decide) (fun x hx=>(aj.bC (by decide) hx)))) ?_
  refine au (fun b:List aj×Bool=>ret (((b.1.map aj.row),b.2):an×Bool)) (fun c2=>?_) (fun c2=>?_)
  ·refine ct (Z169.aq (H0.mono (by decide) (fun x hx=>(aj.bC (by decide) hx)))) ?_
   try simp only [SS]
   all_goals exact fz
  ·refine ec (Z177.md (List.set a0 (toNat (Z151.md a0 a1)) (⟨a1,a2⟩:aj))) (rq (Z177.aq (a0:=(List.set a0 (toNat (Z151.md a0 a1)) (⟨a1,a2⟩:aj))) (bn.set (H0.mono (by decide) (fun x hx=>(aj.bC (by decide) hx))) ⟨H1,H2⟩))) ?_
   refine au (fun b:List aj×Bool=>ret (((b.1.map aj.row),b.2):an×Bool)) (fun c3=>?_) (fun c3=>?_)
   ·refine ct (Z169.aq (H0.mono (by decide) (fun x hx=>(aj.bC (by decide) hx)))) ?_
    try simp only [SS]
    all_goals exact fz
   ·all_goals exact fz
 ·have dc1:=c1
  try simp only [DC] at dc1
  refine aW (have:=(H0).1;lm) ?_
  refine ct (Z177.aq (H0.mono (by decide) (fun x hx=>(aj.bC (by decide) hx)))) ?_
  refine au (fun b:List aj×Bool=>ret (((b.1.map aj.row),b.2):an×Bool)) (fun c4=>?_) (fun c4=>?_)
  ·refine ct (Z169.aq (H0.mono (by decide) (fun x hx=>(aj.bC (by decide) hx)))) ?_
   try simp only [SS]
   all_goals exact fz
  ·refine ec (Z177.md (a0++[(⟨a1,a2⟩:aj)])) (rq (Z177.aq (a0:=(a0++[(⟨a1,a2⟩:aj)])) (bn.app (a:=(2^20)) (b:=1) (H0.mono (by decide) (fun x hx=>(aj.bC (by decide) hx))) (bn.one ⟨H1,H2⟩) (by decide)))) ?_
   refine au (fun b:List aj×Bool=>ret (((b.1.map aj.row),b.2):an×Bool)) (fun c5=>?_) (fun c5=>?_)
   ·refine ct (Z169.aq (H0.mono (by decide) (fun x hx=>(aj.bC (by decide) hx)))) ?_
    try simp only [SS]
    all_goals exact fz
   ·all_goals exact fz
def ah:cY 32 aV:=W3 42 F mix aJ bH (xY Z169.ah Z145.ah Z146.ah Z151.ah Z177.ah) Tryz.func32
def br (a0:List aj)(a1:List av)(a2:aa):md a0 a1 a2=Z131.md a0 a1 a2:=by
 unfold md Z131.md
 first
 | (simp only [Z151.br,Z177.br];done)
 | (simp only [Z151.br,Z177.br];rfl)
 | rfl
end Z178
namespace Z179
inductive Pt where
 | p0 (a:an) (b c:Bool) (d:Int) (e:an) (f:Int) (g:av) (h i:Int) (j:av) (k l:Int) (m n o:an)
def pid:Pt->Nat
 | .p0 ..=>10
def cZ:Pt->List V
 | .p0 a b c d e f g h i j k l m n o=>[.sl none 5 a,.own 0,.bK 1 0,.bK 2 0,.bool b,.bool c,.int .i64 d]
def eD:Pt->List aK
 | .p0 a b c d e f g h i j k l m n o=>[.row 67 e,.box [.int .i64 f,.str g,.int .i64 h,.int .i64 i,.own 3,.own 4],.box [.str j,.int .i64 k,.int .i64 l,.own 5],.row 9 m,.row 53 n,.row 9 o]
def step (J:Pt->aD):Pt->aD
 | .p0 a b c d e f g h i j k l m n o=>(cond (d<(e.length:Int)) (cond c (J (.p0 a b true (i64.wrap (d+1)) e f g h i j k l m n o)) (m2 d (e.length:Int) (cond ((bL.at e (toNat d)).bB==1) (m2 d (e.length:Int) (call (Z142.R ((bL.at e (toNat d)).aE,(⟨g,h,i,m⟩:aC))) fun v1=>J (.p0 a b v1 (i64.wrap (d+1)) e f g h i j k l m n o))) (J (.p0 a b false (i64.wrap (d+1)) e f g h i j k l m n o))))) (call (Z163.R (⟨f,(⟨g,h,i,m⟩:aC),n⟩:aO)) fun v2=>(cond v2 (cond (!c) aS (cond b (call (Z142.R ((⟨g,h,i,m⟩:aC),(⟨j,k,l,o⟩:aC))) fun v3=>(cond (!v3) aS (call (Z163.R (⟨f,(⟨g,h,i,m⟩:aC),n⟩:aO)) fun v4=>(cond (!v4) (cond (h != 0) aS (cond (f==2) (call (Z164.R e) fun v5=>(cond (!v5) aS (cond b aS (call (Z168.R a) fun v6=>(call (Z178.R (v6.1,v6.2.1,v6.2.2)) fun v7=>(call (Z152.R (v7.1,v6.2.1)) fun v8=>(call (Z131.R (v6.1,v6.2.1,v6.2.2)) fun v9=>(cond (v7.2==v9.2) (cond (!v7.2) ff (cond v8.2 (call (Z142.R (v8.1,v6.2.2)) fun v10=>(cond v10 (call (Z177.R v7.1) fun v11=>ret (v11:Bool)) aS)) aS)) aS)))))))) (call (Z168.R a) fun v12=>(call (Z178.R (v12.1,v12.2.1,v12.2.2)) fun v13=>(call (Z152.R (v13.1,v12.2.1)) fun v14=>(call (Z131.R (v12.1,v12.2.1,v12.2.2)) fun v15=>(cond (v13.2==v15.2) (cond (!v13.2) ff (cond v14.2 (call (Z142.R (v14.1,v12.2.2)) fun v16=>(cond v16 (call (Z177.R v13.1) fun v17=>ret (v17:Bool)) aS)) aS)) aS))))))) (cond (f==2) (call (Z164.R e) fun v18=>(cond (!v18) aS (cond b aS (call (Z168.R a) fun v19=>(call (Z178.R (v19.1,v19.2.1,v19.2.2)) fun v20=>(call (Z152.R (v20.1,v19.2.1)) fun v21=>(call (Z131.R (v19.1,v19.2.1,v19.2.2)) fun v22=>(cond (v20.2==v22.2) (cond (!v20.2) ff (cond v21.2 (call (Z142.R (v21.1,v19.2.2)) fun v23=>(cond v23 (call (Z177.R v20.1) fun v24=>ret (v24:Bool)) aS)) aS)) aS)))))))) (call (Z168.R a) fun v25=>(call (Z178.R (v25.1,v25.2.1,v25.2.2)) fun v26=>(call (Z152.R (v26.1,v25.2.1)) fun v27=>(call (Z131.R (v25.1,v25.2.1,v25.2.2)) fun v28=>(cond (v26.2==v28.2) (cond (!v26.2) ff (cond v27.2 (call (Z142.R (v27.1,v25.2.2)) fun v29=>(cond v29 (call (Z177.R v26.1) fun v30=>ret (v30:Bool)) aS)) aS)) aS)))))))))) (call (Z163.R (⟨f,(⟨g,h,i,m⟩:aC),n⟩:aO)) fun v31=>(cond (!v31) (cond (h != 0) aS (cond (f==2) (call (Z164.R e) fun v32=>(cond (!v32) aS (cond b aS (call (Z168.R a) fun v33=>(call (Z178.R (v33.1,v33.2.1,v33.2.2)) fun v34=>(call (Z152.R (v34.1,v33.2.1)) fun v35=>(call (Z131.R (v33.1,v33.2.1,v33.2.2)) fun v36=>(cond (v34.2==v36.2) (cond (!v34.2) ff (cond v35.2 (call (Z142.R (v35.1,v33.2.2)) fun v37=>(cond v37 (call (Z177.R v34.1) fun v38=>ret (v38:Bool)) aS)) aS)) aS)))))))) (call (Z168.R a) fun v39=>(call (Z178.R (v39.1,v39.2.1,v39.2.2)) fun v40=>(call (Z152.R (v40.1,v39.2.1)) fun v41=>(call (Z131.R (v39.1,v39.2.1,v39.2.2)) fun v42=>(cond (v40.2==v42.2) (cond (!v40.2) ff (cond v41.2 (call (Z142.R (v41.1,v39.2.2)) fun v43=>(cond v43 (call (Z177.R v40.1) fun v44=>ret (v44:Bool)) aS)) aS)) aS))))))) (cond (f==2) (call (Z164.R e) fun v45=>(cond (!v45) aS (cond b aS (call (Z168.R a) fun v46=>(call (Z178.R (v46.1,v46.2.1,v46.2.2)) fun v47=>(call (Z152.R (v47.1,v46.2.1)) fun v48=>(call (Z131.R (v46.1,v46.2.1,v46.2.2)) fun v49=>(cond (v47.2==v49.2) (cond (!v47.2) ff (cond v48.2 (call (Z142.R (v48.1,v46.2.2)) fun v50=>(cond v50 (call (Z177.R v47.1) fun v51=>ret (v51:Bool)) aS)) aS)) aS)))))))) (call (Z168.R a) fun v52=>(call (Z178.R (v52.1,v52.2.1,v52.2.2)) fun v53=>(call (Z152.R (v53.1,v52.2.1)) fun v54=>(call (Z131.R (v52.1,v52.2.1,v52.2.2)) fun v55=>(cond (v53.2==v55.2) (cond (!v53.2) ff (cond v54.2 (call (Z142.R (v54.1,v52.2.2)) fun v56=>(cond v56 (call (Z177.R v53.1) fun v57=>ret (v57:Bool)) aS)) aS)) aS)))))))))) (call (Z163.R (⟨f,(⟨g,h,i,m⟩:aC),n⟩:aO)) fun v58=>(cond (!v58) (cond (h != 0) aS (cond (f==2) (call (Z164.R e) fun v59=>(cond (!v59) aS (cond b aS (call (Z168.R a) fun v60=>(call (Z178.R (v60.1,v60.2.1,v60.2.2)) fun v61=>(call (Z152.R (v61.1,v60.2.1)) fun v62=>(call (Z131.R (v60.1,v60.2.1,v60.2.2)) fun v63=>(cond (v61.2==v63.2) (cond (!v61.2) ff (cond v62.2 (call (Z142.R (v62.1,v60.2.2)) fun v64=>(cond v64 (call (Z177.R v61.1) fun v65=>ret (v65:Bool)) aS)) aS)) aS)))))))) (call (Z168.R a) fun v66=>(call (Z178.R (v66.1,v66.2.1,v66.2.2)) fun v67=>(call (Z152.R (v67.1,v66.2.1)) fun v68=>(call (Z131.R (v66.1,v66.2.1,v66.2.2)) fun v69=>(cond (v67.2==v69.2) (cond (!v67.2) ff (cond v68.2 (call (Z142.R (v68.1,v66.2.2)) fun v70=>(cond v70 (call (Z177.R v67.1) fun v71=>ret (v71:Bool)) aS)) aS)) aS))))))) (cond (f==2) (call (Z164.R e) fun v72=>(cond (!v72) aS (cond b aS (call (Z168.R a) fun v73=>(call (Z178.R (v73.1,v73.2.1,v73.2.2)) fun v74=>(call (Z152.R (v74.1,v73.2.1)) fun v75=>(call (Z131.R (v73.1,v73.2.1,v73.2.2)) fun v76=>(cond (v74.2==v76.2) (cond (!v74.2) ff (cond v75.2 (call (Z142.R (v75.1,v73.2.2)) fun v77=>(cond v77 (call (Z177.R v74.1) fun v78=>ret (v78:Bool)) aS)) aS)) aS)))))))) (call (Z168.R a) fun v79=>(call (Z178.R (v79.1,v79.2.1,v79.2.2)) fun v80=>(call (Z152.R (v80.1,v79.2.1)) fun v81=>(call (Z131.R (v79.1,v79.2.1,v79.2.2)) fun v82=>(cond (v80.2==v82.2) (cond (!v80.2) ff (cond v81.2 (call (Z142.R (v81.1,v79.2.2)) fun v83=>(cond v83 (call (Z177.R v80.1) fun v84=>ret (v84:Bool)) aS)) aS)) aS)))))))))))
def start (J:Pt->aD)(x0:an):aD:=(call (Z0.R x0) fun v1=>(cond v1 ff (call (Z132.R x0) fun v2=>(call (Z156.R (v2.1,v2.2.1,v2.2.2)) fun v3=>(call (Z139.R (v2.1,v2.2.1,v2.2.2)) fun v4=>(call (Z159.R (v3,v4)) fun v5=>(cond (!v5) aS (call (Z162.R v3.bB) fun v6=>(cond (v6==⟨#[]⟩) aS (call (Z152.R (v2.1,v2.2.2)) fun v7=>J (.p0 x0 v7.2 false 0 v2.2.1 v3.bB v3.aE.bk v3.aE.bp v3.aE.bJ v7.1.bk v7.1.bp v7.1.bJ v3.aE.bg v3.eN v7.1.bg)))))))))))
def live:Nat->Live:=iD [(10,mN [0,4,6,7,8,9,10])]
def pats:List fH:=[.rd (.sl 5)]
def res:RP:=.one (.rd (.bool))
abbrev E:Env:={ T:=assoc mD,G:=cN [(5,Z0.aV),(22,Z132.aV),(23,Z156.aV),(25,Z139.aV),(24,Z159.aV),(26,Z162.aV),(27,Z152.aV),(28,Z142.aV),(29,Z163.aV),(30,Z164.aV),(31,Z168.aV),(32,Z178.aV),(33,Z131.aV),(34,Z177.aV)],nt:=159,M:=eL [],np:=0,mt:=false,I:=fV [] }
def step_eq (I:dK)(p:Pt):dP E live I (pid p) (bQ Tryz.f4) (jr (live (pid p)) (cZ p) (eD p)) (dG E Tryz.f4 res)=step (fun q=>I (pid q) (cZ q) (eD q)) p:=by
 cases p<;>kernel_rfl
def start_eq (I:dK)(ls:List L):gU E live I (bQ Tryz.f4) (dS pats ls) (dG E Tryz.f4 res)=start (fun q=>I (pid q) (cZ q) (eD q)) (fc ls):=by kernel_rfl
def run_eq (n:Nat)(ls:List L):eS E live Tryz.f4 res n (dS pats ls)=start (iter step n) (fc ls):=dM (id:=pid) (vs:=cZ) (hs:=eD) (step:=step) (start:=fun J=>start J (fc ls)) step_eq (fun I=>start_eq I ls) n
def BM {m:List aj}(h:Z130.md m=true){i:Nat}(hi:i<m.length):Z129.md m ((m.getD i aj.zero).bg)=(i:Int):=by
 have e:Z130.md m=true↔(∀i,i<m.length->(Z13.md ((m.getD i aj.zero).bg)=true/\Z14.md ((m.getD i aj.zero).aE)=true/\Z129.md m ((m.getD i aj.zero).bg)=(i:Int)))/\decide ((m.length:Int)<=8)=true:=by
  refine yl (fun (i:Nat) (x:aj)=>Z13.md x.bg=true/\Z14.md x.aE=true/\Z129.md m x.bg=(i:Int)) (fun i x hp=>?_) (fun i x hp=>?_)
  ·rw [hp.1,hp.2.1,show (Z129.md m x.bg != (i:Int))=false by rw [hp.2.2];exact bne_self_eq_false _];rfl
  ·cases h1:Z13.md x.bg
   ·rfl
   ·cases h2:Z14.md x.aE
    ·rfl
    ·have h3:(Z129.md m x.bg != (i:Int))=true:=bne_iff_ne.2 fun h3=>hp ⟨h1,h2,h3⟩
     rw [h3];rfl
 exact ((e.1 h).1 i hi).2.2
def AA {c:List aj}{q:List av}{x:aa}(h:(Z131.md c q x).2=true):Z130.md (Z131.md c q x).1=true/\∃i,i<(Z131.md c q x).1.length/\(Z131.md c q x).1.getD i aj.zero=⟨q,x⟩:=by
 have hf:=Z129.fa c q
 revert h
 unfold Z131.md
 cases hd:decide (Z129.md c q>=0)
 ·cases h1:Z130.md c
  ·intro h;cases h
  ·cases h2:Z130.md (c++[(⟨q,x⟩:aj)])
   ·intro h;cases h
   ·intro _
    refine ⟨h2,c.length,?_,?_⟩
    ·show c.length<(c++[(⟨q,x⟩:aj)]).length
     simp
    ·show (c++[(⟨q,x⟩:aj)]).getD c.length aj.zero=_
     simp [List.getD_eq_getElem?_getD]
 ·have hd:=of_decide_eq_true hd
  cases h1:Z130.md c
  ·intro h;cases h
  ·cases h2:Z130.md (List.set c (toNat (Z129.md c q)) (⟨q,x⟩:aj))
   ·intro h;cases h
   ·intro _
    refine ⟨h2,(Z129.md c q).toNat,?_,?_⟩
    ·show _<(List.set c (toNat (Z129.md c q)) (⟨q,x⟩:aj)).length
     rw [List.length_set];omega
    ·show (List.set c (toNat (Z129.md c q)) (⟨q,x⟩:aj)).getD (Z129.md c q).toNat aj.zero=_
     rw [List.getD_eq_getElem?_getD,List.getElem?_set_self (by omega)];rfl
def AR {c:List aj}{q:List av}{x:aa}(h:(Z131.md c q x).2=true):Z137.md (Z131.md c q x).1 q=(x,true):=by
 obtain ⟨h1,i,hi,h2⟩:=AA h
 have h3:=BM h1 hi
 rw [h2] at h3
 unfold Z137.md
 simp only at h3
 rw [h3,decide_eq_false (by omega),Int.toNat_natCast,h2]
 rfl
def BS {t:List ak}(ht:bn (2^21) (fun z:ak=>ak.Sm (2^21) z) t):bn (2^21) (fun z:aa=>aa.Sm (2^21) z) (Z147.md t):=by
 have hI:=Z135.kg t t.length (Nat.le_refl _)
 have hl:=ht.1
 unfold Z147.md
 cases decide ((Z135.md t).length>1)
 ·exact bn.nil
 ·refine ⟨?_,fun x hx=>?_⟩
  ·have h1:=mm (xs:=Z135.md t) (g:=Z136.tv t) (n:=1) (fun g _=>Z136.vp t g)
   have h2:(Z135.md t).length<=t.length:=hI.1
   show ((Z135.md t).flatMap (Z136.tv t)).length<=_
   omega
  ·have hx:x∈(Z135.md t).flatMap (Z136.tv t):=hx
   obtain ⟨g,hg,hx⟩:=List.mem_flatMap.1 hx
   obtain ⟨p1,p2,p3,p4⟩:=hI.2.1 g hg
   unfold Z136.tv at hx
   cases hcb:((Z135.hd t g).bB==1)
   ·rw [hcb] at hx;cases hx
   ·rw [hcb] at hx;rw [List.mem_singleton.1 hx];exact (bn.getD ht (by omega)).2.1
def BC {l:List aj}{t:List ak}{p:List av}{d:aA}(hd:d=Z156.md l t p):d.eN=Z147.md t:=by
 rw [hd];unfold Z156.md
 simp only [Bool.cond_eq_ite]
 repeat' split
 all_goals rfl
def Dx {l:List aj}{t:List ak}{p:List av}{d:aA}{e:aa}{sure:Bool}(hd:d=Z156.md l t p)(hc:Z152.md l p=(e,sure))(ht:bn (2^21) (fun z:ak=>ak.Sm (2^21) z) t)(he:aa.Sm (2^21) e):aa.Sm (2^21) d.aE:=by
 have hf:=Z144.fa t
 have z:∀o:List aa,aa.Sm (2^21) (⟨⟨#[]⟩,0,0,[]⟩:aa):=fun _=>⟨zero_le _,bn.nil⟩
 have h2:((Z144.md t).length:Int)≠0->aa.Sm (2^21) (t.getD (toNat (((Z144.md t).getD 0 []).getD 0 0)) ak.zero).aE:=fun h=>by
  obtain ⟨f1,f2,f3⟩:=hf (by omega)
  exact (bn.getD ht (by omega)).2.1
 rw [hd];unfold Z156.md
 rw [hc]
 cases h0:((Z144.md t).length:Int)==0
 ·have h2:=h2 (by simpa using h0)
  simp only [Bool.cond_eq_ite]
  repeat' split
  all_goals first | exact he | exact h2 | exact z []
 ·exact z []
def dec (l:List aj)(t:List ak)(p:List av)(d:aA)(e:aa)(sure:Bool)(hd:d=Z156.md l t p)(hc:Z152.md l p=(e,sure)) :
  ((d.bB=1/\d.aE=e/\t.any (fun y=>Z153.md y d.aE)=true)∨(d.bB=2/\sure=false/\Z164.md t=true/\t.any (fun y=>Z153.md y d.aE)=true))∨(3<=d.bB/\d.bB<=5/\d.aE.bp=0):=by
 unfold Z156.md at hd
 rw [hc] at hd
 simp only [Z155.any_eq] at hd
 have hf:=Z144.fa t
 cases h0:((Z144.md t).length:Int)==0
 ·rw [h0] at hd
  have h0:((Z144.md t).length:Int)≠0:=by simpa using h0
  cases sure
  ·simp only [aT,aL] at hd
   cases h2:decide (((Z144.md t).length:Int)>=2)
   ·rw [h2] at hd
    have h2:¬((Z144.md t).length:Int)>=2:=of_decide_eq_false h2
    obtain ⟨f1,f2,f3⟩:=hf (by omega)
    generalize ((Z144.md t).getD 0 []).getD 0 0=j at *
    cases h3:(t.getD (toNat j) ak.zero).bB != 1
    ·rw [h3] at hd
     have h3:(t.getD (toNat j) ak.zero).bB=1:=by simpa using h3
     left;right
     rw [hd]
     refine ⟨rfl,rfl,?_,?_⟩
     ·unfold Z164.md;exact beq_iff_eq.2 (by omega)
     ·have hj:toNat j<t.length:=by omega
      refine List.any_eq_true.2 ⟨t.getD (toNat j) ak.zero,by rw [List.getD_eq_getElem?_getD,List.getElem?_eq_getElem hj];exact List.getElem_mem hj,?_⟩
      unfold Z153.md
      rw [h3,Z142.md_eq]
      exact fm.2 rfl
    ·rw [h3] at hd;right;rw [hd];exact ⟨show (3:Int)<=4 by decide,show (4:Int)<=5 by decide,rfl⟩
   ·rw [h2] at hd;right;rw [hd];exact ⟨show (3:Int)<=3 by decide,show (3:Int)<=5 by decide,rfl⟩
  ·simp only [aT,aL] at hd
   cases h2:t.any (fun y=>Z153.md y e)
   ·rw [h2] at hd;right;rw [hd];exact ⟨show (3:Int)<=3 by decide,show (3:Int)<=5 by decide,rfl⟩
   ·rw [h2] at hd;left;left;rw [hd];exact ⟨rfl,rfl,h2⟩
 ·rw [h0] at hd;right;rw [hd];exact ⟨show (3:Int)<=5 by decide,show (5:Int)<=5 by decide,rfl⟩
def gd (x0:an):Prop:=∃a:List Int,x0=a.map bh
def post (x0:an)(y:Bool):Prop:=y=true
def wp (x0:an)(hg:gd x0):∃n,Wp (start (iter step n) x0) (post x0):=by
 obtain ⟨a,rfl⟩:=hg
 by_cases hbig:((a.map bh).length:Int)>1048576
 ·refine ⟨0,?_⟩
  unfold start
  refine bD (Z0.aq (a0:=a) trivial) (wp_cond (fun _=>wp_ret rfl) (fun c=>?_))
  have :Z0.md a=true:=decide_eq_true (by rw [List.length_map] at hbig;exact hbig)
  rw [this] at c;cases c
 have ha:(a.map bh).length<=1048576:=by omega
 obtain ⟨v2,hv2,l,t,p,e2,hl,ht,hp⟩:=Z132.kO (x0:=a.map bh) ha
 obtain ⟨w,hw,c,q,x,ew,hc,hq,hx⟩:=Z168.kO (x0:=a.map bh) ha
 obtain ⟨d,hd⟩:∃d,d=Z156.md l t p:=⟨_,rfl⟩
 obtain ⟨⟨e0,sure⟩,he⟩:∃e,e=Z152.md l p:=⟨_,rfl⟩
 have hdec:=dec l t p d e0 sure hd he.symm
 have hoS:bn (2^21) (fun z:aa=>aa.Sm (2^21) z) d.eN:=by rw [BC hd];exact BS ht
 have hq':bn (2^21) (fun y:av=>y.size<=2^21) q:=hq.mono (by decide) fun _ h=>le_trans h (by decide)
 have hx':aa.Sm (2^21) x:=aa.bC (by decide) hx
 have heS:aa.Sm (2^21) e0:=by have:=Z152.fY (a0:=l) (a1:=p) ⟨hl,hp⟩;rw [<-he] at this;exact this
 have hdS:=Dx hd he.symm ht heS
 have rest3:Wp (call (Z168.R (a.map bh)) fun v12=>(call (Z178.R (v12.1,v12.2.1,v12.2.2)) fun v13=>(call (Z152.R (v13.1,v12.2.1)) fun v14=>(call (Z131.R (v12.1,v12.2.1,v12.2.2)) fun v15=>(cond (v13.2==v15.2) (cond (!v13.2) ff (cond v14.2 (call (Z142.R (v14.1,v12.2.2)) fun v16=>(cond v16 (call (Z177.R v13.1) fun v17=>ret (v17:Bool)) aS)) aS)) aS))))) (fun y:Bool=>y=true):=by
  refine bD hw ?_
  rw [ew]
  have gp:Z178.gd c q x:=⟨hc.mono (by decide) fun _ h=>aj.bC (by decide) h,hq',hx'⟩
  have hk:=Z131.BA (k:=2^21) (a0:=c) (a1:=q) (a2:=x) (fun s hs=>aj.bC (by decide) (hc.2 s hs)) ⟨hq',hx'⟩
  have hm:bn (2^21) (fun z:aj=>aj.Sm (2^21) z) (Z131.md c q x).1:=⟨by have:=hk.1;have:=hc.1;omega,hk.2⟩
  refine bD (Z178.aq (a0:=c) (a1:=q) (a2:=x) gp) ?_
  rw [Z178.br]
  refine bD (Z152.aq (a0:=(Z131.md c q x).1) (a1:=q) ⟨hm,hq'⟩) ?_
  have hr:=Z152.br (Z131.md c q x).1 q
  rw [hr]
  refine bD (Z131.aq (a0:=c) (a1:=q) (a2:=x) gp) (wp_cond (fun _=>wp_cond (fun _=>wp_ret rfl) (fun h1=>?_)) (fun h=>?_))
  ·have h1:(Z131.md c q x).2=true:=by simpa using h1
   have h2:=AR h1
   rw [h2]
   refine wp_cond (fun _=>bD (Z142.aq (a0:=x) (a1:=x) ⟨hx',hx'⟩) ?_) (fun h=>by cases h)
   rw [Z142.md_eq,fm.2 rfl]
   refine wp_cond (fun _=>bD (Z177.aq (a0:=(Z131.md c q x).1) hm) (wp_ret ?_)) (fun h=>by cases h)
   rw [Z177.br]
   exact (AA h1).1
  ·have h:((Z131.md c q x).2==(Z131.md c q x).2)=false:=h
   rw [beq_self_eq_true] at h;cases h
 have rest2:Wp (cond (d.bB==2) (call (Z164.R (t.map ak.row)) fun v5=>(cond (!v5) aS (cond sure aS (call (Z168.R (a.map bh)) fun v6=>(call (Z178.R (v6.1,v6.2.1,v6.2.2)) fun v7=>(call (Z152.R (v7.1,v6.2.1)) fun v8=>(call (Z131.R (v6.1,v6.2.1,v6.2.2)) fun v9=>(cond (v7.2==v9.2) (cond (!v7.2) ff (cond v8.2 (call (Z142.R (v8.1,v6.2.2)) fun v10=>(cond v10 (call (Z177.R v7.1) fun v11=>ret (v11:Bool)) aS)) aS)) aS)))))))) (call (Z168.R (a.map bh)) fun v12=>(call (Z178.R (v12.1,v12.2.1,v12.2.2)) fun v13=>(call (Z152.R (v13.1,v12.2.1)) fun v14=>(call (Z131.R (v12.1,v12.2.1,v12.2.2)) fun v15=>(cond (v13.2==v15.2) (cond (!v13.2) ff (cond v14.2 (call (Z142.R (v14.1,v12.2.2)) fun v16=>(cond v16 (call (Z177.R v13.1) fun v17=>ret (v17:Bool)) aS)) aS)) aS)))))) (fun y:Bool=>y=true):=by
  refine wp_cond (fun h=>?_) (fun _=>rest3)
  have h:d.bB=2:=by simpa using h
  rcases hdec with (⟨h1,_⟩ | ⟨_,h2,h3,_⟩) | ⟨h1,_⟩
  ·omega
  ·refine bD (Z164.aq (a0:=t) ht) ?_
   rw [h3,h2]
   exact wp_cond (fun h=>by cases h) (fun _=>wp_cond (fun h=>by cases h) (fun _=>rest3))
  ·omega
 have hus:Z163.md d=(d.bB==1||d.bB==2):=by unfold Z163.md;cases d.bB==1<;>rfl
 have gus:Z163.gd d:=trivial
 have rest1:Wp (call (Z163.R (⟨d.bB,(⟨d.aE.bk,d.aE.bp,d.aE.bJ,(d.aE.bg.map bY)⟩:aC),(d.eN.map aa.row)⟩:aO)) fun v4=>(cond (!v4) (cond (d.aE.bp != 0) aS (cond (d.bB==2) (call (Z164.R (t.map ak.row)) fun v5=>(cond (!v5) aS (cond sure aS (call (Z168.R (a.map bh)) fun v6=>(call (Z178.R (v6.1,v6.2.1,v6.2.2)) fun v7=>(call (Z152.R (v7.1,v6.2.1)) fun v8=>(call (Z131.R (v6.1,v6.2.1,v6.2.2)) fun v9=>(cond (v7.2==v9.2) (cond (!v7.2) ff (cond v8.2 (call (Z142.R (v8.1,v6.2.2)) fun v10=>(cond v10 (call (Z177.R v7.1) fun v11=>ret (v11:Bool)) aS)) aS)) aS)))))))) (call (Z168.R (a.map bh)) fun v12=>(call (Z178.R (v12.1,v12.2.1,v12.2.2)) fun v13=>(call (Z152.R (v13.1,v12.2.1)) fun v14=>(call (Z131.R (v12.1,v12.2.1,v12.2.2)) fun v15=>(cond (v13.2==v15.2) (cond (!v13.2) ff (cond v14.2 (call (Z142.R (v14.1,v12.2.2)) fun v16=>(cond v16 (call (Z177.R v13.1) fun v17=>ret (v17:Bool)) aS)) aS)) aS))))))) (cond (d.bB==2) (call (Z164.R (t.map ak.row)) fun v18=>(cond (!v18) aS (cond sure aS (call (Z168.R (a.map bh)) fun v19=>(call (Z178.R (v19.1,v19.2.1,v19.2.2)) fun v20=>(call (Z152.R (v20.1,v19.2.1)) fun v21=>(call (Z131.R (v19.1,v19.2.1,v19.2.2)) fun v22=>(cond (v20.2==v22.2) (cond (!v20.2) ff (cond v21.2 (call (Z142.R (v21.1,v19.2.2)) fun v23=>(cond v23 (call (Z177.R v20.1) fun v24=>ret (v24:Bool)) aS)) aS)) aS)))))))) (call (Z168.R (a.map bh)) fun v25=>(call (Z178.R (v25.1,v25.2.1,v25.2.2)) fun v26=>(call (Z152.R (v26.1,v25.2.1)) fun v27=>(call (Z131.R (v25.1,v25.2.1,v25.2.2)) fun v28=>(cond (v26.2==v28.2) (cond (!v26.2) ff (cond v27.2 (call (Z142.R (v27.1,v25.2.2)) fun v29=>(cond v29 (call (Z177.R v26.1) fun v30=>ret (v30:Bool)) aS)) aS)) aS)))))))) (fun y:Bool=>y=true):=by
  refine bD (Z163.aq (a0:=d) gus) (wp_cond (fun h=>?_) (fun _=>rest2))
  refine wp_cond (fun h2=>?_) (fun _=>rest2)
  have h2:d.aE.bp≠0:=by simpa using h2
  rw [hus] at h
  rcases hdec with (⟨h1,_⟩ | ⟨h1,_⟩) | ⟨_,_,h1⟩
  ·rw [h1] at h;cases h
  ·rw [h1] at h;cases h
  ·exact absurd h1 h2
 have last:∀off:Bool,off=t.any (fun y=>Z153.md y d.aE)->Wp (call (Z163.R (⟨d.bB,(⟨d.aE.bk,d.aE.bp,d.aE.bJ,(d.aE.bg.map bY)⟩:aC),(d.eN.map aa.row)⟩:aO)) fun v2=>(cond v2 (cond (!off) aS (cond sure (call (Z142.R ((⟨d.aE.bk,d.aE.bp,d.aE.bJ,(d.aE.bg.map bY)⟩:aC),(⟨e0.bk,e0.bp,e0.bJ,(e0.bg.map bY)⟩:aC))) fun v3=>(cond (!v3) aS (call (Z163.R (⟨d.bB,(⟨d.aE.bk,d.aE.bp,d.aE.bJ,(d.aE.bg.map bY)⟩:aC),(d.eN.map aa.row)⟩:aO)) fun v4=>(cond (!v4) (cond (d.aE.bp != 0) aS (cond (d.bB==2) (call (Z164.R (t.map ak.row)) fun v5=>(cond (!v5) aS (cond sure aS (call (Z168.R (a.map bh)) fun v6=>(call (Z178.R (v6.1,v6.2.1,v6.2.2)) fun v7=>(call (Z152.R (v7.1,v6.2.1)) fun v8=>(call (Z131.R (v6.1,v6.2.1,v6.2.2)) fun v9=>(cond (v7.2==v9.2) (cond (!v7.2) ff (cond v8.2 (call (Z142.R (v8.1,v6.2.2)) fun v10=>(cond v10 (call (Z177.R v7.1) fun v11=>ret (v11:Bool)) aS)) aS)) aS)))))))) (call (Z168.R (a.map bh)) fun v12=>(call (Z178.R (v12.1,v12.2.1,v12.2.2)) fun v13=>(call (Z152.R (v13.1,v12.2.1)) fun v14=>(call (Z131.R (v12.1,v12.2.1,v12.2.2)) fun v15=>(cond (v13.2==v15.2) (cond (!v13.2) ff (cond v14.2 (call (Z142.R (v14.1,v12.2.2)) fun v16=>(cond v16 (call (Z177.R v13.1) fun v17=>ret (v17:Bool)) aS)) aS)) aS))))))) (cond (d.bB==2) (call (Z164.R (t.map ak.row)) fun v18=>(cond (!v18) aS (cond sure aS (call (Z168.R (a.map bh)) fun v19=>(call (Z178.R (v19.1,v19.2.1,v19.2.2)) fun v20=>(call (Z152.R (v20.1,v19.2.1)) fun v21=>(call (Z131.R (v19.1,v19.2.1,v19.2.2)) fun v22=>(cond (v20.2==v22.2) (cond (!v20.2) ff (cond v21.2 (call (Z142.R (v21.1,v19.2.2)) fun v23=>(cond v23 (call (Z177.R v20.1) fun v24=>ret (v24:Bool)) aS)) aS)) aS)))))))) (call (Z168.R (a.map bh)) fun v25=>(call (Z178.R (v25.1,v25.2.1,v25.2.2)) fun v26=>(call (Z152.R (v26.1,v25.2.1)) fun v27=>(call (Z131.R (v25.1,v25.2.1,v25.2.2)) fun v28=>(cond (v26.2==v28.2) (cond (!v26.2) ff (cond v27.2 (call (Z142.R (v27.1,v25.2.2)) fun v29=>(cond v29 (call (Z177.R v26.1) fun v30=>ret (v30:Bool)) aS)) aS)) aS)))))))))) (call (Z163.R (⟨d.bB,(⟨d.aE.bk,d.aE.bp,d.aE.bJ,(d.aE.bg.map bY)⟩:aC),(d.eN.map aa.row)⟩:aO)) fun v31=>(cond (!v31) (cond (d.aE.bp != 0) aS (cond (d.bB==2) (call (Z164.R (t.map ak.row)) fun v32=>(cond (!v32) aS (cond sure aS (call (Z168.R (a.map bh)) fun v33=>(call (Z178.R (v33.1,v33.2.1,v33.2.2)) fun v34=>(call (Z152.R (v34.1,v33.2.1)) fun v35=>(call (Z131.R (v33.1,v33.2.1,v33.2.2)) fun v36=>(cond (v34.2==v36.2) (cond (!v34.2) ff (cond v35.2 (call (Z142.R (v35.1,v33.2.2)) fun v37=>(cond v37 (call (Z177.R v34.1) fun v38=>ret (v38:Bool)) aS)) aS)) aS)))))))) (call (Z168.R (a.map bh)) fun v39=>(call (Z178.R (v39.1,v39.2.1,v39.2.2)) fun v40=>(call (Z152.R (v40.1,v39.2.1)) fun v41=>(call (Z131.R (v39.1,v39.2.1,v39.2.2)) fun v42=>(cond (v40.2==v42.2) (cond (!v40.2) ff (cond v41.2 (call (Z142.R (v41.1,v39.2.2)) fun v43=>(cond v43 (call (Z177.R v40.1) fun v44=>ret (v44:Bool)) aS)) aS)) aS))))))) (cond (d.bB==2) (call (Z164.R (t.map ak.row)) fun v45=>(cond (!v45) aS (cond sure aS (call (Z168.R (a.map bh)) fun v46=>(call (Z178.R (v46.1,v46.2.1,v46.2.2)) fun v47=>(call (Z152.R (v47.1,v46.2.1)) fun v48=>(call (Z131.R (v46.1,v46.2.1,v46.2.2)) fun v49=>(cond (v47.2==v49.2) (cond (!v47.2) ff (cond v48.2 (call (Z142.R (v48.1,v46.2.2)) fun v50=>(cond v50 (call (Z177.R v47.1) fun v51=>ret (v51:Bool)) aS)) aS)) aS)))))))) (call (Z168.R (a.map bh)) fun v52=>(call (Z178.R (v52.1,v52.2.1,v52.2.2)) fun v53=>(call (Z152.R (v53.1,v52.2.1)) fun v54=>(call (Z131.R (v52.1,v52.2.1,v52.2.2)) fun v55=>(cond (v53.2==v55.2) (cond (!v53.2) ff (cond v54.2 (call (Z142.R (v54.1,v52.2.2)) fun v56=>(cond v56 (call (Z177.R v53.1) fun v57=>ret (v57:Bool)) aS)) aS)) aS)))))))))) (call (Z163.R (⟨d.bB,(⟨d.aE.bk,d.aE.bp,d.aE.bJ,(d.aE.bg.map bY)⟩:aC),(d.eN.map aa.row)⟩:aO)) fun v58=>(cond (!v58) (cond (d.aE.bp != 0) aS (cond (d.bB==2) (call (Z164.R (t.map ak.row)) fun v59=>(cond (!v59) aS (cond sure aS (call (Z168.R (a.map bh)) fun v60=>(call (Z178.R (v60.1,v60.2.1,v60.2.2)) fun v61=>(call (Z152.R (v61.1,v60.2.1)) fun v62=>(call (Z131.R (v60.1,v60.2.1,v60.2.2)) fun v63=>(cond (v61.2==v63.2) (cond (!v61.2) ff (cond v62.2 (call (Z142.R (v62.1,v60.2.2)) fun v64=>(cond v64 (call (Z177.R v61.1) fun v65=>ret (v65:Bool)) aS)) aS)) aS)))))))) (call (Z168.R (a.map bh)) fun v66=>(call (Z178.R (v66.1,v66.2.1,v66.2.2)) fun v67=>(call (Z152.R (v67.1,v66.2.1)) fun v68=>(call (Z131.R (v66.1,v66.2.1,v66.2.2)) fun v69=>(cond (v67.2==v69.2) (cond (!v67.2) ff (cond v68.2 (call (Z142.R (v68.1,v66.2.2)) fun v70=>(cond v70 (call (Z177.R v67.1) fun v71=>ret (v71:Bool)) aS)) aS)) aS))))))) (cond (d.bB==2) (call (Z164.R (t.map ak.row)) fun v72=>(cond (!v72) aS (cond sure aS (call (Z168.R (a.map bh)) fun v73=>(call (Z178.R (v73.1,v73.2.1,v73.2.2)) fun v74=>(call (Z152.R (v74.1,v73.2.1)) fun v75=>(call (Z131.R (v73.1,v73.2.1,v73.2.2)) fun v76=>(cond (v74.2==v76.2) (cond (!v74.2) ff (cond v75.2 (call (Z142.R (v75.1,v73.2.2)) fun v77=>(cond v77 (call (Z177.R v74.1) fun v78=>ret (v78:Bool)) aS)) aS)) aS)))))))) (call (Z168.R (a.map bh)) fun v79=>(call (Z178.R (v79.1,v79.2.1,v79.2.2)) fun v80=>(call (Z152.R (v80.1,v79.2.1)) fun v81=>(call (Z131.R (v79.1,v79.2.1,v79.2.2)) fun v82=>(cond (v80.2==v82.2) (cond (!v80.2) ff (cond v81.2 (call (Z142.R (v81.1,v79.2.2)) fun v83=>(cond v83 (call (Z177.R v80.1) fun v84=>ret (v84:Bool)) aS)) aS)) aS)))))))))) (fun y:Bool=>y=true):=by
  intro off ho
  refine bD (Z163.aq (a0:=d) gus) (wp_cond (fun h=>?_) (fun _=>rest1))
  rw [hus] at h
  rcases hdec with (⟨h1,h2,h3⟩ | ⟨h1,h2,h3,h4⟩) | ⟨h1,h2,_⟩
  ·rw [ho,h3]
   refine wp_cond (fun h=>by cases h) (fun _=>wp_cond (fun _=>bD (Z142.aq (a0:=d.aE) (a1:=e0) ⟨hdS,heS⟩) ?_) (fun _=>rest1))
   rw [Z142.md_eq,fm.2 h2]
   exact wp_cond (fun h=>by cases h) (fun _=>rest1)
  ·rw [ho,h4,h2]
   refine wp_cond (fun h=>by cases h) (fun _=>wp_cond (fun h=>by cases h) (fun _=>?_))
   rw [h2] at rest1
   exact rest1
  ·have :(d.bB==1||d.bB==2)=false:=by simp;omega
   rw [this] at h;cases h
 have key:∃n,Wp (iter step n (.p0 (a.map bh) sure false 0 (t.map ak.row) d.bB d.aE.bk d.aE.bp d.aE.bJ e0.bk e0.bp e0.bJ (d.aE.bg.map bY) (d.eN.map aa.row) (e0.bg.map bY))) (fun y:Bool=>y=true):=by
  have htl:=ht.1
  refine ⟨t.length+1,jD (fun z=>match z with | .p0 a' b c d' e f g h i j k l m n o=>a'=a.map bh/\b=sure/\0<=d'/\d'<=t.length/\c=(t.take d'.toNat).any (fun y=>Z153.md y d.aE)/\e=t.map ak.row/\f=d.bB/\g=d.aE.bk/\h=d.aE.bp/\i=d.aE.bJ/\j=e0.bk/\k=e0.bp/\l=e0.bJ/\m=d.aE.bg.map bY/\n=d.eN.map aa.row/\o=e0.bg.map bY) (fun z=>match z with | .p0 a' b c d' e f g h i j k l m n o=>((t.length:Int) - d').toNat) (fun J z hI hJ=>?_) _ _ ⟨rfl,rfl,Int.le_refl _,by omega,rfl,rfl,rfl,rfl,rfl,rfl,rfl,rfl,rfl,rfl,rfl,rfl⟩ (by show ((t.length:Int) - 0).toNat<_;omega)⟩
  obtain ⟨a',b,c',d',e,f,g,h,i,j,k,l',m,n,o⟩:=z
  obtain ⟨rfl,rfl,h1,h2,h3,rfl,rfl,rfl,rfl,rfl,rfl,rfl,rfl,rfl,rfl,rfl⟩:=hI
  refine wp_cond (fun h4=>?_) (fun h4=>?_)
  ·have h4:=of_decide_eq_true h4
   have h4':d'<((t.map ak.row).length:Int):=h4
   rw [List.length_map] at h4
   have e1:i64.wrap (d'+1)=d'+1:=wi _ (by omega)
   have hi:d'.toNat<t.length:=by omega
   have htk:(t.take (i64.wrap (d'+1)).toNat).any (fun y=>Z153.md y d.aE)=((t.take d'.toNat).any (fun y=>Z153.md y d.aE)||Z153.md t[d'.toNat] d.aE):=by
    rw [e1,show (d'+1).toNat=d'.toNat+1 by omega,List.take_succ,List.getElem?_eq_getElem hi,List.any_append]
    simp
   have k0:0<=i64.wrap (d'+1):=by omega
   have k1:i64.wrap (d'+1)<=t.length:=by omega
   have km:((t.length:Int) - i64.wrap (d'+1)).toNat<((t.length:Int) - d').toNat:=by omega
   have hat:bL.at (t.map ak.row) (toNat d')=ak.r t[d'.toNat]:=ak.kP hi
   have hs:=ht.2 _ (List.getElem_mem hi)
   generalize t[d'.toNat]=y at *
   refine wp_cond (fun hc=>hJ _ ⟨rfl,rfl,k0,k1,?_,rfl,rfl,rfl,rfl,rfl,rfl,rfl,rfl,rfl,rfl,rfl⟩ km) (fun hc=>mS h1 h4' ?_)
   ·rw [htk,<-h3,show c'=true from hc];rfl
   ·rw [hat]
    refine wp_cond (fun hf=>mS h1 h4' (bD (Z142.aq (a0:=y.aE) (a1:=d.aE) ⟨hs.2.1,hdS⟩) (hJ _ ⟨rfl,rfl,k0,k1,?_,rfl,rfl,rfl,rfl,rfl,rfl,rfl,rfl,rfl,rfl,rfl⟩ km))) (fun hf=>hJ _ ⟨rfl,rfl,k0,k1,?_,rfl,rfl,rfl,rfl,rfl,rfl,rfl,rfl,rfl,rfl,rfl⟩ km)
    ·have hf:(y.bB==1)=true:=hf
     rw [htk,<-h3,show c'=false from hc]
     unfold Z153.md
     rw [hf];rfl
    ·have hf:(y.bB==1)=false:=hf
     rw [htk,<-h3,show c'=false from hc]
     unfold Z153.md
     rw [hf];rfl
  ·have h4:=of_decide_eq_false h4
   have h4:¬d'<((t.map ak.row).length:Int):=h4
   rw [List.length_map] at h4
   refine last c' ?_
   rw [h3,List.take_of_length_le (by omega)]
 obtain ⟨n,hn⟩:=key
 refine ⟨n,?_⟩
 unfold start
 refine bD (Z0.aq (a0:=a) trivial) ?_
 rw [show Z0.md a=false from decide_eq_false (by rw [List.length_map] at hbig;exact hbig)]
 refine wp_cond (fun c=>by cases c) (fun _=>bD hv2 ?_)
 rw [e2]
 refine bD (Z156.aq (a0:=l) (a1:=t) (a2:=p) ⟨hl,ht,hp⟩) (bD (Z139.aq (a0:=l) (a1:=t) (a2:=p) ⟨hl,ht,hp⟩) ?_)
 rw [<-Z156.br,<-hd]
 refine bD (Z159.aq (a0:=d) (a1:=d) ⟨⟨hdS,hoS⟩,⟨hdS,hoS⟩⟩) ?_
 rw [Z159.md_eq,fm.2 rfl]
 refine wp_cond (fun h=>by cases h) (fun _=>bD (Z162.aq (a0:=d.bB) trivial) (wp_cond (fun h=>?_) (fun _=>?_)))
 ·have hcode:d.bB=1∨d.bB=2∨d.bB=3∨d.bB=4∨d.bB=5:=by
   rcases hdec with (⟨h1,_⟩ | ⟨h1,_⟩) | ⟨h1,h2,_⟩<;>omega
  rcases hcode with h1 | h1 | h1 | h1 | h1<;>(rw [h1] at h;cases h)
 ·refine bD (Z152.aq (a0:=l) (a1:=p) ⟨hl,hp⟩) ?_
  rw [<-he]
  exact hn
def R:(an)->Option (Bool):=RQ (fun n x=>start (iter step n) x) (fun x=>post x)
def kO {x0:an}(hg:gd x0):∃y,R x0=some y/\post x0 y:=pU (wp x0 hg)
def acc (ls:List L):an:=(fc ls)
def aV:gW:=CN pats res acc R
def ah:cY 4 aV:=VQ (live:=live) (mt:=false) mix aJ (.cons Z0.ah (.cons Z132.ah (.cons Z156.ah (.cons Z139.ah (.cons Z159.ah (.cons Z162.ah (.cons Z152.ah (.cons Z142.ah (.cons Z163.ah (.cons Z164.ah (.cons Z168.ah (.cons Z178.ah (.cons Z131.ah (.cons Z177.ah .nil)))))))))))))) .nil .nil Tryz.func4 (by kernel_rfl) run_eq
def holds (ls:List L)(h:jY Ev.cells ([22].flatMap Ev.cells) ls):aV.sem ls=some [.bool true]:=by
 have hk:[22].flatMap Ev.cells=[.sl 5]:=by kernel_rfl
 rw [hk] at h
 obtain ⟨l0,t0,rfl,g0,h1⟩:=h.AU
 obtain ⟨x0,rfl,s0⟩:=B3 (show Ev.cells 5=[.int .u8] from by kernel_rfl) Cg g0
 obtain rfl:=h1.CM
 show (R (x0.map bh)).map RT.enc=_
 obtain ⟨y,hy,py⟩:=kO (x0:=(x0.map bh)) ⟨x0,rfl⟩
 have py:y=true:=py
 rw [hy,py]
 rfl
end Z179
end Go.DM
end
