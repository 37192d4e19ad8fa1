/- What the functions compute that the law reaches, and that the law returns true. Conditions: none. -/
import Derived.Test.YtcepeleohipibaaGreatLResolvedTy
import Derived.Test.YtcepeleohipibaaGreatLResolvedFnB
set_option linter.all false
set_option maxRecDepth 100000
noncomputable section
namespace Go.DM
open Go.Proofs
open Go.IntKind (i64)
open Int (toNat)
open Nat (le_trans zero_le)
namespace Z201
def F (x0:bW)(x1:Int):aD:=(cond (x1<0) mV (call (Z200.R (x0.bf,x1)) fun v1=>ret v1))
def md (a0:aB)(a1:Int):Int:=(cond (a1<0) ((-1):Int) ((Z200.md a0.bf a1)))
def gd (a0:aB)(a1:Int):Prop:=(aB.Sm (2^21) a0)
def R:=cI gd md
def aj {a0 a1}(h:gd a0 a1):R ((aB.r a0),a1)=some (md a0 a1):=cH h
def aM:=CN [.agg Ac,pI] oI RT.dec R
def bn (a0)(a1)(H0:gd a0 a1):F (aB.r a0) a1=ret (md a0 a1):=by
 refine bs (fun _=>rfl) (fun c1=>?_)
 exact ct (Z200.aj H0) fz
def af:cj 344 aM:=W2 11 F mix az bn (cO Z200.af) Tryz.func344
def fa (a0:aB)(a1:Int):-1<=md a0 a1/\md a0 a1<(a0.bf.length:Int):=by
 unfold md
 have:=Z200.fa a0.bf a1
 cases decide (a1<0)
 ·exact this
 ·simp only [aO];omega
def br (a0:aB)(a1:Int):md a0 a1=Z82.md a0 a1:=by
 unfold md Z82.md
 rw [Z200.idx_eq]
 rw [kJ (p:=fun y=>(Z64.md y==a1)&&decide (a1>=0)) (fun i x s=>by cases (Z64.md x==a1)<;>cases decide (a1>=0)<;>rfl)]
 have e:(fun y=>Z199.md y a1)=fun y=>Z64.md y==a1:=by
  funext y
  unfold Z199.md
  rw [Z198.br]
 have key:∀(xs:List aH) (i:Nat),iD (fun _=>false) i xs=-1:=by
  intro xs
  induction xs with
  | nil=>intro i;rfl
  | cons x xs ih=>intro i;unfold iD;exact ih _
 rw [e]
 by_cases h:a1<0
 ·rw [decide_eq_true h,decide_eq_false (show ¬a1>=0 by omega)]
  simp only [aO,Bool.and_false,key]
 ·rw [decide_eq_false h,decide_eq_true (show a1>=0 by omega)]
  simp only [aR,Bool.and_true]
end Z201
namespace Z202
def F (x0:bk)(x1:List L):aD:=ret ((x0.aS==(sDec x1)))
def pats:List fF:=[.agg [.str,aE,aE,.sl 9],.ptr [.str]]
def res:RP:=.one (.rd (.bool))
def md (a0:ah)(a1:av):Bool:=((a0.aS==a1))
def gd (a0:ah)(a1:av):Prop:=True
def acc (ls:List L):bk×av:=((bk.dec ls),(sDec (ck 1 (bA 4 ls))))
def R:(bk×av)->Option Bool:=cI gd md
def aj {a0 a1}(h:gd a0 a1):R ((ah.r a0),a1)=some (md a0 a1):=cH h
def aM:gj:=CN pats res acc R
def bn (a0:ah)(a1:av)(p1:List L)(e1:a1=(sDec p1))(hg:gd a0 a1):F (ah.r a0) p1=ret ((md a0 a1):Bool):=by
 unfold F md
 simp only [SS,<-e1]
def qH (ls:List L)(a:ah×av)(e:acc ls=Im.im a)(hg:(p2 gd) a):∃n:Nat,F (bk.dec ls) (ck 1 (bA 4 ls))=ret (Im.im ((u2 md) a)):=by
 have e0:(ah.r a.1)=(bk.dec ls):=(congrArg (fun x=>x.1) e.symm)
 have hn:=bn a.1 a.2 (ck 1 (bA 4 ls)) (congrArg (fun x=>x.2) e.symm) hg
 refine ⟨0,?_⟩
 rw [<-e0]
 exact hn
def af:cj 445 aM:=VP (live:=fun _=>[]) (nt:=8) (accr:=fun ls=>((bk.dec ls),(ck 1 (bA 4 ls)))) (run:=fun _ x=>F x.1 x.2) mix az .nil Tryz.func445 (by kernel_rfl) (fun _ _=>by kernel_rfl) (fun ls a _ e hg=>qH ls a e hg)
end Z202
namespace Z203
inductive Pt where
 | p0 (a:aq) (b:List L) (c d:Int)
def pid:Pt->Nat
 | .p0 ..=>2
def cM:Pt->List V
 | .p0 a b c d=>[.sl none 62 a,.fn 445 [.cS none [.str] b 0],.int .i64 c,.int .i64 d]
def dQ:Pt->List aK
 | .p0 a b c d=>[]
def step (J:Pt->aD):Pt->aD
 | .p0 a b c d=>(cond (d<c) (m2 d (a.length:Int) (call (Z202.R ((bk.at a (toNat d)),(sDec b))) fun v1=>(cond v1 (ret (d:Int)) (J (.p0 a b c (i64.wrap (d+1))))))) mV)
def start (J:Pt->aD)(x0:aq)(x1:List L):aD:=J (.p0 x0 x1 x0.length 0)
def live:Nat->Live:=gL [(2,jC [0,1,7,8])]
def pats:List fF:=[.rd (.sl 62),.fn 445 [[.str]]]
def res:RP:=.one (.rd (.int .i64))
abbrev E:Env:={ T:=assoc mC,G:=cZ [(445,Z202.aM)],nt:=19 }
def step_eq (I:dD)(p:Pt):dU E live I (pid p) (bL Tryz.f444) (iT (live (pid p)) (cM p) (dQ p)) (dA E Tryz.f444 res)=step (fun q=>I (pid q) (cM q) (dQ q)) p:=by
 cases p<;>kernel_rfl
def start_eq (I:dD)(ls:List L):gO E live I (bL Tryz.f444) (dJ pats ls) (dA E Tryz.f444 res)=start (fun q=>I (pid q) (cM q) (dQ q)) (eU ls) (ck 1 (bA 1 ls)):=by kernel_rfl
def run_eq (n:Nat)(ls:List L):eY E live Tryz.f444 res n (dJ pats ls)=start (iter step n) (eU ls) (ck 1 (bA 1 ls)):=dI (id:=pid) (vs:=cM) (hs:=dQ) (step:=step) (start:=fun J=>start J (eU ls) (ck 1 (bA 1 ls))) step_eq (fun I=>start_eq I ls) n
def md (a0:List ah)(a1:av):Int:=(dY (S:=Unit) (β:=Int) (fun i1 y1 s3=>(cond (Z202.md y1 a1) (.inr (i1)) (.inl ()))) (fun s3=>((-1):Int)) 0 a0 ())
def gd (a0:List ah)(a1:av):Prop:=(bg (2^21) (fun y:ah=>ah.Sm (2^21) y) a0)
def acc (ls:List L):aq×av:=((eU ls),(sDec (ck 1 (bA 1 ls))))
def R:(aq×av)->Option Int:=cI gd md
def aj {a0 a1}(h:gd a0 a1):R ((a0.map ah.row),a1)=some (md a0 a1):=cH h
def aM:gj:=CN pats res acc R
def bn (a0:List ah)(a1:av)(p1:List L)(e1:a1=(sDec p1))(H0:gd a0 a1):∃n,start (iter step n) (a0.map ah.row) p1=ret ((md a0 a1):Int):=by
 have Bh2:=bl H0
 refine ex_eq (cK (z:=ah.zero)) (dy (p:=Pt.p0 (a0.map ah.row) p1 (a0.length:Int) 0) fz ?_)
 refine bH (pt:=fun (i1:Nat) (s3:Unit)=>Pt.p0 (a0.map ah.row) p1 (a0.length:Int) (i1:Int)) (fun _ _=>True) (fun J i1 s3 h2 hih2=>?_) (fun s3 hih2=>?_) trivial
 ·simp only [step,SS,<-e1]
  refine aP.yes dt (aP.yes bB ?_)
  refine aP.yes (bQ h2) (cr (Z202.aj trivial) ?_)
  refine aP.bif (fun c4=>aP.inr fz) (fun c4=>?_)
  refine aP.inl trivial ?_
  rw [aF h2 Bh2]
 ·simp only [step,SS,<-e1]
  refine cL dn (⟨0,?_⟩)
  exact fz
def qH (ls:List L)(a:List ah×av)(e:acc ls=Im.im a)(hg:(p2 gd) a):∃n:Nat,start (iter step n) ((eU ls)) (ck 1 (bA 1 ls))=ret (Im.im ((u2 md) a)):=by
 have e0:(a.1.map ah.row)=(eU ls):=(congrArg (fun x=>x.1) e.symm)
 obtain ⟨n,hn⟩:=bn a.1 a.2 (ck 1 (bA 1 ls)) (congrArg (fun x=>x.2) e.symm) hg
 refine ⟨n,?_⟩
 rw [<-e0]
 exact hn
def af:cj 444 aM:=VP (accr:=fun ls=>((eU ls),(ck 1 (bA 1 ls)))) (run:=fun n x=>start (iter step n) x.1 x.2) mix az (cO Z202.af) Tryz.func444 (by kernel_rfl) run_eq (fun ls a _ e hg=>qH ls a e hg)
end Z203
namespace Z204
def F (x0:aq)(x1:av):aD:=(call (Z203.R (x0,x1)) fun v1=>ret v1)
def md (a0:List ah)(a1:av):Int:=((Z203.md a0 a1))
def gd (a0:List ah)(a1:av):Prop:=(bg (2^21) (fun y:ah=>ah.Sm (2^21) y) a0)
def R:=cI gd md
def aj {a0 a1}(h:gd a0 a1):R ((a0.map ah.row),a1)=some (md a0 a1):=cH h
def aM:=CN [pL 62,pS] oI RT.dec R
def bn (a0)(a1)(H0:gd a0 a1):F (a0.map ah.row) a1=ret (md a0 a1):=ct (Z203.aj H0) fz
def af:cj 407 aM:=W2 8 F mix az bn (cO Z203.af) Tryz.func407
def fa (a0:List ah)(a1:av):-1<=md a0 a1/\md a0 a1<(a0.length:Int):=by
 refine jV ?_ _ _
 all_goals
  intro i x s b h
  revert h
  simp only [Bool.cond_eq_ite]
  repeat' split
  all_goals (intro h;first | (cases h;rfl) | cases h)
def br (a0:List ah)(a1:av):md a0 a1=Z99.md a0 a1:=by
 unfold md Z99.md
 rfl
end Z204
namespace Z205
def F (x0:aq):aD:=(cond x0.isEmpty (either (ret ([]:aq)) ((cA (eK (x0.length*16)) (ret (x0:aq))))) (cA (eK (x0.length*16)) (ret (x0:aq))))
def md (a0:List av):List av:=a0
def gd (a0:List av):Prop:=bg (2^21) (fun y:av=>y.size<=(2^21)) a0
def R:=RR gd md
def aj {a0}(h:gd a0):R (a0.map dL)=some (a0.map dL):=cQ h
def aM:=CN [pL 9] (oL 9) RT.dec R
def bn (a0)(hg:gd a0):F (a0.map dL)=ret ((md a0).map dL):=by
 have H0:=hg.1
 unfold F md
 have hl:eK (((a0.map dL).length:Int)*16)=true:=gC (by simp only [List.length_map];omega)
 simp only [hl,aO]
 cases a0 with
 | nil=>exact mO
 | cons x xs=>rfl
def af:cj 262 aM:=W1 8 F mix az bn .nil Tryz.func262
end Z205
namespace Z206
def F (x0:bk):aD:=(call (Z205.R x0.bC) fun v1=>ret ((⟨x0.aS,x0.bt,x0.bO,v1⟩):bk))
def md (a0:ah):ah:=a0
def gd (a0:ah):Prop:=(ah.Sm (2^21) a0)
def R:=RR gd md
def aj {a0}(h:gd a0):R (ah.r a0)=some (ah.r a0):=cQ h
def aM:=CN [.agg vZ] (.agg f62) RT.dec R
def bn (a0)(H0:gd a0):F (ah.r a0)=ret (ah.r (md a0)):=ct (Z205.aj H0.2) fz
def af:cj 170 aM:=W1 8 F mix az bn (cO Z205.af) Tryz.func170
end Z206
namespace Z207
inductive Pt where
 | p0 (a:aq) (b:Int) (c:aq)
 | p1 (a:Int) (b c:aq)
def cM:Pt->List V
 | .p0 a b c=>[.sl none 3 a,.int .i64 b,.own 0]
 | .p1 a b c=>[.own 0,.int .i64 a,.own 1]
def dQ:Pt->List aK
 | .p0 a b c=>[.row 3 c]
 | .p1 a b c=>[.row 3 b,.row 3 c]
def step (J:Pt->aD):Pt->aD
 | .p0 a b c=>(cond ((a.length:Int)>1) (cond ((nA .i64 b 1)<(a.length:Int)) (cA ((0:Int)<=(nA .i64 b 1)) (cA ((nA .i64 b 1)<(a.length:Int)) (cA (eK (((c.length:Int)+1)*8)) (call (Z192.R a) fun v1=>J (.p1 (i64.wrap (Int.tdiv b 2)) v1 (c++[[L.int (jz a (toNat (nA .i64 b 1)))]])))))) (call (Z192.R a) fun v2=>J (.p1 (i64.wrap (Int.tdiv b 2)) v2 c))) (ret (c:aq)))
 | .p1 a b c=>(cond ((b.length:Int)>1) (cond ((nA .i64 a 1)<(b.length:Int)) (cA ((0:Int)<=(nA .i64 a 1)) (cA ((nA .i64 a 1)<(b.length:Int)) (cA (eK (((c.length:Int)+1)*8)) (call (Z192.R b) fun v1=>J (.p1 (i64.wrap (Int.tdiv a 2)) v1 (c++[[L.int (jz b (toNat (nA .i64 a 1)))]])))))) (call (Z192.R b) fun v2=>J (.p1 (i64.wrap (Int.tdiv a 2)) v2 c))) (ret (c:aq)))
def start (J:Pt->aD)(x0:aq)(x1:Int):aD:=(call (Z134.R (x1,0,(i64.wrap (x0.length - 1)))) fun v1=>(cond (!v1) (ret ([]:aq)) (J (.p0 x0 x1 []))))
def live:Nat->Live:=gL [(4,[(0,none),(1,none),(5,some 3)])]
def Fb (b:Nat)(h:b<2^40):nA .i64 (b:Int) 1=((Z100.ya b:Nat):Int):=by
 have e1:(BitVec.ofInt 64 (b:Int)).toNat=b:=by simp [BitVec.toNat_ofInt];omega
 have e2:(BitVec.ofInt 64 (1:Int)).toNat=1:=by decide
 have e3:(b ^^^ 1)=Z100.ya b:=by
  have a1:(b ^^^ 1) % 2=(b+1) % 2:=by
   have h:=Nat.xor_mod_two_pow (a:=b) (b:=1) (n:=1)
   rw [Nat.pow_one,show (1:Nat) % 2=1 from rfl] at h
   rcases Nat.mod_two_eq_zero_or_one b with e | e
   ·rw [e,show (0:Nat) ^^^ 1=1 from rfl] at h;omega
   ·rw [e,show (1:Nat) ^^^ 1=0 from rfl] at h;omega
  have a2:(b ^^^ 1) / 2=b / 2:=by rw [Nat.xor_div_two];simp
  unfold Z100.ya;split<;>omega
 show i64.wrap (((BitVec.ofInt 64 (b:Int) ^^^ BitVec.ofInt 64 1).toNat:Nat):Int)=_
 rw [BitVec.toNat_xor,e1,e2,e3,wi _ (by unfold Z100.ya;split<;>omega)]
def md (a0:List Int)(a1:Int):List Int:=Z100.md a0 a1
def gd (a0:List Int)(a1:Int):Prop:=bg (2^38) (fun y:Int=>True) a0
def R:=cI gd md
def aj {a0 a1}(h:gd a0 a1):R ((a0.map aV),a1)=some ((md a0 a1).map aV):=cH h
def aM:=CN [pL 3,pI] (oL 3) RT.dec R
def bn (a0)(a1)(hg:gd a0 a1):∃n,start (iter step n) (a0.map aV) a1=ret ((md a0 a1).map aV):=by
 have one:∀(i:Nat) (l c r:List Int) (n:Nat),bg (2^38) (fun y:Int=>True) l->i<2^40->c.length<2^40->(if l.length>1 then iter step n (Pt.p1 ((i / 2:Nat):Int) ((Z29.up l).map aV) ((Z100.xY i l c).map aV))=ret (r.map aV) else c=r)->
   step (iter step n) (Pt.p0 (l.map aV) (i:Int) (c.map aV))=ret (r.map aV)/\step (iter step n) (Pt.p1 (i:Int) (l.map aV) (c.map aV))=ret (r.map aV):=by
  intro i l c r n hl hi hc h
  have hs:=Fb i hi
  have hd:=Z100.half i hi
  refine ⟨?_,?_⟩
  all_goals
   simp only [step,MM,List.length_map,iu,hs,hd,gv]
   by_cases h1:l.length>1
   ·rw [if_pos h1] at h
    rw [decide_eq_true (show (l.length:Int)>1 by omega),aO]
    by_cases h2:Z100.ya i<l.length
    ·rw [Z100.xY,if_pos h2,List.map_append] at h
     rw [decide_eq_true (show ((Z100.ya i:Nat):Int)<(l.length:Int) by omega),aO,decide_eq_true (show (0:Int)<=((Z100.ya i:Nat):Int) by omega),aO,aO,gC (by omega),aO]
     exact cG _ (Z192.aj hl) h
    ·rw [Z100.xY,if_neg h2] at h
     rw [decide_eq_false (show ¬((Z100.ya i:Nat):Int)<(l.length:Int) by omega),aR]
     exact cG _ (Z192.aj hl) h
   ·rw [if_neg h1] at h
    rw [decide_eq_false (show ¬(l.length:Int)>1 by omega),aR,h]
 have key:∀(k i:Nat) (l c:List Int),bg (2^38) (fun y:Int=>True) l->l.length<=k->i<2^40->c.length+k<2^40->
   ∃n,step (iter step n) (Pt.p0 (l.map aV) (i:Int) (c.map aV))=ret ((Z100.BT k i l c).map aV)/\step (iter step n) (Pt.p1 (i:Int) (l.map aV) (c.map aV))=ret ((Z100.BT k i l c).map aV):=by
  intro k
  induction k with
  | zero=>intro i l c hl hk hi hc;exact ⟨0,one i l c _ 0 hl hi (by omega) (by rw [if_neg (by omega)];rfl)⟩
  | succ k ih=>
   intro i l c hl hk hi hc
   unfold Z100.BT
   by_cases h1:l.length>1
   ·have hu:=Z29.lA l
    have hl1:=hl.1
    have h2:(Z100.xY i l c).length<=c.length+1:=by unfold Z100.xY;split<;>simp
    obtain ⟨n,_,hn⟩:=ih (i / 2) (Z29.up l) (Z100.xY i l c) ⟨by omega,fun _ _=>trivial⟩ (by omega) (by omega) (by omega)
    rw [if_pos h1]
    exact ⟨n+1,one i l c _ (n+1) hl hi (by omega) (by rw [if_pos h1];exact hn)⟩
   ·rw [if_neg h1]
    exact ⟨0,one i l c _ 0 hl hi (by omega) (by rw [if_neg h1])⟩
 unfold start md Z100.md
 simp only [List.length_map]
 have hlen:=hg.1
 cases h:Z11.md a1 0 (i64.wrap ((a0.length:Int) - 1))
 ·exact ⟨0,cG false (by rw [<-h,<-Z134.br];exact Z134.aj trivial) rfl⟩
 ·have hh:=h
  rw [wi _ (by omega)] at hh
  simp [Z11.md] at hh
  obtain ⟨i,rfl⟩:=Int.eq_ofNat_of_zero_le hh.1
  obtain ⟨n,hn,_⟩:=key a0.length i a0 [] hg (Nat.le_refl _) (by omega) (by simp only [List.length_nil];omega)
  exact ⟨n+1,cG true (by rw [<-h,<-Z134.br];exact Z134.aj trivial) hn⟩
def af:cj 446 aM:=L2 36 (fun _=>4) cM dQ live step start mix az bn (fc Z134.af Z192.af) Tryz.func446
def len (a0:List Int)(a1:Int):(md a0 a1).length<=a0.length:=by
 intros;unfold md Z100.md
 cases Z11.md _ 0 _
 ·exact zero_le _
 ·exact le_trans (Z100.vC _ _ _ _) (by simp)
def br (a0:List Int)(a1:Int):md a0 a1=Z100.md a0 a1:=by
 unfold md Z100.md
 simp only [Z134.br,Z192.br]
end Z207
namespace Z208
def F (x0:aq)(x1:av):aD:=(call (Z204.R (x0,x1)) fun v1=>(cond (v1<0) (ret (((⟨0,[]⟩),false):eC×Bool)) (call (Z189.R x0) fun v2=>(call (Z207.R (v2,v1)) fun v3=>ret (((⟨v1,v3⟩),true):eC×Bool)))))
def md (a0:List ah)(a1:av):aT×Bool:=(cond ((Z204.md a0 a1)<0) ((⟨0,[]⟩),false) ((⟨(Z204.md a0 a1),(Z207.md (Z189.md a0) (Z204.md a0 a1))⟩),true))
def gd (a0:List ah)(a1:av):Prop:=(bg (2^21) (fun y:ah=>ah.Sm (2^21) y) a0)
def R:=cI gd md
def aj {a0 a1}(h:gd a0 a1):R ((a0.map ah.row),a1)=some ((aT.r (md a0 a1).1),(md a0 a1).2):=cH h
def aM:=CN [pL 62,pS] (.gW [(true,f64),(false,[fB])]) RT.dec R
def bn (a0)(a1)(H0:gd a0 a1):F (a0.map ah.row) a1=ret ((aT.r (md a0 a1).1),(md a0 a1).2):=by
 refine ct (Z204.aj H0) (bM (fun b:aT×Bool=>ret (((aT.r b.1),b.2):eC×Bool)) (fun c1=>fz) (fun c1=>?_))
 refine ct (Z189.aj H0) (ct (Z207.aj ⟨(have:=Z189.len a0;have:=(H0).1;om),fun _ _=>trivial⟩) ?_)
 exact fz
def af:cj 408 aM:=W2 19 F mix az bn (jB Z204.af Z189.af Z207.af) Tryz.func408
def fo {a0:List ah}{a1:av}(hg:gd a0 a1):aT.Sm (2^21) ((md a0 a1).1):=by
 unfold gd at hg;unfold md
 cases decide (Z204.md a0 a1<0)
 ·refine ⟨?_,fun _ _=>trivial⟩
  have h:=Z207.len (Z189.md a0) (Z204.md a0 a1)
  rw [Z189.len] at h
  exact le_trans h hg.1
 ·exact bg.nil
def br (a0:List ah)(a1:av):md a0 a1=Z101.md a0 a1:=by
 unfold md Z101.md
 simp only [Z204.br,Z189.br,Z207.br]
end Z208
namespace Z209
inductive Pt where
 | p0 (a:av) (b:Int) (c:aq) (d e:Int)
def cM:Pt->List V
 | .p0 a b c d e=>[.str a,.int .i64 b,.sl none 62 c,.int .i64 d,.int .i64 e]
def step (J:Pt->aD):Pt->aD
 | .p0 a b c d e=>(cond (e<d) (m2 e (c.length:Int) (call (Z183.R ((bk.at c (toNat e)).aS,a)) fun v1=>(cond (v1<0) (J (.p0 a (i64.wrap (b+1)) c d (i64.wrap (e+1)))) (J (.p0 a b c d (i64.wrap (e+1))))))) (ret (b:Int)))
def start (J:Pt->aD)(x0:aq)(x1:av):aD:=J (.p0 x1 0 x0 x0.length 0)
def live:Nat->Live:=gL [(3,jC [1,5,8,9,10])]
def md (a0:List ah)(a1:av):Int:=(dM (S:=Int) (β:=Int) (fun y1 s3=>(cond ((Z183.md (y1.aS) a1)<0) (.inl (i64.wrap (s3+1))) (.inl s3))) (fun s3=>s3) a0 0)
def gd (a0:List ah)(a1:av):Prop:=(bg (2^21) (fun y:ah=>ah.Sm (2^21) y) a0)
def R:=cI gd md
def aj {a0 a1}(h:gd a0 a1):R ((a0.map ah.row),a1)=some (md a0 a1):=cH h
def aM:=CN [pL 62,pS] oI RT.dec R
def bn (a0)(a1)(H0:gd a0 a1):∃n,start (iter step n) (a0.map ah.row) a1=ret (md a0 a1):=by
 have Bh2:=bl H0
 refine ex_eq (dZ (z:=ah.zero)) (dy (p:=Pt.p0 a1 0 (a0.map ah.row) (a0.length:Int) 0) fz ?_)
 refine bH (pt:=fun (i1:Nat) (s3:Int)=>Pt.p0 a1 s3 (a0.map ah.row) (a0.length:Int) (i1:Int)) (fun _ _=>True) (fun J i1 s3 h2 hih2=>?_) (fun s3 hih2=>?_) trivial
 ·simp only [step,SS]
  refine aP.yes dt (aP.yes bB ?_)
  refine aP.yes (bQ h2) (cr (Z183.aj trivial) ?_)
  refine aP.bif (fun c4=>?_) (fun c4=>?_)
  ·refine aP.inl trivial ?_
   rw [aF h2 Bh2]
  ·refine aP.inl trivial ?_
   rw [aF h2 Bh2]
 ·simp only [step,SS]
  refine cL dn (⟨0,?_⟩)
  exact fz
def af:cj 448 aM:=L2 23 (fun _=>3) cM (fun _=>[]) live step start mix az bn (cO Z183.af) Tryz.func448
def fa (a0:List ah)(a1:av):a0.length<=2^21->0<=md a0 a1/\md a0 a1<=(a0.length:Int):=fun hl=>by
 have key:∀(xs:List ah) (s:Int),0<=s->s+xs.length<=2^22->0<=dM (S:=Int) (β:=Int) (fun (y1:ah) (s3:Int)=>(cond ((Z183.md (y1.aS) a1)<0) (.inl (i64.wrap (s3+1))) (.inl s3))) (fun (s3:Int)=>(s3:Int)) xs s/\dM (S:=Int) (β:=Int) (fun (y1:ah) (s3:Int)=>(cond ((Z183.md (y1.aS) a1)<0) (.inl (i64.wrap (s3+1))) (.inl s3))) (fun (s3:Int)=>(s3:Int)) xs s<=s+xs.length:=by
  intro xs
  induction xs with
  | nil=>intro s h0 h1;exact ⟨h0,by simp [dM]⟩
  | cons x xs ih=>
   intro s h0 h1
   simp only [List.length_cons] at h1 ⊢
   unfold dM
   cases decide (Z183.md x.aS a1<0)
   ·have:=ih s h0 (by omega)
    simp only [aR]
    omega
   ·have:=ih (s+1) (by omega) (by omega)
    simp only [aO]
    rw [wi _ (by omega)]
    omega
 have:=key a0 0 (Int.le_refl _) (by omega)
 unfold md
 omega
def br (a0:List ah)(a1:av):md a0 a1=Z102.md a0 a1:=by
 unfold md Z102.md
 simp only [Z183.br]
end Z209
namespace Z210
def F (x0:aq)(x1:av):aD:=(call (Z184.R x0) fun v1=>(cond (!v1) (ret (((⟨0,(⟨(⟨#[]⟩:av),0,0,[]⟩),(⟨(⟨#[]⟩:av),0,0,[]⟩),(⟨0,[]⟩),(⟨0,[]⟩)⟩),false):fK×Bool)) (call (Z135.R x1) fun v2=>(cond (!v2) (ret (((⟨0,(⟨(⟨#[]⟩:av),0,0,[]⟩),(⟨(⟨#[]⟩:av),0,0,[]⟩),(⟨0,[]⟩),(⟨0,[]⟩)⟩),false):fK×Bool)) (call (Z204.R (x0,x1)) fun v3=>(cond (v3>=0) (ret (((⟨0,(⟨(⟨#[]⟩:av),0,0,[]⟩),(⟨(⟨#[]⟩:av),0,0,[]⟩),(⟨0,[]⟩),(⟨0,[]⟩)⟩),false):fK×Bool)) (call (Z209.R (x0,x1)) fun v4=>(cond (v4>0) (cA ((0:Int)<=(i64.wrap (v4 - 1))) (cA ((i64.wrap (v4 - 1))<x0.length) (call (Z206.R (bk.at x0 (toNat (i64.wrap (v4 - 1))))) fun v5=>(call (Z208.R (x0,v5.aS)) fun v6=>(cond (v4<x0.length) (m2 v4 x0.length (call (Z206.R (bk.at x0 (toNat v4))) fun v7=>(call (Z208.R (x0,v7.aS)) fun v8=>ret (((⟨v4,v5,v7,v6.1,v8.1⟩),true):fK×Bool)))) (ret (((⟨v4,v5,(⟨(⟨#[]⟩:av),0,0,[]⟩),v6.1,(⟨0,[]⟩)⟩),true):fK×Bool))))))) (cond (v4<x0.length) (m2 v4 x0.length (call (Z206.R (bk.at x0 (toNat v4))) fun v9=>(call (Z208.R (x0,v9.aS)) fun v10=>ret (((⟨v4,(⟨(⟨#[]⟩:av),0,0,[]⟩),v9,(⟨0,[]⟩),v10.1⟩),true):fK×Bool)))) (ret (((⟨v4,(⟨(⟨#[]⟩:av),0,0,[]⟩),(⟨(⟨#[]⟩:av),0,0,[]⟩),(⟨0,[]⟩),(⟨0,[]⟩)⟩),true):fK×Bool)))))))))))
def md (a0:List ah)(a1:av):bS×Bool:=(cond (!(Z184.md a0)) ((⟨0,(⟨((⟨#[]⟩:av)),0,0,[]⟩),(⟨((⟨#[]⟩:av)),0,0,[]⟩),(⟨0,[]⟩),(⟨0,[]⟩)⟩),false) (cond (!(Z135.md a1)) ((⟨0,(⟨((⟨#[]⟩:av)),0,0,[]⟩),(⟨((⟨#[]⟩:av)),0,0,[]⟩),(⟨0,[]⟩),(⟨0,[]⟩)⟩),false) (cond ((Z204.md a0 a1)>=0) ((⟨0,(⟨((⟨#[]⟩:av)),0,0,[]⟩),(⟨((⟨#[]⟩:av)),0,0,[]⟩),(⟨0,[]⟩),(⟨0,[]⟩)⟩),false) (cond ((Z209.md a0 a1)>0) (cond ((Z209.md a0 a1)<a0.length) ((⟨(Z209.md a0 a1),(a0.getD (toNat (i64.wrap ((Z209.md a0 a1) - 1))) ah.zero),(a0.getD (toNat (Z209.md a0 a1)) ah.zero),(Z208.md a0 ((a0.getD (toNat (i64.wrap ((Z209.md a0 a1) - 1))) ah.zero).aS)).1,(Z208.md a0 ((a0.getD (toNat (Z209.md a0 a1)) ah.zero).aS)).1⟩),true) ((⟨(Z209.md a0 a1),(a0.getD (toNat (i64.wrap ((Z209.md a0 a1) - 1))) ah.zero),(⟨((⟨#[]⟩:av)),0,0,[]⟩),(Z208.md a0 ((a0.getD (toNat (i64.wrap ((Z209.md a0 a1) - 1))) ah.zero).aS)).1,(⟨0,[]⟩)⟩),true)) (cond ((Z209.md a0 a1)<a0.length) ((⟨(Z209.md a0 a1),(⟨((⟨#[]⟩:av)),0,0,[]⟩),(a0.getD (toNat (Z209.md a0 a1)) ah.zero),(⟨0,[]⟩),(Z208.md a0 ((a0.getD (toNat (Z209.md a0 a1)) ah.zero).aS)).1⟩),true) ((⟨(Z209.md a0 a1),(⟨((⟨#[]⟩:av)),0,0,[]⟩),(⟨((⟨#[]⟩:av)),0,0,[]⟩),(⟨0,[]⟩),(⟨0,[]⟩)⟩),true))))))
def gd (a0:List ah)(a1:av):Prop:=(bg (2^21) (fun y:ah=>ah.Sm (2^21) y) a0)/\(a1.size<=(2^21))
def R:=cI gd md
def aj {a0 a1}(h:gd a0 a1):R ((a0.map ah.row),a1)=some ((bS.r (md a0 a1).1),(md a0 a1).2):=cH h
def aM:=CN [pL 62,pS] (.gW [(true,f66),(false,[fB])]) RT.dec R
def bn (a0)(a1)(hg:gd a0 a1):F (a0.map ah.row) a1=ret ((bS.r (md a0 a1).1),(md a0 a1).2):=by
 obtain ⟨H0,H1⟩:=hg
 unfold F md
 simp only [SS]
 refine ct (Z184.aj H0) (bM (fun b:bS×Bool=>ret (((bS.r b.1),b.2):fK×Bool)) (fun c1=>fz) (fun c1=>?_))
 refine ct (Z135.aj (le_trans H1 (by decide))) (bM (fun b:bS×Bool=>ret (((bS.r b.1),b.2):fK×Bool)) (fun c2=>fz) (fun c2=>?_))
 refine ct (Z204.aj H0) (bM (fun b:bS×Bool=>ret (((bS.r b.1),b.2):fK×Bool)) (fun c3=>fz) (fun c3=>?_))
 refine ct (Z209.aj H0) ?_
 have fv4_:=Z209.fa a0 a1
 refine bM (fun b:bS×Bool=>ret (((bS.r b.1),b.2):fK×Bool)) (fun c4=>?_) (fun c4=>?_)
 ·have dc4:=c4
  simp only [DC] at dc4
  refine aG (have:=(H0).1;dt) (aG (have:=(H0).1;have:=(H0).1;dt) ?_)
  refine ct (Z206.aj (bg.getD H0 (by have:=(H0).1;first | assumption | omega | (simp (disch:=omega) only [wi];omega) | (simp;omega)))) (ct (Z208.aj H0) ?_)
  refine bM (fun b:bS×Bool=>ret (((bS.r b.1),b.2):fK×Bool)) (fun c5=>?_) (fun c5=>fz)
  have dc5:=c5
  simp only [DC] at dc5
  refine aG dt (aG (have:=(H0).1;have:=(H0).1;dt) ?_)
  refine ct (Z206.aj (bg.getD H0 (by have:=(H0).1;first | assumption | omega | (simp (disch:=omega) only [wi];omega) | (simp;omega)))) (ct (Z208.aj H0) ?_)
  exact fz
 ·refine bM (fun b:bS×Bool=>ret (((bS.r b.1),b.2):fK×Bool)) (fun c6=>?_) (fun c6=>fz)
  have dc6:=c6
  simp only [DC] at dc6
  refine aG (have:=(H0).1;dt) (aG (have:=(H0).1;have:=(H0).1;dt) ?_)
  refine ct (Z206.aj (bg.getD H0 (by have:=(H0).1;first | assumption | omega | (simp (disch:=omega) only [wi];omega) | (simp;omega)))) (ct (Z208.aj H0) ?_)
  exact fz
def af:cj 409 aM:=W2 68 F mix az bn (vY Z184.af Z135.af Z204.af Z209.af Z206.af Z208.af) Tryz.func409
def fo {a0:List ah}{a1:av}(hg:gd a0 a1):bS.Sm (2^21) ((md a0 a1).1):=by
 unfold gd at hg;unfold md
 have ez:ah.Sm (2^21) ⟨⟨#[]⟩,0,0,[]⟩:=⟨zero_le _,bg.nil⟩
 have pz:aT.Sm (2^21) ⟨0,[]⟩:=bg.nil
 have he:∀i,ah.Sm (2^21) (a0.getD i ah.zero):=fun i=>bg.yg hg.1 ez
 have hp:∀x,aT.Sm (2^21) (Z208.md a0 x).1:=fun x=>Z208.fo hg.1
 simp only [Bool.cond_eq_ite]
 repeat' split
 all_goals (refine ⟨?_,?_,?_,?_⟩<;>first | exact he _ | exact hp _ | exact ez | exact pz)
def br (a0:List ah)(a1:av):md a0 a1=Z103.md a0 a1:=by
 unfold md Z103.md
 simp only [Z184.br,Z135.br,Z204.br,Z209.br,Z208.br]
end Z210
namespace Z211
def F (x0:bU)(x1:av):aD:=(call (Z197.R x0) fun v1=>(cond (!v1) (ret ((⟨[],false,(⟨(⟨#[]⟩:av),0,0,[]⟩),(⟨0,[]⟩),(⟨0,(⟨(⟨#[]⟩:av),0,0,[]⟩),(⟨(⟨#[]⟩:av),0,0,[]⟩),(⟨0,[]⟩),(⟨0,[]⟩)⟩)⟩):bw)) (call (Z135.R x1) fun v2=>(cond (!v2) (ret ((⟨[],false,(⟨(⟨#[]⟩:av),0,0,[]⟩),(⟨0,[]⟩),(⟨0,(⟨(⟨#[]⟩:av),0,0,[]⟩),(⟨(⟨#[]⟩:av),0,0,[]⟩),(⟨0,[]⟩),(⟨0,[]⟩)⟩)⟩):bw)) (call (Z131.R x0.aC) fun v3=>(call (Z204.R (x0.bI,x1)) fun v4=>(cond (v4>=0) (m2 v4 x0.bI.length (call (Z206.R (bk.at x0.bI (toNat v4))) fun v5=>(call (Z208.R (x0.bI,x1)) fun v6=>ret ((⟨v3,true,v5,v6.1,(⟨0,(⟨(⟨#[]⟩:av),0,0,[]⟩),(⟨(⟨#[]⟩:av),0,0,[]⟩),(⟨0,[]⟩),(⟨0,[]⟩)⟩)⟩):bw)))) (call (Z210.R (x0.bI,x1)) fun v7=>ret ((⟨v3,false,(⟨(⟨#[]⟩:av),0,0,[]⟩),(⟨0,[]⟩),v7.1⟩):bw)))))))))
def md (a0:aH)(a1:av):aA:=(cond (!(Z197.md a0)) (⟨[],false,(⟨((⟨#[]⟩:av)),0,0,[]⟩),(⟨0,[]⟩),(⟨0,(⟨((⟨#[]⟩:av)),0,0,[]⟩),(⟨((⟨#[]⟩:av)),0,0,[]⟩),(⟨0,[]⟩),(⟨0,[]⟩)⟩)⟩) (cond (!(Z135.md a1)) (⟨[],false,(⟨((⟨#[]⟩:av)),0,0,[]⟩),(⟨0,[]⟩),(⟨0,(⟨((⟨#[]⟩:av)),0,0,[]⟩),(⟨((⟨#[]⟩:av)),0,0,[]⟩),(⟨0,[]⟩),(⟨0,[]⟩)⟩)⟩) (cond ((Z204.md a0.bI a1)>=0) (⟨a0.aC,true,(a0.bI.getD (toNat (Z204.md a0.bI a1)) ah.zero),(Z208.md a0.bI a1).1,(⟨0,(⟨((⟨#[]⟩:av)),0,0,[]⟩),(⟨((⟨#[]⟩:av)),0,0,[]⟩),(⟨0,[]⟩),(⟨0,[]⟩)⟩)⟩) (⟨a0.aC,false,(⟨((⟨#[]⟩:av)),0,0,[]⟩),(⟨0,[]⟩),(Z210.md a0.bI a1).1⟩))))
def gd (a0:aH)(a1:av):Prop:=(aH.Sm (2^21) a0)/\(a1.size<=(2^21))
def R:=cI gd md
def aj {a0 a1}(h:gd a0 a1):R ((aH.r a0),a1)=some (aA.r (md a0 a1)):=cH h
def aM:=CN [.agg tc,pS] (.agg f68) RT.dec R
def bn (a0)(a1)(hg:gd a0 a1):F (aH.r a0) a1=ret (aA.r (md a0 a1)):=by
 obtain ⟨H0,H1⟩:=hg
 refine ct (Z197.aj H0) (bo (fun c1=>fz) (fun c1=>?_))
 refine ct (Z135.aj (le_trans H1 (by decide))) (bo (fun c2=>fz) (fun c2=>?_))
 refine ct (Z131.aj H0.1) ?_
 simp only [SS]
 refine ct (Z204.aj H0.2) ?_
 have fv4_:=Z204.fa a0.bI a1
 refine bo (fun c3=>?_) (fun c3=>ct (Z210.aj ⟨H0.2,H1⟩) fz)
 have dc3:=c3
 simp only [DC] at dc3
 refine aG dt (aG (have:=(H0.2).1;dt) ?_)
 refine ct (Z206.aj (bg.getD H0.2 (by omega))) (ct (Z208.aj H0.2) ?_)
 exact fz
def af:cj 345 aM:=W2 51 F mix az bn (yd Z197.af Z135.af Z131.af Z204.af Z206.af Z208.af Z210.af) Tryz.func345
def fo {a0:aH}{a1:av}(hg:gd a0 a1):aA.Sm (2^21) (md a0 a1):=by
 unfold gd at hg;unfold md
 obtain ⟨⟨hc,hl⟩,_⟩:=hg
 have ez:ah.Sm (2^21) ⟨⟨#[]⟩,0,0,[]⟩:=⟨zero_le _,bg.nil⟩
 have pz:aT.Sm (2^21) ⟨0,[]⟩:=bg.nil
 have gz:bS.Sm (2^21) ⟨0,⟨⟨#[]⟩,0,0,[]⟩,⟨⟨#[]⟩,0,0,[]⟩,⟨0,[]⟩,⟨0,[]⟩⟩:=⟨ez,ez,pz,pz⟩
 have he:∀i,ah.Sm (2^21) (a0.bI.getD i ah.zero):=fun i=>bg.yg hl ez
 have hp:∀x,aT.Sm (2^21) (Z208.md a0.bI x).1:=fun x=>Z208.fo hl
 have hga:bS.Sm (2^21) (Z210.md a0.bI a1).1:=Z210.fo ⟨hl,by assumption⟩
 simp only [Bool.cond_eq_ite]
 repeat' split
 all_goals (refine ⟨?_,?_,?_,?_⟩<;>first | exact hc | exact bg.nil | exact he _ | exact hp _ | exact hga | exact ez | exact pz | exact gz)
def br (a0:aH)(a1:av):md a0 a1=Z104.md a0 a1:=by
 unfold md Z104.md
 simp only [Z197.br,Z135.br,Z204.br,Z208.br,Z210.br]
end Z211
namespace Z212
def F (x0:bW)(x1:Int)(x2:av):aD:=(call (Z201.R (x0,x1)) fun v1=>(cond (v1<0) (ret ((⟨[],false,(⟨(⟨#[]⟩:av),0,0,[]⟩),(⟨0,[]⟩),(⟨0,(⟨(⟨#[]⟩:av),0,0,[]⟩),(⟨(⟨#[]⟩:av),0,0,[]⟩),(⟨0,[]⟩),(⟨0,[]⟩)⟩)⟩):bw)) (cond (x0.gJ==4) (ret ((⟨[],false,(⟨(⟨#[]⟩:av),0,0,[]⟩),(⟨0,[]⟩),(⟨0,(⟨(⟨#[]⟩:av),0,0,[]⟩),(⟨(⟨#[]⟩:av),0,0,[]⟩),(⟨0,[]⟩),(⟨0,[]⟩)⟩)⟩):bw)) (m2 v1 x0.bf.length (call (Z211.R ((bU.at x0.bf (toNat v1)),x2)) fun v2=>(cond (x0.gJ==1) (ret ((⟨v2.aC,v2.bK,(⟨v2.aJ.aS,v2.aJ.bt,(i64.wrap (v2.aJ.bO+1)),v2.aJ.bC⟩),v2.eI,v2.fq⟩):bw)) (cond (x0.gJ==2) (cA ((0:Int)<=(cond ((0:Int)<(i64.wrap (v2.aC.length - 1))) (i64.wrap (v2.aC.length - 1)) 0)) (cA ((cond ((0:Int)<(i64.wrap (v2.aC.length - 1))) (i64.wrap (v2.aC.length - 1)) 0)<=v2.aC.length) (ret ((⟨(List.take (toNat (cond ((0:Int)<(i64.wrap (v2.aC.length - 1))) (i64.wrap (v2.aC.length - 1)) 0)) v2.aC),v2.bK,v2.aJ,v2.eI,v2.fq⟩):bw)))) (cond (x0.gJ==3) (ret ((⟨v2.aC,false,(⟨(⟨#[]⟩:av),0,0,[]⟩),(⟨0,[]⟩),(⟨0,(⟨(⟨#[]⟩:av),0,0,[]⟩),(⟨(⟨#[]⟩:av),0,0,[]⟩),(⟨0,[]⟩),(⟨0,[]⟩)⟩)⟩):bw)) (ret v2)))))))))
def pats:List fF:=[.agg [.sl 188,aE],.rd (.int .i64),.rd (.str)]
def res:RP:=.agg [.fr 53,.rd (.bool),.rd (.str),.rd (.int .i64),.rd (.int .i64),.fr 9,.rd (.int .i64),.fr 3,.rd (.int .i64),.rd (.str),.rd (.int .i64),.rd (.int .i64),.fr 9,.rd (.str),.rd (.int .i64),.rd (.int .i64),.fr 9,.rd (.int .i64),.fr 3,.rd (.int .i64),.fr 3]
def md (a0:aB)(a1:Int)(a2:av):aA:=(cond ((Z201.md a0 a1)<0) (⟨[],false,(⟨((⟨#[]⟩:av)),0,0,[]⟩),(⟨0,[]⟩),(⟨0,(⟨((⟨#[]⟩:av)),0,0,[]⟩),(⟨((⟨#[]⟩:av)),0,0,[]⟩),(⟨0,[]⟩),(⟨0,[]⟩)⟩)⟩) (cond (a0.gJ==4) (⟨[],false,(⟨((⟨#[]⟩:av)),0,0,[]⟩),(⟨0,[]⟩),(⟨0,(⟨((⟨#[]⟩:av)),0,0,[]⟩),(⟨((⟨#[]⟩:av)),0,0,[]⟩),(⟨0,[]⟩),(⟨0,[]⟩)⟩)⟩) (cond (a0.gJ==1) (⟨(Z211.md (a0.bf.getD (toNat (Z201.md a0 a1)) aH.zero) a2).aC,(Z211.md (a0.bf.getD (toNat (Z201.md a0 a1)) aH.zero) a2).bK,(⟨(Z211.md (a0.bf.getD (toNat (Z201.md a0 a1)) aH.zero) a2).aJ.aS,(Z211.md (a0.bf.getD (toNat (Z201.md a0 a1)) aH.zero) a2).aJ.bt,(i64.wrap ((Z211.md (a0.bf.getD (toNat (Z201.md a0 a1)) aH.zero) a2).aJ.bO+1)),(Z211.md (a0.bf.getD (toNat (Z201.md a0 a1)) aH.zero) a2).aJ.bC⟩),(Z211.md (a0.bf.getD (toNat (Z201.md a0 a1)) aH.zero) a2).eI,(Z211.md (a0.bf.getD (toNat (Z201.md a0 a1)) aH.zero) a2).fq⟩) (cond (a0.gJ==2) (⟨(List.take (toNat (cond ((0:Int)<(i64.wrap (((Z211.md (a0.bf.getD (toNat (Z201.md a0 a1)) aH.zero) a2).aC.length) - 1))) (i64.wrap (((Z211.md (a0.bf.getD (toNat (Z201.md a0 a1)) aH.zero) a2).aC.length) - 1)) 0)) (Z211.md (a0.bf.getD (toNat (Z201.md a0 a1)) aH.zero) a2).aC),(Z211.md (a0.bf.getD (toNat (Z201.md a0 a1)) aH.zero) a2).bK,(Z211.md (a0.bf.getD (toNat (Z201.md a0 a1)) aH.zero) a2).aJ,(Z211.md (a0.bf.getD (toNat (Z201.md a0 a1)) aH.zero) a2).eI,(Z211.md (a0.bf.getD (toNat (Z201.md a0 a1)) aH.zero) a2).fq⟩) (cond (a0.gJ==3) (⟨(Z211.md (a0.bf.getD (toNat (Z201.md a0 a1)) aH.zero) a2).aC,false,(⟨((⟨#[]⟩:av)),0,0,[]⟩),(⟨0,[]⟩),(⟨0,(⟨((⟨#[]⟩:av)),0,0,[]⟩),(⟨((⟨#[]⟩:av)),0,0,[]⟩),(⟨0,[]⟩),(⟨0,[]⟩)⟩)⟩) (Z211.md (a0.bf.getD (toNat (Z201.md a0 a1)) aH.zero) a2))))))
def gd (a0:aB)(a1:Int)(a2:av):Prop:=(aB.Sm (2^21) a0)/\(a2.size<=(2^21))
def acc (ls:List L):bW×Int×av:=((bW.dec ls),(cF 2 ls),(rL 3 ls))
def R:(bW×Int×av)->Option bw:=lP gd md
def aj {a0 a1 a2}(h:gd a0 a1 a2):R ((aB.r a0),a1,a2)=some (aA.r (md a0 a1 a2)):=mq h
def aM:gj:=CN pats res acc R
def bn (a0:aB)(a1:Int)(a2:av)(hg:gd a0 a1 a2):F (aB.r a0) a1 a2=ret ((aA.r (md a0 a1 a2)):bw):=by
 obtain ⟨H0,H2⟩:=hg
 unfold F md
 simp only [SS]
 refine ct (Z201.aj H0) ?_
 have fv1_:=Z201.fa a0 a1
 refine bo (fun c1=>fz) (fun c1=>?_)
 have dc1:=c1
 simp only [DC] at dc1
 refine bo (fun c2=>fz) (fun c2=>?_)
 refine aG dt (aG (have:=(H0).1;have:=(H0).1;dt) ?_)
 refine ct (Z211.aj ⟨(bg.getD H0 (by have:=(H0).1;first | assumption | omega | (simp (disch:=omega) only [wi];omega) | (simp;omega))),H2⟩) ?_
 simp only [SS]
 refine bo (fun c3=>fz) (fun c3=>?_)
 refine bo (fun c4=>?_) (fun c4=>?_)
 ·refine aG (have:=((Z211.fo (a0:=a0.bf.getD (toNat (Z201.md a0 a1)) aH.zero) ⟨(bg.getD H0 (by have:=(H0).1;first | assumption | omega | (simp (disch:=omega) only [wi];omega) | (simp;omega))),H2⟩).1).1;have:=(H0).1;dt) (aG (have:=((Z211.fo (a0:=a0.bf.getD (toNat (Z201.md a0 a1)) aH.zero) ⟨(bg.getD H0 (by have:=(H0).1;first | assumption | omega | (simp (disch:=omega) only [wi];omega) | (simp;omega))),H2⟩).1).1;have:=(H0).1;dt) ?_)
  exact fz
 ·exact bo (fun c5=>fz) (fun c5=>fz)
def af:cj 280 aM:=VT (live:=fun _=>[]) (nt:=54) (run:=fun _ x=>F x.1 x.2.1 x.2.2) mix az (fc Z201.af Z211.af) .nil Tryz.func280 (by kernel_rfl) (fun _ _=>by kernel_rfl) (fun _ a _ _ hg=>⟨0,bn a.1 a.2.1 a.2.2 hg⟩)
def br (a0:aB)(a1:Int)(a2:av):md a0 a1 a2=Z105.md a0 a1 a2:=by
 unfold md Z105.md
 simp only [Z201.br,Z211.br]
 generalize Z104.md (a0.bf.getD (toNat (Z82.md a0 a1)) aH.zero) a2=A
 have mx:∀n:Int,toNat (cond ((0:Int)<n) n 0)=toNat n:=by
  intro n
  by_cases h:(0:Int)<n
  ·rw [decide_eq_true h];rfl
  ·rw [decide_eq_false h];simp only [aR];omega
 have e:∀k:Nat,(⟨List.take k A.aC,A.bK,A.aJ,A.eI,A.fq⟩:aA)=bif decide ((A.aC.length:Int)>0) then (⟨List.take k A.aC,A.bK,A.aJ,A.eI,A.fq⟩:aA) else A:=by
  intro k
  obtain ⟨ch,f,e,p,g⟩:=A
  cases ch with
  | nil=>simp
  | cons x xs=>simp only [List.length_cons];rw [decide_eq_true (by omega)];rfl
 simp only [mx,<-e]
end Z212
namespace Z213
inductive Pt where
 | p0 (a:Int) (b:av) (c:aq) (d e:Int) (f:aq)
def cM:Pt->List V
 | .p0 a b c d e f=>[.int .i64 a,.str b,.own 0,.sl none 280 c,.int .i64 d,.int .i64 e]
def dQ:Pt->List aK
 | .p0 a b c d e f=>[.row 68 f]
def step (J:Pt->aD):Pt->aD
 | .p0 a b c d e f=>(cond (e<d) (m2 e (c.length:Int) (call (Z212.R ((bW.at c (toNat e)),a,b)) fun v1=>(cA (eK (((f.length:Int)+1)*304)) (J (.p0 a b c d (i64.wrap (e+1)) (f++[(bw.enc v1)])))))) (ret (f:aq)))
def start (J:Pt->aD)(x0:aq)(x1:Int)(x2:av):aD:=(cA ((0:Int)<=(cond ((x0.length:Int)<4) (x0.length:Int) 4)) (cA ((cond ((x0.length:Int)<4) (x0.length:Int) 4)<=x0.length) (J (.p0 x1 x2 (List.take (toNat ((cond ((x0.length:Int)<4) (x0.length:Int) 4) - 0)) (List.drop 0 x0)) ((List.take (toNat ((cond ((x0.length:Int)<4) (x0.length:Int) 4) - 0)) (List.drop 0 x0)).length) 0 []))))
def live:Nat->Live:=gL [(3,[(1,none),(2,none),(7,some 68),(15,none),(16,none),(17,none)])]
def md (a0:List aB)(a1:Int)(a2:av):List aA:=((List.take (toNat ((cond ((a0.length:Int)<4) (a0.length:Int) 4) - 0)) (List.drop 0 a0)).map (fun y1=>(Z212.md y1 a1 a2)))
def gd (a0:List aB)(a1:Int)(a2:av):Prop:=(bg (2^21) (fun y:aB=>aB.Sm (2^21) y) a0)/\(a2.size<=(2^21))
def R:=lP gd md
def aj {a0 a1 a2}(h:gd a0 a1 a2):R ((a0.map aB.row),a1,a2)=some ((md a0 a1 a2).map aA.row):=mq h
def aM:=CN [pL 280,pI,pS] (oL 68) RT.dec R
def bn (a0)(a1)(a2)(hg:gd a0 a1 a2):∃n,start (iter step n) (a0.map aB.row) a1 a2=ret ((md a0 a1 a2).map aA.row):=by
 obtain ⟨H0,H2⟩:=hg
 refine dP dt (dP dt ?_)
 have Bh2:(List.take (toNat ((cond ((a0.length:Int)<4) (a0.length:Int) 4) - 0)) (List.drop 0 a0)).length<=maxLen:=(by
   have:=((bg.take (k:=(toNat ((cond ((a0.length:Int)<4) (a0.length:Int) 4) - 0))) (bg.drop (k:=0) H0))).1
   simp only [maxLen] at *
   omega)
 refine ex_eq (out:=(fun b:List aA=>ret ((b.map aA.row):aq))) (ox (g:=fun (y1:aB)=>(Z212.md y1 a1 a2)) (z:=aB.zero) (t:=fun (s3:List aA)=>s3)) (dy (p:=Pt.p0 a1 a2 ((List.take (toNat ((cond ((a0.length:Int)<4) (a0.length:Int) 4) - 0)) (List.drop 0 a0)).map aB.row) ((List.take (toNat ((cond ((a0.length:Int)<4) (a0.length:Int) 4) - 0)) (List.drop 0 a0)).length:Int) 0 ([].map aA.row)) fz ?_)
 refine bH (pt:=fun (i1:Nat) (s3:List aA)=>Pt.p0 a1 a2 ((List.take (toNat ((cond ((a0.length:Int)<4) (a0.length:Int) 4) - 0)) (List.drop 0 a0)).map aB.row) ((List.take (toNat ((cond ((a0.length:Int)<4) (a0.length:Int) 4) - 0)) (List.drop 0 a0)).length:Int) (i1:Int) (s3.map aA.row)) (out:=(fun b:List aA=>ret ((b.map aA.row):aq))) (fun (i1:Nat) (s3:List aA)=>s3.length<=([]:List Int).length+1*i1) (fun J i1 s3 h2 hih2=>?_) (fun s3 hih2=>?_) (by simp)
 ·simp only [step,SS]
  have gr_:=hih2
  simp only [LN] at gr_
  have:=((bg.take (k:=(toNat ((cond ((a0.length:Int)<4) (a0.length:Int) 4) - 0))) (bg.drop (k:=0) H0))).1
  refine aP.yes (by apply decide_eq_true;omega) (aP.yes bB ?_)
  refine aP.yes (bQ h2) (cr (Z212.aj ⟨(bg.getD (bg.take (k:=(toNat ((cond ((a0.length:Int)<4) (a0.length:Int) 4) - 0))) (bg.drop (k:=0) H0)) h2),H2⟩) ?_)
  refine aP.yes lm ?_
  refine aP.inl (by
    (simp;omega)) ?_
  rw [aF h2 Bh2]
  exact fz
 ·simp only [step,SS]
  refine cL dn (⟨0,?_⟩)
  exact fz
def af:cj 184 aM:=L3 30 (fun _=>3) cM dQ live step start mix az bn (cO Z212.af) Tryz.func184
def br (a0:List aB)(a1:Int)(a2:av):md a0 a1 a2=Z106.md a0 a1 a2:=by
 rw [Z106.zv]
 unfold md
 simp only [Z212.br,Int.sub_zero,List.drop_zero]
 congr 1
 by_cases h:(a0.length:Int)<4
 ·rw [decide_eq_true h,aO,List.take_of_length_le (by omega),List.take_of_length_le (by omega)]
 ·rw [decide_eq_false h];rfl
def fo {a0:List aB}{a1:Int}{a2:av}(hg:gd a0 a1 a2):bg (2^21) (fun y:aA=>aA.Sm (2^21) y) (md a0 a1 a2):=by
 rw [br]
 exact Z106.fo hg
end Z213
namespace Z214
def F (x0:aq):aD:=(call (Z178.R x0) fun v1=>(cond (!v1) (ret (((⟨0,0,0,0,0,0,0,0,(⟨[],0⟩),(⟨[],0⟩),0,(⟨[],0⟩),false⟩),false):bN×Bool)) (call (Z179.R x0) fun v2=>(call (Z128.R v2) fun v3=>ret ((v3,true):bN×Bool)))))
def md (a0:List aa):au×Bool:=(cond (!(Z178.md a0)) ((⟨0,0,0,0,0,0,0,0,(⟨[],0⟩),(⟨[],0⟩),0,(⟨[],0⟩),false⟩),false) ((Z179.md a0),true))
def gd (a0:List aa):Prop:=(bg (2^21) (fun y:aa=>aa.Sm (2^21) y) a0)
def R:=RR gd md
def aj {a0}(h:gd a0):R (a0.map aa.row)=some ((au.r (md a0).1),(md a0).2):=cQ h
def aM:=CN [pL 53] (.gW [(true,f50),(false,[fB])]) RT.dec R
def bn (a0)(H0:gd a0):F (a0.map aa.row)=ret ((au.r (md a0).1),(md a0).2):=by
 refine ct (Z178.aj H0) (bM (fun b:au×Bool=>ret (((au.r b.1),b.2):bN×Bool)) (fun c1=>fz) (fun c1=>?_))
 have tc1:=Z178.tr (by simpa using c1)
 refine ct (Z179.aj ⟨H0,om⟩) (ct (Z128.aj (Z179.fo ⟨H0,om⟩)) ?_)
 exact fz
def af:cj 160 aM:=W1 11 F mix az bn (jB Z178.af Z179.af Z128.af) Tryz.func160
def br (a0:List aa):md a0=Z61.md a0:=by
 unfold md Z61.md
 (simp only [Z178.br];rfl)
end Z214
namespace Z215
def F (x0:bN)(x1:Int):aD:=(call (Z134.R (x1,x0.cg,x0.cm)) fun v1=>ret v1)
def md (a0:au)(a1:Int):Bool:=((Z134.md a1 a0.cg a0.cm))
def gd (a0:au)(a1:Int):Prop:=True
def R:=cI gd md
def aj {a0 a1}(h:gd a0 a1):R ((au.r a0),a1)=some (md a0 a1):=cH h
def aM:=CN [.agg lu,pI] oB RT.dec R
def bn (a0)(a1)(hg:gd a0 a1):F (au.r a0) a1=ret (md a0 a1):=ct (Z134.aj trivial) fz
def af:cj 239 aM:=W2 11 F mix az bn (cO Z134.af) Tryz.func239
def br (a0:au)(a1:Int):md a0 a1=Z107.md a0 a1:=by
 unfold md Z107.md
 simp only [Z134.br]
end Z215
namespace Z216
inductive Pt where
 | p0 (a b c:Int) (d:aq)
def cM:Pt->List V
 | .p0 a b c d=>[.int .i64 a,.int .i64 b,.int .i64 c,.sl none 3 d]
def step (J:Pt->aD):Pt->aD
 | .p0 a b c d=>(cond (c>1) (cond ((nA .i64 b 1)>=c) (J (.p0 a (i64.wrap (Int.tdiv b 2)) (i64.wrap (Int.tdiv (i64.wrap (c+1)) 2)) d)) (cond ((d.length:Int)==0) (ret ((0,false):Int×Bool)) (cond ((Int.tmod b 2)==0) (cA ((0:Int)<(d.length:Int)) (call (Z191.R (a,(jz d 0))) fun v1=>(cA ((1:Int)<=(d.length:Int)) (cA ((d.length:Int)<=(d.length:Int)) (J (.p0 v1 (i64.wrap (Int.tdiv b 2)) (i64.wrap (Int.tdiv (i64.wrap (c+1)) 2)) (List.take (toNat ((d.length:Int) - 1)) (List.drop 1 d)))))))) (cA ((0:Int)<(d.length:Int)) (call (Z191.R ((jz d 0),a)) fun v2=>(cA ((1:Int)<=(d.length:Int)) (cA ((d.length:Int)<=(d.length:Int)) (J (.p0 v2 (i64.wrap (Int.tdiv b 2)) (i64.wrap (Int.tdiv (i64.wrap (c+1)) 2)) (List.take (toNat ((d.length:Int) - 1)) (List.drop 1 d))))))))))) (cond ((d.length:Int)>0) (ret ((0,false):Int×Bool)) (ret ((a,true):Int×Bool))))
def start (J:Pt->aD)(x0 x1 x2:Int)(x3:aq):aD:=(cond (x2<1) (ret ((0,false):Int×Bool)) (cond (x2>12) (ret ((0,false):Int×Bool)) (call (Z134.R (x1,0,(i64.wrap (x2 - 1)))) fun v1=>(cond (!v1) (ret ((0,false):Int×Bool)) (J (.p0 x0 x1 x2 x3))))))
def live:Nat->Live:=gL [(3,jC [0,1,2,3])]
def md (a0 a1 a2:Int)(a3:List Int):Int×Bool:=Z108.md a0 a1 a2 a3
def gd (a0 a1 a2:Int)(a3:List Int):Prop:=bg (2^38) (fun y:Int=>True) a3
def R:=tQ gd md
def aj {a0 a1 a2 a3}(h:gd a0 a1 a2 a3):R (a0,a1,a2,(a3.map aV))=some ((md a0 a1 a2 a3).1,(md a0 a1 a2 a3).2):=so h
def aM:=CN [pI,pI,pI,pL 3] (.gW [(false,[fI]),(false,[fB])]) RT.dec R
def bn (a0)(a1)(a2)(a3)(hg:gd a0 a1 a2 a3):∃n,start (iter step n) a0 a1 a2 (a3.map aV)=ret ((md a0 a1 a2 a3).1,(md a0 a1 a2 a3).2):=by
 have tm:∀b:Int,0<=b->b<=11->Int.tmod b 2=b % 2:=fun b h1 h2=>Int.tmod_eq_emod_of_nonneg h1
 have td:∀b:Int,0<=b->b<=13->i64.wrap (Int.tdiv b 2)=b / 2:=fun b h1 h2=>by
  rw [Int.tdiv_eq_ediv_of_nonneg h1,Go.IntWalk.i64_in _ (by omega)]
 have t1:∀b:Int,0<=b->b<=13->i64.wrap (b+1)=b+1:=fun b h1 h2=>Go.IntWalk.i64_in _ (by omega)
 have xr:∀b:Int,0<=b->b<=11->nA .i64 b 1=if b % 2=0 then b+1 else b - 1:=by
  intro b h1 h2
  have :b=0∨b=1∨b=2∨b=3∨b=4∨b=5∨b=6∨b=7∨b=8∨b=9∨b=10∨b=11:=by omega
  rcases this with h | h | h | h | h | h | h | h | h | h | h | h<;>subst h<;>decide
 have key:∀(k:Nat) (leaf i n:Int) (p:List Int),p.length<=2^38->0<=i->i<n->n<=12->n<=2^k->∃m,iter step m (Pt.p0 leaf i n (p.map aV))=ret ((Z108.tf (k+1) leaf i n p).1,(Z108.tf (k+1) leaf i n p).2):=by
  have fin:∀(leaf:Int) (p:List Int) (J:Pt->aD),step J (Pt.p0 leaf 0 1 (p.map aV))=ret ((if p.isEmpty then (leaf,true) else (0,false)).1,(if p.isEmpty then (leaf,true) else (0,false)).2):=by
   intro leaf p J
   simp only [step,List.length_map]
   refine eH (by decide) ?_
   cases p with
   | nil=>rfl
   | cons x xs=>exact aG (decide_eq_true (by simp only [List.length_cons];omega)) rfl
  intro k
  induction k with
  | zero=>
   intro leaf i n p hp h1 h2 h3 h4
   have hn:n=1:=by omega
   subst hn
   have hi:i=0:=by omega
   subst hi
   exact ⟨1,(fin leaf p _).trans rfl⟩
  | succ k ih=>
   intro leaf i n p hp h1 h2 h3 h4
   unfold Z108.tf
   by_cases hn:n>1
   ·have e1:=tm i h1 (by omega)
    have e2:=td i h1 (by omega)
    have e3:=t1 n (by omega) (by omega)
    have e4:=td (n+1) (by omega) (by omega)
    have e6:=xr i h1 (by omega)
    rw [if_pos hn]
    by_cases hc:i % 2=1∨i+1<n
    ·have hx:decide (nA .i64 i 1>=n)=false:=by
      rw [e6]
      split
      ·exact decide_eq_false (by omega)
      ·exact decide_eq_false (by omega)
     rw [if_pos hc]
     cases p with
     | nil=>
      refine ⟨1,?_⟩
      show step (iter step 0) (Pt.p0 _ _ _ _)=_
      simp only [step,hx]
      exact aG (decide_eq_true (by omega)) (eH rfl (aG rfl rfl))
     | cons x xs=>
      simp only [List.length_cons] at hp
      obtain ⟨m,hm⟩:=ih (if i % 2=1 then Z28.md x leaf else Z28.md leaf x) (i / 2) ((n+1) / 2) xs (by omega) (by omega) (by omega) (by omega) (by omega)
      refine ⟨m+1,?_⟩
      show step (iter step m) (Pt.p0 _ _ _ _)=_
      have ht:List.take (toNat ((xs.length:Int)+1 - 1)) (List.drop 1 ((x::xs).map aV))=xs.map aV:=by
       simp only [List.map_cons,List.drop_succ_cons,List.drop_zero]
       exact List.take_of_length_le (by simp)
      have hl:(((x::xs).map aV).length:Int)=(xs.length:Int)+1:=by simp
      simp only [step,hx,e1,e2,e3,e4,ht,hl]
      refine aG (decide_eq_true (by omega)) (eH rfl (eH (beq_eq_false_iff_ne.2 (by omega)) ?_))
      have hat:jz ((x::xs).map aV) 0=x:=rfl
      rw [hat]
      by_cases hp:i % 2=1
      ·rw [if_pos hp] at hm
       rw [hp]
       refine eH rfl (aG (decide_eq_true (by omega)) (cG _ (by have:=Z191.aj (a0:=x) (a1:=leaf) trivial;rw [Z191.br] at this;exact this) (aG (decide_eq_true (by omega)) (aG (decide_eq_true (by omega)) ?_))))
       rw [if_pos rfl]
       exact hm
      ·rw [if_neg hp] at hm
       have h0:i % 2=0:=by omega
       rw [h0]
       refine aG rfl (aG (decide_eq_true (by omega)) (cG _ (by have:=Z191.aj (a0:=leaf) (a1:=x) trivial;rw [Z191.br] at this;exact this) (aG (decide_eq_true (by omega)) (aG (decide_eq_true (by omega)) ?_))))
       rw [if_neg (by omega)]
       exact hm
    ·have hx:decide (nA .i64 i 1>=n)=true:=by
      rw [e6,if_pos (by omega)]
      exact decide_eq_true (by omega)
     rw [if_neg hc]
     obtain ⟨m,hm⟩:=ih leaf (i / 2) ((n+1) / 2) p hp (by omega) (by omega) (by omega) (by omega)
     refine ⟨m+1,?_⟩
     show step (iter step m) (Pt.p0 _ _ _ _)=_
     simp only [step,hx,e2,e3,e4]
     exact aG (decide_eq_true (by omega)) (aG rfl hm)
   ·have hn1:n=1:=by omega
    subst hn1
    have hi:i=0:=by omega
    subst hi
    refine ⟨1,(fin leaf p _).trans ?_⟩
    rw [if_neg (show ¬(1:Int)>1 by omega)]
 unfold start md Z108.md
 obtain ⟨H3,_⟩:=hg
 by_cases c1:a2<1
 ·refine ⟨0,aG (decide_eq_true c1) ?_⟩
  rw [show Z11.md a2 1 12=false from by simp [Z11.md];omega];rfl
 refine cL (decide_eq_false c1) ?_
 by_cases c2:a2>12
 ·refine ⟨0,aG (decide_eq_true c2) ?_⟩
  rw [show Z11.md a2 1 12=false from by simp [Z11.md];omega];rfl
 refine cL (decide_eq_false c2) ?_
 rw [show Z11.md a2 1 12=true from by simp [Z11.md];omega]
 simp only [Bool.not_true,aR]
 refine fu _ (by have:=Z134.aj (a0:=a1) (a1:=0) (a2:=i64.wrap (a2 - 1)) trivial;rw [Z134.br] at this;exact this) ?_
 cases hd:Z11.md a1 0 (i64.wrap (a2 - 1))
 ·exact ⟨0,rfl⟩
 rw [Go.IntWalk.i64_in _ (by omega)] at hd
 have i2:0<=a1/\a1<=a2 - 1:=by simpa [Z11.md] using hd
 exact key 4 a0 a1 a2 a3 H3 (by omega) (by omega) (by omega) (by omega)
def af:cj 375 aM:=L4 56 (fun _=>3) cM (fun _=>[]) live step start mix az bn (fc Z134.af Z191.af) Tryz.func375
def br (a0 a1 a2:Int)(a3:List Int):md a0 a1 a2 a3=Z108.md a0 a1 a2 a3:=by
 unfold md Z108.md
 simp only [Z134.br,Z191.br]
end Z216
namespace Z217
def F (x0 x1:Int)(x2:bk)(x3:eC):aD:=(call (Z188.R x2) fun v1=>(call (Z216.R (v1,x3.eG,x1,x3.bC)) fun v2=>(cond v2.2 (call (Z180.R x2) fun v3=>(cond v3 (call (Z194.R (x1,v2.1)) fun v4=>ret ((v4==x0))) (ret false))) (ret false))))
def md (a0 a1:Int)(a2:ah)(a3:aT):Bool:=(cond ((Z216.md (Z188.md a2) a3.eG a1 a3.bC).2) (cond (Z180.md a2) (((Z194.md a1 ((Z216.md (Z188.md a2) a3.eG a1 a3.bC).1))==a0)) false) false)
def gd (a0 a1:Int)(a2:ah)(a3:aT):Prop:=(ah.Sm (2^21) a2)/\(aT.Sm (2^21) a3)
def R:=tQ gd md
def aj {a0 a1 a2 a3}(h:gd a0 a1 a2 a3):R (a0,a1,(ah.r a2),(aT.r a3))=some (md a0 a1 a2 a3):=so h
def aM:=CN [pI,pI,.agg vZ,.agg BS] oB RT.dec R
def bn (a0)(a1)(a2)(a3)(hg:gd a0 a1 a2 a3):F a0 a1 (ah.r a2) (aT.r a3)=ret (md a0 a1 a2 a3):=by
 obtain ⟨H2,H3⟩:=hg
 refine ct (Z188.aj H2) (ct (Z216.aj (H3.mono (by decide) (fun x hx=>trivial))) ?_)
 refine bs (fun c1=>?_) (fun _=>rfl)
 refine ct (Z180.aj H2) (bs (fun c2=>?_) (fun _=>rfl))
 exact ct (Z194.aj trivial) fz
def af:cj 309 aM:=W4 34 F mix az bn (nP Z188.af Z216.af Z180.af Z194.af) Tryz.func309
def br (a0 a1:Int)(a2:ah)(a3:aT):md a0 a1 a2 a3=Z109.md a0 a1 a2 a3:=by
 unfold md Z109.md
 simp only [Z216.br,Z188.br,Z180.br,Z194.br]
 cases Z14.md a2<;>cases (Z108.md (Z26.md a2) a3.eG a1 a3.bC).2<;>rfl
end Z217
namespace Z218
inductive Pt where
 | p0 (a b:aq) (c d:Int)
def cM:Pt->List V
 | .p0 a b c d=>[.sl none 9 a,.sl none 9 b,.int .i64 c,.int .i64 d]
def step (J:Pt->aD):Pt->aD
 | .p0 a b c d=>(cond (d<c) (m2 d (a.length:Int) (m2 d (b.length:Int) (cond (!((tS a (toNat d))==(tS b (toNat d)))) eM (J (.p0 a b c (i64.wrap (d+1))))))) nS)
def start (J:Pt->aD)(x0 x1:aq):aD:=(cond (x0.length != (x1.length:Int)) (ret false) (J (.p0 x0 x1 x0.length 0)))
def live:Nat->Live:=gL [(4,jC [0,1,12,13])]
def md (a0 a1:List av):Bool:=(bif (a0.length != (a1.length:Int)) then false else (eB (S:=Unit) (β:=Bool) (fun i2 s4=>(cond (!((a0.getD i2 ⟨#[]⟩)==(a1.getD i2 ⟨#[]⟩))) (.inr false) (.inl ()))) (fun s4=>true) a0.length 0 ()))
def gd (a0 a1:List av):Prop:=(bg (2^21) (fun y:av=>y.size<=(2^21)) a0)/\(bg (2^21) (fun y:av=>y.size<=(2^21)) a1)
def R:=cI gd md
def aj {a0 a1}(h:gd a0 a1):R ((a0.map dL),(a1.map dL))=some (md a0 a1):=cH h
def aM:=CN [pL 9,pL 9] oB RT.dec R
def bn (a0)(a1)(hg:gd a0 a1):∃n,start (iter step n) (a0.map dL) (a1.map dL)=ret (md a0 a1):=by
 obtain ⟨H0,H1⟩:=hg
 unfold start md
 simp only [SS]
 refine gE ret (fun _=>⟨0,rfl⟩) (fun c1=>?_)
 have dc1:=c1
 simp only [DC] at dc1
 have Bh3:=bl H0
 refine dy fz (bH (pt:=fun (i2:Nat) (s4:Unit)=>Pt.p0 (a0.map dL) (a1.map dL) (a0.length:Int) (i2:Int)) (fun _ _=>True) (fun J i2 s4 h3 hih3=>?_) (fun s4 hih3=>?_) trivial)
 ·simp only [step,SS]
  refine aP.yes dt (aP.yes bB ?_)
  refine aP.yes (bQ h3) (aP.yes bB ?_)
  refine aP.yes dt (aP.bif (fun _=>aP.inr rfl) (fun c5=>?_))
  refine aP.inl trivial ?_
  rw [aF h3 Bh3]
 ·simp only [step,SS]
  refine cL dn (⟨0,?_⟩)
  exact fz
def af:cj 172 aM:=L2 26 (fun _=>4) cM (fun _=>[]) live step start mix az bn .nil Tryz.func172
def md_eq (a0 a1:List av):md a0 a1=iV a0 a1:=by
 refine iR (⟨#[]⟩) (fun i s h h2=>?_) (fun s=>rfl)
 simp only [bne,jQ,bool_beq,gp]
 cases iV _ _<;>rfl
end Z218
namespace Z219
def F (x0 x1:bk):aD:=(cond (x0.aS==x1.aS) (cond (x0.bt==x1.bt) (cond (x0.bO==x1.bO) (call (Z218.R (x0.bC,x1.bC)) fun v1=>ret v1) (ret false)) (ret false)) (ret false))
def md (a0 a1:ah):Bool:=(cond (a0.aS==a1.aS) (cond (a0.bt==a1.bt) (cond (a0.bO==a1.bO) ((Z218.md a0.bC a1.bC)) false) false) false)
def gd (a0 a1:ah):Prop:=(ah.Sm (2^21) a0)/\(ah.Sm (2^21) a1)
def R:=cI gd md
def aj {a0 a1}(h:gd a0 a1):R ((ah.r a0),(ah.r a1))=some (md a0 a1):=cH h
def aM:=CN [.agg vZ,.agg vZ] oB RT.dec R
def bn (a0)(a1)(hg:gd a0 a1):F (ah.r a0) (ah.r a1)=ret (md a0 a1):=by
 obtain ⟨H0,H1⟩:=hg
 refine bs (fun c1=>?_) (fun _=>rfl)
 refine bs (fun c2=>?_) (fun _=>rfl)
 refine bs (fun c3=>?_) (fun _=>rfl)
 exact ct (Z218.aj ⟨H0.2,H1.2⟩) fz
def af:cj 53 aM:=W2 31 F mix az bn (cO Z218.af) Tryz.func53
def md_eq (a0 a1:ah):md a0 a1=iV a0 a1:=by
 unfold md
 cases a0;cases a1
 rw [Bool.eq_iff_iff]
 simp [dO,gp,ah.mk.injEq,Z218.md_eq]
end Z219
namespace Z220
def F (x0 x1:eC):aD:=(cond (x0.eG==x1.eG) (call (Z170.R (x0.bC,x1.bC)) fun v1=>ret v1) (ret false))
def md (a0 a1:aT):Bool:=(cond (a0.eG==a1.eG) ((Z170.md a0.bC a1.bC)) false)
def gd (a0 a1:aT):Prop:=(aT.Sm (2^21) a0)/\(aT.Sm (2^21) a1)
def R:=cI gd md
def aj {a0 a1}(h:gd a0 a1):R ((aT.r a0),(aT.r a1))=some (md a0 a1):=cH h
def aM:=CN [.agg BS,.agg BS] oB RT.dec R
def bn (a0)(a1)(hg:gd a0 a1):F (aT.r a0) (aT.r a1)=ret (md a0 a1):=by
 obtain ⟨H0,H1⟩:=hg
 refine bs (fun c1=>?_) (fun _=>rfl)
 exact ct (Z170.aj ⟨(H0.mono (by decide) (fun x hx=>trivial)),(H1.mono (by decide) (fun x hx=>trivial))⟩) fz
def af:cj 158 aM:=W2 17 F mix az bn (cO Z170.af) Tryz.func158
def md_eq (a0 a1:aT):md a0 a1=iV a0 a1:=by
 unfold md
 cases a0;cases a1
 rw [Bool.eq_iff_iff]
 simp [dO,gp,aT.mk.injEq,Z170.md_eq]
end Z220
namespace Z221
def F (x0 x1:fK):aD:=(cond (x0.eG==x1.eG) (call (Z219.R (x0.bp,x1.bp)) fun v1=>(cond v1 (call (Z219.R (x0.bY,x1.bY)) fun v2=>(cond v2 (call (Z220.R (x0.eL,x1.eL)) fun v3=>(cond v3 (call (Z220.R (x0.cE,x1.cE)) fun v4=>ret v4) (ret false))) (ret false))) (ret false))) (ret false))
def md (a0 a1:bS):Bool:=(cond (a0.eG==a1.eG) (cond (Z219.md a0.bp a1.bp) (cond (Z219.md a0.bY a1.bY) (cond (Z220.md a0.eL a1.eL) ((Z220.md a0.cE a1.cE)) false) false) false) false)
def gd (a0 a1:bS):Prop:=(bS.Sm (2^21) a0)/\(bS.Sm (2^21) a1)
def R:=cI gd md
def aj {a0 a1}(h:gd a0 a1):R ((bS.r a0),(bS.r a1))=some (md a0 a1):=cH h
def aM:=CN [.agg Dw,.agg Dw] oB RT.dec R
def bn (a0)(a1)(hg:gd a0 a1):F (bS.r a0) (bS.r a1)=ret (md a0 a1):=by
 obtain ⟨H0,H1⟩:=hg
 refine bs (fun c1=>?_) (fun _=>rfl)
 refine ct (Z219.aj ⟨H0.1,H1.1⟩) (bs (fun c2=>?_) (fun _=>rfl))
 refine ct (Z219.aj ⟨H0.2.1,H1.2.1⟩) (bs (fun c3=>?_) (fun _=>rfl))
 refine ct (Z220.aj ⟨H0.2.2.1,H1.2.2.1⟩) (bs (fun c4=>?_) (fun _=>rfl))
 exact ct (Z220.aj ⟨H0.2.2.2,H1.2.2.2⟩) fz
def af:cj 159 aM:=W2 38 F mix az bn (fc Z219.af Z220.af) Tryz.func159
def md_eq (a0 a1:bS):md a0 a1=iV a0 a1:=by
 unfold md
 cases a0;cases a1
 rw [Bool.eq_iff_iff]
 simp [dO,gp,bS.mk.injEq,Z219.md_eq,Z220.md_eq]
end Z221
namespace Z222
def F (x0:bk):aD:=(call (Z219.R (x0,(⟨(⟨#[]⟩:av),0,0,[]⟩))) fun v1=>ret v1)
def md (a0:ah):Bool:=((Z219.md a0 (⟨((⟨#[]⟩:av)),0,0,[]⟩)))
def gd (a0:ah):Prop:=(ah.Sm (2^21) a0)
def R:=RR gd md
def aj {a0}(h:gd a0):R (ah.r a0)=some (md a0):=cQ h
def aM:=CN [.agg vZ] oB RT.dec R
def bn (a0)(H0:gd a0):F (ah.r a0)=ret (md a0):=ct (Z219.aj (a1:=(⟨((⟨#[]⟩:av):av),0,0,[]⟩:ah)) ⟨H0,⟨(by decide),bg.nil⟩⟩) fz
def af:cj 311 aM:=W1 6 F mix az bn (cO Z219.af) Tryz.func311
end Z222
namespace Z223
def F (x0:eC):aD:=(call (Z220.R (x0,(⟨0,[]⟩))) fun v1=>ret v1)
def md (a0:aT):Bool:=((Z220.md a0 (⟨0,[]⟩)))
def gd (a0:aT):Prop:=(aT.Sm (2^21) a0)
def R:=RR gd md
def aj {a0}(h:gd a0):R (aT.r a0)=some (md a0):=cQ h
def aM:=CN [.agg BS] oB RT.dec R
def bn (a0)(H0:gd a0):F (aT.r a0)=ret (md a0):=ct (Z220.aj (a1:=(⟨0,[]⟩:aT)) ⟨H0,bg.nil⟩) fz
def af:cj 312 aM:=W1 6 F mix az bn (cO Z220.af) Tryz.func312
end Z223
namespace Z224
def F (x0 x1:Int)(x2:bk)(x3:eC)(x4:Int):aD:=(call (Z134.R (x4,0,(i64.wrap (x1 - 1)))) fun v1=>(cond (!v1) (call (Z222.R x2) fun v2=>(cond v2 (call (Z223.R x3) fun v3=>ret v3) (ret false))) (call (Z217.R (x0,x1,x2,x3)) fun v4=>(cond v4 (ret ((x3.eG==x4))) (ret false)))))
def md (a0 a1:Int)(a2:ah)(a3:aT)(a4:Int):Bool:=(cond (!(Z134.md a4 0 (i64.wrap (a1 - 1)))) (cond (Z222.md a2) ((Z223.md a3)) false) (cond (Z217.md a0 a1 a2 a3) ((a3.eG==a4)) false))
def gd (a0 a1:Int)(a2:ah)(a3:aT)(a4:Int):Prop:=(ah.Sm (2^21) a2)/\(aT.Sm (2^21) a3)
def R:=sL gd md
def aj {a0 a1 a2 a3 a4}(h:gd a0 a1 a2 a3 a4):R (a0,a1,(ah.r a2),(aT.r a3),a4)=some (md a0 a1 a2 a3 a4):=sR h
def aM:=CN [pI,pI,.agg vZ,.agg BS,pI] oB RT.dec R
def bn (a0)(a1)(a2)(a3)(a4)(hg:gd a0 a1 a2 a3 a4):F a0 a1 (ah.r a2) (aT.r a3) a4=ret (md a0 a1 a2 a3 a4):=by
 obtain ⟨H2,H3⟩:=hg
 refine ct (Z134.aj trivial) (bs (fun c1=>?_) (fun c1=>?_))
 ·refine ct (Z222.aj H2) (bs (fun c2=>?_) (fun _=>rfl))
  exact ct (Z223.aj H3) fz
 ·refine ct (Z217.aj ⟨H2,H3⟩) (bs (fun c3=>?_) (fun _=>rfl))
  exact fz
def af:cj 380 aM:=W5 33 F mix az bn (nP Z134.af Z222.af Z223.af Z217.af) Tryz.func380
end Z224
namespace Z225
def F (x0 x1:Int)(x2:av)(x3:fK):aD:=(call (Z135.R x2) fun v1=>(cond (!v1) (ret false) (call (Z134.R (x3.eG,0,x1)) fun v2=>(cond (!v2) (ret false) (cond (x1==0) (call (Z195.R []) fun v3=>(cond (x0 != v3) (ret false) (call (Z224.R (x0,x1,x3.bp,x3.eL,(i64.wrap (x3.eG - 1)))) fun v4=>(cond (!v4) (ret false) (call (Z224.R (x0,x1,x3.bY,x3.cE,x3.eG)) fun v5=>(cond (!v5) (ret false) (cond (x3.eG==0) (cond (x3.eG==x1) (ret true) (call (Z183.R (x3.bY.aS,x2)) fun v6=>ret ((decide (v6>0))))) (call (Z183.R (x3.bp.aS,x2)) fun v7=>(cond (v7<0) (cond (x3.eG==x1) (ret true) (call (Z183.R (x3.bY.aS,x2)) fun v8=>ret ((decide (v8>0))))) (ret false)))))))))) (call (Z224.R (x0,x1,x3.bp,x3.eL,(i64.wrap (x3.eG - 1)))) fun v9=>(cond (!v9) (ret false) (call (Z224.R (x0,x1,x3.bY,x3.cE,x3.eG)) fun v10=>(cond (!v10) (ret false) (cond (x3.eG==0) (cond (x3.eG==x1) (ret true) (call (Z183.R (x3.bY.aS,x2)) fun v11=>ret ((decide (v11>0))))) (call (Z183.R (x3.bp.aS,x2)) fun v12=>(cond (v12<0) (cond (x3.eG==x1) (ret true) (call (Z183.R (x3.bY.aS,x2)) fun v13=>ret ((decide (v13>0))))) (ret false)))))))))))))
def md (a0 a1:Int)(a2:av)(a3:bS):Bool:=(cond (!(Z135.md a2)) false (cond (!(Z134.md a3.eG 0 a1)) false (cond (a1==0) (cond (a0 != (Z195.md [])) false (cond (!(Z224.md a0 a1 a3.bp a3.eL (i64.wrap (a3.eG - 1)))) false (cond (!(Z224.md a0 a1 a3.bY a3.cE a3.eG)) false (cond (a3.eG==0) (cond (a3.eG==a1) true ((decide ((Z183.md a3.bY.aS a2)>0)))) (cond ((Z183.md a3.bp.aS a2)<0) (cond (a3.eG==a1) true ((decide ((Z183.md a3.bY.aS a2)>0)))) false))))) (cond (!(Z224.md a0 a1 a3.bp a3.eL (i64.wrap (a3.eG - 1)))) false (cond (!(Z224.md a0 a1 a3.bY a3.cE a3.eG)) false (cond (a3.eG==0) (cond (a3.eG==a1) true ((decide ((Z183.md a3.bY.aS a2)>0)))) (cond ((Z183.md a3.bp.aS a2)<0) (cond (a3.eG==a1) true ((decide ((Z183.md a3.bY.aS a2)>0)))) false)))))))
def gd (a0 a1:Int)(a2:av)(a3:bS):Prop:=(a2.size<=(2^21))/\(bS.Sm (2^21) a3)
def R:=tQ gd md
def aj {a0 a1 a2 a3}(h:gd a0 a1 a2 a3):R (a0,a1,a2,(bS.r a3))=some (md a0 a1 a2 a3):=so h
def aM:=CN [pI,pI,pS,.agg Dw] oB RT.dec R
def bn (a0)(a1)(a2)(a3)(hg:gd a0 a1 a2 a3):F a0 a1 a2 (bS.r a3)=ret (md a0 a1 a2 a3):=by
 obtain ⟨H2,H3⟩:=hg
 refine ct (Z135.aj (le_trans H2 (by decide))) (bs (fun _=>rfl) (fun c1=>?_))
 refine ct (Z134.aj trivial) (bs (fun _=>rfl) (fun c2=>?_))
 refine bs (fun c3=>?_) (fun c3=>?_)
 ·refine cG _ (rq (Z195.aj bg.nil)) (bs (fun _=>rfl) (fun c4=>?_))
  refine ct (Z224.aj ⟨H3.1,H3.2.2.1⟩) (bs (fun _=>rfl) (fun c5=>?_))
  refine ct (Z224.aj ⟨H3.2.1,H3.2.2.2⟩) (bs (fun _=>rfl) (fun c6=>?_))
  refine bs (fun c7=>?_) (fun c7=>?_)
  ·refine bs (fun _=>rfl) (fun c8=>?_)
   exact ct (Z183.aj trivial) fz
  ·refine ct (Z183.aj trivial) (bs (fun c9=>?_) (fun _=>rfl))
   refine bs (fun _=>rfl) (fun c10=>?_)
   exact ct (Z183.aj trivial) fz
 ·refine ct (Z224.aj ⟨H3.1,H3.2.2.1⟩) (bs (fun _=>rfl) (fun c11=>?_))
  refine ct (Z224.aj ⟨H3.2.1,H3.2.2.2⟩) (bs (fun _=>rfl) (fun c12=>?_))
  refine bs (fun c13=>?_) (fun c13=>?_)
  ·refine bs (fun _=>rfl) (fun c14=>?_)
   exact ct (Z183.aj trivial) fz
  ·refine ct (Z183.aj trivial) (bs (fun c15=>?_) (fun _=>rfl))
   refine bs (fun _=>rfl) (fun c16=>?_)
   exact ct (Z183.aj trivial) fz
def af:cj 310 aM:=W4 76 F mix az bn (xC Z135.af Z134.af Z195.af Z224.af Z183.af) Tryz.func310
def EO (a0 a1:Int)(a2:av)(a3:bS)(hc:a1<=1000):md a0 a1 a2 a3=Z115.md a0 a1 a2 a3:=by
 unfold md Z115.md Z224.md Z114.md Z222.md Z223.md
 simp only [Z135.br,Z134.br,Z195.br,Z217.br,Z219.md_eq,Z111.md_eq,Z220.md_eq,Z112.md_eq,Z183.br,Z8.lt,Z8.gt]
 cases Z12.md a2
 ·rfl
 cases hr:Z11.md a3.eG 0 a1
 ·rfl
 have hi:0<=a3.eG/\a3.eG<=a1:=by simpa [Z11.md] using hr
 have w1:i64.wrap (a1 - 1)=a1 - 1:=Go.IntWalk.i64_in _ (by omega)
 have w2:i64.wrap (a3.eG - 1)=a3.eG - 1:=Go.IntWalk.i64_in _ (by omega)
 have e1:Z11.md (a3.eG - 1) 0 (a1 - 1)=!(a3.eG==0):=by
  rw [Bool.eq_iff_iff];simp [Z11.md];omega
 have e2:Z11.md a3.eG 0 (a1 - 1)=!(a3.eG==a1):=by
  rw [Bool.eq_iff_iff];simp [Z11.md];omega
 simp only [w1,w2,e1,e2,bne]
 generalize (a3.eG==0)=z
 generalize (a3.eG==a1)=e
 generalize (a1==0)=c0
 generalize (a0==Z32.md [])=rt
 generalize iV a3.bp _=x1
 generalize iV a3.eL _=x2
 generalize iV a3.bY _=x3
 generalize iV a3.cE _=x4
 generalize Z109.md a0 a1 a3.bp a3.eL=k1
 generalize Z109.md a0 a1 a3.bY a3.cE=k2
 generalize (a3.eL.eG==a3.eG - 1)=p1
 generalize (a3.cE.eG==a3.eG)=p2
 generalize (Z8.md a3.bp.aS a2 == -1)=m1
 generalize (Z8.md a3.bY.aS a2==1)=m2
 cases c0<;>cases rt<;>cases z<;>cases e<;>cases x1<;>cases x2<;>cases k1<;>cases p1<;>cases m1<;>first | rfl | (cases x3<;>cases x4<;>rfl) | (cases k2<;>cases p2<;>cases m2<;>rfl)
end Z225
namespace Z226
def F (x0:bN)(x1:av)(x2:bw):aD:=(cond x2.bK (cond (x2.aJ.aS==x1) (call (Z217.R (x0.dx,x0.bZ,x2.aJ,x2.eI)) fun v1=>(cond v1 (call (Z221.R (x2.fq,(⟨0,(⟨(⟨#[]⟩:av),0,0,[]⟩),(⟨(⟨#[]⟩:av),0,0,[]⟩),(⟨0,[]⟩),(⟨0,[]⟩)⟩))) fun v2=>ret v2) (ret false))) (ret false)) (call (Z225.R (x0.dx,x0.bZ,x1,x2.fq)) fun v3=>(cond v3 (call (Z222.R x2.aJ) fun v4=>(cond v4 (call (Z223.R x2.eI) fun v5=>ret v5) (ret false))) (ret false))))
def md (a0:au)(a1:av)(a2:aA):Bool:=(cond a2.bK (cond (a2.aJ.aS==a1) (cond (Z217.md a0.dx a0.bZ a2.aJ a2.eI) ((Z221.md a2.fq (⟨0,(⟨((⟨#[]⟩:av)),0,0,[]⟩),(⟨((⟨#[]⟩:av)),0,0,[]⟩),(⟨0,[]⟩),(⟨0,[]⟩)⟩))) false) false) (cond (Z225.md a0.dx a0.bZ a1 a2.fq) (cond (Z222.md a2.aJ) ((Z223.md a2.eI)) false) false))
def gd (a0:au)(a1:av)(a2:aA):Prop:=(a1.size<=(2^21))/\(aA.Sm (2^21) a2)
def R:=lP gd md
def aj {a0 a1 a2}(h:gd a0 a1 a2):R ((au.r a0),a1,(aA.r a2))=some (md a0 a1 a2):=mq h
def aM:=CN [.agg lu,pS,.agg D3] oB RT.dec R
def bn (a0)(a1)(a2)(hg:gd a0 a1 a2):F (au.r a0) a1 (aA.r a2)=ret (md a0 a1 a2):=by
 obtain ⟨H1,H2⟩:=hg
 refine bs (fun c1=>?_) (fun c1=>?_)
 ·refine bs (fun c2=>?_) (fun _=>rfl)
  refine ct (Z217.aj ⟨H2.2.1,H2.2.2.1⟩) (bs (fun c3=>?_) (fun _=>rfl))
  exact ct (Z221.aj (a1:=(⟨0,(⟨((⟨#[]⟩:av):av),0,0,[]⟩:ah),(⟨((⟨#[]⟩:av):av),0,0,[]⟩:ah),(⟨0,[]⟩:aT),(⟨0,[]⟩:aT)⟩:bS)) ⟨H2.2.2.2,⟨⟨(by decide),bg.nil⟩,⟨(by decide),bg.nil⟩,bg.nil,bg.nil⟩⟩) fz
 ·refine ct (Z225.aj ⟨H1,H2.2.2.2⟩) (bs (fun c4=>?_) (fun _=>rfl))
  refine ct (Z222.aj H2.2.1) (bs (fun c5=>?_) (fun _=>rfl))
  exact ct (Z223.aj H2.2.2.1) fz
def af:cj 240 aM:=W3 49 F mix az bn (xC Z217.af Z221.af Z225.af Z222.af Z223.af) Tryz.func240
def EO (a0:au)(a1:av)(a2:aA)(hc:a0.bZ<=1000):md a0 a1 a2=Z116.md a0 a1 a2:=by
 unfold md Z116.md Z114.md Z222.md Z223.md
 simp only [Z225.EO _ _ _ _ hc,Z217.br,Z219.md_eq,Z111.md_eq,Z220.md_eq,Z112.md_eq,Z221.md_eq,Z113.md_eq]
end Z226
namespace Z227
def F (x0:Int)(x1:av)(x2:bw)(x3:Int):aD:=(call (Z214.R x2.aC) fun v1=>(cond (!v1.2) (ret (3:Int)) (cond (v1.1.aX != x0) (ret (2:Int)) (call (Z215.R (v1.1,x3)) fun v2=>(cond (!v2) (ret (4:Int)) (cond v1.1.bh (ret (5:Int)) (call (Z226.R (v1.1,x1,x2)) fun v3=>(cond (!v3) (ret (6:Int)) (ret (1:Int))))))))))
def md (a0:Int)(a1:av)(a2:aA)(a3:Int):Int:=(cond (!(Z214.md a2.aC).2) (3:Int) (cond ((Z214.md a2.aC).1.aX != a0) (2:Int) (cond (!(Z215.md ((Z214.md a2.aC).1) a3)) (4:Int) (cond ((Z214.md a2.aC).1.bh) (5:Int) (cond (!(Z226.md ((Z214.md a2.aC).1) a1 a2)) (6:Int) (1:Int))))))
def gd (a0:Int)(a1:av)(a2:aA)(a3:Int):Prop:=(a1.size<=(2^21))/\(aA.Sm (2^21) a2)
def R:=tQ gd md
def aj {a0 a1 a2 a3}(h:gd a0 a1 a2 a3):R (a0,a1,(aA.r a2),a3)=some (md a0 a1 a2 a3):=so h
def aM:=CN [pI,pS,.agg D3,pI] oI RT.dec R
def bn (a0)(a1)(a2)(a3)(hg:gd a0 a1 a2 a3):F a0 a1 (aA.r a2) a3=ret (md a0 a1 a2 a3):=by
 obtain ⟨H1,H2⟩:=hg
 refine ct (Z214.aj H2.1) (bs (fun _=>rfl) (fun c1=>?_))
 refine bs (fun _=>rfl) (fun c2=>?_)
 refine ct (Z215.aj trivial) (bs (fun _=>rfl) (fun c3=>?_))
 refine bs (fun _=>rfl) (fun c4=>?_)
 refine ct (Z226.aj ⟨H1,H2⟩) (bs (fun _=>rfl) (fun _=>rfl))
def af:cj 147 aM:=W4 39 F mix az bn (jB Z214.af Z215.af Z226.af) Tryz.func147
def br (a0:Int)(a1:av)(a2:aA)(a3:Int):md a0 a1 a2 a3=Z117.md a0 a1 a2 a3:=by
 unfold md Z117.md
 simp only [Z214.br,Z215.br]
 cases hok:(Z61.md a2.aC).2
 ·rfl
 ·have:=Z36.tr (Z61.head hok).2.2
  rw [Z226.EO _ _ _ (by omega)]
end Z227
namespace Z228
def F (x0:aq)(x1:List L):aD:=(cond ((x0.length:Int)>0) (cA ((0:Int)<x0.length) (ret (((aU.at x0 0).an.aX==(gN x1))))) (ret false))
def pats:List fF:=[.rd (.sl 53),.ptr [aE]]
def res:RP:=.one (.rd (.bool))
def md (a0:List aa)(a1:Int):Bool:=(cond ((a0.length:Int)>0) ((((a0.getD 0 aa.zero).an).aX==a1)) false)
def gd (a0:List aa)(a1:Int):Prop:=(bg (2^21) (fun y:aa=>aa.Sm (2^21) y) a0)
def acc (ls:List L):aq×Int:=((eU ls),(gN (ck 1 (bA 1 ls))))
def R:(aq×Int)->Option Bool:=cI gd md
def aj {a0 a1}(h:gd a0 a1):R ((a0.map aa.row),a1)=some (md a0 a1):=cH h
def aM:gj:=CN pats res acc R
def bn (a0:List aa)(a1:Int)(p1:List L)(e1:a1=(gN p1))(hg:gd a0 a1):F (a0.map aa.row) p1=ret ((md a0 a1):Bool):=by
 unfold F md
 simp only [SS,<-e1]
 refine bs (fun c1=>?_) (fun _=>rfl)
 have dc1:=c1
 simp only [DC] at dc1
 exact aG dt fz
def qH (ls:List L)(a:List aa×Int)(e:acc ls=Im.im a)(hg:(p2 gd) a):∃n:Nat,F ((eU ls)) (ck 1 (bA 1 ls))=ret (Im.im ((u2 md) a)):=by
 have e0:(a.1.map aa.row)=(eU ls):=(congrArg (fun x=>x.1) e.symm)
 have hn:=bn a.1 a.2 (ck 1 (bA 1 ls)) (congrArg (fun x=>x.2) e.symm) hg
 refine ⟨0,?_⟩
 rw [<-e0]
 exact hn
def af:cj 213 aM:=VP (live:=fun _=>[]) (nt:=16) (accr:=fun ls=>((eU ls),(ck 1 (bA 1 ls)))) (run:=fun _ x=>F x.1 x.2) mix az .nil Tryz.func213 (by kernel_rfl) (fun _ _=>by kernel_rfl) (fun ls a _ e hg=>qH ls a e hg)
end Z228
namespace Z229
inductive Pt where
 | p0 (a:aq) (b:List L) (c d:Int)
def pid:Pt->Nat
 | .p0 ..=>2
def cM:Pt->List V
 | .p0 a b c d=>[.sl none 37 a,.fn 213 [.cS none [aE] b 0],.int .i64 c,.int .i64 d]
def dQ:Pt->List aK
 | .p0 a b c d=>[]
def step (J:Pt->aD):Pt->aD
 | .p0 a b c d=>(cond (d<c) (m2 d (a.length:Int) (call (Z228.R ((rK a (toNat d)),(gN b))) fun v1=>(cond v1 (ret (d:Int)) (J (.p0 a b c (i64.wrap (d+1))))))) mV)
def start (J:Pt->aD)(x0:aq)(x1:List L):aD:=J (.p0 x0 x1 x0.length 0)
def live:Nat->Live:=gL [(2,jC [0,1,7,8])]
def pats:List fF:=[.rd (.sl 37),.fn 213 [[aE]]]
def res:RP:=.one (.rd (.int .i64))
abbrev E:Env:={ T:=assoc mC,G:=cZ [(213,Z228.aM)],nt:=19 }
def step_eq (I:dD)(p:Pt):dU E live I (pid p) (bL Tryz.f212) (iT (live (pid p)) (cM p) (dQ p)) (dA E Tryz.f212 res)=step (fun q=>I (pid q) (cM q) (dQ q)) p:=by
 cases p<;>kernel_rfl
def start_eq (I:dD)(ls:List L):gO E live I (bL Tryz.f212) (dJ pats ls) (dA E Tryz.f212 res)=start (fun q=>I (pid q) (cM q) (dQ q)) (eU ls) (ck 1 (bA 1 ls)):=by kernel_rfl
def run_eq (n:Nat)(ls:List L):eY E live Tryz.f212 res n (dJ pats ls)=start (iter step n) (eU ls) (ck 1 (bA 1 ls)):=dI (id:=pid) (vs:=cM) (hs:=dQ) (step:=step) (start:=fun J=>start J (eU ls) (ck 1 (bA 1 ls))) step_eq (fun I=>start_eq I ls) n
def md (a0:List (List aa))(a1:Int):Int:=(dY (S:=Unit) (β:=Int) (fun i1 (y1:List aa) s3=>(cond (Z228.md y1 a1) (.inr (i1)) (.inl ()))) (fun s3=>((-1):Int)) 0 a0 ())
def gd (a0:List (List aa))(a1:Int):Prop:=(bg (2^21) (fun y:List aa=>bg (2^21) (fun y:aa=>aa.Sm (2^21) y) y) a0)
def acc (ls:List L):aq×Int:=((eU ls),(gN (ck 1 (bA 1 ls))))
def R:(aq×Int)->Option Int:=cI gd md
def aj {a0 a1}(h:gd a0 a1):R ((a0.map (fR aa.row)),a1)=some (md a0 a1):=cH h
def aM:gj:=CN pats res acc R
def bn (a0:List (List aa))(a1:Int)(p1:List L)(e1:a1=(gN p1))(H0:gd a0 a1):∃n,start (iter step n) (a0.map (fR aa.row)) p1=ret ((md a0 a1):Int):=by
 have Bh2:=bl H0
 refine ex_eq (cK (z:=[])) (dy (p:=Pt.p0 (a0.map (fR aa.row)) p1 (a0.length:Int) 0) fz ?_)
 refine bH (pt:=fun (i1:Nat) (s3:Unit)=>Pt.p0 (a0.map (fR aa.row)) p1 (a0.length:Int) (i1:Int)) (fun _ _=>True) (fun J i1 s3 h2 hih2=>?_) (fun s3 hih2=>?_) trivial
 ·simp only [step,SS,<-e1]
  refine aP.yes dt (aP.yes bB ?_)
  refine aP.yes (bQ h2) (cr (Z228.aj (bg.getD H0 h2)) ?_)
  refine aP.bif (fun c4=>aP.inr fz) (fun c4=>?_)
  refine aP.inl trivial ?_
  rw [aF h2 Bh2]
 ·simp only [step,SS,<-e1]
  refine cL dn (⟨0,?_⟩)
  exact fz
def qH (ls:List L)(a:List (List aa)×Int)(e:acc ls=Im.im a)(hg:(p2 gd) a):∃n:Nat,start (iter step n) ((eU ls)) (ck 1 (bA 1 ls))=ret (Im.im ((u2 md) a)):=by
 have e0:(a.1.map (fR aa.row))=(eU ls):=(congrArg (fun x=>x.1) e.symm)
 obtain ⟨n,hn⟩:=bn a.1 a.2 (ck 1 (bA 1 ls)) (congrArg (fun x=>x.2) e.symm) hg
 refine ⟨n,?_⟩
 rw [<-e0]
 exact hn
def af:cj 212 aM:=VP (accr:=fun ls=>((eU ls),(ck 1 (bA 1 ls)))) (run:=fun n x=>start (iter step n) x.1 x.2) mix az (cO Z228.af) Tryz.func212 (by kernel_rfl) run_eq (fun ls a _ e hg=>qH ls a e hg)
def fa (a0:List (List aa))(a1:Int):-1<=md a0 a1/\md a0 a1<(a0.length:Int):=by
 refine jV ?_ _ _
 all_goals
  intro i x s b h
  revert h
  simp only [Bool.cond_eq_ite]
  repeat' split
  all_goals (intro h;first | (cases h;rfl) | cases h)
def idx_eq (a0:List (List aa))(a1:Int):md a0 a1=iD (fun y=>Z228.md y a1) 0 a0:=jg
end Z229
namespace Z230
def F (x0:aW)(x1:Int):aD:=(call (Z229.R (x0.ay,x1)) fun v1=>ret v1)
def md (a0:ak)(a1:Int):Int:=((Z229.md a0.ay a1))
def gd (a0:ak)(a1:Int):Prop:=(ak.Sm (2^21) a0)
def R:=cI gd md
def aj {a0 a1}(h:gd a0 a1):R ((ak.r a0),a1)=some (md a0 a1):=cH h
def aM:=CN [.agg wg,pI] oI RT.dec R
def bn (a0)(a1)(H0:gd a0 a1):F (ak.r a0) a1=ret (md a0 a1):=ct (Z229.aj H0.1) fz
def af:cj 118 aM:=W2 9 F mix az bn (cO Z229.af) Tryz.func118
def fa (a0:ak)(a1:Int):-1<=md a0 a1/\md a0 a1<(a0.ay.length:Int):=by unfold md;exact Z229.fa _ _
def br (a0:ak)(a1:Int):md a0 a1=Z88.md a0 a1:=by
 unfold md Z88.md
 rw [Z229.idx_eq]
 symm
 refine kJ (fun i x s=>?_) _ _ _
 unfold Z228.md
 cases decide ((x.length:Int)>0)<;>first | rfl | (cases ((x.getD 0 aa.zero).an).aX==a1<;>rfl)
end Z230
namespace Z231
def F (x0 x1:bN):aD:=(call (Z171.R (x0.bV,x1.bV)) fun v1=>(cond v1 (call (Z171.R (x0.bG,x1.bG)) fun v2=>(cond v2 (call (Z171.R (x0.bD,x1.bD)) fun v3=>(cond v3 (call (Z156.R x0) fun v4=>(call (Z156.R x1) fun v5=>(call (Z170.R (v4,v5)) fun v6=>ret v6))) (ret false))) (ret false))) (ret false)))
def md (a0 a1:au):Bool:=(cond (Z171.md a0.bV a1.bV) (cond (Z171.md a0.bG a1.bG) (cond (Z171.md a0.bD a1.bD) ((Z170.md (Z156.md a0) (Z156.md a1))) false) false) false)
def gd (a0 a1:au):Prop:=(au.Sm (2^21) a0)/\(au.Sm (2^21) a1)
def R:=cI gd md
def aj {a0 a1}(h:gd a0 a1):R ((au.r a0),(au.r a1))=some (md a0 a1):=cH h
def aM:=CN [.agg lu,.agg lu] oB RT.dec R
def bn (a0)(a1)(hg:gd a0 a1):F (au.r a0) (au.r a1)=ret (md a0 a1):=by
 obtain ⟨H0,H1⟩:=hg
 refine ct (Z171.aj ⟨H0.1,H1.1⟩) (bs (fun c1=>?_) (fun _=>rfl))
 refine ct (Z171.aj ⟨H0.2.1,H1.2.1⟩) (bs (fun c2=>?_) (fun _=>rfl))
 refine ct (Z171.aj ⟨H0.2.2,H1.2.2⟩) (bs (fun c3=>?_) (fun _=>rfl))
 refine ct (Z156.aj H0) (ct (Z156.aj H1) ?_)
 exact ct (Z170.aj ⟨⟨(have:=Z156.len a0;have:=(H0.1).1;have:=(H0.2.1).1;have:=(H0.2.2).1;om),fun _ _=>trivial⟩,⟨(have:=Z156.len a1;have:=(H1.1).1;have:=(H1.2.1).1;have:=(H1.2.2).1;om),fun _ _=>trivial⟩⟩) fz
def af:cj 134 aM:=W2 31 F mix az bn (jB Z171.af Z156.af Z170.af) Tryz.func134
def md_eq (a0 a1:au):md a0 a1=iV a0 a1:=by
 unfold md
 simp only [Z170.md_eq,Z171.md_eq,Z156.br]
 rw [Bool.eq_iff_iff]
 constructor
 ·intro h
  simp only [CR,Bool.and_eq_true] at h
  exact dO.2 (Z39.inj (dO.1 h.2.2.2))
 ·intro h
  rw [dO] at h
  rw [h]
  simp only [pN];rfl
end Z231
namespace Z232
inductive Pt where
 | p0 (a b:aq) (c d:Int)
def cM:Pt->List V
 | .p0 a b c d=>[.sl none 53 a,.sl none 53 b,.int .i64 c,.int .i64 d]
def step (J:Pt->aD):Pt->aD
 | .p0 a b c d=>(cond (d<c) (m2 d (b.length:Int) (m2 d (a.length:Int) (call (Z231.R ((aU.at b (toNat d)).an,(aU.at a (toNat d)).an)) fun v1=>(cond (!v1) eM (J (.p0 a b c (i64.wrap (d+1)))))))) nS)
def start (J:Pt->aD)(x0 x1:aq):aD:=(cond (x0.length>(x1.length:Int)) (ret false) (J (.p0 x1 x0 x0.length 0)))
def live:Nat->Live:=gL [(4,jC [1,12,13,14])]
def md (a0 a1:List aa):Bool:=(bif (decide (a0.length>(a1.length:Int))) then false else (eB (S:=Unit) (β:=Bool) (fun i2 s4=>(cond (!(Z231.md ((a0.getD i2 aa.zero).an) ((a1.getD i2 aa.zero).an))) (.inr false) (.inl ()))) (fun s4=>true) a0.length 0 ()))
def gd (a0 a1:List aa):Prop:=(bg (2^21) (fun y:aa=>aa.Sm (2^21) y) a0)/\(bg (2^21) (fun y:aa=>aa.Sm (2^21) y) a1)
def R:=cI gd md
def aj {a0 a1}(h:gd a0 a1):R ((a0.map aa.row),(a1.map aa.row))=some (md a0 a1):=cH h
def aM:=CN [pL 53,pL 53] oB RT.dec R
def bn (a0)(a1)(hg:gd a0 a1):∃n,start (iter step n) (a0.map aa.row) (a1.map aa.row)=ret (md a0 a1):=by
 obtain ⟨H0,H1⟩:=hg
 unfold start md
 simp only [SS]
 refine gE ret (fun _=>⟨0,rfl⟩) (fun c1=>?_)
 have dc1:=c1
 simp only [DC] at dc1
 have Bh3:=bl H0
 refine dy fz (bH (pt:=fun (i2:Nat) (s4:Unit)=>Pt.p0 (a1.map aa.row) (a0.map aa.row) (a0.length:Int) (i2:Int)) (fun _ _=>True) (fun J i2 s4 h3 hih3=>?_) (fun s4 hih3=>?_) trivial)
 ·simp only [step,SS]
  refine aP.yes dt (aP.yes bB ?_)
  refine aP.yes (bQ h3) (aP.yes bB ?_)
  refine aP.yes dt (cr (Z231.aj ⟨(bg.getD H0 h3).1,(bg.getD H1 (by omega)).1⟩) ?_)
  refine aP.bif (fun _=>aP.inr rfl) (fun c5=>?_)
  refine aP.inl trivial ?_
  rw [aF h3 Bh3]
 ·simp only [step,SS]
  refine cL dn (⟨0,?_⟩)
  exact fz
def af:cj 28 aM:=L2 29 (fun _=>4) cM (fun _=>[]) live step start mix az bn (cO Z231.af) Tryz.func28
def br (a0 a1:List aa):md a0 a1=Z90.md a0 a1:=by
 unfold md Z90.md
 simp only [Z231.md_eq,Z89.md_eq]
end Z232
namespace Z233
def F (x0:aW)(x1:aq):aD:=(call (Z178.R x1) fun v1=>(cond (!v1) (ret (6:Int)) (cA ((0:Int)<x1.length) (call (Z230.R (x0,(aU.at x1 0).an.aX)) fun v2=>(cond (v2<0) (ret (1:Int)) (m2 v2 x0.ay.length (call (Z232.R ((rK x0.ay (toNat v2)),x1)) fun v3=>(m2 v2 x0.ay.length (call (Z232.R (x1,(rK x0.ay (toNat v2)))) fun v4=>(cond v3 (cond v4 (ret (2:Int)) (cond v3 (ret (3:Int)) (cond v4 (ret (4:Int)) (ret (5:Int))))) (cond v3 (ret (3:Int)) (cond v4 (ret (4:Int)) (ret (5:Int))))))))))))))
def md (a0:ak)(a1:List aa):Int:=(cond (!(Z178.md a1)) (6:Int) (cond ((Z230.md a0 (((a1.getD 0 aa.zero).an).aX))<0) (1:Int) (cond (Z232.md (a0.ay.getD (toNat (Z230.md a0 (((a1.getD 0 aa.zero).an).aX))) []) a1) (cond (Z232.md a1 (a0.ay.getD (toNat (Z230.md a0 (((a1.getD 0 aa.zero).an).aX))) [])) (2:Int) (cond (Z232.md (a0.ay.getD (toNat (Z230.md a0 (((a1.getD 0 aa.zero).an).aX))) []) a1) (3:Int) (cond (Z232.md a1 (a0.ay.getD (toNat (Z230.md a0 (((a1.getD 0 aa.zero).an).aX))) [])) (4:Int) (5:Int)))) (cond (Z232.md (a0.ay.getD (toNat (Z230.md a0 (((a1.getD 0 aa.zero).an).aX))) []) a1) (3:Int) (cond (Z232.md a1 (a0.ay.getD (toNat (Z230.md a0 (((a1.getD 0 aa.zero).an).aX))) [])) (4:Int) (5:Int))))))
def gd (a0:ak)(a1:List aa):Prop:=(ak.Sm (2^21) a0)/\(bg (2^21) (fun y:aa=>aa.Sm (2^21) y) a1)
def R:=cI gd md
def aj {a0 a1}(h:gd a0 a1):R ((ak.r a0),(a1.map aa.row))=some (md a0 a1):=cH h
def aM:=CN [.agg wg,pL 53] oI RT.dec R
def bn (a0)(a1)(hg:gd a0 a1):F (ak.r a0) (a1.map aa.row)=ret (md a0 a1):=by
 obtain ⟨H0,H1⟩:=hg
 unfold F md
 simp only [SS]
 refine ct (Z178.aj H1) (bs (fun _=>rfl) (fun c1=>?_))
 have tc1:=Z178.tr (by simpa using c1)
 refine aG dt (ct (Z230.aj H0) ?_)
 have fv2_:=Z230.fa a0 (((a1.getD 0 aa.zero).an).aX)
 refine bs (fun _=>rfl) (fun c2=>?_)
 have dc2:=c2
 simp only [DC] at dc2
 refine aG dt (aG (have:=(H0.1).1;dt) ?_)
 refine ct (Z232.aj ⟨(bg.getD H0.1 (by omega)),H1⟩) (aG dt ?_)
 refine aG (have:=(H0.1).1;dt) (ct (Z232.aj ⟨H1,(bg.getD H0.1 (by omega))⟩) ?_)
 refine bs (fun c3=>?_) (fun c3=>?_)
 ·refine bs (fun _=>rfl) (fun c4=>?_)
  refine bs (fun _=>rfl) (fun c5=>?_)
  refine bs (fun _=>rfl) (fun _=>rfl)
 ·refine bs (fun _=>rfl) (fun c7=>?_)
  refine bs (fun _=>rfl) (fun _=>rfl)
def af:cj 30 aM:=W2 43 F mix az bn (jB Z178.af Z230.af Z232.af) Tryz.func30
def fa (a0:ak)(a1:List aa):(md a0 a1=3->1<=a1.length/\0<=Z230.md a0 (a1.getD 0 aa.zero).an.aX)/\(md a0 a1=5->1<=a1.length/\0<=Z230.md a0 (a1.getD 0 aa.zero).an.aX):=by
 unfold md
 cases h:Z178.md a1
 ·exact ⟨fun h=>by simp at h,fun h=>by simp at h⟩
 ·have t:=Z178.tr h
  cases hf:decide (Z230.md a0 ((a1.getD 0 aa.zero).an.aX)<0)
  ·have:=of_decide_eq_false hf
   exact ⟨fun _=>⟨t.1,by omega⟩,fun _=>⟨t.1,by omega⟩⟩
  ·exact ⟨fun h=>by simp at h,fun h=>by simp at h⟩
def br (a0:ak)(a1:List aa):md a0 a1=Z91.md a0 a1:=by
 unfold md Z91.md
 simp only [Z178.br,Z230.br,Z232.br]
end Z233
namespace Z234
inductive Pt where
 | p0 (a b:aq) (c d e f g h i j k l m n o:Int) (p:Bool) (q s t u v w y z w24 w25 w26 w27:Int) (w28:Bool) (w29 w30 w31 w32 w33 w34 w35 w36 w37 w38 w39 w40:Int) (w41:Bool)
def cM:Pt->List V
 | .p0 a b c d e f g h i j k l m n o p q s t u v w y z w24 w25 w26 w27 w28 w29 w30 w31 w32 w33 w34 w35 w36 w37 w38 w39 w40 w41=>[.sl none 53 a,.sl none 53 b,.bP 0 0,.int .i64 c]
def dQ:Pt->List aK
 | .p0 a b c d e f g h i j k l m n o p q s t u v w y z w24 w25 w26 w27 w28 w29 w30 w31 w32 w33 w34 w35 w36 w37 w38 w39 w40 w41=>[.box [.int .i64 d,.int .i64 e,.int .i64 f,.int .i64 g,.int .i64 h,.int .i64 i,.int .i64 j,.int .i64 k,.nil,.int .i64 l,.nil,.int .i64 m,.int .i64 n,.nil,.int .i64 o,.bool p,.nil,.int .i64 q,.int .i64 s,.int .i64 t,.int .i64 u,.int .i64 v,.int .i64 w,.int .i64 y,.int .i64 z,.nil,.int .i64 w24,.nil,.int .i64 w25,.int .i64 w26,.nil,.int .i64 w27,.bool w28,.nil,.int .i64 w29,.int .i64 w30,.int .i64 w31,.int .i64 w32,.int .i64 w33,.int .i64 w34,.int .i64 w35,.int .i64 w36,.nil,.int .i64 w37,.nil,.int .i64 w38,.int .i64 w39,.nil,.int .i64 w40,.bool w41,.nil]]
def step (J:Pt->aD):Pt->aD
 | .p0 a b c d e f g h i j k l m n o p q s t u v w y z w24 w25 w26 w27 w28 w29 w30 w31 w32 w33 w34 w35 w36 w37 w38 w39 w40 w41=>(m2 c (a.length:Int) (m2 c (b.length:Int) (call (Z231.R ((aU.at a (toNat c)).an,(aU.at b (toNat c)).an)) fun v1=>(cond v1 (J (.p0 a b (i64.wrap (c+1)) d e f g h i j k l m n o p q s t u v w y z w24 w25 w26 w27 w28 w29 w30 w31 w32 w33 w34 w35 w36 w37 w38 w39 w40 w41)) (m2 c (a.length:Int) (call (Z130.R (aU.at a (toNat c))) fun v2=>(m2 c (b.length:Int) (call (Z130.R (aU.at b (toNat c))) fun v3=>(cond (c>0) (cA ((0:Int)<=(i64.wrap (c - 1))) (cA ((i64.wrap (c - 1))<(a.length:Int)) (call (Z130.R (aU.at a (toNat (i64.wrap (c - 1))))) fun v4=>ret (((⟨v4,v2,v3⟩:cB),true):cB×Bool)))) (ret (((⟨(⟨(⟨0,0,0,0,0,0,0,0,(⟨[],0⟩:cX),(⟨[],0⟩:cX),0,(⟨[],0⟩:cX),false⟩:bN),[]⟩:aU),v2,v3⟩:cB),true):cB×Bool)))))))))))
def start (J:Pt->aD)(x0 x1:aq):aD:=(call (Z178.R x0) fun v1=>(cond (!v1) (ret (((⟨(⟨(⟨0,0,0,0,0,0,0,0,(⟨[],0⟩),(⟨[],0⟩),0,(⟨[],0⟩),false⟩),[]⟩),(⟨(⟨0,0,0,0,0,0,0,0,(⟨[],0⟩),(⟨[],0⟩),0,(⟨[],0⟩),false⟩),[]⟩),(⟨(⟨0,0,0,0,0,0,0,0,(⟨[],0⟩),(⟨[],0⟩),0,(⟨[],0⟩),false⟩),[]⟩)⟩),false):cB×Bool)) (call (Z178.R x1) fun v2=>(cond (!v2) (ret (((⟨(⟨(⟨0,0,0,0,0,0,0,0,(⟨[],0⟩),(⟨[],0⟩),0,(⟨[],0⟩),false⟩),[]⟩),(⟨(⟨0,0,0,0,0,0,0,0,(⟨[],0⟩),(⟨[],0⟩),0,(⟨[],0⟩),false⟩),[]⟩),(⟨(⟨0,0,0,0,0,0,0,0,(⟨[],0⟩),(⟨[],0⟩),0,(⟨[],0⟩),false⟩),[]⟩)⟩),false):cB×Bool)) (cA ((0:Int)<x0.length) (cA ((0:Int)<x1.length) (cond ((aU.at x0 0).an.aX != (aU.at x1 0).an.aX) (ret (((⟨(⟨(⟨0,0,0,0,0,0,0,0,(⟨[],0⟩),(⟨[],0⟩),0,(⟨[],0⟩),false⟩),[]⟩),(⟨(⟨0,0,0,0,0,0,0,0,(⟨[],0⟩),(⟨[],0⟩),0,(⟨[],0⟩),false⟩),[]⟩),(⟨(⟨0,0,0,0,0,0,0,0,(⟨[],0⟩),(⟨[],0⟩),0,(⟨[],0⟩),false⟩),[]⟩)⟩),false):cB×Bool)) (call (Z232.R (x0,x1)) fun v3=>(cond v3 (ret (((⟨(⟨(⟨0,0,0,0,0,0,0,0,(⟨[],0⟩),(⟨[],0⟩),0,(⟨[],0⟩),false⟩),[]⟩),(⟨(⟨0,0,0,0,0,0,0,0,(⟨[],0⟩),(⟨[],0⟩),0,(⟨[],0⟩),false⟩),[]⟩),(⟨(⟨0,0,0,0,0,0,0,0,(⟨[],0⟩),(⟨[],0⟩),0,(⟨[],0⟩),false⟩),[]⟩)⟩),false):cB×Bool)) (call (Z232.R (x1,x0)) fun v4=>(cond v4 (ret (((⟨(⟨(⟨0,0,0,0,0,0,0,0,(⟨[],0⟩),(⟨[],0⟩),0,(⟨[],0⟩),false⟩),[]⟩),(⟨(⟨0,0,0,0,0,0,0,0,(⟨[],0⟩),(⟨[],0⟩),0,(⟨[],0⟩),false⟩),[]⟩),(⟨(⟨0,0,0,0,0,0,0,0,(⟨[],0⟩),(⟨[],0⟩),0,(⟨[],0⟩),false⟩),[]⟩)⟩),false):cB×Bool)) (J (.p0 x0 x1 0 0 0 0 0 0 0 0 0 0 0 0 0 false 0 0 0 0 0 0 0 0 0 0 0 0 false 0 0 0 0 0 0 0 0 0 0 0 0 false)))))))))))))
def live:Nat->Live:=gL [(4,jC [0,1,4,6])]
def pt (a b:aq)(c:Int):Pt:=Pt.p0 a b c 0 0 0 0 0 0 0 0 0 0 0 0 false 0 0 0 0 0 0 0 0 0 0 0 0 false 0 0 0 0 0 0 0 0 0 0 0 0 false
def md (a0 a1:List aa):aN×Bool:=(cond (!(Z178.md a0)) (aN.zero,false) (cond (!(Z178.md a1)) (aN.zero,false) (cond (((a0.getD 0 aa.zero).an).aX != ((a1.getD 0 aa.zero).an).aX) (aN.zero,false) (cond (Z232.md a0 a1) (aN.zero,false) (cond (Z232.md a1 a0) (aN.zero,false) (Z92.Bo a0 a1 (Z92.fk a0 a1),true))))))
def gd (a0 a1:List aa):Prop:=bg (2^21) (fun y:aa=>aa.Sm (2^21) y) a0/\bg (2^21) (fun y:aa=>aa.Sm (2^21) y) a1
def R:=cI gd md
def aj {a0 a1}(h:gd a0 a1):R ((a0.map aa.row),(a1.map aa.row))=some ((aN.r (md a0 a1).1),(md a0 a1).2):=cH h
def aM:=CN [pL 53,pL 53] (.gW [(true,f170),(false,[fB])]) RT.dec R
def bn (a0)(a1)(hg:gd a0 a1):∃n,start (iter step n) (a0.map aa.row) (a1.map aa.row)=ret ((aN.r (md a0 a1).1),(md a0 a1).2):=by
 obtain ⟨H0,H1⟩:=hg
 have hl1:=H1.1
 have key:Z92.fk a0 a1<a0.length->Z92.fk a0 a1<a1.length->Z89.md (a0.getD (Z92.fk a0 a1) aa.zero).an (a1.getD (Z92.fk a0 a1) aa.zero).an=false->∀d k,k+d=Z92.fk a0 a1->∃n,iter step n (pt (a0.map aa.row) (a1.map aa.row) (k:Int))=ret ((aN.r (Z92.Bo a0 a1 (Z92.fk a0 a1)),true):cB×Bool):=by
  intro hn0 hn1 hne d
  have hR:∀k,k<a0.length->k<a1.length->Z231.R (au.r (a0.getD k aa.zero).an,au.r (a1.getD k aa.zero).an)=some (Z89.md (a0.getD k aa.zero).an (a1.getD k aa.zero).an):=by
   intro k h0 h1
   rw [Z231.aj ⟨(bg.getD H0 h0).1,(bg.getD H1 h1).1⟩,Z231.md_eq,Z89.md_eq]
  induction d with
  | zero=>
   intro k hk
   obtain rfl:k=Z92.fk a0 a1:=by omega
   generalize hkk:Z92.fk a0 a1=k at hn0 hn1 hne ⊢
   refine ⟨1,?_⟩
   show step (iter step 0) _=_
   have q1:(0:Int)<=(k:Int):=by omega
   have q2:(k:Int)<(a0.length:Int):=by omega
   have q3:(k:Int)<(a1.length:Int):=by omega
   simp only [pt,step,MM,S0,aa.rs,au.rs,q1,q2,q3,decide_true,aO]
   rw [call_eq (hR k hn0 hn1),hne,aR,call_eq (Z130.aj (bg.getD H0 hn0)),call_eq (Z130.aj (bg.getD H1 hn1))]
   cases k with
   | zero=>rfl
   | succ k=>
    have q4:((k+1:Nat):Int)>0:=by omega
    have q5:i64.wrap (((k+1:Nat):Int) - 1)=(k:Int):=by rw [wi _ (by omega)];omega
    have q6:(0:Int)<=(k:Int):=by omega
    have q7:(k:Int)<(a0.length:Int):=by omega
    simp only [q4,q5,q6,q7,decide_true,aO,S0,aa.rs]
    rw [call_eq (Z130.aj (bg.getD H0 (by omega)))]
    rfl
  | succ d ih=>
   intro k hk
   obtain ⟨n,hn⟩:=ih (k+1) (by omega)
   refine ⟨n+1,?_⟩
   show step (iter step n) _=_
   have q1:(0:Int)<=(k:Int):=by omega
   have q2:(k:Int)<(a0.length:Int):=by omega
   have q3:(k:Int)<(a1.length:Int):=by omega
   simp only [pt,step,MM,S0,aa.rs,au.rs,q1,q2,q3,decide_true,aO]
   rw [call_eq (hR k (by omega) (by omega)),(Z92.rP a0 a1).1 k (by omega),aO,wi _ (by omega)]
   exact hn
 unfold start md
 simp only [S0,aa.rs,au.rs]
 refine fu _ (Z178.aj H0) ?_
 cases hc0:Z178.md a0
 ·exact ⟨0,rfl⟩
 simp only [Bool.not_true,aR]
 refine fu _ (Z178.aj H1) ?_
 cases hc1:Z178.md a1
 ·exact ⟨0,rfl⟩
 have t0:=Z178.tr hc0
 have t1:=Z178.tr hc1
 simp only [Bool.not_true,aR]
 refine dP (decide_eq_true (by omega)) (dP (decide_eq_true (by omega)) ?_)
 cases ((a0.getD 0 aa.zero).an.aX != (a1.getD 0 aa.zero).an.aX)
 case true=>exact ⟨0,rfl⟩
 simp only [aR]
 refine fu _ (Z232.aj ⟨H0,H1⟩) ?_
 cases hp0:Z232.md a0 a1
 case true=>exact ⟨0,rfl⟩
 simp only [aR]
 refine fu _ (Z232.aj ⟨H1,H0⟩) ?_
 cases hp1:Z232.md a1 a0
 case true=>exact ⟨0,rfl⟩
 simp only [aR]
 rw [Z232.br] at hp0 hp1
 obtain ⟨h1,h2,h3⟩:=Z92.qk hp0 hp1
 exact key h1 h2 h3 (Z92.fk a0 a1) 0 (by omega)
def af:cj 119 aM:=L2 74 (fun _=>4) cM dQ live step start mix az bn (nP Z178.af Z232.af Z231.af Z130.af) Tryz.func119
def fo {a0 a1:List aa}(hg:gd a0 a1):aN.Sm (2^21) ((md a0 a1).1):=by
 unfold gd at hg;unfold md
 have z:aN.Sm (2^21) aN.zero:=⟨⟨⟨bg.nil,bg.nil,bg.nil⟩,bg.nil⟩,⟨⟨bg.nil,bg.nil,bg.nil⟩,bg.nil⟩,⟨⟨bg.nil,bg.nil,bg.nil⟩,bg.nil⟩⟩
 cases Z178.md a0
 ·exact z
 cases Z178.md a1
 ·exact z
 cases ((a0.getD 0 aa.zero).an.aX != (a1.getD 0 aa.zero).an.aX)
 case true=>exact z
 cases h1:Z232.md a0 a1
 case true=>exact z
 cases h2:Z232.md a1 a0
 case true=>exact z
 rw [Z232.br] at h1 h2
 obtain ⟨h3,h4,_⟩:=Z92.qk h1 h2
 exact Z92.zA hg.1 hg.2 h3 h4
def br (a0 a1:List aa):md a0 a1=Z92.md a0 a1:=by
 unfold md Z92.md
 simp only [Z178.br,Z232.br,Z231.md_eq,Z89.md_eq]
end Z234
namespace Z235
def F (x0:aW)(x1:aq):aD:=(call (Z133.R x0) fun v1=>(call (Z233.R (x0,x1)) fun v2=>(cond (v2==1) (cond ((x0.ay.length:Int)>=8) (ret ((v1,6):aW×Int)) (call (Z131.R x1) fun v3=>(cA (eK ((v1.ay.length+1)*24)) (ret (((⟨(v1.ay++[[L.sl v3]]),v1.aY⟩),v2):aW×Int))))) (cond (v2==3) (cA ((0:Int)<x1.length) (call (Z230.R (x0,(aU.at x1 0).an.aX)) fun v4=>(call (Z131.R x1) fun v5=>(m2 v4 v1.ay.length (ret (((⟨(List.set v1.ay (toNat v4) [L.sl v5]),v1.aY⟩),v2):aW×Int)))))) (cond (v2==5) (cA ((0:Int)<x1.length) (call (Z230.R (x0,(aU.at x1 0).an.aX)) fun v6=>(m2 v6 x0.ay.length (call (Z234.R ((rK x0.ay (toNat v6)),x1)) fun v7=>(cond v7.2 (cond ((x0.aY.length:Int)<8) (cA (eK ((v1.aY.length+1)*600)) (ret (((⟨v1.ay,(v1.aY++[(cB.enc v7.1)])⟩),v2):aW×Int))) (ret ((v1,v2):aW×Int))) (ret ((v1,v2):aW×Int))))))) (ret ((v1,v2):aW×Int)))))))
def md (a0:ak)(a1:List aa):ak×Int:=(cond ((Z233.md a0 a1)==1) (cond ((a0.ay.length:Int)>=8) (a0,6) ((⟨(a0.ay++[a1]),a0.aY⟩),(Z233.md a0 a1))) (cond ((Z233.md a0 a1)==3) ((⟨(List.set a0.ay (toNat (Z230.md a0 (((a1.getD 0 aa.zero).an).aX))) a1),a0.aY⟩),(Z233.md a0 a1)) (cond ((Z233.md a0 a1)==5) (cond ((Z234.md (a0.ay.getD (toNat (Z230.md a0 (((a1.getD 0 aa.zero).an).aX))) []) a1).2) (cond ((a0.aY.length:Int)<8) ((⟨a0.ay,(a0.aY++[(Z234.md (a0.ay.getD (toNat (Z230.md a0 (((a1.getD 0 aa.zero).an).aX))) []) a1).1])⟩),(Z233.md a0 a1)) (a0,(Z233.md a0 a1))) (a0,(Z233.md a0 a1))) (a0,(Z233.md a0 a1)))))
def gd (a0:ak)(a1:List aa):Prop:=(ak.Sm (2^21) a0)/\(bg (2^21) (fun y:aa=>aa.Sm (2^21) y) a1)
def R:=cI gd md
def aj {a0 a1}(h:gd a0 a1):R ((ak.r a0),(a1.map aa.row))=some ((ak.r (md a0 a1).1),(md a0 a1).2):=cH h
def aM:=CN [.agg wg,pL 53] (.gW [(true,f36),(false,[fI])]) RT.dec R
def bn (a0)(a1)(hg:gd a0 a1):F (ak.r a0) (a1.map aa.row)=ret ((ak.r (md a0 a1).1),(md a0 a1).2):=by
 obtain ⟨H0,H1⟩:=hg
 refine ct (Z133.aj H0) ?_
 simp only [SS]
 refine ct (Z233.aj ⟨H0,H1⟩) ?_
 have fv2_:=Z233.fa a0 a1
 refine bM (fun b:ak×Int=>ret (((ak.r b.1),b.2):aW×Int)) (fun c1=>?_) (fun c1=>?_)
 ·refine bM (fun b:ak×Int=>ret (((ak.r b.1),b.2):aW×Int)) (fun c2=>fz) (fun c2=>?_)
  refine ct (Z131.aj H1) (aG (have:=(H0.1).1;lm) ?_)
  exact fz
 ·refine bM (fun b:ak×Int=>ret (((ak.r b.1),b.2):aW×Int)) (fun c3=>?_) (fun c3=>?_)
  ·have dc3:=c3
   simp only [DC] at dc3
   refine aG dt (ct (Z230.aj H0) ?_)
   have fv4_:=Z230.fa a0 (((a1.getD 0 aa.zero).an).aX)
   refine ct (Z131.aj H1) (aG dt ?_)
   exact aG (have:=(H0.1).1;dt) fz
  ·refine bM (fun b:ak×Int=>ret (((ak.r b.1),b.2):aW×Int)) (fun c4=>?_) (fun c4=>fz)
   have dc4:=c4
   simp only [DC] at dc4
   refine aG dt (ct (Z230.aj H0) ?_)
   have fv6_:=Z230.fa a0 (((a1.getD 0 aa.zero).an).aX)
   refine aG dt (aG (have:=(H0.1).1;dt) ?_)
   refine ct (Z234.aj ⟨(bg.getD H0.1 (by omega)),H1⟩) (bM (fun b:ak×Int=>ret (((ak.r b.1),b.2):aW×Int)) (fun c5=>?_) (fun c5=>fz))
   exact bM (fun b:ak×Int=>ret (((ak.r b.1),b.2):aW×Int)) (fun c6=>aG (have:=(H0.2).1;lm) fz) (fun c6=>fz)
def af:cj 22 aM:=W2 77 F mix az bn (xC Z133.af Z233.af Z131.af Z230.af Z234.af) Tryz.func22
def fo {a0:ak}{a1:List aa}(hg:gd a0 a1):ak.Sm (2^21) ((md a0 a1).1):=by
 unfold gd at hg;unfold md
 obtain ⟨⟨h1,h2⟩,h3⟩:=hg
 simp only [Bool.cond_eq_ite]
 repeat' split
 all_goals (try simp only [decide_eq_true_eq,ge_iff_le] at *)
 all_goals first
  | exact ⟨h1,h2⟩
  | exact ⟨bg.app (a:=7) (b:=1) ⟨by omega,h1.2⟩ (bg.one h3) (by decide),h2⟩
  | exact ⟨bg.set h1 h3,h2⟩
  | exact ⟨h1,bg.app (a:=7) (b:=1) ⟨by omega,h2.2⟩ (bg.one (Z234.fo ⟨bg.yg h1 bg.nil,h3⟩)) (by decide)⟩
def br (a0:ak)(a1:List aa):md a0 a1=Z93.md a0 a1:=by
 unfold md Z93.md
 simp only [Z233.br,Z230.br,Z234.br]
end Z235
namespace Z236
inductive Pt where
 | p0 (a b:aq) (c d:Int)
def cM:Pt->List V
 | .p0 a b c d=>[.sl none 315 a,.sl none 315 b,.int .i64 c,.int .i64 d]
def step (J:Pt->aD):Pt->aD
 | .p0 a b c d=>(cond (d<c) (m2 d (a.length:Int) (m2 d (b.length:Int) (cond (!((((bE.at a (toNat d)).jJ:Int)==(bE.at b (toNat d)).jJ)&&((((bE.at a (toNat d)).pg:Int)==(bE.at b (toNat d)).pg)&&true))) eM (J (.p0 a b c (i64.wrap (d+1))))))) nS)
def start (J:Pt->aD)(x0 x1:aq):aD:=(cond (x0.length != (x1.length:Int)) (ret false) (J (.p0 x0 x1 x0.length 0)))
def live:Nat->Live:=gL [(4,jC [0,1,12,13])]
def md (a0 a1:List bE):Bool:=(bif (a0.length != (a1.length:Int)) then false else (eB (S:=Unit) (β:=Bool) (fun i2 s4=>(cond (!((((a0.getD i2 bE.zero).jJ)==(a1.getD i2 bE.zero).jJ)&&((((a0.getD i2 bE.zero).pg)==(a1.getD i2 bE.zero).pg)&&true))) (.inr false) (.inl ()))) (fun s4=>true) a0.length 0 ()))
def gd (a0 a1:List bE):Prop:=(bg (2^21) (fun y:bE=>bE.Sm (2^21) y) a0)/\(bg (2^21) (fun y:bE=>bE.Sm (2^21) y) a1)
def R:=cI gd md
def aj {a0 a1}(h:gd a0 a1):R ((a0.map bE.row),(a1.map bE.row))=some (md a0 a1):=cH h
def aM:=CN [pL 315,pL 315] oB RT.dec R
def bn (a0)(a1)(hg:gd a0 a1):∃n,start (iter step n) (a0.map bE.row) (a1.map bE.row)=ret (md a0 a1):=by
 obtain ⟨H0,H1⟩:=hg
 unfold start md
 simp only [SS]
 refine gE ret (fun _=>⟨0,rfl⟩) (fun c1=>?_)
 have dc1:=c1
 simp only [DC] at dc1
 have Bh3:=bl H0
 refine dy fz (bH (pt:=fun (i2:Nat) (s4:Unit)=>Pt.p0 (a0.map bE.row) (a1.map bE.row) (a0.length:Int) (i2:Int)) (fun _ _=>True) (fun J i2 s4 h3 hih3=>?_) (fun s4 hih3=>?_) trivial)
 ·simp only [step,SS]
  refine aP.yes dt (aP.yes bB ?_)
  refine aP.yes (bQ h3) (aP.yes bB ?_)
  refine aP.yes dt (aP.bif (fun _=>aP.inr rfl) (fun c5=>?_))
  refine aP.inl trivial ?_
  rw [aF h3 Bh3]
 ·simp only [step,SS]
  refine cL dn (⟨0,?_⟩)
  exact fz
def af:cj 293 aM:=L2 26 (fun _=>4) cM (fun _=>[]) live step start mix az bn .nil Tryz.func293
def md_eq (a0 a1:List bE):md a0 a1=iV a0 a1:=by
 refine iR (bE.zero) (fun i s h h2=>?_) (fun s=>rfl)
 simp only [bne,jQ,bool_beq,gp,bE.eqc]
 cases iV _ _<;>rfl
end Z236
namespace Z237
def F (x0 x1:aU):aD:=(call (Z231.R (x0.an,x1.an)) fun v1=>(cond v1 (call (Z236.R (x0.dR,x1.dR)) fun v2=>ret v2) (ret false)))
def md (a0 a1:aa):Bool:=(cond (Z231.md a0.an a1.an) ((Z236.md a0.dR a1.dR)) false)
def gd (a0 a1:aa):Prop:=(aa.Sm (2^21) a0)/\(aa.Sm (2^21) a1)
def R:=cI gd md
def aj {a0 a1}(h:gd a0 a1):R ((aa.r a0),(aa.r a1))=some (md a0 a1):=cH h
def aM:=CN [.agg wh,.agg wh] oB RT.dec R
def bn (a0)(a1)(hg:gd a0 a1):F (aa.r a0) (aa.r a1)=ret (md a0 a1):=by
 obtain ⟨H0,H1⟩:=hg
 refine ct (Z231.aj ⟨H0.1,H1.1⟩) (bs (fun c1=>?_) (fun _=>rfl))
 exact ct (Z236.aj ⟨H0.2,H1.2⟩) fz
def af:cj 218 aM:=W2 17 F mix az bn (fc Z231.af Z236.af) Tryz.func218
def md_eq (a0 a1:aa):md a0 a1=iV a0 a1:=by
 unfold md
 cases a0;cases a1
 rw [Bool.eq_iff_iff]
 simp [dO,gp,aa.mk.injEq,Z231.md_eq,Z236.md_eq]
end Z237
namespace Z238
def F (x0:cB):aD:=(call (Z231.R (x0.fA.an,x0.fB.an)) fun v1=>(cond v1 (ret false) (call (Z237.R (x0.bp,(⟨(⟨0,0,0,0,0,0,0,0,(⟨[],0⟩),(⟨[],0⟩),0,(⟨[],0⟩),false⟩),[]⟩))) fun v2=>(cond v2 (call (Z166.R x0.fA) fun v3=>(cond v3 (call (Z166.R x0.fB) fun v4=>(cond v4 (ret ((x0.fA.an.aX==x0.fB.an.aX))) (ret false))) (ret false))) (call (Z176.R (x0.bp.an,x0.fA)) fun v5=>(cond v5 (call (Z176.R (x0.bp.an,x0.fB)) fun v6=>ret v6) (ret false)))))))
def md (a0:aN):Bool:=(cond (Z231.md a0.fA.an a0.fB.an) false (cond (Z237.md a0.bp (⟨(⟨0,0,0,0,0,0,0,0,(⟨[],0⟩),(⟨[],0⟩),0,(⟨[],0⟩),false⟩),[]⟩)) (cond (Z166.md a0.fA) (cond (Z166.md a0.fB) ((a0.fA.an.aX==a0.fB.an.aX)) false) false) (cond (Z176.md a0.bp.an a0.fA) ((Z176.md a0.bp.an a0.fB)) false)))
def gd (a0:aN):Prop:=(aN.Sm (2^21) a0)
def R:=RR gd md
def aj {a0}(h:gd a0):R (aN.r a0)=some (md a0):=cQ h
def aM:=CN [.agg vK] oB RT.dec R
def bn (a0)(H0:gd a0):F (aN.r a0)=ret (md a0):=by
 refine ct (Z231.aj ⟨H0.2.1.1,H0.2.2.1⟩) (bs (fun _=>rfl) (fun c1=>?_))
 refine ct (Z237.aj (a1:=(⟨(⟨0,0,0,0,0,0,0,0,(⟨[],0⟩:aL),(⟨[],0⟩:aL),0,(⟨[],0⟩:aL),false⟩:au),[]⟩:aa)) ⟨H0.1,⟨⟨bg.nil,bg.nil,bg.nil⟩,bg.nil⟩⟩) (bs (fun c2=>?_) (fun c2=>?_))
 ·refine ct (Z166.aj H0.2.1) (bs (fun c3=>?_) (fun _=>rfl))
  refine ct (Z166.aj H0.2.2) (bs (fun c4=>?_) (fun _=>rfl))
  exact fz
 ·refine ct (Z176.aj ⟨H0.1.1,H0.2.1⟩) (bs (fun c5=>?_) (fun _=>rfl))
  exact ct (Z176.aj ⟨H0.1.1,H0.2.2⟩) fz
def af:cj 131 aM:=W1 49 F mix az bn (nP Z231.af Z237.af Z166.af Z176.af) Tryz.func131
def br (a0:aN):md a0=Z119.md a0:=by
 unfold md Z119.md
 simp only [Z166.br,Z176.br,Z231.md_eq,Z237.md_eq,Z89.md_eq,Z118.md_eq]
end Z238
namespace Z239
def F (x0:cB):aD:=(call (Z238.R x0) fun v1=>(cond (!v1) mV (ret x0.fA.an.aX)))
def md (a0:aN):Int:=(cond (!(Z238.md a0)) ((-1):Int) a0.fA.an.aX)
def gd (a0:aN):Prop:=(aN.Sm (2^21) a0)
def R:=RR gd md
def aj {a0}(h:gd a0):R (aN.r a0)=some (md a0):=cQ h
def aM:=CN [.agg vK] oI RT.dec R
def bn (a0)(H0:gd a0):F (aN.r a0)=ret (md a0):=by
 refine ct (Z238.aj H0) (bs (fun _=>rfl) (fun c1=>?_))
 exact fz
def af:cj 136 aM:=W1 10 F mix az bn (cO Z238.af) Tryz.func136
def br (a0:aN):md a0=Z120.md a0:=by
 unfold md Z120.md
 simp only [Z238.br]
end Z239
namespace Z240
def F (x0:cB)(x1:List L):aD:=(call (Z239.R x0) fun v1=>ret ((v1==(gN x1))))
def pats:List fF:=[.agg [aE,aE,aE,aE,aE,aE,aE,aE,.sl 3,aE,.sl 3,aE,aE,.sl 3,aE,.bool,.sl 315,aE,aE,aE,aE,aE,aE,aE,aE,.sl 3,aE,.sl 3,aE,aE,.sl 3,aE,.bool,.sl 315,aE,aE,aE,aE,aE,aE,aE,aE,.sl 3,aE,.sl 3,aE,aE,.sl 3,aE,.bool,.sl 315],.ptr [aE]]
def res:RP:=.one (.rd (.bool))
def md (a0:aN)(a1:Int):Bool:=(((Z239.md a0)==a1))
def gd (a0:aN)(a1:Int):Prop:=(aN.Sm (2^21) a0)
def acc (ls:List L):cB×Int:=((cB.dec ls),(gN (ck 1 (bA 51 ls))))
def R:(cB×Int)->Option Bool:=cI gd md
def aj {a0 a1}(h:gd a0 a1):R ((aN.r a0),a1)=some (md a0 a1):=cH h
def aM:gj:=CN pats res acc R
def bn (a0:aN)(a1:Int)(p1:List L)(e1:a1=(gN p1))(H0:gd a0 a1):F (aN.r a0) p1=ret ((md a0 a1):Bool):=by
 unfold F md
 simp only [SS,<-e1]
 exact ct (Z239.aj H0) fz
def qH (ls:List L)(a:aN×Int)(e:acc ls=Im.im a)(hg:(p2 gd) a):∃n:Nat,F (cB.dec ls) (ck 1 (bA 51 ls))=ret (Im.im ((u2 md) a)):=by
 have e0:(aN.r a.1)=(cB.dec ls):=(congrArg (fun x=>x.1) e.symm)
 have hn:=bn a.1 a.2 (ck 1 (bA 51 ls)) (congrArg (fun x=>x.2) e.symm) hg
 refine ⟨0,?_⟩
 rw [<-e0]
 exact hn
def af:cj 135 aM:=VP (live:=fun _=>[]) (nt:=8) (accr:=fun ls=>((cB.dec ls),(ck 1 (bA 51 ls)))) (run:=fun _ x=>F x.1 x.2) mix az (cO Z239.af) Tryz.func135 (by kernel_rfl) (fun _ _=>by kernel_rfl) (fun ls a _ e hg=>qH ls a e hg)
end Z240
namespace Z241
inductive Pt where
 | p0 (a:aq) (b:List L) (c d:Int)
def pid:Pt->Nat
 | .p0 ..=>2
def cM:Pt->List V
 | .p0 a b c d=>[.sl none 170 a,.fn 135 [.cS none [aE] b 0],.int .i64 c,.int .i64 d]
def dQ:Pt->List aK
 | .p0 a b c d=>[]
def step (J:Pt->aD):Pt->aD
 | .p0 a b c d=>(cond (d<c) (m2 d (a.length:Int) (call (Z240.R ((cB.at a (toNat d)),(gN b))) fun v1=>(cond v1 (ret (d:Int)) (J (.p0 a b c (i64.wrap (d+1))))))) mV)
def start (J:Pt->aD)(x0:aq)(x1:List L):aD:=J (.p0 x0 x1 x0.length 0)
def live:Nat->Live:=gL [(2,jC [0,1,7,8])]
def pats:List fF:=[.rd (.sl 170),.fn 135 [[aE]]]
def res:RP:=.one (.rd (.int .i64))
abbrev E:Env:={ T:=assoc mC,G:=cZ [(135,Z240.aM)],nt:=19 }
def step_eq (I:dD)(p:Pt):dU E live I (pid p) (bL Tryz.f221) (iT (live (pid p)) (cM p) (dQ p)) (dA E Tryz.f221 res)=step (fun q=>I (pid q) (cM q) (dQ q)) p:=by
 cases p<;>kernel_rfl
def start_eq (I:dD)(ls:List L):gO E live I (bL Tryz.f221) (dJ pats ls) (dA E Tryz.f221 res)=start (fun q=>I (pid q) (cM q) (dQ q)) (eU ls) (ck 1 (bA 1 ls)):=by kernel_rfl
def run_eq (n:Nat)(ls:List L):eY E live Tryz.f221 res n (dJ pats ls)=start (iter step n) (eU ls) (ck 1 (bA 1 ls)):=dI (id:=pid) (vs:=cM) (hs:=dQ) (step:=step) (start:=fun J=>start J (eU ls) (ck 1 (bA 1 ls))) step_eq (fun I=>start_eq I ls) n
def md (a0:List aN)(a1:Int):Int:=(dY (S:=Unit) (β:=Int) (fun i1 y1 s3=>(cond (Z240.md y1 a1) (.inr (i1)) (.inl ()))) (fun s3=>((-1):Int)) 0 a0 ())
def gd (a0:List aN)(a1:Int):Prop:=(bg (2^21) (fun y:aN=>aN.Sm (2^21) y) a0)
def acc (ls:List L):aq×Int:=((eU ls),(gN (ck 1 (bA 1 ls))))
def R:(aq×Int)->Option Int:=cI gd md
def aj {a0 a1}(h:gd a0 a1):R ((a0.map aN.row),a1)=some (md a0 a1):=cH h
def aM:gj:=CN pats res acc R
def bn (a0:List aN)(a1:Int)(p1:List L)(e1:a1=(gN p1))(H0:gd a0 a1):∃n,start (iter step n) (a0.map aN.row) p1=ret ((md a0 a1):Int):=by
 have Bh2:=bl H0
 refine ex_eq (cK (z:=aN.zero)) (dy (p:=Pt.p0 (a0.map aN.row) p1 (a0.length:Int) 0) fz ?_)
 refine bH (pt:=fun (i1:Nat) (s3:Unit)=>Pt.p0 (a0.map aN.row) p1 (a0.length:Int) (i1:Int)) (fun _ _=>True) (fun J i1 s3 h2 hih2=>?_) (fun s3 hih2=>?_) trivial
 ·simp only [step,SS,<-e1]
  refine aP.yes dt (aP.yes bB ?_)
  refine aP.yes (bQ h2) (cr (Z240.aj (bg.getD H0 h2)) ?_)
  refine aP.bif (fun c4=>aP.inr fz) (fun c4=>?_)
  refine aP.inl trivial ?_
  rw [aF h2 Bh2]
 ·simp only [step,SS,<-e1]
  refine cL dn (⟨0,?_⟩)
  exact fz
def qH (ls:List L)(a:List aN×Int)(e:acc ls=Im.im a)(hg:(p2 gd) a):∃n:Nat,start (iter step n) ((eU ls)) (ck 1 (bA 1 ls))=ret (Im.im ((u2 md) a)):=by
 have e0:(a.1.map aN.row)=(eU ls):=(congrArg (fun x=>x.1) e.symm)
 obtain ⟨n,hn⟩:=bn a.1 a.2 (ck 1 (bA 1 ls)) (congrArg (fun x=>x.2) e.symm) hg
 refine ⟨n,?_⟩
 rw [<-e0]
 exact hn
def af:cj 221 aM:=VP (accr:=fun ls=>((eU ls),(ck 1 (bA 1 ls)))) (run:=fun n x=>start (iter step n) x.1 x.2) mix az (cO Z240.af) Tryz.func221 (by kernel_rfl) run_eq (fun ls a _ e hg=>qH ls a e hg)
def idx_eq (a0:List aN)(a1:Int):md a0 a1=iD (fun y=>Z240.md y a1) 0 a0:=jg
end Z241
namespace Z242
def F (x0:aq)(x1:List L):aD:=(call (Z241.R (x0,(gN x1))) fun v1=>ret ((decide (v1>=0))))
def pats:List fF:=[.rd (.sl 170),.fn 135 [[aE]]]
def res:RP:=.one (.rd (.bool))
def md (a0:List aN)(a1:Int):Bool:=((decide ((Z241.md a0 a1)>=0)))
def gd (a0:List aN)(a1:Int):Prop:=(bg (2^21) (fun y:aN=>aN.Sm (2^21) y) a0)
def acc (ls:List L):aq×Int:=((eU ls),(gN (ck 1 (bA 1 ls))))
def R:(aq×Int)->Option Bool:=cI gd md
def aj {a0 a1}(h:gd a0 a1):R ((a0.map aN.row),a1)=some (md a0 a1):=cH h
def aM:gj:=CN pats res acc R
def bn (a0:List aN)(a1:Int)(p1:List L)(e1:a1=(gN p1))(H0:gd a0 a1):F (a0.map aN.row) p1=ret ((md a0 a1):Bool):=by
 unfold F md
 simp only [SS,<-e1]
 exact ct (Z241.aj H0) fz
def qH (ls:List L)(a:List aN×Int)(e:acc ls=Im.im a)(hg:(p2 gd) a):∃n:Nat,F ((eU ls)) (ck 1 (bA 1 ls))=ret (Im.im ((u2 md) a)):=by
 have e0:(a.1.map aN.row)=(eU ls):=(congrArg (fun x=>x.1) e.symm)
 have hn:=bn a.1 a.2 (ck 1 (bA 1 ls)) (congrArg (fun x=>x.2) e.symm) hg
 refine ⟨0,?_⟩
 rw [<-e0]
 exact hn
def af:cj 129 aM:=VP (live:=fun _=>[]) (nt:=9) (accr:=fun ls=>((eU ls),(ck 1 (bA 1 ls)))) (run:=fun _ x=>F x.1 x.2) mix az (cO Z241.af) Tryz.func129 (by kernel_rfl) (fun _ _=>by kernel_rfl) (fun ls a _ e hg=>qH ls a e hg)
def any_eq (a0:List aN)(a1:Int):md a0 a1=a0.any (fun y=>Z240.md y a1):=by
 unfold md
 rw [Z241.idx_eq]
 exact rX
end Z242
namespace Z243
def F (x0:aW)(x1:Int):aD:=(cond (x1>=0) (call (Z242.R (x0.aY,x1)) fun v1=>ret v1) (ret false))
def md (a0:ak)(a1:Int):Bool:=(cond (a1>=0) ((Z242.md a0.aY a1)) false)
def gd (a0:ak)(a1:Int):Prop:=(ak.Sm (2^21) a0)
def R:=cI gd md
def aj {a0 a1}(h:gd a0 a1):R ((ak.r a0),a1)=some (md a0 a1):=cH h
def aM:=CN [.agg wg,pI] oB RT.dec R
def bn (a0)(a1)(H0:gd a0 a1):F (ak.r a0) a1=ret (md a0 a1):=by
 refine bs (fun c1=>?_) (fun _=>rfl)
 exact ct (Z242.aj H0.2) fz
def af:cj 29 aM:=W2 13 F mix az bn (cO Z242.af) Tryz.func29
def br (a0:ak)(a1:Int):md a0 a1=Z121.md a0 a1:=by
 unfold md Z121.md
 rw [Z242.any_eq]
 rw [oK (p:=fun y=>(Z120.md y==a1)&&decide (a1>=0)) (fun x s=>by
  cases (Z120.md x==a1)<;>cases decide (a1>=0)<;>rfl) a0.aY ()]
 have e:(fun y=>Z240.md y a1)=fun y=>Z120.md y==a1:=by
  funext y
  unfold Z240.md
  rw [Z239.br]
 rw [e]
 cases decide (a1>=0)
 ·simp
 ·simp
end Z243
namespace Z244
abbrev E (n:Nat):Env:={ T:=assoc mC,G:=cZ [(147,Z227.aM),(128,Z178.aM),(22,Z235.aM),(219,Z134.aM),(29,Z243.aM)],nt:=74,M:=ff [],np:=n,I:=gy [] }
def ic (n:Nat):gA:=inl (E n) Tryz.f260
def bR (n:Nat):dX Tryz.prog Ev n 260 (ic n):=yO (mt:=false) mix az (xC Z227.af Z178.af Z235.af Z134.af Z243.af) .nil .nil Tryz.func260 (by kernel_rfl)
end Z244
namespace Z245
inductive Pt where
 | p0 (a:Int) (b:av) (c:Int) (d:aq) (e f:Int) (g:Bool) (h:av) (i j:Int) (k l:Bool) (m:av) (n o:Int) (p:Bool) (q s t:aq)
def pid:Pt->Nat
 | .p0 ..=>3
def cM:Pt->List V
 | .p0 a b c d e f g h i j k l m n o p q s t=>[.int .i64 a,.str b,.int .i64 c,.bP 0 0,.bP 1 0,.sl none 68 d,.int .i64 e,.int .i64 f,.bP 1 0]
def dQ:Pt->List aK
 | .p0 a b c d e f g h i j k l m n o p q s t=>[.box [.nil,.nil,.bool g,.str h,.int .i64 i,.int .i64 j,.nil,.bool k,.nil],.box [.own 2,.own 3,.bool l,.str m,.int .i64 n,.int .i64 o,.nil,.bool p,.own 4],.row 37 q,.row 170 s,.row 3 t]
def step (J:Pt->aD):Pt->aD
 | .p0 a b c d e f g h i j k l m n o p q s t=>(cond (f<e) (m2 f (d.length:Int) (call (Z227.R (a,b,(bw.at d (toNat f)),c)) fun v1=>(call (Z178.R ((bw.at d (toNat f)).aC)) fun v2=>(cond v2 (cA ((0:Int)<((bw.at d (toNat f)).aC.length:Int)) (cond ((aU.at ((bw.at d (toNat f)).aC) 0).an.aX==a) (call (Z235.R ((⟨q,s⟩:aW),(bw.at d (toNat f)).aC)) fun v3=>(call (Z134.R (v3.2,1,3)) fun v4=>(cond v4 (call (Z243.R (v3.1,a)) fun v5=>(cond (v1==1) (cond (!(!v5)) (cA (eK (((t.length:Int)+1)*8)) (J (.p0 a b c d e (i64.wrap (f+1)) g h i j k l m n o p v3.1.ay v3.1.aY (t++[[L.int 3]])))) (cA (eK (((t.length:Int)+1)*8)) (cond (v1==1) (call (Z206.R ((bw.at d (toNat f)).aJ)) fun v6=>ret (((⟨v3.1,(bw.at d (toNat f)).bK,v6,true,(t++[[L.int v1]])⟩:cP),f):cP×Int)) (J (.p0 a b c d e (i64.wrap (f+1)) g h i j k l m n o p v3.1.ay v3.1.aY (t++[[L.int v1]])))))) (cA (eK (((t.length:Int)+1)*8)) (cond (v1==1) (call (Z206.R ((bw.at d (toNat f)).aJ)) fun v7=>ret (((⟨v3.1,(bw.at d (toNat f)).bK,v7,true,(t++[[L.int v1]])⟩:cP),f):cP×Int)) (J (.p0 a b c d e (i64.wrap (f+1)) g h i j k l m n o p v3.1.ay v3.1.aY (t++[[L.int v1]]))))))) (cond (v1==1) (cA (eK (((t.length:Int)+1)*8)) (J (.p0 a b c d e (i64.wrap (f+1)) g h i j k l m n o p v3.1.ay v3.1.aY (t++[[L.int 3]])))) (cA (eK (((t.length:Int)+1)*8)) (cond (v1==1) (call (Z206.R ((bw.at d (toNat f)).aJ)) fun v8=>ret (((⟨v3.1,(bw.at d (toNat f)).bK,v8,true,(t++[[L.int v1]])⟩:cP),f):cP×Int)) (J (.p0 a b c d e (i64.wrap (f+1)) g h i j k l m n o p v3.1.ay v3.1.aY (t++[[L.int v1]]))))))))) (call (Z134.R (6,1,3)) fun v9=>(cond v9 (call (Z243.R ((⟨q,s⟩:aW),a)) fun v10=>(cond (v1==1) (cond (!(!v10)) (cA (eK (((t.length:Int)+1)*8)) (J (.p0 a b c d e (i64.wrap (f+1)) g h i j k l m n o p q s (t++[[L.int 3]])))) (cA (eK (((t.length:Int)+1)*8)) (cond (v1==1) (call (Z206.R ((bw.at d (toNat f)).aJ)) fun v11=>ret (((⟨(⟨q,s⟩:aW),(bw.at d (toNat f)).bK,v11,true,(t++[[L.int v1]])⟩:cP),f):cP×Int)) (J (.p0 a b c d e (i64.wrap (f+1)) g h i j k l m n o p q s (t++[[L.int v1]])))))) (cA (eK (((t.length:Int)+1)*8)) (cond (v1==1) (call (Z206.R ((bw.at d (toNat f)).aJ)) fun v12=>ret (((⟨(⟨q,s⟩:aW),(bw.at d (toNat f)).bK,v12,true,(t++[[L.int v1]])⟩:cP),f):cP×Int)) (J (.p0 a b c d e (i64.wrap (f+1)) g h i j k l m n o p q s (t++[[L.int v1]]))))))) (cond (v1==1) (cA (eK (((t.length:Int)+1)*8)) (J (.p0 a b c d e (i64.wrap (f+1)) g h i j k l m n o p q s (t++[[L.int 3]])))) (cA (eK (((t.length:Int)+1)*8)) (cond (v1==1) (call (Z206.R ((bw.at d (toNat f)).aJ)) fun v13=>ret (((⟨(⟨q,s⟩:aW),(bw.at d (toNat f)).bK,v13,true,(t++[[L.int v1]])⟩:cP),f):cP×Int)) (J (.p0 a b c d e (i64.wrap (f+1)) g h i j k l m n o p q s (t++[[L.int v1]])))))))))) (call (Z134.R (6,1,3)) fun v14=>(cond v14 (call (Z243.R ((⟨q,s⟩:aW),a)) fun v15=>(cond (v1==1) (cond (!(!v15)) (cA (eK (((t.length:Int)+1)*8)) (J (.p0 a b c d e (i64.wrap (f+1)) g h i j k l m n o p q s (t++[[L.int 3]])))) (cA (eK (((t.length:Int)+1)*8)) (cond (v1==1) (call (Z206.R ((bw.at d (toNat f)).aJ)) fun v16=>ret (((⟨(⟨q,s⟩:aW),(bw.at d (toNat f)).bK,v16,true,(t++[[L.int v1]])⟩:cP),f):cP×Int)) (J (.p0 a b c d e (i64.wrap (f+1)) g h i j k l m n o p q s (t++[[L.int v1]])))))) (cA (eK (((t.length:Int)+1)*8)) (cond (v1==1) (call (Z206.R ((bw.at d (toNat f)).aJ)) fun v17=>ret (((⟨(⟨q,s⟩:aW),(bw.at d (toNat f)).bK,v17,true,(t++[[L.int v1]])⟩:cP),f):cP×Int)) (J (.p0 a b c d e (i64.wrap (f+1)) g h i j k l m n o p q s (t++[[L.int v1]]))))))) (cond (v1==1) (cA (eK (((t.length:Int)+1)*8)) (J (.p0 a b c d e (i64.wrap (f+1)) g h i j k l m n o p q s (t++[[L.int 3]])))) (cA (eK (((t.length:Int)+1)*8)) (cond (v1==1) (call (Z206.R ((bw.at d (toNat f)).aJ)) fun v18=>ret (((⟨(⟨q,s⟩:aW),(bw.at d (toNat f)).bK,v18,true,(t++[[L.int v1]])⟩:cP),f):cP×Int)) (J (.p0 a b c d e (i64.wrap (f+1)) g h i j k l m n o p q s (t++[[L.int v1]])))))))))))) (ret (((⟨(⟨q,s⟩:aW),l,(⟨m,n,o,[]⟩:bk),p,t⟩:cP),(-1)):cP×Int)))
def start (J:Pt->aD)(x0:aW)(x1:aq)(x2:Int)(x3:av)(x4:Int):aD:=(call (Z133.R x0) fun v1=>J (.p0 x2 x3 x4 x1 x1.length 0 false ⟨#[]⟩ 0 0 false false ⟨#[]⟩ 0 0 false v1.ay v1.aY []))
def live:Nat->Live:=gL [(3,[(2,none),(3,none),(4,none),(10,none),(12,none),(18,none),(19,none),(20,none),(12,some 8388611)])]
def pats:List fF:=[.agg [.sl 37,.sl 170],.rd (.sl 68),.rd (.int .i64),.rd (.str),.rd (.int .i64)]
def res:RP:=.gW [(true,[.fr 37,.fr 170,.rd (.bool),.rd (.str),.rd (.int .i64),.rd (.int .i64),.fr 9,.rd (.bool),.fr 3]),(false,[.rd (.int .i64)])]
abbrev E:Env:={ T:=assoc mC,G:=cZ [(116,Z133.aM),(170,Z206.aM)],nt:=42,M:=ff [],I:=gy [(260,Z244.ic 0)] }
def step_eq (I:dD)(p:Pt):dU E live I (pid p) (bL Tryz.f165) (iT (live (pid p)) (cM p) (dQ p)) (dA E Tryz.f165 res)=step (fun q=>I (pid q) (cM q) (dQ q)) p:=by
 cases p<;>kernel_rfl
def start_eq (I:dD)(ls:List L):gO E live I (bL Tryz.f165) (dJ pats ls) (dA E Tryz.f165 res)=start (fun q=>I (pid q) (cM q) (dQ q)) (aW.dec ls) (fP 2 ls) (cF 3 ls) (rL 4 ls) (cF 5 ls):=by kernel_rfl
def run_eq (n:Nat)(ls:List L):eY E live Tryz.f165 res n (dJ pats ls)=start (iter step n) (aW.dec ls) (fP 2 ls) (cF 3 ls) (rL 4 ls) (cF 5 ls):=dI (id:=pid) (vs:=cM) (hs:=dQ) (step:=step) (start:=fun J=>start J (aW.dec ls) (fP 2 ls) (cF 3 ls) (rL 4 ls) (cF 5 ls)) step_eq (fun I=>start_eq I ls) n
def md (a0:ak)(a1:List aA)(a2:Int)(a3:av)(a4:Int):bF×Int:=(dY (S:=List (List aa)×List aN×List Int) (β:=bF×Int) (fun i1 y1 (s3:List (List aa)×List aN×List Int)=>(cond (Z178.md (y1.aC)) (cond (((y1.aC.getD 0 aa.zero).an).aX==a2) (cond (Z134.md ((Z235.md (⟨s3.1,s3.2.1⟩) (y1.aC)).2) 1 3) (cond ((Z227.md a2 a3 y1 a4)==1) (cond (!(!(Z243.md ((Z235.md (⟨s3.1,s3.2.1⟩) (y1.aC)).1) a2))) (.inl ((Z235.md (⟨s3.1,s3.2.1⟩) (y1.aC)).1.ay,(Z235.md (⟨s3.1,s3.2.1⟩) (y1.aC)).1.aY,(s3.2.2++[3]))) (cond ((Z227.md a2 a3 y1 a4)==1) (.inr ((⟨(Z235.md (⟨s3.1,s3.2.1⟩) (y1.aC)).1,y1.bK,(y1.aJ),true,(s3.2.2++[(Z227.md a2 a3 y1 a4)])⟩),i1)) (.inl ((Z235.md (⟨s3.1,s3.2.1⟩) (y1.aC)).1.ay,(Z235.md (⟨s3.1,s3.2.1⟩) (y1.aC)).1.aY,(s3.2.2++[(Z227.md a2 a3 y1 a4)]))))) (cond ((Z227.md a2 a3 y1 a4)==1) (.inr ((⟨(Z235.md (⟨s3.1,s3.2.1⟩) (y1.aC)).1,y1.bK,(y1.aJ),true,(s3.2.2++[(Z227.md a2 a3 y1 a4)])⟩),i1)) (.inl ((Z235.md (⟨s3.1,s3.2.1⟩) (y1.aC)).1.ay,(Z235.md (⟨s3.1,s3.2.1⟩) (y1.aC)).1.aY,(s3.2.2++[(Z227.md a2 a3 y1 a4)]))))) (cond ((Z227.md a2 a3 y1 a4)==1) (.inl ((Z235.md (⟨s3.1,s3.2.1⟩) (y1.aC)).1.ay,(Z235.md (⟨s3.1,s3.2.1⟩) (y1.aC)).1.aY,(s3.2.2++[3]))) (cond ((Z227.md a2 a3 y1 a4)==1) (.inr ((⟨(Z235.md (⟨s3.1,s3.2.1⟩) (y1.aC)).1,y1.bK,(y1.aJ),true,(s3.2.2++[(Z227.md a2 a3 y1 a4)])⟩),i1)) (.inl ((Z235.md (⟨s3.1,s3.2.1⟩) (y1.aC)).1.ay,(Z235.md (⟨s3.1,s3.2.1⟩) (y1.aC)).1.aY,(s3.2.2++[(Z227.md a2 a3 y1 a4)])))))) (cond (Z134.md 6 1 3) (cond ((Z227.md a2 a3 y1 a4)==1) (cond (!(!(Z243.md (⟨s3.1,s3.2.1⟩) a2))) (.inl (s3.1,s3.2.1,(s3.2.2++[3]))) (cond ((Z227.md a2 a3 y1 a4)==1) (.inr ((⟨(⟨s3.1,s3.2.1⟩),y1.bK,(y1.aJ),true,(s3.2.2++[(Z227.md a2 a3 y1 a4)])⟩),i1)) (.inl (s3.1,s3.2.1,(s3.2.2++[(Z227.md a2 a3 y1 a4)]))))) (cond ((Z227.md a2 a3 y1 a4)==1) (.inr ((⟨(⟨s3.1,s3.2.1⟩),y1.bK,(y1.aJ),true,(s3.2.2++[(Z227.md a2 a3 y1 a4)])⟩),i1)) (.inl (s3.1,s3.2.1,(s3.2.2++[(Z227.md a2 a3 y1 a4)]))))) (cond ((Z227.md a2 a3 y1 a4)==1) (.inl (s3.1,s3.2.1,(s3.2.2++[3]))) (cond ((Z227.md a2 a3 y1 a4)==1) (.inr ((⟨(⟨s3.1,s3.2.1⟩),y1.bK,(y1.aJ),true,(s3.2.2++[(Z227.md a2 a3 y1 a4)])⟩),i1)) (.inl (s3.1,s3.2.1,(s3.2.2++[(Z227.md a2 a3 y1 a4)]))))))) (cond (Z134.md 6 1 3) (cond ((Z227.md a2 a3 y1 a4)==1) (cond (!(!(Z243.md (⟨s3.1,s3.2.1⟩) a2))) (.inl (s3.1,s3.2.1,(s3.2.2++[3]))) (cond ((Z227.md a2 a3 y1 a4)==1) (.inr ((⟨(⟨s3.1,s3.2.1⟩),y1.bK,(y1.aJ),true,(s3.2.2++[(Z227.md a2 a3 y1 a4)])⟩),i1)) (.inl (s3.1,s3.2.1,(s3.2.2++[(Z227.md a2 a3 y1 a4)]))))) (cond ((Z227.md a2 a3 y1 a4)==1) (.inr ((⟨(⟨s3.1,s3.2.1⟩),y1.bK,(y1.aJ),true,(s3.2.2++[(Z227.md a2 a3 y1 a4)])⟩),i1)) (.inl (s3.1,s3.2.1,(s3.2.2++[(Z227.md a2 a3 y1 a4)]))))) (cond ((Z227.md a2 a3 y1 a4)==1) (.inl (s3.1,s3.2.1,(s3.2.2++[3]))) (cond ((Z227.md a2 a3 y1 a4)==1) (.inr ((⟨(⟨s3.1,s3.2.1⟩),y1.bK,(y1.aJ),true,(s3.2.2++[(Z227.md a2 a3 y1 a4)])⟩),i1)) (.inl (s3.1,s3.2.1,(s3.2.2++[(Z227.md a2 a3 y1 a4)])))))))) (fun (s3:List (List aa)×List aN×List Int)=>((⟨(⟨s3.1,s3.2.1⟩),false,(⟨(⟨#[]⟩:av),0,0,[]⟩),false,s3.2.2⟩),(-1))) 0 a1 (a0.ay,a0.aY,[]))
def gd (a0:ak)(a1:List aA)(a2:Int)(a3:av)(a4:Int):Prop:=(ak.Sm (2^21) a0)/\(bg (2^21) (fun y:aA=>aA.Sm (2^21) y) a1)/\(a3.size<=(2^21))
def acc (ls:List L):aW×aq×Int×av×Int:=((aW.dec ls),(fP 2 ls),(cF 3 ls),(rL 4 ls),(cF 5 ls))
def R:(aW×aq×Int×av×Int)->Option (cP×Int):=sL gd md
def aj {a0 a1 a2 a3 a4}(h:gd a0 a1 a2 a3 a4):R ((ak.r a0),(a1.map aA.row),a2,a3,a4)=some ((bF.r (md a0 a1 a2 a3 a4).1),(md a0 a1 a2 a3 a4).2):=sR h
def aM:gj:=CN pats res acc R
def bn (a0:ak)(a1:List aA)(a2:Int)(a3:av)(a4:Int)(hg:gd a0 a1 a2 a3 a4):∃n,start (iter step n) (ak.r a0) (a1.map aA.row) a2 a3 a4=ret (((bF.r (md a0 a1 a2 a3 a4).1),(md a0 a1 a2 a3 a4).2):cP×Int):=by
 obtain ⟨H0,H1,H3⟩:=hg
 refine cx (Z133.aj H0) ?_
 have Bh2:=bl H1
 refine ex_eq (out:=(fun b:bF×Int=>ret (((bF.r b.1),b.2):cP×Int))) (cK (z:=aA.zero)) (dy (p:=Pt.p0 a2 a3 a4 (a1.map aA.row) (a1.length:Int) 0 false (⟨#[]⟩:av) 0 0 false false (⟨#[]⟩:av) 0 0 false (a0.ay.map (fR aa.row)) (a0.aY.map aN.row) ([].map aV)) fz ?_)
 refine bH (pt:=fun (i1:Nat) (s3:List (List aa)×List aN×List Int)=>Pt.p0 a2 a3 a4 (a1.map aA.row) (a1.length:Int) (i1:Int) false (⟨#[]⟩:av) 0 0 false false (⟨#[]⟩:av) 0 0 false (s3.1.map (fR aa.row)) (s3.2.1.map aN.row) (s3.2.2.map aV)) (s:=((a0.ay,a0.aY,[]):List (List aa)×List aN×List Int)) (out:=(fun b:bF×Int=>ret (((bF.r b.1),b.2):cP×Int))) (fun (i1:Nat) (s3:List (List aa)×List aN×List Int)=>ak.Sm (2^21) (⟨s3.1,s3.2.1⟩:ak)/\s3.2.2.length<=i1) (fun J i1 s3 h2 hih2=>?_) (fun s3 hih2=>?_) ⟨H0,zero_le _⟩
 ·simp only [step,SS]
  have:=(H1).1
  refine aP.yes dt (aP.yes bB ?_)
  refine aP.yes (bQ h2) (cr (Z227.aj ⟨H3,(bg.getD H1 h2)⟩) ?_)
  refine cr (Z178.aj (bg.getD H1 h2).1) (aP.bif (fun c4=>?_) (fun c4=>?_))
  ·have tc4:=Z178.tr (by simpa using c4)
   refine aP.yes (have:=((bg.getD (z:=aA.zero) H1 h2).1).1;dt) (aP.bif (fun c5=>?_) (fun c5=>?_))
   ·refine cr (Z235.aj ⟨⟨hih2.1.1,hih2.1.2⟩,(bg.getD H1 h2).1⟩) (cr (Z134.aj trivial) ?_)
    refine aP.bif (fun c6=>?_) (fun c6=>?_)
    ·refine cr (Z243.aj (Z235.fo ⟨⟨hih2.1.1,hih2.1.2⟩,(bg.getD H1 h2).1⟩)) (aP.bif (fun c7=>?_) (fun c7=>?_))
     ·refine aP.bif (fun c8=>?_) (fun c8=>?_)
      ·refine aP.yes lm (aP.inl (⟨Z235.fo ⟨hih2.1,(bg.getD H1 h2).1⟩,kX hih2.2⟩) ?_)
       rw [aF h2 Bh2]
       exact fz
      ·refine aP.yes lm (aP.bif (fun c9=>?_) (fun c9=>?_))
       ·refine cr (Z206.aj (bg.getD H1 h2).2.1) (aP.inr ?_)
        exact fz
       ·refine aP.inl (⟨Z235.fo ⟨hih2.1,(bg.getD H1 h2).1⟩,kX hih2.2⟩) ?_
        rw [aF h2 Bh2]
        exact fz
     ·refine aP.yes lm (aP.bif (fun c10=>?_) (fun c10=>?_))
      ·refine cr (Z206.aj (bg.getD H1 h2).2.1) (aP.inr ?_)
       exact fz
      ·refine aP.inl (⟨Z235.fo ⟨hih2.1,(bg.getD H1 h2).1⟩,kX hih2.2⟩) ?_
       rw [aF h2 Bh2]
       exact fz
    ·refine aP.bif (fun c11=>?_) (fun c11=>?_)
     ·refine aP.yes lm (aP.inl (⟨Z235.fo ⟨hih2.1,(bg.getD H1 h2).1⟩,kX hih2.2⟩) ?_)
      rw [aF h2 Bh2]
      exact fz
     ·refine aP.yes lm (aP.bif (fun c12=>?_) (fun c12=>?_))
      ·refine cr (Z206.aj (bg.getD H1 h2).2.1) (aP.inr ?_)
       exact fz
      ·refine aP.inl (⟨Z235.fo ⟨hih2.1,(bg.getD H1 h2).1⟩,kX hih2.2⟩) ?_
       rw [aF h2 Bh2]
       exact fz
   ·refine cr (Z134.aj trivial) (aP.bif (fun c13=>?_) (fun c13=>?_))
    ·refine cr (Z243.aj ⟨hih2.1.1,hih2.1.2⟩) (aP.bif (fun c14=>?_) (fun c14=>?_))
     ·refine aP.bif (fun c15=>?_) (fun c15=>?_)
      ·refine aP.yes lm (aP.inl (⟨hih2.1,kX hih2.2⟩) ?_)
       rw [aF h2 Bh2]
       exact fz
      ·refine aP.yes lm (aP.bif (fun c16=>?_) (fun c16=>?_))
       ·refine cr (Z206.aj (bg.getD H1 h2).2.1) (aP.inr ?_)
        exact fz
       ·refine aP.inl (⟨hih2.1,kX hih2.2⟩) ?_
        rw [aF h2 Bh2]
        exact fz
     ·refine aP.yes lm (aP.bif (fun c17=>?_) (fun c17=>?_))
      ·refine cr (Z206.aj (bg.getD H1 h2).2.1) (aP.inr ?_)
       exact fz
      ·refine aP.inl (⟨hih2.1,kX hih2.2⟩) ?_
       rw [aF h2 Bh2]
       exact fz
    ·refine aP.bif (fun c18=>?_) (fun c18=>?_)
     ·refine aP.yes lm (aP.inl (⟨hih2.1,kX hih2.2⟩) ?_)
      rw [aF h2 Bh2]
      exact fz
     ·refine aP.yes lm (aP.bif (fun c19=>?_) (fun c19=>?_))
      ·refine cr (Z206.aj (bg.getD H1 h2).2.1) (aP.inr ?_)
       exact fz
      ·refine aP.inl (⟨hih2.1,kX hih2.2⟩) ?_
       rw [aF h2 Bh2]
       exact fz
  ·refine cr (Z134.aj trivial) (aP.bif (fun c20=>?_) (fun c20=>?_))
   ·refine cr (Z243.aj ⟨hih2.1.1,hih2.1.2⟩) (aP.bif (fun c21=>?_) (fun c21=>?_))
    ·refine aP.bif (fun c22=>?_) (fun c22=>?_)
     ·refine aP.yes lm (aP.inl (⟨hih2.1,kX hih2.2⟩) ?_)
      rw [aF h2 Bh2]
      exact fz
     ·refine aP.yes lm (aP.bif (fun c23=>?_) (fun c23=>?_))
      ·refine cr (Z206.aj (bg.getD H1 h2).2.1) (aP.inr ?_)
       exact fz
      ·refine aP.inl (⟨hih2.1,kX hih2.2⟩) ?_
       rw [aF h2 Bh2]
       exact fz
    ·refine aP.yes lm (aP.bif (fun c24=>?_) (fun c24=>?_))
     ·refine cr (Z206.aj (bg.getD H1 h2).2.1) (aP.inr ?_)
      exact fz
     ·refine aP.inl (⟨hih2.1,kX hih2.2⟩) ?_
      rw [aF h2 Bh2]
      exact fz
   ·refine aP.bif (fun c25=>?_) (fun c25=>?_)
    ·refine aP.yes lm (aP.inl (⟨hih2.1,kX hih2.2⟩) ?_)
     rw [aF h2 Bh2]
     exact fz
    ·refine aP.yes lm (aP.bif (fun c26=>?_) (fun c26=>?_))
     ·refine cr (Z206.aj (bg.getD H1 h2).2.1) (aP.inr ?_)
      exact fz
     ·refine aP.inl (⟨hih2.1,kX hih2.2⟩) ?_
      rw [aF h2 Bh2]
      exact fz
 ·simp only [step,SS]
  refine cL dn (⟨0,?_⟩)
  exact fz
def af:cj 165 aM:=VI (mt:=false) (run:=fun n x=>start (iter step n) x.1 x.2.1 x.2.2.1 x.2.2.2.1 x.2.2.2.2) mix az (fc Z133.af Z206.af) .nil (.cons (Z244.bR 0) .nil) Tryz.func165 (by kernel_rfl) run_eq (fun _ a _ _ hg=>bn a.1 a.2.1 a.2.2.1 a.2.2.2.1 a.2.2.2.2 hg)
def sF (a0:ak)(a1:List aA)(a2:Int)(a3:av)(a4:Int):md a0 a1 a2 a3 a4=dY (fun i y s=>(Z122.vL a2 a3 a4 y s).map id (fun b=>(b,(i:Int)))) (fun s=>(Z122.fin s,-1)) 0 a1 (a0.ay,a0.aY,[]):=by
 refine mY (fun i y _ s=>?_) (fun s=>rfl)
 have h31:((3:Int)==1)=false:=rfl
 have h61:((6:Int)==1)=false:=rfl
 have h62:((6:Int)==2)=false:=rfl
 have h63:((6:Int)==3)=false:=rfl
 have hin:∀n:Int,Z134.md n 1 3=(n==1||(n==2||n==3)):=fun n=>by
  unfold Z134.md
  rw [Bool.eq_iff_iff];simp;omega
 simp only [Z227.br,Z178.br,Z235.br,Z243.br,hin]
 unfold Z122.vL Z122.pq
 cases g1:Z60.md y.aC
 ·have e:(Z61.md y.aC).2=false:=by unfold Z61.md;rw [g1];rfl
  cases g2:(Z117.md a2 a3 y a4==1)<;>simp [e,g2,h31,h61,h62,h63,Sum.map]
 have hl:=Z60.tr g1
 have e:(Z61.md y.aC).2=true:=by unfold Z61.md;rw [g1];rfl
 have e2:(Z61.md y.aC).1.aX=(y.aC.getD 0 aa.zero).an.aX:=by
  have hi:toNat (i64.wrap ((y.aC.length:Int) - 1))=y.aC.length - 1:=by simp (disch:=omega) only [wi];omega
  have:=Z60.Eh g1 (y.aC.length - 1) (by omega)
  unfold Z61.md
  rw [g1,hi]
  exact this
 rw [e2,e]
 cases g3:((y.aC.getD 0 aa.zero).an.aX==a2)
 ·cases g2:(Z117.md a2 a3 y a4==1)<;>simp [g2,h31,h61,h62,h63,Sum.map]
 generalize Z93.md (⟨s.1,s.2.1⟩:ak) y.aC=r
 cases g2:(Z117.md a2 a3 y a4==1)<;>cases g4:(r.2==1)<;>cases g5:(r.2==2)<;>cases g6:(r.2==3)<;>cases g7:Z121.md r.1 a2<;>simp [g2,g4,g5,g6,g7,h31,Sum.map]
def FE (a0:ak)(a1:List aA)(a2:Int)(a3:av)(a4:Int):(md a0 a1 a2 a3 a4).1=Z122.md a0 a1 a2 a3 a4:=by
 rw [sF,Z122.sF]
 exact tC (fun i y s=>by cases Z122.vL a2 a3 a4 y s<;>rfl) (fun s=>rfl) a1 0 _
end Z245
namespace Z246
def F (x0:aW)(x1:aq)(x2:Int)(x3:av)(x4:Int):aD:=(call (Z245.R (x0,x1,x2,x3,x4)) fun v1=>ret v1.1)
def md (a0:ak)(a1:List aA)(a2:Int)(a3:av)(a4:Int):bF:=(Z245.md a0 a1 a2 a3 a4).1
def gd (a0:ak)(a1:List aA)(a2:Int)(a3:av)(a4:Int):Prop:=(ak.Sm (2^21) a0)/\(bg (2^21) (fun y:aA=>aA.Sm (2^21) y) a1)/\(a3.size<=(2^21))
def R:=sL gd md
def aj {a0 a1 a2 a3 a4}(h:gd a0 a1 a2 a3 a4):R ((ak.r a0),(a1.map aA.row),a2,a3,a4)=some (bF.r (md a0 a1 a2 a3 a4)):=sR h
def aM:=CN [.agg wg,pL 68,pI,pS,pI] (.agg f89) RT.dec R
def bn (a0)(a1)(a2)(a3)(a4)(hg:gd a0 a1 a2 a3 a4):F (ak.r a0) (a1.map aA.row) a2 a3 a4=ret (bF.r (md a0 a1 a2 a3 a4)):=by
 obtain ⟨H0,H1,H3⟩:=hg
 exact ct (Z245.aj ⟨H0,H1,H3⟩) fz
def af:cj 46 aM:=W5 23 F mix az bn (cO Z245.af) Tryz.func46
def br (a0:ak)(a1:List aA)(a2:Int)(a3:av)(a4:Int):md a0 a1 a2 a3 a4=Z122.md a0 a1 a2 a3 a4:=Z245.FE a0 a1 a2 a3 a4
end Z246
namespace Z247
def F (x0:aW)(x1:Int)(x2:av)(x3 x4:List L):aD:=(call (Z213.R ((nR x3),x1,x2)) fun v1=>(call (Z246.R (x0,v1,x1,x2,(gN x4))) fun v2=>ret v2))
def pats:List fF:=[.agg [.sl 37,.sl 170],.rd (.int .i64),.rd (.str),.ptr [.sl 280],.ptr [aE]]
def res:RP:=.agg [.fr 37,.fr 170,.rd (.bool),.rd (.str),.rd (.int .i64),.rd (.int .i64),.fr 9,.rd (.bool),.fr 3]
def md (a0:ak)(a1:Int)(a2:av)(a3:List aB)(a4:Int):bF:=(Z246.md a0 (Z213.md a3 a1 a2) a1 a2 a4)
def gd (a0:ak)(a1:Int)(a2:av)(a3:List aB)(a4:Int):Prop:=(ak.Sm (2^21) a0)/\(a2.size<=(2^21))/\(bg (2^21) (fun y:aB=>aB.Sm (2^21) y) a3)
def acc (ls:List L):aW×Int×av×aq×Int:=((aW.dec ls),(cF 2 ls),(rL 3 ls),(nR (ck 1 (bA 4 ls))),(gN (ck 1 (bA 5 ls))))
def R:(aW×Int×av×aq×Int)->Option cP:=sL gd md
def aj {a0 a1 a2 a3 a4}(h:gd a0 a1 a2 a3 a4):R ((ak.r a0),a1,a2,(a3.map aB.row),a4)=some (bF.r (md a0 a1 a2 a3 a4)):=sR h
def aM:gj:=CN pats res acc R
def bn (a0:ak)(a1:Int)(a2:av)(a3:List aB)(a4:Int)(p3 p4:List L)(e3:(a3.map aB.row)=(nR p3))(e4:a4=(gN p4))(hg:gd a0 a1 a2 a3 a4):F (ak.r a0) a1 a2 p3 p4=ret ((bF.r (md a0 a1 a2 a3 a4)):cP):=by
 obtain ⟨H0,H2,H3⟩:=hg
 unfold F md
 simp only [SS,<-e3,<-e4]
 refine ct (Z213.aj ⟨H3,H2⟩) (ct (Z246.aj ⟨H0,(Z213.fo ⟨H3,H2⟩),H2⟩) ?_)
 exact fz
def qH (ls:List L)(a:ak×Int×av×List aB×Int)(e:acc ls=Im.im a)(hg:(p5 gd) a):∃n:Nat,F (aW.dec ls) ((cF 2 ls)) ((rL 3 ls)) (ck 1 (bA 4 ls)) (ck 1 (bA 5 ls))=ret (Im.im ((u5 md) a)):=by
 have e0:(ak.r a.1)=(aW.dec ls):=(congrArg (fun x=>x.1) e.symm)
 have e1:a.2.1=(cF 2 ls):=(congrArg (fun x=>x.2.1) e.symm)
 have e2:a.2.2.1=(rL 3 ls):=(congrArg (fun x=>x.2.2.1) e.symm)
 have hn:=bn a.1 a.2.1 a.2.2.1 a.2.2.2.1 a.2.2.2.2 (ck 1 (bA 4 ls)) (ck 1 (bA 5 ls)) (congrArg (fun x=>x.2.2.2.1) e.symm) (congrArg (fun x=>x.2.2.2.2) e.symm) hg
 refine ⟨0,?_⟩
 rw [<-e0,<-e1,<-e2]
 exact hn
def af:cj 183 aM:=VP (live:=fun _=>[]) (nt:=18) (accr:=fun ls=>((aW.dec ls),(cF 2 ls),(rL 3 ls),(ck 1 (bA 4 ls)),(ck 1 (bA 5 ls)))) (run:=fun _ x=>F x.1 x.2.1 x.2.2.1 x.2.2.2.1 x.2.2.2.2) mix az (fc Z213.af Z246.af) Tryz.func183 (by kernel_rfl) (fun _ _=>by kernel_rfl) (fun ls a _ e hg=>qH ls a e hg)
def lk (a0:ak)(a1:Int)(a2:av)(a3:List aB)(a4:Int):md a0 a1 a2 a3 a4=Z122.md a0 (Z106.md a3 a1 a2) a1 a2 a4:=by
 unfold md
 rw [Z246.br,Z213.br]
end Z247
namespace Z248
abbrev E (n:Nat):Env:={ T:=assoc mC,G:=cZ [(262,Z205.aM),(278,Z139.aM),(170,Z206.aM)],nt:=83,M:=ff [],np:=n,I:=gy [] }
def ic (n:Nat):gA:=inl (E n) Tryz.f279
def bR (n:Nat):dX Tryz.prog Ev n 279 (ic n):=yO (mt:=false) mix az (jB Z205.af Z139.af Z206.af) .nil .nil Tryz.func279 (by kernel_rfl)
end Z248
namespace Z249
inductive Pt where
 | p0 (a:aq) (b c:List L) (d e:Int) (f:av) (g h i j:Int) (k:av) (l m n:Int) (o p q s:aq)
def pid:Pt->Nat
 | .p0 ..=>6
def cM:Pt->List V
 | .p0 a b c d e f g h i j k l m n o p q s=>[.sl none 9 a,.fn 183 [.cS none [.sl 280] b 0,.cS none [aE] c 0],.bP 0 0,.bP 1 0,.int .i64 d,.bP 1 0,.bP 1 0]
def dQ:Pt->List aK
 | .p0 a b c d e f g h i j k l m n o p q s=>[.box [.nil,.nil,.int .i64 e,.str f,.int .i64 g,.int .i64 h,.nil,.nil,.int .i64 i],.box [.own 2,.own 3,.int .i64 j,.str k,.int .i64 l,.int .i64 m,.own 4,.own 5,.int .i64 n],.row 37 o,.row 170 p,.row 9 q,.row 3 s]
def step (J:Pt->aD):Pt->aD
 | .p0 a b c d e f g h i j k l m n o p q s=>(cond (j==0) (cA ((0:Int)<(a.length:Int)) (call (Z247.R ((⟨o,p⟩:aW),d,(tS a 0),(nR b),(gN c))) fun v1=>(cA (eK (((s.length:Int)+1)*8)) (cA ((1:Int)<=(a.length:Int)) (cA ((a.length:Int)<=(a.length:Int)) (cond (!v1.jy) (J (.p0 [] b c 0 e f g h i 3 k l m n v1.bJ.ay v1.bJ.aY q (s++[[L.int d]]))) (cond (!v1.bK) (J (.p0 [] b c 0 e f g h i 2 k l m n v1.bJ.ay v1.bJ.aY q (s++[[L.int d]]))) (cond (v1.aJ.bt==3) (call (Z205.R v1.aJ.bC) fun v2=>(cA (eK (((v2.length:Int)+((List.take (toNat ((a.length:Int) - 1)) (List.drop 1 a)).length:Int))*16)) (cond (n>=3) (J (.p0 [] b c 0 e f g h i 5 k l m n v1.bJ.ay v1.bJ.aY q (s++[[L.int d]]))) (call (Z139.R (v2++(List.take (toNat ((a.length:Int) - 1)) (List.drop 1 a)))) fun v3=>(cond (!v3) (J (.p0 [] b c 0 e f g h i 5 k l m n v1.bJ.ay v1.bJ.aY q (s++[[L.int d]]))) (J (.p0 (v2++(List.take (toNat ((a.length:Int) - 1)) (List.drop 1 a))) b c v1.aJ.bO e f g h i j k l m (i64.wrap (n+1)) v1.bJ.ay v1.bJ.aY q (s++[[L.int d]])))))))) (cond (((List.take (toNat ((a.length:Int) - 1)) (List.drop 1 a)).length:Int)==0) (call (Z206.R v1.aJ) fun v4=>J (.p0 [] b c 0 e f g h i 1 v4.aS v4.bt v4.bO n v1.bJ.ay v1.bJ.aY v4.bC (s++[[L.int d]]))) (cond (v1.aJ.bt==2) (J (.p0 (List.take (toNat ((a.length:Int) - 1)) (List.drop 1 a)) b c v1.aJ.bO e f g h i j k l m n v1.bJ.ay v1.bJ.aY q (s++[[L.int d]]))) (J (.p0 [] b c 0 e f g h i 4 k l m n v1.bJ.ay v1.bJ.aY q (s++[[L.int d]]))))))))))))) (ret ((⟨(⟨o,p⟩:aW),j,(⟨k,l,m,q⟩:bk),s,n⟩:cT):cT)))
def start (J:Pt->aD)(x0:aW)(x1:Int)(x2:aq)(x3 x4:List L):aD:=(call (Z133.R x0) fun v1=>(call (Z139.R x2) fun v2=>(cond (!v2) (ret ((⟨v1,6,(⟨(⟨#[]⟩:av),0,0,[]⟩),[],0⟩):cT)) (J (.p0 x2 x3 x4 x1 0 ⟨#[]⟩ 0 0 0 0 ⟨#[]⟩ 0 0 0 v1.ay v1.aY [] [])))))
def live:Nat->Live:=gL [(6,[(2,some 1099511627785),(3,none),(8,none),(9,none),(10,none),(9,some 6291465),(9,some 7340035)])]
def pats:List fF:=[.agg [.sl 37,.sl 170],.rd (.int .i64),.rd (.sl 9),.fn 183 [[.sl 280],[aE]]]
def res:RP:=.agg [.fr 37,.fr 170,.rd (.int .i64),.rd (.str),.rd (.int .i64),.rd (.int .i64),.fr 9,.fr 3,.rd (.int .i64)]
abbrev E:Env:={ T:=assoc mC,G:=cZ [(116,Z133.aM),(278,Z139.aM),(183,Z247.aM)],nt:=48,M:=ff [],I:=gy [(279,Z248.ic 0)] }
def step_eq (I:dD)(p:Pt):dU E live I (pid p) (bL Tryz.f182) (iT (live (pid p)) (cM p) (dQ p)) (dA E Tryz.f182 res)=step (fun q=>I (pid q) (cM q) (dQ q)) p:=by
 cases p<;>kernel_rfl
def start_eq (I:dD)(ls:List L):gO E live I (bL Tryz.f182) (dJ pats ls) (dA E Tryz.f182 res)=start (fun q=>I (pid q) (cM q) (dQ q)) (aW.dec ls) (cF 2 ls) (fP 3 ls) (ck 1 (bA 4 ls)) (ck 1 (bA 5 ls)):=by kernel_rfl
def run_eq (n:Nat)(ls:List L):eY E live Tryz.f182 res n (dJ pats ls)=start (iter step n) (aW.dec ls) (cF 2 ls) (fP 3 ls) (ck 1 (bA 4 ls)) (ck 1 (bA 5 ls)):=dI (id:=pid) (vs:=cM) (hs:=dQ) (step:=step) (start:=fun J=>start J (aW.dec ls) (cF 2 ls) (fP 3 ls) (ck 1 (bA 4 ls)) (ck 1 (bA 5 ls))) step_eq (fun I=>start_eq I ls) n
def md (a0:ak)(a1:Int)(a2:List av)(a3:List aB)(a4:Int):bq:=(cond (!Z139.md a2) ⟨a0,6,⟨⟨#[]⟩,0,0,[]⟩,[],0⟩ ((Z125.rs (Z125.lk a3 a4) 17 () a0 [] 0 a1 a2).1))
def gd (a0:ak)(a1:Int)(a2:List av)(a3:List aB)(a4:Int):Prop:=(ak.Sm (2^21) a0)/\(bg (2^21) (fun y:av=>y.size<=(2^21)) a2)/\(bg (2^21) (fun y:aB=>aB.Sm (2^21) y) a3)
def acc (ls:List L):aW×Int×aq×aq×Int:=((aW.dec ls),(cF 2 ls),(fP 3 ls),(nR (ck 1 (bA 4 ls))),(gN (ck 1 (bA 5 ls))))
def R:(aW×Int×aq×aq×Int)->Option cT:=sL gd md
def aj {a0 a1 a2 a3 a4}(h:gd a0 a1 a2 a3 a4):R ((ak.r a0),a1,(a2.map dL),(a3.map aB.row),a4)=some (bq.r (md a0 a1 a2 a3 a4)):=sR h
def aM:gj:=CN pats res acc R
def bn (a0:ak)(a1:Int)(a2:List av)(a3:List aB)(a4:Int)(p3 p4:List L)(e3:(a3.map aB.row)=(nR p3))(e4:a4=(gN p4))(hg:gd a0 a1 a2 a3 a4):∃n,start (iter step n) (ak.r a0) a1 (a2.map dL) p3 p4=ret ((bq.r (md a0 a1 a2 a3 a4)):cT):=by
 obtain ⟨H0,H2,H3⟩:=hg
 have fin:∀(J:Pt->aD) (code:Int) (x z:Int) (xs:aq) (lab:av) (kd vl mv:Int) (o p q s:aq),¬code=0->step J (Pt.p0 xs p3 p4 z 0 ⟨#[]⟩ 0 0 0 code lab kd vl mv o p q s)=ret (⟨⟨o,p⟩,code,⟨lab,kd,vl,q⟩,s,mv⟩:cT):=by
  intro J code x z xs lab kd vl mv o p q s h
  simp only [step]
  exact eH (beq_eq_false_iff_ne.2 h) rfl
 have key:∀(n:Nat) (k:ak) (zs:List Int) (mv z:Int) (p:List av),ak.Sm (2^21) k->Z13.md p=true->0<=mv->mv<=3->(3 - mv)*4+(p.length:Int)<=n->zs.length+n<=100->
   ∃m,iter step m (Pt.p0 (p.map dL) p3 p4 z 0 ⟨#[]⟩ 0 0 0 0 ⟨#[]⟩ 0 0 mv (k.ay.map (fR aa.row)) (k.aY.map aN.row) [] (zs.map aV))=ret (bq.r (Z125.rs (Z125.lk a3 a4) n () k zs mv z p).1):=by
  intro n
  induction n with
  | zero=>intro k zs mv z p _ hp _ _ hm _;have:=(Z13.tr hp).1;omega
  | succ n ih=>
   intro k zs mv z p hk hp h0 h3 hm hz
   obtain ⟨⟨p1,p4'⟩,p8⟩:=Z13.tr hp
   obtain ⟨x,xs,rfl⟩:∃x xs,p=x::xs:=by
    cases p with
    | nil=>simp at p1
    | cons x xs=>exact ⟨x,xs,rfl⟩
   have hx:x.size<=2^21:=le_trans (p8 x (by simp)) (by decide)
   have hxs:∀y∈xs,y.size<=2^22:=fun y hy=>le_trans (p8 y (by simp [hy])) (by decide)
   have hask:=Z106.fo (a1:=z) ⟨H3,hx⟩
   have hlk:=Z122.fo (a2:=z) (a4:=a4) ⟨hk,hask,hx⟩
   have hat:tS ((x::xs).map dL) 0=x:=rfl
   have ht:List.take (toNat (((xs.length+1:Nat):Int) - 1)) (List.drop 1 ((x::xs).map dL))=xs.map dL:=by
    simp only [List.map_cons,List.drop_succ_cons,List.drop_zero]
    exact List.take_of_length_le (by simp)
   simp only [List.length_cons] at p4' hm
   refine Z125.yZ ?_
   simp only [step,hat,List.length_map,List.length_cons,ht,<-e3,<-e4]
   refine dP rfl (dP dt ?_)
   have hR:=Z247.aj (a1:=z) (a4:=a4) ⟨hk,hx,H3⟩
   rw [Z247.lk] at hR
   refine cx hR ?_
   have hcase:∀q,Z125.nx (Z122.md k (Z106.md a3 z x) z x a4) mv (x::xs)=.inl q->Z125.rs (Z125.lk a3 a4) (n+1) () k zs mv z (x::xs)=(⟨(Z122.md k (Z106.md a3 z x) z x a4).bJ,q.1,q.2,zs++[z],mv⟩,()):=fun q hq=>Z125.vB hq
   have hcase2:∀q,Z125.nx (Z122.md k (Z106.md a3 z x) z x a4) mv (x::xs)=.inr q->Z125.rs (Z125.lk a3 a4) (n+1) () k zs mv z (x::xs)=Z125.rs (Z125.lk a3 a4) n () (Z122.md k (Z106.md a3 z x) z x a4).bJ (zs++[z]) q.1 q.2.1 q.2.2:=fun q hq=>Z125.vq hq
   revert hcase hcase2 hlk
   generalize Z122.md k (Z106.md a3 z x) z x a4=l
   intro hlk hcase hcase2
   refine dP lm (dP dt (dP dt ?_))
   obtain ⟨lk0,lf,le,ld,lc⟩:=l
   unfold Z125.nx at hcase hcase2
   have hzz:zs.map aV++[[L.int z]]=(zs++[z]).map aV:=by simp [aV]
   cases ld
   ·exact dP rfl ⟨1,(fin _ 3 0 _ _ _ _ _ _ _ _ _ _ (by decide)).trans (by rw [hcase _ rfl];exact fz)⟩
   cases lf
   ·exact cL rfl (dP rfl ⟨1,(fin _ 2 0 _ _ _ _ _ _ _ _ _ _ (by decide)).trans (by rw [hcase _ rfl];exact fz)⟩)
   simp only [Bool.not_true,aR,aO,List.tail_cons] at hcase hcase2 ⊢
   have hpl:bg (2^21) (fun y:av=>y.size<=(2^21)) le.bC:=hlk.2.1.2
   have hpl1:le.bC.length<=2^21:=hpl.1
   refine cL rfl (cL rfl ?_)
   simp only [SS]
   cases hk3:(le.bt==3)
   ·simp only [hk3,aR] at hcase hcase2 ⊢
    by_cases hx0:xs.length=0
    ·have e0:((xs.length:Int)==0)=true:=by simp [hx0]
     rw [e0] at hcase
     refine dP (beq_iff_eq.2 (by omega)) (cx (Z206.aj hlk.2.1) ?_)
     exact ⟨1,(fin _ 1 0 _ _ _ _ _ _ _ _ _ _ (by decide)).trans (by rw [hcase _ rfl];exact fz)⟩
    ·have e0:((xs.length:Int)==0)=false:=by simpa using hx0
     rw [e0] at hcase hcase2
     refine cL (beq_eq_false_iff_ne.2 (by omega)) ?_
     cases hk2:(le.bt==2)
     ·simp only [hk2,aR] at hcase
      exact cL rfl ⟨1,(fin _ 4 0 _ _ _ _ _ _ _ _ _ _ (by decide)).trans (by rw [hcase _ rfl];exact fz)⟩
     ·simp only [hk2,aR,aO] at hcase2
      refine dP rfl ?_
      have hip:Z13.md xs=true:=Z13.tl hp hx0
      rw [hcase2 _ rfl,hzz]
      exact ih lk0 (zs++[z]) mv le.bO xs hlk.1 hip h0 h3 (by omega) (by simp;omega)
   ·simp only [hk3,aO] at hcase hcase2 ⊢
    refine cx (Z205.aj hpl) (dP (by have :(le.bC.map dL).length=le.bC.length:=List.length_map ..;have :(xs.map dL).length=xs.length:=List.length_map ..;exact gC (by omega)) ?_)
    by_cases hmv:mv>=3
    ·rw [decide_eq_true hmv] at hcase ⊢
     exact dP rfl ⟨1,(fin _ 5 0 _ _ _ _ _ _ _ _ _ _ (by decide)).trans (by rw [hcase _ rfl];exact fz)⟩
    ·rw [decide_eq_false hmv] at hcase hcase2 ⊢
     simp only [aR] at hcase hcase2 ⊢
     have e:le.bC.map dL++xs.map dL=(le.bC++xs).map dL:=by simp
     rw [e]
     have hq:=Z139.aj ⟨by rw [List.length_append];omega,fun y hy=>(List.mem_append.1 hy).elim (fun h=>le_trans (hpl.2 y h) (by decide)) (hxs y)⟩
     rw [Z139.br] at hq
     refine cx hq ?_
     cases hip:Z13.md (le.bC++xs)
     ·rw [hip] at hcase
      exact dP rfl ⟨1,(fin _ 5 0 _ _ _ _ _ _ _ _ _ _ (by decide)).trans (by rw [hcase _ rfl];exact fz)⟩
     ·rw [hip] at hcase2
      have ht:=Z13.tr hip
      rw [hcase2 _ rfl,hzz,wi _ (by omega)]
      exact ih lk0 (zs++[z]) (mv+1) le.bO (le.bC++xs) hlk.1 hip (by omega) (by omega) (by omega) (by simp;omega)
 unfold start md
 refine cx (Z133.aj H0) (cx (Z139.aj (bg.mono H2 (by decide) (fun y hy=>le_trans hy (by decide)))) ?_)
 cases hp:Z139.md a2
 ·exact ⟨0,rfl⟩
 ·simp only [Bool.not_true,aR]
  rw [Z139.br] at hp
  exact key 17 a0 [] 0 a1 a2 H0 hp (by decide) (by decide) (by have:=(Z13.tr hp).1;omega) (by simp)
def qH (ls:List L)(a:ak×Int×List av×List aB×Int)(e:acc ls=Im.im a)(hg:(p5 gd) a):∃n:Nat,start (iter step n) (aW.dec ls) ((cF 2 ls)) ((fP 3 ls)) (ck 1 (bA 4 ls)) (ck 1 (bA 5 ls))=ret (Im.im ((u5 md) a)):=by
 have e0:(ak.r a.1)=(aW.dec ls):=(congrArg (fun x=>x.1) e.symm)
 have e1:a.2.1=(cF 2 ls):=(congrArg (fun x=>x.2.1) e.symm)
 have e2:(a.2.2.1.map dL)=(fP 3 ls):=(congrArg (fun x=>x.2.2.1) e.symm)
 obtain ⟨n,hn⟩:=bn a.1 a.2.1 a.2.2.1 a.2.2.2.1 a.2.2.2.2 (ck 1 (bA 4 ls)) (ck 1 (bA 5 ls)) (congrArg (fun x=>x.2.2.2.1) e.symm) (congrArg (fun x=>x.2.2.2.2) e.symm) hg
 refine ⟨n,?_⟩
 rw [<-e0,<-e1,<-e2]
 exact hn
def af:cj 182 aM:=VJ (mt:=false) (accr:=fun ls=>((aW.dec ls),(cF 2 ls),(fP 3 ls),(ck 1 (bA 4 ls)),(ck 1 (bA 5 ls)))) (run:=fun n x=>start (iter step n) x.1 x.2.1 x.2.2.1 x.2.2.2.1 x.2.2.2.2) mix az (jB Z133.af Z139.af Z247.af) .nil (.cons (Z248.bR 0) .nil) Tryz.func182 (by kernel_rfl) run_eq (fun ls a _ e hg=>qH ls a e hg)
end Z249
namespace Z250
def F (x0:aW)(x1:aq)(x2:Int)(x3:aq)(x4:Int):aD:=(call (Z249.R (x0,x2,x3,x1,x4)) fun v1=>ret v1)
def md (a0:ak)(a1:List aB)(a2:Int)(a3:List av)(a4:Int):bq:=(Z249.md a0 a2 a3 a1 a4)
def gd (a0:ak)(a1:List aB)(a2:Int)(a3:List av)(a4:Int):Prop:=(ak.Sm (2^21) a0)/\(bg (2^21) (fun y:aB=>aB.Sm (2^21) y) a1)/\(bg (2^21) (fun y:av=>y.size<=(2^21)) a3)
def R:=sL gd md
def aj {a0 a1 a2 a3 a4}(h:gd a0 a1 a2 a3 a4):R ((ak.r a0),(a1.map aB.row),a2,(a3.map dL),a4)=some (bq.r (md a0 a1 a2 a3 a4)):=sR h
def aM:=CN [.agg wg,pL 280,pI,pL 9,pI] (.agg f108) RT.dec R
def bn (a0)(a1)(a2)(a3)(a4)(hg:gd a0 a1 a2 a3 a4):F (ak.r a0) (a1.map aB.row) a2 (a3.map dL) a4=ret (bq.r (md a0 a1 a2 a3 a4)):=by
 obtain ⟨H0,H1,H3⟩:=hg
 exact ct (Z249.aj ⟨H0,H3,H1⟩) fz
def af:cj 60 aM:=W5 16 F mix az bn (cO Z249.af) Tryz.func60
def br (a0:ak)(a1:List aB)(a2:Int)(a3:List av)(a4:Int):md a0 a1 a2 a3 a4=Z125.md a0 a1 a2 a3 a4:=by
 unfold md Z249.md Z125.md
 rw [Z139.br]
end Z250
namespace Z251
inductive Pt where
 | p0 (a b:aq) (c d:Int)
def pid:Pt->Nat
 | .p0 ..=>4
def cM:Pt->List V
 | .p0 a b c d=>[.sl none 53 a,.fn 218 [],.sl none 53 b,.int .i64 c,.int .i64 d]
def dQ:Pt->List aK
 | .p0 a b c d=>[]
def step (J:Pt->aD):Pt->aD
 | .p0 a b c d=>(cond (d<c) (m2 d (b.length:Int) (m2 d (a.length:Int) (call (Z237.R ((aU.at b (toNat d)),(aU.at a (toNat d)))) fun v1=>(cond (!v1) eM (J (.p0 a b c (i64.wrap (d+1)))))))) nS)
def start (J:Pt->aD)(x0 x1:aq):aD:=(cond (x0.length != (x1.length:Int)) (ret false) (J (.p0 x1 x0 x0.length 0)))
def live:Nat->Live:=gL [(4,jC [1,2,15,16,17])]
def pats:List fF:=[.rd (.sl 53),.rd (.sl 53),.fn 218 []]
def res:RP:=.one (.rd (.bool))
abbrev E:Env:={ T:=assoc mC,G:=cZ [(218,Z237.aM)],nt:=32 }
def step_eq (I:dD)(p:Pt):dU E live I (pid p) (bL Tryz.f217) (iT (live (pid p)) (cM p) (dQ p)) (dA E Tryz.f217 res)=step (fun q=>I (pid q) (cM q) (dQ q)) p:=by
 cases p<;>kernel_rfl
def start_eq (I:dD)(ls:List L):gO E live I (bL Tryz.f217) (dJ pats ls) (dA E Tryz.f217 res)=start (fun q=>I (pid q) (cM q) (dQ q)) (eU ls) (fP 1 ls):=by kernel_rfl
def run_eq (n:Nat)(ls:List L):eY E live Tryz.f217 res n (dJ pats ls)=start (iter step n) (eU ls) (fP 1 ls):=dI (id:=pid) (vs:=cM) (hs:=dQ) (step:=step) (start:=fun J=>start J (eU ls) (fP 1 ls)) step_eq (fun I=>start_eq I ls) n
def md (a0 a1:List aa):Bool:=(bif (a0.length != (a1.length:Int)) then false else (eB (S:=Unit) (β:=Bool) (fun i2 s4=>(cond (!(Z237.md (a0.getD i2 aa.zero) (a1.getD i2 aa.zero))) (.inr false) (.inl ()))) (fun s4=>true) a0.length 0 ()))
def gd (a0 a1:List aa):Prop:=(bg (2^21) (fun y:aa=>aa.Sm (2^21) y) a0)/\(bg (2^21) (fun y:aa=>aa.Sm (2^21) y) a1)
def acc (ls:List L):aq×aq:=((eU ls),(fP 1 ls))
def R:(aq×aq)->Option Bool:=cI gd md
def aj {a0 a1}(h:gd a0 a1):R ((a0.map aa.row),(a1.map aa.row))=some (md a0 a1):=cH h
def aM:gj:=CN pats res acc R
def bn (a0 a1:List aa)(hg:gd a0 a1):∃n,start (iter step n) (a0.map aa.row) (a1.map aa.row)=ret ((md a0 a1):Bool):=by
 obtain ⟨H0,H1⟩:=hg
 unfold start md
 simp only [SS]
 refine gE ret (fun _=>⟨0,rfl⟩) (fun c1=>?_)
 have dc1:=c1
 simp only [DC] at dc1
 have Bh3:=bl H0
 refine dy fz (bH (pt:=fun (i2:Nat) (s4:Unit)=>Pt.p0 (a1.map aa.row) (a0.map aa.row) (a0.length:Int) (i2:Int)) (fun _ _=>True) (fun J i2 s4 h3 hih3=>?_) (fun s4 hih3=>?_) trivial)
 ·simp only [step,SS]
  refine aP.yes dt (aP.yes bB ?_)
  refine aP.yes (bQ h3) (aP.yes bB ?_)
  refine aP.yes dt (cr (Z237.aj ⟨(bg.getD H0 h3),(bg.getD H1 (by omega))⟩) ?_)
  refine aP.bif (fun _=>aP.inr rfl) (fun c5=>?_)
  refine aP.inl trivial ?_
  rw [aF h3 Bh3]
 ·simp only [step,SS]
  refine cL dn (⟨0,?_⟩)
  exact fz
def af:cj 217 aM:=VV (run:=fun n x=>start (iter step n) x.1 x.2) mix az (cO Z237.af) Tryz.func217 (by kernel_rfl) run_eq (fun _ a _ _ hg=>bn a.1 a.2 hg)
def md_eq (a0 a1:List aa):md a0 a1=iV a0 a1:=by
 refine iR (aa.zero) (fun i s h h2=>?_) (fun s=>rfl)
 simp only [bne,jQ,bool_beq,gp,Z237.md_eq]
 cases iV _ _<;>rfl
end Z251
namespace Z252
def F (x0 x1:aq):aD:=(call (Z251.R (x0,x1)) fun v1=>ret v1)
def md (a0 a1:List aa):Bool:=((Z251.md a0 a1))
def gd (a0 a1:List aa):Prop:=(bg (2^21) (fun y:aa=>aa.Sm (2^21) y) a0)/\(bg (2^21) (fun y:aa=>aa.Sm (2^21) y) a1)
def R:=cI gd md
def aj {a0 a1}(h:gd a0 a1):R ((a0.map aa.row),(a1.map aa.row))=some (md a0 a1):=cH h
def aM:=CN [pL 53,pL 53] oB RT.dec R
def bn (a0)(a1)(hg:gd a0 a1):F (a0.map aa.row) (a1.map aa.row)=ret (md a0 a1):=by
 obtain ⟨H0,H1⟩:=hg
 exact ct (Z251.aj ⟨H0,H1⟩) fz
def af:cj 125 aM:=W2 8 F mix az bn (cO Z251.af) Tryz.func125
def md_eq (a0 a1:List aa):md a0 a1=iV a0 a1:=by
 unfold md
 rw [Z251.md_eq]
end Z252
namespace Z253
inductive Pt where
 | p0 (a b:aq) (c d:Int)
def pid:Pt->Nat
 | .p0 ..=>4
def cM:Pt->List V
 | .p0 a b c d=>[.sl none 37 a,.fn 125 [],.sl none 37 b,.int .i64 c,.int .i64 d]
def dQ:Pt->List aK
 | .p0 a b c d=>[]
def step (J:Pt->aD):Pt->aD
 | .p0 a b c d=>(cond (d<c) (m2 d (b.length:Int) (m2 d (a.length:Int) (call (Z252.R ((rK b (toNat d)),(rK a (toNat d)))) fun v1=>(cond (!v1) eM (J (.p0 a b c (i64.wrap (d+1)))))))) nS)
def start (J:Pt->aD)(x0 x1:aq):aD:=(cond (x0.length != (x1.length:Int)) (ret false) (J (.p0 x1 x0 x0.length 0)))
def live:Nat->Live:=gL [(4,jC [1,2,15,16,17])]
def pats:List fF:=[.rd (.sl 37),.rd (.sl 37),.fn 125 []]
def res:RP:=.one (.rd (.bool))
abbrev E:Env:={ T:=assoc mC,G:=cZ [(125,Z252.aM)],nt:=32 }
def step_eq (I:dD)(p:Pt):dU E live I (pid p) (bL Tryz.f124) (iT (live (pid p)) (cM p) (dQ p)) (dA E Tryz.f124 res)=step (fun q=>I (pid q) (cM q) (dQ q)) p:=by
 cases p<;>kernel_rfl
def start_eq (I:dD)(ls:List L):gO E live I (bL Tryz.f124) (dJ pats ls) (dA E Tryz.f124 res)=start (fun q=>I (pid q) (cM q) (dQ q)) (eU ls) (fP 1 ls):=by kernel_rfl
def run_eq (n:Nat)(ls:List L):eY E live Tryz.f124 res n (dJ pats ls)=start (iter step n) (eU ls) (fP 1 ls):=dI (id:=pid) (vs:=cM) (hs:=dQ) (step:=step) (start:=fun J=>start J (eU ls) (fP 1 ls)) step_eq (fun I=>start_eq I ls) n
def md (a0 a1:List (List aa)):Bool:=(bif (a0.length != (a1.length:Int)) then false else (eB (S:=Unit) (β:=Bool) (fun i2 s4=>(cond (!(Z252.md (a0.getD i2 []) (a1.getD i2 []))) (.inr false) (.inl ()))) (fun s4=>true) a0.length 0 ()))
def gd (a0 a1:List (List aa)):Prop:=(bg (2^21) (fun y:List aa=>bg (2^21) (fun y:aa=>aa.Sm (2^21) y) y) a0)/\(bg (2^21) (fun y:List aa=>bg (2^21) (fun y:aa=>aa.Sm (2^21) y) y) a1)
def acc (ls:List L):aq×aq:=((eU ls),(fP 1 ls))
def R:(aq×aq)->Option Bool:=cI gd md
def aj {a0 a1}(h:gd a0 a1):R ((a0.map (fR aa.row)),(a1.map (fR aa.row)))=some (md a0 a1):=cH h
def aM:gj:=CN pats res acc R
def bn (a0 a1:List (List aa))(hg:gd a0 a1):∃n,start (iter step n) (a0.map (fR aa.row)) (a1.map (fR aa.row))=ret ((md a0 a1):Bool):=by
 obtain ⟨H0,H1⟩:=hg
 unfold start md
 simp only [SS]
 refine gE ret (fun _=>⟨0,rfl⟩) (fun c1=>?_)
 have dc1:=c1
 simp only [DC] at dc1
 have Bh3:=bl H0
 refine dy fz (bH (pt:=fun (i2:Nat) (s4:Unit)=>Pt.p0 (a1.map (fR aa.row)) (a0.map (fR aa.row)) (a0.length:Int) (i2:Int)) (fun _ _=>True) (fun J i2 s4 h3 hih3=>?_) (fun s4 hih3=>?_) trivial)
 ·simp only [step,SS]
  refine aP.yes dt (aP.yes bB ?_)
  refine aP.yes (bQ h3) (aP.yes bB ?_)
  refine aP.yes dt (cr (Z252.aj ⟨(bg.getD H0 h3),(bg.getD H1 (by omega))⟩) ?_)
  refine aP.bif (fun _=>aP.inr rfl) (fun c5=>?_)
  refine aP.inl trivial ?_
  rw [aF h3 Bh3]
 ·simp only [step,SS]
  refine cL dn (⟨0,?_⟩)
  exact fz
def af:cj 124 aM:=VV (run:=fun n x=>start (iter step n) x.1 x.2) mix az (cO Z252.af) Tryz.func124 (by kernel_rfl) run_eq (fun _ a _ _ hg=>bn a.1 a.2 hg)
def md_eq (a0 a1:List (List aa)):md a0 a1=iV a0 a1:=by
 refine iR ([]) (fun i s h h2=>?_) (fun s=>rfl)
 simp only [bne,jQ,bool_beq,gp,Z252.md_eq]
 cases iV _ _<;>rfl
end Z253
namespace Z254
def F (x0 x1:cB):aD:=(call (Z237.R (x0.bp,x1.bp)) fun v1=>(cond v1 (call (Z237.R (x0.fA,x1.fA)) fun v2=>(cond v2 (call (Z237.R (x0.fB,x1.fB)) fun v3=>ret v3) (ret false))) (ret false)))
def md (a0 a1:aN):Bool:=(cond (Z237.md a0.bp a1.bp) (cond (Z237.md a0.fA a1.fA) ((Z237.md a0.fB a1.fB)) false) false)
def gd (a0 a1:aN):Prop:=(aN.Sm (2^21) a0)/\(aN.Sm (2^21) a1)
def R:=cI gd md
def aj {a0 a1}(h:gd a0 a1):R ((aN.r a0),(aN.r a1))=some (md a0 a1):=cH h
def aM:=CN [.agg vK,.agg vK] oB RT.dec R
def bn (a0)(a1)(hg:gd a0 a1):F (aN.r a0) (aN.r a1)=ret (md a0 a1):=by
 obtain ⟨H0,H1⟩:=hg
 refine ct (Z237.aj ⟨H0.1,H1.1⟩) (bs (fun c1=>?_) (fun _=>rfl))
 refine ct (Z237.aj ⟨H0.2.1,H1.2.1⟩) (bs (fun c2=>?_) (fun _=>rfl))
 exact ct (Z237.aj ⟨H0.2.2,H1.2.2⟩) fz
def af:cj 127 aM:=W2 24 F mix az bn (cO Z237.af) Tryz.func127
def md_eq (a0 a1:aN):md a0 a1=iV a0 a1:=by
 unfold md
 cases a0;cases a1
 rw [Bool.eq_iff_iff]
 simp [dO,gp,aN.mk.injEq,Z237.md_eq]
end Z254
namespace Z255
inductive Pt where
 | p0 (a b:aq) (c d:Int)
def pid:Pt->Nat
 | .p0 ..=>4
def cM:Pt->List V
 | .p0 a b c d=>[.sl none 170 a,.fn 127 [],.sl none 170 b,.int .i64 c,.int .i64 d]
def dQ:Pt->List aK
 | .p0 a b c d=>[]
def step (J:Pt->aD):Pt->aD
 | .p0 a b c d=>(cond (d<c) (m2 d (b.length:Int) (m2 d (a.length:Int) (call (Z254.R ((cB.at b (toNat d)),(cB.at a (toNat d)))) fun v1=>(cond (!v1) eM (J (.p0 a b c (i64.wrap (d+1)))))))) nS)
def start (J:Pt->aD)(x0 x1:aq):aD:=(cond (x0.length != (x1.length:Int)) (ret false) (J (.p0 x1 x0 x0.length 0)))
def live:Nat->Live:=gL [(4,jC [1,2,15,16,17])]
def pats:List fF:=[.rd (.sl 170),.rd (.sl 170),.fn 127 []]
def res:RP:=.one (.rd (.bool))
abbrev E:Env:={ T:=assoc mC,G:=cZ [(127,Z254.aM)],nt:=32 }
def step_eq (I:dD)(p:Pt):dU E live I (pid p) (bL Tryz.f126) (iT (live (pid p)) (cM p) (dQ p)) (dA E Tryz.f126 res)=step (fun q=>I (pid q) (cM q) (dQ q)) p:=by
 cases p<;>kernel_rfl
def start_eq (I:dD)(ls:List L):gO E live I (bL Tryz.f126) (dJ pats ls) (dA E Tryz.f126 res)=start (fun q=>I (pid q) (cM q) (dQ q)) (eU ls) (fP 1 ls):=by kernel_rfl
def run_eq (n:Nat)(ls:List L):eY E live Tryz.f126 res n (dJ pats ls)=start (iter step n) (eU ls) (fP 1 ls):=dI (id:=pid) (vs:=cM) (hs:=dQ) (step:=step) (start:=fun J=>start J (eU ls) (fP 1 ls)) step_eq (fun I=>start_eq I ls) n
def md (a0 a1:List aN):Bool:=(bif (a0.length != (a1.length:Int)) then false else (eB (S:=Unit) (β:=Bool) (fun i2 s4=>(cond (!(Z254.md (a0.getD i2 aN.zero) (a1.getD i2 aN.zero))) (.inr false) (.inl ()))) (fun s4=>true) a0.length 0 ()))
def gd (a0 a1:List aN):Prop:=(bg (2^21) (fun y:aN=>aN.Sm (2^21) y) a0)/\(bg (2^21) (fun y:aN=>aN.Sm (2^21) y) a1)
def acc (ls:List L):aq×aq:=((eU ls),(fP 1 ls))
def R:(aq×aq)->Option Bool:=cI gd md
def aj {a0 a1}(h:gd a0 a1):R ((a0.map aN.row),(a1.map aN.row))=some (md a0 a1):=cH h
def aM:gj:=CN pats res acc R
def bn (a0 a1:List aN)(hg:gd a0 a1):∃n,start (iter step n) (a0.map aN.row) (a1.map aN.row)=ret ((md a0 a1):Bool):=by
 obtain ⟨H0,H1⟩:=hg
 unfold start md
 simp only [SS]
 refine gE ret (fun _=>⟨0,rfl⟩) (fun c1=>?_)
 have dc1:=c1
 simp only [DC] at dc1
 have Bh3:=bl H0
 refine dy fz (bH (pt:=fun (i2:Nat) (s4:Unit)=>Pt.p0 (a1.map aN.row) (a0.map aN.row) (a0.length:Int) (i2:Int)) (fun _ _=>True) (fun J i2 s4 h3 hih3=>?_) (fun s4 hih3=>?_) trivial)
 ·simp only [step,SS]
  refine aP.yes dt (aP.yes bB ?_)
  refine aP.yes (bQ h3) (aP.yes bB ?_)
  refine aP.yes dt (cr (Z254.aj ⟨(bg.getD H0 h3),(bg.getD H1 (by omega))⟩) ?_)
  refine aP.bif (fun _=>aP.inr rfl) (fun c5=>?_)
  refine aP.inl trivial ?_
  rw [aF h3 Bh3]
 ·simp only [step,SS]
  refine cL dn (⟨0,?_⟩)
  exact fz
def af:cj 126 aM:=VV (run:=fun n x=>start (iter step n) x.1 x.2) mix az (cO Z254.af) Tryz.func126 (by kernel_rfl) run_eq (fun _ a _ _ hg=>bn a.1 a.2 hg)
def md_eq (a0 a1:List aN):md a0 a1=iV a0 a1:=by
 refine iR (aN.zero) (fun i s h h2=>?_) (fun s=>rfl)
 simp only [bne,jQ,bool_beq,gp,Z254.md_eq]
 cases iV _ _<;>rfl
end Z255
namespace Z256
def F (x0 x1:aW):aD:=(call (Z253.R (x0.ay,x1.ay)) fun v1=>(cond v1 (call (Z255.R (x0.aY,x1.aY)) fun v2=>ret v2) (ret false)))
def md (a0 a1:ak):Bool:=(cond (Z253.md a0.ay a1.ay) ((Z255.md a0.aY a1.aY)) false)
def gd (a0 a1:ak):Prop:=(ak.Sm (2^21) a0)/\(ak.Sm (2^21) a1)
def R:=cI gd md
def aj {a0 a1}(h:gd a0 a1):R ((ak.r a0),(ak.r a1))=some (md a0 a1):=cH h
def aM:=CN [.agg wg,.agg wg] oB RT.dec R
def bn (a0)(a1)(hg:gd a0 a1):F (ak.r a0) (ak.r a1)=ret (md a0 a1):=by
 obtain ⟨H0,H1⟩:=hg
 refine ct (Z253.aj ⟨H0.1,H1.1⟩) (bs (fun c1=>?_) (fun _=>rfl))
 exact ct (Z255.aj ⟨H0.2,H1.2⟩) fz
def af:cj 24 aM:=W2 17 F mix az bn (fc Z253.af Z255.af) Tryz.func24
def md_eq (a0 a1:ak):md a0 a1=iV a0 a1:=by
 unfold md
 cases a0;cases a1
 rw [Bool.eq_iff_iff]
 simp [dO,gp,ak.mk.injEq,Z253.md_eq,Z255.md_eq]
end Z256
namespace Z257
def F (x0 x1:cT):aD:=(call (Z256.R (x0.bJ,x1.bJ)) fun v1=>(cond v1 (cond (x0.cz==x1.cz) (call (Z219.R (x0.aJ,x1.aJ)) fun v2=>(cond v2 (call (Z170.R (x0.bf,x1.bf)) fun v3=>(cond v3 (ret ((x0.fZ==x1.fZ))) (ret false))) (ret false))) (ret false)) (ret false)))
def md (a0 a1:bq):Bool:=(cond (Z256.md a0.bJ a1.bJ) (cond (a0.cz==a1.cz) (cond (Z219.md a0.aJ a1.aJ) (cond (Z170.md a0.bf a1.bf) ((a0.fZ==a1.fZ)) false) false) false) false)
def gd (a0 a1:bq):Prop:=(bq.Sm (2^21) a0)/\(bq.Sm (2^21) a1)
def R:=cI gd md
def aj {a0 a1}(h:gd a0 a1):R ((bq.r a0),(bq.r a1))=some (md a0 a1):=cH h
def aM:=CN [.agg Ar,.agg Ar] oB RT.dec R
def bn (a0)(a1)(hg:gd a0 a1):F (bq.r a0) (bq.r a1)=ret (md a0 a1):=by
 obtain ⟨H0,H1⟩:=hg
 refine ct (Z256.aj ⟨H0.1,H1.1⟩) (bs (fun c1=>?_) (fun _=>rfl))
 refine bs (fun c2=>?_) (fun _=>rfl)
 refine ct (Z219.aj ⟨H0.2.1,H1.2.1⟩) (bs (fun c3=>?_) (fun _=>rfl))
 refine ct (Z170.aj ⟨(H0.2.2.mono (by decide) (fun x hx=>trivial)),(H1.2.2.mono (by decide) (fun x hx=>trivial))⟩) (bs (fun c4=>?_) (fun _=>rfl))
 exact fz
def af:cj 61 aM:=W2 38 F mix az bn (jB Z256.af Z219.af Z170.af) Tryz.func61
def md_eq (a0 a1:bq):md a0 a1=iV a0 a1:=by
 unfold md
 cases a0;cases a1
 rw [Bool.eq_iff_iff]
 simp [dO,gp,bq.mk.injEq,Z256.md_eq,Z219.md_eq,Z170.md_eq]
end Z257
namespace Z258
def F (x0:Int)(x1:aq):aD:=(call (Z134.R (x0,1,(x1.length:Int))) fun v1=>(cond (!v1) (ret ((⟨#[]⟩:av):av)) (cA ((0:Int)<=(i64.wrap (x0 - 1))) (cA ((i64.wrap (x0 - 1))<(x1.length:Int)) (ret ((tS x1 (toNat (i64.wrap (x0 - 1)))):av))))))
def md (a0:Int)(a1:List av):av:=(cond (!(Z134.md a0 1 (a1.length:Int))) (((⟨#[]⟩:av):av):av) ((a1.getD (toNat (i64.wrap (a0 - 1))) ⟨#[]⟩):av))
def gd (a0:Int)(a1:List av):Prop:=(bg (2^21) (fun y:av=>y.size<=(2^21)) a1)
def R:=cI gd md
def aj {a0 a1}(h:gd a0 a1):R (a0,(a1.map dL))=some (md a0 a1):=cH h
def aM:=CN [pI,pL 9] oS RT.dec R
def bn (a0)(a1)(hg:gd a0 a1):F a0 (a1.map dL)=ret (md a0 a1):=by
 unfold gd at hg
 have H1:=hg
 unfold F md
 try simp only [SS]
 refine ct (Z134.aj trivial) ?_
 refine bM ret (fun c1=>?_) (fun c1=>?_)
 ·all_goals exact fz
 ·have dc1:=c1
  try simp only [DC] at dc1
  have Dc1:=c1
  try simp [Z134.md] at Dc1
  refine aG (have:=(H1).1;dt) ?_
  refine aG (have:=(H1).1;have:=(H1).1;dt) ?_
  all_goals exact fz
def af:cj 188 aM:=W2 15 F mix az bn (cO Z134.af) Tryz.func188
end Z258
namespace Z259
def F (x0:Int):aD:=(call (Z258.R (x0,[[L.str (⟨#[111,107]⟩:av)],[L.str (⟨#[97,98,115,101,110,116]⟩:av)],[L.str (⟨#[110,111,110,101]⟩:av)],[L.str (⟨#[107,105,110,100]⟩:av)],[L.str (⟨#[109,111,118,101,115]⟩:av)],[L.str (⟨#[112,97,116,104]⟩:av)]])) fun v1=>ret (v1:av))
def md (a0:Int):av:=Z258.md a0 [(⟨#[111,107]⟩:av),(⟨#[97,98,115,101,110,116]⟩:av),(⟨#[110,111,110,101]⟩:av),(⟨#[107,105,110,100]⟩:av),(⟨#[109,111,118,101,115]⟩:av),(⟨#[112,97,116,104]⟩:av)]
def gd (a0:Int):Prop:=True
def R:=RR gd md
def aj {a0}(h:gd a0):R a0=some (md a0):=cQ h
def aM:=CN [pI] oS RT.dec R
def bn (a0)(hg:gd a0):F a0=ret (md a0):=by
 unfold F md
 refine ct (Z258.aj (a0:=a0) (a1:=[(⟨#[111,107]⟩:av),(⟨#[97,98,115,101,110,116]⟩:av),(⟨#[110,111,110,101]⟩:av),(⟨#[107,105,110,100]⟩:av),(⟨#[109,111,118,101,115]⟩:av),(⟨#[112,97,116,104]⟩:av)]) ⟨by show 6<=2^21;decide,fun x hx=>?_⟩) rfl
 simp only [List.mem_cons,List.not_mem_nil,or_false] at hx
 rcases hx with h | h | h | h | h | h<;>(rw [h];exact Nat.le_of_ble_eq_true rfl)
def af:cj 63 aM:=W1 6 F mix az bn (cO Z258.af) Tryz.func63
end Z259
namespace Z260
def F (x0:cT):aD:=ret ((x0.bf.length:Int):Int)
def md (a0:bq):Int:=((a0.bf.length:Int):Int)
def gd (a0:bq):Prop:=True
def R:=RR gd md
def aj {a0}(h:gd a0):R (bq.r a0)=some (md a0):=cQ h
def aM:=CN [.agg Ar] oI RT.dec R
def bn (a0)(hg:gd a0):F (bq.r a0)=ret (md a0):=by
 unfold F md
 try simp only [SS]
 all_goals exact fz
def af:cj 64 aM:=W1 6 F mix az bn .nil Tryz.func64
end Z260
namespace Z261
def F (x0:aW)(x1:Int):aD:=(call (Z230.R (x0,x1)) fun v1=>(cond (v1<0) (ret (([],false):aq×Bool)) (m2 v1 (x0.ay.length:Int) (call (Z131.R (rK x0.ay (toNat v1))) fun v2=>ret ((v2,true):aq×Bool)))))
def md (a0:ak)(a1:Int):List aa×Bool:=(cond ((Z230.md a0 a1)<0) ([],false) ((a0.ay.getD (toNat (Z230.md a0 a1)) []),true))
def gd (a0:ak)(a1:Int):Prop:=(ak.Sm (2^21) a0)
def R:=cI gd md
def aj {a0 a1}(h:gd a0 a1):R ((ak.r a0),a1)=some (((md a0 a1).1.map aa.row),(md a0 a1).2):=cH h
def aM:=CN [.agg wg,pI] (.gW [(false,[.fr 53]),(false,[fB])]) RT.dec R
def bn (a0)(a1)(hg:gd a0 a1):F (ak.r a0) a1=ret (((md a0 a1).1.map aa.row),(md a0 a1).2):=by
 unfold gd at hg
 have H0:=hg
 unfold F md
 try simp only [SS]
 refine ct (Z230.aj H0) ?_
 have fv1_:=Z230.fa a0 a1
 refine bM (fun b:List aa×Bool=>ret (((b.1.map aa.row),b.2):aq×Bool)) (fun c1=>?_) (fun c1=>?_)
 ·all_goals exact fz
 ·have dc1:=c1
  try simp only [DC] at dc1
  refine aG dt ?_
  refine aG (have:=(H0.1).1;dt) ?_
  refine ct (Z131.aj (bg.getD (z:=[]) H0.1 (by first | assumption | omega | (simp (disch:=omega) only [wi];omega) | (simp;omega)))) ?_
  try simp only [SS]
  all_goals exact fz
def af:cj 27 aM:=W2 18 F mix az bn (fc Z230.af Z131.af) Tryz.func27
end Z261
namespace Z262
def F (x0:cT):aD:=(cond (x0.cz != 1) (ret ((0,false):Int×Bool)) (cond (x0.aJ.bt != 1) (ret ((0,false):Int×Bool)) (ret ((x0.aJ.bO,true):Int×Bool))))
def md (a0:bq):Int×Bool:=(cond (a0.cz != 1) (0,false) (cond (a0.aJ.bt != 1) (0,false) (a0.aJ.bO,true)))
def gd (a0:bq):Prop:=True
def R:=RR gd md
def aj {a0}(h:gd a0):R (bq.r a0)=some ((md a0).1,(md a0).2):=cQ h
def aM:=CN [.agg Ar] (.gW [(false,[fI]),(false,[fB])]) RT.dec R
def bn (a0)(hg:gd a0):F (bq.r a0)=ret ((md a0).1,(md a0).2):=by
 unfold F md
 try simp only [SS]
 refine bM (fun b:Int×Bool=>ret ((b.1,b.2):Int×Bool)) (fun _=>rfl) (fun c1=>?_)
 refine bM (fun b:Int×Bool=>ret ((b.1,b.2):Int×Bool)) (fun _=>rfl) (fun c2=>?_)
 all_goals exact fz
def af:cj 66 aM:=W1 16 F mix az bn .nil Tryz.func66
end Z262
namespace Z263
def F (x0:cT):aD:=(cond (x0.cz==3) (ret true) (cond (x0.cz==5) (ret true) (ret ((x0.cz==6)))))
def md (a0:bq):Bool:=(cond (a0.cz==3) true (cond (a0.cz==5) true ((a0.cz==6))))
def gd (a0:bq):Prop:=True
def R:=RR gd md
def aj {a0}(h:gd a0):R (bq.r a0)=some (md a0):=cQ h
def aM:=CN [.agg Ar] oB RT.dec R
def bn (a0)(hg:gd a0):F (bq.r a0)=ret (md a0):=by
 refine bs (fun _=>rfl) (fun c1=>?_)
 refine bs (fun _=>rfl) (fun c2=>?_)
 exact fz
def af:cj 67 aM:=W1 16 F mix az bn .nil Tryz.func67
end Z263
namespace Z264
inductive Pt where
 | p0 (a b:Int) (c:av) (d e f:Int) (g h i j k l:aq)
def pid:Pt->Nat
 | .p0 ..=>10
def cM:Pt->List V
 | .p0 a b c d e f g h i j k l=>[.bP 0 0,.bP 1 0,.int .i64 a]
def dQ:Pt->List aK
 | .p0 a b c d e f g h i j k l=>[.box [.own 2,.own 3],.box [.own 4,.own 5,.int .i64 b,.str c,.int .i64 d,.int .i64 e,.own 6,.own 7,.int .i64 f],.row 37 g,.row 170 h,.row 37 i,.row 170 j,.row 9 k,.row 3 l]
def step (J:Pt->aD):Pt->aD
 | .p0 a b c d e f g h i j k l=>(cond (a<(g.length:Int)) (m2 a (g.length:Int) (cA ((0:Int)<((rK g (toNat a)).length:Int)) (call (Z261.R ((⟨i,j⟩:aW),(aU.at (rK g (toNat a)) 0).an.aX)) fun v1=>(cond (!v1.2) eM (m2 a (g.length:Int) (call (Z232.R ((rK g (toNat a)),v1.1)) fun v2=>(cond (!v2) eM (J (.p0 (i64.wrap (a+1)) b c d e f g h i j k l))))))))) (call (Z262.R (⟨(⟨i,j⟩:aW),b,(⟨c,d,e,k⟩:bk),l,f⟩:cT)) fun v3=>(cond (b==1) (cond (v3.2==(d==1)) (cond (!v3.2) (call (Z263.R (⟨(⟨i,j⟩:aW),b,(⟨c,d,e,k⟩:bk),l,f⟩:cT)) fun v4=>(cond (b==3) (ret ((v4==true):Bool)) (cond (b==5) (ret ((v4==true):Bool)) (ret ((v4==(b==6)):Bool))))) (cond (v3.1==e) (call (Z263.R (⟨(⟨i,j⟩:aW),b,(⟨c,d,e,k⟩:bk),l,f⟩:cT)) fun v5=>(cond (b==3) (ret ((v5==true):Bool)) (cond (b==5) (ret ((v5==true):Bool)) (ret ((v5==(b==6)):Bool))))) eM)) eM) (cond (v3.2==false) (cond (!v3.2) (call (Z263.R (⟨(⟨i,j⟩:aW),b,(⟨c,d,e,k⟩:bk),l,f⟩:cT)) fun v6=>(cond (b==3) (ret ((v6==true):Bool)) (cond (b==5) (ret ((v6==true):Bool)) (ret ((v6==(b==6)):Bool))))) (cond (v3.1==e) (call (Z263.R (⟨(⟨i,j⟩:aW),b,(⟨c,d,e,k⟩:bk),l,f⟩:cT)) fun v7=>(cond (b==3) (ret ((v7==true):Bool)) (cond (b==5) (ret ((v7==true):Bool)) (ret ((v7==(b==6)):Bool))))) eM)) eM))))
def start (J:Pt->aD)(x0:aq):aD:=(call (Z0.R x0) fun v1=>(cond v1 nS (call (Z98.R x0) fun v2=>(call (Z250.R (v2.1,v2.2.1,v2.2.2.1,v2.2.2.2.1,v2.2.2.2.2)) fun v3=>(call (Z125.R (v2.1,v2.2.1,v2.2.2.1,v2.2.2.2.1,v2.2.2.2.2)) fun v4=>(call (Z257.R (v3,v4)) fun v5=>(cond (!v5) eM (call (Z259.R v3.cz) fun v6=>(cond (v6==⟨#[]⟩) eM (cond (v3.fZ>3) eM (call (Z260.R v3) fun v7=>(cond (v7>16) eM (call (Z13.R v2.2.2.2.1) fun v8=>(cond (!((v3.cz==6)==(!v8))) eM (cond ((v3.bf.length:Int)>0) (cA ((0:Int)<(v3.bf.length:Int)) (cond ((jz v3.bf 0) != v2.2.2.1) eM (cond (!((v3.cz==1)==(v3.aJ.bt != 0))) eM (J (.p0 0 v3.cz v3.aJ.aS v3.aJ.bt v3.aJ.bO v3.fZ v2.1.ay v2.1.aY v3.bJ.ay v3.bJ.aY v3.aJ.bC v3.bf))))) (cond (!((v3.cz==1)==(v3.aJ.bt != 0))) eM (J (.p0 0 v3.cz v3.aJ.aS v3.aJ.bt v3.aJ.bO v3.fZ v2.1.ay v2.1.aY v3.bJ.ay v3.bJ.aY v3.aJ.bC v3.bf))))))))))))))))))
def live:Nat->Live:=gL [(10,jC [3,8,9])]
def pats:List fF:=[.rd (.sl 5)]
def res:RP:=.one (.rd (.bool))
abbrev E:Env:={ T:=assoc mC,G:=cZ [(20,Z0.aM),(59,Z98.aM),(60,Z250.aM),(62,Z125.aM),(61,Z257.aM),(63,Z259.aM),(64,Z260.aM),(65,Z13.aM),(27,Z261.aM),(28,Z232.aM),(66,Z262.aM),(67,Z263.aM)],nt:=165,M:=ff [],np:=0,mt:=false,I:=gy [] }
def step_eq (I:dD)(p:Pt):dU E live I (pid p) (bL Tryz.f8) (iT (live (pid p)) (cM p) (dQ p)) (dA E Tryz.f8 res)=step (fun q=>I (pid q) (cM q) (dQ q)) p:=by
 cases p<;>kernel_rfl
def start_eq (I:dD)(ls:List L):gO E live I (bL Tryz.f8) (dJ pats ls) (dA E Tryz.f8 res)=start (fun q=>I (pid q) (cM q) (dQ q)) (eU ls):=by kernel_rfl
def run_eq (n:Nat)(ls:List L):eY E live Tryz.f8 res n (dJ pats ls)=start (iter step n) (eU ls):=dI (id:=pid) (vs:=cM) (hs:=dQ) (step:=step) (start:=fun J=>start J (eU ls)) step_eq (fun I=>start_eq I ls) n
open Z98 (yl Ext z0 pre)
def C8 {z:Int}{l:av}{now:Int}{y:aA}{k:ak}(h:yl k):yl (Z122.pq z l now y k).1/\Ext k (Z122.pq z l now y k).1:=by
 unfold Z122.pq
 cases (Z61.md y.aC).2&&((Z61.md y.aC).1.aX==z)
 ·exact ⟨h,Z98.Ext.refl k⟩
 ·exact Z98.xH _ h
def wV {hd:au}{l:av}{y:aA}(h:Z116.md hd l y=true)(hf:y.bK=true):y.aJ.bt≠0:=by
 intro hk
 unfold Z116.md at h
 rw [hf] at h
 simp only [aO] at h
 cases h1:(y.aJ.aS==l)<;>rw [h1] at h
 ·cases h
 ·have hi:Z14.md y.aJ=false:=by unfold Z14.md;rw [hk];rfl
  have hc:Z109.md hd.dx hd.bZ y.aJ y.eI=false:=by unfold Z109.md;rw [hi];rfl
  rw [hc] at h
  cases h
def Dd {z:Int}{l:av}{y:aA}{now:Int}(h:Z117.md z l y now=1):Z116.md (Z61.md y.aC).1 l y=true:=by
 unfold Z117.md at h
 revert h
 simp only [Bool.cond_eq_ite]
 repeat' split
 all_goals first | (intro h;cases h;done) | skip
 rename_i h
 intro _
 simpa using h
def AQ {z:Int}{l:av}{now:Int}{y:aA}{k:ak}(h:(Z122.pq z l now y k).2=1)(hf:y.bK=true):y.aJ.bt≠0:=by
 have h2:(Z117.md z l y now)=1:=by
  unfold Z122.pq at h
  simp only at h
  generalize (cond ((Z61.md y.aC).2&&((Z61.md y.aC).1.aX==z)) (Z93.md k y.aC) (k,6))=kn at h
  revert h
  cases (Z117.md z l y now==1&&!((kn.2==1||(kn.2==2||kn.2==3))&&!Z121.md kn.1 z))
  ·exact id
  ·intro h;cases h
 exact wV (Dd h2) hf
def zl {z:Int}{l:av}{now:Int}:∀(xs:List aA) (s:List (List aa)×List aN×List Int),yl ⟨s.1,s.2.1⟩->
  yl (dM (Z122.vL z l now) Z122.fin xs s).bJ/\Ext ⟨s.1,s.2.1⟩ (dM (Z122.vL z l now) Z122.fin xs s).bJ/\((dM (Z122.vL z l now) Z122.fin xs s).jy=true->(dM (Z122.vL z l now) Z122.fin xs s).bK=true->(dM (Z122.vL z l now) Z122.fin xs s).aJ.bt≠0)
 | [],s,h=>⟨h,Z98.Ext.refl _,fun h=>by cases h⟩
 | y::xs,s,h=>by
  obtain ⟨h1,h2⟩:=C8 (z:=z) (l:=l) (now:=now) (y:=y) h
  unfold dM
  cases e:((Z122.pq z l now y ⟨s.1,s.2.1⟩).2==1)
  ·rw [show Z122.vL z l now y s=.inl ((Z122.pq z l now y ⟨s.1,s.2.1⟩).1.ay,(Z122.pq z l now y ⟨s.1,s.2.1⟩).1.aY,s.2.2++[(Z122.pq z l now y ⟨s.1,s.2.1⟩).2]) by unfold Z122.vL;rw [e];rfl]
   obtain ⟨i1,i2,i3⟩:=zl (z:=z) (l:=l) (now:=now) xs ((Z122.pq z l now y ⟨s.1,s.2.1⟩).1.ay,(Z122.pq z l now y ⟨s.1,s.2.1⟩).1.aY,s.2.2++[(Z122.pq z l now y ⟨s.1,s.2.1⟩).2]) h1
   exact ⟨i1,Z98.Ext.trans h2 i2,i3⟩
  ·rw [show Z122.vL z l now y s=.inr ⟨(Z122.pq z l now y ⟨s.1,s.2.1⟩).1,y.bK,y.aJ,true,s.2.2++[(Z122.pq z l now y ⟨s.1,s.2.1⟩).2]⟩ by unfold Z122.vL;rw [e];rfl]
   exact ⟨h1,h2,fun _ hf=>AQ (beq_iff_eq.1 e) hf⟩
def C7 {l:bF}{mv:Int}{p:List av}{q:Int×ah}(h:Z125.nx l mv p=.inl q)(hk:l.jy=true->l.bK=true->l.aJ.bt≠0):1<=q.1/\q.1<=5/\(q.1=1↔q.2.bt≠0):=by
 have z:∀c:Int,2<=c->c<=5->q=(c,⟨⟨#[]⟩,0,0,[]⟩)->1<=q.1/\q.1<=5/\(q.1=1↔q.2.bt≠0):=by
  intro c h1 h2 e
  rw [e]
  exact ⟨show 1<=c by omega,h2,fun h=>by have h:c=1:=h;omega,fun h=>absurd rfl h⟩
 unfold Z125.nx at h
 cases hd:l.jy<;>rw [hd] at h
 ·exact z 3 (by decide) (by decide) (by injection h with h;exact h.symm)
 cases hf:l.bK<;>rw [hf] at h
 ·exact z 2 (by decide) (by decide) (by injection h with h;exact h.symm)
 have hk:=hk hd hf
 simp only [Bool.not_true,aR] at h
 cases h3:(l.aJ.bt==3)<;>rw [h3] at h<;>simp only [aO,aR] at h
 ·cases h4:((p.tail.length:Int)==0)<;>rw [h4] at h<;>simp only [aO,aR] at h
  ·cases h5:(l.aJ.bt==2)<;>rw [h5] at h<;>simp only [aO,aR] at h
   ·exact z 4 (by decide) (by decide) (by injection h with h;exact h.symm)
   ·cases h
  ·injection h with h
   rw [<-h]
   exact ⟨Int.le_refl _,show (1:Int)<=5 by decide,fun _=>hk,fun _=>rfl⟩
 ·cases h4:decide (mv>=3)<;>rw [h4] at h<;>simp only [aO,aR] at h
  ·cases h5:Z13.md (l.aJ.bC++p.tail)<;>rw [h5] at h
   ·exact z 5 (by decide) (by decide) (by injection h with h;exact h.symm)
   ·cases h
  ·exact z 5 (by decide) (by decide) (by injection h with h;exact h.symm)
def Dl {l:bF}{mv:Int}{x:av}{xs:List av}{q:Int×Int×List av}(h:Z125.nx l mv (x::xs)=.inr q)(hp:Z13.md (x::xs)=true)(h0:0<=mv)(hm:mv<=3):Z13.md q.2.2=true/\0<=q.1/\q.1<=3/\(3 - q.1)*4+(q.2.2.length:Int)+1<=(3 - mv)*4+((x::xs).length:Int):=by
 unfold Z125.nx at h
 simp only [List.tail_cons] at h
 cases hd:l.jy<;>rw [hd] at h
 ·cases h
 cases hf:l.bK<;>rw [hf] at h
 ·cases h
 simp only [Bool.not_true,aR] at h
 cases h3:(l.aJ.bt==3)<;>rw [h3] at h<;>simp only [aO,aR] at h
 ·cases h4:((xs.length:Int)==0)<;>rw [h4] at h<;>simp only [aO,aR] at h
  ·cases h5:(l.aJ.bt==2)<;>rw [h5] at h<;>simp only [aO,aR] at h
   ·cases h
   ·injection h with h
    rw [<-h]
    refine ⟨Z13.tl hp (by simpa using h4),h0,hm,?_⟩
    show (3 - mv)*4+(xs.length:Int)+1<=(3 - mv)*4+((x::xs).length:Int)
    simp only [List.length_cons]
    omega
  ·cases h
 ·cases h4:decide (mv>=3)<;>rw [h4] at h<;>simp only [aO,aR] at h
  ·cases h5:Z13.md (l.aJ.bC++xs)<;>rw [h5] at h
   ·cases h
   ·simp only [Bool.not_true,aR] at h
    injection h with h
    rw [<-h]
    have h6:=(Z13.tr h5).1.2
    have h4:¬mv>=3:=of_decide_eq_false h4
    refine ⟨h5,by show 0<=mv+1;omega,by show mv+1<=3;omega,?_⟩
    show (3 - (mv+1))*4+((l.aJ.bC++xs).length:Int)+1<=(3 - mv)*4+((x::xs).length:Int)
    simp only [List.length_cons]
    omega
  ·cases h
def Fj (k:ak)(zs:List Int)(z m:Int)(t:bq):Prop:=(yl t.bJ/\Ext k t.bJ)/\t.fZ<=3/\(1<=t.cz/\t.cz<=5)/\(t.bf.length:Int)<=zs.length+m/\(∃r,t.bf=zs++z::r)/\(t.cz=1↔t.aJ.bt≠0)
def D0 {s:List aB}{now:Int}:∀(n:Nat) (k:ak) (zs:List Int) (mv z:Int) (p:List av),yl k->Z13.md p=true->0<=mv->mv<=3->(3 - mv)*4+(p.length:Int)<=n->
  Fj k zs z ((3 - mv)*4+(p.length:Int)) (Z125.rs (Z125.lk s now) n () k zs mv z p).1:=by
 intro n
 induction n with
 | zero=>intro k zs mv z p _ hp _ _ hm;have:=(Z13.tr hp).1;omega
 | succ n ih=>
  intro k zs mv z p hk hp h0 h3 hm
  obtain ⟨x,xs,rfl⟩:∃x xs,p=x::xs:=by
   cases p with
   | nil=>have:=(Z13.tr hp).1;simp at this
   | cons x xs=>exact ⟨x,xs,rfl⟩
  have hl:=zl (z:=z) (l:=x) (now:=now) (Z106.md s z x) (k.ay,k.aY,[]) hk
  rw [<-Z122.sF] at hl
  have e:(Z125.lk s now () k z ((x::xs).getD 0 ⟨#[]⟩)).1=Z122.md k (Z106.md s z x) z x now:=rfl
  obtain ⟨l1,l2,l3⟩:=hl
  cases hn:Z125.nx (Z125.lk s now () k z ((x::xs).getD 0 ⟨#[]⟩)).1 mv (x::xs) with
  | inl q=>
   rw [Z125.vB hn,e]
   obtain ⟨q1,q2,q3⟩:=C7 hn l3
   refine ⟨⟨l1,l2⟩,h3,⟨q1,q2⟩,?_,⟨[],rfl⟩,q3⟩
   show ((zs++[z]).length:Int)<=_
   simp only [List.length_append,List.length_cons,List.length_nil]
   omega
  | inr q=>
   rw [Z125.vq hn,e]
   show Fj k zs z _ (Z125.rs (Z125.lk s now) n () (Z122.md k (Z106.md s z x) z x now).bJ (zs++[z]) q.1 q.2.1 q.2.2).1
   obtain ⟨q1,q2,q3,q4⟩:=Dl hn hp h0 h3
   obtain ⟨⟨i1,i2⟩,i3,i4,i5,⟨r,i6⟩,i7⟩:=ih (Z122.md k (Z106.md s z x) z x now).bJ (zs++[z]) q.1 q.2.1 q.2.2 l1 q1 q2 q3 (by omega)
   refine ⟨⟨i1,Z98.Ext.trans l2 i2⟩,i3,i4,?_,⟨q.2.1::r,by rw [i6];simp⟩,i7⟩
   simp only [List.length_append,List.length_cons,List.length_nil] at i5 q4 ⊢
   omega
def gd (x0:aq):Prop:=∃a:List Int,x0=a.map aV
def post (x0:aq)(y:Bool):Prop:=y=true
def wp (x0:aq)(hg:gd x0):∃n,Wp (start (iter step n) x0) (post x0):=by
 obtain ⟨a,rfl⟩:=hg
 by_cases hbig:((a.map aV).length:Int)>1048576
 ·refine ⟨0,?_⟩
  unfold start
  refine bX (Z0.aj (a0:=a) trivial) (wp_cond (fun _=>wp_ret rfl) (fun c=>?_))
  have :Z0.md a=true:=decide_eq_true (by rw [List.length_map] at hbig;exact hbig)
  rw [this] at c;cases c
 have ha:(a.map aV).length<=1048576:=by omega
 obtain ⟨v2,hv2,k,s,p,e2,k1,ko,k2,k4⟩:=Z98.iN (x0:=a.map aV) ha
 generalize v2.2.2.2.2=now at e2
 generalize v2.2.2.1=root at e2
 subst e2
 have k4':bg (2^21) (fun y:av=>y.size<=2^21) p:=k4.mono (by decide) fun _ h=>le_trans h (by decide)
 have k2':bg (2^21) (fun y:aB=>aB.Sm (2^21) y) s:=k2.mono (by decide) fun _ h=>aB.dV (by decide) h
 have gr:Z125.gd k s root p now:=⟨k1,k2',k4'⟩
 have ht:=Z125.fo gr
 have hp22:bg (2^22) (fun y:av=>y.size<=(2^22)) p:=k4.mono (by decide) fun _ h=>le_trans h (by decide)
 obtain ⟨t,et⟩:∃t,t=Z125.md k s root p now:=⟨_,rfl⟩
 have hr:yl t.bJ/\Ext k t.bJ/\t.fZ<=3/\(1<=t.cz/\t.cz<=6)/\t.bf.length<=16/\(∀z r,t.bf=z::r->z=root)/\((t.cz=1)↔(t.aJ.bt≠0))/\((t.cz=6)↔Z13.md p=false):=by
  rw [et]
  unfold Z125.md
  cases hp:Z13.md p
  ·refine ⟨ko,Z98.Ext.refl k,show (0:Int)<=3 by decide,⟨show (1:Int)<=6 by decide,Int.le_refl _⟩,zero_le _,fun z r h=>(by cases h),⟨fun h=>(by cases h),fun h=>absurd rfl h⟩,⟨fun _=>rfl,fun _=>rfl⟩⟩
  ·have hl:=(Z13.tr hp).1
   have hq:=D0 (s:=s) (now:=now) 17 k [] 0 root p ko hp (by decide) (by decide) (by omega)
   simp only [Bool.not_true,aR]
   obtain ⟨⟨i1,i2⟩,i3,i4,i5,⟨r,i6⟩,i7⟩:=hq
   refine ⟨i1,i2,i3,⟨i4.1,by omega⟩,?_,fun z r' h=>?_,i7,⟨fun h=>by omega,fun h=>(by cases h)⟩⟩
   ·simp only [List.length_nil] at i5;omega
   ·rw [i6] at h
    injection h with h
    exact h.symm
 have htS:bq.Sm (2^21) t:=by rw [et];exact ht
 clear ht
 obtain ⟨r1,r2,r3,r4,r5,r6,r7,r8⟩:=hr
 have hsi:Z263.md t=(t.cz==3||(t.cz==5||t.cz==6)):=by
  unfold Z263.md
  cases t.cz==3<;>cases t.cz==5<;>rfl
 have silent:Wp (call (Z263.R (bq.r t)) fun v4=>(cond (t.cz==3) (ret ((v4==true):Bool)) (cond (t.cz==5) (ret ((v4==true):Bool)) (ret ((v4==(t.cz==6)):Bool))))) (fun y:Bool=>y=true):=by
  refine bX (Z263.aj (a0:=t) trivial) ?_
  rw [hsi]
  refine wp_cond (fun h=>wp_ret ?_) (fun h=>wp_cond (fun h2=>wp_ret ?_) (fun h2=>wp_ret ?_))
  ·rw [h];rfl
  ·rw [h,h2];rfl
  ·rw [h,h2]
   show ((false||(false||(t.cz==6)))==(t.cz==6))=true
   rw [Bool.false_or,Bool.false_or];exact beq_self_eq_true _
 have last:Wp (call (Z262.R (bq.r t)) fun v3=>(cond (t.cz==1) (cond (v3.2==(t.aJ.bt==1)) (cond (!v3.2) (call (Z263.R (bq.r t)) fun v4=>(cond (t.cz==3) (ret ((v4==true):Bool)) (cond (t.cz==5) (ret ((v4==true):Bool)) (ret ((v4==(t.cz==6)):Bool))))) (cond (v3.1==t.aJ.bO) (call (Z263.R (bq.r t)) fun v5=>(cond (t.cz==3) (ret ((v5==true):Bool)) (cond (t.cz==5) (ret ((v5==true):Bool)) (ret ((v5==(t.cz==6)):Bool))))) eM)) eM) (cond (v3.2==false) (cond (!v3.2) (call (Z263.R (bq.r t)) fun v6=>(cond (t.cz==3) (ret ((v6==true):Bool)) (cond (t.cz==5) (ret ((v6==true):Bool)) (ret ((v6==(t.cz==6)):Bool))))) (cond (v3.1==t.aJ.bO) (call (Z263.R (bq.r t)) fun v7=>(cond (t.cz==3) (ret ((v7==true):Bool)) (cond (t.cz==5) (ret ((v7==true):Bool)) (ret ((v7==(t.cz==6)):Bool))))) eM)) eM))) (fun y:Bool=>y=true):=by
  refine bX (Z262.aj (a0:=t) trivial) ?_
  unfold Z262.md
  cases h1:(t.cz==1)
  ·rw [show (t.cz != 1)=true by rw [bne,h1];rfl]
   exact wp_cond (fun h=>by cases h) (fun _=>wp_cond (fun _=>wp_cond (fun _=>silent) (fun h=>by cases h)) (fun h=>by cases h))
  ·rw [show (t.cz != 1)=false by rw [bne,h1];rfl]
   cases h2:(t.aJ.bt==1)
   ·rw [show (t.aJ.bt != 1)=true by rw [bne,h2];rfl]
    exact wp_cond (fun _=>wp_cond (fun _=>wp_cond (fun _=>silent) (fun h=>by cases h)) (fun h=>by cases h)) (fun h=>by cases h)
   ·rw [show (t.aJ.bt != 1)=false by rw [bne,h2];rfl]
    refine wp_cond (fun _=>wp_cond (fun _=>wp_cond (fun h=>by cases h) (fun _=>wp_cond (fun _=>silent) (fun h=>?_))) (fun h=>by cases h)) (fun h=>by cases h)
    have h:(t.aJ.bO==t.aJ.bO)=false:=h
    rw [beq_self_eq_true] at h;cases h
 have hkl:=k1.1.1
 have loop:∃n,Wp (iter step n (.p0 0 t.cz t.aJ.aS t.aJ.bt t.aJ.bO t.fZ (k.ay.map (fR aa.row)) (k.aY.map aN.row) (t.bJ.ay.map (fR aa.row)) (t.bJ.aY.map aN.row) (t.aJ.bC.map dL) (t.bf.map aV))) (fun y:Bool=>y=true):=by
  refine ⟨k.ay.length+1,kH (fun z=>match z with | .p0 a b c d e f g h i j k' l=>(∃n:Nat,a=(n:Int)/\n<=k.ay.length)/\b=t.cz/\c=t.aJ.aS/\d=t.aJ.bt/\e=t.aJ.bO/\f=t.fZ/\g=k.ay.map (fR aa.row)/\h=k.aY.map aN.row/\i=t.bJ.ay.map (fR aa.row)/\j=t.bJ.aY.map aN.row/\k'=t.aJ.bC.map dL/\l=t.bf.map aV) (fun z=>match z with | .p0 a b c d e f g h i j k' l=>((k.ay.length:Int) - a).toNat) (fun J z hI hJ=>?_) _ _ ⟨⟨0,rfl,zero_le _⟩,rfl,rfl,rfl,rfl,rfl,rfl,rfl,rfl,rfl,rfl,rfl⟩ (by show ((k.ay.length:Int) - 0).toNat<_;omega)⟩
  obtain ⟨a',b,c,d,e,f,g,h,i,j,k',l⟩:=z
  obtain ⟨⟨n,rfl,hn⟩,rfl,rfl,rfl,rfl,rfl,rfl,rfl,rfl,rfl,rfl,rfl⟩:=hI
  by_cases hc:n<k.ay.length
  ·obtain ⟨x1,x2⟩:=r2 n hc
   have x3:=ko.1 n hc
   obtain ⟨x4,x5⟩:=Z98.vP x2 x3
   have x6:=r1.find x1
   rw [x5] at x6
   have q1:(n:Int)<(k.ay.length:Int):=by omega
   have q2:(0:Int)<=(n:Int):=by omega
   have q3:(0:Int)<((k.ay.getD n []).length:Int):=by omega
   have hch:Z261.md t.bJ (((k.ay.getD n []).getD 0 aa.zero).an.aX)=(t.bJ.ay.getD n [],true):=by
    have x7:Z230.md t.bJ (((k.ay.getD n []).getD 0 aa.zero).an.aX)=(n:Int):=by rw [Z230.br];exact x6
    unfold Z261.md
    rw [x7,decide_eq_false (by omega)]
    rfl
   simp only [step,MM,S0,aa.rs,q1,q2,q3,decide_true,aO]
   refine bX (Z261.aj (a0:=t.bJ) (a1:=((k.ay.getD n []).getD 0 aa.zero).an.aX) htS.1) ?_
   rw [hch]
   refine wp_cond (fun h=>by cases h) (fun _=>bX (Z232.aj (a0:=k.ay.getD n []) (a1:=t.bJ.ay.getD n []) ⟨bg.getD k1.1 hc,bg.getD htS.1.1 x1⟩) ?_)
   rw [Z232.br,Z98.zq.2 x2,wi _ (by omega)]
   refine wp_cond (fun h=>by cases h) (fun _=>hJ _ ⟨⟨n+1,by omega,by omega⟩,rfl,rfl,rfl,rfl,rfl,rfl,rfl,rfl,rfl,rfl,rfl⟩ ?_)
   show ((k.ay.length:Int) - ((n:Int)+1)).toNat<((k.ay.length:Int) - (n:Int)).toNat
   omega
  ·refine wp_cond (fun h=>?_) (fun _=>last)
   have h:=of_decide_eq_true h
   rw [List.length_map] at h
   omega
 obtain ⟨n,hn⟩:=loop
 refine ⟨n,?_⟩
 unfold start
 refine bX (Z0.aj (a0:=a) trivial) ?_
 rw [show Z0.md a=false from decide_eq_false (by rw [List.length_map] at hbig;exact hbig)]
 refine wp_cond (fun c=>by cases c) (fun _=>bX hv2 ?_)
 refine bX (Z250.aj (a0:=k) (a1:=s) (a2:=root) (a3:=p) (a4:=now) gr) (bX (Z125.aj (a0:=k) (a1:=s) (a2:=root) (a3:=p) (a4:=now) gr) ?_)
 rw [Z250.br,<-et]
 refine bX (Z257.aj (a0:=t) (a1:=t) ⟨htS,htS⟩) ?_
 rw [Z257.md_eq,dO.2 rfl]
 refine wp_cond (fun h=>by cases h) (fun _=>bX (Z259.aj (a0:=t.cz) trivial) (wp_cond (fun h=>?_) (fun _=>?_)))
 ·have hcode:t.cz=1∨t.cz=2∨t.cz=3∨t.cz=4∨t.cz=5∨t.cz=6:=by omega
  rcases hcode with h1 | h1 | h1 | h1 | h1 | h1<;>(rw [h1] at h;cases h)
 refine wp_cond (fun h=>?_) (fun _=>bX (Z260.aj (a0:=t) trivial) (wp_cond (fun h=>?_) (fun _=>bX (Z13.aj (a0:=p) hp22) ?_)))
 ·have h:=of_decide_eq_true h
  have h:t.fZ>3:=h
  omega
 ·have h:=of_decide_eq_true h
  have h:(t.bf.length:Int)>16:=h
  omega
 have c6:(t.cz==6)=(!Z13.md p):=by
  cases hp:Z13.md p
  ·exact beq_iff_eq.2 (r8.2 hp)
  ·refine beq_eq_false_iff_ne.2 fun h=>?_
   rw [r8.1 h] at hp;cases hp
 have c1:(t.cz==1)=(t.aJ.bt != 0):=by
  cases hk:(t.aJ.bt != 0)
  ·refine beq_eq_false_iff_ne.2 fun h=>r7.1 h ?_
   simpa using hk
  ·exact beq_iff_eq.2 (r7.2 (by simpa using hk))
 have rest:Wp (cond (!((t.cz==1)==(t.aJ.bt != 0))) eM (iter step n (.p0 0 t.cz t.aJ.aS t.aJ.bt t.aJ.bO t.fZ (k.ay.map (fR aa.row)) (k.aY.map aN.row) (t.bJ.ay.map (fR aa.row)) (t.bJ.aY.map aN.row) (t.aJ.bC.map dL) (t.bf.map aV)))) (fun y:Bool=>y=true):=by
  rw [c1,beq_self_eq_true]
  exact wp_cond (fun h=>by cases h) (fun _=>hn)
 refine wp_cond (fun h=>?_) (fun _=>wp_cond (fun h=>fE h (wp_cond (fun h2=>?_) (fun _=>rest))) (fun _=>rest))
 ·have h:(!((t.cz==6)==(!Z13.md p)))=true:=h
  rw [c6,beq_self_eq_true] at h;cases h
 ·have h2:(jz (t.bf.map aV) 0 != root)=true:=h2
  have h:decide (((t.bf.map aV).length:Int)>0)=true:=h
  cases hz:t.bf with
  | nil=>rw [hz] at h;cases h
  | cons z r=>
   rw [hz,r6 z r hz] at h2
   have h2:(root != root)=true:=h2
   rw [bne_self_eq_false] at h2;cases h2
def R:(aq)->Option (Bool):=RQ (fun n x=>start (iter step n) x) (fun x=>post x)
def iN {x0:aq}(hg:gd x0):∃y,R x0=some y/\post x0 y:=mh (wp x0 hg)
def acc (ls:List L):aq:=(eU ls)
def aM:gj:=CN pats res acc R
def af:cj 8 aM:=VQ (live:=live) (mt:=false) mix az (DN Z0.af Z98.af Z250.af Z125.af Z257.af Z259.af Z260.af Z13.af Z261.af Z232.af Z262.af Z263.af) .nil .nil Tryz.func8 (by kernel_rfl) run_eq
def holds (ls:List L)(h:kP Ev.cells ([31].flatMap Ev.cells) ls):aM.sem ls=some [.bool true]:=by
 have hk:[31].flatMap Ev.cells=[.sl 5]:=by kernel_rfl
 rw [hk] at h
 obtain ⟨l0,t0,rfl,g0,h1⟩:=h.BM
 obtain ⟨x0,rfl,s0⟩:=Co (show Ev.cells 5=[.int .u8] from by kernel_rfl) B7 g0
 obtain rfl:=h1.CU
 show (R (x0.map aV)).map RT.enc=_
 obtain ⟨y,hy,py⟩:=iN (x0:=(x0.map aV)) ⟨x0,rfl⟩
 have py:y=true:=py
 rw [hy,py]
 rfl
end Z264
end Go.DM
end
