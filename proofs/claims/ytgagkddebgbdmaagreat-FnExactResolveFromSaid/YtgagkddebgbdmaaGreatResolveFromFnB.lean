/- What the functions compute that the law reaches, and that the law returns true. Conditions: none. -/
import Derived.Test.YtgagkddebgbdmaaGreatResolveFromTy
import Derived.Test.YtgagkddebgbdmaaGreatResolveFromFnA
set_option linter.all false
set_option maxRecDepth 100000
noncomputable section
namespace Go.DM
open Go.Proofs
open Go.IntKind (i64)
open Int (toNat)
open Nat (le_trans zero_le)
namespace Z120
def F (x0:bA)(x1:aB):aI:=(call (Z52.R x0) fun v1=>(call (Z118.R (x0,x1)) fun v2=>(cond (v2==1) (cond ((x0.aM.length:Int)>=8) (ret ((v1,6):bA×Int)) (call (Z50.R x1) fun v3=>(bY (fJ ((v1.aM.length+1)*24)) (ret (((⟨(v1.aM++[[L.sl v3]]),v1.bu⟩),v2):bA×Int))))) (cond (v2==3) (bY ((0:Int)<x1.length) (call (Z115.R (x0,(bf.at x1 0).an.bz)) fun v4=>(call (Z50.R x1) fun v5=>(m2 v4 v1.aM.length (ret (((⟨(List.set v1.aM (toNat v4) [L.sl v5]),v1.bu⟩),v2):bA×Int)))))) (cond (v2==5) (bY ((0:Int)<x1.length) (call (Z115.R (x0,(bf.at x1 0).an.bz)) fun v6=>(m2 v6 x0.aM.length (call (Z119.R ((qi x0.aM (toNat v6)),x1)) fun v7=>(cond v7.2 (cond ((x0.bu.length:Int)<8) (bY (fJ ((v1.bu.length+1)*600)) (ret (((⟨v1.aM,(v1.bu++[(bO.enc v7.1)])⟩),v2):bA×Int))) (ret ((v1,v2):bA×Int))) (ret ((v1,v2):bA×Int))))))) (ret ((v1,v2):bA×Int)))))))
def md (a0:aA)(a1:List aa):aA×Int:=(cond ((Z118.md a0 a1)==1) (cond ((a0.aM.length:Int)>=8) (a0,6) ((⟨(a0.aM++[a1]),a0.bu⟩),(Z118.md a0 a1))) (cond ((Z118.md a0 a1)==3) ((⟨(List.set a0.aM (toNat (Z115.md a0 (((a1.getD 0 aa.zero).an).bz))) a1),a0.bu⟩),(Z118.md a0 a1)) (cond ((Z118.md a0 a1)==5) (cond ((Z119.md (a0.aM.getD (toNat (Z115.md a0 (((a1.getD 0 aa.zero).an).bz))) []) a1).2) (cond ((a0.bu.length:Int)<8) ((⟨a0.aM,(a0.bu++[(Z119.md (a0.aM.getD (toNat (Z115.md a0 (((a1.getD 0 aa.zero).an).bz))) []) a1).1])⟩),(Z118.md a0 a1)) (a0,(Z118.md a0 a1))) (a0,(Z118.md a0 a1))) (a0,(Z118.md a0 a1)))))
def gd (a0:aA)(a1:List aa):Prop:=(aA.Sm (2^21) a0)/\(bN (2^21) (fun y:aa=>aa.Sm (2^21) y) a1)
def R:=cm gd md
def ak {a0 a1}(h:gd a0 a1):R ((aA.r a0),(a1.map aa.row))=some ((aA.r (md a0 a1).1),(md a0 a1).2):=cq h
def aT:=CN [.agg xg,pL 178] (.iS [(true,f36),(false,[fI])]) RT.dec R
def aY (a0)(a1)(hg:gd a0 a1):F (aA.r a0) (a1.map aa.row)=ret ((aA.r (md a0 a1).1),(md a0 a1).2):=by
 obtain ⟨H0,H1⟩:=hg
 refine ct (Z52.ak H0) ?_
 simp only [SS]
 refine ct (Z118.ak ⟨H0,H1⟩) ?_
 have fv2_:=Z118.fa a0 a1
 refine ec (fun b:aA×Int=>ret (((aA.r b.1),b.2):bA×Int)) (fun c1=>?_) (fun c1=>?_)
 ·refine ec (fun b:aA×Int=>ret (((aA.r b.1),b.2):bA×Int)) (fun c2=>fz) (fun c2=>?_)
  refine ct (Z50.ak H1) (aj (have:=(H0.1).1;lm) ?_)
  exact fz
 ·refine ec (fun b:aA×Int=>ret (((aA.r b.1),b.2):bA×Int)) (fun c3=>?_) (fun c3=>?_)
  ·have dc3:=c3
   simp only [DC] at dc3
   refine aj dt (ct (Z115.ak H0) ?_)
   have fv4_:=Z115.fa a0 (((a1.getD 0 aa.zero).an).bz)
   refine ct (Z50.ak H1) (aj dt ?_)
   exact aj (have:=(H0.1).1;dt) fz
  ·refine ec (fun b:aA×Int=>ret (((aA.r b.1),b.2):bA×Int)) (fun c4=>?_) (fun c4=>fz)
   have dc4:=c4
   simp only [DC] at dc4
   refine aj dt (ct (Z115.ak H0) ?_)
   have fv6_:=Z115.fa a0 (((a1.getD 0 aa.zero).an).bz)
   refine aj dt (aj (have:=(H0.1).1;dt) ?_)
   refine ct (Z119.ak ⟨(bN.getD H0.1 (by omega)),H1⟩) (ec (fun b:aA×Int=>ret (((aA.r b.1),b.2):bA×Int)) (fun c5=>?_) (fun c5=>fz))
   exact ec (fun b:aA×Int=>ret (((aA.r b.1),b.2):bA×Int)) (fun c6=>aj (have:=(H0.2).1;lm) fz) (fun c6=>fz)
def af:cz 138 aT:=W2 77 F mix aC aY (xy Z52.af Z118.af Z50.af Z115.af Z119.af) Tryz.func138
def iR {a0:aA}{a1:List aa}(hg:gd a0 a1):aA.Sm (2^21) ((md a0 a1).1):=by
 unfold gd at hg;unfold md
 obtain ⟨⟨h1,h2⟩,h3⟩:=hg
 simp only [Bool.cond_eq_ite]
 repeat' split
 all_goals (try simp only [decide_eq_true_eq,ge_iff_le] at *)
 all_goals first
  | exact ⟨h1,h2⟩
  | exact ⟨bN.app (a:=7) (b:=1) ⟨by omega,h1.2⟩ (bN.one h3) (by decide),h2⟩
  | exact ⟨bN.set h1 h3,h2⟩
  | exact ⟨h1,bN.app (a:=7) (b:=1) ⟨by omega,h2.2⟩ (bN.one (Z119.iR ⟨bN.sW h1 bN.nil,h3⟩)) (by decide)⟩
def Cz (c:List (List aa)):Nat:=eC (fun y:List aa=>eC (fun y:aa=>aa.size y) y) c
def Fz (c:List aG):Nat:=eC (fun y:aG=>aG.size y) c
def Bx (X a1:List aa):aG.size (Z119.md X a1).1<=2*eC (fun y:aa=>aa.size y) X+eC (fun y:aa=>aa.size y) a1:=by
 unfold Z119.md
 cases Z88.md X
 ·exact zero_le _
 cases Z88.md a1
 ·exact zero_le _
 cases ((X.getD 0 aa.zero).an.bz != (a1.getD 0 aa.zero).an.bz)
 case true=>exact zero_le _
 cases h1:Z117.md X a1
 case true=>exact zero_le _
 cases h2:Z117.md a1 X
 case true=>exact zero_le _
 obtain ⟨h3,h4,_⟩:=Z119.mM h1 h2
 exact Z119.Bz h3 h4
def grow (a0:aA)(a1:List aa):Cz (md a0 a1).1.aM<=Cz a0.aM+(eC (fun y:aa=>aa.size y) a1+1)/\
  Fz (md a0 a1).1.bu<=Fz a0.bu+(2*Cz a0.aM+eC (fun y:aa=>aa.size y) a1+1):=by
 unfold md Cz Fz
 have hs:=uE (f:=fun y:List aa=>eC (fun y:aa=>aa.size y) y) a0.aM (toNat (Z115.md a0 ((a1.getD 0 aa.zero).an.bz))) a1
 have ha:=sG (f:=fun y:List aa=>eC (fun y:aa=>aa.size y) y) a0.aM a1
 have hk:=sG (f:=fun y:aG=>aG.size y) a0.bu (Z119.md (a0.aM.getD (toNat (Z115.md a0 ((a1.getD 0 aa.zero).an.bz))) []) a1).1
 have hf1:=Bx (a0.aM.getD (toNat (Z115.md a0 ((a1.getD 0 aa.zero).an.bz))) []) a1
 have hg1:=lF (f:=fun y:List aa=>eC (fun y:aa=>aa.size y) y) (xs:=a0.aM) (i:=toNat (Z115.md a0 ((a1.getD 0 aa.zero).an.bz))) (z:=[]) rfl
 (try simp only at hs);(try simp only at ha);(try simp only at hk);(try simp only at hg1)
 simp only [Bool.cond_eq_ite]
 repeat' split
 all_goals constructor<;>(try simp only)<;>omega
end Z120
namespace Z121
def F (x0:dI)(x1:Int):aI:=(call (Z59.R (x1,x0.cT,x0.cL)) fun v1=>ret v1)
def md (a0:aF)(a1:Int):Bool:=((Z59.md a1 a0.cT a0.cL))
def gd (a0:aF)(a1:Int):Prop:=True
def R:=cm gd md
def ak {a0 a1}(h:gd a0 a1):R ((aF.r a0),a1)=some (md a0 a1):=cq h
def aT:=CN [.agg gH,pI] oB RT.dec R
def aY (a0)(a1)(hg:gd a0 a1):F (aF.r a0) a1=ret (md a0 a1):=ct (Z59.ak trivial) fz
def af:cz 153 aT:=W2 11 F mix aC aY (cD Z59.af) Tryz.func153
end Z121
namespace Z122
inductive Pt where
 | p0 (a b c:Int) (d:aB) (e:Int)
def cu:Pt->List V
 | .p0 a b c d e=>[.int .i64 a,.int .i64 b,.int .i64 c,.sl none 3 d,.int .i64 e]
def step (J:Pt->aI):Pt->aI
 | .p0 a b c d e=>(cond (c>1) (cond ((Int.tmod b 2)==1) (cond (e>=(d.length:Int)) (ret ((0,false):Int×Bool)) (cond ((Int.tmod b 2)==1) (m2 e (d.length:Int) (call (Z98.R ((kr d (toNat e)),a)) fun v1=>J (.p0 v1 (i64.wrap (Int.tdiv b 2)) (i64.wrap (Int.tdiv (i64.wrap (c+1)) 2)) d (i64.wrap (e+1))))) (m2 e (d.length:Int) (call (Z98.R (a,(kr d (toNat e)))) fun v2=>J (.p0 v2 (i64.wrap (Int.tdiv b 2)) (i64.wrap (Int.tdiv (i64.wrap (c+1)) 2)) d (i64.wrap (e+1))))))) (cond ((i64.wrap (b+1))<c) (cond (e>=(d.length:Int)) (ret ((0,false):Int×Bool)) (cond ((Int.tmod b 2)==1) (m2 e (d.length:Int) (call (Z98.R ((kr d (toNat e)),a)) fun v3=>J (.p0 v3 (i64.wrap (Int.tdiv b 2)) (i64.wrap (Int.tdiv (i64.wrap (c+1)) 2)) d (i64.wrap (e+1))))) (m2 e (d.length:Int) (call (Z98.R (a,(kr d (toNat e)))) fun v4=>J (.p0 v4 (i64.wrap (Int.tdiv b 2)) (i64.wrap (Int.tdiv (i64.wrap (c+1)) 2)) d (i64.wrap (e+1))))))) (J (.p0 a (i64.wrap (Int.tdiv b 2)) (i64.wrap (Int.tdiv (i64.wrap (c+1)) 2)) d e)))) (cond (e != (d.length:Int)) (ret ((0,false):Int×Bool)) (ret ((a,true):Int×Bool))))
def start (J:Pt->aI)(x0 x1 x2:Int)(x3:aB):aI:=(call (Z59.R (x2,1,12)) fun v1=>(cond (!v1) (ret ((0,false):Int×Bool)) (call (Z59.R (x1,0,(i64.wrap (x2 - 1)))) fun v2=>(cond (!v2) (ret ((0,false):Int×Bool)) (J (.p0 x0 x1 x2 x3 0))))))
def live:Nat->Live:=fK [(4,gj [0,1,2,3,10])]
def tf:Nat->Int->Int->Int->List Int->Int×Bool
 | 0,_,_,_,_=>(0,false)
 | k+1,leaf,i,n,path=>
  if n>1 then
   if i % 2=1∨i+1<n then
    match path with
    | []=>(0,false)
    | p::ps=>tf k (if i % 2=1 then Z98.md p leaf else Z98.md leaf p) (i / 2) ((n+1) / 2) ps
   else tf k leaf (i / 2) ((n+1) / 2) path
  else if path.isEmpty then (leaf,true) else (0,false)
def md (a0 a1 a2:Int)(a3:List Int):Int×Bool:=(cond (!(Z59.md a2 1 12)) (0,false) (bif !(Z59.md a1 0 (i64.wrap (a2 - 1))) then (0,false) else tf 5 a0 a1 a2 a3))
def gd (a0 a1 a2:Int)(a3:List Int):Prop:=bN (2^38) (fun y:Int=>True) a3
def R:=vZ gd md
def ak {a0 a1 a2 a3}(h:gd a0 a1 a2 a3):R (a0,a1,a2,(a3.map bt))=some ((md a0 a1 a2 a3).1,(md a0 a1 a2 a3).2):=wH h
def aT:=CN [pI,pI,pI,pL 3] (.iS [(false,[fI]),(false,[fB])]) RT.dec R
def aY (a0)(a1)(a2)(a3)(hg:gd a0 a1 a2 a3):∃n,start (iter step n) a0 a1 a2 (a3.map bt)=ret ((md a0 a1 a2 a3).1,(md a0 a1 a2 a3).2):=by
 have tm:∀b:Int,0<=b->b<=11->Int.tmod b 2=b % 2:=fun b h1 h2=>Int.tmod_eq_emod_of_nonneg h1
 have td:∀b:Int,0<=b->b<=13->i64.wrap (Int.tdiv b 2)=b / 2:=fun b h1 h2=>by
  rw [Int.tdiv_eq_ediv_of_nonneg h1,Go.IntWalk.i64_in _ (by omega)]
 have t1:∀b:Int,0<=b->b<=13->i64.wrap (b+1)=b+1:=fun b h1 h2=>Go.IntWalk.i64_in _ (by omega)
 obtain ⟨H3,_⟩:=hg
 have key:∀(k:Nat) (leaf i n:Int) (u:Nat),0<=i->i<n->n<=12->n<=2^k->u<=a3.length->∃m,iter step m (Pt.p0 leaf i n (a3.map bt) (u:Int))=ret ((tf (k+1) leaf i n (a3.drop u)).1,(tf (k+1) leaf i n (a3.drop u)).2):=by
  intro k
  induction k with
  | zero=>
   intro leaf i n u h1 h2 h3 h4 h5
   refine ⟨1,?_⟩
   show step (iter step 0) (Pt.p0 _ _ _ _ _)=_
   have hn:n=1:=by omega
   subst hn
   simp only [step,List.length_map]
   refine cW (by decide) ?_
   unfold tf
   rw [if_neg (by omega)]
   by_cases hu:u=a3.length
   ·rw [List.drop_eq_nil_of_le (by omega),show ((u:Int) != (a3.length:Int))=false from bne_eq_false_iff_eq.2 (by omega)];rfl
   ·have hne:(a3.drop u).isEmpty=false:=by
     rw [List.drop_eq_getElem_cons (by omega)];rfl
    rw [hne,show ((u:Int) != (a3.length:Int))=true from bne_iff_ne.2 (by omega)];rfl
  | succ k ih=>
   intro leaf i n u h1 h2 h3 h4 h5
   unfold tf
   by_cases hn:n>1
   ·have e1:=tm i h1 (by omega)
    have e2:=td i h1 (by omega)
    have e3:=t1 n (by omega) (by omega)
    have e4:=td (n+1) (by omega) (by omega)
    have e5:=t1 i h1 (by omega)
    rw [if_pos hn]
    by_cases hc:i % 2=1∨i+1<n
    ·rw [if_pos hc]
     by_cases hu:u=a3.length
     ·refine ⟨1,?_⟩
      show step (iter step 0) (Pt.p0 _ _ _ _ _)=_
      rw [List.drop_eq_nil_of_le (by omega)]
      simp only [step,List.length_map,e1,e5]
      refine aj (decide_eq_true (by omega)) ?_
      by_cases hm:i % 2=1
      ·rw [hm]
       exact aj rfl (aj (decide_eq_true (by omega)) rfl)
      ·refine cW (beq_eq_false_iff_ne.2 hm) (aj (decide_eq_true (by omega)) (aj (decide_eq_true (by omega)) rfl))
     ·have hlt:u<a3.length:=by omega
      rw [List.drop_eq_getElem_cons hlt]
      obtain ⟨m,hm⟩:=ih (if i % 2=1 then Z98.md a3[u] leaf else Z98.md leaf a3[u]) (i / 2) ((n+1) / 2) (u+1) (by omega) (by omega) (by omega) (by omega) (by omega)
      refine ⟨m+1,?_⟩
      show step (iter step m) (Pt.p0 _ _ _ _ _)=_
      have w:i64.wrap ((u:Int)+1)=((u+1:Nat):Int):=by rw [Go.IntWalk.i64_in _ (by omega)];omega
      simp only [step,List.length_map,e1,e2,e3,e4,e5,w,cM,iC,fF hlt]
      refine aj (decide_eq_true (by omega)) ?_
      by_cases hp:i % 2=1
      ·rw [if_pos hp] at hm
       rw [hp]
       refine aj rfl (cW (decide_eq_false (by omega)) (aj rfl (aj (decide_eq_true (by omega)) (aj (decide_eq_true (by omega)) (aU _ (Z98.ak trivial) ?_)))))
       rw [if_pos rfl]
       exact hm
      ·rw [if_neg hp] at hm
       have hb:(i % 2==1)=false:=beq_eq_false_iff_ne.2 hp
       rw [hb]
       refine cW rfl (aj (decide_eq_true (by omega)) (cW (decide_eq_false (by omega)) (cW rfl (aj (decide_eq_true (by omega)) (aj (decide_eq_true (by omega)) (aU _ (Z98.ak trivial) ?_))))))
       rw [if_neg hp]
       exact hm
    ·rw [if_neg hc]
     obtain ⟨m,hm⟩:=ih leaf (i / 2) ((n+1) / 2) u (by omega) (by omega) (by omega) (by omega) h5
     refine ⟨m+1,?_⟩
     show step (iter step m) (Pt.p0 _ _ _ _ _)=_
     simp only [step,List.length_map,e1,e2,e3,e4,e5]
     have hb:(i % 2==1)=false:=beq_eq_false_iff_ne.2 (by omega)
     rw [hb]
     exact aj (decide_eq_true (by omega)) (cW rfl (cW (decide_eq_false (by omega)) hm))
   ·refine ⟨1,?_⟩
    show step (iter step 0) (Pt.p0 _ _ _ _ _)=_
    have hn1:n=1:=by omega
    subst hn1
    simp only [step,List.length_map]
    refine cW (by decide) ?_
    rw [if_neg (by omega)]
    by_cases hu:u=a3.length
    ·rw [List.drop_eq_nil_of_le (by omega),show ((u:Int) != (a3.length:Int))=false from bne_eq_false_iff_eq.2 (by omega)];rfl
    ·have hne:(a3.drop u).isEmpty=false:=by
      rw [List.drop_eq_getElem_cons (by omega)];rfl
     rw [hne,show ((u:Int) != (a3.length:Int))=true from bne_iff_ne.2 (by omega)];rfl
 unfold start md
 refine fP _ (Z59.ak trivial) ?_
 cases hc:Z59.md a2 1 12
 ·exact ⟨0,rfl⟩
 simp only [Bool.not_true,aX]
 refine fP _ (Z59.ak trivial) ?_
 cases hd:Z59.md a1 0 (i64.wrap (a2 - 1))
 ·exact ⟨0,rfl⟩
 have i1:1<=a2/\a2<=12:=by simpa [Z59.md] using hc
 rw [Go.IntWalk.i64_in _ (by omega)] at hd
 have i2:0<=a1/\a1<=a2 - 1:=by simpa [Z59.md] using hd
 exact key 4 a0 a1 a2 0 (by omega) (by omega) (by omega) (by omega) (by omega)
def af:cz 258 aT:=L4 63 (fun _=>4) cu (fun _=>[]) live step start mix aC aY (eP Z59.af Z98.af) Tryz.func258
end Z122
namespace Z123
def F (x0 x1:Int)(x2:bK)(x3:dX):aI:=(call (Z96.R x2) fun v1=>(call (Z122.R (v1,x3.eG,x1,x3.bh)) fun v2=>(call (Z90.R x2) fun v3=>(cond v3 (cond v2.2 (call (Z101.R (x1,v2.1)) fun v4=>ret ((v4==x0))) (ret false)) (ret false)))))
def md (a0 a1:Int)(a2:ah)(a3:aL):Bool:=(cond (Z90.md a2) (cond ((Z122.md (Z96.md a2) a3.eG a1 a3.bh).2) (((Z101.md a1 ((Z122.md (Z96.md a2) a3.eG a1 a3.bh).1))==a0)) false) false)
def gd (a0 a1:Int)(a2:ah)(a3:aL):Prop:=(ah.Sm (2^21) a2)/\(aL.Sm (2^21) a3)
def R:=vZ gd md
def ak {a0 a1 a2 a3}(h:gd a0 a1 a2 a3):R (a0,a1,(ah.r a2),(aL.r a3))=some (md a0 a1 a2 a3):=wH h
def aT:=CN [pI,pI,.agg tw,.agg pP] oB RT.dec R
def aY (a0)(a1)(a2)(a3)(hg:gd a0 a1 a2 a3):F a0 a1 (ah.r a2) (aL.r a3)=ret (md a0 a1 a2 a3):=by
 obtain ⟨H2,H3⟩:=hg
 refine ct (Z96.ak H2) (ct (Z122.ak (H3.mono (by decide) (fun x hx=>trivial))) ?_)
 refine ct (Z90.ak H2) (bs (fun c1=>?_) (fun _=>rfl))
 refine bs (fun c2=>?_) (fun _=>rfl)
 exact ct (Z101.ak trivial) fz
def af:cz 199 aT:=W4 34 F mix aC aY (kE Z96.af Z122.af Z90.af Z101.af) Tryz.func199
end Z123
namespace Z124
inductive Pt where
 | p0 (a b:aB) (c:Int)
def cu:Pt->List V
 | .p0 a b c=>[.sl none 9 a,.sl none 9 b,.int .i64 c]
def step (J:Pt->aI):Pt->aI
 | .p0 a b c=>(cond (c<(a.length:Int)) (m2 c (a.length:Int) (m2 c (b.length:Int) (cond (!((qS a (toNat c))==(qS b (toNat c)))) dx (J (.p0 a b (i64.wrap (c+1))))))) gA)
def start (J:Pt->aI)(x0 x1:aB):aI:=(cond (x0.length != (x1.length:Int)) (ret false) (J (.p0 x0 x1 0)))
def live:Nat->Live:=fK [(4,gj [0,1,5])]
def md (a0 a1:List aE):Bool:=(bif (a0.length != (a1.length:Int)) then false else (eX (S:=Unit) (β:=Bool) (fun i2 s4=>(cond (!((a0.getD i2 ⟨#[]⟩)==(a1.getD i2 ⟨#[]⟩))) (.inr false) (.inl ()))) (fun s4=>true) a0.length 0 ()))
def gd (a0 a1:List aE):Prop:=(bN (2^21) (fun y:aE=>y.size<=(2^21)) a0)/\(bN (2^21) (fun y:aE=>y.size<=(2^21)) a1)
def R:=cm gd md
def ak {a0 a1}(h:gd a0 a1):R ((a0.map cX),(a1.map cX))=some (md a0 a1):=cq h
def aT:=CN [pL 9,pL 9] oB RT.dec R
def aY (a0)(a1)(hg:gd a0 a1):∃n,start (iter step n) (a0.map cX) (a1.map cX)=ret (md a0 a1):=by
 obtain ⟨H0,H1⟩:=hg
 unfold start md
 simp only [SS]
 refine iK ret (fun _=>⟨0,rfl⟩) (fun c1=>?_)
 have dc1:=c1
 simp only [DC] at dc1
 have Bh3:=bl H0
 refine eo fz (cw (pt:=fun (i2:Nat) (s4:Unit)=>Pt.p0 (a0.map cX) (a1.map cX) (i2:Int)) (fun _ _=>True) (fun J i2 s4 h3 hih3=>?_) (fun s4 hih3=>?_) trivial)
 ·simp only [step,SS]
  refine bp.yes dt (bp.yes aD ?_)
  refine bp.yes (aK h3) (bp.yes aD ?_)
  refine bp.yes dt (bp.bif (fun _=>bp.inr rfl) (fun c5=>?_))
  refine bp.inl trivial ?_
  rw [aH h3 Bh3]
 ·simp only [step,SS]
  refine dO dn (⟨0,?_⟩)
  exact fz
def af:cz 313 aT:=L2 26 (fun _=>4) cu (fun _=>[]) live step start mix aC aY .nil Tryz.func313
def md_eq (a0 a1:List aE):md a0 a1=eu a0 a1:=by
 refine lM (⟨#[]⟩) (fun i s h h2=>?_) (fun s=>rfl)
 simp only [bne,gf,bool_beq,fM]
 cases eu _ _<;>rfl
end Z124
namespace Z125
def F (x0 x1:bK):aI:=(cond (x0.aV==x1.aV) (cond (x0.bJ==x1.bJ) (cond (x0.bX==x1.bX) (call (Z124.R (x0.bh,x1.bh)) fun v1=>ret v1) (ret false)) (ret false)) (ret false))
def md (a0 a1:ah):Bool:=(cond (a0.aV==a1.aV) (cond (a0.bJ==a1.bJ) (cond (a0.bX==a1.bX) ((Z124.md a0.bh a1.bh)) false) false) false)
def gd (a0 a1:ah):Prop:=(ah.Sm (2^21) a0)/\(ah.Sm (2^21) a1)
def R:=cm gd md
def ak {a0 a1}(h:gd a0 a1):R ((ah.r a0),(ah.r a1))=some (md a0 a1):=cq h
def aT:=CN [.agg tw,.agg tw] oB RT.dec R
def aY (a0)(a1)(hg:gd a0 a1):F (ah.r a0) (ah.r a1)=ret (md a0 a1):=by
 obtain ⟨H0,H1⟩:=hg
 refine bs (fun c1=>?_) (fun _=>rfl)
 refine bs (fun c2=>?_) (fun _=>rfl)
 refine bs (fun c3=>?_) (fun _=>rfl)
 exact ct (Z124.ak ⟨H0.2,H1.2⟩) fz
def af:cz 262 aT:=W2 31 F mix aC aY (cD Z124.af) Tryz.func262
def md_eq (a0 a1:ah):md a0 a1=eu a0 a1:=by
 unfold md
 cases a0;cases a1
 rw [Bool.eq_iff_iff]
 simp [dm,fM,ah.mk.injEq,Z124.md_eq]
end Z125
namespace Z126
def F (x0 x1:dX):aI:=(cond (x0.eG==x1.eG) (call (Z80.R (x0.bh,x1.bh)) fun v1=>ret v1) (ret false))
def md (a0 a1:aL):Bool:=(cond (a0.eG==a1.eG) ((Z80.md a0.bh a1.bh)) false)
def gd (a0 a1:aL):Prop:=(aL.Sm (2^21) a0)/\(aL.Sm (2^21) a1)
def R:=cm gd md
def ak {a0 a1}(h:gd a0 a1):R ((aL.r a0),(aL.r a1))=some (md a0 a1):=cq h
def aT:=CN [.agg pP,.agg pP] oB RT.dec R
def aY (a0)(a1)(hg:gd a0 a1):F (aL.r a0) (aL.r a1)=ret (md a0 a1):=by
 obtain ⟨H0,H1⟩:=hg
 refine bs (fun c1=>?_) (fun _=>rfl)
 exact ct (Z80.ak ⟨(H0.mono (by decide) (fun x hx=>trivial)),(H1.mono (by decide) (fun x hx=>trivial))⟩) fz
def af:cz 263 aT:=W2 17 F mix aC aY (cD Z80.af) Tryz.func263
def md_eq (a0 a1:aL):md a0 a1=eu a0 a1:=by
 unfold md
 cases a0;cases a1
 rw [Bool.eq_iff_iff]
 simp [dm,fM,aL.mk.injEq,Z80.md_eq]
end Z126
namespace Z127
def F (x0 x1:ff):aI:=(cond (x0.eG==x1.eG) (call (Z125.R (x0.aN,x1.aN)) fun v1=>(cond v1 (call (Z125.R (x0.bT,x1.bT)) fun v2=>(cond v2 (call (Z126.R (x0.dN,x1.dN)) fun v3=>(cond v3 (call (Z126.R (x0.cA,x1.cA)) fun v4=>ret v4) (ret false))) (ret false))) (ret false))) (ret false))
def md (a0 a1:bL):Bool:=(cond (a0.eG==a1.eG) (cond (Z125.md a0.aN a1.aN) (cond (Z125.md a0.bT a1.bT) (cond (Z126.md a0.dN a1.dN) ((Z126.md a0.cA a1.cA)) false) false) false) false)
def gd (a0 a1:bL):Prop:=(bL.Sm (2^21) a0)/\(bL.Sm (2^21) a1)
def R:=cm gd md
def ak {a0 a1}(h:gd a0 a1):R ((bL.r a0),(bL.r a1))=some (md a0 a1):=cq h
def aT:=CN [.agg sQ,.agg sQ] oB RT.dec R
def aY (a0)(a1)(hg:gd a0 a1):F (bL.r a0) (bL.r a1)=ret (md a0 a1):=by
 obtain ⟨H0,H1⟩:=hg
 refine bs (fun c1=>?_) (fun _=>rfl)
 refine ct (Z125.ak ⟨H0.1,H1.1⟩) (bs (fun c2=>?_) (fun _=>rfl))
 refine ct (Z125.ak ⟨H0.2.1,H1.2.1⟩) (bs (fun c3=>?_) (fun _=>rfl))
 refine ct (Z126.ak ⟨H0.2.2.1,H1.2.2.1⟩) (bs (fun c4=>?_) (fun _=>rfl))
 exact ct (Z126.ak ⟨H0.2.2.2,H1.2.2.2⟩) fz
def af:cz 200 aT:=W2 38 F mix aC aY (eP Z125.af Z126.af) Tryz.func200
def md_eq (a0 a1:bL):md a0 a1=eu a0 a1:=by
 unfold md
 cases a0;cases a1
 rw [Bool.eq_iff_iff]
 simp [dm,fM,bL.mk.injEq,Z125.md_eq,Z126.md_eq]
end Z127
namespace Z128
def F (x0:bK)(x1:dX):aI:=(call (Z125.R (x0,(⟨(⟨#[]⟩:aE),0,0,[]⟩))) fun v1=>(cond v1 (call (Z126.R (x1,(⟨0,[]⟩))) fun v2=>ret v2) (ret false)))
def md (a0:ah)(a1:aL):Bool:=(cond (Z125.md a0 (⟨((⟨#[]⟩:aE)),0,0,[]⟩)) ((Z126.md a1 (⟨0,[]⟩))) false)
def gd (a0:ah)(a1:aL):Prop:=(ah.Sm (2^21) a0)/\(aL.Sm (2^21) a1)
def R:=cm gd md
def ak {a0 a1}(h:gd a0 a1):R ((ah.r a0),(aL.r a1))=some (md a0 a1):=cq h
def aT:=CN [.agg tw,.agg pP] oB RT.dec R
def aY (a0)(a1)(hg:gd a0 a1):F (ah.r a0) (aL.r a1)=ret (md a0 a1):=by
 obtain ⟨H0,H1⟩:=hg
 refine ct (Z125.ak (a1:=(⟨((⟨#[]⟩:aE):aE),0,0,[]⟩:ah)) ⟨H0,⟨(by decide),bN.nil⟩⟩) (bs (fun c1=>?_) (fun _=>rfl))
 exact ct (Z126.ak (a1:=(⟨0,[]⟩:aL)) ⟨H1,bN.nil⟩) fz
def af:cz 202 aT:=W2 13 F mix aC aY (eP Z125.af Z126.af) Tryz.func202
end Z128
namespace Z129
def F (x0 x1:Int)(x2:aE)(x3:ff):aI:=(call (Z60.R x2) fun v1=>(cond (!v1) (ret false) (call (Z59.R (x3.eG,0,x1)) fun v2=>(cond (!v2) (ret false) (cond (x1==0) (call (Z102.R []) fun v3=>(cond (x0 != v3) (ret false) (cond (x3.eG==0) (call (Z128.R (x3.aN,x3.dN)) fun v4=>(cond (!v4) (ret false) (cond (x3.eG==x1) (call (Z128.R (x3.bT,x3.cA)) fun v5=>ret v5) (call (Z123.R (x0,x1,x3.bT,x3.cA)) fun v6=>(cond v6 (cond (x3.cA.eG==x3.eG) (call (Z91.R (x3.bT.aV,x2)) fun v7=>ret ((v7==1))) (ret false)) (ret false)))))) (call (Z123.R (x0,x1,x3.aN,x3.dN)) fun v8=>(cond (!v8) (ret false) (cond (x3.dN.eG != (i64.wrap (x3.eG - 1))) (ret false) (call (Z91.R (x3.aN.aV,x2)) fun v9=>(cond (v9 != (-1)) (ret false) (cond (x3.eG==x1) (call (Z128.R (x3.bT,x3.cA)) fun v10=>ret v10) (call (Z123.R (x0,x1,x3.bT,x3.cA)) fun v11=>(cond v11 (cond (x3.cA.eG==x3.eG) (call (Z91.R (x3.bT.aV,x2)) fun v12=>ret ((v12==1))) (ret false)) (ret false)))))))))))) (cond (x3.eG==0) (call (Z128.R (x3.aN,x3.dN)) fun v13=>(cond (!v13) (ret false) (cond (x3.eG==x1) (call (Z128.R (x3.bT,x3.cA)) fun v14=>ret v14) (call (Z123.R (x0,x1,x3.bT,x3.cA)) fun v15=>(cond v15 (cond (x3.cA.eG==x3.eG) (call (Z91.R (x3.bT.aV,x2)) fun v16=>ret ((v16==1))) (ret false)) (ret false)))))) (call (Z123.R (x0,x1,x3.aN,x3.dN)) fun v17=>(cond (!v17) (ret false) (cond (x3.dN.eG != (i64.wrap (x3.eG - 1))) (ret false) (call (Z91.R (x3.aN.aV,x2)) fun v18=>(cond (v18 != (-1)) (ret false) (cond (x3.eG==x1) (call (Z128.R (x3.bT,x3.cA)) fun v19=>ret v19) (call (Z123.R (x0,x1,x3.bT,x3.cA)) fun v20=>(cond v20 (cond (x3.cA.eG==x3.eG) (call (Z91.R (x3.bT.aV,x2)) fun v21=>ret ((v21==1))) (ret false)) (ret false)))))))))))))))
def md (a0 a1:Int)(a2:aE)(a3:bL):Bool:=(cond (!(Z60.md a2)) false (cond (!(Z59.md a3.eG 0 a1)) false (cond (a1==0) (cond (a0 != (Z102.md [])) false (cond (a3.eG==0) (cond (!(Z128.md a3.aN a3.dN)) false (cond (a3.eG==a1) ((Z128.md a3.bT a3.cA)) (cond (Z123.md a0 a1 a3.bT a3.cA) (cond (a3.cA.eG==a3.eG) (((Z91.md a3.bT.aV a2)==1)) false) false))) (cond (!(Z123.md a0 a1 a3.aN a3.dN)) false (cond (a3.dN.eG != (i64.wrap (a3.eG - 1))) false (cond ((Z91.md a3.aN.aV a2) != (-1)) false (cond (a3.eG==a1) ((Z128.md a3.bT a3.cA)) (cond (Z123.md a0 a1 a3.bT a3.cA) (cond (a3.cA.eG==a3.eG) (((Z91.md a3.bT.aV a2)==1)) false) false))))))) (cond (a3.eG==0) (cond (!(Z128.md a3.aN a3.dN)) false (cond (a3.eG==a1) ((Z128.md a3.bT a3.cA)) (cond (Z123.md a0 a1 a3.bT a3.cA) (cond (a3.cA.eG==a3.eG) (((Z91.md a3.bT.aV a2)==1)) false) false))) (cond (!(Z123.md a0 a1 a3.aN a3.dN)) false (cond (a3.dN.eG != (i64.wrap (a3.eG - 1))) false (cond ((Z91.md a3.aN.aV a2) != (-1)) false (cond (a3.eG==a1) ((Z128.md a3.bT a3.cA)) (cond (Z123.md a0 a1 a3.bT a3.cA) (cond (a3.cA.eG==a3.eG) (((Z91.md a3.bT.aV a2)==1)) false) false)))))))))
def gd (a0 a1:Int)(a2:aE)(a3:bL):Prop:=(a2.size<=(2^21))/\(bL.Sm (2^21) a3)
def R:=vZ gd md
def ak {a0 a1 a2 a3}(h:gd a0 a1 a2 a3):R (a0,a1,a2,(bL.r a3))=some (md a0 a1 a2 a3):=wH h
def aT:=CN [pI,pI,pS,.agg sQ] oB RT.dec R
def aY (a0)(a1)(a2)(a3)(hg:gd a0 a1 a2 a3):F a0 a1 a2 (bL.r a3)=ret (md a0 a1 a2 a3):=by
 obtain ⟨H2,H3⟩:=hg
 refine ct (Z60.ak (le_trans H2 (by decide))) (bs (fun _=>rfl) (fun c1=>?_))
 refine ct (Z59.ak trivial) (bs (fun _=>rfl) (fun c2=>?_))
 refine bs (fun c3=>?_) (fun c3=>?_)
 ·refine aU _ (rq (Z102.ak bN.nil)) (bs (fun _=>rfl) (fun c4=>?_))
  refine bs (fun c5=>?_) (fun c5=>?_)
  ·refine ct (Z128.ak ⟨H3.1,H3.2.2.1⟩) (bs (fun _=>rfl) (fun c6=>?_))
   refine bs (fun c7=>ct (Z128.ak ⟨H3.2.1,H3.2.2.2⟩) fz) (fun c7=>?_)
   refine ct (Z123.ak ⟨H3.2.1,H3.2.2.2⟩) (bs (fun c8=>?_) (fun _=>rfl))
   refine bs (fun c9=>?_) (fun _=>rfl)
   exact ct (Z91.ak trivial) fz
  ·refine ct (Z123.ak ⟨H3.1,H3.2.2.1⟩) (bs (fun _=>rfl) (fun c10=>?_))
   refine bs (fun _=>rfl) (fun c11=>?_)
   refine ct (Z91.ak trivial) (bs (fun _=>rfl) (fun c12=>?_))
   refine bs (fun c13=>ct (Z128.ak ⟨H3.2.1,H3.2.2.2⟩) fz) (fun c13=>?_)
   refine ct (Z123.ak ⟨H3.2.1,H3.2.2.2⟩) (bs (fun c14=>?_) (fun _=>rfl))
   refine bs (fun c15=>?_) (fun _=>rfl)
   exact ct (Z91.ak trivial) fz
 ·refine bs (fun c16=>?_) (fun c16=>?_)
  ·refine ct (Z128.ak ⟨H3.1,H3.2.2.1⟩) (bs (fun _=>rfl) (fun c17=>?_))
   refine bs (fun c18=>ct (Z128.ak ⟨H3.2.1,H3.2.2.2⟩) fz) (fun c18=>?_)
   refine ct (Z123.ak ⟨H3.2.1,H3.2.2.2⟩) (bs (fun c19=>?_) (fun _=>rfl))
   refine bs (fun c20=>?_) (fun _=>rfl)
   exact ct (Z91.ak trivial) fz
  ·refine ct (Z123.ak ⟨H3.1,H3.2.2.1⟩) (bs (fun _=>rfl) (fun c21=>?_))
   refine bs (fun _=>rfl) (fun c22=>?_)
   refine ct (Z91.ak trivial) (bs (fun _=>rfl) (fun c23=>?_))
   refine bs (fun c24=>ct (Z128.ak ⟨H3.2.1,H3.2.2.2⟩) fz) (fun c24=>?_)
   refine ct (Z123.ak ⟨H3.2.1,H3.2.2.2⟩) (bs (fun c25=>?_) (fun _=>rfl))
   refine bs (fun c26=>?_) (fun _=>rfl)
   exact ct (Z91.ak trivial) fz
def af:cz 201 aT:=W4 95 F mix aC aY (AD Z60.af Z59.af Z102.af Z128.af Z123.af Z91.af) Tryz.func201
end Z129
namespace Z130
def F (x0:dI)(x1:aE)(x2:bq):aI:=(cond x2.cj (cond (x2.aS.aV==x1) (call (Z123.R (x0.dG,x0.cE,x2.aS,x2.dy)) fun v1=>(cond v1 (call (Z127.R (x2.dA,(⟨0,(⟨(⟨#[]⟩:aE),0,0,[]⟩),(⟨(⟨#[]⟩:aE),0,0,[]⟩),(⟨0,[]⟩),(⟨0,[]⟩)⟩))) fun v2=>ret v2) (ret false))) (ret false)) (call (Z129.R (x0.dG,x0.cE,x1,x2.dA)) fun v3=>(cond v3 (call (Z128.R (x2.aS,x2.dy)) fun v4=>ret v4) (ret false))))
def md (a0:aF)(a1:aE)(a2:aq):Bool:=(cond a2.cj (cond (a2.aS.aV==a1) (cond (Z123.md a0.dG a0.cE a2.aS a2.dy) ((Z127.md a2.dA (⟨0,(⟨((⟨#[]⟩:aE)),0,0,[]⟩),(⟨((⟨#[]⟩:aE)),0,0,[]⟩),(⟨0,[]⟩),(⟨0,[]⟩)⟩))) false) false) (cond (Z129.md a0.dG a0.cE a1 a2.dA) ((Z128.md a2.aS a2.dy)) false))
def gd (a0:aF)(a1:aE)(a2:aq):Prop:=(a1.size<=(2^21))/\(aq.Sm (2^21) a2)
def R:=lp gd md
def ak {a0 a1 a2}(h:gd a0 a1 a2):R ((aF.r a0),a1,(aq.r a2))=some (md a0 a1 a2):=kZ h
def aT:=CN [.agg gH,pS,.agg sn] oB RT.dec R
def aY (a0)(a1)(a2)(hg:gd a0 a1 a2):F (aF.r a0) a1 (aq.r a2)=ret (md a0 a1 a2):=by
 obtain ⟨H1,H2⟩:=hg
 refine bs (fun c1=>?_) (fun c1=>?_)
 ·refine bs (fun c2=>?_) (fun _=>rfl)
  refine ct (Z123.ak ⟨H2.2.1,H2.2.2.1⟩) (bs (fun c3=>?_) (fun _=>rfl))
  exact ct (Z127.ak (a1:=(⟨0,(⟨((⟨#[]⟩:aE):aE),0,0,[]⟩:ah),(⟨((⟨#[]⟩:aE):aE),0,0,[]⟩:ah),(⟨0,[]⟩:aL),(⟨0,[]⟩:aL)⟩:bL)) ⟨H2.2.2.2,⟨⟨(by decide),bN.nil⟩,⟨(by decide),bN.nil⟩,bN.nil,bN.nil⟩⟩) fz
 ·refine ct (Z129.ak ⟨H1,H2.2.2.2⟩) (bs (fun c4=>?_) (fun _=>rfl))
  exact ct (Z128.ak ⟨H2.2.1,H2.2.2.1⟩) fz
def af:cz 154 aT:=W3 46 F mix aC aY (kE Z123.af Z127.af Z129.af Z128.af) Tryz.func154
end Z130
namespace Z131
def F (x0:Int)(x1:aE)(x2:bq)(x3:Int):aI:=(call (Z89.R x2.aQ) fun v1=>(cond (!v1.2) (ret (3:Int)) (cond (v1.1.bz != x0) (ret (2:Int)) (call (Z121.R (v1.1,x3)) fun v2=>(cond (!v2) (ret (4:Int)) (cond v1.1.bD (ret (5:Int)) (call (Z130.R (v1.1,x1,x2)) fun v3=>(cond (!v3) (ret (6:Int)) (ret (1:Int))))))))))
def md (a0:Int)(a1:aE)(a2:aq)(a3:Int):Int:=(cond (!(Z89.md a2.aQ).2) (3:Int) (cond ((Z89.md a2.aQ).1.bz != a0) (2:Int) (cond (!(Z121.md ((Z89.md a2.aQ).1) a3)) (4:Int) (cond ((Z89.md a2.aQ).1.bD) (5:Int) (cond (!(Z130.md ((Z89.md a2.aQ).1) a1 a2)) (6:Int) (1:Int))))))
def gd (a0:Int)(a1:aE)(a2:aq)(a3:Int):Prop:=(a1.size<=(2^21))/\(aq.Sm (2^21) a2)
def R:=vZ gd md
def ak {a0 a1 a2 a3}(h:gd a0 a1 a2 a3):R (a0,a1,(aq.r a2),a3)=some (md a0 a1 a2 a3):=wH h
def aT:=CN [pI,pS,.agg sn,pI] oI RT.dec R
def aY (a0)(a1)(a2)(a3)(hg:gd a0 a1 a2 a3):F a0 a1 (aq.r a2) a3=ret (md a0 a1 a2 a3):=by
 obtain ⟨H1,H2⟩:=hg
 refine ct (Z89.ak H2.1) (bs (fun _=>rfl) (fun c1=>?_))
 refine bs (fun _=>rfl) (fun c2=>?_)
 refine ct (Z121.ak trivial) (bs (fun _=>rfl) (fun c3=>?_))
 refine bs (fun _=>rfl) (fun c4=>?_)
 refine ct (Z130.ak ⟨H1,H2⟩) (bs (fun _=>rfl) (fun _=>rfl))
def af:cz 103 aT:=W4 39 F mix aC aY (kC Z89.af Z121.af Z130.af) Tryz.func103
end Z131
namespace Z132
inductive Pt where
 | p0 (a:Int) (b c:bf)
def cu:Pt->List V
 | .p0 a b c=>[.cC 0 0,.cC 1 0,.int .i64 a]
def cR:Pt->List aW
 | .p0 a b c=>[.box [.int .i64 b.an.bz,.int .i64 b.an.cU,.int .i64 b.an.bJ,.int .i64 b.an.cT,.int .i64 b.an.cL,.int .i64 b.an.cE,.int .i64 b.an.dG,.int .i64 b.an.dY,.sl none 3 b.an.bU.aO,.int .i64 b.an.bU.cO,.sl none 3 b.an.bF.aO,.int .i64 b.an.bF.cO,.int .i64 b.an.dM,.sl none 3 b.an.bC.aO,.int .i64 b.an.bC.cO,.bool b.an.bD,.sl none 227 b.cP],.box [.int .i64 c.an.bz,.int .i64 c.an.cU,.int .i64 c.an.bJ,.int .i64 c.an.cT,.int .i64 c.an.cL,.int .i64 c.an.cE,.int .i64 c.an.dG,.int .i64 c.an.dY,.sl none 3 c.an.bU.aO,.int .i64 c.an.bU.cO,.sl none 3 c.an.bF.aO,.int .i64 c.an.bF.cO,.int .i64 c.an.dM,.sl none 3 c.an.bC.aO,.int .i64 c.an.bC.cO,.bool c.an.bD,.sl none 227 c.cP]]
def step (J:Pt->aI):Pt->aI
 | .p0 a b c=>(cond (a<(b.cP.length:Int)) (m2 a (b.cP.length:Int) (m2 a (c.cP.length:Int) (cond (!((((bn.at b.cP (toNat a)).iD:Int)==(bn.at c.cP (toNat a)).iD)&&((((bn.at b.cP (toNat a)).ko:Int)==(bn.at c.cP (toNat a)).ko)&&true))) dx (J (.p0 (i64.wrap (a+1)) b c))))) gA)
def start (J:Pt->aI)(x0 x1:bf):aI:=(call (Z116.R (x0.an,x1.an)) fun v1=>(cond (!v1) (ret false) (cond (x0.cP.length != (x1.cP.length:Int)) (ret false) (J (.p0 0 x0 x1)))))
def live:Nat->Live:=fK [(4,gj [2,3,5])]
def md (a0 a1:aa):Bool:=(bif (!(Z116.md a0.an a1.an)) then false else (bif (a0.cP.length != (a1.cP.length:Int)) then false else (eX (S:=Unit) (β:=Bool) (fun i3 s5=>(cond (!((((a0.cP.getD i3 bn.zero).iD)==(a1.cP.getD i3 bn.zero).iD)&&((((a0.cP.getD i3 bn.zero).ko)==(a1.cP.getD i3 bn.zero).ko)&&true))) (.inr false) (.inl ()))) (fun s5=>true) a0.cP.length 0 ())))
def gd (a0 a1:aa):Prop:=(aa.Sm (2^21) a0)/\(aa.Sm (2^21) a1)
def R:=cm gd md
def ak {a0 a1}(h:gd a0 a1):R ((aa.r a0),(aa.r a1))=some (md a0 a1):=cq h
def aT:=CN [.agg lU,.agg lU] oB RT.dec R
def aY (a0)(a1)(hg:gd a0 a1):∃n,start (iter step n) (aa.r a0) (aa.r a1)=ret (md a0 a1):=by
 obtain ⟨H0,H1⟩:=hg
 unfold start md
 simp only [SS]
 refine cx (Z116.ak ⟨H0.1,H1.1⟩) (iK ret (fun _=>⟨0,rfl⟩) (fun c1=>?_))
 refine iK ret (fun _=>⟨0,rfl⟩) (fun c2=>?_)
 have dc2:=c2
 simp only [DC] at dc2
 have Bh4:=bl H0.2
 refine eo fz (cw (pt:=fun (i3:Nat) (s5:Unit)=>Pt.p0 (i3:Int) (aa.r a0) (aa.r a1)) (fun _ _=>True) (fun J i3 s5 h4 hih4=>?_) (fun s5 hih4=>?_) trivial)
 ·simp only [step,SS]
  refine bp.yes dt (bp.yes aD ?_)
  refine bp.yes (aK h4) (bp.yes aD ?_)
  refine bp.yes (have:=(H1.2).1;dt) (bp.bif (fun _=>bp.inr rfl) (fun c6=>?_))
  refine bp.inl trivial ?_
  rw [aH h4 Bh4]
 ·simp only [step,SS]
  refine dO dn (⟨0,?_⟩)
  exact fz
def af:cz 293 aT:=L2 39 (fun _=>4) cu cR live step start mix aC aY (cD Z116.af) Tryz.func293
def md_eq (a0 a1:aa):md a0 a1=eu a0 a1:=by
 unfold md
 simp only [Z116.md_eq,gf,bn.eqc]
 rw [lM bn.zero (fun i s h h2=>by cases eu (a0.cP.getD i bn.zero) (a1.cP.getD i bn.zero)<;>rfl) (fun s=>rfl)]
 rw [Bool.eq_iff_iff]
 cases a0;cases a1
 simp [dm]
end Z132
namespace Z133
def F (x0:bO):aI:=(call (Z116.R (x0.fA.an,x0.fB.an)) fun v1=>(cond v1 (ret false) (call (Z132.R (x0.aN,(⟨(⟨0,0,0,0,0,0,0,0,(⟨[],0⟩),(⟨[],0⟩),0,(⟨[],0⟩),false⟩),[]⟩))) fun v2=>(cond v2 (call (Z77.R x0.fA) fun v3=>(cond v3 (call (Z77.R x0.fB) fun v4=>(cond v4 (ret ((x0.fA.an.bz==x0.fB.an.bz))) (ret false))) (ret false))) (call (Z86.R (x0.aN.an,x0.fA)) fun v5=>(cond v5 (call (Z86.R (x0.aN.an,x0.fB)) fun v6=>ret v6) (ret false)))))))
def md (a0:aG):Bool:=(cond (Z116.md a0.fA.an a0.fB.an) false (cond (Z132.md a0.aN (⟨(⟨0,0,0,0,0,0,0,0,(⟨[],0⟩),(⟨[],0⟩),0,(⟨[],0⟩),false⟩),[]⟩)) (cond (Z77.md a0.fA) (cond (Z77.md a0.fB) ((a0.fA.an.bz==a0.fB.an.bz)) false) false) (cond (Z86.md a0.aN.an a0.fA) ((Z86.md a0.aN.an a0.fB)) false)))
def gd (a0:aG):Prop:=(aG.Sm (2^21) a0)
def R:=RR gd md
def ak {a0}(h:gd a0):R (aG.r a0)=some (md a0):=cV h
def aT:=CN [.agg uS] oB RT.dec R
def aY (a0)(H0:gd a0):F (aG.r a0)=ret (md a0):=by
 refine ct (Z116.ak ⟨H0.2.1.1,H0.2.2.1⟩) (bs (fun _=>rfl) (fun c1=>?_))
 refine ct (Z132.ak (a1:=(⟨(⟨0,0,0,0,0,0,0,0,(⟨[],0⟩:aR),(⟨[],0⟩:aR),0,(⟨[],0⟩:aR),false⟩:aF),[]⟩:aa)) ⟨H0.1,⟨⟨bN.nil,bN.nil,bN.nil⟩,bN.nil⟩⟩) (bs (fun c2=>?_) (fun c2=>?_))
 ·refine ct (Z77.ak H0.2.1) (bs (fun c3=>?_) (fun _=>rfl))
  refine ct (Z77.ak H0.2.2) (bs (fun c4=>?_) (fun _=>rfl))
  exact fz
 ·refine ct (Z86.ak ⟨H0.1.1,H0.2.1⟩) (bs (fun c5=>?_) (fun _=>rfl))
  exact ct (Z86.ak ⟨H0.1.1,H0.2.2⟩) fz
def af:cz 238 aT:=W1 47 F mix aC aY (kE Z116.af Z132.af Z77.af Z86.af) Tryz.func238
end Z133
namespace Z134
def F (x0:bO):aI:=(call (Z133.R x0) fun v1=>(cond (!v1) bV (ret x0.fA.an.bz)))
def md (a0:aG):Int:=(cond (!(Z133.md a0)) ((-1):Int) a0.fA.an.bz)
def gd (a0:aG):Prop:=(aG.Sm (2^21) a0)
def R:=RR gd md
def ak {a0}(h:gd a0):R (aG.r a0)=some (md a0):=cV h
def aT:=CN [.agg uS] oI RT.dec R
def aY (a0)(H0:gd a0):F (aG.r a0)=ret (md a0):=by
 refine ct (Z133.ak H0) (bs (fun _=>rfl) (fun c1=>?_))
 exact fz
def af:cz 183 aT:=W1 10 F mix aC aY (cD Z133.af) Tryz.func183
end Z134
namespace Z135
inductive Pt where
 | p0 (a b:Int) (c:bA)
def cu:Pt->List V
 | .p0 a b c=>[.int .i64 a,.cC 0 0,.int .i64 b]
def cR:Pt->List aW
 | .p0 a b c=>[.box [.sl none 120 c.aM,.sl none 180 c.bu]]
def step (J:Pt->aI):Pt->aI
 | .p0 a b c=>(cond (b<(c.bu.length:Int)) (m2 b (c.bu.length:Int) (call (Z134.R (bO.at c.bu (toNat b))) fun v1=>(cond (v1==a) (cond (a>=0) gA (J (.p0 a (i64.wrap (b+1)) c))) (J (.p0 a (i64.wrap (b+1)) c))))) dx)
def start (J:Pt->aI)(x0:bA)(x1:Int):aI:=J (.p0 x1 0 x0)
def live:Nat->Live:=fK [(2,gj [1,2,5])]
def md (a0:aA)(a1:Int):Bool:=(eJ (S:=Unit) (β:=Bool) (fun y1 s3=>(cond ((Z134.md y1)==a1) (cond (a1>=0) (.inr true) (.inl ())) (.inl ()))) (fun s3=>false) a0.bu ())
def gd (a0:aA)(a1:Int):Prop:=(aA.Sm (2^21) a0)
def R:=cm gd md
def ak {a0 a1}(h:gd a0 a1):R ((aA.r a0),a1)=some (md a0 a1):=cq h
def aT:=CN [.agg xg,pI] oB RT.dec R
def aY (a0)(a1)(H0:gd a0 a1):∃n,start (iter step n) (aA.r a0) a1=ret (md a0 a1):=by
 have Bh2:=bl H0.2
 refine ex_eq (fu (z:=aG.zero)) (eo fz ?_)
 refine cw (pt:=fun (i1:Nat) (s3:Unit)=>Pt.p0 a1 (i1:Int) (aA.r a0)) (fun _ _=>True) (fun J i1 s3 h2 hih2=>?_) (fun s3 hih2=>?_) trivial
 ·simp only [step,SS]
  refine bp.yes dt (bp.yes aD ?_)
  refine bp.yes (aK h2) (cr (Z134.ak (bN.getD H0.2 h2)) ?_)
  refine bp.bif (fun c4=>?_) (fun c4=>?_)
  ·refine bp.bif (fun _=>bp.inr rfl) (fun c5=>?_)
   refine bp.inl trivial ?_
   rw [aH h2 Bh2]
  ·refine bp.inl trivial ?_
   rw [aH h2 Bh2]
 ·simp only [step,SS]
  refine dO dn (⟨0,?_⟩)
  exact fz
def af:cz 139 aT:=L2 25 (fun _=>2) cu cR live step start mix aC aY (cD Z134.af) Tryz.func139
end Z135
namespace Z136
inductive Pt where
 | p0 (a:aB) (b:Int) (c:aE) (d e:Int) (f:Bool) (g:aE) (h i:Int) (j k:Bool) (l:aE) (m n:Int) (o:Bool) (p q s:aB)
def cu:Pt->List V
 | .p0 a b c d e f g h i j k l m n o p q s=>[.sl none 126 a,.int .i64 b,.str c,.int .i64 d,.cC 0 0,.cC 1 0,.int .i64 e,.cC 1 0]
def cR:Pt->List aW
 | .p0 a b c d e f g h i j k l m n o p q s=>[.box [.nil,.nil,.bool f,.str g,.int .i64 h,.int .i64 i,.nil,.bool j,.nil],.box [.own 2,.own 3,.bool k,.str l,.int .i64 m,.int .i64 n,.nil,.bool o,.own 4],.row 120 p,.row 180 q,.row 3 s]
def step (J:Pt->aI):Pt->aI
 | .p0 a b c d e f g h i j k l m n o p q s=>(cond (e<(a.length:Int)) (m2 e (a.length:Int) (call (Z89.R ((bq.at a (toNat e)).aQ)) fun v1=>(cond v1.2 (cond (v1.1.bz==b) (call (Z120.R ((⟨p,q⟩:bA),(bq.at a (toNat e)).aQ)) fun v2=>(call (Z131.R (b,c,(bq.at a (toNat e)),d)) fun v3=>(cond (v2.2==1) (cond (v3==1) (call (Z135.R (v2.1,b)) fun v4=>(cond v4 (bY (fJ (((s.length:Int)+1)*8)) (J (.p0 a b c d (i64.wrap (e+1)) f g h i j k l m n o v2.1.aM v2.1.bu (s++[[L.int 3]])))) (bY (fJ (((s.length:Int)+1)*8)) (cond (v3==1) (call (Z54.R ((bq.at a (toNat e)).aS)) fun v5=>ret ((⟨v2.1,(bq.at a (toNat e)).cj,v5,true,(s++[[L.int v3]])⟩:dL):dL)) (J (.p0 a b c d (i64.wrap (e+1)) f g h i j k l m n o v2.1.aM v2.1.bu (s++[[L.int v3]]))))))) (bY (fJ (((s.length:Int)+1)*8)) (cond (v3==1) (call (Z54.R ((bq.at a (toNat e)).aS)) fun v6=>ret ((⟨v2.1,(bq.at a (toNat e)).cj,v6,true,(s++[[L.int v3]])⟩:dL):dL)) (J (.p0 a b c d (i64.wrap (e+1)) f g h i j k l m n o v2.1.aM v2.1.bu (s++[[L.int v3]])))))) (cond (v2.2==2) (cond (v3==1) (call (Z135.R (v2.1,b)) fun v7=>(cond v7 (bY (fJ (((s.length:Int)+1)*8)) (J (.p0 a b c d (i64.wrap (e+1)) f g h i j k l m n o v2.1.aM v2.1.bu (s++[[L.int 3]])))) (bY (fJ (((s.length:Int)+1)*8)) (cond (v3==1) (call (Z54.R ((bq.at a (toNat e)).aS)) fun v8=>ret ((⟨v2.1,(bq.at a (toNat e)).cj,v8,true,(s++[[L.int v3]])⟩:dL):dL)) (J (.p0 a b c d (i64.wrap (e+1)) f g h i j k l m n o v2.1.aM v2.1.bu (s++[[L.int v3]]))))))) (bY (fJ (((s.length:Int)+1)*8)) (cond (v3==1) (call (Z54.R ((bq.at a (toNat e)).aS)) fun v9=>ret ((⟨v2.1,(bq.at a (toNat e)).cj,v9,true,(s++[[L.int v3]])⟩:dL):dL)) (J (.p0 a b c d (i64.wrap (e+1)) f g h i j k l m n o v2.1.aM v2.1.bu (s++[[L.int v3]])))))) (cond (v3==1) (cond (!(v2.2==3)) (bY (fJ (((s.length:Int)+1)*8)) (J (.p0 a b c d (i64.wrap (e+1)) f g h i j k l m n o v2.1.aM v2.1.bu (s++[[L.int 3]])))) (call (Z135.R (v2.1,b)) fun v10=>(cond v10 (bY (fJ (((s.length:Int)+1)*8)) (J (.p0 a b c d (i64.wrap (e+1)) f g h i j k l m n o v2.1.aM v2.1.bu (s++[[L.int 3]])))) (bY (fJ (((s.length:Int)+1)*8)) (cond (v3==1) (call (Z54.R ((bq.at a (toNat e)).aS)) fun v11=>ret ((⟨v2.1,(bq.at a (toNat e)).cj,v11,true,(s++[[L.int v3]])⟩:dL):dL)) (J (.p0 a b c d (i64.wrap (e+1)) f g h i j k l m n o v2.1.aM v2.1.bu (s++[[L.int v3]])))))))) (bY (fJ (((s.length:Int)+1)*8)) (cond (v3==1) (call (Z54.R ((bq.at a (toNat e)).aS)) fun v12=>ret ((⟨v2.1,(bq.at a (toNat e)).cj,v12,true,(s++[[L.int v3]])⟩:dL):dL)) (J (.p0 a b c d (i64.wrap (e+1)) f g h i j k l m n o v2.1.aM v2.1.bu (s++[[L.int v3]])))))))))) (call (Z131.R (b,c,(bq.at a (toNat e)),d)) fun v13=>(cond (v13==1) (bY (fJ (((s.length:Int)+1)*8)) (J (.p0 a b c d (i64.wrap (e+1)) f g h i j k l m n o p q (s++[[L.int 3]])))) (bY (fJ (((s.length:Int)+1)*8)) (cond (v13==1) (call (Z54.R ((bq.at a (toNat e)).aS)) fun v14=>ret ((⟨(⟨p,q⟩:bA),(bq.at a (toNat e)).cj,v14,true,(s++[[L.int v13]])⟩:dL):dL)) (J (.p0 a b c d (i64.wrap (e+1)) f g h i j k l m n o p q (s++[[L.int v13]])))))))) (call (Z131.R (b,c,(bq.at a (toNat e)),d)) fun v15=>(cond (v15==1) (bY (fJ (((s.length:Int)+1)*8)) (J (.p0 a b c d (i64.wrap (e+1)) f g h i j k l m n o p q (s++[[L.int 3]])))) (bY (fJ (((s.length:Int)+1)*8)) (cond (v15==1) (call (Z54.R ((bq.at a (toNat e)).aS)) fun v16=>ret ((⟨(⟨p,q⟩:bA),(bq.at a (toNat e)).cj,v16,true,(s++[[L.int v15]])⟩:dL):dL)) (J (.p0 a b c d (i64.wrap (e+1)) f g h i j k l m n o p q (s++[[L.int v15]])))))))))) (ret ((⟨(⟨p,q⟩:bA),k,(⟨l,m,n,[]⟩:bK),o,s⟩:dL):dL)))
def start (J:Pt->aI)(x0:bA)(x1:aB)(x2:Int)(x3:aE)(x4:Int):aI:=(call (Z52.R x0) fun v1=>J (.p0 x1 x2 x3 x4 0 false ⟨#[]⟩ 0 0 false false ⟨#[]⟩ 0 0 false v1.aM v1.bu []))
def live:Nat->Live:=fK [(3,[(1,none),(2,none),(3,none),(4,none),(10,none),(11,none),(12,none),(11,some 8388611)])]
def md (a0:aA)(a1:List aq)(a2:Int)(a3:aE)(a4:Int):cy:=(eJ (S:=List (List aa)×List aG×List Int) (β:=cy) (fun y1 (s3:List (List aa)×List aG×List Int)=>(cond ((Z89.md (y1.aQ)).2) (cond ((Z89.md (y1.aQ)).1.bz==a2) (cond ((Z120.md (⟨s3.1,s3.2.1⟩) (y1.aQ)).2==1) (cond ((Z131.md a2 a3 y1 a4)==1) (cond (Z135.md ((Z120.md (⟨s3.1,s3.2.1⟩) (y1.aQ)).1) a2) (.inl ((Z120.md (⟨s3.1,s3.2.1⟩) (y1.aQ)).1.aM,(Z120.md (⟨s3.1,s3.2.1⟩) (y1.aQ)).1.bu,(s3.2.2++[3]))) (cond ((Z131.md a2 a3 y1 a4)==1) (.inr (⟨(Z120.md (⟨s3.1,s3.2.1⟩) (y1.aQ)).1,y1.cj,(y1.aS),true,(s3.2.2++[(Z131.md a2 a3 y1 a4)])⟩)) (.inl ((Z120.md (⟨s3.1,s3.2.1⟩) (y1.aQ)).1.aM,(Z120.md (⟨s3.1,s3.2.1⟩) (y1.aQ)).1.bu,(s3.2.2++[(Z131.md a2 a3 y1 a4)]))))) (cond ((Z131.md a2 a3 y1 a4)==1) (.inr (⟨(Z120.md (⟨s3.1,s3.2.1⟩) (y1.aQ)).1,y1.cj,(y1.aS),true,(s3.2.2++[(Z131.md a2 a3 y1 a4)])⟩)) (.inl ((Z120.md (⟨s3.1,s3.2.1⟩) (y1.aQ)).1.aM,(Z120.md (⟨s3.1,s3.2.1⟩) (y1.aQ)).1.bu,(s3.2.2++[(Z131.md a2 a3 y1 a4)]))))) (cond ((Z120.md (⟨s3.1,s3.2.1⟩) (y1.aQ)).2==2) (cond ((Z131.md a2 a3 y1 a4)==1) (cond (Z135.md ((Z120.md (⟨s3.1,s3.2.1⟩) (y1.aQ)).1) a2) (.inl ((Z120.md (⟨s3.1,s3.2.1⟩) (y1.aQ)).1.aM,(Z120.md (⟨s3.1,s3.2.1⟩) (y1.aQ)).1.bu,(s3.2.2++[3]))) (cond ((Z131.md a2 a3 y1 a4)==1) (.inr (⟨(Z120.md (⟨s3.1,s3.2.1⟩) (y1.aQ)).1,y1.cj,(y1.aS),true,(s3.2.2++[(Z131.md a2 a3 y1 a4)])⟩)) (.inl ((Z120.md (⟨s3.1,s3.2.1⟩) (y1.aQ)).1.aM,(Z120.md (⟨s3.1,s3.2.1⟩) (y1.aQ)).1.bu,(s3.2.2++[(Z131.md a2 a3 y1 a4)]))))) (cond ((Z131.md a2 a3 y1 a4)==1) (.inr (⟨(Z120.md (⟨s3.1,s3.2.1⟩) (y1.aQ)).1,y1.cj,(y1.aS),true,(s3.2.2++[(Z131.md a2 a3 y1 a4)])⟩)) (.inl ((Z120.md (⟨s3.1,s3.2.1⟩) (y1.aQ)).1.aM,(Z120.md (⟨s3.1,s3.2.1⟩) (y1.aQ)).1.bu,(s3.2.2++[(Z131.md a2 a3 y1 a4)]))))) (cond ((Z131.md a2 a3 y1 a4)==1) (cond (!((Z120.md (⟨s3.1,s3.2.1⟩) (y1.aQ)).2==3)) (.inl ((Z120.md (⟨s3.1,s3.2.1⟩) (y1.aQ)).1.aM,(Z120.md (⟨s3.1,s3.2.1⟩) (y1.aQ)).1.bu,(s3.2.2++[3]))) (cond (Z135.md ((Z120.md (⟨s3.1,s3.2.1⟩) (y1.aQ)).1) a2) (.inl ((Z120.md (⟨s3.1,s3.2.1⟩) (y1.aQ)).1.aM,(Z120.md (⟨s3.1,s3.2.1⟩) (y1.aQ)).1.bu,(s3.2.2++[3]))) (cond ((Z131.md a2 a3 y1 a4)==1) (.inr (⟨(Z120.md (⟨s3.1,s3.2.1⟩) (y1.aQ)).1,y1.cj,(y1.aS),true,(s3.2.2++[(Z131.md a2 a3 y1 a4)])⟩)) (.inl ((Z120.md (⟨s3.1,s3.2.1⟩) (y1.aQ)).1.aM,(Z120.md (⟨s3.1,s3.2.1⟩) (y1.aQ)).1.bu,(s3.2.2++[(Z131.md a2 a3 y1 a4)])))))) (cond ((Z131.md a2 a3 y1 a4)==1) (.inr (⟨(Z120.md (⟨s3.1,s3.2.1⟩) (y1.aQ)).1,y1.cj,(y1.aS),true,(s3.2.2++[(Z131.md a2 a3 y1 a4)])⟩)) (.inl ((Z120.md (⟨s3.1,s3.2.1⟩) (y1.aQ)).1.aM,(Z120.md (⟨s3.1,s3.2.1⟩) (y1.aQ)).1.bu,(s3.2.2++[(Z131.md a2 a3 y1 a4)]))))))) (cond ((Z131.md a2 a3 y1 a4)==1) (.inl (s3.1,s3.2.1,(s3.2.2++[3]))) (cond ((Z131.md a2 a3 y1 a4)==1) (.inr (⟨(⟨s3.1,s3.2.1⟩),y1.cj,(y1.aS),true,(s3.2.2++[(Z131.md a2 a3 y1 a4)])⟩)) (.inl (s3.1,s3.2.1,(s3.2.2++[(Z131.md a2 a3 y1 a4)])))))) (cond ((Z131.md a2 a3 y1 a4)==1) (.inl (s3.1,s3.2.1,(s3.2.2++[3]))) (cond ((Z131.md a2 a3 y1 a4)==1) (.inr (⟨(⟨s3.1,s3.2.1⟩),y1.cj,(y1.aS),true,(s3.2.2++[(Z131.md a2 a3 y1 a4)])⟩)) (.inl (s3.1,s3.2.1,(s3.2.2++[(Z131.md a2 a3 y1 a4)]))))))) (fun (s3:List (List aa)×List aG×List Int)=>(⟨(⟨s3.1,s3.2.1⟩),false,(⟨(⟨#[]⟩:aE),0,0,[]⟩),false,s3.2.2⟩)) a1 (a0.aM,a0.bu,[]))
def gd (a0:aA)(a1:List aq)(a2:Int)(a3:aE)(a4:Int):Prop:=(aA.Sm (2^21) a0)/\(bN (2^21) (fun y:aq=>aq.Sm (2^21) y) a1)/\(a3.size<=(2^21))
def R:=zV gd md
def ak {a0 a1 a2 a3 a4}(h:gd a0 a1 a2 a3 a4):R ((aA.r a0),(a1.map aq.row),a2,a3,a4)=some (cy.r (md a0 a1 a2 a3 a4)):=zy h
def aT:=CN [.agg xg,pL 126,pI,pS,pI] (.agg f130) RT.dec R
def aY (a0)(a1)(a2)(a3)(a4)(hg:gd a0 a1 a2 a3 a4):∃n,start (iter step n) (aA.r a0) (a1.map aq.row) a2 a3 a4=ret (cy.r (md a0 a1 a2 a3 a4)):=by
 obtain ⟨H0,H1,H3⟩:=hg
 refine cx (Z52.ak H0) ?_
 have Bh2:=bl H1
 refine ex_eq (out:=(fun b:cy=>ret ((cy.r b):dL))) (fu (z:=aq.zero)) (eo fz ?_)
 refine cw (pt:=fun (i1:Nat) (s3:List (List aa)×List aG×List Int)=>Pt.p0 (a1.map aq.row) a2 a3 a4 (i1:Int) false (⟨#[]⟩:aE) 0 0 false false (⟨#[]⟩:aE) 0 0 false (s3.1.map (eK aa.row)) (s3.2.1.map aG.row) (s3.2.2.map bt)) (s:=((a0.aM,a0.bu,[]):List (List aa)×List aG×List Int)) (out:=(fun b:cy=>ret ((cy.r b):dL))) (fun (i1:Nat) (s3:List (List aa)×List aG×List Int)=>aA.Sm (2^21) (⟨s3.1,s3.2.1⟩:aA)/\s3.2.2.length<=i1) (fun J i1 s3 h2 hih2=>?_) (fun s3 hih2=>?_) ⟨H0,zero_le _⟩
 ·simp only [step,SS]
  have:=(H1).1
  refine bp.yes dt (bp.yes aD ?_)
  refine bp.yes (aK h2) (cr (Z89.ak (bN.getD H1 h2).1) ?_)
  refine bp.bif (fun c4=>?_) (fun c4=>?_)
  ·refine bp.bif (fun c5=>?_) (fun c5=>?_)
   ·refine cr (Z120.ak ⟨⟨hih2.1.1,hih2.1.2⟩,(bN.getD H1 h2).1⟩) (cr (Z131.ak ⟨H3,(bN.getD H1 h2)⟩) ?_)
    refine bp.bif (fun c6=>?_) (fun c6=>?_)
    ·refine bp.bif (fun c7=>?_) (fun c7=>?_)
     ·refine cr (Z135.ak (Z120.iR ⟨⟨hih2.1.1,hih2.1.2⟩,(bN.getD H1 h2).1⟩)) (bp.bif (fun c8=>?_) (fun c8=>?_))
      ·refine bp.yes lm (bp.inl (⟨Z120.iR ⟨hih2.1,(bN.getD H1 h2).1⟩,pW hih2.2⟩) ?_)
       rw [aH h2 Bh2]
       exact fz
      ·refine bp.yes lm (bp.bif (fun c9=>?_) (fun c9=>?_))
       ·refine cr (Z54.ak (bN.getD H1 h2).2.1) (bp.inr ?_)
        exact fz
       ·refine bp.inl (⟨Z120.iR ⟨hih2.1,(bN.getD H1 h2).1⟩,pW hih2.2⟩) ?_
        rw [aH h2 Bh2]
        exact fz
     ·refine bp.yes lm (bp.bif (fun c10=>?_) (fun c10=>?_))
      ·refine cr (Z54.ak (bN.getD H1 h2).2.1) (bp.inr ?_)
       exact fz
      ·refine bp.inl (⟨Z120.iR ⟨hih2.1,(bN.getD H1 h2).1⟩,pW hih2.2⟩) ?_
       rw [aH h2 Bh2]
       exact fz
    ·refine bp.bif (fun c11=>?_) (fun c11=>?_)
     ·refine bp.bif (fun c12=>?_) (fun c12=>?_)
      ·refine cr (Z135.ak (Z120.iR ⟨⟨hih2.1.1,hih2.1.2⟩,(bN.getD H1 h2).1⟩)) (bp.bif (fun c13=>?_) (fun c13=>?_))
       ·refine bp.yes lm (bp.inl (⟨Z120.iR ⟨hih2.1,(bN.getD H1 h2).1⟩,pW hih2.2⟩) ?_)
        rw [aH h2 Bh2]
        exact fz
       ·refine bp.yes lm (bp.bif (fun c14=>?_) (fun c14=>?_))
        ·refine cr (Z54.ak (bN.getD H1 h2).2.1) (bp.inr ?_)
         exact fz
        ·refine bp.inl (⟨Z120.iR ⟨hih2.1,(bN.getD H1 h2).1⟩,pW hih2.2⟩) ?_
         rw [aH h2 Bh2]
         exact fz
      ·refine bp.yes lm (bp.bif (fun c15=>?_) (fun c15=>?_))
       ·refine cr (Z54.ak (bN.getD H1 h2).2.1) (bp.inr ?_)
        exact fz
       ·refine bp.inl (⟨Z120.iR ⟨hih2.1,(bN.getD H1 h2).1⟩,pW hih2.2⟩) ?_
        rw [aH h2 Bh2]
        exact fz
     ·refine bp.bif (fun c16=>?_) (fun c16=>?_)
      ·refine bp.bif (fun c17=>?_) (fun c17=>?_)
       ·refine bp.yes lm (bp.inl (⟨Z120.iR ⟨hih2.1,(bN.getD H1 h2).1⟩,pW hih2.2⟩) ?_)
        rw [aH h2 Bh2]
        exact fz
       ·refine cr (Z135.ak (Z120.iR ⟨⟨hih2.1.1,hih2.1.2⟩,(bN.getD H1 h2).1⟩)) (bp.bif (fun c18=>?_) (fun c18=>?_))
        ·refine bp.yes lm (bp.inl (⟨Z120.iR ⟨hih2.1,(bN.getD H1 h2).1⟩,pW hih2.2⟩) ?_)
         rw [aH h2 Bh2]
         exact fz
        ·refine bp.yes lm (bp.bif (fun c19=>?_) (fun c19=>?_))
         ·refine cr (Z54.ak (bN.getD H1 h2).2.1) (bp.inr ?_)
          exact fz
         ·refine bp.inl (⟨Z120.iR ⟨hih2.1,(bN.getD H1 h2).1⟩,pW hih2.2⟩) ?_
          rw [aH h2 Bh2]
          exact fz
      ·refine bp.yes lm (bp.bif (fun c20=>?_) (fun c20=>?_))
       ·refine cr (Z54.ak (bN.getD H1 h2).2.1) (bp.inr ?_)
        exact fz
       ·refine bp.inl (⟨Z120.iR ⟨hih2.1,(bN.getD H1 h2).1⟩,pW hih2.2⟩) ?_
        rw [aH h2 Bh2]
        exact fz
   ·refine cr (Z131.ak ⟨H3,(bN.getD H1 h2)⟩) (bp.bif (fun c21=>?_) (fun c21=>?_))
    ·refine bp.yes lm (bp.inl (⟨hih2.1,pW hih2.2⟩) ?_)
     rw [aH h2 Bh2]
     exact fz
    ·refine bp.yes lm (bp.bif (fun c22=>?_) (fun c22=>?_))
     ·refine cr (Z54.ak (bN.getD H1 h2).2.1) (bp.inr ?_)
      exact fz
     ·refine bp.inl (⟨hih2.1,pW hih2.2⟩) ?_
      rw [aH h2 Bh2]
      exact fz
  ·refine cr (Z131.ak ⟨H3,(bN.getD H1 h2)⟩) (bp.bif (fun c23=>?_) (fun c23=>?_))
   ·refine bp.yes lm (bp.inl (⟨hih2.1,pW hih2.2⟩) ?_)
    rw [aH h2 Bh2]
    exact fz
   ·refine bp.yes lm (bp.bif (fun c24=>?_) (fun c24=>?_))
    ·refine cr (Z54.ak (bN.getD H1 h2).2.1) (bp.inr ?_)
     exact fz
    ·refine bp.inl (⟨hih2.1,pW hih2.2⟩) ?_
     rw [aH h2 Bh2]
     exact fz
 ·simp only [step,SS]
  refine dO dn (⟨0,?_⟩)
  exact fz
def af:cz 89 aT:=L5 99 (fun _=>3) cu cR live step start mix aC aY (AD Z52.af Z89.af Z120.af Z131.af Z135.af Z54.af) Tryz.func89
def nQ (z:Int)(l:aE)(now:Int)(y:aq)(k:aA):aA×Int:=
 let kn:=bif (Z89.md y.aQ).2&&((Z89.md y.aQ).1.bz==z) then Z120.md k y.aQ else (k,6)
 (kn.1,bif (Z131.md z l y now==1)&&!((kn.2==1||(kn.2==2||kn.2==3))&&!Z135.md kn.1 z) then 3 else Z131.md z l y now)
def qe (z:Int)(l:aE)(now:Int)(y:aq)(s:List (List aa)×List aG×List Int):List (List aa)×List aG×List Int⊕cy:=
 bif (nQ z l now y ⟨s.1,s.2.1⟩).2==1 then .inr ⟨(nQ z l now y ⟨s.1,s.2.1⟩).1,y.cj,y.aS,true,s.2.2++[(nQ z l now y ⟨s.1,s.2.1⟩).2]⟩
 else .inl ((nQ z l now y ⟨s.1,s.2.1⟩).1.aM,(nQ z l now y ⟨s.1,s.2.1⟩).1.bu,s.2.2++[(nQ z l now y ⟨s.1,s.2.1⟩).2])
def fin (s:List (List aa)×List aG×List Int):cy:=⟨⟨s.1,s.2.1⟩,false,⟨⟨#[]⟩,0,0,[]⟩,false,s.2.2⟩
def oE (a0:aA)(a1:List aq)(a2:Int)(a3:aE)(a4:Int):md a0 a1 a2 a3 a4=eJ (qe a2 a3 a4) fin a1 (a0.aM,a0.bu,[]):=by
 refine qJ (fun y _ s=>?_) (fun s=>rfl)
 have h31:((3:Int)==1)=false:=rfl
 have h61:((6:Int)==1)=false:=rfl
 have h62:((6:Int)==2)=false:=rfl
 have h63:((6:Int)==3)=false:=rfl
 unfold qe nQ
 cases g1:(Z89.md y.aQ).2
 ·cases g2:(Z131.md a2 a3 y a4==1)<;>simp [g2,h31,h61,h62,h63]
 cases g3:((Z89.md y.aQ).1.bz==a2)
 ·cases g2:(Z131.md a2 a3 y a4==1)<;>simp [g2,h31,h61,h62,h63]
 generalize Z120.md (⟨s.1,s.2.1⟩:aA) y.aQ=r
 cases g2:(Z131.md a2 a3 y a4==1)<;>cases g4:(r.2==1)<;>cases g5:(r.2==2)<;>cases g6:(r.2==3)<;>cases g7:Z135.md r.1 a2<;>simp [g2,g4,g5,g6,g7,h31]
def AJ (z:Int)(l:aE)(now:Int)(y:aq)(k:aA):Z120.Cz (nQ z l now y k).1.aM<=Z120.Cz k.aM+(aq.size y+1)/\
  Z120.Fz (nQ z l now y k).1.bu<=Z120.Fz k.bu+(2*Z120.Cz k.aM+aq.size y+1):=by
 have h:=Z120.grow k y.aQ
 have hs:eC (fun y:aa=>aa.size y) y.aQ<=aq.size y:=by unfold aq.size;omega
 unfold nQ
 cases (Z89.md y.aQ).2&&((Z89.md y.aQ).1.bz==z)
 ·simp only [aX];omega
 ·simp only [aZ];omega
def wY {α:Type}(f:α->Nat)(x:α)(xs:List α):eC f (x::xs)=eC f xs+(f x+1):=by simp [eC];omega
def grow (z:Int)(l:aE)(now:Int):∀(xs:List aq) (s:List (List aa)×List aG×List Int),
  Z120.Cz (eJ (qe z l now) fin xs s).cg.aM<=Z120.Cz s.1+eC (fun y:aq=>aq.size y) xs/\
  Z120.Fz (eJ (qe z l now) fin xs s).cg.bu<=Z120.Fz s.2.1+xs.length*(2*(Z120.Cz s.1+eC (fun y:aq=>aq.size y) xs)+eC (fun y:aq=>aq.size y) xs)/\
  (eJ (qe z l now) fin xs s).fR.length<=s.2.2.length+xs.length/\ah.size (eJ (qe z l now) fin xs s).aS<=eC (fun y:aq=>aq.size y) xs
 | [],s=>⟨Nat.le_add_right _ _,Nat.le_add_right _ _,Nat.le_refl _,zero_le _⟩
 | y::xs,s=>by
  have hg:=AJ z l now y ⟨s.1,s.2.1⟩
  have hy:ah.size y.aS<=aq.size y:=by unfold aq.size;omega
  rw [wY]
  unfold eJ
  cases hb:(nQ z l now y ⟨s.1,s.2.1⟩).2==1
  ·have e:qe z l now y s=.inl ((nQ z l now y ⟨s.1,s.2.1⟩).1.aM,(nQ z l now y ⟨s.1,s.2.1⟩).1.bu,s.2.2++[(nQ z l now y ⟨s.1,s.2.1⟩).2]):=by unfold qe;rw [hb];rfl
   rw [e]
   obtain ⟨h1,h2,h3,h4⟩:=grow z l now xs ((nQ z l now y ⟨s.1,s.2.1⟩).1.aM,(nQ z l now y ⟨s.1,s.2.1⟩).1.bu,s.2.2++[(nQ z l now y ⟨s.1,s.2.1⟩).2])
   simp only at h1 h2 h3 h4 hg ⊢
   generalize eC (fun y:aq=>aq.size y) xs=w at *
   generalize aq.size y=q at *
   generalize Z120.Cz (nQ z l now y ⟨s.1,s.2.1⟩).1.aM=c1 at *
   generalize Z120.Cz s.1=c0 at *
   have hm:xs.length*(2*(c1+w)+w)<=xs.length*(2*(c0+(w+(q+1)))+(w+(q+1))):=Nat.mul_le_mul_left _ (by omega)
   rw [List.length_cons,Nat.succ_mul]
   rw [List.length_append] at h3
   refine ⟨by omega,by omega,by simp only [List.length_cons,List.length_nil] at h3;omega,by omega⟩
  ·have e:qe z l now y s=.inr ⟨(nQ z l now y ⟨s.1,s.2.1⟩).1,y.cj,y.aS,true,s.2.2++[(nQ z l now y ⟨s.1,s.2.1⟩).2]⟩:=by unfold qe;rw [hb];rfl
   rw [e]
   simp only at hg ⊢
   generalize eC (fun y:aq=>aq.size y) xs=w at *
   generalize aq.size y=q at *
   generalize Z120.Cz s.1=c0 at *
   rw [List.length_cons,Nat.succ_mul,List.length_append]
   refine ⟨by omega,by omega,by simp only [List.length_cons,List.length_nil];omega,by omega⟩
def Cu {z:Int}{l:aE}{now:Int}{y:aq}{k:aA}(hk:aA.Sm (2^21) k)(hy:aq.Sm (2^21) y):aA.Sm (2^21) (nQ z l now y k).1:=by
 unfold nQ
 cases (Z89.md y.aQ).2&&((Z89.md y.aQ).1.bz==z)
 ·exact hk
 ·exact Z120.iR ⟨hk,hy.1⟩
def vA {z:Int}{l:aE}{now:Int}:∀(xs:List aq) (s:List (List aa)×List aG×List Int),aA.Sm (2^21) ⟨s.1,s.2.1⟩->(∀y∈xs,aq.Sm (2^21) y)->s.2.2.length+xs.length<=2^21->cy.Sm (2^21) (eJ (qe z l now) fin xs s)
 | [],s,hk,_,hc=>⟨hk,⟨zero_le _,bN.nil⟩,hc,fun _ _=>trivial⟩
 | y::xs,s,hk,hx,hc=>by
  have hy:=hx y (by simp)
  have he:=Cu (z:=z) (l:=l) (now:=now) hk hy
  simp only [List.length_cons] at hc
  unfold eJ
  cases hb:(nQ z l now y ⟨s.1,s.2.1⟩).2==1
  ·have e:qe z l now y s=.inl ((nQ z l now y ⟨s.1,s.2.1⟩).1.aM,(nQ z l now y ⟨s.1,s.2.1⟩).1.bu,s.2.2++[(nQ z l now y ⟨s.1,s.2.1⟩).2]):=by unfold qe;rw [hb];rfl
   rw [e]
   exact vA xs _ he (fun y hy=>hx y (by simp [hy])) (by simp only [List.length_append,List.length_cons,List.length_nil];omega)
  ·have e:qe z l now y s=.inr ⟨(nQ z l now y ⟨s.1,s.2.1⟩).1,y.cj,y.aS,true,s.2.2++[(nQ z l now y ⟨s.1,s.2.1⟩).2]⟩:=by unfold qe;rw [hb];rfl
   rw [e]
   exact ⟨he,hy.2.1,by simp only [List.length_append,List.length_cons,List.length_nil];omega,fun _ _=>trivial⟩
def iR {a0:aA}{a1:List aq}{a2:Int}{a3:aE}{a4:Int}(hg:gd a0 a1 a2 a3 a4):cy.Sm (2^21) (md a0 a1 a2 a3 a4):=by
 rw [oE]
 exact vA a1 _ hg.1 hg.2.1.2 (by have:=hg.2.1.1;simp only [List.length_nil];omega)
end Z136
namespace Z137
def F (x0:cH)(x1:Int)(x2:aE)(x3:bq)(x4:Int):aI:=(call (Z58.R x0) fun v1=>(call (Z131.R (x1,x2,x3,x4)) fun v2=>(cond (v2 != 1) (ret v1) (call (Z57.R x3) fun v3=>(call (Z62.R (x0,x1,x2)) fun v4=>(cond (v4>=0) (m2 v4 v1.aO.length (ret ((⟨(List.set v1.aO (toNat v4) (bP.enc (⟨x1,x2,v3⟩)))⟩):cH))) (cond ((x0.aO.length:Int)<16) (bY (fJ ((v1.aO.length+1)*328)) (ret ((⟨(v1.aO++[(bP.enc (⟨x1,x2,v3⟩))])⟩):cH))) (ret v1))))))))
def md (a0:aJ)(a1:Int)(a2:aE)(a3:aq)(a4:Int):aJ:=(cond ((Z131.md a1 a2 a3 a4) != 1) a0 (cond ((Z62.md a0 a1 a2)>=0) (⟨(List.set a0.aO (toNat (Z62.md a0 a1 a2)) (⟨a1,a2,a3⟩))⟩) (cond ((a0.aO.length:Int)<16) (⟨(a0.aO++[(⟨a1,a2,a3⟩)])⟩) a0)))
def gd (a0:aJ)(a1:Int)(a2:aE)(a3:aq)(a4:Int):Prop:=(aJ.Sm (2^21) a0)/\(a2.size<=(2^21))/\(aq.Sm (2^21) a3)
def R:=zV gd md
def ak {a0 a1 a2 a3 a4}(h:gd a0 a1 a2 a3 a4):R ((aJ.r a0),a1,a2,(aq.r a3),a4)=some (aJ.r (md a0 a1 a2 a3 a4)):=zy h
def aT:=CN [.agg zh,pI,pS,.agg sn,pI] (.agg f46) RT.dec R
def aY (a0)(a1)(a2)(a3)(a4)(hg:gd a0 a1 a2 a3 a4):F (aJ.r a0) a1 a2 (aq.r a3) a4=ret (aJ.r (md a0 a1 a2 a3 a4)):=by
 obtain ⟨H0,H2,H3⟩:=hg
 refine ct (Z58.ak H0) (ct (Z131.ak ⟨H2,H3⟩) ?_)
 refine bo (fun c1=>fz) (fun c1=>?_)
 refine ct (Z57.ak H3) ?_
 simp only [SS]
 refine ct (Z62.ak H0) ?_
 have fv4_:=Z62.fa a0 a1 a2
 refine bo (fun c2=>?_) (fun c2=>?_)
 ·have dc2:=c2
  simp only [DC] at dc2
  refine aj dt (aj dt ?_)
  exact fz
 ·refine bo (fun c3=>?_) (fun c3=>fz)
  have dc3:=c3
  simp only [DC] at dc3
  exact aj lm fz
def af:cz 90 aT:=W5 50 F mix aC aY (kE Z58.af Z131.af Z57.af Z62.af) Tryz.func90
def iR {a0:aJ}{a1:Int}{a2:aE}{a3:aq}{a4:Int}(hg:gd a0 a1 a2 a3 a4):aJ.Sm (2^21) (md a0 a1 a2 a3 a4):=by
 obtain ⟨h0,h1,h2⟩:=hg
 have hs:av.Sm (2^21) ⟨a1,a2,a3⟩:=⟨h1,h2⟩
 unfold md
 simp only [Bool.cond_eq_ite]
 repeat' split
 ·exact h0
 ·exact bN.set h0 hs
 ·rename_i hl
  have hl:(a0.aO.length:Int)<16:=by simpa using hl
  exact bN.app (a:=16) (b:=1) ⟨by omega,h0.2⟩ (bN.one hs) (by decide)
 ·exact h0
end Z137
namespace Z138
def F (x0:dL):aI:=(cond (!x0.ia) (ret (((⟨(⟨#[]⟩:aE),0,0,[]⟩),false):bK×Bool)) (cond (!x0.cj) (ret (((⟨(⟨#[]⟩:aE),0,0,[]⟩),false):bK×Bool)) (call (Z54.R x0.aS) fun v1=>ret ((v1,true):bK×Bool))))
def md (a0:cy):ah×Bool:=(cond (!a0.ia) ((⟨((⟨#[]⟩:aE)),0,0,[]⟩),false) (cond (!a0.cj) ((⟨((⟨#[]⟩:aE)),0,0,[]⟩),false) (a0.aS,true)))
def gd (a0:cy):Prop:=(cy.Sm (2^21) a0)
def R:=RR gd md
def ak {a0}(h:gd a0):R (cy.r a0)=some ((ah.r (md a0).1),(md a0).2):=cV h
def aT:=CN [.agg Ck] (.iS [(true,f38),(false,[fB])]) RT.dec R
def aY (a0)(H0:gd a0):F (cy.r a0)=ret ((ah.r (md a0).1),(md a0).2):=by
 refine ec (fun b:ah×Bool=>ret (((ah.r b.1),b.2):bK×Bool)) (fun c1=>fz) (fun c1=>?_)
 exact ec (fun b:ah×Bool=>ret (((ah.r b.1),b.2):bK×Bool)) (fun c2=>fz) (fun c2=>ct (Z54.ak H0.2.1) fz)
def af:cz 91 aT:=W1 16 F mix aC aY (cD Z54.af) Tryz.func91
end Z138
namespace Z139
def F (x0:dL):aI:=(cond x0.ia (ret ((!x0.cj))) (ret false))
def md (a0:cy):Bool:=(cond a0.ia ((!a0.cj)) false)
def gd (a0:cy):Prop:=True
def R:=RR gd md
def ak {a0}(h:gd a0):R (cy.r a0)=some (md a0):=cV h
def aT:=CN [.agg Ck] oB RT.dec R
def aY (a0)(hg:gd a0):F (cy.r a0)=ret (md a0):=by
 refine bs (fun c1=>?_) (fun _=>rfl)
 exact fz
def af:cz 92 aT:=W1 10 F mix aC aY .nil Tryz.func92
end Z139
namespace Z140
inductive Pt where
 | p0 (a:aB) (b c:Int) (d:aB) (e:Int) (f:aE) (g h i j:Int) (k:aE) (l m n:Int) (o p q s:aB)
def cu:Pt->List V
 | .p0 a b c d e f g h i j k l m n o p q s=>[.sl none 138 a,.int .i64 b,.cC 0 0,.cC 1 0,.cC 2 0,.int .i64 c,.sl none 9 d,.cC 1 0]
def cR:Pt->List aW
 | .p0 a b c d e f g h i j k l m n o p q s=>[.box [.nil,.nil,.int .i64 e,.str f,.int .i64 g,.int .i64 h,.nil,.nil,.int .i64 i,.nil],.box [.own 3,.own 4,.int .i64 j,.str k,.int .i64 l,.int .i64 m,.nil,.own 5,.int .i64 n],.box [.own 6],.row 120 o,.row 180 p,.row 3 q,.row 148 s]
def step (J:Pt->aI):Pt->aI
 | .p0 a b c d e f g h i j k l m n o p q s=>(bY (fJ (((q.length:Int)+1)*8)) (bY ((0:Int)<(d.length:Int)) (call (Z63.R ((⟨s⟩:cH),c,(qS d 0))) fun v1=>(bY ((0:Int)<(d.length:Int)) (call (Z114.R (a,c,(qS d 0))) fun v2=>(bY (fJ (((1:Int)+(v2.length:Int))*304)) (bY ((0:Int)<(d.length:Int)) (call (Z136.R ((⟨o,p⟩:bA),([(bq.enc v1)]++v2),c,(qS d 0),b)) fun v3=>(cond v3.ia (bY ((0:Int)<(d.length:Int)) (bY ((0:Int)<=(i64.wrap ((v3.fR.length:Int) - 1))) (bY ((i64.wrap ((v3.fR.length:Int) - 1))<(([(bq.enc v1)]++v2).length:Int)) (call (Z137.R ((⟨s⟩:cH),c,(qS d 0),(bq.at ([(bq.enc v1)]++v2) (toNat (i64.wrap ((v3.fR.length:Int) - 1)))),b)) fun v4=>(call (Z138.R v3) fun v5=>(call (Z139.R v3) fun v6=>(cond v6 (ret ((⟨(⟨v3.cg,2,(⟨k,l,m,[]⟩:bK),(q++[[L.int c]]),n⟩:dU),v4⟩:eB):eB)) (cond (!v5.2) (ret ((⟨(⟨v3.cg,3,(⟨k,l,m,[]⟩:bK),(q++[[L.int c]]),n⟩:dU),v4⟩:eB):eB)) (cond (v5.1.bJ==3) (call (Z53.R v5.1.bh) fun v7=>(bY ((1:Int)<=(d.length:Int)) (bY ((d.length:Int)<=(d.length:Int)) (bY (fJ (((v7.length:Int)+((List.take (toNat ((d.length:Int) - 1)) (List.drop 1 d)).length:Int))*16)) (cond (n>=3) (ret ((⟨(⟨v3.cg,5,(⟨k,l,m,[]⟩:bK),(q++[[L.int c]]),n⟩:dU),v4⟩:eB):eB)) (call (Z61.R (v7++(List.take (toNat ((d.length:Int) - 1)) (List.drop 1 d)))) fun v8=>(cond (!v8) (ret ((⟨(⟨v3.cg,5,(⟨k,l,m,[]⟩:bK),(q++[[L.int c]]),n⟩:dU),v4⟩:eB):eB)) (J (.p0 a b v5.1.bX (v7++(List.take (toNat ((d.length:Int) - 1)) (List.drop 1 d))) e f g h i j k l m (i64.wrap (n+1)) v3.cg.aM v3.cg.bu (q++[[L.int c]]) v4.aO))))))))) (cond ((d.length:Int)==1) (ret ((⟨(⟨v3.cg,1,v5.1,(q++[[L.int c]]),n⟩:dU),v4⟩:eB):eB)) (cond (v5.1.bJ != 2) (ret ((⟨(⟨v3.cg,4,(⟨k,l,m,[]⟩:bK),(q++[[L.int c]]),n⟩:dU),v4⟩:eB):eB)) (bY ((1:Int)<=(d.length:Int)) (bY ((d.length:Int)<=(d.length:Int)) (J (.p0 a b v5.1.bX (List.take (toNat ((d.length:Int) - 1)) (List.drop 1 d)) e f g h i j k l m n v3.cg.aM v3.cg.bu (q++[[L.int c]]) v4.aO))))))))))))))) (call (Z138.R v3) fun v9=>(call (Z139.R v3) fun v10=>(cond v10 (ret ((⟨(⟨v3.cg,2,(⟨k,l,m,[]⟩:bK),(q++[[L.int c]]),n⟩:dU),(⟨s⟩:cH)⟩:eB):eB)) (cond (!v9.2) (ret ((⟨(⟨v3.cg,3,(⟨k,l,m,[]⟩:bK),(q++[[L.int c]]),n⟩:dU),(⟨s⟩:cH)⟩:eB):eB)) (cond (v9.1.bJ==3) (call (Z53.R v9.1.bh) fun v11=>(bY ((1:Int)<=(d.length:Int)) (bY ((d.length:Int)<=(d.length:Int)) (bY (fJ (((v11.length:Int)+((List.take (toNat ((d.length:Int) - 1)) (List.drop 1 d)).length:Int))*16)) (cond (n>=3) (ret ((⟨(⟨v3.cg,5,(⟨k,l,m,[]⟩:bK),(q++[[L.int c]]),n⟩:dU),(⟨s⟩:cH)⟩:eB):eB)) (call (Z61.R (v11++(List.take (toNat ((d.length:Int) - 1)) (List.drop 1 d)))) fun v12=>(cond (!v12) (ret ((⟨(⟨v3.cg,5,(⟨k,l,m,[]⟩:bK),(q++[[L.int c]]),n⟩:dU),(⟨s⟩:cH)⟩:eB):eB)) (J (.p0 a b v9.1.bX (v11++(List.take (toNat ((d.length:Int) - 1)) (List.drop 1 d))) e f g h i j k l m (i64.wrap (n+1)) v3.cg.aM v3.cg.bu (q++[[L.int c]]) s))))))))) (cond ((d.length:Int)==1) (ret ((⟨(⟨v3.cg,1,v9.1,(q++[[L.int c]]),n⟩:dU),(⟨s⟩:cH)⟩:eB):eB)) (cond (v9.1.bJ != 2) (ret ((⟨(⟨v3.cg,4,(⟨k,l,m,[]⟩:bK),(q++[[L.int c]]),n⟩:dU),(⟨s⟩:cH)⟩:eB):eB)) (bY ((1:Int)<=(d.length:Int)) (bY ((d.length:Int)<=(d.length:Int)) (J (.p0 a b v9.1.bX (List.take (toNat ((d.length:Int) - 1)) (List.drop 1 d)) e f g h i j k l m n v3.cg.aM v3.cg.bu (q++[[L.int c]]) s))))))))))))))))))))
def start (J:Pt->aI)(x0:bA)(x1:cH)(x2:aB)(x3:Int)(x4:aB)(x5:Int):aI:=(call (Z52.R x0) fun v1=>(call (Z58.R x1) fun v2=>(call (Z61.R x4) fun v3=>(cond (!v3) (ret ((⟨(⟨v1,6,(⟨(⟨#[]⟩:aE),0,0,[]⟩),[],0⟩),v2⟩):eB)) (call (Z53.R x4) fun v4=>J (.p0 x2 x5 x3 v4 0 ⟨#[]⟩ 0 0 0 6 ⟨#[]⟩ 0 0 0 v1.aM v1.bu [] v2.aO))))))
def live:Nat->Live:=fK [(7,[(2,none),(5,none),(12,none),(13,none),(14,none),(15,none),(16,some 1099511627785),(13,some 7340035)])]
def nx (l:cy)(mv:Int)(p:List aE):(Int×ah)⊕(Int×Int×List aE):=
 bif !l.ia then .inl (3,⟨⟨#[]⟩,0,0,[]⟩) else bif !l.cj then .inl (2,⟨⟨#[]⟩,0,0,[]⟩)
 else bif l.aS.bJ==3 then (cond (mv>=3) (.inl (5,⟨⟨#[]⟩,0,0,[]⟩)) (bif !Z61.md (l.aS.bh++p.tail) then .inl (5,⟨⟨#[]⟩,0,0,[]⟩) else .inr (mv+1,l.aS.bX,l.aS.bh++p.tail)))
 else bif (p.tail.length:Int)==0 then .inl (1,l.aS) else bif l.aS.bJ==2 then .inr (mv,l.aS.bX,p.tail) else .inl (4,⟨⟨#[]⟩,0,0,[]⟩)
def rs {σ:Type}(look:σ->aA->Int->aE->cy×σ):Nat->σ->aA->List Int->Int->Int->List aE->bH×σ
 | 0,c,k,zs,mv,_,_=>(⟨k,0,⟨⟨#[]⟩,0,0,[]⟩,zs,mv⟩,c)
 | n+1,c,k,zs,mv,z,p=>match nx (look c k z (p.getD 0 ⟨#[]⟩)).1 mv p with
  | .inl q=>(⟨(look c k z (p.getD 0 ⟨#[]⟩)).1.cg,q.1,q.2,zs++[z],mv⟩,(look c k z (p.getD 0 ⟨#[]⟩)).2)
  | .inr q=>rs look n (look c k z (p.getD 0 ⟨#[]⟩)).2 (look c k z (p.getD 0 ⟨#[]⟩)).1.cg (zs++[z]) q.1 q.2.1 q.2.2
def xP {σ:Type}{look:σ->aA->Int->aE->cy×σ}{n:Nat}{c:σ}{k:aA}{zs:List Int}{mv z:Int}{p:List aE}{q:Int×ah}(h:nx (look c k z (p.getD 0 ⟨#[]⟩)).1 mv p=.inl q) :
  rs look (n+1) c k zs mv z p=(⟨(look c k z (p.getD 0 ⟨#[]⟩)).1.cg,q.1,q.2,zs++[z],mv⟩,(look c k z (p.getD 0 ⟨#[]⟩)).2):=by
 show (match nx (look c k z (p.getD 0 ⟨#[]⟩)).1 mv p with | .inl q=>_ | .inr q=>_)=_
 rw [h]
def xK {σ:Type}{look:σ->aA->Int->aE->cy×σ}{n:Nat}{c:σ}{k:aA}{zs:List Int}{mv z:Int}{p:List aE}{q:Int×Int×List aE}(h:nx (look c k z (p.getD 0 ⟨#[]⟩)).1 mv p=.inr q) :
  rs look (n+1) c k zs mv z p=rs look n (look c k z (p.getD 0 ⟨#[]⟩)).2 (look c k z (p.getD 0 ⟨#[]⟩)).1.cg (zs++[z]) q.1 q.2.1 q.2.2:=by
 show (match nx (look c k z (p.getD 0 ⟨#[]⟩)).1 mv p with | .inl q=>_ | .inr q=>_)=_
 rw [h]
def yd {Pt:Type}{step:(Pt->aI)->Pt->aI}{p:Pt}{r:aI}(h:∃m,step (iter step m) p=r):∃m,iter step m p=r:=h.elim fun m h=>⟨m+1,h⟩
def bQ (s:List ay)(c:aJ)(z:Int)(l:aE):List aq:=Z63.md c z l::Z114.md s z l
def lk (s:List ay)(now:Int)(c:aJ)(k:aA)(z:Int)(l:aE):cy×aJ:=
 (Z136.md k (bQ s c z l) z l now,bif (Z136.md k (bQ s c z l) z l now).ia then Z137.md c z l ((bQ s c z l).getD ((Z136.md k (bQ s c z l) z l now).fR.length - 1) aq.zero) now else c)
def dn (z:Int)(l:aE)(now:Int):∀(xs:List aq) (s:List (List aa)×List aG×List Int),(eJ (Z136.qe z l now) Z136.fin xs s).ia=true->1<=(eJ (Z136.qe z l now) Z136.fin xs s).fR.length
 | [],s,h=>by unfold eJ Z136.fin at h;cases h
 | y::xs,s,h=>by
  unfold eJ at h ⊢
  revert h
  cases hb:Z136.qe z l now y s with
  | inl s'=>exact dn z l now xs s'
  | inr b=>
   intro _
   unfold Z136.qe at hb
   revert hb
   cases ((Z136.nQ z l now y ⟨s.1,s.2.1⟩).2==1)
   ·intro hb;cases hb
   ·intro hb
    injection hb with hb
    subst hb
    simp
def DL {k:aA}{xs:List aq}{z:Int}{l:aE}{now:Int}(h:(Z136.md k xs z l now).ia=true):1<=(Z136.md k xs z l now).fR.length/\(Z136.md k xs z l now).fR.length<=xs.length:=by
 have hg:=(Z136.grow z l now xs (k.aM,k.bu,[])).2.2.1
 rw [Z136.oE] at h ⊢
 exact ⟨dn z l now xs _ h,by simpa using hg⟩
def xB {s:List ay}{c:aJ}{z:Int}{l:aE}(hc:aJ.Sm (2^21) c)(hs:bN (2^21) (fun y:ay=>ay.Sm (2^21) y) s)(hl:l.size<=2^21):bN (2^21) (fun y:aq=>aq.Sm (2^21) y) (bQ s c z l):=by
 have h1:=Z114.iR (a1:=z) ⟨hs,hl⟩
 have h2:=Z63.iR (a1:=z) (a2:=l) hc
 have h3:=Z114.Bd s z l
 refine ⟨by unfold bQ;simp only [List.length_cons];omega,fun x hx=>?_⟩
 rcases List.mem_cons.1 hx with rfl | hx
 ·exact h2
 ·exact h1.2 x hx
def az:aq.Sm (2^21) aq.zero:=⟨bN.nil,⟨zero_le _,bN.nil⟩,bN.nil,⟨⟨zero_le _,bN.nil⟩,⟨zero_le _,bN.nil⟩,bN.nil,bN.nil⟩⟩
def BL {s:List ay}{now:Int}{c:aJ}{k:aA}{z:Int}{l:aE}(hs:bN (2^21) (fun y:ay=>ay.Sm (2^21) y) s)(hc:aJ.Sm (2^21) c)(hk:aA.Sm (2^21) k)(hl:l.size<=2^21):cy.Sm (2^21) (lk s now c k z l).1/\aJ.Sm (2^21) (lk s now c k z l).2:=by
 have ha:=xB (z:=z) hc hs hl
 refine ⟨Z136.iR ⟨hk,ha,hl⟩,?_⟩
 unfold lk
 cases (Z136.md k (bQ s c z l) z l now).ia
 ·exact hc
 ·exact Z137.iR ⟨hc,hl,bN.sW ha az⟩
def md (a0:aA)(a1:aJ)(a2:List ay)(a3:Int)(a4:List aE)(a5:Int):cK:=(cond (!Z61.md a4) ⟨⟨a0,6,⟨⟨#[]⟩,0,0,[]⟩,[],0⟩,a1⟩ ⟨(rs (lk a2 a5) 17 a1 a0 [] 0 a3 a4).1,(rs (lk a2 a5) 17 a1 a0 [] 0 a3 a4).2⟩)
def gd (a0:aA)(a1:aJ)(a2:List ay)(a3:Int)(a4:List aE)(a5:Int):Prop:=(aA.Sm (2^21) a0)/\(aJ.Sm (2^21) a1)/\(bN (2^21) (fun y:ay=>ay.Sm (2^21) y) a2)/\(bN (2^21) (fun y:aE=>y.size<=(2^21)) a4)
def R:=zq gd md
def ak {a0 a1 a2 a3 a4 a5}(h:gd a0 a1 a2 a3 a4 a5):R ((aA.r a0),(aJ.r a1),(a2.map ay.row),a3,(a4.map cX),a5)=some (cK.r (md a0 a1 a2 a3 a4 a5)):=Ah h
def aT:=CN [.agg xg,.agg zh,pL 138,pI,pL 9,pI] (.agg f69) RT.dec R
def aY (a0)(a1)(a2)(a3)(a4)(a5)(hg:gd a0 a1 a2 a3 a4 a5):∃n,start (iter step n) (aA.r a0) (aJ.r a1) (a2.map ay.row) a3 (a4.map cX) a5=ret (cK.r (md a0 a1 a2 a3 a4 a5)):=by
 obtain ⟨H0,HC,H1,H3⟩:=hg
 have key:∀(n:Nat) (c:aJ) (k:aA) (zs:List Int) (mv z:Int) (p:List aE),aJ.Sm (2^21) c->aA.Sm (2^21) k->Z61.md p=true->0<=mv->mv<=3->(3 - mv)*4+(p.length:Int)<=n->zs.length+n<=100->
   ∃m,iter step m (Pt.p0 (a2.map ay.row) a5 z (p.map cX) 0 ⟨#[]⟩ 0 0 0 6 ⟨#[]⟩ 0 0 mv (k.aM.map (eK aa.row)) (k.bu.map aG.row) (zs.map bt) (c.aO.map av.row))=ret (cK.r ⟨(rs (lk a2 a5) n c k zs mv z p).1,(rs (lk a2 a5) n c k zs mv z p).2⟩):=by
  intro n
  induction n with
  | zero=>intro c k zs mv z p _ _ hp _ _ hm _;have:=(Z61.tr hp).1;omega
  | succ n ih=>
   intro c k zs mv z p hc hk hp h0 h3 hm hz
   obtain ⟨⟨p1,p4⟩,p8⟩:=Z61.tr hp
   obtain ⟨x,xs,rfl⟩:∃x xs,p=x::xs:=by
    cases p with
    | nil=>simp at p1
    | cons x xs=>exact ⟨x,xs,rfl⟩
   have hx:x.size<=2^21:=le_trans (p8 x (by simp)) (by decide)
   have hxs:∀y∈xs,y.size<=2^22:=fun y hy=>le_trans (p8 y (by simp [hy])) (by decide)
   have hans:=xB (z:=z) hc H1 hx
   have hlk2:=BL (now:=a5) (z:=z) H1 hc hk hx
   have hat:qS ((x::xs).map cX) 0=x:=rfl
   have ht:List.take (toNat (((xs.length+1:Nat):Int) - 1)) (List.drop 1 ((x::xs).map cX))=xs.map cX:=by
    simp only [List.map_cons,List.drop_succ_cons,List.drop_zero]
    exact List.take_of_length_le (by simp)
   simp only [List.length_cons] at p4 hm
   have hal:(bQ a2 c z x).length=1+(Z114.md a2 z x).length:=by unfold bQ;simp only [List.length_cons];omega
   have h4:=Z114.Bd a2 z x
   have hrow:[bq.enc (aq.r (Z63.md c z x))]++(Z114.md a2 z x).map aq.row=(bQ a2 c z x).map aq.row:=rfl
   refine yd ?_
   simp only [step,hat,List.length_map,List.length_cons,ht]
   refine dW lm (dW dt ?_)
   refine cx (Z63.ak hc) (dW dt ?_)
   refine cx (Z114.ak ⟨H1,hx⟩) ?_
   simp only [hrow,List.length_map]
   refine dW (iV (by omega)) (dW dt ?_)
   refine cx (Z136.ak ⟨hk,hans,hx⟩) ?_
   have hd2:=DL (k:=k) (xs:=bQ a2 c z x) (z:=z) (l:=x) (now:=a5)
   have hcase:∀q,nx (lk a2 a5 c k z x).1 mv (x::xs)=.inl q->rs (lk a2 a5) (n+1) c k zs mv z (x::xs)=(⟨(lk a2 a5 c k z x).1.cg,q.1,q.2,zs++[z],mv⟩,(lk a2 a5 c k z x).2):=fun q hq=>xP hq
   have hcase2:∀q,nx (lk a2 a5 c k z x).1 mv (x::xs)=.inr q->rs (lk a2 a5) (n+1) c k zs mv z (x::xs)=rs (lk a2 a5) n (lk a2 a5 c k z x).2 (lk a2 a5 c k z x).1.cg (zs++[z]) q.1 q.2.1 q.2.2:=fun q hq=>xK hq
   obtain ⟨hl1,hl2⟩:=hlk2
   have e1:(lk a2 a5 c k z x).1=Z136.md k (bQ a2 c z x) z x a5:=rfl
   have e2:(lk a2 a5 c k z x).2=bif (Z136.md k (bQ a2 c z x) z x a5).ia then Z137.md c z x ((bQ a2 c z x).getD ((Z136.md k (bQ a2 c z x) z x a5).fR.length - 1) aq.zero) a5 else c:=rfl
   rw [e1] at hl1
   rw [e2] at hl2
   simp only [e1,e2] at hcase hcase2
   clear e1 e2
   generalize Z136.md k (bQ a2 c z x) z x a5=l at hcase hcase2 hl1 hl2 hd2 ⊢
   obtain ⟨lk0,lf,le,ld,lc⟩:=l
   unfold nx at hcase hcase2
   cases ld
   ·refine dO rfl (cx (Z138.ak hl1) ?_)
    refine cx (Z139.ak trivial) ?_
    unfold Z139.md Z138.md
    exact ⟨0,by rw [hcase _ rfl];exact fz⟩
   obtain ⟨d1,d2⟩:=hd2 rfl
   simp only at d1 d2
   refine dW rfl (dW dt ?_)
   have hw:i64.wrap (((lc.map bt).length:Int) - 1)=((lc.length - 1:Nat):Int):=by rw [List.length_map,wi _ (by omega)];omega
   have hat2:bq.at ((bQ a2 c z x).map aq.row) (toNat ((lc.length - 1:Nat):Int))=((bQ a2 c z x).getD (lc.length - 1) aq.zero).r:=aq.dR
   refine dW (by show decide ((0:Int)<=i64.wrap (((lc.map bt).length:Int) - 1))=true;rw [hw];apply decide_eq_true;omega) (dW (by show decide (i64.wrap (((lc.map bt).length:Int) - 1)<_)=true;rw [hw];apply decide_eq_true;omega) ?_)
   have hke:=Z137.ak (a1:=z) (a3:=(bQ a2 c z x).getD (lc.length - 1) aq.zero) (a4:=a5) ⟨hc,hx,bN.sW hans az⟩
   rw [<-hat2,<-hw] at hke
   refine cx hke (cx (Z138.ak hl1) ?_)
   refine cx (Z139.ak trivial) ?_
   simp only [aZ] at hl2 hcase hcase2
   generalize Z137.md c z x ((bQ a2 c z x).getD (lc.length - 1) aq.zero) a5=c2 at hl2 hcase hcase2 ⊢
   unfold Z139.md Z138.md
   cases lf
   ·exact ⟨0,by rw [hcase _ rfl];exact fz⟩
   simp only [Bool.not_true,aX,aZ,List.tail_cons] at hcase hcase2 ⊢
   have hpl:bN (2^21) (fun y:aE=>y.size<=(2^21)) le.bh:=hl1.2.1.2
   have hpl1:le.bh.length<=2^21:=hpl.1
   have hzz:zs.map bt++[[L.int z]]=(zs++[z]).map bt:=by simp [bt]
   simp only [SS]
   cases hk3:(le.bJ==3)
   ·simp only [hk3,aX] at hcase hcase2 ⊢
    by_cases hx0:xs.length=0
    ·have e0:((xs.length:Int)==0)=true:=by simp [hx0]
     rw [e0] at hcase
     exact ⟨0,by rw [hcase _ rfl];exact aj (beq_iff_eq.2 (by omega)) fz⟩
    ·have e0:((xs.length:Int)==0)=false:=by simpa using hx0
     rw [e0] at hcase hcase2
     refine dO (beq_eq_false_iff_ne.2 (by omega)) ?_
     cases hk2:(le.bJ==2)
     ·simp only [hk2,aX] at hcase
      exact ⟨0,by rw [hcase _ rfl];exact aj (by simpa using hk2) fz⟩
     ·simp only [hk2,aX,aZ] at hcase2
      refine dO (by simpa using hk2) (dW dt (dW dt ?_))
      have hip:Z61.md xs=true:=Z61.tl hp hx0
      rw [hcase2 _ rfl,hzz]
      exact ih c2 lk0 (zs++[z]) mv le.bX xs hl2 hl1.1 hip h0 h3 (by omega) (by simp;omega)
   ·simp only [hk3,aZ] at hcase hcase2 ⊢
    refine cx (Z53.ak hpl) (dW dt (dW dt (dW (by have :(le.bh.map cX).length=le.bh.length:=List.length_map ..;have :(xs.map cX).length=xs.length:=List.length_map ..;exact iV (by omega)) ?_)))
    by_cases hmv:mv>=3
    ·rw [decide_eq_true hmv] at hcase ⊢
     exact ⟨0,by rw [hcase _ rfl];exact fz⟩
    ·rw [decide_eq_false hmv] at hcase hcase2 ⊢
     simp only [aX] at hcase hcase2 ⊢
     have e:le.bh.map cX++xs.map cX=(le.bh++xs).map cX:=by simp
     rw [e]
     refine cx (Z61.ak ⟨by rw [List.length_append];omega,fun y hy=>(List.mem_append.1 hy).elim (fun h=>le_trans (hpl.2 y h) (by decide)) (hxs y)⟩) ?_
     cases hip:Z61.md (le.bh++xs)
     ·rw [hip] at hcase
      exact ⟨0,by rw [hcase _ rfl];exact fz⟩
     ·rw [hip] at hcase2
      have ht:=Z61.tr hip
      rw [hcase2 _ rfl,hzz,wi _ (by omega)]
      exact ih c2 lk0 (zs++[z]) (mv+1) le.bX (le.bh++xs) hl2 hl1.1 hip (by omega) (by omega) (by omega) (by simp;omega)
 unfold start md
 refine cx (Z52.ak H0) (cx (Z58.ak HC) ?_)
 refine cx (Z61.ak (bN.mono H3 (by decide) (fun y hy=>le_trans hy (by decide)))) ?_
 cases hp:Z61.md a4
 ·exact ⟨0,rfl⟩
 ·simp only [Bool.not_true,aX]
  exact cx (Z53.ak H3) (key 17 a1 a0 [] 0 a3 a4 HC H0 hp (by decide) (by decide) (by have:=(Z61.tr hp).1;omega) (by simp))
def af:cz 33 aT:=L6 152 (fun _=>7) cu cR live step start mix aC aY (CO Z52.af Z58.af Z61.af Z53.af Z63.af Z114.af Z136.af Z137.af Z138.af Z139.af) Tryz.func33
def CY (c:aJ)(z:Int)(l:aE):aq.size (Z63.md c z l)<=aJ.size c:=by
 unfold Z63.md
 cases decide (Z62.md c z l<0)
 ·have h:=lF (f:=fun y:av=>av.size y) (xs:=c.aO) (i:=toNat (Z62.md c z l)) (z:=av.zero) rfl
  refine le_trans ?_ h
  show aq.size (c.aO.getD _ av.zero).bk<=av.size (c.aO.getD _ av.zero)
  unfold av.size
  omega
 ·exact zero_le _
def Cf (s:List ay)(c:aJ)(z:Int)(l:aE)(hS:eC (fun y:ay=>ay.size y) s<=2^20):eC (fun y:aq=>aq.size y) (bQ s c z l)<=aJ.size c+6291457:=by
 have h1:=CY c z l
 have h2:=Z114.sz s z l
 unfold bQ
 rw [Z136.wY]
 omega
def C1 (c:aJ)(z:Int)(l:aE)(a:aq)(now:Int):aJ.size (Z137.md c z l a now)<=aJ.size c+(l.size+aq.size a+1):=by
 have h2:aJ.size (Z137.md c z l a now)<=aJ.size c+(av.size ⟨z,l,a⟩+1):=by
  unfold aJ.size Z137.md
  generalize (Z131.md z l a now != 1)=b1
  generalize decide ((c.aO.length:Int)<16)=b3
  cases b1<;>cases decide (Z62.md c z l>=0)<;>cases b3<;>simp only [aZ,aX]<;>first | exact uE c.aO _ _ | exact sG c.aO _ | exact Nat.le_add_right _ _
 exact h2
def CI {W:Nat}(s:List ay)(now:Int)(c:aJ)(k:aA)(z:Int)(l:aE)(hS:eC (fun y:ay=>ay.size y) s<=2^20)(hl:l.size<=8)(hW:aJ.size c+6291457<=W) :
  Z120.Cz (lk s now c k z l).1.cg.aM<=Z120.Cz k.aM+W/\Z120.Fz (lk s now c k z l).1.cg.bu<=Z120.Fz k.bu+5*(2*(Z120.Cz k.aM+W)+W)/\ah.size (lk s now c k z l).1.aS<=W/\aJ.size (lk s now c k z l).2<=aJ.size c+(8+(aJ.size c+6291457)+1):=by
 have hg:=Z136.grow z l now (bQ s c z l) (k.aM,k.bu,[])
 rw [<-Z136.oE] at hg
 obtain ⟨g1,g2,_,g4⟩:=hg
 have h1:=Cf s c z l hS
 have h2:(bQ s c z l).length<=5:=by have:=Z114.Bd s z l;unfold bQ;simp only [List.length_cons];omega
 simp only at g1 g2
 have h3:=Nat.mul_le_mul_right (2*(Z120.Cz k.aM+eC (fun y:aq=>aq.size y) (bQ s c z l))+eC (fun y:aq=>aq.size y) (bQ s c z l)) h2
 have h5:aJ.size (lk s now c k z l).2<=aJ.size c+(8+(aJ.size c+6291457)+1):=by
  unfold lk
  cases (Z136.md k (bQ s c z l) z l now).ia
  ·exact Nat.le_add_right _ _
  ·have h6:=C1 c z l ((bQ s c z l).getD ((Z136.md k (bQ s c z l) z l now).fR.length - 1) aq.zero) now
   have h7:=lF (f:=fun y:aq=>aq.size y) (xs:=bQ s c z l) (i:=(Z136.md k (bQ s c z l) z l now).fR.length - 1) (z:=aq.zero) rfl
   simp only [aZ] at h6 h7 ⊢
   omega
 refine ⟨?_,?_,?_,h5⟩
 ·unfold lk;simp only;omega
 ·unfold lk;simp only;omega
 ·unfold lk;simp only;omega
def AZ {l:cy}{mv:Int}{p:List aE}{q:Int×Int×List aE}(h:nx l mv p=.inr q)(hp:Z61.md p=true):Z61.md q.2.2=true:=by
 cases p with
 | nil=>have:=(Z61.tr hp).1;simp at this
 | cons x xs=>
  unfold nx at h
  simp only [Bool.cond_eq_ite,List.tail_cons] at h
  revert h
  repeat' split
  all_goals (intro h;first | (cases h;done) | (injection h with h;subst h;first | (rename_i h0 _;exact Z61.tl hp (by intro e;simp [e] at h0)) | simp_all))
def BD {W B E P:Nat}{s:List ay}{now:Int}(hS:eC (fun y:ay=>ay.size y) s<=2^20)(hP:P=8388608)(hE:E+6291457<=W) :
  ∀(n:Nat) (c:aJ) (k:aA) (zs:List Int) (mv z:Int) (p:List aE),Z61.md p=true->(aJ.size c+P)*2^n<=E->Z120.Cz k.aM+n*W<=B->
   Z120.Cz (rs (lk s now) n c k zs mv z p).1.cg.aM<=B/\Z120.Fz (rs (lk s now) n c k zs mv z p).1.cg.bu<=Z120.Fz k.bu+n*(10*B+15*W)/\ah.size (rs (lk s now) n c k zs mv z p).1.aS<=W/\(rs (lk s now) n c k zs mv z p).1.bM.length<=zs.length+n/\aJ.size (rs (lk s now) n c k zs mv z p).2<=E
 | 0,c,k,zs,mv,z,p,hp,he,hb=>⟨by show Z120.Cz k.aM<=B;omega,Nat.le_add_right _ _,zero_le _,Nat.le_refl _,by show aJ.size c<=E;rw [Nat.pow_zero,Nat.mul_one] at he;omega⟩
 | n+1,c,k,zs,mv,z,p,hp,he,hb=>by
  have h8:=(Z61.tr hp).2
  have hx:(p.getD 0 ⟨#[]⟩).size<=8:=by
   cases p with
   | nil=>exact zero_le _
   | cons x xs=>exact h8 x (by simp)
  have hpos:1<=2^n:=Nat.one_le_two_pow
  have hc1:(aJ.size c+P)*1<=(aJ.size c+P)*2^(n+1):=Nat.mul_le_mul_left _ Nat.one_le_two_pow
  obtain ⟨h1,h2,h3,h5⟩:=CI (W:=W) s now c k z (p.getD 0 ⟨#[]⟩) hS hx (by omega)
  rw [Nat.succ_mul] at hb
  have he2:(aJ.size (lk s now c k z (p.getD 0 ⟨#[]⟩)).2+P)*2^n<=E:=by
   refine le_trans (Nat.mul_le_mul_right (2^n) (show _<=(aJ.size c+P)*2 by omega)) ?_
   rw [Nat.mul_assoc,Nat.mul_comm 2,<-Nat.pow_succ]
   exact he
  have he3:(aJ.size (lk s now c k z (p.getD 0 ⟨#[]⟩)).2+P)*1<=(aJ.size (lk s now c k z (p.getD 0 ⟨#[]⟩)).2+P)*2^n:=Nat.mul_le_mul_left _ hpos
  cases hn:nx (lk s now c k z (p.getD 0 ⟨#[]⟩)).1 mv p with
  | inl q=>
   rw [xP hn]
   have hq:ah.size q.2<=W:=by
    unfold nx at hn
    simp only [Bool.cond_eq_ite] at hn
    revert hn
    repeat' split
    all_goals (intro hn;first | (cases hn;done) | (injection hn with hn;subst hn;first | exact h3 | exact zero_le _))
   refine ⟨by simp only;omega,?_,hq,by simp,by simp only;omega⟩
   simp only
   rw [Nat.succ_mul]
   omega
  | inr q=>
   rw [xK hn]
   obtain ⟨g1,g2,g3,g4,g5⟩:=BD hS hP hE n (lk s now c k z (p.getD 0 ⟨#[]⟩)).2 (lk s now c k z (p.getD 0 ⟨#[]⟩)).1.cg (zs++[z]) q.1 q.2.1 q.2.2 (AZ hn hp) he2 (le_trans (Nat.add_le_add_right h1 _) (by rw [Nat.add_assoc,Nat.add_comm W];exact hb))
   rw [List.length_append,List.length_cons,List.length_nil] at g4
   refine ⟨g1,?_,g3,by omega,g5⟩
   rw [Nat.succ_mul]
   omega
def sz (a0:aA)(a1:aJ)(a2:List ay)(a3:Int)(a4:List aE)(a5:Int)(h0:aA.size a0<=2^20)(h1:aJ.size a1<=2^20)(h2:eC (fun y:ay=>ay.size y) a2<=2^20):cK.size (md a0 a1 a2 a3 a4 a5)<=4503599627370496:=by
 have hk:aA.size a0=Z120.Cz a0.aM+Z120.Fz a0.bu:=rfl
 unfold md
 cases hp:Z61.md a4
 ·have :cK.size ⟨⟨a0,6,⟨⟨#[]⟩,0,0,[]⟩,[],0⟩,a1⟩=aA.size a0+aJ.size a1:=rfl
  show cK.size ⟨⟨a0,6,⟨⟨#[]⟩,0,0,[]⟩,[],0⟩,a1⟩<=_
  omega
 ·simp only [Bool.not_true,aX]
  obtain ⟨P,hP⟩:∃P,P=8388608:=⟨_,rfl⟩
  obtain ⟨E,hE⟩:∃E,E=1236950581248:=⟨_,rfl⟩
  obtain ⟨W,hW⟩:∃W,W=E+6291457:=⟨_,rfl⟩
  obtain ⟨B,hB⟩:∃B,B=2^20+17*W:=⟨_,rfl⟩
  have he:(aJ.size a1+P)*2^17<=E:=by
   have :(aJ.size a1+P)*2^17<=9437184*2^17:=Nat.mul_le_mul_right _ (by omega)
   exact le_trans this (by rw [hE];decide)
  have hg:=BD (now:=a5) (W:=W) (B:=B) (E:=E) h2 hP (by omega) 17 a1 a0 [] 0 a3 a4 hp he (by omega)
  revert hg
  generalize rs (lk a2 a5) 17 a1 a0 [] 0 a3 a4=t
  intro hg
  obtain ⟨g1,g2,g3,g4,g5⟩:=hg
  have hd:cK.size ⟨t.1,t.2⟩=Z120.Cz t.1.cg.aM+Z120.Fz t.1.cg.bu+ah.size t.1.aS+t.1.bM.length+aJ.size t.2:=by
   unfold cK.size bH.size aA.size Z120.Cz Z120.Fz
   rw [rN]
  rw [hd]
  simp only [List.length_nil] at g4
  omega
end Z140
namespace Z141
def F (x0:aB):aI:=(cond x0.isEmpty (either (ret ([]:aB)) ((bY (fJ (x0.length*8)) (ret (x0:aB))))) (bY (fJ (x0.length*8)) (ret (x0:aB))))
def md (a0:List Int):List Int:=a0
def gd (a0:List Int):Prop:=bN (2^38) (fun y:Int=>True) a0
def R:=RR gd md
def ak {a0}(h:gd a0):R (a0.map bt)=some (a0.map bt):=cV h
def aT:=CN [pL 3] (oL 3) RT.dec R
def aY (a0)(hg:gd a0):F (a0.map bt)=ret ((md a0).map bt):=by
 have H0:=hg.1
 unfold F md
 have hl:fJ (((a0.map bt).length:Int)*8)=true:=iV (by simp only [List.length_map];omega)
 simp only [hl,aZ]
 cases a0 with
 | nil=>exact mS
 | cons x xs=>rfl
def af:cz 242 aT:=W1 8 F mix aC aY .nil Tryz.func242
end Z141
namespace Z142
def F (x0:dz):aI:=(call (Z141.R x0.aO) fun v1=>ret ((⟨v1,x0.cO⟩):dz))
def md (a0:aR):aR:=a0
def gd (a0:aR):Prop:=(aR.Sm (2^21) a0)
def R:=RR gd md
def ak {a0}(h:gd a0):R (aR.r a0)=some (aR.r a0):=cV h
def aT:=CN [.agg jG] (.agg f173) RT.dec R
def aY (a0)(H0:gd a0):F (aR.r a0)=ret (aR.r (md a0)):=ct (Z141.ak (H0.mono (by decide) (fun x hx=>trivial))) fz
def af:cz 265 aT:=W1 9 F mix aC aY (cD Z141.af) Tryz.func265
end Z142
namespace Z143
def F (x0:dI):aI:=(call (Z142.R x0.bU) fun v1=>(call (Z142.R x0.bF) fun v2=>(call (Z142.R x0.bC) fun v3=>ret ((⟨x0.bz,x0.cU,x0.bJ,x0.cT,x0.cL,x0.cE,x0.dG,x0.dY,v1,v2,x0.dM,v3,x0.bD⟩):dI))))
def md (a0:aF):aF:=a0
def gd (a0:aF):Prop:=(aF.Sm (2^21) a0)
def R:=RR gd md
def ak {a0}(h:gd a0):R (aF.r a0)=some (aF.r a0):=cV h
def aT:=CN [.agg gH] (.agg f175) RT.dec R
def aY (a0)(H0:gd a0):F (aF.r a0)=ret (aF.r (md a0)):=by
 refine ct (Z142.ak H0.1) (ct (Z142.ak H0.2.1) ?_)
 exact ct (Z142.ak H0.2.2) fz
def af:cz 203 aT:=W1 16 F mix aC aY (cD Z142.af) Tryz.func203
end Z143
namespace Z144
def F (x0:aB):aI:=(cond x0.isEmpty (either (ret ([]:aB)) ((bY (fJ (x0.length*16)) (ret (x0:aB))))) (bY (fJ (x0.length*16)) (ret (x0:aB))))
def md (a0:List bn):List bn:=a0
def gd (a0:List bn):Prop:=bN (2^21) (fun y:bn=>bn.Sm (2^21) y) a0
def R:=RR gd md
def ak {a0}(h:gd a0):R (a0.map bn.row)=some (a0.map bn.row):=cV h
def aT:=CN [pL 227] (oL 227) RT.dec R
def aY (a0)(hg:gd a0):F (a0.map bn.row)=ret ((md a0).map bn.row):=by
 have H0:=hg.1
 unfold F md
 have hl:fJ (((a0.map bn.row).length:Int)*16)=true:=iV (by simp only [List.length_map];omega)
 simp only [hl,aZ]
 cases a0 with
 | nil=>exact mS
 | cons x xs=>rfl
def af:cz 294 aT:=W1 8 F mix aC aY .nil Tryz.func294
end Z144
namespace Z145
def F (x0:bf):aI:=(call (Z143.R x0.an) fun v1=>(call (Z144.R x0.cP) fun v2=>ret ((⟨v1,v2⟩):bf)))
def md (a0:aa):aa:=a0
def gd (a0:aa):Prop:=(aa.Sm (2^21) a0)
def R:=RR gd md
def ak {a0}(h:gd a0):R (aa.r a0)=some (aa.r a0):=cV h
def aT:=CN [.agg lU] (.agg f178) RT.dec R
def aY (a0)(H0:gd a0):F (aa.r a0)=ret (aa.r (md a0)):=by
 refine ct (Z143.ak H0.1) (ct (Z144.ak H0.2) ?_)
 exact fz
def af:cz 240 aT:=W1 10 F mix aC aY (eP Z143.af Z144.af) Tryz.func240
end Z145
namespace Z146
inductive Pt where
 | p0 (a:aB) (b c:Int) (d:aB)
def cu:Pt->List V
 | .p0 a b c d=>[.own 0,.sl none 178 a,.int .i64 b,.int .i64 c]
def cR:Pt->List aW
 | .p0 a b c d=>[.row 178 d]
def step (J:Pt->aI):Pt->aI
 | .p0 a b c d=>(cond (c<b) (m2 c (a.length:Int) (call (Z145.R (bf.at a (toNat c))) fun v1=>(bY (fJ (((d.length:Int)+1)*200)) (J (.p0 a b (i64.wrap (c+1)) (d++[(bf.enc v1)])))))) (ret (d:aB)))
def start (J:Pt->aI)(x0:aB):aI:=J (.p0 x0 x0.length 0 [])
def live:Nat->Live:=fK [(3,[(3,some 178),(7,none),(8,none),(9,none)])]
def md (a0:List aa):List aa:=a0
def gd (a0:List aa):Prop:=(bN (2^21) (fun y:aa=>aa.Sm (2^21) y) a0)
def R:=RR gd md
def ak {a0}(h:gd a0):R (a0.map aa.row)=some (a0.map aa.row):=cV h
def aT:=CN [pL 178] (oL 178) RT.dec R
def aY (a0)(H0:gd a0):∃n,start (iter step n) (a0.map aa.row)=ret ((md a0).map aa.row):=by
 have Bh2:=bl H0
 refine ex_eq (out:=(fun b:List aa=>ret ((b.map aa.row):aB))) (iw (xs:=a0) (z:=aa.zero) (t:=fun s3:List aa=>s3)) (eo (p:=Pt.p0 (a0.map aa.row) (a0.length:Int) 0 ([].map aa.row)) fz ?_)
 refine cw (pt:=fun (i1:Nat) (s3:List aa)=>Pt.p0 (a0.map aa.row) (a0.length:Int) (i1:Int) (s3.map aa.row)) (out:=(fun b:List aa=>ret ((b.map aa.row):aB))) (fun (i1:Nat) (s3:List aa)=>s3.length<=([]:List Int).length+1*i1) (fun J i1 s3 h2 hih2=>?_) (fun s3 hih2=>?_) (by simp)
 ·simp only [step,SS]
  have gr_:=hih2
  simp only [LN] at gr_
  have:=(H0).1
  refine bp.yes dt (bp.yes aD ?_)
  refine bp.yes (aK h2) (cr (Z145.ak (bN.getD H0 h2)) ?_)
  refine bp.yes lm ?_
  refine bp.inl (by
    (simp;omega)) ?_
  rw [aH h2 Bh2]
  exact fz
 ·simp only [step,SS]
  refine dO dn (⟨0,?_⟩)
  exact fz
def af:cz 185 aT:=L1 20 (fun _=>3) cu cR live step start mix aC aY (cD Z145.af) Tryz.func185
end Z146
namespace Z147
def F (x0:aB):aI:=(cond x0.isEmpty (either (ret ([]:aB)) ((bY (fJ (x0.length*16)) (ret (x0:aB))))) (bY (fJ (x0.length*16)) (ret (x0:aB))))
def md (a0:List aE):List aE:=a0
def gd (a0:List aE):Prop:=bN (2^21) (fun y:aE=>y.size<=(2^21)) a0
def R:=RR gd md
def ak {a0}(h:gd a0):R (a0.map cX)=some (a0.map cX):=cV h
def aT:=CN [pL 9] (oL 9) RT.dec R
def aY (a0)(hg:gd a0):F (a0.map cX)=ret ((md a0).map cX):=by
 have H0:=hg.1
 unfold F md
 have hl:fJ (((a0.map cX).length:Int)*16)=true:=iV (by simp only [List.length_map];omega)
 simp only [hl,aZ]
 cases a0 with
 | nil=>exact mS
 | cons x xs=>rfl
def af:cz 189 aT:=W1 8 F mix aC aY .nil Tryz.func189
end Z147
namespace Z148
def F (x0:bK):aI:=(call (Z147.R x0.bh) fun v1=>ret ((⟨x0.aV,x0.bJ,x0.bX,v1⟩):bK))
def md (a0:ah):ah:=a0
def gd (a0:ah):Prop:=(ah.Sm (2^21) a0)
def R:=RR gd md
def ak {a0}(h:gd a0):R (ah.r a0)=some (ah.r a0):=cV h
def aT:=CN [.agg tw] (.agg f38) RT.dec R
def aY (a0)(H0:gd a0):F (ah.r a0)=ret (ah.r (md a0)):=ct (Z147.ak H0.2) fz
def af:cz 150 aT:=W1 8 F mix aC aY (cD Z147.af) Tryz.func150
end Z148
namespace Z149
def F (x0:dX):aI:=(call (Z141.R x0.bh) fun v1=>ret ((⟨x0.eG,v1⟩):dX))
def md (a0:aL):aL:=a0
def gd (a0:aL):Prop:=(aL.Sm (2^21) a0)
def R:=RR gd md
def ak {a0}(h:gd a0):R (aL.r a0)=some (aL.r a0):=cV h
def aT:=CN [.agg pP] (.agg f122) RT.dec R
def aY (a0)(H0:gd a0):F (aL.r a0)=ret (aL.r (md a0)):=ct (Z141.ak (H0.mono (by decide) (fun x hx=>trivial))) fz
def af:cz 191 aT:=W1 9 F mix aC aY (cD Z141.af) Tryz.func191
end Z149
namespace Z150
def F (x0:ff):aI:=(call (Z148.R x0.aN) fun v1=>(call (Z148.R x0.bT) fun v2=>(call (Z149.R x0.dN) fun v3=>(call (Z149.R x0.cA) fun v4=>ret ((⟨x0.eG,v1,v2,v3,v4⟩):ff)))))
def md (a0:bL):bL:=a0
def gd (a0:bL):Prop:=(bL.Sm (2^21) a0)
def R:=RR gd md
def ak {a0}(h:gd a0):R (bL.r a0)=some (bL.r a0):=cV h
def aT:=CN [.agg sQ] (.agg f124) RT.dec R
def aY (a0)(H0:gd a0):F (bL.r a0)=ret (bL.r (md a0)):=by
 refine ct (Z148.ak H0.1) (ct (Z148.ak H0.2.1) ?_)
 refine ct (Z149.ak H0.2.2.1) (ct (Z149.ak H0.2.2.2) ?_)
 exact fz
def af:cz 192 aT:=W1 18 F mix aC aY (eP Z148.af Z149.af) Tryz.func192
end Z150
namespace Z151
def F (x0:bq):aI:=(call (Z146.R x0.aQ) fun v1=>(call (Z148.R x0.aS) fun v2=>(call (Z149.R x0.dy) fun v3=>(call (Z150.R x0.dA) fun v4=>ret ((⟨v1,x0.cj,v2,v3,v4⟩):bq)))))
def md (a0:aq):aq:=a0
def gd (a0:aq):Prop:=(aq.Sm (2^21) a0)
def R:=RR gd md
def ak {a0}(h:gd a0):R (aq.r a0)=some (aq.r a0):=cV h
def aT:=CN [.agg sn] (.agg f126) RT.dec R
def aY (a0)(H0:gd a0):F (aq.r a0)=ret (aq.r (md a0)):=by
 refine ct (Z146.ak H0.1) (ct (Z148.ak H0.2.1) ?_)
 refine ct (Z149.ak H0.2.2.1) (ct (Z150.ak H0.2.2.2) ?_)
 exact fz
def af:cz 147 aT:=W1 18 F mix aC aY (kE Z146.af Z148.af Z149.af Z150.af) Tryz.func147
end Z151
namespace Z152
def F (x0:bP):aI:=(call (Z151.R x0.bk) fun v1=>ret ((⟨x0.bz,x0.aV,v1⟩):bP))
def md (a0:av):av:=a0
def gd (a0:av):Prop:=(av.Sm (2^21) a0)
def R:=RR gd md
def ak {a0}(h:gd a0):R (av.r a0)=some (av.r a0):=cV h
def aT:=CN [.agg AS] (.agg f148) RT.dec R
def aY (a0)(H0:gd a0):F (av.r a0)=ret (av.r (md a0)):=ct (Z151.ak H0.2) fz
def af:cz 142 aT:=W1 8 F mix aC aY (cD Z151.af) Tryz.func142
end Z152
namespace Z153
inductive Pt where
 | p0 (a:aB) (b c:Int) (d:aB)
def cu:Pt->List V
 | .p0 a b c d=>[.cC 0 0,.cC 1 0,.sl none 148 a,.int .i64 b,.int .i64 c,.cC 1 0]
def cR:Pt->List aW
 | .p0 a b c d=>[.box [.nil],.box [.own 2],.row 148 d]
def step (J:Pt->aI):Pt->aI
 | .p0 a b c d=>(cond (c<b) (m2 c (a.length:Int) (call (Z152.R (bP.at a (toNat c))) fun v1=>(bY (fJ (((d.length:Int)+1)*328)) (J (.p0 a b (i64.wrap (c+1)) (d++[(bP.enc v1)])))))) (ret ((⟨d⟩:cH):cH)))
def start (J:Pt->aI)(x0:cH):aI:=J (.p0 x0.aO x0.aO.length 0 [])
def live:Nat->Live:=fK [(3,[(2,none),(3,none),(8,none),(9,none),(10,none),(3,some 148)])]
def md (a0:aJ):aJ:=a0
def gd (a0:aJ):Prop:=(aJ.Sm (2^21) a0)
def R:=RR gd md
def ak {a0}(h:gd a0):R (aJ.r a0)=some (aJ.r a0):=cV h
def aT:=CN [.agg zh] (.agg f46) RT.dec R
def aY (a0)(H0:gd a0):∃n,start (iter step n) (aJ.r a0)=ret (aJ.r (md a0)):=by
 have Bh2:=bl H0
 refine ex_eq (out:=(fun b:aJ=>ret ((aJ.r b):cH))) (iw (xs:=a0.aO) (z:=av.zero) (t:=fun s3:List av=>(⟨s3⟩:aJ))) (eo (p:=Pt.p0 (a0.aO.map av.row) (a0.aO.length:Int) 0 ([].map av.row)) fz ?_)
 refine cw (pt:=fun (i1:Nat) (s3:List av)=>Pt.p0 (a0.aO.map av.row) (a0.aO.length:Int) (i1:Int) (s3.map av.row)) (out:=(fun b:aJ=>ret ((aJ.r b):cH))) (fun (i1:Nat) (s3:List av)=>s3.length<=([]:List Int).length+1*i1) (fun J i1 s3 h2 hih2=>?_) (fun s3 hih2=>?_) (by simp)
 ·simp only [step,SS]
  have gr_:=hih2
  simp only [LN] at gr_
  have:=(H0).1
  refine bp.yes dt (bp.yes aD ?_)
  refine bp.yes (aK h2) (cr (Z152.ak (bN.getD H0 h2)) ?_)
  refine bp.yes lm ?_
  refine bp.inl (by
    (simp;omega)) ?_
  rw [aH h2 Bh2]
  exact fz
 ·simp only [step,SS]
  refine dO dn (⟨0,?_⟩)
  exact fz
def af:cz 94 aT:=L1 23 (fun _=>3) cu cR live step start mix aC aY (cD Z152.af) Tryz.func94
end Z153
namespace Z154
def F (x0:bO):aI:=(call (Z145.R x0.aN) fun v1=>(call (Z145.R x0.fA) fun v2=>(call (Z145.R x0.fB) fun v3=>ret ((⟨v1,v2,v3⟩):bO))))
def md (a0:aG):aG:=a0
def gd (a0:aG):Prop:=(aG.Sm (2^21) a0)
def R:=RR gd md
def ak {a0}(h:gd a0):R (aG.r a0)=some (aG.r a0):=cV h
def aT:=CN [.agg uS] (.agg f180) RT.dec R
def aY (a0)(H0:gd a0):F (aG.r a0)=ret (aG.r (md a0)):=by
 refine ct (Z145.ak H0.1) (ct (Z145.ak H0.2.1) ?_)
 exact ct (Z145.ak H0.2.2) fz
def af:cz 186 aT:=W1 13 F mix aC aY (cD Z145.af) Tryz.func186
end Z154
namespace Z155
inductive Pt where
 | p0 (a:aB) (b c:Int) (d:bA) (e:aB)
 | p1 (a:aB) (b c:Int) (d e:aB)
def pid:Pt->Nat
 | .p0 ..=>3
 | .p1 ..=>8
def cu:Pt->List V
 | .p0 a b c d e=>[.cC 0 0,.cC 1 0,.cC 2 0,.sl none 120 a,.int .i64 b,.int .i64 c,.cC 2 0]
 | .p1 a b c d e=>[.cC 0 0,.cC 1 0,.sl none 180 a,.int .i64 b,.int .i64 c,.cC 1 0,.cC 1 0]
def cR:Pt->List aW
 | .p0 a b c d e=>[.box [.sl none 120 d.aM,.sl none 180 d.bu],.box [.nil,.nil],.box [.own 3,.nil],.row 120 e]
 | .p1 a b c d e=>[.box [.nil,.nil],.box [.own 2,.own 3],.row 120 d,.row 180 e]
def step (J:Pt->aI):Pt->aI
 | .p0 a b c d e=>(cond (c<b) (m2 c (a.length:Int) (call (Z146.R (qi a (toNat c))) fun v1=>(bY (fJ (((e.length:Int)+1)*24)) (J (.p0 a b (i64.wrap (c+1)) d (e++[[L.sl v1]])))))) (J (.p1 d.bu (d.bu.length:Int) 0 e [])))
 | .p1 a b c d e=>(cond (c<b) (m2 c (a.length:Int) (call (Z154.R (bO.at a (toNat c))) fun v1=>(bY (fJ (((e.length:Int)+1)*600)) (J (.p1 a b (i64.wrap (c+1)) d (e++[(bO.enc v1)])))))) (ret ((⟨d,e⟩:bA):bA)))
def start (J:Pt->aI)(x0:bA):aI:=J (.p0 x0.aM x0.aM.length 0 x0 [])
def live:Nat->Live:=fK [(3,[(1,none),(2,none),(3,none),(10,none),(11,none),(12,none),(3,some 120)]),(8,[(2,none),(3,none),(25,none),(26,none),(27,none),(3,some 120),(3,some 1048756)])]
def md (a0:aA):aA:=a0
def gd (a0:aA):Prop:=(aA.Sm (2^21) a0)
def R:=RR gd md
def ak {a0}(h:gd a0):R (aA.r a0)=some (aA.r a0):=cV h
def aT:=CN [.agg xg] (.agg f36) RT.dec R
def aY (a0)(H0:gd a0):∃n,start (iter step n) (aA.r a0)=ret (aA.r (md a0)):=by
 have Bh2:=bl H0.1
 refine ex_eq (out:=(fun b:aA=>ret ((aA.r b):bA))) (iw (xs:=a0.aM) (z:=[]) (t:=fun s3:List (List aa)=>(⟨s3,a0.bu⟩:aA))) (eo (p:=Pt.p0 (a0.aM.map (eK aa.row)) (a0.aM.length:Int) 0 (aA.r a0) ([].map (eK aa.row))) fz ?_)
 refine cw (pt:=fun (i1:Nat) (s3:List (List aa))=>Pt.p0 (a0.aM.map (eK aa.row)) (a0.aM.length:Int) (i1:Int) (aA.r a0) (s3.map (eK aa.row))) (out:=(fun b:aA=>ret ((aA.r b):bA))) (fun (i1:Nat) (s3:List (List aa))=>s3.length<=([]:List Int).length+1*i1) (fun J i1 s3 h2 hih2=>?_) (fun s3 hih2=>?_) (by simp)
 ·simp only [step,SS]
  have gr_:=hih2
  simp only [LN] at gr_
  have:=(H0.1).1
  refine bp.yes dt (bp.yes aD ?_)
  refine bp.yes (aK h2) (cr (Z146.ak (bN.getD H0.1 h2)) ?_)
  refine bp.yes lm ?_
  refine bp.inl (by
    (simp;omega)) ?_
  rw [aH h2 Bh2]
  exact fz
 ·simp only [step,SS]
  refine dO dn ?_
  have Bh5:=bl H0.2
  refine ex_eq (out:=(fun b:aA=>ret ((aA.r b):bA))) (iw (xs:=a0.bu) (z:=aG.zero) (t:=fun s6:List aG=>(⟨s3,s6⟩:aA))) (eo fz ?_)
  refine cw (pt:=fun (i4:Nat) (s6:List aG)=>Pt.p1 (a0.bu.map aG.row) (a0.bu.length:Int) (i4:Int) (s3.map (eK aa.row)) (s6.map aG.row)) (s:=([]:List aG)) (out:=(fun b:aA=>ret ((aA.r b):bA))) (fun (i4:Nat) (s6:List aG)=>s6.length<=([]:List Int).length+1*i4) (fun J i4 s6 h5 hih5=>?_) (fun s6 hih5=>?_) (by simp)
  ·simp only [step,SS]
   have gr_:=hih5
   simp only [LN] at gr_
   have:=(H0.2).1
   refine bp.yes dt (bp.yes aD ?_)
   refine bp.yes (aK h5) (cr (Z154.ak (bN.getD H0.2 h5)) ?_)
   refine bp.yes lm ?_
   refine bp.inl (by
     (simp;omega)) ?_
   rw [aH h5 Bh5]
   exact fz
  ·simp only [step,SS]
   refine dO dn (⟨0,?_⟩)
   exact fz
def af:cz 143 aT:=L1 40 pid cu cR live step start mix aC aY (eP Z146.af Z154.af) Tryz.func143
end Z155
namespace Z156
def F (x0 x1 x2:Int):aI:=(cond (x1<=x0) (ret ((decide (x0<=x2)))) (ret false))
def md (a0 a1 a2:Int):Bool:=(cond (a1<=a0) ((decide (a0<=a2))) false)
def gd (a0 a1 a2:Int):Prop:=True
def R:=lp gd md
def ak {a0 a1 a2}(h:gd a0 a1 a2):R (a0,a1,a2)=some (md a0 a1 a2):=kZ h
def aT:=CN [pI,pI,pI] oB RT.dec R
def aY (a0)(a1)(a2)(hg:gd a0 a1 a2):F a0 a1 a2=ret (md a0 a1 a2):=by
 refine bs (fun c1=>?_) (fun _=>rfl)
 exact fz
def af:cz 167 aT:=W3 15 F mix aC aY .nil Tryz.func167
def br (a0 a1 a2:Int):md a0 a1 a2=Z59.md a0 a1 a2:=by
 unfold md Z59.md
 rfl
end Z156
namespace Z157
inductive Pt where
 | p0 (a:aE) (b c:Int)
def cu:Pt->List V
 | .p0 a b c=>[.str a,.int .i64 b,.int .i64 c]
def step (J:Pt->aI):Pt->aI
 | .p0 a b c=>(cond (c<b) (m2 c (a.size:Int) (cond ((eV a (toNat c))>=97) (cond ((eV a (toNat c))<=122) (J (.p0 a b (i64.wrap (c+1)))) (cond ((eV a (toNat c))>=48) (cond ((eV a (toNat c))<=57) (J (.p0 a b (i64.wrap (c+1)))) (cond ((eV a (toNat c))==45) (cond (c>0) (cond (!(decide (c<(i64.wrap ((a.size:Int) - 1))))) dx (J (.p0 a b (i64.wrap (c+1))))) dx) dx)) (cond ((eV a (toNat c))==45) (cond (c>0) (cond (!(decide (c<(i64.wrap ((a.size:Int) - 1))))) dx (J (.p0 a b (i64.wrap (c+1))))) dx) dx))) (cond ((eV a (toNat c))>=48) (cond ((eV a (toNat c))<=57) (J (.p0 a b (i64.wrap (c+1)))) (cond ((eV a (toNat c))==45) (cond (c>0) (cond (!(decide (c<(i64.wrap ((a.size:Int) - 1))))) dx (J (.p0 a b (i64.wrap (c+1))))) dx) dx)) (cond ((eV a (toNat c))==45) (cond (c>0) (cond (!(decide (c<(i64.wrap ((a.size:Int) - 1))))) dx (J (.p0 a b (i64.wrap (c+1))))) dx) dx)))) (call (Z156.R ((a.size:Int),1,8)) fun v1=>ret (v1:Bool)))
def start (J:Pt->aI)(x0:aE):aI:=J (.p0 x0 x0.size 0)
def live:Nat->Live:=fK [(2,gj [0,6,7])]
def md (a0:aE):Bool:=(eX (S:=Unit) (β:=Bool) (fun i1 s3=>(cond ((eV a0 i1)>=97) (cond ((eV a0 i1)<=122) (.inl ()) (cond ((eV a0 i1)>=48) (cond ((eV a0 i1)<=57) (.inl ()) (cond ((eV a0 i1)==45) (cond ((i1:Int)>0) (cond (!(decide (i1<(i64.wrap (a0.size - 1))))) (.inr false) (.inl ())) (.inr false)) (.inr false))) (cond ((eV a0 i1)==45) (cond ((i1:Int)>0) (cond (!(decide (i1<(i64.wrap (a0.size - 1))))) (.inr false) (.inl ())) (.inr false)) (.inr false)))) (cond ((eV a0 i1)>=48) (cond ((eV a0 i1)<=57) (.inl ()) (cond ((eV a0 i1)==45) (cond ((i1:Int)>0) (cond (!(decide (i1<(i64.wrap (a0.size - 1))))) (.inr false) (.inl ())) (.inr false)) (.inr false))) (cond ((eV a0 i1)==45) (cond ((i1:Int)>0) (cond (!(decide (i1<(i64.wrap (a0.size - 1))))) (.inr false) (.inl ())) (.inr false)) (.inr false))))) (fun s3=>((Z156.md a0.size 1 8))) a0.size 0 ())
def gd (a0:aE):Prop:=(a0.size<=(2^22))
def R:=RR gd md
def ak {a0}(h:gd a0):R a0=some (md a0):=cV h
def aT:=CN [pS] oB RT.dec R
def aY (a0)(hg:gd a0):∃n,start (iter step n) a0=ret (md a0):=by
 unfold gd at hg
 have Bh2:a0.size<=maxLen:=(by
   simp only [maxLen] at *
   omega)
 refine eo fz (cw (pt:=fun (i1:Nat) (s3:Unit)=>Pt.p0 a0 (a0.size:Int) (i1:Int)) (fun _ _=>True) (fun J i1 s3 h2 hih2=>?_) (fun s3 hih2=>?_) trivial)
 ·simp only [step,SS]
  refine bp.yes dt (bp.yes aD ?_)
  refine bp.yes (aK h2) (bp.bif (fun c4=>?_) (fun c4=>?_))
  ·refine bp.bif (fun c5=>?_) (fun c5=>?_)
   ·refine bp.inl trivial ?_
    rw [aH h2 Bh2]
   ·refine bp.bif (fun c6=>?_) (fun c6=>?_)
    ·refine bp.bif (fun c7=>?_) (fun c7=>?_)
     ·refine bp.inl trivial ?_
      rw [aH h2 Bh2]
     ·refine bp.bif (fun c8=>?_) (fun _=>bp.inr rfl)
      refine bp.bif (fun c9=>?_) (fun _=>bp.inr rfl)
      refine bp.bif (fun _=>bp.inr rfl) (fun c10=>?_)
      refine bp.inl trivial ?_
      rw [aH h2 Bh2]
    ·refine bp.bif (fun c11=>?_) (fun _=>bp.inr rfl)
     refine bp.bif (fun c12=>?_) (fun _=>bp.inr rfl)
     refine bp.bif (fun _=>bp.inr rfl) (fun c13=>?_)
     refine bp.inl trivial ?_
     rw [aH h2 Bh2]
  ·refine bp.bif (fun c14=>?_) (fun c14=>?_)
   ·refine bp.bif (fun c15=>?_) (fun c15=>?_)
    ·refine bp.inl trivial ?_
     rw [aH h2 Bh2]
    ·refine bp.bif (fun c16=>?_) (fun _=>bp.inr rfl)
     refine bp.bif (fun c17=>?_) (fun _=>bp.inr rfl)
     refine bp.bif (fun _=>bp.inr rfl) (fun c18=>?_)
     refine bp.inl trivial ?_
     rw [aH h2 Bh2]
   ·refine bp.bif (fun c19=>?_) (fun _=>bp.inr rfl)
    refine bp.bif (fun c20=>?_) (fun _=>bp.inr rfl)
    refine bp.bif (fun _=>bp.inr rfl) (fun c21=>?_)
    refine bp.inl trivial ?_
    rw [aH h2 Bh2]
 ·simp only [step,SS]
  refine dO dn (cx (Z156.ak trivial) ?_)
  refine ⟨0,?_⟩
  exact fz
def af:cz 125 aT:=L1 47 (fun _=>2) cu (fun _=>[]) live step start mix aC aY (cD Z156.af) Tryz.func125
def br (a0:aE):md a0=Z60.md a0:=by
 unfold md Z60.md
 by_cases hl:1<=a0.size/\a0.size<=8
 ·have e1:Z59.md (a0.size:Int) 1 8=true:=by simp [Z59.md];omega
  simp only [Z156.br,e1]
  have ew:i64.wrap ((a0.size:Int) - 1)=((a0.size - 1:Nat):Int):=by
   rw [Go.IntWalk.i64_in _ (by omega)];omega
  simp only [ew,cM]
  rw [Bool.eq_iff_iff]
  rw [jT (fun i=>(97<=eV a0 i/\eV a0 i<=122)∨(48<=eV a0 i/\eV a0 i<=57)∨(eV a0 i=45/\0<i/\i<a0.size - 1)) (fun i hi h=>by simp;grind) (fun i hi h=>by simp;grind)]
  have e2:=jT (n:=a0.size) (f:=fun (i4:Nat) (s6:Unit)=>(cond ((eV a0 i4)<97) (cond ((eV a0 i4)<48) (cond ((eV a0 i4) != 45) (.inr (false:Bool)) (.inl ())) (cond ((eV a0 i4)>57) (cond ((eV a0 i4) != 45) (.inr (false:Bool)) (.inl ())) (.inl ()))) (cond ((eV a0 i4)>122) (cond ((eV a0 i4)<48) (cond ((eV a0 i4) != 45) (.inr (false:Bool)) (.inl ())) (cond ((eV a0 i4)>57) (cond ((eV a0 i4) != 45) (.inr (false:Bool)) (.inl ())) (.inl ()))) (.inl ())))) (t:=fun _=>true)
   (fun i=>(97<=eV a0 i/\eV a0 i<=122)∨(48<=eV a0 i/\eV a0 i<=57)∨eV a0 i=45) (fun i hi h=>by simp;grind) (fun i hi h=>by simp;grind)
  have e3:∀b c d:Bool,(cond (!true) false (bif b then false else bif c then false else d))=true↔b=false/\c=false/\d=true:=by intro b c d;cases b<;>cases c<;>simp
  rw [e3,e2]
  simp only [beq_eq_false_iff_ne,ne_eq,and_true]
  constructor
  ·intro h
   refine ⟨fun h0=>?_,fun h0=>?_,fun i hi=>?_⟩
   ·have:=h 0 (by omega);omega
   ·have:=h (a0.size - 1) (by omega);omega
   ·have:=h i hi;omega
  ·intro ⟨h1,h2,h3⟩ i hi
   have:=h3 i hi
   by_cases h0:i=0
   ·subst h0;omega
   ·by_cases h9:i=a0.size - 1
    ·subst h9;omega
    ·omega
 ·have e1:Z59.md (a0.size:Int) 1 8=false:=by simp [Z59.md];omega
  simp only [Z156.br,e1]
  refine qC ?_ _ _ _
  intro i s b h
  revert h
  simp only [Bool.cond_eq_ite]
  repeat' split
  all_goals (intro h;first | (cases h;rfl) | cases h)
end Z157
namespace Z158
def F (x0:aE):aI:=(call (Z157.R x0) fun v1=>ret ((!v1)))
def md (a0:aE):Bool:=((!(Z157.md a0)))
def gd (a0:aE):Prop:=(a0.size<=(2^22))
def R:=RR gd md
def ak {a0}(h:gd a0):R a0=some (md a0):=cV h
def aT:=CN [pS] oB RT.dec R
def aY (a0)(H0:gd a0):F a0=ret (md a0):=ct (Z157.ak H0) fz
def af:cz 188 aT:=W1 6 F mix aC aY (cD Z157.af) Tryz.func188
end Z158
namespace Z159
inductive Pt where
 | p0 (a:aB) (b c:Int)
def pid:Pt->Nat
 | .p0 ..=>2
def cu:Pt->List V
 | .p0 a b c=>[.sl none 9 a,.fn 188 [],.int .i64 b,.int .i64 c]
def cR:Pt->List aW
 | .p0 a b c=>[]
def step (J:Pt->aI):Pt->aI
 | .p0 a b c=>(cond (c<b) (m2 c (a.length:Int) (call (Z158.R (qS a (toNat c))) fun v1=>(cond v1 (ret (c:Int)) (J (.p0 a b (i64.wrap (c+1))))))) bV)
def start (J:Pt->aI)(x0:aB):aI:=J (.p0 x0 x0.length 0)
def live:Nat->Live:=fK [(2,gj [0,1,7,8])]
def pats:List gK:=[.rd (.sl 9),.fn 188 []]
def res:RP:=.one (.rd (.int .i64))
abbrev E:Env:={ T:=assoc lC,G:=dK [(188,Z158.aT)],nt:=19 }
def step_eq (I:cJ)(p:Pt):dh E live I (pid p) (bI Tryz.f241) (fU (live (pid p)) (cu p) (cR p)) (cG E Tryz.f241 res)=step (fun q=>I (pid q) (cu q) (cR q)) p:=by
 cases p<;>kernel_rfl
def start_eq (I:cJ)(ls:List L):fH E live I (bI Tryz.f241) (dF pats ls) (cG E Tryz.f241 res)=start (fun q=>I (pid q) (cu q) (cR q)) (dc ls):=by kernel_rfl
def run_eq (n:Nat)(ls:List L):eY E live Tryz.f241 res n (dF pats ls)=start (iter step n) (dc ls):=cB (id:=pid) (vs:=cu) (hs:=cR) (step:=step) (start:=fun J=>start J (dc ls)) step_eq (fun I=>start_eq I ls) n
def md (a0:List aE):Int:=(ep (S:=Unit) (β:=Int) (fun i1 y1 s3=>(cond (Z158.md y1) (.inr (i1)) (.inl ()))) (fun s3=>((-1):Int)) 0 a0 ())
def gd (a0:List aE):Prop:=(bN (2^22) (fun y:aE=>y.size<=(2^22)) a0)
def acc (ls:List L):aB:=(dc ls)
def R:(aB)->Option Int:=RR gd md
def ak {a0}(h:gd a0):R (a0.map cX)=some (md a0):=cV h
def aT:gh:=CN pats res acc R
def aY (a0:List aE)(H0:gd a0):∃n,start (iter step n) (a0.map cX)=ret ((md a0):Int):=by
 have Bh2:=bl H0
 refine ex_eq (dw (z:=⟨#[]⟩)) (eo (p:=Pt.p0 (a0.map cX) (a0.length:Int) 0) fz ?_)
 refine cw (pt:=fun (i1:Nat) (s3:Unit)=>Pt.p0 (a0.map cX) (a0.length:Int) (i1:Int)) (fun _ _=>True) (fun J i1 s3 h2 hih2=>?_) (fun s3 hih2=>?_) trivial
 ·simp only [step,SS]
  refine bp.yes dt (bp.yes aD ?_)
  refine bp.yes (aK h2) (cr (Z158.ak (bN.getD H0 h2)) ?_)
  refine bp.bif (fun c4=>bp.inr fz) (fun c4=>?_)
  refine bp.inl trivial ?_
  rw [aH h2 Bh2]
 ·simp only [step,SS]
  refine dO dn (⟨0,?_⟩)
  exact fz
def af:cz 241 aT:=VV (run:=fun n x=>start (iter step n) x) mix aC (cD Z158.af) Tryz.func241 (by kernel_rfl) run_eq (fun _ a _ _ hg=>aY a hg)
def idx_eq (a0:List aE):md a0=jE (fun y=>Z158.md y) 0 a0:=iL
end Z159
namespace Z160
def F (x0:aB):aI:=(call (Z159.R x0) fun v1=>ret ((decide (v1>=0))))
def pats:List gK:=[.rd (.sl 9),.fn 188 []]
def res:RP:=.one (.rd (.bool))
def md (a0:List aE):Bool:=((decide ((Z159.md a0)>=0)))
def gd (a0:List aE):Prop:=(bN (2^22) (fun y:aE=>y.size<=(2^22)) a0)
def acc (ls:List L):aB:=(dc ls)
def R:(aB)->Option Bool:=RR gd md
def ak {a0}(h:gd a0):R (a0.map cX)=some (md a0):=cV h
def aT:gh:=CN pats res acc R
def aY (a0:List aE)(H0:gd a0):F (a0.map cX)=ret ((md a0):Bool):=ct (Z159.ak H0) fz
def af:cz 187 aT:=VV (live:=fun _=>[]) (nt:=9) (run:=fun _ x=>F x) mix aC (cD Z159.af) Tryz.func187 (by kernel_rfl) (fun _ _=>by kernel_rfl) (fun _ a _ _ hg=>⟨0,aY a hg⟩)
def any_eq (a0:List aE):md a0=a0.any (fun y=>Z158.md y):=by
 unfold md
 rw [Z159.idx_eq]
 exact sD
end Z160
namespace Z161
def F (x0:aB):aI:=(call (Z156.R (x0.length,1,4)) fun v1=>(cond v1 (call (Z160.R x0) fun v2=>ret ((!v2))) (ret false)))
def md (a0:List aE):Bool:=(cond (Z156.md a0.length 1 4) ((!(Z160.md a0))) false)
def gd (a0:List aE):Prop:=(bN (2^22) (fun y:aE=>y.size<=(2^22)) a0)
def R:=RR gd md
def ak {a0}(h:gd a0):R (a0.map cX)=some (md a0):=cV h
def aT:=CN [pL 9] oB RT.dec R
def aY (a0)(H0:gd a0):F (a0.map cX)=ret (md a0):=by
 unfold F md
 simp only [SS]
 refine ct (Z156.ak trivial) (bs (fun c1=>?_) (fun _=>rfl))
 exact ct (Z160.ak H0) fz
def af:cz 144 aT:=W1 11 F mix aC aY (eP Z156.af Z160.af) Tryz.func144
def br (a0:List aE):md a0=Z61.md a0:=by
 unfold md Z61.md
 rw [Z160.any_eq]
 have e:=nH (p:=fun y=>!(Z60.md y)) (b:=false) (c:=Z59.md (a0.length:Int) 1 4) (xs:=a0) (s:=())
 refine Eq.trans ?_ e.symm
 simp only [Z158.md,Z157.br,Z156.br]
 cases a0.any (fun y=>!(Z60.md y))<;>cases Z59.md (a0.length:Int) 1 4<;>rfl
end Z161
namespace Z162
def F (x0:bP)(x1 x2:List L):aI:=(cond (x0.bz==(gq x1)) (ret ((x0.aV==(sDec x2)))) (ret false))
def pats:List gK:=[.agg [au,.str,.sl 178,.bool,.str,au,au,.sl 9,au,.sl 3,au,.str,au,au,.sl 9,.str,au,au,.sl 9,au,.sl 3,au,.sl 3],.ptr [au],.ptr [.str]]
def res:RP:=.one (.rd (.bool))
def md (a0:av)(a1:Int)(a2:aE):Bool:=(cond (a0.bz==a1) ((a0.aV==a2)) false)
def gd (a0:av)(a1:Int)(a2:aE):Prop:=True
def acc (ls:List L):bP×Int×aE:=((bP.dec ls),(gq (cI 1 (bE 23 ls))),(sDec (cI 1 (bE 24 ls))))
def R:(bP×Int×aE)->Option Bool:=lp gd md
def ak {a0 a1 a2}(h:gd a0 a1 a2):R ((av.r a0),a1,a2)=some (md a0 a1 a2):=kZ h
def aT:gh:=CN pats res acc R
def aY (a0:av)(a1:Int)(a2:aE)(p1 p2:List L)(e1:a1=(gq p1))(e2:a2=(sDec p2))(hg:gd a0 a1 a2):F (av.r a0) p1 p2=ret ((md a0 a1 a2):Bool):=by
 unfold F md
 simp only [SS,<-e1,<-e2]
 refine bs (fun c1=>?_) (fun _=>rfl)
 exact fz
def nY (ls:List L)(a:av×Int×aE)(e:acc ls=Im.im a)(hg:(p3 gd) a):∃n:Nat,F (bP.dec ls) (cI 1 (bE 23 ls)) (cI 1 (bE 24 ls))=ret (Im.im ((u3 md) a)):=by
 have e0:(av.r a.1)=(bP.dec ls):=(congrArg (fun x=>x.1) e.symm)
 have hn:=aY a.1 a.2.1 a.2.2 (cI 1 (bE 23 ls)) (cI 1 (bE 24 ls)) (congrArg (fun x=>x.2.1) e.symm) (congrArg (fun x=>x.2.2) e.symm) hg
 refine ⟨0,?_⟩
 rw [<-e0]
 exact hn
def af:cz 190 aT:=VP (live:=fun _=>[]) (nt:=15) (accr:=fun ls=>((bP.dec ls),(cI 1 (bE 23 ls)),(cI 1 (bE 24 ls)))) (run:=fun _ x=>F x.1 x.2.1 x.2.2) mix aC .nil Tryz.func190 (by kernel_rfl) (fun _ _=>by kernel_rfl) (fun ls a _ e hg=>nY ls a e hg)
end Z162
namespace Z163
inductive Pt where
 | p0 (a:aB) (b c:List L) (d e:Int)
def pid:Pt->Nat
 | .p0 ..=>2
def cu:Pt->List V
 | .p0 a b c d e=>[.sl none 148 a,.fn 190 [.dQ none [au] b 0,.dQ none [.str] c 0],.int .i64 d,.int .i64 e]
def cR:Pt->List aW
 | .p0 a b c d e=>[]
def step (J:Pt->aI):Pt->aI
 | .p0 a b c d e=>(cond (e<d) (m2 e (a.length:Int) (call (Z162.R ((bP.at a (toNat e)),(gq b),(sDec c))) fun v1=>(cond v1 (ret (e:Int)) (J (.p0 a b c d (i64.wrap (e+1))))))) bV)
def start (J:Pt->aI)(x0:aB)(x1 x2:List L):aI:=J (.p0 x0 x1 x2 x0.length 0)
def live:Nat->Live:=fK [(2,gj [0,1,7,8])]
def pats:List gK:=[.rd (.sl 148),.fn 190 [[au],[.str]]]
def res:RP:=.one (.rd (.int .i64))
abbrev E:Env:={ T:=assoc lC,G:=dK [(190,Z162.aT)],nt:=19 }
def step_eq (I:cJ)(p:Pt):dh E live I (pid p) (bI Tryz.f155) (fU (live (pid p)) (cu p) (cR p)) (cG E Tryz.f155 res)=step (fun q=>I (pid q) (cu q) (cR q)) p:=by
 cases p<;>kernel_rfl
def start_eq (I:cJ)(ls:List L):fH E live I (bI Tryz.f155) (dF pats ls) (cG E Tryz.f155 res)=start (fun q=>I (pid q) (cu q) (cR q)) (dc ls) (cI 1 (bE 1 ls)) (cI 1 (bE 2 ls)):=by kernel_rfl
def run_eq (n:Nat)(ls:List L):eY E live Tryz.f155 res n (dF pats ls)=start (iter step n) (dc ls) (cI 1 (bE 1 ls)) (cI 1 (bE 2 ls)):=cB (id:=pid) (vs:=cu) (hs:=cR) (step:=step) (start:=fun J=>start J (dc ls) (cI 1 (bE 1 ls)) (cI 1 (bE 2 ls))) step_eq (fun I=>start_eq I ls) n
def md (a0:List av)(a1:Int)(a2:aE):Int:=(ep (S:=Unit) (β:=Int) (fun i1 y1 s3=>(cond (Z162.md y1 a1 a2) (.inr (i1)) (.inl ()))) (fun s3=>((-1):Int)) 0 a0 ())
def gd (a0:List av)(a1:Int)(a2:aE):Prop:=(bN (2^21) (fun y:av=>av.Sm (2^21) y) a0)
def acc (ls:List L):aB×Int×aE:=((dc ls),(gq (cI 1 (bE 1 ls))),(sDec (cI 1 (bE 2 ls))))
def R:(aB×Int×aE)->Option Int:=lp gd md
def ak {a0 a1 a2}(h:gd a0 a1 a2):R ((a0.map av.row),a1,a2)=some (md a0 a1 a2):=kZ h
def aT:gh:=CN pats res acc R
def aY (a0:List av)(a1:Int)(a2:aE)(p1 p2:List L)(e1:a1=(gq p1))(e2:a2=(sDec p2))(H0:gd a0 a1 a2):∃n,start (iter step n) (a0.map av.row) p1 p2=ret ((md a0 a1 a2):Int):=by
 have Bh2:=bl H0
 refine ex_eq (dw (z:=av.zero)) (eo (p:=Pt.p0 (a0.map av.row) p1 p2 (a0.length:Int) 0) fz ?_)
 refine cw (pt:=fun (i1:Nat) (s3:Unit)=>Pt.p0 (a0.map av.row) p1 p2 (a0.length:Int) (i1:Int)) (fun _ _=>True) (fun J i1 s3 h2 hih2=>?_) (fun s3 hih2=>?_) trivial
 ·simp only [step,SS,<-e1,<-e2]
  refine bp.yes dt (bp.yes aD ?_)
  refine bp.yes (aK h2) (cr (Z162.ak trivial) ?_)
  refine bp.bif (fun c4=>bp.inr fz) (fun c4=>?_)
  refine bp.inl trivial ?_
  rw [aH h2 Bh2]
 ·simp only [step,SS,<-e1,<-e2]
  refine dO dn (⟨0,?_⟩)
  exact fz
def nY (ls:List L)(a:List av×Int×aE)(e:acc ls=Im.im a)(hg:(p3 gd) a):∃n:Nat,start (iter step n) ((dc ls)) (cI 1 (bE 1 ls)) (cI 1 (bE 2 ls))=ret (Im.im ((u3 md) a)):=by
 have e0:(a.1.map av.row)=(dc ls):=(congrArg (fun x=>x.1) e.symm)
 obtain ⟨n,hn⟩:=aY a.1 a.2.1 a.2.2 (cI 1 (bE 1 ls)) (cI 1 (bE 2 ls)) (congrArg (fun x=>x.2.1) e.symm) (congrArg (fun x=>x.2.2) e.symm) hg
 refine ⟨n,?_⟩
 rw [<-e0]
 exact hn
def af:cz 155 aT:=VP (accr:=fun ls=>((dc ls),(cI 1 (bE 1 ls)),(cI 1 (bE 2 ls)))) (run:=fun n x=>start (iter step n) x.1 x.2.1 x.2.2) mix aC (cD Z162.af) Tryz.func155 (by kernel_rfl) run_eq (fun ls a _ e hg=>nY ls a e hg)
def fa (a0:List av)(a1:Int)(a2:aE):-1<=md a0 a1 a2/\md a0 a1 a2<(a0.length:Int):=by
 refine iO ?_ _ _
 all_goals
  intro i x s b h
  revert h
  simp only [Bool.cond_eq_ite]
  repeat' split
  all_goals (intro h;first | (cases h;rfl) | cases h)
def idx_eq (a0:List av)(a1:Int)(a2:aE):md a0 a1 a2=jE (fun y=>Z162.md y a1 a2) 0 a0:=iL
end Z163
namespace Z164
def F (x0:cH)(x1:Int)(x2:aE):aI:=(call (Z163.R (x0.aO,x1,x2)) fun v1=>ret v1)
def md (a0:aJ)(a1:Int)(a2:aE):Int:=((Z163.md a0.aO a1 a2))
def gd (a0:aJ)(a1:Int)(a2:aE):Prop:=(aJ.Sm (2^21) a0)
def R:=lp gd md
def ak {a0 a1 a2}(h:gd a0 a1 a2):R ((aJ.r a0),a1,a2)=some (md a0 a1 a2):=kZ h
def aT:=CN [.agg zh,pI,pS] oI RT.dec R
def aY (a0)(a1)(a2)(H0:gd a0 a1 a2):F (aJ.r a0) a1 a2=ret (md a0 a1 a2):=ct (Z163.ak H0) fz
def af:cz 146 aT:=W3 11 F mix aC aY (cD Z163.af) Tryz.func146
def fa (a0:aJ)(a1:Int)(a2:aE):-1<=md a0 a1 a2/\md a0 a1 a2<(a0.aO.length:Int):=by unfold md;exact Z163.fa _ _ _
def br (a0:aJ)(a1:Int)(a2:aE):md a0 a1 a2=Z62.md a0 a1 a2:=by
 unfold md Z62.md
 rw [Z163.idx_eq]
 symm
 refine kU (fun i x s=>?_) _ _ _
 unfold Z162.md
 cases x.bz==a1<;>cases x.aV==a2<;>rfl
end Z164
namespace Z165
def F (x0:cH)(x1:Int)(x2:aE):aI:=(call (Z164.R (x0,x1,x2)) fun v1=>(cond (v1<0) (ret ((⟨[],false,(⟨(⟨#[]⟩:aE),0,0,[]⟩),(⟨0,[]⟩),(⟨0,(⟨(⟨#[]⟩:aE),0,0,[]⟩),(⟨(⟨#[]⟩:aE),0,0,[]⟩),(⟨0,[]⟩),(⟨0,[]⟩)⟩)⟩):bq)) (m2 v1 x0.aO.length (call (Z151.R ((bP.at x0.aO (toNat v1)).bk)) fun v2=>ret v2))))
def md (a0:aJ)(a1:Int)(a2:aE):aq:=(cond ((Z164.md a0 a1 a2)<0) (⟨[],false,(⟨((⟨#[]⟩:aE)),0,0,[]⟩),(⟨0,[]⟩),(⟨0,(⟨((⟨#[]⟩:aE)),0,0,[]⟩),(⟨((⟨#[]⟩:aE)),0,0,[]⟩),(⟨0,[]⟩),(⟨0,[]⟩)⟩)⟩) ((a0.aO.getD (toNat (Z164.md a0 a1 a2)) av.zero).bk))
def gd (a0:aJ)(a1:Int)(a2:aE):Prop:=(aJ.Sm (2^21) a0)
def R:=lp gd md
def ak {a0 a1 a2}(h:gd a0 a1 a2):R ((aJ.r a0),a1,a2)=some (aq.r (md a0 a1 a2)):=kZ h
def aT:=CN [.agg zh,pI,pS] (.agg f126) RT.dec R
def aY (a0)(a1)(a2)(H0:gd a0 a1 a2):F (aJ.r a0) a1 a2=ret (aq.r (md a0 a1 a2)):=by
 unfold F md
 simp only [SS]
 refine ct (Z164.ak H0) ?_
 have fv1_:=Z164.fa a0 a1 a2
 refine bo (fun c1=>fz) (fun c1=>?_)
 have dc1:=c1
 simp only [DC] at dc1
 refine aj dt (aj dt ?_)
 exact ct (Z151.ak (bN.getD H0 (by omega)).2) fz
def af:cz 97 aT:=W3 22 F mix aC aY (eP Z164.af Z151.af) Tryz.func97
def br (a0:aJ)(a1:Int)(a2:aE):md a0 a1 a2=Z63.md a0 a1 a2:=by
 unfold md Z63.md
 simp only [Z164.br]
end Z165
namespace Z166
def F (x0:Int):aI:=(call (Z156.R (x0,0,2147483646)) fun v1=>ret v1)
def md (a0:Int):Bool:=((Z156.md a0 0 2147483646))
def gd (a0:Int):Prop:=True
def R:=RR gd md
def ak {a0}(h:gd a0):R a0=some (md a0):=cV h
def aT:=CN [pI] oB RT.dec R
def aY (a0)(hg:gd a0):F a0=ret (md a0):=ct (Z156.ak trivial) fz
def af:cz 126 aT:=W1 5 F mix aC aY (cD Z156.af) Tryz.func126
end Z166
namespace Z167
def F (x0:dI):aI:=(cond (x0.cT>=0) (cond (x0.cT<=x0.cL) (cond (x0.cL<=100000) (ret ((decide ((i64.wrap (x0.cL - x0.cT))<=200)))) (ret false)) (ret false)) (ret false))
def md (a0:aF):Bool:=(cond (a0.cT>=0) (cond (a0.cT<=a0.cL) (cond (a0.cL<=100000) ((decide ((i64.wrap (a0.cL - a0.cT))<=200))) false) false) false)
def gd (a0:aF):Prop:=True
def R:=RR gd md
def ak {a0}(h:gd a0):R (aF.r a0)=some (md a0):=cV h
def aT:=CN [.agg gH] oB RT.dec R
def aY (a0)(hg:gd a0):F (aF.r a0)=ret (md a0):=by
 refine bs (fun c1=>?_) (fun _=>rfl)
 refine bs (fun c2=>?_) (fun _=>rfl)
 refine bs (fun c3=>?_) (fun _=>rfl)
 exact fz
def af:cz 359 aT:=W1 26 F mix aC aY .nil Tryz.func359
end Z167
namespace Z168
inductive Pt where
 | p0 (a:aB) (b c:Int)
def cu:Pt->List V
 | .p0 a b c=>[.sl none 3 a,.int .i64 b,.int .i64 c]
def step (J:Pt->aI):Pt->aI
 | .p0 a b c=>(cond (c<b) (cond (c>0) (m2 c (a.length:Int) (bY ((0:Int)<=(i64.wrap (c - 1))) (bY ((i64.wrap (c - 1))<(a.length:Int)) (cond ((kr a (toNat c))<=(kr a (toNat (i64.wrap (c - 1))))) dx (J (.p0 a b (i64.wrap (c+1)))))))) (J (.p0 a b (i64.wrap (c+1))))) gA)
def start (J:Pt->aI)(x0:aB):aI:=J (.p0 x0 x0.length 0)
def live:Nat->Live:=fK [(2,gj [0,5,6])]
def md (a0:List Int):Bool:=(ep (S:=Unit) (β:=Bool) (fun i1 y1 s3=>(cond ((i1:Int)>0) (cond (y1<=(a0.getD (toNat (i64.wrap (i1 - 1))) 0)) (.inr false) (.inl ())) (.inl ()))) (fun s3=>true) 0 a0 ())
def gd (a0:List Int):Prop:=(bN (2^38) (fun y:Int=>True) a0)
def R:=RR gd md
def ak {a0}(h:gd a0):R (a0.map bt)=some (md a0):=cV h
def aT:=CN [pL 3] oB RT.dec R
def aY (a0)(H0:gd a0):∃n,start (iter step n) (a0.map bt)=ret (md a0):=by
 have Bh2:=bl H0
 refine ex_eq (dw (z:=0)) (eo (p:=Pt.p0 (a0.map bt) (a0.length:Int) 0) fz ?_)
 refine cw (pt:=fun (i1:Nat) (s3:Unit)=>Pt.p0 (a0.map bt) (a0.length:Int) (i1:Int)) (fun _ _=>True) (fun J i1 s3 h2 hih2=>?_) (fun s3 hih2=>?_) trivial
 ·simp only [step,SS]
  have:=(H0).1
  refine bp.yes dt (bp.bif (fun c4=>?_) (fun c4=>?_))
  ·have dc4:=c4
   simp only [DC] at dc4
   refine bp.yes aD (bp.yes (aK h2) ?_)
   refine bp.yes dt (bp.yes dt ?_)
   refine bp.bif (fun _=>bp.inr rfl) (fun c5=>?_)
   refine bp.inl trivial ?_
   rw [aH h2 Bh2]
  ·refine bp.inl trivial ?_
   rw [aH h2 Bh2]
 ·simp only [step,SS]
  refine dO dn (⟨0,?_⟩)
  exact fz
def af:cz 388 aT:=L1 24 (fun _=>2) cu (fun _=>[]) live step start mix aC aY .nil Tryz.func388
end Z168
namespace Z169
def F (x0:Int):aI:=(call (Z156.R (x0,1,99)) fun v1=>ret v1)
def md (a0:Int):Bool:=((Z156.md a0 1 99))
def gd (a0:Int):Prop:=True
def R:=RR gd md
def ak {a0}(h:gd a0):R a0=some (md a0):=cV h
def aT:=CN [pI] oB RT.dec R
def aY (a0)(hg:gd a0):F a0=ret (md a0):=ct (Z156.ak trivial) fz
def af:cz 389 aT:=W1 5 F mix aC aY (cD Z156.af) Tryz.func389
end Z169
namespace Z170
def F (x0:dz):aI:=(call (Z156.R (x0.aO.length,1,4)) fun v1=>(cond v1 (call (Z168.R x0.aO) fun v2=>(cond v2 (bY ((0:Int)<x0.aO.length) (call (Z169.R (kr x0.aO 0)) fun v3=>(cond v3 (bY ((0:Int)<=(i64.wrap (x0.aO.length - 1))) (bY ((i64.wrap (x0.aO.length - 1))<x0.aO.length) (call (Z169.R (kr x0.aO (toNat (i64.wrap (x0.aO.length - 1))))) fun v4=>(cond v4 (call (Z156.R (x0.cO,1,x0.aO.length)) fun v5=>ret v5) (ret false))))) (ret false)))) (ret false))) (ret false)))
def md (a0:aR):Bool:=(cond (Z156.md a0.aO.length 1 4) (cond (Z168.md a0.aO) (cond (Z169.md (a0.aO.getD 0 0)) (cond (Z169.md (a0.aO.getD (toNat (i64.wrap (a0.aO.length - 1))) 0)) ((Z156.md a0.cO 1 a0.aO.length)) false) false) false) false)
def gd (a0:aR):Prop:=(aR.Sm (2^21) a0)
def R:=RR gd md
def ak {a0}(h:gd a0):R (aR.r a0)=some (md a0):=cV h
def aT:=CN [.agg jG] oB RT.dec R
def aY (a0)(H0:gd a0):F (aR.r a0)=ret (md a0):=by
 unfold F md
 simp only [SS]
 refine ct (Z156.ak trivial) (bs (fun c1=>?_) (fun _=>rfl))
 have Dc1:=c1
 simp [Z156.md] at Dc1
 refine ct (Z168.ak (H0.mono (by decide) (fun x hx=>trivial))) (bs (fun c2=>?_) (fun _=>rfl))
 refine aj dt (ct (Z169.ak trivial) ?_)
 refine bs (fun c3=>?_) (fun _=>rfl)
 refine aj dt (aj dt ?_)
 refine ct (Z169.ak trivial) (bs (fun c4=>?_) (fun _=>rfl))
 exact ct (Z156.ak trivial) fz
def af:cz 360 aT:=W1 38 F mix aC aY (kC Z156.af Z168.af Z169.af) Tryz.func360
def Du {l:List Int}(h:∀i:Nat,i<l.length->0<i->l.getD (i - 1) 0<l.getD i 0):∀(k i:Nat),i+k<l.length->l.getD i 0<=l.getD (i+k) 0
 | 0,i,_=>Int.le_refl _
 | k+1,i,hi=>by
  have h1:=Du h k i (by omega)
  have h2:=h (i+(k+1)) hi (by omega)
  rw [show i+(k+1) - 1=i+k by omega] at h2
  omega
def br (a0:aR):md a0=Z64.md a0:=by
 unfold md Z64.md Z168.md
 simp only [Z156.br,Z169.md]
 by_cases hl:1<=a0.aO.length/\a0.aO.length<=4
 ·have e1:Z59.md (a0.aO.length:Int) 1 4=true:=by simp [Z59.md];omega
  rw [e1]
  have wp:∀i:Nat,0<i->i<=4->toNat (i64.wrap ((i:Int) - 1))=i - 1:=fun i h1 h2=>by
   rw [Go.IntWalk.i64_in _ (by omega)];omega
  rw [wp _ (by omega) (by omega)]
  generalize a0.cO=n
  generalize a0.aO=l at *
  have i1:∀x a b:Int,Z59.md x a b=true↔a<=x/\x<=b:=fun x a b=>by simp [Z59.md]
  have i2:∀x a b:Int,Z59.md x a b=false↔¬(a<=x/\x<=b):=fun x a b=>by rw [<-i1];simp
  have w2:∀i:Nat,i<l.length->0<i->toNat (i64.wrap ((i:Int) - 1))=i - 1:=fun i h1 h2=>wp i h2 (by omega)
  rw [Bool.eq_iff_iff,<-dw (z:=0),<-dw]
  have e3:∀a b c d:Bool,(cond true (cond a (cond b (cond c d false) false) false) false)=true↔a=true/\b=true/\c=true/\d=true:=by
   intro a b c d;cases a<;>cases b<;>cases c<;>simp
  have pos:∀i:Nat,0<i->decide ((i:Int)>0)=true:=fun i h=>by simpa using h
  have npos:∀i:Nat,¬0<i->decide ((i:Int)>0)=false:=fun i h=>by simpa using h
  rw [e3]
  rw [jT (fun i=>0<i->l.getD (i - 1) 0<l.getD i 0) (fun i hi h=>?_) (fun i hi h=>?_),jT (fun i=>(1<=l.getD i 0/\l.getD i 0<=99)/\(0<i->l.getD (i - 1) 0<l.getD i 0)) (fun i hi h=>?_) (fun i hi h=>?_)]
  ·simp only [i1,and_true,aZ]
   constructor
   ·rintro ⟨h1,⟨h2,h3⟩,⟨h4,h5⟩,h6⟩
    refine ⟨fun i hi=>⟨⟨?_,?_⟩,h1 i hi⟩,h6⟩
    ·have:=Du h1 i 0 (by omega)
     rw [Nat.zero_add] at this;omega
    ·have:=Du h1 (l.length - 1 - i) i (by omega)
     rw [show i+(l.length - 1 - i)=l.length - 1 by omega] at this;omega
   ·rintro ⟨h1,h6⟩
    exact ⟨fun i hi=>(h1 i hi).2,(h1 0 (by omega)).1,(h1 (l.length - 1) (by omega)).1,h6⟩
  ·have e2:=(i1 (l.getD i 0) 1 99).2 h.1
   rw [e2]
   by_cases h0:0<i
   ·rw [pos i h0,w2 i hi h0,decide_eq_false (by omega)];rfl
   ·rw [npos i h0];rfl
  ·by_cases h1:1<=l.getD i 0/\l.getD i 0<=99
   ·have e2:=(i1 (l.getD i 0) 1 99).2 h1
    have h0:0<i:=Classical.byContradiction fun hc=>h ⟨h1,fun h=>(hc h).elim⟩
    rw [e2,pos i h0,w2 i hi h0,decide_eq_true (by omega)];rfl
   ·rw [(i2 _ _ _).2 h1];rfl
  ·by_cases h0:0<i
   ·rw [pos i h0,w2 i hi h0,decide_eq_false (by omega)];rfl
   ·rw [npos i h0];rfl
  ·have h0:0<i:=Classical.byContradiction fun hc=>h fun h=>(hc h).elim
   rw [pos i h0,w2 i hi h0,decide_eq_true (by omega)];rfl
 ·have e1:Z59.md (a0.aO.length:Int) 1 4=false:=by simp [Z59.md];omega
  rw [e1]
  simp only [aX]
  symm
  exact nq (by
   intro i x s b h
   revert h
   simp only [Bool.cond_eq_ite]
   repeat' split
   all_goals (intro h;first | (cases h;rfl) | cases h)) _ _ _
end Z170
namespace Z171
def F (x0:dz):aI:=(cond (x0.cO==0) (ret (((x0.aO.length:Int)==0))) (ret false))
def md (a0:aR):Bool:=(cond (a0.cO==0) (((a0.aO.length:Int)==0)) false)
def gd (a0:aR):Prop:=True
def R:=RR gd md
def ak {a0}(h:gd a0):R (aR.r a0)=some (md a0):=cV h
def aT:=CN [.agg jG] oB RT.dec R
def aY (a0)(hg:gd a0):F (aR.r a0)=ret (md a0):=by
 refine bs (fun c1=>?_) (fun _=>rfl)
 exact fz
def af:cz 363 aT:=W1 12 F mix aC aY .nil Tryz.func363
def br (a0:aR):md a0=Z65.md a0:=by
 unfold md Z65.md
 simp only [id]
end Z171
namespace Z172
def F (x0:dz):aI:=(call (Z171.R x0) fun v1=>(cond v1 (ret true) (call (Z170.R x0) fun v2=>ret v2)))
def md (a0:aR):Bool:=(cond (Z171.md a0) true ((Z170.md a0)))
def gd (a0:aR):Prop:=(aR.Sm (2^21) a0)
def R:=RR gd md
def ak {a0}(h:gd a0):R (aR.r a0)=some (md a0):=cV h
def aT:=CN [.agg jG] oB RT.dec R
def aY (a0)(H0:gd a0):F (aR.r a0)=ret (md a0):=by
 refine ct (Z171.ak trivial) (bs (fun _=>rfl) (fun c1=>?_))
 exact ct (Z170.ak H0) fz
def af:cz 361 aT:=W1 9 F mix aC aY (eP Z171.af Z170.af) Tryz.func361
end Z172
namespace Z173
def F (x0:Int)(x1:dz):aI:=(call (Z171.R x1) fun v1=>(cond v1 (ret ((x0==0))) (call (Z156.R (x0,1,500)) fun v2=>ret v2)))
def md (a0:Int)(a1:aR):Bool:=(cond (Z171.md a1) ((a0==0)) ((Z156.md a0 1 500)))
def gd (a0:Int)(a1:aR):Prop:=True
def R:=cm gd md
def ak {a0 a1}(h:gd a0 a1):R (a0,(aR.r a1))=some (md a0 a1):=cq h
def aT:=CN [pI,.agg jG] oB RT.dec R
def aY (a0)(a1)(hg:gd a0 a1):F a0 (aR.r a1)=ret (md a0 a1):=ct (Z171.ak trivial) (bs (fun c1=>fz) (fun c1=>ct (Z156.ak trivial) fz))
def af:cz 362 aT:=W2 11 F mix aC aY (eP Z171.af Z156.af) Tryz.func362
end Z173
namespace Z174
def F (x0:dI):aI:=(call (Z166.R x0.bz) fun v1=>(cond v1 (call (Z166.R x0.dG) fun v2=>(cond v2 (call (Z166.R x0.dY) fun v3=>(cond v3 (call (Z156.R (x0.cU,0,200)) fun v4=>(cond v4 (call (Z156.R (x0.bJ,1,3)) fun v5=>(cond v5 (call (Z167.R x0) fun v6=>(cond v6 (call (Z156.R (x0.cE,0,12)) fun v7=>(cond v7 (call (Z170.R x0.bU) fun v8=>(cond v8 (call (Z172.R x0.bF) fun v9=>(cond v9 (call (Z172.R x0.bC) fun v10=>(cond v10 (call (Z173.R (x0.dM,x0.bF)) fun v11=>(cond v11 (cond x0.bD (call (Z171.R x0.bC) fun v12=>ret ((!v12))) (ret true)) (ret false))) (ret false))) (ret false))) (ret false))) (ret false))) (ret false))) (ret false))) (ret false))) (ret false))) (ret false))) (ret false)))
def md (a0:aF):Bool:=(cond (Z166.md a0.bz) (cond (Z166.md a0.dG) (cond (Z166.md a0.dY) (cond (Z156.md a0.cU 0 200) (cond (Z156.md a0.bJ 1 3) (cond (Z167.md a0) (cond (Z156.md a0.cE 0 12) (cond (Z170.md a0.bU) (cond (Z172.md a0.bF) (cond (Z172.md a0.bC) (cond (Z173.md a0.dM a0.bF) (cond a0.bD ((!(Z171.md a0.bC))) true) false) false) false) false) false) false) false) false) false) false) false)
def gd (a0:aF):Prop:=(aF.Sm (2^21) a0)
def R:=RR gd md
def ak {a0}(h:gd a0):R (aF.r a0)=some (md a0):=cV h
def aT:=CN [.agg gH] oB RT.dec R
def aY (a0)(H0:gd a0):F (aF.r a0)=ret (md a0):=by
 refine ct (Z166.ak trivial) (bs (fun c1=>?_) (fun _=>rfl))
 refine ct (Z166.ak trivial) (bs (fun c2=>?_) (fun _=>rfl))
 refine ct (Z166.ak trivial) (bs (fun c3=>?_) (fun _=>rfl))
 refine ct (Z156.ak trivial) (bs (fun c4=>?_) (fun _=>rfl))
 refine ct (Z156.ak trivial) (bs (fun c5=>?_) (fun _=>rfl))
 refine ct (Z167.ak trivial) (bs (fun c6=>?_) (fun _=>rfl))
 refine ct (Z156.ak trivial) (bs (fun c7=>?_) (fun _=>rfl))
 refine ct (Z170.ak H0.1) (bs (fun c8=>?_) (fun _=>rfl))
 refine ct (Z172.ak H0.2.1) (bs (fun c9=>?_) (fun _=>rfl))
 refine ct (Z172.ak H0.2.2) (bs (fun c10=>?_) (fun _=>rfl))
 refine ct (Z173.ak trivial) (bs (fun c11=>?_) (fun _=>rfl))
 refine bs (fun c12=>?_) (fun _=>rfl)
 exact ct (Z171.ak trivial) fz
def af:cz 335 aT:=W1 67 F mix aC aY (Ae Z166.af Z156.af Z167.af Z170.af Z172.af Z173.af Z171.af) Tryz.func335
def br (a0:aF):md a0=Z66.md a0:=by
 unfold md Z66.md
 simp only [Z170.br,Z156.br,Z166.md,Z172.md,Z173.md,Z171.br]
 have hs:Z167.md a0=(Z59.md a0.cT 0 100000&&(Z59.md a0.cL a0.cT 100000&&!decide ((i64.wrap (a0.cL - a0.cT))>200))):=by
  rw [Bool.eq_iff_iff]
  simp [Z167.md,Z59.md]
  omega
 have hk:Z64.md a0.bC=true->Z65.md a0.bC=false:=fun h=>by
  have:=Z64.tr h
  have e:((a0.bC.aO.length:Int)==0)=false:=beq_eq_false_iff_ne.2 (by omega)
  unfold Z65.md
  rw [e]
  cases a0.bC.cO==0<;>rfl
 rw [hs]
 revert hk
 simp only [CV,BA,Bool.and_assoc]
 generalize Z59.md a0.bz 0 2147483646=b1
 generalize Z59.md a0.dG 0 2147483646=b2
 generalize Z59.md a0.dY 0 2147483646=b3
 generalize Z59.md a0.cU 0 200=b4
 generalize Z59.md a0.bJ 1 3=b5
 generalize Z59.md a0.cT 0 100000=b6
 generalize Z59.md a0.cL a0.cT 100000=b7
 generalize decide ((i64.wrap (a0.cL - a0.cT))>200)=b8
 generalize Z59.md a0.cE 0 12=b9
 generalize Z64.md a0.bU=b10
 generalize Z64.md a0.bF=kh
 generalize Z65.md a0.bF=nh
 generalize Z64.md a0.bC=kj
 generalize Z65.md a0.bC=nj
 generalize Z59.md a0.dM 1 500=lw
 have hw:(a0.dM != 0)=!(a0.dM==0):=rfl
 rw [hw]
 generalize (a0.dM==0)=w0
 generalize a0.bD=fz
 intro hk
 cases b1;· rfl
 cases b2;· rfl
 cases b3;· rfl
 cases b4;· rfl
 cases b5;· rfl
 cases b6;· rfl
 cases b7;· rfl
 cases b8;rotate_left;· rfl
 cases b9;· rfl
 cases b10;· rfl
 revert hk
 revert kh nh kj nj lw w0 fz
 decide
end Z174
namespace Z175
def F (x0:dz):aI:=(bY (fJ (((2:Int)+x0.aO.length)*8)) (ret (([[L.int x0.cO],[L.int x0.aO.length]]++x0.aO):aB)))
def md (a0:aR):List Int:=([a0.cO,a0.aO.length]++a0.aO)
def gd (a0:aR):Prop:=(aR.Sm (2^21) a0)
def R:=RR gd md
def ak {a0}(h:gd a0):R (aR.r a0)=some ((md a0).map bt):=cV h
def aT:=CN [.agg jG] (oL 3) RT.dec R
def aY (a0)(H0:gd a0):F (aR.r a0)=ret ((md a0).map bt):=by
 unfold F md
 simp only [SS]
 exact aj (have:=(H0).1;lm) fz
def af:cz 364 aT:=W1 12 F mix aC aY .nil Tryz.func364
def len (a0:aR):(md a0).length=2+a0.aO.length:=by simp [md];omega
def br (a0:aR):md a0=Z67.md a0:=by
 unfold md Z67.md
 simp only [id]
end Z175
namespace Z176
def F (x0 x1:Int):aI:=(call (Z156.R (x1,1,1000000000000)) fun v1=>(cond (!v1) (ret (0:Int)) (cond (x1=0) none (cond (x1=0) none (ret ((Int.tmod (i64.wrap ((Int.tmod x0 x1)+x1)) x1)))))))
def md (a0 a1:Int):Int:=(cond (!(Z156.md a1 1 1000000000000)) (0:Int) ((Int.tmod (i64.wrap ((Int.tmod a0 a1)+a1)) a1)))
def gd (a0 a1:Int):Prop:=True
def R:=cm gd md
def ak {a0 a1}(h:gd a0 a1):R (a0,a1)=some (md a0 a1):=cq h
def aT:=CN [pI,pI] oI RT.dec R
def aY (a0)(a1)(hg:gd a0 a1):F a0 a1=ret (md a0 a1):=by
 refine ct (Z156.ak trivial) (bs (fun _=>rfl) (fun c1=>?_))
 have Dc1:=c1
 simp [Z156.md] at Dc1
 refine cW df (cW df ?_)
 exact fz
def af:cz 344 aT:=W2 15 F mix aC aY (cD Z156.af) Tryz.func344
def br (a0 a1:Int):md a0 a1=Z68.md a0 a1:=by
 unfold md Z68.md
 simp only [Z156.br]
end Z176
namespace Z177
inductive Pt where
 | p0 (a:Int) (b:aB) (c d:Int)
def cu:Pt->List V
 | .p0 a b c d=>[.int .i64 a,.sl none 3 b,.int .i64 c,.int .i64 d]
def step (J:Pt->aI):Pt->aI
 | .p0 a b c d=>(cond (d<c) (m2 d (b.length:Int) (call (Z176.R ((kr b (toNat d)),2147483647)) fun v1=>J (.p0 (Int.tmod (i64.wrap ((i64.wrap ((i64.wrap (a*1000003))+v1))+13)) 2147483647) b c (i64.wrap (d+1))))) (ret (a:Int)))
def start (J:Pt->aI)(x0:aB):aI:=J (.p0 11 x0 x0.length 0)
def live:Nat->Live:=fK [(3,gj [3,6,7,8])]
def md (a0:List Int):Int:=(eJ (S:=Int) (β:=Int) (fun y1 s3=>(.inl (Int.tmod (i64.wrap ((i64.wrap ((i64.wrap (s3*1000003))+(Z176.md y1 2147483647)))+13)) 2147483647))) (fun s3=>s3) a0 11)
def gd (a0:List Int):Prop:=(bN (2^43) (fun y:Int=>True) a0)
def R:=RR gd md
def ak {a0}(h:gd a0):R (a0.map bt)=some (md a0):=cV h
def aT:=CN [pL 3] oI RT.dec R
def aY (a0)(H0:gd a0):∃n,start (iter step n) (a0.map bt)=ret (md a0):=by
 have Bh2:=bl H0
 refine ex_eq (fu (z:=0)) (eo (p:=Pt.p0 11 (a0.map bt) (a0.length:Int) 0) fz ?_)
 refine cw (pt:=fun (i1:Nat) (s3:Int)=>Pt.p0 s3 (a0.map bt) (a0.length:Int) (i1:Int)) (fun _ _=>True) (fun J i1 s3 h2 hih2=>?_) (fun s3 hih2=>?_) trivial
 ·simp only [step,SS]
  refine bp.yes dt (bp.yes aD ?_)
  refine bp.yes (aK h2) (cr (Z176.ak trivial) ?_)
  refine bp.inl trivial ?_
  rw [aH h2 Bh2]
 ·simp only [step,SS]
  refine dO dn (⟨0,?_⟩)
  exact fz
def af:cz 316 aT:=L1 21 (fun _=>3) cu (fun _=>[]) live step start mix aC aY (cD Z176.af) Tryz.func316
def br (a0:List Int):md a0=Z69.md a0:=by
 unfold md Z69.md
 simp only [Z176.br]
end Z177
namespace Z178
def F (x0:dz)(x1:Int):aI:=(call (Z175.R x0) fun v1=>(bY (fJ (((2:Int)+v1.length)*8)) (call (Z177.R ([[L.int 239],[L.int x1]]++v1)) fun v2=>ret v2)))
def md (a0:aR)(a1:Int):Int:=((Z177.md ([239,a1]++(Z175.md a0))))
def gd (a0:aR)(a1:Int):Prop:=(aR.Sm (2^21) a0)
def R:=cm gd md
def ak {a0 a1}(h:gd a0 a1):R ((aR.r a0),a1)=some (md a0 a1):=cq h
def aT:=CN [.agg jG,pI] oI RT.dec R
def aY (a0)(a1)(H0:gd a0 a1):F (aR.r a0) a1=ret (md a0 a1):=by
 refine ct (Z175.ak H0) (aj (have:=Z175.len a0;have:=(H0).1;lm) ?_)
 exact aU _ (rq (Z177.ak (a0:=([239,a1]++(Z175.md a0))) ⟨(have:=Z175.len a0;have:=(H0).1;om),fun _ _=>trivial⟩)) fz
def af:cz 336 aT:=W2 11 F mix aC aY (eP Z175.af Z177.af) Tryz.func336
def br (a0:aR)(a1:Int):md a0 a1=Z70.md a0 a1:=by
 unfold md Z70.md
 simp only [Z175.br,Z177.br]
end Z178
namespace Z179
def F (x0:Bool):aI:=(cond x0 (ret (1:Int)) (ret (0:Int)))
def md (a0:Bool):Int:=(cond a0 (1:Int) (0:Int))
def gd (a0:Bool):Prop:=True
def R:=RR gd md
def ak {a0}(h:gd a0):R a0=some (md a0):=cV h
def aT:=CN [pB] oI RT.dec R
def aY (a0)(hg:gd a0):F a0=ret (md a0):=by
 refine bs (fun _=>rfl) (fun _=>rfl)
def af:cz 371 aT:=W1 4 F mix aC aY .nil Tryz.func371
end Z179
namespace Z180
set_option maxHeartbeats 1000000 in
set_option maxRecDepth 100000 in
open Go.RowKit in
def B0 (b:Option Addr)(w:World):Calls Tryz.prog 393 #[.slice b 0 0,.int .i64 0] w fun e w'=>e=.returned (.slice b 0 0)/\w'=w:=by
 go_enter Tryz.func393,Tryz.ntmps393
 go_wp2
 go_ret
 exact ⟨rfl,rfl⟩
def CL:Tryz.t3.size=1:=by kernel_rfl
def zE:Tryz.t3.bytes=8:=by kernel_rfl
set_option maxHeartbeats 1000000 in
set_option maxRecDepth 100000 in
open Go.RowKit in
def BW (b:Option Addr)(n:Nat)(w:World)(h0:0<n)(h1:n*8<=140737488355328):Calls Tryz.prog 393 #[.slice b 0 0,.int .i64 n] w fun e w'=>e=.returned (.slice (some ⟨w.heap.size,0,none⟩) 0 (grownCap w n 0 3))/\w'=(w.drew.alloc (.cells (Builtin.zeroCells #[.int .i64 0] n++Builtin.zeroCells #[.int .i64 0] (grownCap w n 0 3 - n)) 3)):=by
 have hold:(Builtin.firstCells Tryz.t3.size 0 (.slice b 0 0)).run Tryz.prog w.drew=.ok ([]:List Value).toArray w.drew:=by
  cases b with
  | none=>exact run_firstCells_none _ _ _ _ _
  | some b=>exact run_firstCells_some _ _ _ _ _ _ [] (by simp) (fun j v hj=>by simp at hj)
 have H:=fun ty=>Lib.run_append_grow_zeros (P:=Tryz.prog) w 39 3 ty 3 Tryz.t3 (.int .i64 0) .i64 .i64 (by kernel_rfl) (by kernel_rfl) (by kernel_rfl) (by kernel_rfl) b 0 0 [] hold n h0 (by rw [CL];omega) (by omega) (by omega) (by rw [zE];omega) (by
  rw [Nat.zero_add,nextslicecap_zero h0,zE];omega)
 simp only [Nat.zero_add,Array.empty_append] at H
 have H2:=Lib.hid H
 clear H hold
 go_enter Tryz.func393,Tryz.ntmps393
 go_wp2_with (at_builtin;refine Lib.wpList_append_run _ rfl _ _ _ _ rfl _ _ rfl rfl _ _ (H2.out _) ?_)
 go_ret
 exact ⟨rfl,rfl⟩
def R (x0:Int):Option (aB):=bif decide (0<=x0)&&decide (x0*8<=140737488355328) then some [] else none
def ak {a0:Int}(h:0<=a0/\a0*8<=140737488355328):R a0=some []:=by simp [R,h.1,h.2]
def sem:List L->Option (List L)
 | [y0]=>(R y0.toInt).map RT.enc
 | _=>none
def aT:gh:=⟨[.nil,.rd (.int .i64)],.one (.fr 3),sem⟩
def Cc:Ev.cells 3=[au]:=by kernel_rfl
def af:cz 393 aT:=by
 refine yI ⟨Tryz.f393,Tryz.func393,by kernel_rfl,by kernel_rfl⟩ rfl fun ls r w vs Z hs hf=>?_
 simp only [aT] at hs
 unfold sem at hs
 split at hs
 ·rename_i y
  obtain ⟨v,hv,hq⟩:=map_some hs
  unfold R at hv
  cases hc:(decide (0<=y.toInt)&&decide (y.toInt*8<=140737488355328))<;>simp only [hc,aZ,aX] at hv
  ·cases hv
  injection hv with hv
  subst hv
  subst hq
  simp only [Bool.and_eq_true,decide_eq_true_eq] at hc
  cases hf with
  | cons h1 ht=>
   cases ht with
   | cons h2 ht=>
    cases ht
    obtain ⟨b,rfl⟩:=(show V0 Ev.cells w (A0 Z w) .nil _ from h1)
    have e2:_=Value.int .i64 y.toInt:=h2
    subst e2
    obtain ⟨n,hn⟩:∃n:Nat,y.toInt=n:=⟨y.toInt.toNat,by omega⟩
    rw [hn] at hc ⊢
    rcases Nat.eq_zero_or_pos n with h0 | h0
    ·subst h0
     exact (B0 b w).mono fun e w' ⟨h3,h4⟩=>⟨_,fun _=>False,h3,by rw [h4];exact Fr.refl _ _,fun b hb=>hb.elim,.nil _ _ _ _ rfl⟩
    ·refine (BW b n w h0 (by omega)).mono fun e w' ⟨h3,h4⟩=>⟨_,fun b=>b=w.heap.size,h3,?_,fun b hb=>?_,?_⟩
     ·rw [h4];exact ((Fr.refl w _).drew).alloc _
     ·subst hb;rw [h4];simp
     ·have hge:=grownCap_ge w n 0 3
      have hle:grownCap w n 0 3<=maxLen:=grownCap_le_maxLen w n 0 3 (by simp only [maxLen];omega)
      rw [h4]
      refine .sl _ 3 0 _ w.heap.size 3 _ _ (fun _ _=>Go.undef) (fun _ _ _=>False) rfl (zero_le _) hle (heap_alloc_new w.drew _) ?_ rfl (fun _ _ _ h=>h.elim) (fun _ _ _ _ _ h=>h.elim) (fun i j k hi=>by omega) (fun i j k hi=>by omega)
      rw [Cc]
      simp only [Array.size_append,size_zeroCells,List.length_singleton]
      simp
      omega
 ·cases hs
end Z180
namespace Z181
inductive Pt where
 | p0 (a:aB) (b:Int) (c:aB) (d e:Int)
 | p1 (a:aB) (b c:Int) (d:aB)
def pid:Pt->Nat
 | .p0 ..=>3
 | .p1 ..=>11
def cu:Pt->List V
 | .p0 a b c d e=>[.sl none 39 a,.int .i64 b,.sl none 39 c,.int .i64 d,.int .i64 e]
 | .p1 a b c d=>[.own 0,.sl none 39 a,.int .i64 b,.int .i64 c]
def cR:Pt->List aW
 | .p0 a b c d e=>[]
 | .p1 a b c d=>[.row 3 d]
def step (J:Pt->aI):Pt->aI
 | .p0 a b c d e=>(cond (e<d) (m2 e (c.length:Int) (cond ((i64.wrap (b+((qi c (toNat e)).length:Int)))<0) none (J (.p0 a (i64.wrap (b+((qi c (toNat e)).length:Int))) c d (i64.wrap (e+1)))))) (call (Z180.R b) fun v1=>J (.p1 a (a.length:Int) 0 v1)))
 | .p1 a b c d=>(cond (c<b) (m2 c (a.length:Int) (bY (fJ (((d.length:Int)+((qi a (toNat c)).length:Int))*8)) (J (.p1 a b (i64.wrap (c+1)) (d++(qi a (toNat c))))))) (ret (d:aB)))
def start (J:Pt->aI)(x0:aB):aI:=J (.p0 x0 0 x0 x0.length 0)
def live:Nat->Live:=fK [(3,gj [0,3,9,10,11]),(11,gj [6,25,26,27])]
def md (a0:List (List Int)):List Int:=a0.flatten
def gd (a0:List (List Int)):Prop:=a0.length<=8/\∀x∈a0,x.length<=2^40
def R:=RR gd md
def ak {a0}(h:gd a0):R (a0.map (eK bt))=some ((md a0).map bt):=cV h
def aT:=CN [pL 39] (oL 3) RT.dec R
def aY (a0)(hg:gd a0):∃n,start (iter step n) (a0.map (eK bt))=ret ((md a0).map bt):=by
 obtain ⟨hl,hx⟩:=hg
 have hs:∀i,i<=a0.length->((a0.take i).map List.length).sum<=i*2^40:=by
  intro i
  induction i with
  | zero=>intro _;simp
  | succ i ih=>
   intro hi
   rw [List.take_succ_eq_append_getElem (by omega)]
   have h1:=hx a0[i] (List.getElem_mem _)
   simp only [List.map_append,List.map_cons,List.map_nil,List.sum_append,List.sum_cons,List.sum_nil]
   omega
 have hstep:∀i (h:i<a0.length),((a0.take (i+1)).map List.length).sum=((a0.take i).map List.length).sum+a0[i].length:=by
  intro i hi
  rw [List.take_succ_eq_append_getElem (by omega)]
  simp only [List.map_append,List.map_cons,List.map_nil,List.sum_append,List.sum_cons,List.sum_nil]
  omega
 have hf:∀i,(a0.take i).flatten.length=((a0.take i).map List.length).sum:=fun i=>List.length_flatten
 have second:∀k i,i+k=a0.length->∃n,iter step n (Pt.p1 (a0.map (eK bt)) (a0.length:Int) (i:Int) ((a0.take i).flatten.map bt))=ret (a0.flatten.map bt:aB):=by
  intro k
  induction k with
  | zero=>
   intro i hi
   obtain rfl:i=a0.length:=by omega
   refine ⟨1,?_⟩
   show step (iter step 0) (Pt.p1 _ _ _ _)=_
   simp only [step]
   refine cW (by simp) ?_
   rw [List.take_length]
  | succ k ih=>
   intro i hi
   obtain ⟨n,hn⟩:=ih (i+1) (by omega)
   refine ⟨n+1,?_⟩
   show step (iter step n) (Pt.p1 _ _ _ _)=_
   have hlt:i<a0.length:=by omega
   have b1:=hs (i+1) (by omega)
   have b2:=hstep i hlt
   simp only [step,List.length_map,cM,rQ]
   refine aj (by simp;omega) (aj (by simp) (aj (by simp;omega) (aj (iV ?_) ?_)))
   ·rw [fF hlt,hf];omega
   ·rw [aH hlt (by simp only [maxLen];omega),fF hlt,<-List.map_append]
    have e:(a0.take i).flatten++a0[i]=(a0.take (i+1)).flatten:=by
     rw [List.take_succ_eq_append_getElem (by omega)]
     simp only [List.flatten_append,List.flatten_cons,List.flatten_nil,List.append_nil]
    rw [e];exact hn
 have first:∀k i,i+k=a0.length->∃n,iter step n (Pt.p0 (a0.map (eK bt)) ((((a0.take i).map List.length).sum:Nat):Int) (a0.map (eK bt)) (a0.length:Int) (i:Int))=ret (a0.flatten.map bt:aB):=by
  intro k
  induction k with
  | zero=>
   intro i hi
   obtain rfl:i=a0.length:=by omega
   obtain ⟨n,hn⟩:=second a0.length 0 (by omega)
   refine ⟨n+1,?_⟩
   show step (iter step n) (Pt.p0 _ _ _ _ _)=_
   have b1:=hs a0.length (by omega)
   simp only [step]
   refine cW (by simp) (aU [] (Z180.ak ⟨by omega,by omega⟩) ?_)
   simpa using hn
  | succ k ih=>
   intro i hi
   obtain ⟨n,hn⟩:=ih (i+1) (by omega)
   refine ⟨n+1,?_⟩
   show step (iter step n) (Pt.p0 _ _ _ _ _)=_
   have hlt:i<a0.length:=by omega
   have b1:=hs (i+1) (by omega)
   have b2:=hstep i hlt
   simp only [step,List.length_map,cM,rQ,fF hlt]
   have e:i64.wrap (((((a0.take i).map List.length).sum:Nat):Int)+(a0[i].length:Int))=((((a0.take (i+1)).map List.length).sum:Nat):Int):=by
    rw [Go.IntWalk.i64_in _ (by omega)];omega
   rw [e]
   refine aj (by simp;omega) (aj (by simp) (aj (by simp;omega) (cW (by simp) ?_)))
   rw [aH hlt (by simp only [maxLen];omega)]
   exact hn
 unfold md
 obtain ⟨n,hn⟩:=first a0.length 0 (by omega)
 refine ⟨n,?_⟩
 unfold start
 simpa using hn
def af:cz 370 aT:=L1 36 pid cu cR live step start mix aC aY (cD Z180.af) Tryz.func370
def len (a0:List (List Int)):(md a0).length=(a0.map List.length).sum:=by simp [md]
end Z181
namespace Z182
def F (x0:dI):aI:=(call (Z175.R x0.bU) fun v1=>(call (Z175.R x0.bF) fun v2=>(call (Z175.R x0.bC) fun v3=>(call (Z179.R x0.bD) fun v4=>(call (Z181.R [[L.sl [[L.int x0.bz],[L.int x0.cU],[L.int x0.bJ],[L.int x0.cT],[L.int x0.cL],[L.int x0.cE],[L.int x0.dG],[L.int x0.dY]]],[L.sl v1],[L.sl v2],[L.sl [[L.int x0.dM]]],[L.sl v3],[L.sl [[L.int v4]]]]) fun v5=>ret (v5:aB))))))
def md (a0:aF):List Int:=(Z181.md [[a0.bz,a0.cU,a0.bJ,a0.cT,a0.cL,a0.cE,a0.dG,a0.dY],(Z175.md a0.bU),(Z175.md a0.bF),[a0.dM],(Z175.md a0.bC),[(Z179.md a0.bD)]])
def gd (a0:aF):Prop:=(aF.Sm (2^21) a0)
def R:=RR gd md
def ak {a0}(h:gd a0):R (aF.r a0)=some ((md a0).map bt):=cV h
def aT:=CN [.agg gH] (oL 3) RT.dec R
def aY (a0)(H0:gd a0):F (aF.r a0)=ret ((md a0).map bt):=by
 refine ct (Z175.ak H0.1) (ct (Z175.ak H0.2.1) ?_)
 refine ct (Z175.ak H0.2.2) (ct (Z179.ak trivial) ?_)
 refine aU _ (rq (Z181.ak (a0:=[[a0.bz,a0.cU,a0.bJ,a0.cT,a0.cL,a0.cE,a0.dG,a0.dY],(Z175.md a0.bU),(Z175.md a0.bF),[a0.dM],(Z175.md a0.bC),[(Z179.md a0.bD)]]) ⟨(by simp),(by
   have:=Z175.len a0.bU
   have:=(H0.1).1
   have:=Z175.len a0.bF
   have:=(H0.2.1).1
   have:=Z175.len a0.bC
   have:=(H0.2.2).1
   intro x_ hx_
   simp only [List.mem_cons,List.not_mem_nil,or_false] at hx_
   rcases hx_ with hx_ | hx_ | hx_ | hx_ | hx_ | hx_
   all_goals (subst hx_;first | omega | (simp only [LN];omega)))⟩)) ?_
 exact fz
def af:cz 340 aT:=W1 38 F mix aC aY (kC Z175.af Z179.af Z181.af) Tryz.func340
def len (a0:aF):(md a0).length=16+a0.bU.aO.length+a0.bF.aO.length+a0.bC.aO.length:=by unfold md;simp [Z181.md,Z175.len];omega
def br (a0:aF):md a0=Z71.md a0:=by
 rw [Z71.uN]
 unfold md Z181.md
 simp only [Z175.br,Z179.md,List.flatten_cons,List.flatten_nil,List.cons_append,List.nil_append,List.append_nil]
end Z182
namespace Z183
def F (x0:Int)(x1:aB):aI:=(call (Z181.R [[L.sl [[L.int x0]]],[L.sl x1],[L.sl [[L.int x0]]]]) fun v1=>(call (Z177.R v1) fun v2=>ret v2))
def md (a0:Int)(a1:List Int):Int:=((Z177.md (Z181.md [[a0],a1,[a0]])))
def gd (a0:Int)(a1:List Int):Prop:=(bN (2^40) (fun y:Int=>True) a1)
def R:=cm gd md
def ak {a0 a1}(h:gd a0 a1):R (a0,(a1.map bt))=some (md a0 a1):=cq h
def aT:=CN [pI,pL 3] oI RT.dec R
def aY (a0)(a1)(H1:gd a0 a1):F a0 (a1.map bt)=ret (md a0 a1):=by
 refine aU _ (rq (Z181.ak (a0:=[[a0],a1,[a0]]) ⟨(by simp),(by
   have:=(H1).1
   intro x_ hx_
   simp only [List.mem_cons,List.not_mem_nil,or_false] at hx_
   rcases hx_ with hx_ | hx_ | hx_
   all_goals (subst hx_;first | omega | (simp only [LN];omega)))⟩)) ?_
 refine ct (Z177.ak ⟨(by
   have:=Z181.len [[a0],a1,[a0]]
   simp only [LN] at this
   have:=(H1).1
   exact om),fun _ _=>trivial⟩) ?_
 exact fz
def af:cz 409 aT:=W2 13 F mix aC aY (eP Z181.af Z177.af) Tryz.func409
def br (a0:Int)(a1:List Int):md a0 a1=Z72.md a0 a1:=by
 unfold md Z72.md
 (simp only [Z177.br];rfl)
end Z183
namespace Z184
def F (x0:Int)(x1:aB):aI:=(bY (fJ (((1:Int)+x1.length)*8)) (call (Z183.R (x0,([[L.int 223]]++x1))) fun v1=>ret v1))
def md (a0:Int)(a1:List Int):Int:=((Z183.md a0 ([223]++a1)))
def gd (a0:Int)(a1:List Int):Prop:=(bN (2^39) (fun y:Int=>True) a1)
def R:=cm gd md
def ak {a0 a1}(h:gd a0 a1):R (a0,(a1.map bt))=some (md a0 a1):=cq h
def aT:=CN [pI,pL 3] oI RT.dec R
def aY (a0)(a1)(H1:gd a0 a1):F a0 (a1.map bt)=ret (md a0 a1):=by
 refine aj (have:=(H1).1;lm) (aU _ (rq (Z183.ak (a1:=([223]++a1)) ⟨(have:=(H1).1;om),fun _ _=>trivial⟩)) ?_)
 exact fz
def af:cz 408 aT:=W2 10 F mix aC aY (cD Z183.af) Tryz.func408
def br (a0:Int)(a1:List Int):md a0 a1=Z73.md a0 a1:=by
 unfold md Z73.md
 simp only [Z183.br]
end Z184
namespace Z185
def F (x0:bn)(x1:aB):aI:=(call (Z169.R x0.iD) fun v1=>(cond v1 (call (Z184.R (x0.iD,x1)) fun v2=>ret ((x0.ko==v2))) (ret false)))
def md (a0:bn)(a1:List Int):Bool:=(cond (Z169.md a0.iD) ((a0.ko==(Z184.md a0.iD a1))) false)
def gd (a0:bn)(a1:List Int):Prop:=(bN (2^38) (fun y:Int=>True) a1)
def R:=cm gd md
def ak {a0 a1}(h:gd a0 a1):R (a0,(a1.map bt))=some (md a0 a1):=cq h
def aT:=CN [.agg Aj,pL 3] oB RT.dec R
def aY (a0)(a1)(H1:gd a0 a1):F a0 (a1.map bt)=ret (md a0 a1):=by
 refine ct (Z169.ak trivial) (bs (fun c1=>?_) (fun _=>rfl))
 exact ct (Z184.ak (H1.mono (by decide) (fun x hx=>trivial))) fz
def af:cz 405 aT:=W2 17 F mix aC aY (eP Z169.af Z184.af) Tryz.func405
def br (a0:bn)(a1:List Int):md a0 a1=Z74.md a0 a1:=by
 unfold md Z74.md
 (simp only [Z184.br];rfl)
end Z185
namespace Z186
def F (x0:bn)(x1 x2:List L):aI:=(cond (x0.iD==(gq x1)) (call (Z185.R (x0,(nL x2))) fun v1=>ret v1) (ret false))
def pats:List gK:=[.agg [au,au],.ptr [au],.ptr [.sl 3]]
def res:RP:=.one (.rd (.bool))
def md (a0:bn)(a1:Int)(a2:List Int):Bool:=(cond (a0.iD==a1) ((Z185.md a0 a2)) false)
def gd (a0:bn)(a1:Int)(a2:List Int):Prop:=(bN (2^38) (fun y:Int=>True) a2)
def acc (ls:List L):bn×Int×aB:=((bn.dec ls),(gq (cI 1 (bE 2 ls))),(nL (cI 1 (bE 3 ls))))
def R:(bn×Int×aB)->Option Bool:=lp gd md
def ak {a0 a1 a2}(h:gd a0 a1 a2):R (a0,a1,(a2.map bt))=some (md a0 a1 a2):=kZ h
def aT:gh:=CN pats res acc R
def aY (a0:bn)(a1:Int)(a2:List Int)(p1 p2:List L)(e1:a1=(gq p1))(e2:(a2.map bt)=(nL p2))(H2:gd a0 a1 a2):F a0 p1 p2=ret ((md a0 a1 a2):Bool):=by
 unfold F md
 simp only [SS,<-e1,<-e2]
 refine bs (fun c1=>?_) (fun _=>rfl)
 exact ct (Z185.ak H2) fz
def nY (ls:List L)(a:bn×Int×List Int)(e:acc ls=Im.im a)(hg:(p3 gd) a):∃n:Nat,F (bn.dec ls) (cI 1 (bE 2 ls)) (cI 1 (bE 3 ls))=ret (Im.im ((u3 md) a)):=by
 have e0:a.1=(bn.dec ls):=(congrArg (fun x=>x.1) e.symm)
 have hn:=aY a.1 a.2.1 a.2.2 (cI 1 (bE 2 ls)) (cI 1 (bE 3 ls)) (congrArg (fun x=>x.2.1) e.symm) (congrArg (fun x=>x.2.2) e.symm) hg
 refine ⟨0,?_⟩
 rw [<-e0]
 exact hn
def af:cz 404 aT:=VP (live:=fun _=>[]) (nt:=14) (accr:=fun ls=>((bn.dec ls),(cI 1 (bE 2 ls)),(cI 1 (bE 3 ls)))) (run:=fun _ x=>F x.1 x.2.1 x.2.2) mix aC (cD Z185.af) Tryz.func404 (by kernel_rfl) (fun _ _=>by kernel_rfl) (fun ls a _ e hg=>nY ls a e hg)
end Z186
namespace Z187
inductive Pt where
 | p0 (a:aB) (b c:List L) (d e:Int)
def pid:Pt->Nat
 | .p0 ..=>2
def cu:Pt->List V
 | .p0 a b c d e=>[.sl none 227 a,.fn 404 [.dQ none [au] b 0,.dQ none [.sl 3] c 0],.int .i64 d,.int .i64 e]
def cR:Pt->List aW
 | .p0 a b c d e=>[]
def step (J:Pt->aI):Pt->aI
 | .p0 a b c d e=>(cond (e<d) (m2 e (a.length:Int) (call (Z186.R ((bn.at a (toNat e)),(gq b),(nL c))) fun v1=>(cond v1 (ret (e:Int)) (J (.p0 a b c d (i64.wrap (e+1))))))) bV)
def start (J:Pt->aI)(x0:aB)(x1 x2:List L):aI:=J (.p0 x0 x1 x2 x0.length 0)
def live:Nat->Live:=fK [(2,gj [0,1,7,8])]
def pats:List gK:=[.rd (.sl 227),.fn 404 [[au],[.sl 3]]]
def res:RP:=.one (.rd (.int .i64))
abbrev E:Env:={ T:=assoc lC,G:=dK [(404,Z186.aT)],nt:=19 }
def step_eq (I:cJ)(p:Pt):dh E live I (pid p) (bI Tryz.f407) (fU (live (pid p)) (cu p) (cR p)) (cG E Tryz.f407 res)=step (fun q=>I (pid q) (cu q) (cR q)) p:=by
 cases p<;>kernel_rfl
def start_eq (I:cJ)(ls:List L):fH E live I (bI Tryz.f407) (dF pats ls) (cG E Tryz.f407 res)=start (fun q=>I (pid q) (cu q) (cR q)) (dc ls) (cI 1 (bE 1 ls)) (cI 1 (bE 2 ls)):=by kernel_rfl
def run_eq (n:Nat)(ls:List L):eY E live Tryz.f407 res n (dF pats ls)=start (iter step n) (dc ls) (cI 1 (bE 1 ls)) (cI 1 (bE 2 ls)):=cB (id:=pid) (vs:=cu) (hs:=cR) (step:=step) (start:=fun J=>start J (dc ls) (cI 1 (bE 1 ls)) (cI 1 (bE 2 ls))) step_eq (fun I=>start_eq I ls) n
def md (a0:List bn)(a1:Int)(a2:List Int):Int:=(ep (S:=Unit) (β:=Int) (fun i1 y1 s3=>(cond (Z186.md y1 a1 a2) (.inr (i1)) (.inl ()))) (fun s3=>((-1):Int)) 0 a0 ())
def gd (a0:List bn)(a1:Int)(a2:List Int):Prop:=(bN (2^21) (fun y:bn=>bn.Sm (2^21) y) a0)/\(bN (2^38) (fun y:Int=>True) a2)
def acc (ls:List L):aB×Int×aB:=((dc ls),(gq (cI 1 (bE 1 ls))),(nL (cI 1 (bE 2 ls))))
def R:(aB×Int×aB)->Option Int:=lp gd md
def ak {a0 a1 a2}(h:gd a0 a1 a2):R ((a0.map bn.row),a1,(a2.map bt))=some (md a0 a1 a2):=kZ h
def aT:gh:=CN pats res acc R
def aY (a0:List bn)(a1:Int)(a2:List Int)(p1 p2:List L)(e1:a1=(gq p1))(e2:(a2.map bt)=(nL p2))(hg:gd a0 a1 a2):∃n,start (iter step n) (a0.map bn.row) p1 p2=ret ((md a0 a1 a2):Int):=by
 obtain ⟨H0,H2⟩:=hg
 have Bh2:=bl H0
 refine ex_eq (dw (z:=bn.zero)) (eo (p:=Pt.p0 (a0.map bn.row) p1 p2 (a0.length:Int) 0) fz ?_)
 refine cw (pt:=fun (i1:Nat) (s3:Unit)=>Pt.p0 (a0.map bn.row) p1 p2 (a0.length:Int) (i1:Int)) (fun _ _=>True) (fun J i1 s3 h2 hih2=>?_) (fun s3 hih2=>?_) trivial
 ·simp only [step,SS,<-e1,<-e2]
  refine bp.yes dt (bp.yes aD ?_)
  refine bp.yes (aK h2) (cr (Z186.ak H2) ?_)
  refine bp.bif (fun c4=>bp.inr fz) (fun c4=>?_)
  refine bp.inl trivial ?_
  rw [aH h2 Bh2]
 ·simp only [step,SS,<-e1,<-e2]
  refine dO dn (⟨0,?_⟩)
  exact fz
def nY (ls:List L)(a:List bn×Int×List Int)(e:acc ls=Im.im a)(hg:(p3 gd) a):∃n:Nat,start (iter step n) ((dc ls)) (cI 1 (bE 1 ls)) (cI 1 (bE 2 ls))=ret (Im.im ((u3 md) a)):=by
 have e0:(a.1.map bn.row)=(dc ls):=(congrArg (fun x=>x.1) e.symm)
 obtain ⟨n,hn⟩:=aY a.1 a.2.1 a.2.2 (cI 1 (bE 1 ls)) (cI 1 (bE 2 ls)) (congrArg (fun x=>x.2.1) e.symm) (congrArg (fun x=>x.2.2) e.symm) hg
 refine ⟨n,?_⟩
 rw [<-e0]
 exact hn
def af:cz 407 aT:=VP (accr:=fun ls=>((dc ls),(cI 1 (bE 1 ls)),(cI 1 (bE 2 ls)))) (run:=fun n x=>start (iter step n) x.1 x.2.1 x.2.2) mix aC (cD Z186.af) Tryz.func407 (by kernel_rfl) run_eq (fun ls a _ e hg=>nY ls a e hg)
def idx_eq (a0:List bn)(a1:Int)(a2:List Int):md a0 a1 a2=jE (fun y=>Z186.md y a1 a2) 0 a0:=iL
end Z187
namespace Z188
def F (x0:aB)(x1 x2:List L):aI:=(call (Z187.R (x0,(gq x1),(nL x2))) fun v1=>ret ((decide (v1>=0))))
def pats:List gK:=[.rd (.sl 227),.fn 404 [[au],[.sl 3]]]
def res:RP:=.one (.rd (.bool))
def md (a0:List bn)(a1:Int)(a2:List Int):Bool:=((decide ((Z187.md a0 a1 a2)>=0)))
def gd (a0:List bn)(a1:Int)(a2:List Int):Prop:=(bN (2^21) (fun y:bn=>bn.Sm (2^21) y) a0)/\(bN (2^38) (fun y:Int=>True) a2)
def acc (ls:List L):aB×Int×aB:=((dc ls),(gq (cI 1 (bE 1 ls))),(nL (cI 1 (bE 2 ls))))
def R:(aB×Int×aB)->Option Bool:=lp gd md
def ak {a0 a1 a2}(h:gd a0 a1 a2):R ((a0.map bn.row),a1,(a2.map bt))=some (md a0 a1 a2):=kZ h
def aT:gh:=CN pats res acc R
def aY (a0:List bn)(a1:Int)(a2:List Int)(p1 p2:List L)(e1:a1=(gq p1))(e2:(a2.map bt)=(nL p2))(hg:gd a0 a1 a2):F (a0.map bn.row) p1 p2=ret ((md a0 a1 a2):Bool):=by
 obtain ⟨H0,H2⟩:=hg
 unfold F md
 simp only [SS,<-e1,<-e2]
 exact ct (Z187.ak ⟨H0,H2⟩) fz
def nY (ls:List L)(a:List bn×Int×List Int)(e:acc ls=Im.im a)(hg:(p3 gd) a):∃n:Nat,F ((dc ls)) (cI 1 (bE 1 ls)) (cI 1 (bE 2 ls))=ret (Im.im ((u3 md) a)):=by
 have e0:(a.1.map bn.row)=(dc ls):=(congrArg (fun x=>x.1) e.symm)
 have hn:=aY a.1 a.2.1 a.2.2 (cI 1 (bE 1 ls)) (cI 1 (bE 2 ls)) (congrArg (fun x=>x.2.1) e.symm) (congrArg (fun x=>x.2.2) e.symm) hg
 refine ⟨0,?_⟩
 rw [<-e0]
 exact hn
def af:cz 403 aT:=VP (live:=fun _=>[]) (nt:=9) (accr:=fun ls=>((dc ls),(cI 1 (bE 1 ls)),(cI 1 (bE 2 ls)))) (run:=fun _ x=>F x.1 x.2.1 x.2.2) mix aC (cD Z187.af) Tryz.func403 (by kernel_rfl) (fun _ _=>by kernel_rfl) (fun ls a _ e hg=>nY ls a e hg)
def any_eq (a0:List bn)(a1:Int)(a2:List Int):md a0 a1 a2=a0.any (fun y=>Z186.md y a1 a2):=by
 unfold md
 rw [Z187.idx_eq]
 exact sD
end Z188
namespace Z189
inductive Pt where
 | p0 (a:aB) (b:Int) (c:aB) (d e:Int) (f:aB)
def cu:Pt->List V
 | .p0 a b c d e f=>[.sl none 227 a,.cC 0 0,.int .i64 b,.sl none 3 c,.int .i64 d,.int .i64 e]
def cR:Pt->List aW
 | .p0 a b c d e f=>[.box [.sl none 3 f]]
def step (J:Pt->aI):Pt->aI
 | .p0 a b c d e f=>(cond (e<d) (m2 e (c.length:Int) (call (Z188.R (a,(kr c (toNat e)),f)) fun v1=>(cond v1 (J (.p0 a (i64.wrap (b+1)) c d (i64.wrap (e+1)) f)) (J (.p0 a b c d (i64.wrap (e+1)) f))))) (ret (b:Int)))
def start (J:Pt->aI)(x0:dz)(x1 x2:aB):aI:=J (.p0 x2 0 x0.aO x0.aO.length 0 x1)
def live:Nat->Live:=fK [(3,gj [2,4,7,11,12,13])]
def md (a0:aR)(a1:List Int)(a2:List bn):Int:=(eJ (S:=Int) (β:=Int) (fun y1 s3=>(cond (Z188.md a2 y1 a1) (.inl (i64.wrap (s3+1))) (.inl s3))) (fun s3=>s3) a0.aO 0)
def gd (a0:aR)(a1:List Int)(a2:List bn):Prop:=(aR.Sm (2^21) a0)/\(bN (2^38) (fun y:Int=>True) a1)/\(bN (2^21) (fun y:bn=>bn.Sm (2^21) y) a2)
def R:=lp gd md
def ak {a0 a1 a2}(h:gd a0 a1 a2):R ((aR.r a0),(a1.map bt),(a2.map bn.row))=some (md a0 a1 a2):=kZ h
def aT:=CN [.agg jG,pL 3,pL 227] oI RT.dec R
def aY (a0)(a1)(a2)(hg:gd a0 a1 a2):∃n,start (iter step n) (aR.r a0) (a1.map bt) (a2.map bn.row)=ret (md a0 a1 a2):=by
 obtain ⟨H0,H1,H2⟩:=hg
 have Bh2:=bl H0
 refine ex_eq (fu (z:=0)) (eo (p:=Pt.p0 (a2.map bn.row) 0 (a0.aO.map bt) (a0.aO.length:Int) 0 (a1.map bt)) fz ?_)
 refine cw (pt:=fun (i1:Nat) (s3:Int)=>Pt.p0 (a2.map bn.row) s3 (a0.aO.map bt) (a0.aO.length:Int) (i1:Int) (a1.map bt)) (fun _ _=>True) (fun J i1 s3 h2 hih2=>?_) (fun s3 hih2=>?_) trivial
 ·simp only [step,SS]
  refine bp.yes dt (bp.yes aD ?_)
  refine bp.yes (aK h2) (cr (Z188.ak ⟨H2,H1⟩) ?_)
  refine bp.bif (fun c4=>?_) (fun c4=>?_)
  ·refine bp.inl trivial ?_
   rw [aH h2 Bh2]
  ·refine bp.inl trivial ?_
   rw [aH h2 Bh2]
 ·simp only [step,SS]
  refine dO dn (⟨0,?_⟩)
  exact fz
def af:cz 390 aT:=L3 24 (fun _=>3) cu cR live step start mix aC aY (cD Z188.af) Tryz.func390
def br (a0:aR)(a1:List Int)(a2:List bn):md a0 a1 a2=Z75.md a0 a1 a2:=by
 unfold md Z75.md
 refine qJ (fun x _ s=>?_) (fun s=>rfl)
 rw [Z188.any_eq]
 refine Eq.trans ?_ (oy (p:=fun y=>Z186.md y x a1) (b:=Sum.inl (i64.wrap (s+1))) (c:=Sum.inl s) (fun y s'=>?_) a2 ()).symm
 ·cases a2.any (fun y=>Z186.md y x a1)<;>rfl
 ·unfold Z186.md
  simp only [Z185.br]
  cases y.iD==x<;>cases Z74.md y a1<;>rfl
end Z189
namespace Z190
def F (x0:dz)(x1 x2:aB):aI:=(call (Z170.R x0) fun v1=>(cond v1 (call (Z189.R (x0,x1,x2)) fun v2=>ret ((decide (v2>=x0.cO)))) (ret false)))
def md (a0:aR)(a1:List Int)(a2:List bn):Bool:=(cond (Z170.md a0) ((decide ((Z189.md a0 a1 a2)>=a0.cO))) false)
def gd (a0:aR)(a1:List Int)(a2:List bn):Prop:=(aR.Sm (2^21) a0)/\(bN (2^38) (fun y:Int=>True) a1)/\(bN (2^21) (fun y:bn=>bn.Sm (2^21) y) a2)
def R:=lp gd md
def ak {a0 a1 a2}(h:gd a0 a1 a2):R ((aR.r a0),(a1.map bt),(a2.map bn.row))=some (md a0 a1 a2):=kZ h
def aT:=CN [.agg jG,pL 3,pL 227] oB RT.dec R
def aY (a0)(a1)(a2)(hg:gd a0 a1 a2):F (aR.r a0) (a1.map bt) (a2.map bn.row)=ret (md a0 a1 a2):=by
 obtain ⟨H0,H1,H2⟩:=hg
 refine ct (Z170.ak H0) (bs (fun c1=>?_) (fun _=>rfl))
 exact ct (Z189.ak ⟨H0,H1,H2⟩) fz
def af:cz 365 aT:=W3 18 F mix aC aY (eP Z170.af Z189.af) Tryz.func365
def br (a0:aR)(a1:List Int)(a2:List bn):md a0 a1 a2=Z76.md a0 a1 a2:=by
 unfold md Z76.md
 simp only [Z170.br,Z189.br]
end Z190
namespace Z191
def F (x0:bf)(x1:dz):aI:=(call (Z182.R x0.an) fun v1=>(call (Z190.R (x1,v1,x0.cP)) fun v2=>ret v2))
def md (a0:aa)(a1:aR):Bool:=((Z190.md a1 (Z182.md a0.an) a0.cP))
def gd (a0:aa)(a1:aR):Prop:=(aa.Sm (2^21) a0)/\(aR.Sm (2^21) a1)
def R:=cm gd md
def ak {a0 a1}(h:gd a0 a1):R ((aa.r a0),(aR.r a1))=some (md a0 a1):=cq h
def aT:=CN [.agg lU,.agg jG] oB RT.dec R
def aY (a0)(a1)(hg:gd a0 a1):F (aa.r a0) (aR.r a1)=ret (md a0 a1):=by
 obtain ⟨H0,H1⟩:=hg
 refine ct (Z182.ak H0.1) (ct (Z190.ak ⟨H1,⟨(have:=Z182.len a0.an;have:=(H0.1.1).1;have:=(H0.1.2.1).1;have:=(H0.1.2.2).1;om),fun _ _=>trivial⟩,H0.2⟩) ?_)
 exact fz
def af:cz 337 aT:=W2 12 F mix aC aY (eP Z182.af Z190.af) Tryz.func337
end Z191
namespace Z192
def F (x0:bf):aI:=(call (Z174.R x0.an) fun v1=>(cond v1 (cond (x0.an.cU==0) (cond (x0.an.bJ==1) (cond (!x0.an.bD) (call (Z178.R (x0.an.bU,x0.an.dY)) fun v2=>(cond (x0.an.bz==v2) (call (Z191.R (x0,x0.an.bU)) fun v3=>ret v3) (ret false))) (ret false)) (ret false)) (ret false)) (ret false)))
def md (a0:aa):Bool:=(cond (Z174.md a0.an) (cond (a0.an.cU==0) (cond (a0.an.bJ==1) (cond (!a0.an.bD) (cond (a0.an.bz==(Z178.md a0.an.bU a0.an.dY)) ((Z191.md a0 a0.an.bU)) false) false) false) false) false)
def gd (a0:aa):Prop:=(aa.Sm (2^21) a0)
def R:=RR gd md
def ak {a0}(h:gd a0):R (aa.r a0)=some (md a0):=cV h
def aT:=CN [.agg lU] oB RT.dec R
def aY (a0)(H0:gd a0):F (aa.r a0)=ret (md a0):=by
 refine ct (Z174.ak H0.1) (bs (fun c1=>?_) (fun _=>rfl))
 refine bs (fun c2=>?_) (fun _=>rfl)
 refine bs (fun c3=>?_) (fun _=>rfl)
 refine bs (fun c4=>?_) (fun _=>rfl)
 refine ct (Z178.ak H0.1.1) (bs (fun c5=>?_) (fun _=>rfl))
 exact ct (Z191.ak ⟨H0,H0.1.1⟩) fz
def af:cz 302 aT:=W1 39 F mix aC aY (kC Z174.af Z178.af Z191.af) Tryz.func302
def br (a0:aa):md a0=Z77.md a0:=by
 unfold md Z77.md
 simp only [Z191.md,Z190.br,Z182.br,Z174.br,Z178.br]
end Z192
namespace Z193
def F (x0:dI):aI:=(call (Z182.R x0) fun v1=>(bY (fJ (((1:Int)+v1.length)*8)) (call (Z177.R ([[L.int 233]]++v1)) fun v2=>ret v2)))
def md (a0:aF):Int:=((Z177.md ([233]++(Z182.md a0))))
def gd (a0:aF):Prop:=(aF.Sm (2^21) a0)
def R:=RR gd md
def ak {a0}(h:gd a0):R (aF.r a0)=some (md a0):=cV h
def aT:=CN [.agg gH] oI RT.dec R
def aY (a0)(H0:gd a0):F (aF.r a0)=ret (md a0):=by
 refine ct (Z182.ak H0) (aj (have:=Z182.len a0;have:=(H0.1).1;have:=(H0.2.1).1;have:=(H0.2.2).1;lm) ?_)
 exact aU _ (rq (Z177.ak (a0:=([233]++(Z182.md a0))) ⟨(have:=Z182.len a0;have:=(H0.1).1;have:=(H0.2.1).1;have:=(H0.2.2).1;om),fun _ _=>trivial⟩)) fz
def af:cz 391 aT:=W1 8 F mix aC aY (eP Z182.af Z177.af) Tryz.func391
def br (a0:aF):md a0=Z78.md a0:=by
 unfold md Z78.md
 simp only [Z182.br,Z177.br]
end Z193
namespace Z194
def F (x0 x1:dI):aI:=(cond (x1.bz==x0.bz) (cond (x1.cU==(i64.wrap (x0.cU+1))) (call (Z193.R x0) fun v1=>(cond (x1.dY==v1) (ret ((decide (x1.cT>=x0.cT)))) (ret false))) (ret false)) (ret false))
def md (a0 a1:aF):Bool:=(cond (a1.bz==a0.bz) (cond (a1.cU==(i64.wrap (a0.cU+1))) (cond (a1.dY==(Z193.md a0)) ((decide (a1.cT>=a0.cT))) false) false) false)
def gd (a0 a1:aF):Prop:=(aF.Sm (2^21) a0)
def R:=cm gd md
def ak {a0 a1}(h:gd a0 a1):R ((aF.r a0),(aF.r a1))=some (md a0 a1):=cq h
def aT:=CN [.agg gH,.agg gH] oB RT.dec R
def aY (a0)(a1)(H0:gd a0 a1):F (aF.r a0) (aF.r a1)=ret (md a0 a1):=by
 refine bs (fun c1=>?_) (fun _=>rfl)
 refine bs (fun c2=>?_) (fun _=>rfl)
 refine ct (Z193.ak H0) (bs (fun c3=>?_) (fun _=>rfl))
 exact fz
def af:cz 366 aT:=W2 32 F mix aC aY (cD Z193.af) Tryz.func366
end Z194
namespace Z195
def F (x0:dI)(x1:bf):aI:=(cond x0.bD (ret (4:Int)) (cond x1.an.bD (ret (6:Int)) (call (Z191.R (x1,x0.bU)) fun v1=>(cond (!v1) (ret (7:Int)) (ret (1:Int))))))
def md (a0:aF)(a1:aa):Int:=(cond a0.bD (4:Int) (cond a1.an.bD (6:Int) (cond (!(Z191.md a1 a0.bU)) (7:Int) (1:Int))))
def gd (a0:aF)(a1:aa):Prop:=(aF.Sm (2^21) a0)/\(aa.Sm (2^21) a1)
def R:=cm gd md
def ak {a0 a1}(h:gd a0 a1):R ((aF.r a0),(aa.r a1))=some (md a0 a1):=cq h
def aT:=CN [.agg gH,.agg lU] oI RT.dec R
def aY (a0)(a1)(hg:gd a0 a1):F (aF.r a0) (aa.r a1)=ret (md a0 a1):=by
 obtain ⟨H0,H1⟩:=hg
 refine bs (fun _=>rfl) (fun c1=>?_)
 refine bs (fun _=>rfl) (fun c2=>?_)
 refine ct (Z191.ak ⟨H1,H0.1⟩) (bs (fun _=>rfl) (fun _=>rfl))
def af:cz 367 aT:=W2 18 F mix aC aY (cD Z191.af) Tryz.func367
end Z195
namespace Z196
inductive Pt where
 | p0 (a b:aB) (c d:Int)
def cu:Pt->List V
 | .p0 a b c d=>[.sl none 3 a,.sl none 3 b,.int .i64 c,.int .i64 d]
def step (J:Pt->aI):Pt->aI
 | .p0 a b c d=>(cond (d<c) (m2 d (a.length:Int) (m2 d (b.length:Int) (cond ((kr a (toNat d)) != (kr b (toNat d))) dx (J (.p0 a b c (i64.wrap (d+1))))))) gA)
def start (J:Pt->aI)(x0 x1:aB):aI:=(cond (x0.length != (x1.length:Int)) (ret false) (J (.p0 x0 x1 x0.length 0)))
def live:Nat->Live:=fK [(4,gj [0,1,12,13])]
def md (a0 a1:List Int):Bool:=(bif (a0.length != (a1.length:Int)) then false else (eX (S:=Unit) (β:=Bool) (fun i2 s4=>(cond ((a0.getD i2 0) != (a1.getD i2 0)) (.inr false) (.inl ()))) (fun s4=>true) a0.length 0 ()))
def gd (a0 a1:List Int):Prop:=(bN (2^38) (fun y:Int=>True) a0)/\(bN (2^38) (fun y:Int=>True) a1)
def R:=cm gd md
def ak {a0 a1}(h:gd a0 a1):R ((a0.map bt),(a1.map bt))=some (md a0 a1):=cq h
def aT:=CN [pL 3,pL 3] oB RT.dec R
def aY (a0)(a1)(hg:gd a0 a1):∃n,start (iter step n) (a0.map bt) (a1.map bt)=ret (md a0 a1):=by
 obtain ⟨H0,H1⟩:=hg
 unfold start md
 simp only [SS]
 refine iK ret (fun _=>⟨0,rfl⟩) (fun c1=>?_)
 have dc1:=c1
 simp only [DC] at dc1
 have Bh3:=bl H0
 refine eo fz (cw (pt:=fun (i2:Nat) (s4:Unit)=>Pt.p0 (a0.map bt) (a1.map bt) (a0.length:Int) (i2:Int)) (fun _ _=>True) (fun J i2 s4 h3 hih3=>?_) (fun s4 hih3=>?_) trivial)
 ·simp only [step,SS]
  refine bp.yes dt (bp.yes aD ?_)
  refine bp.yes (aK h3) (bp.yes aD ?_)
  refine bp.yes dt (bp.bif (fun _=>bp.inr rfl) (fun c5=>?_))
  refine bp.inl trivial ?_
  rw [aH h3 Bh3]
 ·simp only [step,SS]
  refine dO dn (⟨0,?_⟩)
  exact fz
def af:cz 320 aT:=L2 26 (fun _=>4) cu (fun _=>[]) live step start mix aC aY .nil Tryz.func320
def md_eq (a0 a1:List Int):md a0 a1=eu a0 a1:=by
 refine lM (0) (fun i s h h2=>?_) (fun s=>rfl)
 simp only [bne,gf,bool_beq,fM]
 cases eu _ _<;>rfl
end Z196
namespace Z197
def F (x0 x1:dz):aI:=(call (Z196.R (x0.aO,x1.aO)) fun v1=>(cond v1 (ret ((x0.cO==x1.cO))) (ret false)))
def md (a0 a1:aR):Bool:=(cond (Z196.md a0.aO a1.aO) ((a0.cO==a1.cO)) false)
def gd (a0 a1:aR):Prop:=(aR.Sm (2^21) a0)/\(aR.Sm (2^21) a1)
def R:=cm gd md
def ak {a0 a1}(h:gd a0 a1):R ((aR.r a0),(aR.r a1))=some (md a0 a1):=cq h
def aT:=CN [.agg jG,.agg jG] oB RT.dec R
def aY (a0)(a1)(hg:gd a0 a1):F (aR.r a0) (aR.r a1)=ret (md a0 a1):=by
 obtain ⟨H0,H1⟩:=hg
 refine ct (Z196.ak ⟨(H0.mono (by decide) (fun x hx=>trivial)),(H1.mono (by decide) (fun x hx=>trivial))⟩) (bs (fun c1=>?_) (fun _=>rfl))
 exact fz
def af:cz 339 aT:=W2 17 F mix aC aY (cD Z196.af) Tryz.func339
def md_eq (a0 a1:aR):md a0 a1=eu a0 a1:=by
 unfold md
 cases a0;cases a1
 rw [Bool.eq_iff_iff]
 simp [dm,fM,aR.mk.injEq,Z196.md_eq]
end Z197
namespace Z198
def F (x0 x1:dI):aI:=(cond (x0.cE==x1.cE) (ret ((x0.dG==x1.dG))) (ret false))
def md (a0 a1:aF):Bool:=(cond (a0.cE==a1.cE) ((a0.dG==a1.dG)) false)
def gd (a0 a1:aF):Prop:=True
def R:=cm gd md
def ak {a0 a1}(h:gd a0 a1):R ((aF.r a0),(aF.r a1))=some (md a0 a1):=cq h
def aT:=CN [.agg gH,.agg gH] oB RT.dec R
def aY (a0)(a1)(hg:gd a0 a1):F (aF.r a0) (aF.r a1)=ret (md a0 a1):=by
 refine bs (fun c1=>?_) (fun _=>rfl)
 exact fz
def af:cz 392 aT:=W2 17 F mix aC aY .nil Tryz.func392
def br (a0 a1:aF):md a0 a1=Z82.md a0 a1:=by
 unfold md Z82.md
 simp only [id]
end Z198
namespace Z199
def F (x0:dI)(x1:bf):aI:=(cond x0.bD (ret (4:Int)) (call (Z171.R x0.bF) fun v1=>(cond v1 (ret (5:Int)) (cond (x1.an.cT<(i64.wrap (x0.cL+x0.dM))) (ret (5:Int)) (cond x1.an.bD (ret (6:Int)) (call (Z197.R (x1.an.bU,x0.bF)) fun v2=>(cond (!v2) (ret (6:Int)) (call (Z198.R (x1.an,x0)) fun v3=>(cond (!v3) (ret (6:Int)) (call (Z191.R (x1,x0.bF)) fun v4=>(cond (!v4) (ret (7:Int)) (ret (1:Int)))))))))))))
def md (a0:aF)(a1:aa):Int:=(cond a0.bD (4:Int) (cond (Z171.md a0.bF) (5:Int) (cond (a1.an.cT<(i64.wrap (a0.cL+a0.dM))) (5:Int) (cond a1.an.bD (6:Int) (cond (!(Z197.md a1.an.bU a0.bF)) (6:Int) (cond (!(Z198.md a1.an a0)) (6:Int) (cond (!(Z191.md a1 a0.bF)) (7:Int) (1:Int))))))))
def gd (a0:aF)(a1:aa):Prop:=(aF.Sm (2^21) a0)/\(aa.Sm (2^21) a1)
def R:=cm gd md
def ak {a0 a1}(h:gd a0 a1):R ((aF.r a0),(aa.r a1))=some (md a0 a1):=cq h
def aT:=CN [.agg gH,.agg lU] oI RT.dec R
def aY (a0)(a1)(hg:gd a0 a1):F (aF.r a0) (aa.r a1)=ret (md a0 a1):=by
 obtain ⟨H0,H1⟩:=hg
 refine bs (fun _=>rfl) (fun c1=>?_)
 refine ct (Z171.ak trivial) (bs (fun _=>rfl) (fun c2=>?_))
 refine bs (fun _=>rfl) (fun c3=>?_)
 refine bs (fun _=>rfl) (fun c4=>?_)
 refine ct (Z197.ak ⟨H1.1.1,H0.2.1⟩) (bs (fun _=>rfl) (fun c5=>?_))
 refine ct (Z198.ak trivial) (bs (fun _=>rfl) (fun c6=>?_))
 refine ct (Z191.ak ⟨H1,H0.2.1⟩) (bs (fun _=>rfl) (fun _=>rfl))
def af:cz 368 aT:=W2 48 F mix aC aY (kE Z171.af Z197.af Z198.af Z191.af) Tryz.func368
end Z199
namespace Z200
def F (x0:dI)(x1:bf):aI:=(call (Z198.R (x1.an,x0)) fun v1=>(cond v1 (call (Z197.R (x1.an.bC,x0.bC)) fun v2=>(cond v2 (call (Z197.R (x1.an.bF,x0.bF)) fun v3=>(cond v3 (call (Z171.R x0.bC) fun v4=>(cond v4 (ret (5:Int)) (cond (x1.an.bD==x0.bD) (ret (6:Int)) (cond (!(x1.an.dM==x0.dM)) (ret (6:Int)) (cond x1.an.bD (call (Z197.R (x1.an.bU,x0.bU)) fun v5=>(cond (!v5) (ret (6:Int)) (call (Z191.R (x1,x0.bC)) fun v6=>(cond (!v6) (ret (7:Int)) (ret (1:Int)))))) (call (Z191.R (x1,x0.bC)) fun v7=>(cond (!v7) (ret (7:Int)) (ret (1:Int))))))))) (call (Z171.R x0.bC) fun v8=>(cond v8 (ret (5:Int)) (cond (x1.an.bD==x0.bD) (ret (6:Int)) (ret (6:Int))))))) (call (Z171.R x0.bC) fun v9=>(cond v9 (ret (5:Int)) (cond (x1.an.bD==x0.bD) (ret (6:Int)) (ret (6:Int))))))) (call (Z171.R x0.bC) fun v10=>(cond v10 (ret (5:Int)) (cond (x1.an.bD==x0.bD) (ret (6:Int)) (ret (6:Int)))))))
def md (a0:aF)(a1:aa):Int:=(cond (Z198.md a1.an a0) (cond (Z197.md a1.an.bC a0.bC) (cond (Z197.md a1.an.bF a0.bF) (cond (Z171.md a0.bC) (5:Int) (cond (a1.an.bD==a0.bD) (6:Int) (cond (!(a1.an.dM==a0.dM)) (6:Int) (cond a1.an.bD (cond (!(Z197.md a1.an.bU a0.bU)) (6:Int) (cond (!(Z191.md a1 a0.bC)) (7:Int) (1:Int))) (cond (!(Z191.md a1 a0.bC)) (7:Int) (1:Int)))))) (cond (Z171.md a0.bC) (5:Int) (cond (a1.an.bD==a0.bD) (6:Int) (6:Int)))) (cond (Z171.md a0.bC) (5:Int) (cond (a1.an.bD==a0.bD) (6:Int) (6:Int)))) (cond (Z171.md a0.bC) (5:Int) (cond (a1.an.bD==a0.bD) (6:Int) (6:Int))))
def gd (a0:aF)(a1:aa):Prop:=(aF.Sm (2^21) a0)/\(aa.Sm (2^21) a1)
def R:=cm gd md
def ak {a0 a1}(h:gd a0 a1):R ((aF.r a0),(aa.r a1))=some (md a0 a1):=cq h
def aT:=CN [.agg gH,.agg lU] oI RT.dec R
def aY (a0)(a1)(hg:gd a0 a1):F (aF.r a0) (aa.r a1)=ret (md a0 a1):=by
 obtain ⟨H0,H1⟩:=hg
 refine ct (Z198.ak trivial) (bs (fun c1=>?_) (fun c1=>?_))
 ·refine ct (Z197.ak ⟨H1.1.2.2,H0.2.2⟩) (bs (fun c2=>?_) (fun c2=>?_))
  ·refine ct (Z197.ak ⟨H1.1.2.1,H0.2.1⟩) (bs (fun c3=>?_) (fun c3=>?_))
   ·refine ct (Z171.ak trivial) (bs (fun _=>rfl) (fun c4=>?_))
    refine bs (fun _=>rfl) (fun c5=>?_)
    refine bs (fun _=>rfl) (fun c6=>?_)
    refine bs (fun c7=>?_) (fun c7=>?_)
    ·refine ct (Z197.ak ⟨H1.1.1,H0.1⟩) (bs (fun _=>rfl) (fun c8=>?_))
     refine ct (Z191.ak ⟨H1,H0.2.2⟩) (bs (fun _=>rfl) (fun _=>rfl))
    ·refine ct (Z191.ak ⟨H1,H0.2.2⟩) (bs (fun _=>rfl) (fun _=>rfl))
   ·refine ct (Z171.ak trivial) (bs (fun _=>rfl) (fun c11=>?_))
    refine bs (fun _=>rfl) (fun _=>rfl)
  ·refine ct (Z171.ak trivial) (bs (fun _=>rfl) (fun c13=>?_))
   refine bs (fun _=>rfl) (fun _=>rfl)
 ·refine ct (Z171.ak trivial) (bs (fun _=>rfl) (fun c15=>?_))
  refine bs (fun _=>rfl) (fun _=>rfl)
def af:cz 369 aT:=W2 65 F mix aC aY (kE Z198.af Z197.af Z171.af Z191.af) Tryz.func369
end Z200
namespace Z201
def F (x0:dI)(x1:bf):aI:=(call (Z174.R x0) fun v1=>(cond (!v1) (ret (2:Int)) (call (Z174.R x1.an) fun v2=>(cond (!v2) (ret (2:Int)) (call (Z194.R (x0,x1.an)) fun v3=>(cond (!v3) (ret (3:Int)) (cond (x1.an.bJ==1) (call (Z195.R (x0,x1)) fun v4=>ret v4) (cond (x1.an.bJ==2) (call (Z199.R (x0,x1)) fun v5=>ret v5) (call (Z200.R (x0,x1)) fun v6=>ret v6)))))))))
def md (a0:aF)(a1:aa):Int:=(cond (!(Z174.md a0)) (2:Int) (cond (!(Z174.md a1.an)) (2:Int) (cond (!(Z194.md a0 a1.an)) (3:Int) (cond (a1.an.bJ==1) ((Z195.md a0 a1)) (cond (a1.an.bJ==2) ((Z199.md a0 a1)) ((Z200.md a0 a1)))))))
def gd (a0:aF)(a1:aa):Prop:=(aF.Sm (2^21) a0)/\(aa.Sm (2^21) a1)
def R:=cm gd md
def ak {a0 a1}(h:gd a0 a1):R ((aF.r a0),(aa.r a1))=some (md a0 a1):=cq h
def aT:=CN [.agg gH,.agg lU] oI RT.dec R
def aY (a0)(a1)(hg:gd a0 a1):F (aF.r a0) (aa.r a1)=ret (md a0 a1):=by
 obtain ⟨H0,H1⟩:=hg
 refine ct (Z174.ak H0) (bs (fun _=>rfl) (fun c1=>?_))
 refine ct (Z174.ak H1.1) (bs (fun _=>rfl) (fun c2=>?_))
 refine ct (Z194.ak H0) (bs (fun _=>rfl) (fun c3=>?_))
 refine bs (fun c4=>ct (Z195.ak ⟨H0,H1⟩) fz) (fun c4=>?_)
 exact bs (fun c5=>ct (Z199.ak ⟨H0,H1⟩) fz) (fun c5=>ct (Z200.ak ⟨H0,H1⟩) fz)
def af:cz 338 aT:=W2 40 F mix aC aY (xy Z174.af Z194.af Z195.af Z199.af Z200.af) Tryz.func338
def br (a0:aF)(a1:aa):md a0 a1=Z85.md a0 a1:=by
 unfold md Z85.md Z194.md Z195.md Z199.md Z200.md Z191.md Z79.md Z83.md Z84.md
 simp only [Z174.br,Z193.br,Z190.br,Z182.br,Z171.br,Z197.md_eq,Z81.md_eq,Z198.br,bne]
 cases Z66.md a0
 ·rfl
 cases h2:Z66.md a1.an
 ·rfl
 obtain ⟨⟨k1,k2⟩,_⟩:=Z66.tr h2
 have ht:decide (a1.an.cT<a0.cT)=!decide (a1.an.cT>=a0.cT):=by
  rw [Bool.eq_iff_iff];simp
 rw [ht]
 cases a1.an.bz==a0.bz
 ·rfl
 cases a1.an.cU==i64.wrap (a0.cU+1)
 ·rfl
 cases a1.an.dY==Z78.md a0
 ·rfl
 cases decide (a1.an.cT>=a0.cT)
 ·rfl
 have hk:a1.an.bJ=1∨a1.an.bJ=2∨a1.an.bJ=3:=by omega
 generalize Z76.md a0.bU (Z71.md a1.an) a1.cP=s1
 generalize Z76.md a0.bF (Z71.md a1.an) a1.cP=s2
 generalize Z76.md a0.bC (Z71.md a1.an) a1.cP=s3
 generalize Z65.md a0.bF=n1
 generalize Z65.md a0.bC=n2
 generalize decide (a1.an.cT<i64.wrap (a0.cL+a0.dM))=d1
 generalize eu a1.an.bU a0.bF=e1
 generalize eu a1.an.bC a0.bC=e2
 generalize eu a1.an.bF a0.bF=e3
 generalize eu a1.an.bU a0.bU=e4
 generalize Z82.md a1.an a0=c1
 generalize (a1.an.dM==a0.dM)=w1
 generalize a1.an.bD=f1
 generalize a0.bD=f0
 rcases hk with hk | hk | hk<;>rw [hk]
 ·cases f0<;>cases f1<;>cases s1<;>rfl
 ·cases f0<;>cases n1<;>cases d1<;>cases f1<;>cases e1<;>cases c1<;>cases s2<;>rfl
 ·cases n2
  ·cases f1<;>cases f0<;>cases c1<;>cases e2<;>cases e3<;>cases w1<;>cases e4<;>cases s3<;>rfl
  ·cases c1<;>cases e2<;>cases e3<;>rfl
end Z201
namespace Z202
def F (x0:dI)(x1:bf):aI:=(call (Z201.R (x0,x1)) fun v1=>ret ((v1==1)))
def md (a0:aF)(a1:aa):Bool:=(((Z201.md a0 a1)==1))
def gd (a0:aF)(a1:aa):Prop:=(aF.Sm (2^21) a0)/\(aa.Sm (2^21) a1)
def R:=cm gd md
def ak {a0 a1}(h:gd a0 a1):R ((aF.r a0),(aa.r a1))=some (md a0 a1):=cq h
def aT:=CN [.agg gH,.agg lU] oB RT.dec R
def aY (a0)(a1)(hg:gd a0 a1):F (aF.r a0) (aa.r a1)=ret (md a0 a1):=by
 obtain ⟨H0,H1⟩:=hg
 exact ct (Z201.ak ⟨H0,H1⟩) fz
def af:cz 303 aT:=W2 9 F mix aC aY (cD Z201.af) Tryz.func303
def br (a0:aF)(a1:aa):md a0 a1=Z86.md a0 a1:=by
 unfold md Z86.md
 simp only [Z201.br]
end Z202
namespace Z203
inductive Pt where
 | p0 (a b:aB) (c d:Int)
def cu:Pt->List V
 | .p0 a b c d=>[.sl none 178 a,.sl none 178 b,.int .i64 c,.int .i64 d]
def step (J:Pt->aI):Pt->aI
 | .p0 a b c d=>(cond (d<c) (m2 d (b.length:Int) (cond (d==0) (call (Z192.R (bf.at b (toNat d))) fun v1=>(cond (!v1) (ret (d:Int)) (cond (d>0) (bY ((0:Int)<=(i64.wrap (d - 1))) (bY ((i64.wrap (d - 1))<(a.length:Int)) (call (Z202.R ((bf.at a (toNat (i64.wrap (d - 1)))).an,(bf.at b (toNat d)))) fun v2=>(cond (!v2) (ret (d:Int)) (J (.p0 a b c (i64.wrap (d+1)))))))) (J (.p0 a b c (i64.wrap (d+1))))))) (cond (d>0) (bY ((0:Int)<=(i64.wrap (d - 1))) (bY ((i64.wrap (d - 1))<(a.length:Int)) (call (Z202.R ((bf.at a (toNat (i64.wrap (d - 1)))).an,(bf.at b (toNat d)))) fun v3=>(cond (!v3) (ret (d:Int)) (J (.p0 a b c (i64.wrap (d+1)))))))) (J (.p0 a b c (i64.wrap (d+1))))))) bV)
def start (J:Pt->aI)(x0:aB):aI:=J (.p0 x0 x0 x0.length 0)
def live:Nat->Live:=fK [(2,gj [0,5,6,7])]
def md (a0:List aa):Int:=(ep (S:=Unit) (β:=Int) (fun i1 y1 s3=>(cond ((i1:Int)==0) (cond (!(Z192.md y1)) (.inr (i1)) (cond ((i1:Int)>0) (cond (!(Z202.md ((a0.getD (toNat (i64.wrap (i1 - 1))) aa.zero).an) y1)) (.inr (i1)) (.inl ())) (.inl ()))) (cond ((i1:Int)>0) (cond (!(Z202.md ((a0.getD (toNat (i64.wrap (i1 - 1))) aa.zero).an) y1)) (.inr (i1)) (.inl ())) (.inl ())))) (fun s3=>((-1):Int)) 0 a0 ())
def gd (a0:List aa):Prop:=(bN (2^21) (fun y:aa=>aa.Sm (2^21) y) a0)
def R:=RR gd md
def ak {a0}(h:gd a0):R (a0.map aa.row)=some (md a0):=cV h
def aT:=CN [pL 178] oI RT.dec R
def aY (a0)(H0:gd a0):∃n,start (iter step n) (a0.map aa.row)=ret (md a0):=by
 have Bh2:=bl H0
 refine ex_eq (dw (z:=aa.zero)) (eo (p:=Pt.p0 (a0.map aa.row) (a0.map aa.row) (a0.length:Int) 0) fz ?_)
 refine cw (pt:=fun (i1:Nat) (s3:Unit)=>Pt.p0 (a0.map aa.row) (a0.map aa.row) (a0.length:Int) (i1:Int)) (fun _ _=>True) (fun J i1 s3 h2 hih2=>?_) (fun s3 hih2=>?_) trivial
 ·simp only [step,SS]
  have:=(H0).1
  refine bp.yes dt (bp.yes aD ?_)
  refine bp.yes (aK h2) (bp.bif (fun c4=>?_) (fun c4=>?_))
  ·refine cr (Z192.ak (bN.getD H0 h2)) (bp.bif (fun c5=>bp.inr fz) (fun c5=>?_))
   refine bp.bif (fun c6=>?_) (fun c6=>?_)
   ·have dc6:=c6
    simp only [DC] at dc6
    refine bp.yes dt (bp.yes dt ?_)
    refine cr (Z202.ak ⟨(bN.getD H0 (by (simp (disch:=omega) only [wi];omega))).1,(bN.getD H0 h2)⟩) (bp.bif (fun c7=>bp.inr fz) (fun c7=>?_))
    refine bp.inl trivial ?_
    rw [aH h2 Bh2]
   ·refine bp.inl trivial ?_
    rw [aH h2 Bh2]
  ·refine bp.bif (fun c8=>?_) (fun c8=>?_)
   ·have dc8:=c8
    simp only [DC] at dc8
    refine bp.yes dt (bp.yes dt ?_)
    refine cr (Z202.ak ⟨(bN.getD H0 (by (simp (disch:=omega) only [wi];omega))).1,(bN.getD H0 h2)⟩) (bp.bif (fun c9=>bp.inr fz) (fun c9=>?_))
    refine bp.inl trivial ?_
    rw [aH h2 Bh2]
   ·refine bp.inl trivial ?_
    rw [aH h2 Bh2]
 ·simp only [step,SS]
  refine dO dn (⟨0,?_⟩)
  exact fz
def af:cz 250 aT:=L1 36 (fun _=>2) cu (fun _=>[]) live step start mix aC aY (eP Z192.af Z202.af) Tryz.func250
def br (a0:List aa):md a0=Z87.md a0:=by
 unfold md Z87.md
 rw [<-dw,<-dw]
 refine wq (fun _ _=>True) (fun i s hi _=>⟨?_,fun _ _=>trivial⟩) (fun _ _=>rfl) trivial
 simp only [Z192.br,Z202.br]
 by_cases h0:i=0
 ·subst h0;rfl
 ·have e:((i:Int)==0)=false:=beq_eq_false_iff_ne.2 (by omega)
  simp only [e,aX]
end Z203
namespace Z204
def F (x0:aB):aI:=(call (Z156.R (x0.length,1,12)) fun v1=>(cond v1 (call (Z203.R x0) fun v2=>ret ((decide (v2<0)))) (ret false)))
def md (a0:List aa):Bool:=(cond (Z156.md a0.length 1 12) ((decide ((Z203.md a0)<0))) false)
def gd (a0:List aa):Prop:=(bN (2^21) (fun y:aa=>aa.Sm (2^21) y) a0)
def R:=RR gd md
def ak {a0}(h:gd a0):R (a0.map aa.row)=some (md a0):=cV h
def aT:=CN [pL 178] oB RT.dec R
def aY (a0)(H0:gd a0):F (a0.map aa.row)=ret (md a0):=by
 unfold F md
 simp only [SS]
 refine ct (Z156.ak trivial) (bs (fun c1=>?_) (fun _=>rfl))
 exact ct (Z203.ak H0) fz
def af:cz 195 aT:=W1 11 F mix aC aY (eP Z156.af Z203.af) Tryz.func195
def tr {a0:List aa}(h:md a0=true):1<=a0.length/\a0.length<=12:=by simp [md,Z156.md] at h;omega
def br (a0:List aa):md a0=Z88.md a0:=by
 unfold md Z88.md
 simp only [Z156.br,Z203.br]
end Z204
namespace Z205
def F (x0:aB):aI:=(bY ((0:Int)<=(i64.wrap (x0.length - 1))) (bY ((i64.wrap (x0.length - 1))<x0.length) (ret ((bf.at x0 (toNat (i64.wrap (x0.length - 1)))).an))))
def md (a0:List aa):aF:=(a0.getD (toNat (i64.wrap (a0.length - 1))) aa.zero).an
def gd (a0:List aa):Prop:=(bN (2^21) (fun y:aa=>aa.Sm (2^21) y) a0)/\(1<=a0.length)
def R:=RR gd md
def ak {a0}(h:gd a0):R (a0.map aa.row)=some (aF.r (md a0)):=cV h
def aT:=CN [pL 178] (.agg [.rd (.int .i64),.rd (.int .i64),.rd (.int .i64),.rd (.int .i64),.rd (.int .i64),.rd (.int .i64),.rd (.int .i64),.rd (.int .i64),.rd (.sl 3),.rd (.int .i64),.rd (.sl 3),.rd (.int .i64),.rd (.int .i64),.rd (.sl 3),.rd (.int .i64),.rd (.bool)]) RT.dec R
def aY (a0)(hg:gd a0):F (a0.map aa.row)=ret (aF.r (md a0)):=by
 obtain ⟨H0,HX⟩:=hg
 refine aj (have:=(H0).1;dt) (aj (have:=(H0).1;dt) ?_)
 exact fz
def af:cz 204 aT:=W1 10 F mix aC aY .nil Tryz.func204
def iR {a0:List aa}(hg:gd a0):aF.Sm (2^21) (md a0):=by
 unfold gd at hg;unfold md
 have h1:=hg.1.1
 exact (bN.getD hg.1 (by simp (disch:=omega) only [Go.IntWalk.i64_in];omega)).1
end Z205
namespace Z206
def F (x0:bK):aI:=(call (Z157.R x0.aV) fun v1=>(cond (!v1) (ret false) (cond (x0.bJ==1) (call (Z156.R (x0.bX,0,999999)) fun v2=>(cond v2 (ret (((x0.bh.length:Int)==0))) (ret false))) (cond (x0.bJ==2) (call (Z166.R x0.bX) fun v3=>(cond v3 (ret (((x0.bh.length:Int)==0))) (ret false))) (cond (x0.bJ==3) (call (Z166.R x0.bX) fun v4=>(cond v4 (call (Z161.R x0.bh) fun v5=>ret v5) (ret false))) (ret false))))))
def md (a0:ah):Bool:=(cond (!(Z157.md a0.aV)) false (cond (a0.bJ==1) (cond (Z156.md a0.bX 0 999999) (((a0.bh.length:Int)==0)) false) (cond (a0.bJ==2) (cond (Z166.md a0.bX) (((a0.bh.length:Int)==0)) false) (cond (a0.bJ==3) (cond (Z166.md a0.bX) ((Z161.md a0.bh)) false) false))))
def gd (a0:ah):Prop:=(ah.Sm (2^21) a0)
def R:=RR gd md
def ak {a0}(h:gd a0):R (ah.r a0)=some (md a0):=cV h
def aT:=CN [.agg tw] oB RT.dec R
def aY (a0)(H0:gd a0):F (ah.r a0)=ret (md a0):=by
 refine ct (Z157.ak (le_trans H0.1 (by decide))) (bs (fun _=>rfl) (fun c1=>?_))
 refine bs (fun c2=>?_) (fun c2=>?_)
 ·refine ct (Z156.ak trivial) (bs (fun c3=>?_) (fun _=>rfl))
  exact fz
 ·refine bs (fun c4=>?_) (fun c4=>?_)
  ·refine ct (Z166.ak trivial) (bs (fun c5=>?_) (fun _=>rfl))
   exact fz
  ·refine bs (fun c6=>?_) (fun _=>rfl)
   refine ct (Z166.ak trivial) (bs (fun c7=>?_) (fun _=>rfl))
   exact ct (Z161.ak (H0.2.mono (by decide) (fun x hx=>(le_trans hx (by decide))))) fz
def af:cz 268 aT:=W1 41 F mix aC aY (kE Z157.af Z156.af Z166.af Z161.af) Tryz.func268
def br (a0:ah):md a0=Z90.md a0:=by
 unfold md Z90.md
 simp only [Z157.br,Z156.br,Z166.md,Z161.br]
 cases Z60.md a0.aV<;>simp
end Z206
namespace Z207
set_option maxHeartbeats 1000000 in
set_option maxRecDepth 100000 in
open Go.RowKit in
def calls (a b:aE)(w:World):Calls Tryz.prog 170 #[.string a,.string b] w fun e w'=>e=.returned (.int .i64 (Lib.compareBytes a.data.toList b.data.toList))/\w'=w:=by
 go_enter Tryz.func170,Tryz.ntmps170
 go_wp2
 rw [run_callFunc_extern Tryz.func226 (by kernel_rfl) (by kernel_rfl) (by kernel_rfl) (e:=Extern.BytealgCompare.compare) (by kernel_rfl),Lib.run_compareString]
 simp only [Result.andThen]
 rw [Oper.upon_value]
 go_wp2
 go_ret
 exact ⟨rfl,rfl⟩
def md (a0 a1:aE):Int:=Lib.compareBytes a0.data.toList a1.data.toList
def R (x:aE×aE):Option Int:=some (md x.1 x.2)
def ak {a0 a1:aE}(_:True):R (a0,a1)=some (md a0 a1):=rfl
def sem:List L->Option (List L)
 | [y0,y1]=>(R (y0.toStr,y1.toStr)).map RT.enc
 | _=>none
def aT:gh:=⟨[.rd .str,.rd .str],.one (.rd (.int .i64)),sem⟩
def af:cz 170 aT:=by
 refine vX ⟨Tryz.f170,Tryz.func170,by kernel_rfl,by kernel_rfl⟩ rfl (fun _=>rfl) fun ls r w vs Z hs hf=>?_
 simp only [aT] at hs
 unfold sem at hs
 split at hs
 ·rename_i a b
  cases hf with
  | cons h1 ht=>
   cases ht with
   | cons h2 ht=>
    cases ht
    have e1:_=Value.string a.toStr:=h1
    have e2:_=Value.string b.toStr:=h2
    subst e1;subst e2
    refine (calls a.toStr b.toStr w).mono fun e w' ⟨h3,h4⟩=>⟨_,h3,h4,?_⟩
    injection hs with hs
    subst hs
    rfl
 ·cases hs
end Z207
namespace Z208
def F (x0 x1:aE):aI:=(call (Z207.R (x0,x1)) fun v1=>ret v1)
def md (a0 a1:aE):Int:=((Z207.md a0 a1))
def gd (a0 a1:aE):Prop:=True
def R:=cm gd md
def ak {a0 a1}(h:gd a0 a1):R (a0,a1)=some (md a0 a1):=cq h
def aT:=CN [pS,pS] oI RT.dec R
def aY (a0)(a1)(hg:gd a0 a1):F a0 a1=ret (md a0 a1):=ct (Z207.ak trivial) fz
def af:cz 128 aT:=W2 8 F mix aC aY (cD Z207.af) Tryz.func128
end Z208
namespace Z209
def F (x0 x1:aE):aI:=(call (Z208.R (x0,x1)) fun v1=>ret v1)
def md (a0 a1:aE):Int:=((Z208.md a0 a1))
def gd (a0 a1:aE):Prop:=True
def R:=cm gd md
def ak {a0 a1}(h:gd a0 a1):R (a0,a1)=some (md a0 a1):=cq h
def aT:=CN [pS,pS] oI RT.dec R
def aY (a0)(a1)(hg:gd a0 a1):F a0 a1=ret (md a0 a1):=ct (Z208.ak trivial) fz
def af:cz 79 aT:=W2 8 F mix aC aY (cD Z208.af) Tryz.func79
def cmp:∀a b:List UInt8,Lib.compareBytes a b=(cond (Op.bytesLess a b) ((-1):Int) (cond (!((Op.bytesLess a b)||(a==b))) (1:Int) (0:Int)))
 | [],[]=>by simp [Lib.compareBytes,Op.bytesLess]
 | [],_::_=>by simp [Lib.compareBytes,Op.bytesLess]
 | _::_,[]=>by simp [Lib.compareBytes,Op.bytesLess]
 | a::xs,b::ys=>by
  simp only [Lib.compareBytes,Op.bytesLess]
  rw [cmp xs ys]
  by_cases h1:a<b
  ·simp [h1]
  ·by_cases h2:b<a
   ·have hne:a≠b:=fun e=>by subst e;exact h1 h2
    have hb:(a==b)=false:=beq_eq_false_iff_ne.2 hne
    simp [h1,h2,hb,hne]
   ·have he:a=b:=by
     have:=UInt8.lt_or_eq_of_le (UInt8.not_lt.1 h1)
     rcases this with h | h
     ·exact (h2 h).elim
     ·exact h.symm
    subst he
    simp [h1]
def br (a0 a1:aE):md a0 a1=Z91.md a0 a1:=by
 unfold md Z91.md Z208.md Z207.md
 rw [cmp,ByteArray.toList_eq,ByteArray.toList_eq]
end Z209
namespace Z210
inductive Pt where
 | p0 (a b:aB) (c d:Int)
def cu:Pt->List V
 | .p0 a b c d=>[.sl none 38 a,.sl none 38 b,.int .i64 c,.int .i64 d]
def step (J:Pt->aI):Pt->aI
 | .p0 a b c d=>(cond (d<c) (m2 d (b.length:Int) (call (Z206.R (bK.at b (toNat d))) fun v1=>(cond (!v1) dx (cond (d>0) (bY ((0:Int)<=(i64.wrap (d - 1))) (bY ((i64.wrap (d - 1))<(a.length:Int)) (call (Z209.R ((bK.at b (toNat d)).aV,(bK.at a (toNat (i64.wrap (d - 1)))).aV)) fun v2=>(cond (v2<=0) dx (J (.p0 a b c (i64.wrap (d+1)))))))) (J (.p0 a b c (i64.wrap (d+1)))))))) (ret ((decide ((a.length:Int)<=12)):Bool)))
def start (J:Pt->aI)(x0:aB):aI:=J (.p0 x0 x0 x0.length 0)
def live:Nat->Live:=fK [(2,gj [0,5,6,7])]
def md (a0:List ah):Bool:=(ep (S:=Unit) (β:=Bool) (fun i1 y1 s3=>(cond (!(Z206.md y1)) (.inr false) (cond ((i1:Int)>0) (cond ((Z209.md (y1.aV) ((a0.getD (toNat (i64.wrap (i1 - 1))) ah.zero).aV))<=0) (.inr false) (.inl ())) (.inl ())))) (fun s3=>((decide ((a0.length:Int)<=12)))) 0 a0 ())
def gd (a0:List ah):Prop:=(bN (2^21) (fun y:ah=>ah.Sm (2^21) y) a0)
def R:=RR gd md
def ak {a0}(h:gd a0):R (a0.map ah.row)=some (md a0):=cV h
def aT:=CN [pL 38] oB RT.dec R
def aY (a0)(H0:gd a0):∃n,start (iter step n) (a0.map ah.row)=ret (md a0):=by
 have Bh2:=bl H0
 refine ex_eq (dw (z:=ah.zero)) (eo (p:=Pt.p0 (a0.map ah.row) (a0.map ah.row) (a0.length:Int) 0) fz ?_)
 refine cw (pt:=fun (i1:Nat) (s3:Unit)=>Pt.p0 (a0.map ah.row) (a0.map ah.row) (a0.length:Int) (i1:Int)) (fun _ _=>True) (fun J i1 s3 h2 hih2=>?_) (fun s3 hih2=>?_) trivial
 ·simp only [step,SS]
  have:=(H0).1
  refine bp.yes dt (bp.yes aD ?_)
  refine bp.yes (aK h2) (cr (Z206.ak (bN.getD H0 h2)) ?_)
  refine bp.bif (fun _=>bp.inr rfl) (fun c4=>?_)
  refine bp.bif (fun c5=>?_) (fun c5=>?_)
  ·have dc5:=c5
   simp only [DC] at dc5
   refine bp.yes dt (bp.yes dt ?_)
   refine cr (Z209.ak trivial) (bp.bif (fun _=>bp.inr rfl) (fun c6=>?_))
   refine bp.inl trivial ?_
   rw [aH h2 Bh2]
  ·refine bp.inl trivial ?_
   rw [aH h2 Bh2]
 ·simp only [step,SS]
  refine dO dn (⟨0,?_⟩)
  exact fz
def af:cz 300 aT:=L1 35 (fun _=>2) cu (fun _=>[]) live step start mix aC aY (eP Z206.af Z209.af) Tryz.func300
def br (a0:List ah):md a0=Z92.md a0:=by
 unfold md Z92.md
 refine mW (fun i x _ s=>?_) (fun s=>rfl)
 simp only [Z206.br,Z209.br,Z91.swap]
end Z210
namespace Z211
inductive Pt where
 | p0 (a:aB) (b c:Int) (d:aB)
def cu:Pt->List V
 | .p0 a b c d=>[.own 0,.sl none 5 a,.int .i64 b,.int .i64 c]
def cR:Pt->List aW
 | .p0 a b c d=>[.row 3 d]
def step (J:Pt->aI):Pt->aI
 | .p0 a b c d=>(cond (c<b) (m2 c (a.length:Int) (bY (fJ (((d.length:Int)+1)*8)) (J (.p0 a b (i64.wrap (c+1)) (d++[[L.int (i64.wrap (kr a (toNat c)))]]))))) (ret (d:aB)))
def start (J:Pt->aI)(x0:aB):aI:=J (.p0 x0 x0.length 0 [[L.int x0.length]])
def live:Nat->Live:=fK [(3,gj [3,9,10,11])]
def md (a0:List Int):List Int:=([(a0.length:Int)]++a0.map (fun y1=>(i64.wrap y1)))
def gd (a0:List Int):Prop:=(bN (2^38) (fun y:Int=>True) a0)
def R:=RR gd md
def ak {a0}(h:gd a0):R (a0.map bt)=some ((md a0).map bt):=cV h
def aT:=CN [pL 5] (oL 3) RT.dec R
def aY (a0)(H0:gd a0):∃n,start (iter step n) (a0.map bt)=ret ((md a0).map bt):=by
 have Bh2:=bl H0
 refine ex_eq (out:=(fun b:List Int=>ret ((b.map bt):aB))) (nv (g:=fun (y1:Int)=>(i64.wrap y1)) (z:=0) (t:=fun (s3:List Int)=>s3)) (eo (p:=Pt.p0 (a0.map bt) (a0.length:Int) 0 ([(a0.length:Int)].map bt)) fz ?_)
 refine cw (pt:=fun (i1:Nat) (s3:List Int)=>Pt.p0 (a0.map bt) (a0.length:Int) (i1:Int) (s3.map bt)) (out:=(fun b:List Int=>ret ((b.map bt):aB))) (fun (i1:Nat) (s3:List Int)=>s3.length<=[(a0.length:Int)].length+1*i1) (fun J i1 s3 h2 hih2=>?_) (fun s3 hih2=>?_) (by simp)
 ·simp only [step,SS]
  have gr_:=hih2
  simp only [LN] at gr_
  have:=(H0).1
  refine bp.yes dt (bp.yes aD ?_)
  refine bp.yes (aK h2) (bp.yes lm ?_)
  refine bp.inl (by
    (simp;omega)) ?_
  rw [aH h2 Bh2]
  exact fz
 ·simp only [step,SS]
  refine dO dn (⟨0,?_⟩)
  exact fz
def af:cz 374 aT:=L1 22 (fun _=>3) cu cR live step start mix aC aY .nil Tryz.func374
def len (a0:List Int):(md a0).length=1+a0.length:=by simp [md];omega
def br (a0:List Int):md a0=Z93.md a0:=by
 unfold md Z93.md
 simp only [id]
end Z211
namespace Z212
def F (x0:aE):aI:=(bY ((x0.size:Int)<=140737488355328) (call (Z211.R (ji x0)) fun v1=>ret (v1:aB)))
def md (a0:aE):List Int:=(Z211.md (kX a0))
def gd (a0:aE):Prop:=(a0.size<=(2^21))
def R:=RR gd md
def ak {a0}(h:gd a0):R a0=some ((md a0).map bt):=cV h
def aT:=CN [pS] (oL 3) RT.dec R
def aY (a0)(hg:gd a0):F a0=ret ((md a0).map bt):=by
 unfold gd at hg
 have H0:=hg
 refine aj (have:=H0;dt) (aU _ (rq (Z211.ak (a0:=(kX a0)) ⟨(have:=iH a0;have:=H0;om),fun _ _=>trivial⟩)) ?_)
 exact fz
def af:cz 345 aT:=W1 6 F mix aC aY (cD Z211.af) Tryz.func345
def len (a0:aE):(md a0).length=1+a0.size:=by simp [md,Z211.len,iH]
def br (a0:aE):md a0=Z94.md a0:=by
 unfold md Z94.md
 simp only [Z211.br]
end Z212
namespace Z213
inductive Pt where
 | p0 (a:aB) (b c:Int) (d:aB)
def cu:Pt->List V
 | .p0 a b c d=>[.own 0,.sl none 9 a,.int .i64 b,.int .i64 c]
def cR:Pt->List aW
 | .p0 a b c d=>[.row 3 d]
def step (J:Pt->aI):Pt->aI
 | .p0 a b c d=>(cond (c<b) (m2 c (a.length:Int) (call (Z212.R (qS a (toNat c))) fun v1=>(bY (fJ (((d.length:Int)+(v1.length:Int))*8)) (J (.p0 a b (i64.wrap (c+1)) (d++v1)))))) (ret (d:aB)))
def start (J:Pt->aI)(x0:bK):aI:=(call (Z212.R x0.aV) fun v1=>(bY (fJ ((v1.length+3)*8)) (J (.p0 x0.bh x0.bh.length 0 (v1++[[L.int x0.bJ],[L.int x0.bX],[L.int x0.bh.length]])))))
def live:Nat->Live:=fK [(3,gj [3,19,20,21])]
def md (a0:ah):List Int:=(((Z212.md a0.aV)++[a0.bJ,a0.bX,a0.bh.length])++a0.bh.flatMap (fun y1=>(Z212.md y1)))
def gd (a0:ah):Prop:=(ah.Sm (2^21) a0)
def R:=RR gd md
def ak {a0}(h:gd a0):R (ah.r a0)=some ((md a0).map bt):=cV h
def aT:=CN [.agg tw] (oL 3) RT.dec R
def aY (a0)(H0:gd a0):∃n,start (iter step n) (ah.r a0)=ret ((md a0).map bt):=by
 refine cx (Z212.ak H0.1) ?_
 simp only [SS]
 refine dW (have:=Z212.len a0.aV;have:=H0.1;lm) ?_
 have Bh2:=bl H0.2
 refine ex_eq (out:=(fun b:List Int=>ret ((b.map bt):aB))) (sF (g:=fun (y1:aE)=>(Z212.md y1)) (z:=⟨#[]⟩) (t:=fun (s3:List Int)=>s3)) (eo (p:=Pt.p0 (a0.bh.map cX) (a0.bh.length:Int) 0 (((Z212.md a0.aV)++[a0.bJ,a0.bX,(a0.bh.length:Int)]).map bt)) fz ?_)
 refine cw (pt:=fun (i1:Nat) (s3:List Int)=>Pt.p0 (a0.bh.map cX) (a0.bh.length:Int) (i1:Int) (s3.map bt)) (out:=(fun b:List Int=>ret ((b.map bt):aB))) (fun (i1:Nat) (s3:List Int)=>s3.length<=4+a0.aV.size+i1*(2^21+1)) (fun J i1 s3 h2 hih2=>?_) (fun s3 hih2=>?_) (by
   have:=Z212.len a0.aV
   simp
   try omega)
 ·simp only [step,SS]
  have:=H0.1
  have:=(H0.2).1
  refine bp.yes dt (bp.yes aD ?_)
  refine bp.yes (aK h2) (cr (Z212.ak (bN.getD H0.2 h2)) ?_)
  refine bp.yes (have:=Z212.len (a0.bh.getD i1 ⟨#[]⟩);have:=(bN.getD (z:=⟨#[]⟩) H0.2 h2);lm) ?_
  refine bp.inl (by
    have:=Z212.len (a0.bh.getD i1 ⟨#[]⟩)
    have:=(bN.getD (z:=⟨#[]⟩) H0.2 h2)
    have g_:=hih2
    simp only [LN] at g_ ⊢
    first | omega | (simp;done) | (simp;omega)) ?_
  rw [aH h2 Bh2]
  exact fz
 ·simp only [step,SS]
  refine dO dn (⟨0,?_⟩)
  exact fz
def af:cz 317 aT:=L1 31 (fun _=>3) cu cR live step start mix aC aY (cD Z212.af) Tryz.func317
def iR {a0:ah}(hg:gd a0):bN (2^43 - 1) (fun y:Int=>True) (md a0):=by
 refine ⟨?_,fun _ _=>trivial⟩
 unfold md
 have h1:=mC (xs:=a0.bh) (g:=fun y=>Z212.md y) (n:=2^21+1) (fun x hx=>by rw [Z212.len];have:=hg.2.2 x hx;omega)
 have h2:=hg.1
 have h3:=hg.2.1
 have h4:=Z212.len a0.aV
 simp only [List.length_append,List.length_cons,List.length_nil]
 omega
def br (a0:ah):md a0=Z95.md a0:=by
 unfold md Z95.md
 simp only [Z212.br]
end Z213
namespace Z214
def F (x0:bK):aI:=(call (Z213.R x0) fun v1=>(bY (fJ (((1:Int)+v1.length)*8)) (call (Z177.R ([[L.int 227]]++v1)) fun v2=>ret v2)))
def md (a0:ah):Int:=((Z177.md ([227]++(Z213.md a0))))
def gd (a0:ah):Prop:=(ah.Sm (2^21) a0)
def R:=RR gd md
def ak {a0}(h:gd a0):R (ah.r a0)=some (md a0):=cV h
def aT:=CN [.agg tw] oI RT.dec R
def aY (a0)(H0:gd a0):F (ah.r a0)=ret (md a0):=by
 refine ct (Z213.ak H0) (aj (have:=((Z213.iR H0)).1;lm) ?_)
 exact aU _ (rq (Z177.ak (a0:=([227]++(Z213.md a0))) ⟨(have:=((Z213.iR H0)).1;om),fun _ _=>trivial⟩)) fz
def af:cz 267 aT:=W1 8 F mix aC aY (eP Z213.af Z177.af) Tryz.func267
def br (a0:ah):md a0=Z96.md a0:=by
 unfold md Z96.md
 simp only [Z213.br,Z177.br]
end Z214
namespace Z215
inductive Pt where
 | p0 (a:aB) (b c:Int) (d:aB)
def cu:Pt->List V
 | .p0 a b c d=>[.own 0,.sl none 38 a,.int .i64 b,.int .i64 c]
def cR:Pt->List aW
 | .p0 a b c d=>[.row 3 d]
def step (J:Pt->aI):Pt->aI
 | .p0 a b c d=>(cond (c<b) (m2 c (a.length:Int) (call (Z214.R (bK.at a (toNat c))) fun v1=>(bY (fJ (((d.length:Int)+1)*8)) (J (.p0 a b (i64.wrap (c+1)) (d++[[L.int v1]])))))) (ret (d:aB)))
def start (J:Pt->aI)(x0:aB):aI:=J (.p0 x0 x0.length 0 [])
def live:Nat->Live:=fK [(3,[(3,some 3),(7,none),(8,none),(9,none)])]
def md (a0:List ah):List Int:=(a0.map (fun y1=>(Z214.md y1)))
def gd (a0:List ah):Prop:=(bN (2^21) (fun y:ah=>ah.Sm (2^21) y) a0)
def R:=RR gd md
def ak {a0}(h:gd a0):R (a0.map ah.row)=some ((md a0).map bt):=cV h
def aT:=CN [pL 38] (oL 3) RT.dec R
def aY (a0)(H0:gd a0):∃n,start (iter step n) (a0.map ah.row)=ret ((md a0).map bt):=by
 have Bh2:=bl H0
 refine ex_eq (out:=(fun b:List Int=>ret ((b.map bt):aB))) (oF (g:=fun (y1:ah)=>(Z214.md y1)) (z:=ah.zero) (t:=fun (s3:List Int)=>s3)) (eo (p:=Pt.p0 (a0.map ah.row) (a0.length:Int) 0 ([].map bt)) fz ?_)
 refine cw (pt:=fun (i1:Nat) (s3:List Int)=>Pt.p0 (a0.map ah.row) (a0.length:Int) (i1:Int) (s3.map bt)) (out:=(fun b:List Int=>ret ((b.map bt):aB))) (fun (i1:Nat) (s3:List Int)=>s3.length<=([]:List Int).length+1*i1) (fun J i1 s3 h2 hih2=>?_) (fun s3 hih2=>?_) (by simp)
 ·simp only [step,SS]
  have gr_:=hih2
  simp only [LN] at gr_
  have:=(H0).1
  refine bp.yes dt (bp.yes aD ?_)
  refine bp.yes (aK h2) (cr (Z214.ak (bN.getD H0 h2)) ?_)
  refine bp.yes lm ?_
  refine bp.inl (by
    (simp;omega)) ?_
  rw [aH h2 Bh2]
  exact fz
 ·simp only [step,SS]
  refine dO dn (⟨0,?_⟩)
  exact fz
def af:cz 299 aT:=L1 20 (fun _=>3) cu cR live step start mix aC aY (cD Z214.af) Tryz.func299
def len (a0:List ah):(md a0).length=a0.length:=by simp [md]
def br (a0:List ah):md a0=Z97.md a0:=by
 unfold md Z97.md
 simp only [Z214.br]
end Z215
namespace Z216
def F (x0:aB):aI:=(call (Z177.R x0) fun v1=>ret v1)
def md (a0:List Int):Int:=((Z177.md a0))
def gd (a0:List Int):Prop:=(bN (2^42) (fun y:Int=>True) a0)
def R:=RR gd md
def ak {a0}(h:gd a0):R (a0.map bt)=some (md a0):=cV h
def aT:=CN [pL 3] oI RT.dec R
def aY (a0)(H0:gd a0):F (a0.map bt)=ret (md a0):=ct (Z177.ak (H0.mono (by decide) (fun x hx=>trivial))) fz
def af:cz 318 aT:=W1 5 F mix aC aY (cD Z177.af) Tryz.func318
def br (a0:List Int):md a0=Z69.md a0:=Z177.br a0
end Z216
namespace Z217
def F (x0 x1:Int):aI:=(call (Z216.R [[L.int 229],[L.int x0],[L.int x1]]) fun v1=>ret v1)
def md (a0 a1:Int):Int:=((Z216.md [229,a0,a1]))
def gd (a0 a1:Int):Prop:=True
def R:=cm gd md
def ak {a0 a1}(h:gd a0 a1):R (a0,a1)=some (md a0 a1):=cq h
def aT:=CN [pI,pI] oI RT.dec R
def aY (a0)(a1)(hg:gd a0 a1):F a0 a1=ret (md a0 a1):=aU _ (rq (Z216.ak (a0:=[229,a0,a1]) ⟨(om),fun _ _=>trivial⟩)) fz
def af:cz 315 aT:=W2 9 F mix aC aY (cD Z216.af) Tryz.func315
def br (a0 a1:Int):md a0 a1=Z98.md a0 a1:=by
 unfold md Z98.md
 simp only [Z216.br]
end Z217
namespace Z218
inductive Pt where
 | p0 (a:aB) (b:Int) (c:aB)
def cu:Pt->List V
 | .p0 a b c=>[.sl none 3 a,.own 0,.int .i64 b]
def cR:Pt->List aW
 | .p0 a b c=>[.row 3 c]
def step (J:Pt->aI):Pt->aI
 | .p0 a b c=>(cond (b<(a.length:Int)) (cond ((i64.wrap (b+1))<(a.length:Int)) (m2 b (a.length:Int) (bY ((0:Int)<=(i64.wrap (b+1))) (bY ((i64.wrap (b+1))<(a.length:Int)) (call (Z217.R ((kr a (toNat b)),(kr a (toNat (i64.wrap (b+1)))))) fun v1=>(bY (fJ (((c.length:Int)+1)*8)) (J (.p0 a (i64.wrap (b+2)) (c++[[L.int v1]])))))))) (m2 b (a.length:Int) (bY (fJ (((c.length:Int)+1)*8)) (J (.p0 a (i64.wrap (b+2)) (c++[[L.int (kr a (toNat b))]])))))) (ret (c:aB)))
def start (J:Pt->aI)(x0:aB):aI:=J (.p0 x0 0 [])
def live:Nat->Live:=fK [(3,[(0,none),(3,some 3),(4,none)])]
def md (a0:List Int):List Int:=Z99.md a0
def gd (a0:List Int):Prop:=bN (2^38) (fun y:Int=>True) a0
def R:=RR gd md
def ak {a0}(h:gd a0):R (a0.map bt)=some ((md a0).map bt):=cV h
def aT:=CN [pL 3] (oL 3) RT.dec R
def aY (a0)(hg:gd a0):∃n,start (iter step n) (a0.map bt)=ret ((md a0).map bt):=by
 obtain ⟨H1,_⟩:=hg
 have key:∀(k i:Nat) (c:List Int),i+k=a0.length->c.length<=i->∃n,iter step n (Pt.p0 (a0.map bt) (i:Int) (c.map bt))=ret ((c++Z99.up (a0.drop i)).map bt:aB):=by
  intro k
  induction k using Nat.strongRecOn with
  | _ k ih=>
  intro i c hi hc
  match k,hi,ih with
  | 0,hi,_=>
   refine ⟨1,?_⟩
   show step (iter step 0) (Pt.p0 _ _ _)=_
   simp only [step,List.length_map]
   refine cW (decide_eq_false (by omega)) ?_
   rw [List.drop_eq_nil_of_le (by omega)]
   simp only [Z99.up,List.append_nil]
  | 1,hi,ih=>
   obtain ⟨n,hn⟩:=ih 0 (by omega) (i+1) (c++[a0.getD i 0]) (by omega) (by simp;omega)
   have h2:∃n,iter step n (Pt.p0 (a0.map bt) (i64.wrap ((i:Int)+2)) ((c++[a0.getD i 0]).map bt))=ret ((c++[a0.getD i 0]).map bt:aB):=by
    refine ⟨1,?_⟩
    show step (iter step 0) (Pt.p0 _ _ _)=_
    simp only [step,List.length_map]
    refine cW (decide_eq_false ?_) rfl
    rw [Go.IntWalk.i64_in _ (by omega)];omega
   obtain ⟨n,hn⟩:=h2
   refine ⟨n+1,?_⟩
   show step (iter step n) (Pt.p0 _ _ _)=_
   simp only [step,List.length_map,cM,iC]
   refine aj (decide_eq_true (by omega)) (cW (decide_eq_false ?_) (aj (decide_eq_true (by omega)) (aj (decide_eq_true (by omega)) (aj (iV (by omega)) ?_))))
   ·rw [Go.IntWalk.i64_in _ (by omega)];omega
   ·rw [List.map_append] at hn
    refine Eq.trans hn ?_
    rw [List.drop_eq_getElem_cons (by omega),List.drop_eq_nil_of_le (by omega),fF (by omega:i<a0.length)]
    simp only [Z99.up,List.map_append]
  | k+2,hi,ih=>
   obtain ⟨n,hn⟩:=ih k (by omega) (i+2) (c++[Z98.md (a0.getD i 0) (a0.getD (i+1) 0)]) (by omega) (by simp;omega)
   refine ⟨n+1,?_⟩
   show step (iter step n) (Pt.p0 _ _ _)=_
   have w1:i64.wrap ((i:Int)+1)=((i+1:Nat):Int):=by rw [Go.IntWalk.i64_in _ (by omega)];omega
   have w2:i64.wrap ((i:Int)+2)=((i+2:Nat):Int):=by rw [Go.IntWalk.i64_in _ (by omega)];omega
   simp only [step,List.length_map,w1,w2,cM,iC]
   refine aj (decide_eq_true (by omega)) (aj (decide_eq_true (by omega)) (aj (decide_eq_true (by omega)) (aj (decide_eq_true (by omega)) (aj (decide_eq_true (by omega)) (aj (decide_eq_true (by omega)) ?_)))))
   refine aU _ (by have:=Z217.ak (a0:=a0.getD i 0) (a1:=a0.getD (i+1) 0) trivial;rw [Z217.br] at this;exact this) (aj (iV (by omega)) ?_)
   rw [List.map_append] at hn
   refine Eq.trans hn ?_
   rw [List.drop_eq_getElem_cons (by omega:i<a0.length),List.drop_eq_getElem_cons (by omega:i+1<a0.length),fF (by omega:i<a0.length),fF (by omega:i+1<a0.length)]
   simp only [Z99.up,List.append_assoc,List.cons_append,List.nil_append]
 have:=key a0.length 0 [] (by omega) (by simp)
 unfold start md Z99.md
 simpa using this
def af:cz 334 aT:=L1 38 (fun _=>3) cu cR live step start mix aC aY (cD Z217.af) Tryz.func334
def br (a0:List Int):md a0=Z99.md a0:=by
 unfold md Z99.md
 simp only [Z217.br]
end Z218
namespace Z219
inductive Pt where
 | p0 (a:aB)
 | p1 (a:aB)
def cu:Pt->List V
 | .p0 a=>[.sl none 3 a]
 | .p1 a=>[.own 0]
def cR:Pt->List aW
 | .p0 a=>[]
 | .p1 a=>[.row 3 a]
def step (J:Pt->aI):Pt->aI
 | .p0 a=>(cond ((a.length:Int)>1) (call (Z218.R a) fun v1=>J (.p1 v1)) (bY ((0:Int)<(a.length:Int)) (ret ((kr a 0):Int))))
 | .p1 a=>(cond ((a.length:Int)>1) (call (Z218.R a) fun v1=>J (.p1 v1)) (bY ((0:Int)<(a.length:Int)) (ret ((kr a 0):Int))))
def start (J:Pt->aI)(x0:aB):aI:=(cond ((x0.length:Int)==0) (call (Z216.R [[L.int 229]]) fun v1=>ret v1) (J (.p0 x0)))
def live:Nat->Live:=fK [(3,[(0,none)])]
def md (a0:List Int):Int:=Z100.md a0
def gd (a0:List Int):Prop:=bN (2^38) (fun y:Int=>True) a0
def R:=RR gd md
def ak {a0}(h:gd a0):R (a0.map bt)=some (md a0):=cV h
def aT:=CN [pL 3] oI RT.dec R
def aY (a0)(hg:gd a0):∃n,start (iter step n) (a0.map bt)=ret (md a0):=by
 have one:∀(l:List Int) (r:Int) (n:Nat),bN (2^38) (fun y:Int=>True) l->0<l.length->(if l.length>1 then iter step n (Pt.p1 ((Z99.up l).map bt))=ret r else ret (l.getD 0 0:Int)=ret r)->step (iter step n) (Pt.p0 (l.map bt))=ret r/\step (iter step n) (Pt.p1 (l.map bt))=ret r:=by
  intro l r n hl hp h
  simp only [step,List.length_map,iC]
  by_cases h1:l.length>1
  ·rw [if_pos h1] at h
   have hx:∀y:aI,(cond ((l.length:Int)>1) (call (Z218.R (l.map bt)) (fun v1=>iter step n (Pt.p1 v1))) y)=ret r:=fun y=>
    aj (decide_eq_true (by omega)) (aU _ (Z218.ak hl) h)
   exact ⟨hx _,hx _⟩
  ·rw [if_neg h1] at h
   have hx:∀y:aI,(cond ((l.length:Int)>1) y (cond ((0:Int)<(l.length:Int)) (ret (l.getD 0 0:Int)) none))=ret r:=fun y=>
    cW (decide_eq_false (by omega)) (aj (decide_eq_true (by omega)) h)
   exact ⟨hx _,hx _⟩
 have key:∀(k:Nat) (l:List Int),bN (2^38) (fun y:Int=>True) l->0<l.length->l.length<=k+1->∃n,step (iter step n) (Pt.p0 (l.map bt))=ret (Z100.top k l)/\step (iter step n) (Pt.p1 (l.map bt))=ret (Z100.top k l):=by
  intro k
  induction k with
  | zero=>
   intro l hl hp hk
   exact ⟨0,one l _ 0 hl hp (by rw [if_neg (by omega)];rfl)⟩
  | succ k ih=>
   intro l hl hp hk
   by_cases h1:l.length>1
   ·have hu:=Z99.lK l
    have hl1:=hl.1
    obtain ⟨n,_,hn⟩:=ih (Z99.up l) ⟨by omega,fun _ _=>trivial⟩ (by omega) (by omega)
    refine ⟨n+1,one l _ (n+1) hl hp ?_⟩
    rw [if_pos h1]
    refine Eq.trans hn ?_
    unfold Z100.top
    rw [if_pos h1]
    cases k<;>rfl
   ·refine ⟨0,one l _ 0 hl hp ?_⟩
    rw [if_neg h1]
    unfold Z100.top
    rw [if_neg h1]
 unfold md Z100.md
 unfold start
 simp only [List.length_map]
 by_cases h0:a0.length=0
 ·have e:((a0.length:Int)==0)=true:=by simpa using List.length_eq_zero_iff.1 h0
  refine ⟨0,?_⟩
  rw [e]
  refine aU _ (by have:=Z216.ak (a0:=[229]) ⟨by decide,fun _ _=>trivial⟩;rw [Z216.br] at this;exact this) ?_
  rw [if_pos h0]
 ·have e:((a0.length:Int)==0)=false:=beq_eq_false_iff_ne.2 (by omega)
  obtain ⟨n,hn,_⟩:=key a0.length a0 hg (by omega) (by omega)
  refine ⟨n+1,?_⟩
  rw [e,if_neg h0]
  exact hn
def af:cz 321 aT:=L1 16 (fun _=>3) cu cR live step start mix aC aY (eP Z216.af Z218.af) Tryz.func321
def br (a0:List Int):md a0=Z100.md a0:=by
 unfold md Z100.md
 simp only [Z216.br,Z218.br]
end Z219
namespace Z220
def F (x0 x1:Int):aI:=(call (Z216.R [[L.int 231],[L.int x0],[L.int x1]]) fun v1=>ret v1)
def md (a0 a1:Int):Int:=((Z216.md [231,a0,a1]))
def gd (a0 a1:Int):Prop:=True
def R:=cm gd md
def ak {a0 a1}(h:gd a0 a1):R (a0,a1)=some (md a0 a1):=cq h
def aT:=CN [pI,pI] oI RT.dec R
def aY (a0)(a1)(hg:gd a0 a1):F a0 a1=ret (md a0 a1):=aU _ (rq (Z216.ak (a0:=[231,a0,a1]) ⟨(om),fun _ _=>trivial⟩)) fz
def af:cz 269 aT:=W2 9 F mix aC aY (cD Z216.af) Tryz.func269
def br (a0 a1:Int):md a0 a1=Z101.md a0 a1:=by
 unfold md Z101.md
 simp only [Z216.br]
end Z220
namespace Z221
def F (x0:aB):aI:=(call (Z215.R x0) fun v1=>(call (Z219.R v1) fun v2=>(call (Z220.R (x0.length,v2)) fun v3=>ret v3)))
def md (a0:List ah):Int:=((Z220.md a0.length (Z219.md (Z215.md a0))))
def gd (a0:List ah):Prop:=(bN (2^21) (fun y:ah=>ah.Sm (2^21) y) a0)
def R:=RR gd md
def ak {a0}(h:gd a0):R (a0.map ah.row)=some (md a0):=cV h
def aT:=CN [pL 38] oI RT.dec R
def aY (a0)(H0:gd a0):F (a0.map ah.row)=ret (md a0):=by
 refine ct (Z215.ak H0) ?_
 simp only [SS]
 refine ct (Z219.ak ⟨(have:=Z215.len a0;have:=(H0).1;om),fun _ _=>trivial⟩) (ct (Z220.ak trivial) ?_)
 exact fz
def af:cz 272 aT:=W1 9 F mix aC aY (kC Z215.af Z219.af Z220.af) Tryz.func272
def br (a0:List ah):md a0=Z102.md a0:=by
 unfold md Z102.md
 simp only [Z215.br,Z219.br,Z220.br]
end Z221
namespace Z222
def F (x0:Int)(x1:aB):aI:=(call (Z210.R x1) fun v1=>(cond v1 (call (Z221.R x1) fun v2=>ret ((v2==x0))) (ret false)))
def md (a0:Int)(a1:List ah):Bool:=(cond (Z210.md a1) (((Z221.md a1)==a0)) false)
def gd (a0:Int)(a1:List ah):Prop:=(bN (2^21) (fun y:ah=>ah.Sm (2^21) y) a1)
def R:=cm gd md
def ak {a0 a1}(h:gd a0 a1):R (a0,(a1.map ah.row))=some (md a0 a1):=cq h
def aT:=CN [pI,pL 38] oB RT.dec R
def aY (a0)(a1)(H1:gd a0 a1):F a0 (a1.map ah.row)=ret (md a0 a1):=by
 refine ct (Z210.ak H1) (bs (fun c1=>?_) (fun _=>rfl))
 exact ct (Z221.ak H1) fz
def af:cz 295 aT:=W2 13 F mix aC aY (eP Z210.af Z221.af) Tryz.func295
def br (a0:Int)(a1:List ah):md a0 a1=Z103.md a0 a1:=by
 unfold md Z103.md
 simp only [Z210.br,Z221.br]
end Z222
namespace Z223
def F (x0:eE):aI:=(call (Z204.R x0.aQ) fun v1=>(cond (!v1) (ret false) (call (Z205.R x0.aQ) fun v2=>(cond (v2.cE==x0.bR.length) (call (Z222.R (v2.dG,x0.bR)) fun v3=>ret v3) (ret false)))))
def md (a0:aP):Bool:=(cond (!(Z204.md a0.aQ)) false (cond ((Z205.md a0.aQ).cE==a0.bR.length) ((Z222.md ((Z205.md a0.aQ).dG) a0.bR)) false))
def gd (a0:aP):Prop:=(aP.Sm (2^21) a0)
def R:=RR gd md
def ak {a0}(h:gd a0):R (aP.r a0)=some (md a0):=cV h
def aT:=CN [.agg uQ] oB RT.dec R
def aY (a0)(H0:gd a0):F (aP.r a0)=ret (md a0):=by
 refine ct (Z204.ak H0.1) (bs (fun _=>rfl) (fun c1=>?_))
 have tc1:=Z204.tr (by simpa using c1)
 refine ct (Z205.ak ⟨H0.1,om⟩) ?_
 simp only [SS]
 refine bs (fun c2=>?_) (fun _=>rfl)
 exact ct (Z222.ak H0.2) fz
def af:cz 246 aT:=W1 24 F mix aC aY (kC Z204.af Z205.af Z222.af) Tryz.func246
def tr {a0:aP}(h:md a0=true):1<=a0.aQ.length:=by
 unfold md at h
 cases hc:Z204.md a0.aQ
 ·rw [hc] at h;cases h
 ·exact (Z204.tr hc).1
def br (a0:aP):md a0=Z104.md a0:=by
 unfold md Z104.md
 rw [Z204.br,Z222.br]
 unfold Z205.md Z89.md
 cases h:Z88.md a0.aQ
 ·rfl
 ·rfl
end Z223
namespace Z224
def F (x0:eE):aI:=(call (Z223.R x0) fun v1=>(cond (!v1) bV (call (Z205.R x0.aQ) fun v2=>ret v2.bz)))
def md (a0:aP):Int:=(cond (!(Z223.md a0)) ((-1):Int) ((Z205.md a0.aQ).bz))
def gd (a0:aP):Prop:=(aP.Sm (2^21) a0)
def R:=RR gd md
def ak {a0}(h:gd a0):R (aP.r a0)=some (md a0):=cV h
def aT:=CN [.agg uQ] oI RT.dec R
def aY (a0)(H0:gd a0):F (aP.r a0)=ret (md a0):=by
 refine ct (Z223.ak H0) (bs (fun _=>rfl) (fun c1=>?_))
 have tc1:=Z223.tr (by simpa using c1)
 exact ct (Z205.ak ⟨H0.1,om⟩) fz
def af:cz 245 aT:=W1 10 F mix aC aY (eP Z223.af Z205.af) Tryz.func245
def br (a0:aP):md a0=Z105.md a0:=by
 unfold md Z105.md
 rw [Z223.br]
 cases h:Z104.md a0
 ·rfl
 ·have h2:Z88.md a0.aQ=true:=by
   unfold Z104.md Z89.md at h
   cases hc:Z88.md a0.aQ
   ·rw [hc] at h;cases h
   ·rfl
  unfold Z205.md Z89.md
  rw [h2]
  rfl
end Z224
namespace Z225
def F (x0:eE)(x1:List L):aI:=(call (Z224.R x0) fun v1=>ret ((v1==(gq x1))))
def pats:List gK:=[.agg [.sl 178,.sl 38],.ptr [au]]
def res:RP:=.one (.rd (.bool))
def md (a0:aP)(a1:Int):Bool:=(((Z224.md a0)==a1))
def gd (a0:aP)(a1:Int):Prop:=(aP.Sm (2^21) a0)
def acc (ls:List L):eE×Int:=((eE.dec ls),(gq (cI 1 (bE 2 ls))))
def R:(eE×Int)->Option Bool:=cm gd md
def ak {a0 a1}(h:gd a0 a1):R ((aP.r a0),a1)=some (md a0 a1):=cq h
def aT:gh:=CN pats res acc R
def aY (a0:aP)(a1:Int)(p1:List L)(e1:a1=(gq p1))(H0:gd a0 a1):F (aP.r a0) p1=ret ((md a0 a1):Bool):=by
 unfold F md
 simp only [SS,<-e1]
 exact ct (Z224.ak H0) fz
def nY (ls:List L)(a:aP×Int)(e:acc ls=Im.im a)(hg:(p2 gd) a):∃n:Nat,F (eE.dec ls) (cI 1 (bE 2 ls))=ret (Im.im ((u2 md) a)):=by
 have e0:(aP.r a.1)=(eE.dec ls):=(congrArg (fun x=>x.1) e.symm)
 have hn:=aY a.1 a.2 (cI 1 (bE 2 ls)) (congrArg (fun x=>x.2) e.symm) hg
 refine ⟨0,?_⟩
 rw [<-e0]
 exact hn
def af:cz 244 aT:=VP (live:=fun _=>[]) (nt:=8) (accr:=fun ls=>((eE.dec ls),(cI 1 (bE 2 ls)))) (run:=fun _ x=>F x.1 x.2) mix aC (cD Z224.af) Tryz.func244 (by kernel_rfl) (fun _ _=>by kernel_rfl) (fun ls a _ e hg=>nY ls a e hg)
end Z225
namespace Z226
inductive Pt where
 | p0 (a:aB) (b:List L) (c d:Int)
def pid:Pt->Nat
 | .p0 ..=>2
def cu:Pt->List V
 | .p0 a b c d=>[.sl none 215 a,.fn 244 [.dQ none [au] b 0],.int .i64 c,.int .i64 d]
def cR:Pt->List aW
 | .p0 a b c d=>[]
def step (J:Pt->aI):Pt->aI
 | .p0 a b c d=>(cond (d<c) (m2 d (a.length:Int) (call (Z225.R ((eE.at a (toNat d)),(gq b))) fun v1=>(cond v1 (ret (d:Int)) (J (.p0 a b c (i64.wrap (d+1))))))) bV)
def start (J:Pt->aI)(x0:aB)(x1:List L):aI:=J (.p0 x0 x1 x0.length 0)
def live:Nat->Live:=fK [(2,gj [0,1,7,8])]
def pats:List gK:=[.rd (.sl 215),.fn 244 [[au]]]
def res:RP:=.one (.rd (.int .i64))
abbrev E:Env:={ T:=assoc lC,G:=dK [(244,Z225.aT)],nt:=19 }
def step_eq (I:cJ)(p:Pt):dh E live I (pid p) (bI Tryz.f243) (fU (live (pid p)) (cu p) (cR p)) (cG E Tryz.f243 res)=step (fun q=>I (pid q) (cu q) (cR q)) p:=by
 cases p<;>kernel_rfl
def start_eq (I:cJ)(ls:List L):fH E live I (bI Tryz.f243) (dF pats ls) (cG E Tryz.f243 res)=start (fun q=>I (pid q) (cu q) (cR q)) (dc ls) (cI 1 (bE 1 ls)):=by kernel_rfl
def run_eq (n:Nat)(ls:List L):eY E live Tryz.f243 res n (dF pats ls)=start (iter step n) (dc ls) (cI 1 (bE 1 ls)):=cB (id:=pid) (vs:=cu) (hs:=cR) (step:=step) (start:=fun J=>start J (dc ls) (cI 1 (bE 1 ls))) step_eq (fun I=>start_eq I ls) n
def md (a0:List aP)(a1:Int):Int:=(ep (S:=Unit) (β:=Int) (fun i1 y1 s3=>(cond (Z225.md y1 a1) (.inr (i1)) (.inl ()))) (fun s3=>((-1):Int)) 0 a0 ())
def gd (a0:List aP)(a1:Int):Prop:=(bN (2^21) (fun y:aP=>aP.Sm (2^21) y) a0)
def acc (ls:List L):aB×Int:=((dc ls),(gq (cI 1 (bE 1 ls))))
def R:(aB×Int)->Option Int:=cm gd md
def ak {a0 a1}(h:gd a0 a1):R ((a0.map aP.row),a1)=some (md a0 a1):=cq h
def aT:gh:=CN pats res acc R
def aY (a0:List aP)(a1:Int)(p1:List L)(e1:a1=(gq p1))(H0:gd a0 a1):∃n,start (iter step n) (a0.map aP.row) p1=ret ((md a0 a1):Int):=by
 have Bh2:=bl H0
 refine ex_eq (dw (z:=aP.zero)) (eo (p:=Pt.p0 (a0.map aP.row) p1 (a0.length:Int) 0) fz ?_)
 refine cw (pt:=fun (i1:Nat) (s3:Unit)=>Pt.p0 (a0.map aP.row) p1 (a0.length:Int) (i1:Int)) (fun _ _=>True) (fun J i1 s3 h2 hih2=>?_) (fun s3 hih2=>?_) trivial
 ·simp only [step,SS,<-e1]
  refine bp.yes dt (bp.yes aD ?_)
  refine bp.yes (aK h2) (cr (Z225.ak (bN.getD H0 h2)) ?_)
  refine bp.bif (fun c4=>bp.inr fz) (fun c4=>?_)
  refine bp.inl trivial ?_
  rw [aH h2 Bh2]
 ·simp only [step,SS,<-e1]
  refine dO dn (⟨0,?_⟩)
  exact fz
def nY (ls:List L)(a:List aP×Int)(e:acc ls=Im.im a)(hg:(p2 gd) a):∃n:Nat,start (iter step n) ((dc ls)) (cI 1 (bE 1 ls))=ret (Im.im ((u2 md) a)):=by
 have e0:(a.1.map aP.row)=(dc ls):=(congrArg (fun x=>x.1) e.symm)
 obtain ⟨n,hn⟩:=aY a.1 a.2 (cI 1 (bE 1 ls)) (congrArg (fun x=>x.2) e.symm) hg
 refine ⟨n,?_⟩
 rw [<-e0]
 exact hn
def af:cz 243 aT:=VP (accr:=fun ls=>((dc ls),(cI 1 (bE 1 ls)))) (run:=fun n x=>start (iter step n) x.1 x.2) mix aC (cD Z225.af) Tryz.func243 (by kernel_rfl) run_eq (fun ls a _ e hg=>nY ls a e hg)
def fa (a0:List aP)(a1:Int):-1<=md a0 a1/\md a0 a1<(a0.length:Int):=by
 refine iO ?_ _ _
 all_goals
  intro i x s b h
  revert h
  simp only [Bool.cond_eq_ite]
  repeat' split
  all_goals (intro h;first | (cases h;rfl) | cases h)
def idx_eq (a0:List aP)(a1:Int):md a0 a1=jE (fun y=>Z225.md y a1) 0 a0:=iL
end Z226
namespace Z227
def F (x0:cZ)(x1:Int):aI:=(cond (x1<0) bV (call (Z226.R (x0.bM,x1)) fun v1=>ret v1))
def md (a0:ay)(a1:Int):Int:=(cond (a1<0) ((-1):Int) ((Z226.md a0.bM a1)))
def gd (a0:ay)(a1:Int):Prop:=(ay.Sm (2^21) a0)
def R:=cm gd md
def ak {a0 a1}(h:gd a0 a1):R ((ay.r a0),a1)=some (md a0 a1):=cq h
def aT:=CN [.agg zG,pI] oI RT.dec R
def aY (a0)(a1)(H0:gd a0 a1):F (ay.r a0) a1=ret (md a0 a1):=by
 refine bs (fun _=>rfl) (fun c1=>?_)
 exact ct (Z226.ak H0) fz
def af:cz 193 aT:=W2 11 F mix aC aY (cD Z226.af) Tryz.func193
def fa (a0:ay)(a1:Int):-1<=md a0 a1/\md a0 a1<(a0.bM.length:Int):=by
 unfold md
 have:=Z226.fa a0.bM a1
 cases decide (a1<0)
 ·exact this
 ·simp only [aZ];omega
def br (a0:ay)(a1:Int):md a0 a1=Z106.md a0 a1:=by
 unfold md Z106.md
 rw [Z226.idx_eq]
 rw [kU (p:=fun y=>(Z105.md y==a1)&&decide (a1>=0)) (fun i x s=>by cases (Z105.md x==a1)<;>cases decide (a1>=0)<;>rfl)]
 have e:(fun y=>Z225.md y a1)=fun y=>Z105.md y==a1:=by
  funext y
  unfold Z225.md
  rw [Z224.br]
 have key:∀(xs:List aP) (i:Nat),jE (fun _=>false) i xs=-1:=by
  intro xs
  induction xs with
  | nil=>intro i;rfl
  | cons x xs ih=>intro i;unfold jE;exact ih _
 rw [e]
 by_cases h:a1<0
 ·rw [decide_eq_true h,decide_eq_false (show ¬a1>=0 by omega)]
  simp only [aZ,Bool.and_false,key]
 ·rw [decide_eq_false h,decide_eq_true (show a1>=0 by omega)]
  simp only [aX,Bool.and_true]
end Z227
namespace Z228
def F (x0:bK)(x1:List L):aI:=ret ((x0.aV==(sDec x1)))
def pats:List gK:=[.agg [.str,au,au,.sl 9],.ptr [.str]]
def res:RP:=.one (.rd (.bool))
def md (a0:ah)(a1:aE):Bool:=((a0.aV==a1))
def gd (a0:ah)(a1:aE):Prop:=True
def acc (ls:List L):bK×aE:=((bK.dec ls),(sDec (cI 1 (bE 4 ls))))
def R:(bK×aE)->Option Bool:=cm gd md
def ak {a0 a1}(h:gd a0 a1):R ((ah.r a0),a1)=some (md a0 a1):=cq h
def aT:gh:=CN pats res acc R
def aY (a0:ah)(a1:aE)(p1:List L)(e1:a1=(sDec p1))(hg:gd a0 a1):F (ah.r a0) p1=ret ((md a0 a1):Bool):=by
 unfold F md
 simp only [SS,<-e1]
def nY (ls:List L)(a:ah×aE)(e:acc ls=Im.im a)(hg:(p2 gd) a):∃n:Nat,F (bK.dec ls) (cI 1 (bE 4 ls))=ret (Im.im ((u2 md) a)):=by
 have e0:(ah.r a.1)=(bK.dec ls):=(congrArg (fun x=>x.1) e.symm)
 have hn:=aY a.1 a.2 (cI 1 (bE 4 ls)) (congrArg (fun x=>x.2) e.symm) hg
 refine ⟨0,?_⟩
 rw [<-e0]
 exact hn
def af:cz 297 aT:=VP (live:=fun _=>[]) (nt:=8) (accr:=fun ls=>((bK.dec ls),(cI 1 (bE 4 ls)))) (run:=fun _ x=>F x.1 x.2) mix aC .nil Tryz.func297 (by kernel_rfl) (fun _ _=>by kernel_rfl) (fun ls a _ e hg=>nY ls a e hg)
end Z228
namespace Z229
inductive Pt where
 | p0 (a:aB) (b:List L) (c d:Int)
def pid:Pt->Nat
 | .p0 ..=>2
def cu:Pt->List V
 | .p0 a b c d=>[.sl none 38 a,.fn 297 [.dQ none [.str] b 0],.int .i64 c,.int .i64 d]
def cR:Pt->List aW
 | .p0 a b c d=>[]
def step (J:Pt->aI):Pt->aI
 | .p0 a b c d=>(cond (d<c) (m2 d (a.length:Int) (call (Z228.R ((bK.at a (toNat d)),(sDec b))) fun v1=>(cond v1 (ret (d:Int)) (J (.p0 a b c (i64.wrap (d+1))))))) bV)
def start (J:Pt->aI)(x0:aB)(x1:List L):aI:=J (.p0 x0 x1 x0.length 0)
def live:Nat->Live:=fK [(2,gj [0,1,7,8])]
def pats:List gK:=[.rd (.sl 38),.fn 297 [[.str]]]
def res:RP:=.one (.rd (.int .i64))
abbrev E:Env:={ T:=assoc lC,G:=dK [(297,Z228.aT)],nt:=19 }
def step_eq (I:cJ)(p:Pt):dh E live I (pid p) (bI Tryz.f296) (fU (live (pid p)) (cu p) (cR p)) (cG E Tryz.f296 res)=step (fun q=>I (pid q) (cu q) (cR q)) p:=by
 cases p<;>kernel_rfl
def start_eq (I:cJ)(ls:List L):fH E live I (bI Tryz.f296) (dF pats ls) (cG E Tryz.f296 res)=start (fun q=>I (pid q) (cu q) (cR q)) (dc ls) (cI 1 (bE 1 ls)):=by kernel_rfl
def run_eq (n:Nat)(ls:List L):eY E live Tryz.f296 res n (dF pats ls)=start (iter step n) (dc ls) (cI 1 (bE 1 ls)):=cB (id:=pid) (vs:=cu) (hs:=cR) (step:=step) (start:=fun J=>start J (dc ls) (cI 1 (bE 1 ls))) step_eq (fun I=>start_eq I ls) n
def md (a0:List ah)(a1:aE):Int:=(ep (S:=Unit) (β:=Int) (fun i1 y1 s3=>(cond (Z228.md y1 a1) (.inr (i1)) (.inl ()))) (fun s3=>((-1):Int)) 0 a0 ())
def gd (a0:List ah)(a1:aE):Prop:=(bN (2^21) (fun y:ah=>ah.Sm (2^21) y) a0)
def acc (ls:List L):aB×aE:=((dc ls),(sDec (cI 1 (bE 1 ls))))
def R:(aB×aE)->Option Int:=cm gd md
def ak {a0 a1}(h:gd a0 a1):R ((a0.map ah.row),a1)=some (md a0 a1):=cq h
def aT:gh:=CN pats res acc R
def aY (a0:List ah)(a1:aE)(p1:List L)(e1:a1=(sDec p1))(H0:gd a0 a1):∃n,start (iter step n) (a0.map ah.row) p1=ret ((md a0 a1):Int):=by
 have Bh2:=bl H0
 refine ex_eq (dw (z:=ah.zero)) (eo (p:=Pt.p0 (a0.map ah.row) p1 (a0.length:Int) 0) fz ?_)
 refine cw (pt:=fun (i1:Nat) (s3:Unit)=>Pt.p0 (a0.map ah.row) p1 (a0.length:Int) (i1:Int)) (fun _ _=>True) (fun J i1 s3 h2 hih2=>?_) (fun s3 hih2=>?_) trivial
 ·simp only [step,SS,<-e1]
  refine bp.yes dt (bp.yes aD ?_)
  refine bp.yes (aK h2) (cr (Z228.ak trivial) ?_)
  refine bp.bif (fun c4=>bp.inr fz) (fun c4=>?_)
  refine bp.inl trivial ?_
  rw [aH h2 Bh2]
 ·simp only [step,SS,<-e1]
  refine dO dn (⟨0,?_⟩)
  exact fz
def nY (ls:List L)(a:List ah×aE)(e:acc ls=Im.im a)(hg:(p2 gd) a):∃n:Nat,start (iter step n) ((dc ls)) (cI 1 (bE 1 ls))=ret (Im.im ((u2 md) a)):=by
 have e0:(a.1.map ah.row)=(dc ls):=(congrArg (fun x=>x.1) e.symm)
 obtain ⟨n,hn⟩:=aY a.1 a.2 (cI 1 (bE 1 ls)) (congrArg (fun x=>x.2) e.symm) hg
 refine ⟨n,?_⟩
 rw [<-e0]
 exact hn
def af:cz 296 aT:=VP (accr:=fun ls=>((dc ls),(cI 1 (bE 1 ls)))) (run:=fun n x=>start (iter step n) x.1 x.2) mix aC (cD Z228.af) Tryz.func296 (by kernel_rfl) run_eq (fun ls a _ e hg=>nY ls a e hg)
end Z229
namespace Z230
def F (x0:aB)(x1:aE):aI:=(call (Z229.R (x0,x1)) fun v1=>ret v1)
def md (a0:List ah)(a1:aE):Int:=((Z229.md a0 a1))
def gd (a0:List ah)(a1:aE):Prop:=(bN (2^21) (fun y:ah=>ah.Sm (2^21) y) a0)
def R:=cm gd md
def ak {a0 a1}(h:gd a0 a1):R ((a0.map ah.row),a1)=some (md a0 a1):=cq h
def aT:=CN [pL 38,pS] oI RT.dec R
def aY (a0)(a1)(H0:gd a0 a1):F (a0.map ah.row) a1=ret (md a0 a1):=ct (Z229.ak H0) fz
def af:cz 247 aT:=W2 8 F mix aC aY (cD Z229.af) Tryz.func247
def fa (a0:List ah)(a1:aE):-1<=md a0 a1/\md a0 a1<(a0.length:Int):=by
 refine iO ?_ _ _
 all_goals
  intro i x s b h
  revert h
  simp only [Bool.cond_eq_ite]
  repeat' split
  all_goals (intro h;first | (cases h;rfl) | cases h)
def br (a0:List ah)(a1:aE):md a0 a1=Z107.md a0 a1:=by
 unfold md Z107.md
 rfl
end Z230
namespace Z231
inductive Pt where
 | p0 (a:aB) (b:Int) (c:aB)
 | p1 (a:Int) (b c:aB)
def cu:Pt->List V
 | .p0 a b c=>[.sl none 3 a,.int .i64 b,.own 0]
 | .p1 a b c=>[.own 0,.int .i64 a,.own 1]
def cR:Pt->List aW
 | .p0 a b c=>[.row 3 c]
 | .p1 a b c=>[.row 3 b,.row 3 c]
def step (J:Pt->aI):Pt->aI
 | .p0 a b c=>(cond ((a.length:Int)>1) (cond ((oN .i64 b 1)<(a.length:Int)) (bY ((0:Int)<=(oN .i64 b 1)) (bY ((oN .i64 b 1)<(a.length:Int)) (bY (fJ (((c.length:Int)+1)*8)) (call (Z218.R a) fun v1=>J (.p1 (i64.wrap (Int.tdiv b 2)) v1 (c++[[L.int (kr a (toNat (oN .i64 b 1)))]])))))) (call (Z218.R a) fun v2=>J (.p1 (i64.wrap (Int.tdiv b 2)) v2 c))) (ret (c:aB)))
 | .p1 a b c=>(cond ((b.length:Int)>1) (cond ((oN .i64 a 1)<(b.length:Int)) (bY ((0:Int)<=(oN .i64 a 1)) (bY ((oN .i64 a 1)<(b.length:Int)) (bY (fJ (((c.length:Int)+1)*8)) (call (Z218.R b) fun v1=>J (.p1 (i64.wrap (Int.tdiv a 2)) v1 (c++[[L.int (kr b (toNat (oN .i64 a 1)))]])))))) (call (Z218.R b) fun v2=>J (.p1 (i64.wrap (Int.tdiv a 2)) v2 c))) (ret (c:aB)))
def start (J:Pt->aI)(x0:aB)(x1:Int):aI:=(call (Z156.R (x1,0,(i64.wrap (x0.length - 1)))) fun v1=>(cond (!v1) (ret ([]:aB)) (J (.p0 x0 x1 []))))
def live:Nat->Live:=fK [(4,[(0,none),(1,none),(5,some 3)])]
def Dr (b:Nat)(h:b<2^40):oN .i64 (b:Int) 1=((Z108.xh b:Nat):Int):=by
 have e1:(BitVec.ofInt 64 (b:Int)).toNat=b:=by simp [BitVec.toNat_ofInt];omega
 have e2:(BitVec.ofInt 64 (1:Int)).toNat=1:=by decide
 have e3:(b ^^^ 1)=Z108.xh b:=by
  have a1:(b ^^^ 1) % 2=(b+1) % 2:=by
   have h:=Nat.xor_mod_two_pow (a:=b) (b:=1) (n:=1)
   rw [Nat.pow_one,show (1:Nat) % 2=1 from rfl] at h
   rcases Nat.mod_two_eq_zero_or_one b with e | e
   ·rw [e,show (0:Nat) ^^^ 1=1 from rfl] at h;omega
   ·rw [e,show (1:Nat) ^^^ 1=0 from rfl] at h;omega
  have a2:(b ^^^ 1) / 2=b / 2:=by rw [Nat.xor_div_two];simp
  unfold Z108.xh;split<;>omega
 show i64.wrap (((BitVec.ofInt 64 (b:Int) ^^^ BitVec.ofInt 64 1).toNat:Nat):Int)=_
 rw [BitVec.toNat_xor,e1,e2,e3,wi _ (by unfold Z108.xh;split<;>omega)]
def md (a0:List Int)(a1:Int):List Int:=Z108.md a0 a1
def gd (a0:List Int)(a1:Int):Prop:=bN (2^38) (fun y:Int=>True) a0
def R:=cm gd md
def ak {a0 a1}(h:gd a0 a1):R ((a0.map bt),a1)=some ((md a0 a1).map bt):=cq h
def aT:=CN [pL 3,pI] (oL 3) RT.dec R
def aY (a0)(a1)(hg:gd a0 a1):∃n,start (iter step n) (a0.map bt) a1=ret ((md a0 a1).map bt):=by
 have one:∀(i:Nat) (l c r:List Int) (n:Nat),bN (2^38) (fun y:Int=>True) l->i<2^40->c.length<2^40->(if l.length>1 then iter step n (Pt.p1 ((i / 2:Nat):Int) ((Z99.up l).map bt) ((Z108.xd i l c).map bt))=ret (r.map bt) else c=r)->
   step (iter step n) (Pt.p0 (l.map bt) (i:Int) (c.map bt))=ret (r.map bt)/\step (iter step n) (Pt.p1 (i:Int) (l.map bt) (c.map bt))=ret (r.map bt):=by
  intro i l c r n hl hi hc h
  have hs:=Dr i hi
  have hd:=Z108.half i hi
  refine ⟨?_,?_⟩
  all_goals
   simp only [step,MM,List.length_map,iC,hs,hd,cM]
   by_cases h1:l.length>1
   ·rw [if_pos h1] at h
    rw [decide_eq_true (show (l.length:Int)>1 by omega),aZ]
    by_cases h2:Z108.xh i<l.length
    ·rw [Z108.xd,if_pos h2,List.map_append] at h
     rw [decide_eq_true (show ((Z108.xh i:Nat):Int)<(l.length:Int) by omega),aZ,decide_eq_true (show (0:Int)<=((Z108.xh i:Nat):Int) by omega),aZ,aZ,iV (by omega),aZ]
     exact aU _ (Z218.ak hl) h
    ·rw [Z108.xd,if_neg h2] at h
     rw [decide_eq_false (show ¬((Z108.xh i:Nat):Int)<(l.length:Int) by omega),aX]
     exact aU _ (Z218.ak hl) h
   ·rw [if_neg h1] at h
    rw [decide_eq_false (show ¬(l.length:Int)>1 by omega),aX,h]
 have key:∀(k i:Nat) (l c:List Int),bN (2^38) (fun y:Int=>True) l->l.length<=k->i<2^40->c.length+k<2^40->
   ∃n,step (iter step n) (Pt.p0 (l.map bt) (i:Int) (c.map bt))=ret ((Z108.AL k i l c).map bt)/\step (iter step n) (Pt.p1 (i:Int) (l.map bt) (c.map bt))=ret ((Z108.AL k i l c).map bt):=by
  intro k
  induction k with
  | zero=>intro i l c hl hk hi hc;exact ⟨0,one i l c _ 0 hl hi (by omega) (by rw [if_neg (by omega)];rfl)⟩
  | succ k ih=>
   intro i l c hl hk hi hc
   unfold Z108.AL
   by_cases h1:l.length>1
   ·have hu:=Z99.lK l
    have hl1:=hl.1
    have h2:(Z108.xd i l c).length<=c.length+1:=by unfold Z108.xd;split<;>simp
    obtain ⟨n,_,hn⟩:=ih (i / 2) (Z99.up l) (Z108.xd i l c) ⟨by omega,fun _ _=>trivial⟩ (by omega) (by omega) (by omega)
    rw [if_pos h1]
    exact ⟨n+1,one i l c _ (n+1) hl hi (by omega) (by rw [if_pos h1];exact hn)⟩
   ·rw [if_neg h1]
    exact ⟨0,one i l c _ 0 hl hi (by omega) (by rw [if_neg h1])⟩
 unfold start md Z108.md
 simp only [List.length_map]
 have hlen:=hg.1
 cases h:Z59.md a1 0 (i64.wrap ((a0.length:Int) - 1))
 ·exact ⟨0,aU false (by rw [<-h,<-Z156.br];exact Z156.ak trivial) rfl⟩
 ·have hh:=h
  rw [wi _ (by omega)] at hh
  simp [Z59.md] at hh
  obtain ⟨i,rfl⟩:=Int.eq_ofNat_of_zero_le hh.1
  obtain ⟨n,hn,_⟩:=key a0.length i a0 [] hg (Nat.le_refl _) (by omega) (by simp only [List.length_nil];omega)
  exact ⟨n+1,aU true (by rw [<-h,<-Z156.br];exact Z156.ak trivial) hn⟩
def af:cz 298 aT:=L2 36 (fun _=>4) cu cR live step start mix aC aY (eP Z156.af Z218.af) Tryz.func298
def len (a0:List Int)(a1:Int):(md a0 a1).length<=a0.length:=by
 intros;unfold md Z108.md
 cases Z59.md _ 0 _
 ·exact zero_le _
 ·exact le_trans (Z108.uF _ _ _ _) (by simp)
def br (a0:List Int)(a1:Int):md a0 a1=Z108.md a0 a1:=by
 unfold md Z108.md
 simp only [Z156.br,Z218.br]
end Z231
namespace Z232
def F (x0:aB)(x1:aE):aI:=(call (Z230.R (x0,x1)) fun v1=>(cond (v1<0) (ret (((⟨0,[]⟩),false):dX×Bool)) (call (Z215.R x0) fun v2=>(call (Z231.R (v2,v1)) fun v3=>ret (((⟨v1,v3⟩),true):dX×Bool)))))
def md (a0:List ah)(a1:aE):aL×Bool:=(cond ((Z230.md a0 a1)<0) ((⟨0,[]⟩),false) ((⟨(Z230.md a0 a1),(Z231.md (Z215.md a0) (Z230.md a0 a1))⟩),true))
def gd (a0:List ah)(a1:aE):Prop:=(bN (2^21) (fun y:ah=>ah.Sm (2^21) y) a0)
def R:=cm gd md
def ak {a0 a1}(h:gd a0 a1):R ((a0.map ah.row),a1)=some ((aL.r (md a0 a1).1),(md a0 a1).2):=cq h
def aT:=CN [pL 38,pS] (.iS [(true,f122),(false,[fB])]) RT.dec R
def aY (a0)(a1)(H0:gd a0 a1):F (a0.map ah.row) a1=ret ((aL.r (md a0 a1).1),(md a0 a1).2):=by
 refine ct (Z230.ak H0) (ec (fun b:aL×Bool=>ret (((aL.r b.1),b.2):dX×Bool)) (fun c1=>fz) (fun c1=>?_))
 refine ct (Z215.ak H0) (ct (Z231.ak ⟨(have:=Z215.len a0;have:=(H0).1;om),fun _ _=>trivial⟩) ?_)
 exact fz
def af:cz 248 aT:=W2 19 F mix aC aY (kC Z230.af Z215.af Z231.af) Tryz.func248
def iR {a0:List ah}{a1:aE}(hg:gd a0 a1):aL.Sm (2^21) ((md a0 a1).1):=by
 unfold gd at hg;unfold md
 cases decide (Z230.md a0 a1<0)
 ·refine ⟨?_,fun _ _=>trivial⟩
  have h:=Z231.len (Z215.md a0) (Z230.md a0 a1)
  rw [Z215.len] at h
  exact le_trans h hg.1
 ·exact bN.nil
def br (a0:List ah)(a1:aE):md a0 a1=Z109.md a0 a1:=by
 unfold md Z109.md
 simp only [Z230.br,Z215.br,Z231.br]
end Z232
namespace Z233
inductive Pt where
 | p0 (a:aE) (b:Int) (c:aB) (d e:Int)
def cu:Pt->List V
 | .p0 a b c d e=>[.str a,.int .i64 b,.sl none 38 c,.int .i64 d,.int .i64 e]
def step (J:Pt->aI):Pt->aI
 | .p0 a b c d e=>(cond (e<d) (m2 e (c.length:Int) (call (Z209.R ((bK.at c (toNat e)).aV,a)) fun v1=>(cond (v1<0) (J (.p0 a (i64.wrap (b+1)) c d (i64.wrap (e+1)))) (J (.p0 a b c d (i64.wrap (e+1))))))) (ret (b:Int)))
def start (J:Pt->aI)(x0:aB)(x1:aE):aI:=J (.p0 x1 0 x0 x0.length 0)
def live:Nat->Live:=fK [(3,gj [1,5,8,9,10])]
def md (a0:List ah)(a1:aE):Int:=(eJ (S:=Int) (β:=Int) (fun y1 s3=>(cond ((Z209.md (y1.aV) a1)<0) (.inl (i64.wrap (s3+1))) (.inl s3))) (fun s3=>s3) a0 0)
def gd (a0:List ah)(a1:aE):Prop:=(bN (2^21) (fun y:ah=>ah.Sm (2^21) y) a0)
def R:=cm gd md
def ak {a0 a1}(h:gd a0 a1):R ((a0.map ah.row),a1)=some (md a0 a1):=cq h
def aT:=CN [pL 38,pS] oI RT.dec R
def aY (a0)(a1)(H0:gd a0 a1):∃n,start (iter step n) (a0.map ah.row) a1=ret (md a0 a1):=by
 have Bh2:=bl H0
 refine ex_eq (fu (z:=ah.zero)) (eo (p:=Pt.p0 a1 0 (a0.map ah.row) (a0.length:Int) 0) fz ?_)
 refine cw (pt:=fun (i1:Nat) (s3:Int)=>Pt.p0 a1 s3 (a0.map ah.row) (a0.length:Int) (i1:Int)) (fun _ _=>True) (fun J i1 s3 h2 hih2=>?_) (fun s3 hih2=>?_) trivial
 ·simp only [step,SS]
  refine bp.yes dt (bp.yes aD ?_)
  refine bp.yes (aK h2) (cr (Z209.ak trivial) ?_)
  refine bp.bif (fun c4=>?_) (fun c4=>?_)
  ·refine bp.inl trivial ?_
   rw [aH h2 Bh2]
  ·refine bp.inl trivial ?_
   rw [aH h2 Bh2]
 ·simp only [step,SS]
  refine dO dn (⟨0,?_⟩)
  exact fz
def af:cz 301 aT:=L2 23 (fun _=>3) cu (fun _=>[]) live step start mix aC aY (cD Z209.af) Tryz.func301
def fa (a0:List ah)(a1:aE):a0.length<=2^21->0<=md a0 a1/\md a0 a1<=(a0.length:Int):=fun hl=>by
 have key:∀(xs:List ah) (s:Int),0<=s->s+xs.length<=2^22->0<=eJ (S:=Int) (β:=Int) (fun (y1:ah) (s3:Int)=>(cond ((Z209.md (y1.aV) a1)<0) (.inl (i64.wrap (s3+1))) (.inl s3))) (fun (s3:Int)=>(s3:Int)) xs s/\eJ (S:=Int) (β:=Int) (fun (y1:ah) (s3:Int)=>(cond ((Z209.md (y1.aV) a1)<0) (.inl (i64.wrap (s3+1))) (.inl s3))) (fun (s3:Int)=>(s3:Int)) xs s<=s+xs.length:=by
  intro xs
  induction xs with
  | nil=>intro s h0 h1;exact ⟨h0,by simp [eJ]⟩
  | cons x xs ih=>
   intro s h0 h1
   simp only [List.length_cons] at h1 ⊢
   unfold eJ
   cases decide (Z209.md x.aV a1<0)
   ·have:=ih s h0 (by omega)
    simp only [aX]
    omega
   ·have:=ih (s+1) (by omega) (by omega)
    simp only [aZ]
    rw [wi _ (by omega)]
    omega
 have:=key a0 0 (Int.le_refl _) (by omega)
 unfold md
 omega
def br (a0:List ah)(a1:aE):md a0 a1=Z110.md a0 a1:=by
 unfold md Z110.md
 simp only [Z209.br]
end Z233
namespace Z234
def F (x0:aB)(x1:aE):aI:=(call (Z210.R x0) fun v1=>(cond (!v1) (ret (((⟨0,(⟨(⟨#[]⟩:aE),0,0,[]⟩),(⟨(⟨#[]⟩:aE),0,0,[]⟩),(⟨0,[]⟩),(⟨0,[]⟩)⟩),false):ff×Bool)) (call (Z157.R x1) fun v2=>(cond (!v2) (ret (((⟨0,(⟨(⟨#[]⟩:aE),0,0,[]⟩),(⟨(⟨#[]⟩:aE),0,0,[]⟩),(⟨0,[]⟩),(⟨0,[]⟩)⟩),false):ff×Bool)) (call (Z230.R (x0,x1)) fun v3=>(cond (v3>=0) (ret (((⟨0,(⟨(⟨#[]⟩:aE),0,0,[]⟩),(⟨(⟨#[]⟩:aE),0,0,[]⟩),(⟨0,[]⟩),(⟨0,[]⟩)⟩),false):ff×Bool)) (call (Z233.R (x0,x1)) fun v4=>(cond (v4>0) (bY ((0:Int)<=(i64.wrap (v4 - 1))) (bY ((i64.wrap (v4 - 1))<x0.length) (call (Z148.R (bK.at x0 (toNat (i64.wrap (v4 - 1))))) fun v5=>(call (Z232.R (x0,v5.aV)) fun v6=>(cond (v4<x0.length) (m2 v4 x0.length (call (Z148.R (bK.at x0 (toNat v4))) fun v7=>(call (Z232.R (x0,v7.aV)) fun v8=>ret (((⟨v4,v5,v7,v6.1,v8.1⟩),true):ff×Bool)))) (ret (((⟨v4,v5,(⟨(⟨#[]⟩:aE),0,0,[]⟩),v6.1,(⟨0,[]⟩)⟩),true):ff×Bool))))))) (cond (v4<x0.length) (m2 v4 x0.length (call (Z148.R (bK.at x0 (toNat v4))) fun v9=>(call (Z232.R (x0,v9.aV)) fun v10=>ret (((⟨v4,(⟨(⟨#[]⟩:aE),0,0,[]⟩),v9,(⟨0,[]⟩),v10.1⟩),true):ff×Bool)))) (ret (((⟨v4,(⟨(⟨#[]⟩:aE),0,0,[]⟩),(⟨(⟨#[]⟩:aE),0,0,[]⟩),(⟨0,[]⟩),(⟨0,[]⟩)⟩),true):ff×Bool)))))))))))
def md (a0:List ah)(a1:aE):bL×Bool:=(cond (!(Z210.md a0)) ((⟨0,(⟨((⟨#[]⟩:aE)),0,0,[]⟩),(⟨((⟨#[]⟩:aE)),0,0,[]⟩),(⟨0,[]⟩),(⟨0,[]⟩)⟩),false) (cond (!(Z157.md a1)) ((⟨0,(⟨((⟨#[]⟩:aE)),0,0,[]⟩),(⟨((⟨#[]⟩:aE)),0,0,[]⟩),(⟨0,[]⟩),(⟨0,[]⟩)⟩),false) (cond ((Z230.md a0 a1)>=0) ((⟨0,(⟨((⟨#[]⟩:aE)),0,0,[]⟩),(⟨((⟨#[]⟩:aE)),0,0,[]⟩),(⟨0,[]⟩),(⟨0,[]⟩)⟩),false) (cond ((Z233.md a0 a1)>0) (cond ((Z233.md a0 a1)<a0.length) ((⟨(Z233.md a0 a1),(a0.getD (toNat (i64.wrap ((Z233.md a0 a1) - 1))) ah.zero),(a0.getD (toNat (Z233.md a0 a1)) ah.zero),(Z232.md a0 ((a0.getD (toNat (i64.wrap ((Z233.md a0 a1) - 1))) ah.zero).aV)).1,(Z232.md a0 ((a0.getD (toNat (Z233.md a0 a1)) ah.zero).aV)).1⟩),true) ((⟨(Z233.md a0 a1),(a0.getD (toNat (i64.wrap ((Z233.md a0 a1) - 1))) ah.zero),(⟨((⟨#[]⟩:aE)),0,0,[]⟩),(Z232.md a0 ((a0.getD (toNat (i64.wrap ((Z233.md a0 a1) - 1))) ah.zero).aV)).1,(⟨0,[]⟩)⟩),true)) (cond ((Z233.md a0 a1)<a0.length) ((⟨(Z233.md a0 a1),(⟨((⟨#[]⟩:aE)),0,0,[]⟩),(a0.getD (toNat (Z233.md a0 a1)) ah.zero),(⟨0,[]⟩),(Z232.md a0 ((a0.getD (toNat (Z233.md a0 a1)) ah.zero).aV)).1⟩),true) ((⟨(Z233.md a0 a1),(⟨((⟨#[]⟩:aE)),0,0,[]⟩),(⟨((⟨#[]⟩:aE)),0,0,[]⟩),(⟨0,[]⟩),(⟨0,[]⟩)⟩),true))))))
def gd (a0:List ah)(a1:aE):Prop:=(bN (2^21) (fun y:ah=>ah.Sm (2^21) y) a0)/\(a1.size<=(2^21))
def R:=cm gd md
def ak {a0 a1}(h:gd a0 a1):R ((a0.map ah.row),a1)=some ((bL.r (md a0 a1).1),(md a0 a1).2):=cq h
def aT:=CN [pL 38,pS] (.iS [(true,f124),(false,[fB])]) RT.dec R
def aY (a0)(a1)(hg:gd a0 a1):F (a0.map ah.row) a1=ret ((bL.r (md a0 a1).1),(md a0 a1).2):=by
 obtain ⟨H0,H1⟩:=hg
 unfold F md
 simp only [SS]
 refine ct (Z210.ak H0) (ec (fun b:bL×Bool=>ret (((bL.r b.1),b.2):ff×Bool)) (fun c1=>fz) (fun c1=>?_))
 refine ct (Z157.ak (le_trans H1 (by decide))) (ec (fun b:bL×Bool=>ret (((bL.r b.1),b.2):ff×Bool)) (fun c2=>fz) (fun c2=>?_))
 refine ct (Z230.ak H0) (ec (fun b:bL×Bool=>ret (((bL.r b.1),b.2):ff×Bool)) (fun c3=>fz) (fun c3=>?_))
 refine ct (Z233.ak H0) ?_
 have fv4_:=Z233.fa a0 a1
 refine ec (fun b:bL×Bool=>ret (((bL.r b.1),b.2):ff×Bool)) (fun c4=>?_) (fun c4=>?_)
 ·have dc4:=c4
  simp only [DC] at dc4
  refine aj (have:=(H0).1;dt) (aj (have:=(H0).1;have:=(H0).1;dt) ?_)
  refine ct (Z148.ak (bN.getD H0 (by have:=(H0).1;first | assumption | omega | (simp (disch:=omega) only [wi];omega) | (simp;omega)))) (ct (Z232.ak H0) ?_)
  refine ec (fun b:bL×Bool=>ret (((bL.r b.1),b.2):ff×Bool)) (fun c5=>?_) (fun c5=>fz)
  have dc5:=c5
  simp only [DC] at dc5
  refine aj dt (aj (have:=(H0).1;have:=(H0).1;dt) ?_)
  refine ct (Z148.ak (bN.getD H0 (by have:=(H0).1;first | assumption | omega | (simp (disch:=omega) only [wi];omega) | (simp;omega)))) (ct (Z232.ak H0) ?_)
  exact fz
 ·refine ec (fun b:bL×Bool=>ret (((bL.r b.1),b.2):ff×Bool)) (fun c6=>?_) (fun c6=>fz)
  have dc6:=c6
  simp only [DC] at dc6
  refine aj (have:=(H0).1;dt) (aj (have:=(H0).1;have:=(H0).1;dt) ?_)
  refine ct (Z148.ak (bN.getD H0 (by have:=(H0).1;first | assumption | omega | (simp (disch:=omega) only [wi];omega) | (simp;omega)))) (ct (Z232.ak H0) ?_)
  exact fz
def af:cz 249 aT:=W2 68 F mix aC aY (AD Z210.af Z157.af Z230.af Z233.af Z148.af Z232.af) Tryz.func249
def iR {a0:List ah}{a1:aE}(hg:gd a0 a1):bL.Sm (2^21) ((md a0 a1).1):=by
 unfold gd at hg;unfold md
 have ez:ah.Sm (2^21) ⟨⟨#[]⟩,0,0,[]⟩:=⟨zero_le _,bN.nil⟩
 have pz:aL.Sm (2^21) ⟨0,[]⟩:=bN.nil
 have he:∀i,ah.Sm (2^21) (a0.getD i ah.zero):=fun i=>bN.sW hg.1 ez
 have hp:∀x,aL.Sm (2^21) (Z232.md a0 x).1:=fun x=>Z232.iR hg.1
 simp only [Bool.cond_eq_ite]
 repeat' split
 all_goals (refine ⟨?_,?_,?_,?_⟩<;>first | exact he _ | exact hp _ | exact ez | exact pz)
def br (a0:List ah)(a1:aE):md a0 a1=Z111.md a0 a1:=by
 unfold md Z111.md
 simp only [Z210.br,Z157.br,Z230.br,Z233.br,Z232.br]
end Z234
end Go.DM
end
