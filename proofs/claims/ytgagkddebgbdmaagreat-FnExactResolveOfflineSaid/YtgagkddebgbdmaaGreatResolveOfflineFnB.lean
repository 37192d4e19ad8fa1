/- What the functions compute that the law reaches, and that the law returns true. Conditions: none. -/
import Derived.Test.YtgagkddebgbdmaaGreatResolveOfflineTy
import Derived.Test.YtgagkddebgbdmaaGreatResolveOfflineFnA
set_option linter.all false
set_option maxRecDepth 100000
noncomputable section
namespace Go.DM
open Go.Proofs
open Go.IntKind (i64)
open Int (toNat)
open Nat (le_trans zero_le)
namespace Z110
def F (x0:bu)(x1:aD):aI:=(call (Z42.R x0) fun v1=>(call (Z108.R (x0,x1)) fun v2=>(cond (v2==1) (cond ((x0.aL.length:Int)>=8) (ret ((v1,6):bu×Int)) (call (Z40.R x1) fun v3=>(cg (eX ((v1.aL.length+1)*24)) (ret (((⟨(v1.aL++[[L.sl v3]]),v1.bp⟩),v2):bu×Int))))) (cond (v2==3) (cg ((0:Int)<x1.length) (call (Z105.R (x0,(aY.at x1 0).an.bw)) fun v4=>(call (Z40.R x1) fun v5=>(m2 v4 v1.aL.length (ret (((⟨(List.set v1.aL (toNat v4) [L.sl v5]),v1.bp⟩),v2):bu×Int)))))) (cond (v2==5) (cg ((0:Int)<x1.length) (call (Z105.R (x0,(aY.at x1 0).an.bw)) fun v6=>(m2 v6 x0.aL.length (call (Z109.R ((qd x0.aL (toNat v6)),x1)) fun v7=>(cond v7.2 (cond ((x0.bp.length:Int)<8) (cg (eX ((v1.bp.length+1)*600)) (ret (((⟨v1.aL,(v1.bp++[(bM.enc v7.1)])⟩),v2):bu×Int))) (ret ((v1,v2):bu×Int))) (ret ((v1,v2):bu×Int))))))) (ret ((v1,v2):bu×Int)))))))
def md (a0:av)(a1:List aa):av×Int:=(cond ((Z108.md a0 a1)==1) (cond ((a0.aL.length:Int)>=8) (a0,6) ((⟨(a0.aL++[a1]),a0.bp⟩),(Z108.md a0 a1))) (cond ((Z108.md a0 a1)==3) ((⟨(List.set a0.aL (toNat (Z105.md a0 (((a1.getD 0 aa.zero).an).bw))) a1),a0.bp⟩),(Z108.md a0 a1)) (cond ((Z108.md a0 a1)==5) (cond ((Z109.md (a0.aL.getD (toNat (Z105.md a0 (((a1.getD 0 aa.zero).an).bw))) []) a1).2) (cond ((a0.bp.length:Int)<8) ((⟨a0.aL,(a0.bp++[(Z109.md (a0.aL.getD (toNat (Z105.md a0 (((a1.getD 0 aa.zero).an).bw))) []) a1).1])⟩),(Z108.md a0 a1)) (a0,(Z108.md a0 a1))) (a0,(Z108.md a0 a1))) (a0,(Z108.md a0 a1)))))
def gd (a0:av)(a1:List aa):Prop:=(av.Sm (2^21) a0)/\(bO (2^21) (fun y:aa=>aa.Sm (2^21) y) a1)
def R:=RR (p2 gd) (u2 md)
def aj {a0 a1}(h:gd a0 a1):R ((av.r a0),(a1.map aa.row))=some ((av.r (md a0 a1).1),(md a0 a1).2):=cB h
def aU:=CN [.agg uY,pL 178] (.iL [(true,f36),(false,[fI])]) RT.dec R
def bh (a0)(a1)(hg:gd a0 a1):F (av.r a0) (a1.map aa.row)=ret ((av.r (md a0 a1).1),(md a0 a1).2):=by
 obtain ⟨H0,H1⟩:=hg
 refine ct (Z42.aj H0) ?_
 simp only [SS]
 refine ct (Z108.aj ⟨H0,H1⟩) ?_
 have fv2_:=Z108.fa a0 a1
 refine bt (fun b:av×Int=>ret (((av.r b.1),b.2):bu×Int)) (fun c1=>?_) (fun c1=>?_)
 ·refine bt (fun b:av×Int=>ret (((av.r b.1),b.2):bu×Int)) (fun c2=>fz) (fun c2=>?_)
  refine ct (Z40.aj H1) (ak (have:=(H0.1).1;lm) ?_)
  exact fz
 ·refine bt (fun b:av×Int=>ret (((av.r b.1),b.2):bu×Int)) (fun c3=>?_) (fun c3=>?_)
  ·have dc3:=c3
   simp only [DC] at dc3
   refine ak dt (ct (Z105.aj H0) ?_)
   have fv4_:=Z105.fa a0 (((a1.getD 0 aa.zero).an).bw)
   refine ct (Z40.aj H1) (ak dt ?_)
   exact ak (have:=(H0.1).1;dt) fz
  ·refine bt (fun b:av×Int=>ret (((av.r b.1),b.2):bu×Int)) (fun c4=>?_) (fun c4=>fz)
   have dc4:=c4
   simp only [DC] at dc4
   refine ak dt (ct (Z105.aj H0) ?_)
   have fv6_:=Z105.fa a0 (((a1.getD 0 aa.zero).an).bw)
   refine ak dt (ak (have:=(H0.1).1;dt) ?_)
   refine ct (Z109.aj ⟨(bO.getD H0.1 (by omega)),H1⟩) (bt (fun b:av×Int=>ret (((av.r b.1),b.2):bu×Int)) (fun c5=>?_) (fun c5=>fz))
   exact bt (fun b:av×Int=>ret (((av.r b.1),b.2):bu×Int)) (fun c6=>ak (have:=(H0.2).1;lm) fz) (fun c6=>fz)
def af:cC 138 aU:=W2 77 F mix aB bh (xF Z42.af Z108.af Z40.af Z105.af Z109.af) Tryz.func138
def iF {a0:av}{a1:List aa}(hg:gd a0 a1):av.Sm (2^21) ((md a0 a1).1):=by
 unfold gd at hg;unfold md
 obtain ⟨⟨h1,h2⟩,h3⟩:=hg
 simp only [Bool.cond_eq_ite]
 repeat' split
 all_goals (try simp only [decide_eq_true_eq,ge_iff_le] at *)
 all_goals first
  | exact ⟨h1,h2⟩
  | exact ⟨bO.app (a:=7) (b:=1) ⟨by omega,h1.2⟩ (bO.one h3) (by decide),h2⟩
  | exact ⟨bO.set h1 h3,h2⟩
  | exact ⟨h1,bO.app (a:=7) (b:=1) ⟨by omega,h2.2⟩ (bO.one (Z109.iF ⟨bO.sZ h1 bO.nil,h3⟩)) (by decide)⟩
def Cz (c:List (List aa)):Nat:=eC (fun y:List aa=>eC (fun y:aa=>aa.size y) y) c
def Fz (c:List aF):Nat:=eC (fun y:aF=>aF.size y) c
def Be (X a1:List aa):aF.size (Z109.md X a1).1<=2*eC (fun y:aa=>aa.size y) X+eC (fun y:aa=>aa.size y) a1:=by
 unfold Z109.md
 cases Z78.md X
 ·exact zero_le _
 cases Z78.md a1
 ·exact zero_le _
 cases ((X.getD 0 aa.zero).an.bw != (a1.getD 0 aa.zero).an.bw)
 case true=>exact zero_le _
 cases h1:Z107.md X a1
 case true=>exact zero_le _
 cases h2:Z107.md a1 X
 case true=>exact zero_le _
 obtain ⟨h3,h4,_⟩:=Z109.mM h1 h2
 exact Z109.AO h3 h4
def grow (a0:av)(a1:List aa):Cz (md a0 a1).1.aL<=Cz a0.aL+(eC (fun y:aa=>aa.size y) a1+1)/\
  Fz (md a0 a1).1.bp<=Fz a0.bp+(2*Cz a0.aL+eC (fun y:aa=>aa.size y) a1+1):=by
 unfold md Cz Fz
 have hs:=uN (f:=fun y:List aa=>eC (fun y:aa=>aa.size y) y) a0.aL (toNat (Z105.md a0 ((a1.getD 0 aa.zero).an.bw))) a1
 have ha:=sE (f:=fun y:List aa=>eC (fun y:aa=>aa.size y) y) a0.aL a1
 have hk:=sE (f:=fun y:aF=>aF.size y) a0.bp (Z109.md (a0.aL.getD (toNat (Z105.md a0 ((a1.getD 0 aa.zero).an.bw))) []) a1).1
 have hf1:=Be (a0.aL.getD (toNat (Z105.md a0 ((a1.getD 0 aa.zero).an.bw))) []) a1
 have hg1:=kU (f:=fun y:List aa=>eC (fun y:aa=>aa.size y) y) (xs:=a0.aL) (i:=toNat (Z105.md a0 ((a1.getD 0 aa.zero).an.bw))) (z:=[]) rfl
 (try simp only at hs);(try simp only at ha);(try simp only at hk);(try simp only at hg1)
 simp only [Bool.cond_eq_ite]
 repeat' split
 all_goals constructor<;>(try simp only)<;>omega
end Z110
namespace Z111
def F (x0:dm)(x1:Int):aI:=(call (Z49.R (x1,x0.cL,x0.cF)) fun v1=>ret v1)
def md (a0:aE)(a1:Int):Bool:=((Z49.md a1 a0.cL a0.cF))
def gd (a0:aE)(a1:Int):Prop:=True
def R:=RR (p2 gd) (u2 md)
def aj {a0 a1}(h:gd a0 a1):R ((aE.r a0),a1)=some (md a0 a1):=cB h
def aU:=CN [.agg gB,pI] oB RT.dec R
def bh (a0)(a1)(hg:gd a0 a1):F (aE.r a0) a1=ret (md a0 a1):=ct (Z49.aj trivial) fz
def af:cC 153 aU:=W2 11 F mix aB bh (cJ Z49.af) Tryz.func153
end Z111
namespace Z112
inductive Pt where
 | p0 (a b c:Int) (d:aD) (e:Int)
def cG:Pt->List V
 | .p0 a b c d e=>[.int .i64 a,.int .i64 b,.int .i64 c,.sl none 3 d,.int .i64 e]
def step (J:Pt->aI):Pt->aI
 | .p0 a b c d e=>(cond (c>1) (cond ((Int.tmod b 2)==1) (cond (e>=(d.length:Int)) (ret ((0,false):Int×Bool)) (cond ((Int.tmod b 2)==1) (m2 e (d.length:Int) (call (Z88.R ((jG d (toNat e)),a)) fun v1=>J (.p0 v1 (i64.wrap (Int.tdiv b 2)) (i64.wrap (Int.tdiv (i64.wrap (c+1)) 2)) d (i64.wrap (e+1))))) (m2 e (d.length:Int) (call (Z88.R (a,(jG d (toNat e)))) fun v2=>J (.p0 v2 (i64.wrap (Int.tdiv b 2)) (i64.wrap (Int.tdiv (i64.wrap (c+1)) 2)) d (i64.wrap (e+1))))))) (cond ((i64.wrap (b+1))<c) (cond (e>=(d.length:Int)) (ret ((0,false):Int×Bool)) (cond ((Int.tmod b 2)==1) (m2 e (d.length:Int) (call (Z88.R ((jG d (toNat e)),a)) fun v3=>J (.p0 v3 (i64.wrap (Int.tdiv b 2)) (i64.wrap (Int.tdiv (i64.wrap (c+1)) 2)) d (i64.wrap (e+1))))) (m2 e (d.length:Int) (call (Z88.R (a,(jG d (toNat e)))) fun v4=>J (.p0 v4 (i64.wrap (Int.tdiv b 2)) (i64.wrap (Int.tdiv (i64.wrap (c+1)) 2)) d (i64.wrap (e+1))))))) (J (.p0 a (i64.wrap (Int.tdiv b 2)) (i64.wrap (Int.tdiv (i64.wrap (c+1)) 2)) d e)))) (cond (e != (d.length:Int)) (ret ((0,false):Int×Bool)) (ret ((a,true):Int×Bool))))
def start (J:Pt->aI)(x0 x1 x2:Int)(x3:aD):aI:=(call (Z49.R (x2,1,12)) fun v1=>(cond (!v1) (ret ((0,false):Int×Bool)) (call (Z49.R (x1,0,(i64.wrap (x2 - 1)))) fun v2=>(cond (!v2) (ret ((0,false):Int×Bool)) (J (.p0 x0 x1 x2 x3 0))))))
def live:Nat->Live:=fL [(4,gA [0,1,2,3,10])]
def tf:Nat->Int->Int->Int->List Int->Int×Bool
 | 0,_,_,_,_=>(0,false)
 | k+1,leaf,i,n,path=>
  if n>1 then
   if i % 2=1∨i+1<n then
    match path with
    | []=>(0,false)
    | p::ps=>tf k (if i % 2=1 then Z88.md p leaf else Z88.md leaf p) (i / 2) ((n+1) / 2) ps
   else tf k leaf (i / 2) ((n+1) / 2) path
  else if path.isEmpty then (leaf,true) else (0,false)
def md (a0 a1 a2:Int)(a3:List Int):Int×Bool:=(cond (!(Z49.md a2 1 12)) (0,false) (bif !(Z49.md a1 0 (i64.wrap (a2 - 1))) then (0,false) else tf 5 a0 a1 a2 a3))
def gd (a0 a1 a2:Int)(a3:List Int):Prop:=bO (2^38) (fun y:Int=>True) a3
def R:=RR (p4 gd) (u4 md)
def aj {a0 a1 a2 a3}(h:gd a0 a1 a2 a3):R (a0,a1,a2,(a3.map bk))=some ((md a0 a1 a2 a3).1,(md a0 a1 a2 a3).2):=wg h
def aU:=CN [pI,pI,pI,pL 3] (.iL [(false,[fI]),(false,[fB])]) RT.dec R
def bh (a0)(a1)(a2)(a3)(hg:gd a0 a1 a2 a3):∃n,start (iter step n) a0 a1 a2 (a3.map bk)=ret ((md a0 a1 a2 a3).1,(md a0 a1 a2 a3).2):=by
 have tm:∀b:Int,0<=b->b<=11->Int.tmod b 2=b % 2:=fun b h1 h2=>Int.tmod_eq_emod_of_nonneg h1
 have td:∀b:Int,0<=b->b<=13->i64.wrap (Int.tdiv b 2)=b / 2:=fun b h1 h2=>by
  rw [Int.tdiv_eq_ediv_of_nonneg h1,Go.IntWalk.i64_in _ (by omega)]
 have t1:∀b:Int,0<=b->b<=13->i64.wrap (b+1)=b+1:=fun b h1 h2=>Go.IntWalk.i64_in _ (by omega)
 obtain ⟨H3,_⟩:=hg
 have key:∀(k:Nat) (leaf i n:Int) (u:Nat),0<=i->i<n->n<=12->n<=2^k->u<=a3.length->∃m,iter step m (Pt.p0 leaf i n (a3.map bk) (u:Int))=ret ((tf (k+1) leaf i n (a3.drop u)).1,(tf (k+1) leaf i n (a3.drop u)).2):=by
  intro k
  induction k with
  | zero=>
   intro leaf i n u h1 h2 h3 h4 h5
   refine ⟨1,?_⟩
   show step (iter step 0) (Pt.p0 _ _ _ _ _)=_
   have hn:n=1:=by omega
   subst hn
   simp only [step,List.length_map]
   refine cY (by decide) ?_
   unfold tf
   rw [if_neg (by omega)]
   by_cases hu:u=a3.length
   ·rw [List.drop_eq_nil_of_le (by omega),show ((u:Int) != (a3.length:Int))=false from bne_eq_false_iff_eq.2 (by omega)];rfl
   ·have hne:(a3.drop u).isEmpty=false:=by
     rw [List.drop_eq_getElem_cons (by omega)];rfl
    rw [hne,show ((u:Int) != (a3.length:Int))=true from bne_iff_ne.2 (by omega)];rfl
  | succ k ih=>
   intro leaf i n u h1 h2 h3 h4 h5
   unfold tf
   by_cases hn:n>1
   ·have e1:=tm i h1 (by omega)
    have e2:=td i h1 (by omega)
    have e3:=t1 n (by omega) (by omega)
    have e4:=td (n+1) (by omega) (by omega)
    have e5:=t1 i h1 (by omega)
    rw [if_pos hn]
    by_cases hc:i % 2=1∨i+1<n
    ·rw [if_pos hc]
     by_cases hu:u=a3.length
     ·refine ⟨1,?_⟩
      show step (iter step 0) (Pt.p0 _ _ _ _ _)=_
      rw [List.drop_eq_nil_of_le (by omega)]
      simp only [step,List.length_map,e1,e5]
      refine ak (decide_eq_true (by omega)) ?_
      by_cases hm:i % 2=1
      ·rw [hm]
       exact ak rfl (ak (decide_eq_true (by omega)) rfl)
      ·refine cY (beq_eq_false_iff_ne.2 hm) (ak (decide_eq_true (by omega)) (ak (decide_eq_true (by omega)) rfl))
     ·have hlt:u<a3.length:=by omega
      rw [List.drop_eq_getElem_cons hlt]
      obtain ⟨m,hm⟩:=ih (if i % 2=1 then Z88.md a3[u] leaf else Z88.md leaf a3[u]) (i / 2) ((n+1) / 2) (u+1) (by omega) (by omega) (by omega) (by omega) (by omega)
      refine ⟨m+1,?_⟩
      show step (iter step m) (Pt.p0 _ _ _ _ _)=_
      have w:i64.wrap ((u:Int)+1)=((u+1:Nat):Int):=by rw [Go.IntWalk.i64_in _ (by omega)];omega
      simp only [step,List.length_map,e1,e2,e3,e4,e5,w,dw,iw,eV hlt]
      refine ak (decide_eq_true (by omega)) ?_
      by_cases hp:i % 2=1
      ·rw [if_pos hp] at hm
       rw [hp]
       refine ak rfl (cY (decide_eq_false (by omega)) (ak rfl (ak (decide_eq_true (by omega)) (ak (decide_eq_true (by omega)) (aX _ (Z88.aj trivial) ?_)))))
       rw [if_pos rfl]
       exact hm
      ·rw [if_neg hp] at hm
       have hb:(i % 2==1)=false:=beq_eq_false_iff_ne.2 hp
       rw [hb]
       refine cY rfl (ak (decide_eq_true (by omega)) (cY (decide_eq_false (by omega)) (cY rfl (ak (decide_eq_true (by omega)) (ak (decide_eq_true (by omega)) (aX _ (Z88.aj trivial) ?_))))))
       rw [if_neg hp]
       exact hm
    ·rw [if_neg hc]
     obtain ⟨m,hm⟩:=ih leaf (i / 2) ((n+1) / 2) u (by omega) (by omega) (by omega) (by omega) h5
     refine ⟨m+1,?_⟩
     show step (iter step m) (Pt.p0 _ _ _ _ _)=_
     simp only [step,List.length_map,e1,e2,e3,e4,e5]
     have hb:(i % 2==1)=false:=beq_eq_false_iff_ne.2 (by omega)
     rw [hb]
     exact ak (decide_eq_true (by omega)) (cY rfl (cY (decide_eq_false (by omega)) hm))
   ·refine ⟨1,?_⟩
    show step (iter step 0) (Pt.p0 _ _ _ _ _)=_
    have hn1:n=1:=by omega
    subst hn1
    simp only [step,List.length_map]
    refine cY (by decide) ?_
    rw [if_neg (by omega)]
    by_cases hu:u=a3.length
    ·rw [List.drop_eq_nil_of_le (by omega),show ((u:Int) != (a3.length:Int))=false from bne_eq_false_iff_eq.2 (by omega)];rfl
    ·have hne:(a3.drop u).isEmpty=false:=by
      rw [List.drop_eq_getElem_cons (by omega)];rfl
     rw [hne,show ((u:Int) != (a3.length:Int))=true from bne_iff_ne.2 (by omega)];rfl
 unfold start md
 refine fC _ (Z49.aj trivial) ?_
 cases hc:Z49.md a2 1 12
 ·exact ⟨0,rfl⟩
 simp only [Bool.not_true,bg]
 refine fC _ (Z49.aj trivial) ?_
 cases hd:Z49.md a1 0 (i64.wrap (a2 - 1))
 ·exact ⟨0,rfl⟩
 have i1:1<=a2/\a2<=12:=by simpa [Z49.md] using hc
 rw [Go.IntWalk.i64_in _ (by omega)] at hd
 have i2:0<=a1/\a1<=a2 - 1:=by simpa [Z49.md] using hd
 exact key 4 a0 a1 a2 0 (by omega) (by omega) (by omega) (by omega) (by omega)
def af:cC 258 aU:=L4 63 (fun _=>4) cG (fun _=>[]) live step start mix aB bh (eM Z49.af Z88.af) Tryz.func258
end Z112
namespace Z113
def F (x0 x1:Int)(x2:bH)(x3:cS):aI:=(call (Z86.R x2) fun v1=>(call (Z112.R (v1,x3.eE,x1,x3.bz)) fun v2=>(call (Z80.R x2) fun v3=>(cond v3 (cond v2.2 (call (Z91.R (x1,v2.1)) fun v4=>ret ((v4==x0))) (ret false)) (ret false)))))
def md (a0 a1:Int)(a2:ah)(a3:aH):Bool:=(cond (Z80.md a2) (cond ((Z112.md (Z86.md a2) a3.eE a1 a3.bz).2) (((Z91.md a1 ((Z112.md (Z86.md a2) a3.eE a1 a3.bz).1))==a0)) false) false)
def gd (a0 a1:Int)(a2:ah)(a3:aH):Prop:=(ah.Sm (2^21) a2)/\(aH.Sm (2^21) a3)
def R:=RR (p4 gd) (u4 md)
def aj {a0 a1 a2 a3}(h:gd a0 a1 a2 a3):R (a0,a1,(ah.r a2),(aH.r a3))=some (md a0 a1 a2 a3):=wg h
def aU:=CN [pI,pI,.agg sX,.agg oT] oB RT.dec R
def bh (a0)(a1)(a2)(a3)(hg:gd a0 a1 a2 a3):F a0 a1 (ah.r a2) (aH.r a3)=ret (md a0 a1 a2 a3):=by
 obtain ⟨H2,H3⟩:=hg
 refine ct (Z86.aj H2) (ct (Z112.aj (H3.mono (by decide) (fun x hx=>trivial))) ?_)
 refine ct (Z80.aj H2) (bs (fun c1=>?_) (fun _=>rfl))
 refine bs (fun c2=>?_) (fun _=>rfl)
 exact ct (Z91.aj trivial) fz
def af:cC 199 aU:=W4 34 F mix aB bh (kP Z86.af Z112.af Z80.af Z91.af) Tryz.func199
end Z113
namespace Z114
inductive Pt where
 | p0 (a b:aD) (c:Int)
def cG:Pt->List V
 | .p0 a b c=>[.sl none 9 a,.sl none 9 b,.int .i64 c]
def step (J:Pt->aI):Pt->aI
 | .p0 a b c=>(cond (c<(a.length:Int)) (m2 c (a.length:Int) (m2 c (b.length:Int) (cond (!((qA a (toNat c))==(qA b (toNat c)))) bT (J (.p0 a b (i64.wrap (c+1))))))) gf)
def start (J:Pt->aI)(x0 x1:aD):aI:=(cond ((x0.length:Int) != (x1.length:Int)) bT (J (.p0 x0 x1 0)))
def live:Nat->Live:=fL [(4,gA [0,1,5])]
def md (a0 a1:List aC):Bool:=(bif ((a0.length:Int) != (a1.length:Int)) then (false:Bool) else (eL (S:=Unit) (β:=Bool) (fun (i2:Nat) (s4:Unit)=>(cond (!((a0.getD i2 ⟨#[]⟩)==(a1.getD i2 ⟨#[]⟩))) (.inr (false:Bool)) (.inl ()))) (fun (s4:Unit)=>(true:Bool)) a0.length 0 ()))
def gd (a0 a1:List aC):Prop:=(bO (2^21) (fun y:aC=>y.size<=(2^21)) a0)/\(bO (2^21) (fun y:aC=>y.size<=(2^21)) a1)
def R:=RR (p2 gd) (u2 md)
def aj {a0 a1}(h:gd a0 a1):R ((a0.map cK),(a1.map cK))=some (md a0 a1):=cB h
def aU:=CN [pL 9,pL 9] oB RT.dec R
def bh (a0)(a1)(hg:gd a0 a1):∃n,start (iter step n) (a0.map cK) (a1.map cK)=ret (md a0 a1):=by
 obtain ⟨H0,H1⟩:=hg
 unfold start md
 try simp only [SS]
 refine iy ret (fun _=>⟨0,rfl⟩) (fun c1=>?_)
 have dc1:=c1
 try simp only [DC] at dc1
 have Bh3:a0.length<=maxLen:=(by
   have:=(H0).1
   try simp only [maxLen] at *
   omega)
 refine dW (p:=Pt.p0 (a0.map cK) (a1.map cK) 0) fz ?_
 refine cq (pt:=fun (i2:Nat) (s4:Unit)=>Pt.p0 (a0.map cK) (a1.map cK) (i2:Int)) (s:=(():Unit)) (out:=ret) (fun _ _=>True) (fun J i2 s4 h3 hih3=>?_) (fun s4 hih3=>?_) trivial
 ·simp only [step,SS]
  have bb_:=Bh3
  simp only [maxLen] at bb_
  have:=(H0).1
  refine bq.yes (by apply decide_eq_true;omega) ?_
  refine bq.yes aK ?_
  refine bq.yes (aP h3) ?_
  refine bq.yes aK ?_
  refine bq.yes (have:=(H1).1;dt) ?_
  refine bq.bif (fun _=>bq.inr rfl) (fun c5=>?_)
  refine bq.inl trivial ?_
  rw [aJ h3 Bh3]
  all_goals exact fz
 ·simp only [step,SS]
  have:=(H0).1
  refine dH (by apply decide_eq_false;omega) ?_
  refine ⟨0,?_⟩
  all_goals exact fz
def af:cC 313 aU:=L2 26 (fun _=>4) cG (fun _=>[]) live step start mix aB bh .nil Tryz.func313
def md_eq (a0 a1:List aC):md a0 a1=eD a0 a1:=by
 unfold md
 refine kX (⟨#[]⟩) (fun i s h h2=>?_) (fun s=>rfl)
 simp only [bne,fV,bool_beq,fD]
 cases eD _ _<;>rfl
end Z114
namespace Z115
def F (x0 x1:bH):aI:=(cond (x0.aV==x1.aV) (cond (x0.bI==x1.bI) (cond (x0.bX==x1.bX) (call (Z114.R (x0.bz,x1.bz)) fun v1=>ret v1) (ret false)) (ret false)) (ret false))
def md (a0 a1:ah):Bool:=(cond (a0.aV==a1.aV) (cond (a0.bI==a1.bI) (cond (a0.bX==a1.bX) ((Z114.md a0.bz a1.bz)) false) false) false)
def gd (a0 a1:ah):Prop:=(ah.Sm (2^21) a0)/\(ah.Sm (2^21) a1)
def R:=RR (p2 gd) (u2 md)
def aj {a0 a1}(h:gd a0 a1):R ((ah.r a0),(ah.r a1))=some (md a0 a1):=cB h
def aU:=CN [.agg sX,.agg sX] oB RT.dec R
def bh (a0)(a1)(hg:gd a0 a1):F (ah.r a0) (ah.r a1)=ret (md a0 a1):=by
 obtain ⟨H0,H1⟩:=hg
 refine bs (fun c1=>?_) (fun _=>rfl)
 refine bs (fun c2=>?_) (fun _=>rfl)
 refine bs (fun c3=>?_) (fun _=>rfl)
 exact ct (Z114.aj ⟨H0.2,H1.2⟩) fz
def af:cC 262 aU:=W2 31 F mix aB bh (cJ Z114.af) Tryz.func262
def md_eq (a0 a1:ah):md a0 a1=eD a0 a1:=by
 unfold md
 cases a0;cases a1
 rw [Bool.eq_iff_iff]
 simp [dz,fD,ah.mk.injEq,Z114.md_eq]
end Z115
namespace Z116
def F (x0 x1:cS):aI:=(cond (x0.eE==x1.eE) (call (Z70.R (x0.bz,x1.bz)) fun v1=>ret v1) (ret false))
def md (a0 a1:aH):Bool:=(cond (a0.eE==a1.eE) ((Z70.md a0.bz a1.bz)) false)
def gd (a0 a1:aH):Prop:=(aH.Sm (2^21) a0)/\(aH.Sm (2^21) a1)
def R:=RR (p2 gd) (u2 md)
def aj {a0 a1}(h:gd a0 a1):R ((aH.r a0),(aH.r a1))=some (md a0 a1):=cB h
def aU:=CN [.agg oT,.agg oT] oB RT.dec R
def bh (a0)(a1)(hg:gd a0 a1):F (aH.r a0) (aH.r a1)=ret (md a0 a1):=by
 obtain ⟨H0,H1⟩:=hg
 refine bs (fun c1=>?_) (fun _=>rfl)
 exact ct (Z70.aj ⟨(H0.mono (by decide) (fun x hx=>trivial)),(H1.mono (by decide) (fun x hx=>trivial))⟩) fz
def af:cC 263 aU:=W2 17 F mix aB bh (cJ Z70.af) Tryz.func263
def md_eq (a0 a1:aH):md a0 a1=eD a0 a1:=by
 unfold md
 cases a0;cases a1
 rw [Bool.eq_iff_iff]
 simp [dz,fD,aH.mk.injEq,Z70.md_eq]
end Z116
namespace Z117
def F (x0 x1:eN):aI:=(cond (x0.eE==x1.eE) (call (Z115.R (x0.aM,x1.aM)) fun v1=>(cond v1 (call (Z115.R (x0.bU,x1.bU)) fun v2=>(cond v2 (call (Z116.R (x0.dI,x1.dI)) fun v3=>(cond v3 (call (Z116.R (x0.cz,x1.cz)) fun v4=>ret v4) (ret false))) (ret false))) (ret false))) (ret false))
def md (a0 a1:bK):Bool:=(cond (a0.eE==a1.eE) (cond (Z115.md a0.aM a1.aM) (cond (Z115.md a0.bU a1.bU) (cond (Z116.md a0.dI a1.dI) ((Z116.md a0.cz a1.cz)) false) false) false) false)
def gd (a0 a1:bK):Prop:=(bK.Sm (2^21) a0)/\(bK.Sm (2^21) a1)
def R:=RR (p2 gd) (u2 md)
def aj {a0 a1}(h:gd a0 a1):R ((bK.r a0),(bK.r a1))=some (md a0 a1):=cB h
def aU:=CN [.agg rP,.agg rP] oB RT.dec R
def bh (a0)(a1)(hg:gd a0 a1):F (bK.r a0) (bK.r a1)=ret (md a0 a1):=by
 obtain ⟨H0,H1⟩:=hg
 refine bs (fun c1=>?_) (fun _=>rfl)
 refine ct (Z115.aj ⟨H0.1,H1.1⟩) (bs (fun c2=>?_) (fun _=>rfl))
 refine ct (Z115.aj ⟨H0.2.1,H1.2.1⟩) (bs (fun c3=>?_) (fun _=>rfl))
 refine ct (Z116.aj ⟨H0.2.2.1,H1.2.2.1⟩) (bs (fun c4=>?_) (fun _=>rfl))
 exact ct (Z116.aj ⟨H0.2.2.2,H1.2.2.2⟩) fz
def af:cC 200 aU:=W2 38 F mix aB bh (eM Z115.af Z116.af) Tryz.func200
def md_eq (a0 a1:bK):md a0 a1=eD a0 a1:=by
 unfold md
 cases a0;cases a1
 rw [Bool.eq_iff_iff]
 simp [dz,fD,bK.mk.injEq,Z115.md_eq,Z116.md_eq]
end Z117
namespace Z118
def F (x0:bH)(x1:cS):aI:=(call (Z115.R (x0,(⟨(⟨#[]⟩:aC),0,0,[]⟩))) fun v1=>(cond v1 (call (Z116.R (x1,(⟨0,[]⟩))) fun v2=>ret v2) (ret false)))
def md (a0:ah)(a1:aH):Bool:=(cond (Z115.md a0 (⟨((⟨#[]⟩:aC)),0,0,[]⟩)) ((Z116.md a1 (⟨0,[]⟩))) false)
def gd (a0:ah)(a1:aH):Prop:=(ah.Sm (2^21) a0)/\(aH.Sm (2^21) a1)
def R:=RR (p2 gd) (u2 md)
def aj {a0 a1}(h:gd a0 a1):R ((ah.r a0),(aH.r a1))=some (md a0 a1):=cB h
def aU:=CN [.agg sX,.agg oT] oB RT.dec R
def bh (a0)(a1)(hg:gd a0 a1):F (ah.r a0) (aH.r a1)=ret (md a0 a1):=by
 obtain ⟨H0,H1⟩:=hg
 refine ct (Z115.aj (a1:=(⟨((⟨#[]⟩:aC):aC),0,0,[]⟩:ah)) ⟨H0,⟨(by decide),bO.nil⟩⟩) (bs (fun c1=>?_) (fun _=>rfl))
 exact ct (Z116.aj (a1:=(⟨0,[]⟩:aH)) ⟨H1,bO.nil⟩) fz
def af:cC 202 aU:=W2 13 F mix aB bh (eM Z115.af Z116.af) Tryz.func202
end Z118
namespace Z119
def F (x0 x1:Int)(x2:aC)(x3:eN):aI:=(call (Z50.R x2) fun v1=>(cond (!v1) (ret false) (call (Z49.R (x3.eE,0,x1)) fun v2=>(cond (!v2) (ret false) (cond (x1==0) (call (Z92.R []) fun v3=>(cond (x0 != v3) (ret false) (cond (x3.eE==0) (call (Z118.R (x3.aM,x3.dI)) fun v4=>(cond (!v4) (ret false) (cond (x3.eE==x1) (call (Z118.R (x3.bU,x3.cz)) fun v5=>ret v5) (call (Z113.R (x0,x1,x3.bU,x3.cz)) fun v6=>(cond v6 (cond (x3.cz.eE==x3.eE) (call (Z81.R (x3.bU.aV,x2)) fun v7=>ret ((v7==1))) (ret false)) (ret false)))))) (call (Z113.R (x0,x1,x3.aM,x3.dI)) fun v8=>(cond (!v8) (ret false) (cond (x3.dI.eE != (i64.wrap (x3.eE - 1))) (ret false) (call (Z81.R (x3.aM.aV,x2)) fun v9=>(cond (v9 != (-1)) (ret false) (cond (x3.eE==x1) (call (Z118.R (x3.bU,x3.cz)) fun v10=>ret v10) (call (Z113.R (x0,x1,x3.bU,x3.cz)) fun v11=>(cond v11 (cond (x3.cz.eE==x3.eE) (call (Z81.R (x3.bU.aV,x2)) fun v12=>ret ((v12==1))) (ret false)) (ret false)))))))))))) (cond (x3.eE==0) (call (Z118.R (x3.aM,x3.dI)) fun v13=>(cond (!v13) (ret false) (cond (x3.eE==x1) (call (Z118.R (x3.bU,x3.cz)) fun v14=>ret v14) (call (Z113.R (x0,x1,x3.bU,x3.cz)) fun v15=>(cond v15 (cond (x3.cz.eE==x3.eE) (call (Z81.R (x3.bU.aV,x2)) fun v16=>ret ((v16==1))) (ret false)) (ret false)))))) (call (Z113.R (x0,x1,x3.aM,x3.dI)) fun v17=>(cond (!v17) (ret false) (cond (x3.dI.eE != (i64.wrap (x3.eE - 1))) (ret false) (call (Z81.R (x3.aM.aV,x2)) fun v18=>(cond (v18 != (-1)) (ret false) (cond (x3.eE==x1) (call (Z118.R (x3.bU,x3.cz)) fun v19=>ret v19) (call (Z113.R (x0,x1,x3.bU,x3.cz)) fun v20=>(cond v20 (cond (x3.cz.eE==x3.eE) (call (Z81.R (x3.bU.aV,x2)) fun v21=>ret ((v21==1))) (ret false)) (ret false)))))))))))))))
def md (a0 a1:Int)(a2:aC)(a3:bK):Bool:=(cond (!(Z50.md a2)) false (cond (!(Z49.md a3.eE 0 a1)) false (cond (a1==0) (cond (a0 != (Z92.md [])) false (cond (a3.eE==0) (cond (!(Z118.md a3.aM a3.dI)) false (cond (a3.eE==a1) ((Z118.md a3.bU a3.cz)) (cond (Z113.md a0 a1 a3.bU a3.cz) (cond (a3.cz.eE==a3.eE) (((Z81.md a3.bU.aV a2)==1)) false) false))) (cond (!(Z113.md a0 a1 a3.aM a3.dI)) false (cond (a3.dI.eE != (i64.wrap (a3.eE - 1))) false (cond ((Z81.md a3.aM.aV a2) != (-1)) false (cond (a3.eE==a1) ((Z118.md a3.bU a3.cz)) (cond (Z113.md a0 a1 a3.bU a3.cz) (cond (a3.cz.eE==a3.eE) (((Z81.md a3.bU.aV a2)==1)) false) false))))))) (cond (a3.eE==0) (cond (!(Z118.md a3.aM a3.dI)) false (cond (a3.eE==a1) ((Z118.md a3.bU a3.cz)) (cond (Z113.md a0 a1 a3.bU a3.cz) (cond (a3.cz.eE==a3.eE) (((Z81.md a3.bU.aV a2)==1)) false) false))) (cond (!(Z113.md a0 a1 a3.aM a3.dI)) false (cond (a3.dI.eE != (i64.wrap (a3.eE - 1))) false (cond ((Z81.md a3.aM.aV a2) != (-1)) false (cond (a3.eE==a1) ((Z118.md a3.bU a3.cz)) (cond (Z113.md a0 a1 a3.bU a3.cz) (cond (a3.cz.eE==a3.eE) (((Z81.md a3.bU.aV a2)==1)) false) false)))))))))
def gd (a0 a1:Int)(a2:aC)(a3:bK):Prop:=(a2.size<=(2^21))/\(bK.Sm (2^21) a3)
def R:=RR (p4 gd) (u4 md)
def aj {a0 a1 a2 a3}(h:gd a0 a1 a2 a3):R (a0,a1,a2,(bK.r a3))=some (md a0 a1 a2 a3):=wg h
def aU:=CN [pI,pI,pS,.agg rP] oB RT.dec R
def bh (a0)(a1)(a2)(a3)(hg:gd a0 a1 a2 a3):F a0 a1 a2 (bK.r a3)=ret (md a0 a1 a2 a3):=by
 obtain ⟨H2,H3⟩:=hg
 refine ct (Z50.aj (le_trans H2 (by decide))) (bs (fun _=>rfl) (fun c1=>?_))
 refine ct (Z49.aj trivial) (bs (fun _=>rfl) (fun c2=>?_))
 refine bs (fun c3=>?_) (fun c3=>?_)
 ·refine aX _ (rq (Z92.aj bO.nil)) (bs (fun _=>rfl) (fun c4=>?_))
  refine bs (fun c5=>?_) (fun c5=>?_)
  ·refine ct (Z118.aj ⟨H3.1,H3.2.2.1⟩) (bs (fun _=>rfl) (fun c6=>?_))
   refine bs (fun c7=>ct (Z118.aj ⟨H3.2.1,H3.2.2.2⟩) fz) (fun c7=>?_)
   refine ct (Z113.aj ⟨H3.2.1,H3.2.2.2⟩) (bs (fun c8=>?_) (fun _=>rfl))
   refine bs (fun c9=>?_) (fun _=>rfl)
   exact ct (Z81.aj trivial) fz
  ·refine ct (Z113.aj ⟨H3.1,H3.2.2.1⟩) (bs (fun _=>rfl) (fun c10=>?_))
   refine bs (fun _=>rfl) (fun c11=>?_)
   refine ct (Z81.aj trivial) (bs (fun _=>rfl) (fun c12=>?_))
   refine bs (fun c13=>ct (Z118.aj ⟨H3.2.1,H3.2.2.2⟩) fz) (fun c13=>?_)
   refine ct (Z113.aj ⟨H3.2.1,H3.2.2.2⟩) (bs (fun c14=>?_) (fun _=>rfl))
   refine bs (fun c15=>?_) (fun _=>rfl)
   exact ct (Z81.aj trivial) fz
 ·refine bs (fun c16=>?_) (fun c16=>?_)
  ·refine ct (Z118.aj ⟨H3.1,H3.2.2.1⟩) (bs (fun _=>rfl) (fun c17=>?_))
   refine bs (fun c18=>ct (Z118.aj ⟨H3.2.1,H3.2.2.2⟩) fz) (fun c18=>?_)
   refine ct (Z113.aj ⟨H3.2.1,H3.2.2.2⟩) (bs (fun c19=>?_) (fun _=>rfl))
   refine bs (fun c20=>?_) (fun _=>rfl)
   exact ct (Z81.aj trivial) fz
  ·refine ct (Z113.aj ⟨H3.1,H3.2.2.1⟩) (bs (fun _=>rfl) (fun c21=>?_))
   refine bs (fun _=>rfl) (fun c22=>?_)
   refine ct (Z81.aj trivial) (bs (fun _=>rfl) (fun c23=>?_))
   refine bs (fun c24=>ct (Z118.aj ⟨H3.2.1,H3.2.2.2⟩) fz) (fun c24=>?_)
   refine ct (Z113.aj ⟨H3.2.1,H3.2.2.2⟩) (bs (fun c25=>?_) (fun _=>rfl))
   refine bs (fun c26=>?_) (fun _=>rfl)
   exact ct (Z81.aj trivial) fz
def af:cC 201 aU:=W4 95 F mix aB bh (zE Z50.af Z49.af Z92.af Z118.af Z113.af Z81.af) Tryz.func201
end Z119
namespace Z120
def F (x0:dm)(x1:aC)(x2:bf):aI:=(cond x2.bY (cond (x2.aQ.aV==x1) (call (Z113.R (x0.dy,x0.cA,x2.aQ,x2.cZ)) fun v1=>(cond v1 (call (Z117.R (x2.dS,(⟨0,(⟨(⟨#[]⟩:aC),0,0,[]⟩:bH),(⟨(⟨#[]⟩:aC),0,0,[]⟩:bH),(⟨0,[]⟩:cS),(⟨0,[]⟩:cS)⟩:eN))) fun v2=>ret (v2:Bool)) bT)) bT) (call (Z119.R (x0.dy,x0.cA,x1,x2.dS)) fun v3=>(cond v3 (call (Z118.R (x2.aQ,x2.cZ)) fun v4=>ret (v4:Bool)) bT)))
def md (a0:aE)(a1:aC)(a2:aq):Bool:=(cond a2.bY (cond (a2.aQ.aV==a1) (cond (Z113.md a0.dy a0.cA a2.aQ a2.cZ) ((Z117.md a2.dS (⟨0,(⟨((⟨#[]⟩:aC):aC),0,0,[]⟩:ah),(⟨((⟨#[]⟩:aC):aC),0,0,[]⟩:ah),(⟨0,[]⟩:aH),(⟨0,[]⟩:aH)⟩:bK)):Bool) (false:Bool)) (false:Bool)) (cond (Z119.md a0.dy a0.cA a1 a2.dS) ((Z118.md a2.aQ a2.cZ):Bool) (false:Bool)))
def gd (a0:aE)(a1:aC)(a2:aq):Prop:=(a1.size<=(2^21))/\(aq.Sm (2^21) a2)
def R:=RR (p3 gd) (u3 md)
def aj {a0 a1 a2}(h:gd a0 a1 a2):R ((aE.r a0),a1,(aq.r a2))=some (md a0 a1 a2):=kN h
def aU:=CN [.agg gB,pS,.agg sJ] oB RT.dec R
def bh (a0)(a1)(a2)(hg:gd a0 a1 a2):F (aE.r a0) a1 (aq.r a2)=ret (md a0 a1 a2):=by
 obtain ⟨H1,H2⟩:=hg
 unfold F md
 try simp only [SS]
 refine bt ret (fun c1=>?_) (fun c1=>?_)
 ·refine bt ret (fun c2=>?_) (fun _=>rfl)
  refine ct (Z113.aj ⟨H2.2.1,H2.2.2.1⟩) ?_
  refine bt ret (fun c3=>?_) (fun _=>rfl)
  refine ct (Z117.aj (a1:=(⟨0,(⟨((⟨#[]⟩:aC):aC),0,0,[]⟩:ah),(⟨((⟨#[]⟩:aC):aC),0,0,[]⟩:ah),(⟨0,[]⟩:aH),(⟨0,[]⟩:aH)⟩:bK)) ⟨H2.2.2.2,⟨⟨(by decide),bO.nil⟩,⟨(by decide),bO.nil⟩,bO.nil,bO.nil⟩⟩) ?_
  all_goals exact fz
 ·refine ct (Z119.aj ⟨H1,H2.2.2.2⟩) ?_
  refine bt ret (fun c4=>?_) (fun _=>rfl)
  refine ct (Z118.aj ⟨H2.2.1,H2.2.2.1⟩) ?_
  all_goals exact fz
def af:cC 154 aU:=W3 46 F mix aB bh (kP Z113.af Z117.af Z119.af Z118.af) Tryz.func154
end Z120
namespace Z121
def F (x0:Int)(x1:aC)(x2:bf)(x3:Int):aI:=(call (Z79.R x2.aT) fun v1=>(cond (!v1.2) (ret (3:Int)) (cond (v1.1.bw != x0) (ret (2:Int)) (call (Z111.R (v1.1,x3)) fun v2=>(cond (!v2) (ret (4:Int)) (cond v1.1.bC (ret (5:Int)) (call (Z120.R (v1.1,x1,x2)) fun v3=>(cond (!v3) (ret (6:Int)) (ret (1:Int))))))))))
def md (a0:Int)(a1:aC)(a2:aq)(a3:Int):Int:=(cond (!(Z79.md a2.aT).2) (3:Int) (cond ((Z79.md a2.aT).1.bw != a0) (2:Int) (cond (!(Z111.md ((Z79.md a2.aT).1) a3)) (4:Int) (cond ((Z79.md a2.aT).1.bC) (5:Int) (cond (!(Z120.md ((Z79.md a2.aT).1) a1 a2)) (6:Int) (1:Int))))))
def gd (a0:Int)(a1:aC)(a2:aq)(a3:Int):Prop:=(a1.size<=(2^21))/\(aq.Sm (2^21) a2)
def R:=RR (p4 gd) (u4 md)
def aj {a0 a1 a2 a3}(h:gd a0 a1 a2 a3):R (a0,a1,(aq.r a2),a3)=some (md a0 a1 a2 a3):=wg h
def aU:=CN [pI,pS,.agg sJ,pI] oI RT.dec R
def bh (a0)(a1)(a2)(a3)(hg:gd a0 a1 a2 a3):F a0 a1 (aq.r a2) a3=ret (md a0 a1 a2 a3):=by
 obtain ⟨H1,H2⟩:=hg
 refine ct (Z79.aj H2.1) (bs (fun _=>rfl) (fun c1=>?_))
 refine bs (fun _=>rfl) (fun c2=>?_)
 refine ct (Z111.aj trivial) (bs (fun _=>rfl) (fun c3=>?_))
 refine bs (fun _=>rfl) (fun c4=>?_)
 refine ct (Z120.aj ⟨H1,H2⟩) (bs (fun _=>rfl) (fun _=>rfl))
def af:cC 103 aU:=W4 39 F mix aB bh (jS Z79.af Z111.af Z120.af) Tryz.func103
end Z121
namespace Z122
inductive Pt where
 | p0 (a:Int) (b c:aY)
def cG:Pt->List V
 | .p0 a b c=>[.cD 0 0,.cD 1 0,.int .i64 a]
def cX:Pt->List aW
 | .p0 a b c=>[.box [.int .i64 b.an.bw,.int .i64 b.an.cM,.int .i64 b.an.bI,.int .i64 b.an.cL,.int .i64 b.an.cF,.int .i64 b.an.cA,.int .i64 b.an.dy,.int .i64 b.an.dR,.sl none 3 b.an.bR.aN,.int .i64 b.an.bR.cH,.sl none 3 b.an.bE.aN,.int .i64 b.an.bE.cH,.int .i64 b.an.dB,.sl none 3 b.an.bB.aN,.int .i64 b.an.bB.cH,.bool b.an.bC,.sl none 227 b.cI],.box [.int .i64 c.an.bw,.int .i64 c.an.cM,.int .i64 c.an.bI,.int .i64 c.an.cL,.int .i64 c.an.cF,.int .i64 c.an.cA,.int .i64 c.an.dy,.int .i64 c.an.dR,.sl none 3 c.an.bR.aN,.int .i64 c.an.bR.cH,.sl none 3 c.an.bE.aN,.int .i64 c.an.bE.cH,.int .i64 c.an.dB,.sl none 3 c.an.bB.aN,.int .i64 c.an.bB.cH,.bool c.an.bC,.sl none 227 c.cI]]
def step (J:Pt->aI):Pt->aI
 | .p0 a b c=>(cond (a<(b.cI.length:Int)) (m2 a (b.cI.length:Int) (m2 a (c.cI.length:Int) (cond (!((((bn.at b.cI (toNat a)).iu:Int)==(bn.at c.cI (toNat a)).iu)&&((((bn.at b.cI (toNat a)).jM:Int)==(bn.at c.cI (toNat a)).jM)&&true))) bT (J (.p0 (i64.wrap (a+1)) b c))))) gf)
def start (J:Pt->aI)(x0 x1:aY):aI:=(call (Z106.R (x0.an,x1.an)) fun v1=>(cond (!v1) (ret false) (cond (x0.cI.length != (x1.cI.length:Int)) (ret false) (J (.p0 0 x0 x1)))))
def live:Nat->Live:=fL [(4,gA [2,3,5])]
def md (a0 a1:aa):Bool:=(bif (!(Z106.md a0.an a1.an)) then false else (bif (a0.cI.length != (a1.cI.length:Int)) then false else (eL (S:=Unit) (β:=Bool) (fun i3 s5=>(cond (!((((a0.cI.getD i3 bn.zero).iu)==(a1.cI.getD i3 bn.zero).iu)&&((((a0.cI.getD i3 bn.zero).jM)==(a1.cI.getD i3 bn.zero).jM)&&true))) (.inr false) (.inl ()))) (fun s5=>true) a0.cI.length 0 ())))
def gd (a0 a1:aa):Prop:=(aa.Sm (2^21) a0)/\(aa.Sm (2^21) a1)
def R:=RR (p2 gd) (u2 md)
def aj {a0 a1}(h:gd a0 a1):R ((aa.r a0),(aa.r a1))=some (md a0 a1):=cB h
def aU:=CN [.agg lB,.agg lB] oB RT.dec R
def bh (a0)(a1)(hg:gd a0 a1):∃n,start (iter step n) (aa.r a0) (aa.r a1)=ret (md a0 a1):=by
 obtain ⟨H0,H1⟩:=hg
 unfold start md
 simp only [SS]
 refine cx (Z106.aj ⟨H0.1,H1.1⟩) (iy ret (fun _=>⟨0,rfl⟩) (fun c1=>?_))
 refine iy ret (fun _=>⟨0,rfl⟩) (fun c2=>?_)
 have dc2:=c2
 simp only [DC] at dc2
 have Bh4:=bl H0.2
 refine dW fz (cq (pt:=fun (i3:Nat) (s5:Unit)=>Pt.p0 (i3:Int) (aa.r a0) (aa.r a1)) (fun _ _=>True) (fun J i3 s5 h4 hih4=>?_) (fun s5 hih4=>?_) trivial)
 ·simp only [step,SS]
  refine bq.yes dt (bq.yes aK ?_)
  refine bq.yes (aP h4) (bq.yes aK ?_)
  refine bq.yes (have:=(H1.2).1;dt) (bq.bif (fun _=>bq.inr rfl) (fun c6=>?_))
  refine bq.inl trivial ?_
  rw [aJ h4 Bh4]
 ·simp only [step,SS]
  refine dH dn (⟨0,?_⟩)
  exact fz
def af:cC 293 aU:=L2 39 (fun _=>4) cG cX live step start mix aB bh (cJ Z106.af) Tryz.func293
def md_eq (a0 a1:aa):md a0 a1=eD a0 a1:=by
 unfold md
 simp only [Z106.md_eq,fV,bn.eqc]
 rw [kX bn.zero (fun i s h h2=>by cases eD (a0.cI.getD i bn.zero) (a1.cI.getD i bn.zero)<;>rfl) (fun s=>rfl)]
 rw [Bool.eq_iff_iff]
 cases a0;cases a1
 simp [dz]
end Z122
namespace Z123
def F (x0:bM):aI:=(call (Z106.R (x0.fA.an,x0.fB.an)) fun v1=>(cond v1 bT (call (Z122.R (x0.aM,(⟨(⟨0,0,0,0,0,0,0,0,(⟨[],0⟩:cN),(⟨[],0⟩:cN),0,(⟨[],0⟩:cN),false⟩:dm),[]⟩:aY))) fun v2=>(cond v2 (call (Z67.R x0.fA) fun v3=>(cond v3 (call (Z67.R x0.fB) fun v4=>(cond v4 (ret ((x0.fA.an.bw==x0.fB.an.bw):Bool)) bT)) bT)) (call (Z76.R (x0.aM.an,x0.fA)) fun v5=>(cond v5 (call (Z76.R (x0.aM.an,x0.fB)) fun v6=>ret (v6:Bool)) bT))))))
def md (a0:aF):Bool:=(cond (Z106.md a0.fA.an a0.fB.an) (false:Bool) (cond (Z122.md a0.aM (⟨(⟨0,0,0,0,0,0,0,0,(⟨[],0⟩:aO),(⟨[],0⟩:aO),0,(⟨[],0⟩:aO),false⟩:aE),[]⟩:aa)) (cond (Z67.md a0.fA) (cond (Z67.md a0.fB) ((a0.fA.an.bw==a0.fB.an.bw):Bool) (false:Bool)) (false:Bool)) (cond (Z76.md a0.aM.an a0.fA) ((Z76.md a0.aM.an a0.fB):Bool) (false:Bool))))
def gd (a0:aF):Prop:=(aF.Sm (2^21) a0)
def R:=RR gd md
def aj {a0}(h:gd a0):R (aF.r a0)=some (md a0):=cT h
def aU:=CN [.agg uA] oB RT.dec R
def bh (a0)(hg:gd a0):F (aF.r a0)=ret (md a0):=by
 unfold gd at hg
 have H0:=hg
 unfold F md
 try simp only [SS]
 refine ct (Z106.aj ⟨H0.2.1.1,H0.2.2.1⟩) ?_
 refine bt ret (fun _=>rfl) (fun c1=>?_)
 refine ct (Z122.aj (a1:=(⟨(⟨0,0,0,0,0,0,0,0,(⟨[],0⟩:aO),(⟨[],0⟩:aO),0,(⟨[],0⟩:aO),false⟩:aE),[]⟩:aa)) ⟨H0.1,⟨⟨bO.nil,bO.nil,bO.nil⟩,bO.nil⟩⟩) ?_
 refine bt ret (fun c2=>?_) (fun c2=>?_)
 ·refine ct (Z67.aj H0.2.1) ?_
  refine bt ret (fun c3=>?_) (fun _=>rfl)
  refine ct (Z67.aj H0.2.2) ?_
  refine bt ret (fun c4=>?_) (fun _=>rfl)
  all_goals exact fz
 ·refine ct (Z76.aj ⟨H0.1.1,H0.2.1⟩) ?_
  refine bt ret (fun c5=>?_) (fun _=>rfl)
  refine ct (Z76.aj ⟨H0.1.1,H0.2.2⟩) ?_
  all_goals exact fz
def af:cC 238 aU:=W1 47 F mix aB bh (kP Z106.af Z122.af Z67.af Z76.af) Tryz.func238
end Z123
namespace Z124
def F (x0:bM):aI:=(call (Z123.R x0) fun v1=>(cond (!v1) (ret ((-1):Int)) (ret x0.fA.an.bw)))
def md (a0:aF):Int:=(cond (!(Z123.md a0)) ((-1):Int) a0.fA.an.bw)
def gd (a0:aF):Prop:=(aF.Sm (2^21) a0)
def R:=RR gd md
def aj {a0}(h:gd a0):R (aF.r a0)=some (md a0):=cT h
def aU:=CN [.agg uA] oI RT.dec R
def bh (a0)(H0:gd a0):F (aF.r a0)=ret (md a0):=by
 refine ct (Z123.aj H0) (bs (fun _=>rfl) (fun c1=>?_))
 exact fz
def af:cC 183 aU:=W1 10 F mix aB bh (cJ Z123.af) Tryz.func183
end Z124
namespace Z125
inductive Pt where
 | p0 (a b:Int) (c:bu)
def cG:Pt->List V
 | .p0 a b c=>[.int .i64 a,.cD 0 0,.int .i64 b]
def cX:Pt->List aW
 | .p0 a b c=>[.box [.sl none 120 c.aL,.sl none 180 c.bp]]
def step (J:Pt->aI):Pt->aI
 | .p0 a b c=>(cond (b<(c.bp.length:Int)) (m2 b (c.bp.length:Int) (call (Z124.R (bM.at c.bp (toNat b))) fun v1=>(cond (v1==a) (cond (a>=0) gf (J (.p0 a (i64.wrap (b+1)) c))) (J (.p0 a (i64.wrap (b+1)) c))))) bT)
def start (J:Pt->aI)(x0:bu)(x1:Int):aI:=J (.p0 x1 0 x0)
def live:Nat->Live:=fL [(2,gA [1,2,5])]
def md (a0:av)(a1:Int):Bool:=(eo (S:=Unit) (β:=Bool) (fun (y1:aF) (s3:Unit)=>(cond ((Z124.md y1)==a1) (cond (a1>=0) (.inr (true:Bool)) (.inl ())) (.inl ()))) (fun (s3:Unit)=>(false:Bool)) a0.bp ())
def gd (a0:av)(a1:Int):Prop:=(av.Sm (2^21) a0)
def R:=RR (p2 gd) (u2 md)
def aj {a0 a1}(h:gd a0 a1):R ((av.r a0),a1)=some (md a0 a1):=cB h
def aU:=CN [.agg uY,pI] oB RT.dec R
def bh (a0)(a1)(hg:gd a0 a1):∃n,start (iter step n) (av.r a0) a1=ret (md a0 a1):=by
 unfold gd at hg
 have H0:=hg
 unfold start md
 try simp only [SS]
 have Bh2:a0.bp.length<=maxLen:=(by
   have:=(H0.2).1
   try simp only [maxLen] at *
   omega)
 refine ex_eq (out:=ret) (eS (z:=aF.zero)) ?_
 refine dW (p:=Pt.p0 a1 0 (av.r a0)) fz ?_
 refine cq (pt:=fun (i1:Nat) (s3:Unit)=>Pt.p0 a1 (i1:Int) (av.r a0)) (s:=(():Unit)) (out:=ret) (fun _ _=>True) (fun J i1 s3 h2 hih2=>?_) (fun s3 hih2=>?_) trivial
 ·simp only [step,SS]
  have bb_:=Bh2
  simp only [maxLen] at bb_
  have:=(H0.2).1
  refine bq.yes (by apply decide_eq_true;omega) ?_
  refine bq.yes aK ?_
  refine bq.yes (aP h2) ?_
  refine cr (Z124.aj (bO.getD (z:=aF.zero) H0.2 h2)) ?_
  refine bq.bif (fun c4=>?_) (fun c4=>?_)
  ·refine bq.bif (fun _=>bq.inr rfl) (fun c5=>?_)
   refine bq.inl trivial ?_
   rw [aJ h2 Bh2]
   all_goals exact fz
  ·refine bq.inl trivial ?_
   rw [aJ h2 Bh2]
   all_goals exact fz
 ·simp only [step,SS]
  have:=(H0.2).1
  refine dH (by apply decide_eq_false;omega) ?_
  refine ⟨0,?_⟩
  all_goals exact fz
def af:cC 139 aU:=L2 25 (fun _=>2) cG cX live step start mix aB bh (cJ Z124.af) Tryz.func139
end Z125
namespace Z126
inductive Pt where
 | p0 (a:aD) (b:Int) (c:aC) (d e:Int) (f:Bool) (g:aC) (h i:Int) (j k:Bool) (l:aC) (m n:Int) (o:Bool) (p q s:aD)
def cG:Pt->List V
 | .p0 a b c d e f g h i j k l m n o p q s=>[.sl none 126 a,.int .i64 b,.str c,.int .i64 d,.cD 0 0,.cD 1 0,.int .i64 e,.cD 1 0]
def cX:Pt->List aW
 | .p0 a b c d e f g h i j k l m n o p q s=>[.box [.nil,.nil,.bool f,.str g,.int .i64 h,.int .i64 i,.nil,.bool j,.nil],.box [.own 2,.own 3,.bool k,.str l,.int .i64 m,.int .i64 n,.nil,.bool o,.own 4],.row 120 p,.row 180 q,.row 3 s]
def step (J:Pt->aI):Pt->aI
 | .p0 a b c d e f g h i j k l m n o p q s=>(cond (e<(a.length:Int)) (m2 e (a.length:Int) (call (Z79.R ((bf.at a (toNat e)).aT)) fun v1=>(cond v1.2 (cond (v1.1.bw==b) (call (Z110.R ((⟨p,q⟩:bu),(bf.at a (toNat e)).aT)) fun v2=>(call (Z121.R (b,c,(bf.at a (toNat e)),d)) fun v3=>(cond (v2.2==1) (cond (v3==1) (call (Z125.R (v2.1,b)) fun v4=>(cond v4 (cg (eX (((s.length:Int)+1)*8)) (J (.p0 a b c d (i64.wrap (e+1)) f g h i j k l m n o v2.1.aL v2.1.bp (s++[[L.int 3]])))) (cg (eX (((s.length:Int)+1)*8)) (cond (v3==1) (call (Z44.R ((bf.at a (toNat e)).aQ)) fun v5=>ret ((⟨v2.1,(bf.at a (toNat e)).bY,v5,true,(s++[[L.int v3]])⟩:dG):dG)) (J (.p0 a b c d (i64.wrap (e+1)) f g h i j k l m n o v2.1.aL v2.1.bp (s++[[L.int v3]]))))))) (cg (eX (((s.length:Int)+1)*8)) (cond (v3==1) (call (Z44.R ((bf.at a (toNat e)).aQ)) fun v6=>ret ((⟨v2.1,(bf.at a (toNat e)).bY,v6,true,(s++[[L.int v3]])⟩:dG):dG)) (J (.p0 a b c d (i64.wrap (e+1)) f g h i j k l m n o v2.1.aL v2.1.bp (s++[[L.int v3]])))))) (cond (v2.2==2) (cond (v3==1) (call (Z125.R (v2.1,b)) fun v7=>(cond v7 (cg (eX (((s.length:Int)+1)*8)) (J (.p0 a b c d (i64.wrap (e+1)) f g h i j k l m n o v2.1.aL v2.1.bp (s++[[L.int 3]])))) (cg (eX (((s.length:Int)+1)*8)) (cond (v3==1) (call (Z44.R ((bf.at a (toNat e)).aQ)) fun v8=>ret ((⟨v2.1,(bf.at a (toNat e)).bY,v8,true,(s++[[L.int v3]])⟩:dG):dG)) (J (.p0 a b c d (i64.wrap (e+1)) f g h i j k l m n o v2.1.aL v2.1.bp (s++[[L.int v3]]))))))) (cg (eX (((s.length:Int)+1)*8)) (cond (v3==1) (call (Z44.R ((bf.at a (toNat e)).aQ)) fun v9=>ret ((⟨v2.1,(bf.at a (toNat e)).bY,v9,true,(s++[[L.int v3]])⟩:dG):dG)) (J (.p0 a b c d (i64.wrap (e+1)) f g h i j k l m n o v2.1.aL v2.1.bp (s++[[L.int v3]])))))) (cond (v3==1) (cond (!(v2.2==3)) (cg (eX (((s.length:Int)+1)*8)) (J (.p0 a b c d (i64.wrap (e+1)) f g h i j k l m n o v2.1.aL v2.1.bp (s++[[L.int 3]])))) (call (Z125.R (v2.1,b)) fun v10=>(cond v10 (cg (eX (((s.length:Int)+1)*8)) (J (.p0 a b c d (i64.wrap (e+1)) f g h i j k l m n o v2.1.aL v2.1.bp (s++[[L.int 3]])))) (cg (eX (((s.length:Int)+1)*8)) (cond (v3==1) (call (Z44.R ((bf.at a (toNat e)).aQ)) fun v11=>ret ((⟨v2.1,(bf.at a (toNat e)).bY,v11,true,(s++[[L.int v3]])⟩:dG):dG)) (J (.p0 a b c d (i64.wrap (e+1)) f g h i j k l m n o v2.1.aL v2.1.bp (s++[[L.int v3]])))))))) (cg (eX (((s.length:Int)+1)*8)) (cond (v3==1) (call (Z44.R ((bf.at a (toNat e)).aQ)) fun v12=>ret ((⟨v2.1,(bf.at a (toNat e)).bY,v12,true,(s++[[L.int v3]])⟩:dG):dG)) (J (.p0 a b c d (i64.wrap (e+1)) f g h i j k l m n o v2.1.aL v2.1.bp (s++[[L.int v3]])))))))))) (call (Z121.R (b,c,(bf.at a (toNat e)),d)) fun v13=>(cond (v13==1) (cg (eX (((s.length:Int)+1)*8)) (J (.p0 a b c d (i64.wrap (e+1)) f g h i j k l m n o p q (s++[[L.int 3]])))) (cg (eX (((s.length:Int)+1)*8)) (cond (v13==1) (call (Z44.R ((bf.at a (toNat e)).aQ)) fun v14=>ret ((⟨(⟨p,q⟩:bu),(bf.at a (toNat e)).bY,v14,true,(s++[[L.int v13]])⟩:dG):dG)) (J (.p0 a b c d (i64.wrap (e+1)) f g h i j k l m n o p q (s++[[L.int v13]])))))))) (call (Z121.R (b,c,(bf.at a (toNat e)),d)) fun v15=>(cond (v15==1) (cg (eX (((s.length:Int)+1)*8)) (J (.p0 a b c d (i64.wrap (e+1)) f g h i j k l m n o p q (s++[[L.int 3]])))) (cg (eX (((s.length:Int)+1)*8)) (cond (v15==1) (call (Z44.R ((bf.at a (toNat e)).aQ)) fun v16=>ret ((⟨(⟨p,q⟩:bu),(bf.at a (toNat e)).bY,v16,true,(s++[[L.int v15]])⟩:dG):dG)) (J (.p0 a b c d (i64.wrap (e+1)) f g h i j k l m n o p q (s++[[L.int v15]])))))))))) (ret ((⟨(⟨p,q⟩:bu),k,(⟨l,m,n,[]⟩:bH),o,s⟩:dG):dG)))
def start (J:Pt->aI)(x0:bu)(x1:aD)(x2:Int)(x3:aC)(x4:Int):aI:=(call (Z42.R x0) fun v1=>J (.p0 x1 x2 x3 x4 0 false ⟨#[]⟩ 0 0 false false ⟨#[]⟩ 0 0 false v1.aL v1.bp []))
def live:Nat->Live:=fL [(3,[(1,none),(2,none),(3,none),(4,none),(10,none),(11,none),(12,none),(11,some 8388611)])]
def md (a0:av)(a1:List aq)(a2:Int)(a3:aC)(a4:Int):cm:=(eo (S:=List (List aa)×List aF×List Int) (β:=cm) (fun y1 (s3:List (List aa)×List aF×List Int)=>(cond ((Z79.md (y1.aT)).2) (cond ((Z79.md (y1.aT)).1.bw==a2) (cond ((Z110.md (⟨s3.1,s3.2.1⟩) (y1.aT)).2==1) (cond ((Z121.md a2 a3 y1 a4)==1) (cond (Z125.md ((Z110.md (⟨s3.1,s3.2.1⟩) (y1.aT)).1) a2) (.inl ((Z110.md (⟨s3.1,s3.2.1⟩) (y1.aT)).1.aL,(Z110.md (⟨s3.1,s3.2.1⟩) (y1.aT)).1.bp,(s3.2.2++[3]))) (cond ((Z121.md a2 a3 y1 a4)==1) (.inr (⟨(Z110.md (⟨s3.1,s3.2.1⟩) (y1.aT)).1,y1.bY,(y1.aQ),true,(s3.2.2++[(Z121.md a2 a3 y1 a4)])⟩)) (.inl ((Z110.md (⟨s3.1,s3.2.1⟩) (y1.aT)).1.aL,(Z110.md (⟨s3.1,s3.2.1⟩) (y1.aT)).1.bp,(s3.2.2++[(Z121.md a2 a3 y1 a4)]))))) (cond ((Z121.md a2 a3 y1 a4)==1) (.inr (⟨(Z110.md (⟨s3.1,s3.2.1⟩) (y1.aT)).1,y1.bY,(y1.aQ),true,(s3.2.2++[(Z121.md a2 a3 y1 a4)])⟩)) (.inl ((Z110.md (⟨s3.1,s3.2.1⟩) (y1.aT)).1.aL,(Z110.md (⟨s3.1,s3.2.1⟩) (y1.aT)).1.bp,(s3.2.2++[(Z121.md a2 a3 y1 a4)]))))) (cond ((Z110.md (⟨s3.1,s3.2.1⟩) (y1.aT)).2==2) (cond ((Z121.md a2 a3 y1 a4)==1) (cond (Z125.md ((Z110.md (⟨s3.1,s3.2.1⟩) (y1.aT)).1) a2) (.inl ((Z110.md (⟨s3.1,s3.2.1⟩) (y1.aT)).1.aL,(Z110.md (⟨s3.1,s3.2.1⟩) (y1.aT)).1.bp,(s3.2.2++[3]))) (cond ((Z121.md a2 a3 y1 a4)==1) (.inr (⟨(Z110.md (⟨s3.1,s3.2.1⟩) (y1.aT)).1,y1.bY,(y1.aQ),true,(s3.2.2++[(Z121.md a2 a3 y1 a4)])⟩)) (.inl ((Z110.md (⟨s3.1,s3.2.1⟩) (y1.aT)).1.aL,(Z110.md (⟨s3.1,s3.2.1⟩) (y1.aT)).1.bp,(s3.2.2++[(Z121.md a2 a3 y1 a4)]))))) (cond ((Z121.md a2 a3 y1 a4)==1) (.inr (⟨(Z110.md (⟨s3.1,s3.2.1⟩) (y1.aT)).1,y1.bY,(y1.aQ),true,(s3.2.2++[(Z121.md a2 a3 y1 a4)])⟩)) (.inl ((Z110.md (⟨s3.1,s3.2.1⟩) (y1.aT)).1.aL,(Z110.md (⟨s3.1,s3.2.1⟩) (y1.aT)).1.bp,(s3.2.2++[(Z121.md a2 a3 y1 a4)]))))) (cond ((Z121.md a2 a3 y1 a4)==1) (cond (!((Z110.md (⟨s3.1,s3.2.1⟩) (y1.aT)).2==3)) (.inl ((Z110.md (⟨s3.1,s3.2.1⟩) (y1.aT)).1.aL,(Z110.md (⟨s3.1,s3.2.1⟩) (y1.aT)).1.bp,(s3.2.2++[3]))) (cond (Z125.md ((Z110.md (⟨s3.1,s3.2.1⟩) (y1.aT)).1) a2) (.inl ((Z110.md (⟨s3.1,s3.2.1⟩) (y1.aT)).1.aL,(Z110.md (⟨s3.1,s3.2.1⟩) (y1.aT)).1.bp,(s3.2.2++[3]))) (cond ((Z121.md a2 a3 y1 a4)==1) (.inr (⟨(Z110.md (⟨s3.1,s3.2.1⟩) (y1.aT)).1,y1.bY,(y1.aQ),true,(s3.2.2++[(Z121.md a2 a3 y1 a4)])⟩)) (.inl ((Z110.md (⟨s3.1,s3.2.1⟩) (y1.aT)).1.aL,(Z110.md (⟨s3.1,s3.2.1⟩) (y1.aT)).1.bp,(s3.2.2++[(Z121.md a2 a3 y1 a4)])))))) (cond ((Z121.md a2 a3 y1 a4)==1) (.inr (⟨(Z110.md (⟨s3.1,s3.2.1⟩) (y1.aT)).1,y1.bY,(y1.aQ),true,(s3.2.2++[(Z121.md a2 a3 y1 a4)])⟩)) (.inl ((Z110.md (⟨s3.1,s3.2.1⟩) (y1.aT)).1.aL,(Z110.md (⟨s3.1,s3.2.1⟩) (y1.aT)).1.bp,(s3.2.2++[(Z121.md a2 a3 y1 a4)]))))))) (cond ((Z121.md a2 a3 y1 a4)==1) (.inl (s3.1,s3.2.1,(s3.2.2++[3]))) (cond ((Z121.md a2 a3 y1 a4)==1) (.inr (⟨(⟨s3.1,s3.2.1⟩),y1.bY,(y1.aQ),true,(s3.2.2++[(Z121.md a2 a3 y1 a4)])⟩)) (.inl (s3.1,s3.2.1,(s3.2.2++[(Z121.md a2 a3 y1 a4)])))))) (cond ((Z121.md a2 a3 y1 a4)==1) (.inl (s3.1,s3.2.1,(s3.2.2++[3]))) (cond ((Z121.md a2 a3 y1 a4)==1) (.inr (⟨(⟨s3.1,s3.2.1⟩),y1.bY,(y1.aQ),true,(s3.2.2++[(Z121.md a2 a3 y1 a4)])⟩)) (.inl (s3.1,s3.2.1,(s3.2.2++[(Z121.md a2 a3 y1 a4)]))))))) (fun (s3:List (List aa)×List aF×List Int)=>(⟨(⟨s3.1,s3.2.1⟩),false,(⟨(⟨#[]⟩:aC),0,0,[]⟩),false,s3.2.2⟩)) a1 (a0.aL,a0.bp,[]))
def gd (a0:av)(a1:List aq)(a2:Int)(a3:aC)(a4:Int):Prop:=(av.Sm (2^21) a0)/\(bO (2^21) (fun y:aq=>aq.Sm (2^21) y) a1)/\(a3.size<=(2^21))
def R:=RR (p5 gd) (u5 md)
def aj {a0 a1 a2 a3 a4}(h:gd a0 a1 a2 a3 a4):R ((av.r a0),(a1.map aq.row),a2,a3,a4)=some (cm.r (md a0 a1 a2 a3 a4)):=wz h
def aU:=CN [.agg uY,pL 126,pI,pS,pI] (.agg f130) RT.dec R
def bh (a0)(a1)(a2)(a3)(a4)(hg:gd a0 a1 a2 a3 a4):∃n,start (iter step n) (av.r a0) (a1.map aq.row) a2 a3 a4=ret (cm.r (md a0 a1 a2 a3 a4)):=by
 obtain ⟨H0,H1,H3⟩:=hg
 refine cx (Z42.aj H0) ?_
 have Bh2:=bl H1
 refine ex_eq (out:=(fun b:cm=>ret ((cm.r b):dG))) (eS (z:=aq.zero)) (dW fz ?_)
 refine cq (pt:=fun (i1:Nat) (s3:List (List aa)×List aF×List Int)=>Pt.p0 (a1.map aq.row) a2 a3 a4 (i1:Int) false (⟨#[]⟩:aC) 0 0 false false (⟨#[]⟩:aC) 0 0 false (s3.1.map (eg aa.row)) (s3.2.1.map aF.row) (s3.2.2.map bk)) (s:=((a0.aL,a0.bp,[]):List (List aa)×List aF×List Int)) (out:=(fun b:cm=>ret ((cm.r b):dG))) (fun (i1:Nat) (s3:List (List aa)×List aF×List Int)=>av.Sm (2^21) (⟨s3.1,s3.2.1⟩:av)/\s3.2.2.length<=i1) (fun J i1 s3 h2 hih2=>?_) (fun s3 hih2=>?_) ⟨H0,zero_le _⟩
 ·simp only [step,SS]
  have:=(H1).1
  refine bq.yes dt (bq.yes aK ?_)
  refine bq.yes (aP h2) (cr (Z79.aj (bO.getD H1 h2).1) ?_)
  refine bq.bif (fun c4=>?_) (fun c4=>?_)
  ·refine bq.bif (fun c5=>?_) (fun c5=>?_)
   ·refine cr (Z110.aj ⟨⟨hih2.1.1,hih2.1.2⟩,(bO.getD H1 h2).1⟩) (cr (Z121.aj ⟨H3,(bO.getD H1 h2)⟩) ?_)
    refine bq.bif (fun c6=>?_) (fun c6=>?_)
    ·refine bq.bif (fun c7=>?_) (fun c7=>?_)
     ·refine cr (Z125.aj (Z110.iF ⟨⟨hih2.1.1,hih2.1.2⟩,(bO.getD H1 h2).1⟩)) (bq.bif (fun c8=>?_) (fun c8=>?_))
      ·refine bq.yes lm (bq.inl (⟨Z110.iF ⟨hih2.1,(bO.getD H1 h2).1⟩,oM hih2.2⟩) ?_)
       rw [aJ h2 Bh2]
       exact fz
      ·refine bq.yes lm (bq.bif (fun c9=>?_) (fun c9=>?_))
       ·refine cr (Z44.aj (bO.getD H1 h2).2.1) (bq.inr ?_)
        exact fz
       ·refine bq.inl (⟨Z110.iF ⟨hih2.1,(bO.getD H1 h2).1⟩,oM hih2.2⟩) ?_
        rw [aJ h2 Bh2]
        exact fz
     ·refine bq.yes lm (bq.bif (fun c10=>?_) (fun c10=>?_))
      ·refine cr (Z44.aj (bO.getD H1 h2).2.1) (bq.inr ?_)
       exact fz
      ·refine bq.inl (⟨Z110.iF ⟨hih2.1,(bO.getD H1 h2).1⟩,oM hih2.2⟩) ?_
       rw [aJ h2 Bh2]
       exact fz
    ·refine bq.bif (fun c11=>?_) (fun c11=>?_)
     ·refine bq.bif (fun c12=>?_) (fun c12=>?_)
      ·refine cr (Z125.aj (Z110.iF ⟨⟨hih2.1.1,hih2.1.2⟩,(bO.getD H1 h2).1⟩)) (bq.bif (fun c13=>?_) (fun c13=>?_))
       ·refine bq.yes lm (bq.inl (⟨Z110.iF ⟨hih2.1,(bO.getD H1 h2).1⟩,oM hih2.2⟩) ?_)
        rw [aJ h2 Bh2]
        exact fz
       ·refine bq.yes lm (bq.bif (fun c14=>?_) (fun c14=>?_))
        ·refine cr (Z44.aj (bO.getD H1 h2).2.1) (bq.inr ?_)
         exact fz
        ·refine bq.inl (⟨Z110.iF ⟨hih2.1,(bO.getD H1 h2).1⟩,oM hih2.2⟩) ?_
         rw [aJ h2 Bh2]
         exact fz
      ·refine bq.yes lm (bq.bif (fun c15=>?_) (fun c15=>?_))
       ·refine cr (Z44.aj (bO.getD H1 h2).2.1) (bq.inr ?_)
        exact fz
       ·refine bq.inl (⟨Z110.iF ⟨hih2.1,(bO.getD H1 h2).1⟩,oM hih2.2⟩) ?_
        rw [aJ h2 Bh2]
        exact fz
     ·refine bq.bif (fun c16=>?_) (fun c16=>?_)
      ·refine bq.bif (fun c17=>?_) (fun c17=>?_)
       ·refine bq.yes lm (bq.inl (⟨Z110.iF ⟨hih2.1,(bO.getD H1 h2).1⟩,oM hih2.2⟩) ?_)
        rw [aJ h2 Bh2]
        exact fz
       ·refine cr (Z125.aj (Z110.iF ⟨⟨hih2.1.1,hih2.1.2⟩,(bO.getD H1 h2).1⟩)) (bq.bif (fun c18=>?_) (fun c18=>?_))
        ·refine bq.yes lm (bq.inl (⟨Z110.iF ⟨hih2.1,(bO.getD H1 h2).1⟩,oM hih2.2⟩) ?_)
         rw [aJ h2 Bh2]
         exact fz
        ·refine bq.yes lm (bq.bif (fun c19=>?_) (fun c19=>?_))
         ·refine cr (Z44.aj (bO.getD H1 h2).2.1) (bq.inr ?_)
          exact fz
         ·refine bq.inl (⟨Z110.iF ⟨hih2.1,(bO.getD H1 h2).1⟩,oM hih2.2⟩) ?_
          rw [aJ h2 Bh2]
          exact fz
      ·refine bq.yes lm (bq.bif (fun c20=>?_) (fun c20=>?_))
       ·refine cr (Z44.aj (bO.getD H1 h2).2.1) (bq.inr ?_)
        exact fz
       ·refine bq.inl (⟨Z110.iF ⟨hih2.1,(bO.getD H1 h2).1⟩,oM hih2.2⟩) ?_
        rw [aJ h2 Bh2]
        exact fz
   ·refine cr (Z121.aj ⟨H3,(bO.getD H1 h2)⟩) (bq.bif (fun c21=>?_) (fun c21=>?_))
    ·refine bq.yes lm (bq.inl (⟨hih2.1,oM hih2.2⟩) ?_)
     rw [aJ h2 Bh2]
     exact fz
    ·refine bq.yes lm (bq.bif (fun c22=>?_) (fun c22=>?_))
     ·refine cr (Z44.aj (bO.getD H1 h2).2.1) (bq.inr ?_)
      exact fz
     ·refine bq.inl (⟨hih2.1,oM hih2.2⟩) ?_
      rw [aJ h2 Bh2]
      exact fz
  ·refine cr (Z121.aj ⟨H3,(bO.getD H1 h2)⟩) (bq.bif (fun c23=>?_) (fun c23=>?_))
   ·refine bq.yes lm (bq.inl (⟨hih2.1,oM hih2.2⟩) ?_)
    rw [aJ h2 Bh2]
    exact fz
   ·refine bq.yes lm (bq.bif (fun c24=>?_) (fun c24=>?_))
    ·refine cr (Z44.aj (bO.getD H1 h2).2.1) (bq.inr ?_)
     exact fz
    ·refine bq.inl (⟨hih2.1,oM hih2.2⟩) ?_
     rw [aJ h2 Bh2]
     exact fz
 ·simp only [step,SS]
  refine dH dn (⟨0,?_⟩)
  exact fz
def af:cC 89 aU:=L5 99 (fun _=>3) cG cX live step start mix aB bh (zE Z42.af Z79.af Z110.af Z121.af Z125.af Z44.af) Tryz.func89
def nH (z:Int)(l:aC)(now:Int)(y:aq)(k:av):av×Int:=
 let kn:=bif (Z79.md y.aT).2&&((Z79.md y.aT).1.bw==z) then Z110.md k y.aT else (k,6)
 (kn.1,bif (Z121.md z l y now==1)&&!((kn.2==1||(kn.2==2||kn.2==3))&&!Z125.md kn.1 z) then 3 else Z121.md z l y now)
def pW (z:Int)(l:aC)(now:Int)(y:aq)(s:List (List aa)×List aF×List Int):List (List aa)×List aF×List Int⊕cm:=
 bif (nH z l now y ⟨s.1,s.2.1⟩).2==1 then .inr ⟨(nH z l now y ⟨s.1,s.2.1⟩).1,y.bY,y.aQ,true,s.2.2++[(nH z l now y ⟨s.1,s.2.1⟩).2]⟩
 else .inl ((nH z l now y ⟨s.1,s.2.1⟩).1.aL,(nH z l now y ⟨s.1,s.2.1⟩).1.bp,s.2.2++[(nH z l now y ⟨s.1,s.2.1⟩).2])
def fin (s:List (List aa)×List aF×List Int):cm:=⟨⟨s.1,s.2.1⟩,false,⟨⟨#[]⟩,0,0,[]⟩,false,s.2.2⟩
def nR (a0:av)(a1:List aq)(a2:Int)(a3:aC)(a4:Int):md a0 a1 a2 a3 a4=eo (pW a2 a3 a4) fin a1 (a0.aL,a0.bp,[]):=by
 refine qz (fun y _ s=>?_) (fun s=>rfl)
 have h31:((3:Int)==1)=false:=rfl
 have h61:((6:Int)==1)=false:=rfl
 have h62:((6:Int)==2)=false:=rfl
 have h63:((6:Int)==3)=false:=rfl
 unfold pW nH
 cases g1:(Z79.md y.aT).2
 ·cases g2:(Z121.md a2 a3 y a4==1)<;>simp [g2,h31,h61,h62,h63]
 cases g3:((Z79.md y.aT).1.bw==a2)
 ·cases g2:(Z121.md a2 a3 y a4==1)<;>simp [g2,h31,h61,h62,h63]
 generalize Z110.md (⟨s.1,s.2.1⟩:av) y.aT=r
 cases g2:(Z121.md a2 a3 y a4==1)<;>cases g4:(r.2==1)<;>cases g5:(r.2==2)<;>cases g6:(r.2==3)<;>cases g7:Z125.md r.1 a2<;>simp [g2,g4,g5,g6,g7,h31]
def Am (z:Int)(l:aC)(now:Int)(y:aq)(k:av):Z110.Cz (nH z l now y k).1.aL<=Z110.Cz k.aL+(aq.size y+1)/\
  Z110.Fz (nH z l now y k).1.bp<=Z110.Fz k.bp+(2*Z110.Cz k.aL+aq.size y+1):=by
 have h:=Z110.grow k y.aT
 have hs:eC (fun y:aa=>aa.size y) y.aT<=aq.size y:=by unfold aq.size;omega
 unfold nH
 cases (Z79.md y.aT).2&&((Z79.md y.aT).1.bw==z)
 ·simp only [bg];omega
 ·simp only [aZ];omega
def vR {α:Type}(f:α->Nat)(x:α)(xs:List α):eC f (x::xs)=eC f xs+(f x+1):=by simp [eC];omega
def grow (z:Int)(l:aC)(now:Int):∀(xs:List aq) (s:List (List aa)×List aF×List Int),
  Z110.Cz (eo (pW z l now) fin xs s).bV.aL<=Z110.Cz s.1+eC (fun y:aq=>aq.size y) xs/\
  Z110.Fz (eo (pW z l now) fin xs s).bV.bp<=Z110.Fz s.2.1+xs.length*(2*(Z110.Cz s.1+eC (fun y:aq=>aq.size y) xs)+eC (fun y:aq=>aq.size y) xs)/\
  (eo (pW z l now) fin xs s).fK.length<=s.2.2.length+xs.length/\ah.size (eo (pW z l now) fin xs s).aQ<=eC (fun y:aq=>aq.size y) xs
 | [],s=>⟨Nat.le_add_right _ _,Nat.le_add_right _ _,Nat.le_refl _,zero_le _⟩
 | y::xs,s=>by
  have hg:=Am z l now y ⟨s.1,s.2.1⟩
  have hy:ah.size y.aQ<=aq.size y:=by unfold aq.size;omega
  rw [vR]
  unfold eo
  cases hb:(nH z l now y ⟨s.1,s.2.1⟩).2==1
  ·have e:pW z l now y s=.inl ((nH z l now y ⟨s.1,s.2.1⟩).1.aL,(nH z l now y ⟨s.1,s.2.1⟩).1.bp,s.2.2++[(nH z l now y ⟨s.1,s.2.1⟩).2]):=by unfold pW;rw [hb];rfl
   rw [e]
   obtain ⟨h1,h2,h3,h4⟩:=grow z l now xs ((nH z l now y ⟨s.1,s.2.1⟩).1.aL,(nH z l now y ⟨s.1,s.2.1⟩).1.bp,s.2.2++[(nH z l now y ⟨s.1,s.2.1⟩).2])
   simp only at h1 h2 h3 h4 hg ⊢
   generalize eC (fun y:aq=>aq.size y) xs=w at *
   generalize aq.size y=q at *
   generalize Z110.Cz (nH z l now y ⟨s.1,s.2.1⟩).1.aL=c1 at *
   generalize Z110.Cz s.1=c0 at *
   have hm:xs.length*(2*(c1+w)+w)<=xs.length*(2*(c0+(w+(q+1)))+(w+(q+1))):=Nat.mul_le_mul_left _ (by omega)
   rw [List.length_cons,Nat.succ_mul]
   rw [List.length_append] at h3
   refine ⟨by omega,by omega,by simp only [List.length_cons,List.length_nil] at h3;omega,by omega⟩
  ·have e:pW z l now y s=.inr ⟨(nH z l now y ⟨s.1,s.2.1⟩).1,y.bY,y.aQ,true,s.2.2++[(nH z l now y ⟨s.1,s.2.1⟩).2]⟩:=by unfold pW;rw [hb];rfl
   rw [e]
   simp only at hg ⊢
   generalize eC (fun y:aq=>aq.size y) xs=w at *
   generalize aq.size y=q at *
   generalize Z110.Cz s.1=c0 at *
   rw [List.length_cons,Nat.succ_mul,List.length_append]
   refine ⟨by omega,by omega,by simp only [List.length_cons,List.length_nil];omega,by omega⟩
def B0 {z:Int}{l:aC}{now:Int}{y:aq}{k:av}(hk:av.Sm (2^21) k)(hy:aq.Sm (2^21) y):av.Sm (2^21) (nH z l now y k).1:=by
 unfold nH
 cases (Z79.md y.aT).2&&((Z79.md y.aT).1.bw==z)
 ·exact hk
 ·exact Z110.iF ⟨hk,hy.1⟩
def vm {z:Int}{l:aC}{now:Int}:∀(xs:List aq) (s:List (List aa)×List aF×List Int),av.Sm (2^21) ⟨s.1,s.2.1⟩->(∀y∈xs,aq.Sm (2^21) y)->s.2.2.length+xs.length<=2^21->cm.Sm (2^21) (eo (pW z l now) fin xs s)
 | [],s,hk,_,hc=>⟨hk,⟨zero_le _,bO.nil⟩,hc,fun _ _=>trivial⟩
 | y::xs,s,hk,hx,hc=>by
  have hy:=hx y (by simp)
  have he:=B0 (z:=z) (l:=l) (now:=now) hk hy
  simp only [List.length_cons] at hc
  unfold eo
  cases hb:(nH z l now y ⟨s.1,s.2.1⟩).2==1
  ·have e:pW z l now y s=.inl ((nH z l now y ⟨s.1,s.2.1⟩).1.aL,(nH z l now y ⟨s.1,s.2.1⟩).1.bp,s.2.2++[(nH z l now y ⟨s.1,s.2.1⟩).2]):=by unfold pW;rw [hb];rfl
   rw [e]
   exact vm xs _ he (fun y hy=>hx y (by simp [hy])) (by simp only [List.length_append,List.length_cons,List.length_nil];omega)
  ·have e:pW z l now y s=.inr ⟨(nH z l now y ⟨s.1,s.2.1⟩).1,y.bY,y.aQ,true,s.2.2++[(nH z l now y ⟨s.1,s.2.1⟩).2]⟩:=by unfold pW;rw [hb];rfl
   rw [e]
   exact ⟨he,hy.2.1,by simp only [List.length_append,List.length_cons,List.length_nil];omega,fun _ _=>trivial⟩
def iF {a0:av}{a1:List aq}{a2:Int}{a3:aC}{a4:Int}(hg:gd a0 a1 a2 a3 a4):cm.Sm (2^21) (md a0 a1 a2 a3 a4):=by
 rw [nR]
 exact vm a1 _ hg.1 hg.2.1.2 (by have:=hg.2.1.1;simp only [List.length_nil];omega)
end Z126
namespace Z127
def F (x0:cu)(x1:Int)(x2:aC)(x3:bf)(x4:Int):aI:=(call (Z48.R x0) fun v1=>(call (Z121.R (x1,x2,x3,x4)) fun v2=>(cond (v2 != 1) (ret (v1:cu)) (call (Z47.R x3) fun v3=>(call (Z52.R (x0,x1,x2)) fun v4=>(cond (v4>=0) (m2 v4 (v1.aN.length:Int) (ret ((⟨(List.set v1.aN (toNat v4) (bZ.enc (⟨x1,x2,v3⟩:bZ)))⟩:cu):cu))) (cond ((x0.aN.length:Int)<16) (cg (eX (((v1.aN.length:Int)+1)*328)) (ret ((⟨(v1.aN++[(bZ.enc (⟨x1,x2,v3⟩:bZ))])⟩:cu):cu))) (ret (v1:cu)))))))))
def md (a0:aG)(a1:Int)(a2:aC)(a3:aq)(a4:Int):aG:=(cond ((Z121.md a1 a2 a3 a4) != 1) a0 (cond ((Z52.md a0 a1 a2)>=0) (⟨(List.set a0.aN (toNat (Z52.md a0 a1 a2)) (⟨a1,a2,a3⟩:aA))⟩:aG) (cond ((a0.aN.length:Int)<16) (⟨(a0.aN++[(⟨a1,a2,a3⟩:aA)])⟩:aG) a0)))
def gd (a0:aG)(a1:Int)(a2:aC)(a3:aq)(a4:Int):Prop:=(aG.Sm (2^21) a0)/\(a2.size<=(2^21))/\(aq.Sm (2^21) a3)
def R:=RR (p5 gd) (u5 md)
def aj {a0 a1 a2 a3 a4}(h:gd a0 a1 a2 a3 a4):R ((aG.r a0),a1,a2,(aq.r a3),a4)=some (aG.r (md a0 a1 a2 a3 a4)):=wz h
def aU:=CN [.agg xV,pI,pS,.agg sJ,pI] (.agg f46) RT.dec R
def bh (a0)(a1)(a2)(a3)(a4)(hg:gd a0 a1 a2 a3 a4):F (aG.r a0) a1 a2 (aq.r a3) a4=ret (aG.r (md a0 a1 a2 a3 a4)):=by
 obtain ⟨H0,H2,H3⟩:=hg
 unfold F md
 try simp only [SS]
 refine ct (Z48.aj H0) ?_
 try simp only [SS]
 refine ct (Z121.aj ⟨H2,H3⟩) ?_
 refine bt (fun b:aG=>ret ((aG.r b):cu)) (fun c1=>?_) (fun c1=>?_)
 ·all_goals exact fz
 ·have dc1:=c1
  try simp only [DC] at dc1
  refine ct (Z47.aj H3) ?_
  try simp only [SS]
  refine ct (Z52.aj H0) ?_
  have fv4_:=Z52.fa a0 a1 a2
  refine bt (fun b:aG=>ret ((aG.r b):cu)) (fun c2=>?_) (fun c2=>?_)
  ·have dc2:=c2
   try simp only [DC] at dc2
   refine ak dt ?_
   refine ak (have:=(H0).1;dt) ?_
   all_goals exact fz
  ·have dc2:=c2
   try simp only [DC] at dc2
   refine bt (fun b:aG=>ret ((aG.r b):cu)) (fun c3=>?_) (fun c3=>?_)
   ·have dc3:=c3
    try simp only [DC] at dc3
    refine ak (have:=(H0).1;lm) ?_
    all_goals exact fz
   ·all_goals exact fz
def af:cC 90 aU:=W5 50 F mix aB bh (kP Z48.af Z121.af Z47.af Z52.af) Tryz.func90
def iF {a0:aG}{a1:Int}{a2:aC}{a3:aq}{a4:Int}(hg:gd a0 a1 a2 a3 a4):aG.Sm (2^21) (md a0 a1 a2 a3 a4):=by
 unfold gd at hg
 obtain ⟨h0,h1,h2⟩:=hg
 have hs:aA.Sm (2^21) ⟨a1,a2,a3⟩:=⟨h1,h2⟩
 unfold md
 simp only [Bool.cond_eq_ite]
 repeat' split
 ·exact h0
 ·exact bO.set h0 hs
 ·rename_i hl
  have hl:(a0.aN.length:Int)<16:=by simpa using hl
  exact bO.app (a:=16) (b:=1) ⟨by omega,h0.2⟩ (bO.one hs) (by decide)
 ·exact h0
end Z127
namespace Z128
def F (x0:dG):aI:=(cond (!x0.gU) (ret (((⟨(⟨#[]⟩:aC),0,0,[]⟩),false):bH×Bool)) (cond (!x0.bY) (ret (((⟨(⟨#[]⟩:aC),0,0,[]⟩),false):bH×Bool)) (call (Z44.R x0.aQ) fun v1=>ret ((v1,true):bH×Bool))))
def md (a0:cm):ah×Bool:=(cond (!a0.gU) ((⟨((⟨#[]⟩:aC)),0,0,[]⟩),false) (cond (!a0.bY) ((⟨((⟨#[]⟩:aC)),0,0,[]⟩),false) (a0.aQ,true)))
def gd (a0:cm):Prop:=(cm.Sm (2^21) a0)
def R:=RR gd md
def aj {a0}(h:gd a0):R (cm.r a0)=some ((ah.r (md a0).1),(md a0).2):=cT h
def aU:=CN [.agg BL] (.iL [(true,f38),(false,[fB])]) RT.dec R
def bh (a0)(H0:gd a0):F (cm.r a0)=ret ((ah.r (md a0).1),(md a0).2):=by
 refine bt (fun b:ah×Bool=>ret (((ah.r b.1),b.2):bH×Bool)) (fun c1=>fz) (fun c1=>?_)
 exact bt (fun b:ah×Bool=>ret (((ah.r b.1),b.2):bH×Bool)) (fun c2=>fz) (fun c2=>ct (Z44.aj H0.2.1) fz)
def af:cC 91 aU:=W1 16 F mix aB bh (cJ Z44.af) Tryz.func91
end Z128
namespace Z129
def F (x0:dG):aI:=(cond x0.gU (ret ((!x0.bY))) (ret false))
def md (a0:cm):Bool:=(cond a0.gU ((!a0.bY)) false)
def gd (a0:cm):Prop:=True
def R:=RR gd md
def aj {a0}(h:gd a0):R (cm.r a0)=some (md a0):=cT h
def aU:=CN [.agg BL] oB RT.dec R
def bh (a0)(hg:gd a0):F (cm.r a0)=ret (md a0):=by
 refine bs (fun c1=>?_) (fun _=>rfl)
 exact fz
def af:cC 92 aU:=W1 10 F mix aB bh .nil Tryz.func92
end Z129
namespace Z130
inductive Pt where
 | p0 (a:aD) (b c:Int) (d:aD) (e:Int) (f:aC) (g h i j:Int) (k:aC) (l m n:Int) (o p q s:aD)
def cG:Pt->List V
 | .p0 a b c d e f g h i j k l m n o p q s=>[.sl none 138 a,.int .i64 b,.cD 0 0,.cD 1 0,.cD 2 0,.int .i64 c,.sl none 9 d,.cD 1 0]
def cX:Pt->List aW
 | .p0 a b c d e f g h i j k l m n o p q s=>[.box [.nil,.nil,.int .i64 e,.str f,.int .i64 g,.int .i64 h,.nil,.nil,.int .i64 i,.nil],.box [.own 3,.own 4,.int .i64 j,.str k,.int .i64 l,.int .i64 m,.nil,.own 5,.int .i64 n],.box [.own 6],.row 120 o,.row 180 p,.row 3 q,.row 148 s]
def step (J:Pt->aI):Pt->aI
 | .p0 a b c d e f g h i j k l m n o p q s=>(cg (eX (((q.length:Int)+1)*8)) (cg ((0:Int)<(d.length:Int)) (call (Z53.R ((⟨s⟩:cu),c,(qA d 0))) fun v1=>(cg ((0:Int)<(d.length:Int)) (call (Z104.R (a,c,(qA d 0))) fun v2=>(cg (eX (((1:Int)+(v2.length:Int))*304)) (cg ((0:Int)<(d.length:Int)) (call (Z126.R ((⟨o,p⟩:bu),([(bf.enc v1)]++v2),c,(qA d 0),b)) fun v3=>(cond v3.gU (cg ((0:Int)<(d.length:Int)) (cg ((0:Int)<=(i64.wrap ((v3.fK.length:Int) - 1))) (cg ((i64.wrap ((v3.fK.length:Int) - 1))<(([(bf.enc v1)]++v2).length:Int)) (call (Z127.R ((⟨s⟩:cu),c,(qA d 0),(bf.at ([(bf.enc v1)]++v2) (toNat (i64.wrap ((v3.fK.length:Int) - 1)))),b)) fun v4=>(call (Z128.R v3) fun v5=>(call (Z129.R v3) fun v6=>(cond v6 (ret ((⟨(⟨v3.bV,2,(⟨k,l,m,[]⟩:bH),(q++[[L.int c]]),n⟩:dD),v4⟩:eG):eG)) (cond (!v5.2) (ret ((⟨(⟨v3.bV,3,(⟨k,l,m,[]⟩:bH),(q++[[L.int c]]),n⟩:dD),v4⟩:eG):eG)) (cond (v5.1.bI==3) (call (Z43.R v5.1.bz) fun v7=>(cg ((1:Int)<=(d.length:Int)) (cg ((d.length:Int)<=(d.length:Int)) (cg (eX (((v7.length:Int)+((List.take (toNat ((d.length:Int) - 1)) (List.drop 1 d)).length:Int))*16)) (cond (n>=3) (ret ((⟨(⟨v3.bV,5,(⟨k,l,m,[]⟩:bH),(q++[[L.int c]]),n⟩:dD),v4⟩:eG):eG)) (call (Z51.R (v7++(List.take (toNat ((d.length:Int) - 1)) (List.drop 1 d)))) fun v8=>(cond (!v8) (ret ((⟨(⟨v3.bV,5,(⟨k,l,m,[]⟩:bH),(q++[[L.int c]]),n⟩:dD),v4⟩:eG):eG)) (J (.p0 a b v5.1.bX (v7++(List.take (toNat ((d.length:Int) - 1)) (List.drop 1 d))) e f g h i j k l m (i64.wrap (n+1)) v3.bV.aL v3.bV.bp (q++[[L.int c]]) v4.aN))))))))) (cond ((d.length:Int)==1) (ret ((⟨(⟨v3.bV,1,v5.1,(q++[[L.int c]]),n⟩:dD),v4⟩:eG):eG)) (cond (v5.1.bI != 2) (ret ((⟨(⟨v3.bV,4,(⟨k,l,m,[]⟩:bH),(q++[[L.int c]]),n⟩:dD),v4⟩:eG):eG)) (cg ((1:Int)<=(d.length:Int)) (cg ((d.length:Int)<=(d.length:Int)) (J (.p0 a b v5.1.bX (List.take (toNat ((d.length:Int) - 1)) (List.drop 1 d)) e f g h i j k l m n v3.bV.aL v3.bV.bp (q++[[L.int c]]) v4.aN))))))))))))))) (call (Z128.R v3) fun v9=>(call (Z129.R v3) fun v10=>(cond v10 (ret ((⟨(⟨v3.bV,2,(⟨k,l,m,[]⟩:bH),(q++[[L.int c]]),n⟩:dD),(⟨s⟩:cu)⟩:eG):eG)) (cond (!v9.2) (ret ((⟨(⟨v3.bV,3,(⟨k,l,m,[]⟩:bH),(q++[[L.int c]]),n⟩:dD),(⟨s⟩:cu)⟩:eG):eG)) (cond (v9.1.bI==3) (call (Z43.R v9.1.bz) fun v11=>(cg ((1:Int)<=(d.length:Int)) (cg ((d.length:Int)<=(d.length:Int)) (cg (eX (((v11.length:Int)+((List.take (toNat ((d.length:Int) - 1)) (List.drop 1 d)).length:Int))*16)) (cond (n>=3) (ret ((⟨(⟨v3.bV,5,(⟨k,l,m,[]⟩:bH),(q++[[L.int c]]),n⟩:dD),(⟨s⟩:cu)⟩:eG):eG)) (call (Z51.R (v11++(List.take (toNat ((d.length:Int) - 1)) (List.drop 1 d)))) fun v12=>(cond (!v12) (ret ((⟨(⟨v3.bV,5,(⟨k,l,m,[]⟩:bH),(q++[[L.int c]]),n⟩:dD),(⟨s⟩:cu)⟩:eG):eG)) (J (.p0 a b v9.1.bX (v11++(List.take (toNat ((d.length:Int) - 1)) (List.drop 1 d))) e f g h i j k l m (i64.wrap (n+1)) v3.bV.aL v3.bV.bp (q++[[L.int c]]) s))))))))) (cond ((d.length:Int)==1) (ret ((⟨(⟨v3.bV,1,v9.1,(q++[[L.int c]]),n⟩:dD),(⟨s⟩:cu)⟩:eG):eG)) (cond (v9.1.bI != 2) (ret ((⟨(⟨v3.bV,4,(⟨k,l,m,[]⟩:bH),(q++[[L.int c]]),n⟩:dD),(⟨s⟩:cu)⟩:eG):eG)) (cg ((1:Int)<=(d.length:Int)) (cg ((d.length:Int)<=(d.length:Int)) (J (.p0 a b v9.1.bX (List.take (toNat ((d.length:Int) - 1)) (List.drop 1 d)) e f g h i j k l m n v3.bV.aL v3.bV.bp (q++[[L.int c]]) s))))))))))))))))))))
def start (J:Pt->aI)(x0:bu)(x1:cu)(x2:aD)(x3:Int)(x4:aD)(x5:Int):aI:=(call (Z42.R x0) fun v1=>(call (Z48.R x1) fun v2=>(call (Z51.R x4) fun v3=>(cond (!v3) (ret ((⟨(⟨v1,6,(⟨(⟨#[]⟩:aC),0,0,[]⟩),[],0⟩),v2⟩):eG)) (call (Z43.R x4) fun v4=>J (.p0 x2 x5 x3 v4 0 ⟨#[]⟩ 0 0 0 6 ⟨#[]⟩ 0 0 0 v1.aL v1.bp [] v2.aN))))))
def live:Nat->Live:=fL [(7,[(2,none),(5,none),(12,none),(13,none),(14,none),(15,none),(16,some 1099511627785),(13,some 7340035)])]
def nx (l:cm)(mv:Int)(p:List aC):(Int×ah)⊕(Int×Int×List aC):=
 bif !l.gU then .inl (3,⟨⟨#[]⟩,0,0,[]⟩) else bif !l.bY then .inl (2,⟨⟨#[]⟩,0,0,[]⟩)
 else bif l.aQ.bI==3 then (cond (mv>=3) (.inl (5,⟨⟨#[]⟩,0,0,[]⟩)) (bif !Z51.md (l.aQ.bz++p.tail) then .inl (5,⟨⟨#[]⟩,0,0,[]⟩) else .inr (mv+1,l.aQ.bX,l.aQ.bz++p.tail)))
 else bif (p.tail.length:Int)==0 then .inl (1,l.aQ) else bif l.aQ.bI==2 then .inr (mv,l.aQ.bX,p.tail) else .inl (4,⟨⟨#[]⟩,0,0,[]⟩)
def rs {σ:Type}(look:σ->av->Int->aC->cm×σ):Nat->σ->av->List Int->Int->Int->List aC->bF×σ
 | 0,c,k,zs,mv,_,_=>(⟨k,0,⟨⟨#[]⟩,0,0,[]⟩,zs,mv⟩,c)
 | n+1,c,k,zs,mv,z,p=>match nx (look c k z (p.getD 0 ⟨#[]⟩)).1 mv p with
  | .inl q=>(⟨(look c k z (p.getD 0 ⟨#[]⟩)).1.bV,q.1,q.2,zs++[z],mv⟩,(look c k z (p.getD 0 ⟨#[]⟩)).2)
  | .inr q=>rs look n (look c k z (p.getD 0 ⟨#[]⟩)).2 (look c k z (p.getD 0 ⟨#[]⟩)).1.bV (zs++[z]) q.1 q.2.1 q.2.2
def xG {σ:Type}{look:σ->av->Int->aC->cm×σ}{n:Nat}{c:σ}{k:av}{zs:List Int}{mv z:Int}{p:List aC}{q:Int×ah}(h:nx (look c k z (p.getD 0 ⟨#[]⟩)).1 mv p=.inl q) :
  rs look (n+1) c k zs mv z p=(⟨(look c k z (p.getD 0 ⟨#[]⟩)).1.bV,q.1,q.2,zs++[z],mv⟩,(look c k z (p.getD 0 ⟨#[]⟩)).2):=by
 show (match nx (look c k z (p.getD 0 ⟨#[]⟩)).1 mv p with | .inl q=>_ | .inr q=>_)=_
 rw [h]
def xe {σ:Type}{look:σ->av->Int->aC->cm×σ}{n:Nat}{c:σ}{k:av}{zs:List Int}{mv z:Int}{p:List aC}{q:Int×Int×List aC}(h:nx (look c k z (p.getD 0 ⟨#[]⟩)).1 mv p=.inr q) :
  rs look (n+1) c k zs mv z p=rs look n (look c k z (p.getD 0 ⟨#[]⟩)).2 (look c k z (p.getD 0 ⟨#[]⟩)).1.bV (zs++[z]) q.1 q.2.1 q.2.2:=by
 show (match nx (look c k z (p.getD 0 ⟨#[]⟩)).1 mv p with | .inl q=>_ | .inr q=>_)=_
 rw [h]
def yj {Pt:Type}{step:(Pt->aI)->Pt->aI}{p:Pt}{r:aI}(h:∃m,step (iter step m) p=r):∃m,iter step m p=r:=h.elim fun m h=>⟨m+1,h⟩
def bN (s:List aR)(c:aG)(z:Int)(l:aC):List aq:=Z53.md c z l::Z104.md s z l
def lk (s:List aR)(now:Int)(c:aG)(k:av)(z:Int)(l:aC):cm×aG:=
 (Z126.md k (bN s c z l) z l now,bif (Z126.md k (bN s c z l) z l now).gU then Z127.md c z l ((bN s c z l).getD ((Z126.md k (bN s c z l) z l now).fK.length - 1) aq.zero) now else c)
def dn (z:Int)(l:aC)(now:Int):∀(xs:List aq) (s:List (List aa)×List aF×List Int),(eo (Z126.pW z l now) Z126.fin xs s).gU=true->1<=(eo (Z126.pW z l now) Z126.fin xs s).fK.length
 | [],s,h=>by unfold eo Z126.fin at h;cases h
 | y::xs,s,h=>by
  unfold eo at h ⊢
  revert h
  cases hb:Z126.pW z l now y s with
  | inl s'=>exact dn z l now xs s'
  | inr b=>
   intro _
   unfold Z126.pW at hb
   revert hb
   cases ((Z126.nH z l now y ⟨s.1,s.2.1⟩).2==1)
   ·intro hb;cases hb
   ·intro hb
    injection hb with hb
    subst hb
    simp
def Dx {k:av}{xs:List aq}{z:Int}{l:aC}{now:Int}(h:(Z126.md k xs z l now).gU=true):1<=(Z126.md k xs z l now).fK.length/\(Z126.md k xs z l now).fK.length<=xs.length:=by
 have hg:=(Z126.grow z l now xs (k.aL,k.bp,[])).2.2.1
 rw [Z126.nR] at h ⊢
 exact ⟨dn z l now xs _ h,by simpa using hg⟩
def xE {s:List aR}{c:aG}{z:Int}{l:aC}(hc:aG.Sm (2^21) c)(hs:bO (2^21) (fun y:aR=>aR.Sm (2^21) y) s)(hl:l.size<=2^21):bO (2^21) (fun y:aq=>aq.Sm (2^21) y) (bN s c z l):=by
 have h1:=Z104.iF (a1:=z) ⟨hs,hl⟩
 have h2:=Z53.iF (a1:=z) (a2:=l) hc
 have h3:=Z104.A4 s z l
 refine ⟨by unfold bN;simp only [List.length_cons];omega,fun x hx=>?_⟩
 rcases List.mem_cons.1 hx with rfl | hx
 ·exact h2
 ·exact h1.2 x hx
def az:aq.Sm (2^21) aq.zero:=⟨bO.nil,⟨zero_le _,bO.nil⟩,bO.nil,⟨⟨zero_le _,bO.nil⟩,⟨zero_le _,bO.nil⟩,bO.nil,bO.nil⟩⟩
def Br {s:List aR}{now:Int}{c:aG}{k:av}{z:Int}{l:aC}(hs:bO (2^21) (fun y:aR=>aR.Sm (2^21) y) s)(hc:aG.Sm (2^21) c)(hk:av.Sm (2^21) k)(hl:l.size<=2^21):cm.Sm (2^21) (lk s now c k z l).1/\aG.Sm (2^21) (lk s now c k z l).2:=by
 have ha:=xE (z:=z) hc hs hl
 refine ⟨Z126.iF ⟨hk,ha,hl⟩,?_⟩
 unfold lk
 cases (Z126.md k (bN s c z l) z l now).gU
 ·exact hc
 ·exact Z127.iF ⟨hc,hl,bO.sZ ha az⟩
def md (a0:av)(a1:aG)(a2:List aR)(a3:Int)(a4:List aC)(a5:Int):dK:=(cond (!Z51.md a4) ⟨⟨a0,6,⟨⟨#[]⟩,0,0,[]⟩,[],0⟩,a1⟩ ⟨(rs (lk a2 a5) 17 a1 a0 [] 0 a3 a4).1,(rs (lk a2 a5) 17 a1 a0 [] 0 a3 a4).2⟩)
def gd (a0:av)(a1:aG)(a2:List aR)(a3:Int)(a4:List aC)(a5:Int):Prop:=(av.Sm (2^21) a0)/\(aG.Sm (2^21) a1)/\(bO (2^21) (fun y:aR=>aR.Sm (2^21) y) a2)/\(bO (2^21) (fun y:aC=>y.size<=(2^21)) a4)
def R:=RR (p6 gd) (u6 md)
def aj {a0 a1 a2 a3 a4 a5}(h:gd a0 a1 a2 a3 a4 a5):R ((av.r a0),(aG.r a1),(a2.map aR.row),a3,(a4.map cK),a5)=some (dK.r (md a0 a1 a2 a3 a4 a5)):=AL h
def aU:=CN [.agg uY,.agg xV,pL 138,pI,pL 9,pI] (.agg f69) RT.dec R
def bh (a0)(a1)(a2)(a3)(a4)(a5)(hg:gd a0 a1 a2 a3 a4 a5):∃n,start (iter step n) (av.r a0) (aG.r a1) (a2.map aR.row) a3 (a4.map cK) a5=ret (dK.r (md a0 a1 a2 a3 a4 a5)):=by
 obtain ⟨H0,HC,H1,H3⟩:=hg
 have key:∀(n:Nat) (c:aG) (k:av) (zs:List Int) (mv z:Int) (p:List aC),aG.Sm (2^21) c->av.Sm (2^21) k->Z51.md p=true->0<=mv->mv<=3->(3 - mv)*4+(p.length:Int)<=n->zs.length+n<=100->
   ∃m,iter step m (Pt.p0 (a2.map aR.row) a5 z (p.map cK) 0 ⟨#[]⟩ 0 0 0 6 ⟨#[]⟩ 0 0 mv (k.aL.map (eg aa.row)) (k.bp.map aF.row) (zs.map bk) (c.aN.map aA.row))=ret (dK.r ⟨(rs (lk a2 a5) n c k zs mv z p).1,(rs (lk a2 a5) n c k zs mv z p).2⟩):=by
  intro n
  induction n with
  | zero=>intro c k zs mv z p _ _ hp _ _ hm _;have:=(Z51.tr hp).1;omega
  | succ n ih=>
   intro c k zs mv z p hc hk hp h0 h3 hm hz
   obtain ⟨⟨p1,p4⟩,p8⟩:=Z51.tr hp
   obtain ⟨x,xs,rfl⟩:∃x xs,p=x::xs:=by
    cases p with
    | nil=>simp at p1
    | cons x xs=>exact ⟨x,xs,rfl⟩
   have hx:x.size<=2^21:=le_trans (p8 x (by simp)) (by decide)
   have hxs:∀y∈xs,y.size<=2^22:=fun y hy=>le_trans (p8 y (by simp [hy])) (by decide)
   have hans:=xE (z:=z) hc H1 hx
   have hlk2:=Br (now:=a5) (z:=z) H1 hc hk hx
   have hat:qA ((x::xs).map cK) 0=x:=rfl
   have ht:List.take (toNat (((xs.length+1:Nat):Int) - 1)) (List.drop 1 ((x::xs).map cK))=xs.map cK:=by
    simp only [List.map_cons,List.drop_succ_cons,List.drop_zero]
    exact List.take_of_length_le (by simp)
   simp only [List.length_cons] at p4 hm
   have hal:(bN a2 c z x).length=1+(Z104.md a2 z x).length:=by unfold bN;simp only [List.length_cons];omega
   have h4:=Z104.A4 a2 z x
   have hrow:[bf.enc (aq.r (Z53.md c z x))]++(Z104.md a2 z x).map aq.row=(bN a2 c z x).map aq.row:=rfl
   refine yj ?_
   simp only [step,hat,List.length_map,List.length_cons,ht]
   refine dQ lm (dQ dt ?_)
   refine cx (Z53.aj hc) (dQ dt ?_)
   refine cx (Z104.aj ⟨H1,hx⟩) ?_
   simp only [hrow,List.length_map]
   refine dQ (iJ (by omega)) (dQ dt ?_)
   refine cx (Z126.aj ⟨hk,hans,hx⟩) ?_
   have hd2:=Dx (k:=k) (xs:=bN a2 c z x) (z:=z) (l:=x) (now:=a5)
   have hcase:∀q,nx (lk a2 a5 c k z x).1 mv (x::xs)=.inl q->rs (lk a2 a5) (n+1) c k zs mv z (x::xs)=(⟨(lk a2 a5 c k z x).1.bV,q.1,q.2,zs++[z],mv⟩,(lk a2 a5 c k z x).2):=fun q hq=>xG hq
   have hcase2:∀q,nx (lk a2 a5 c k z x).1 mv (x::xs)=.inr q->rs (lk a2 a5) (n+1) c k zs mv z (x::xs)=rs (lk a2 a5) n (lk a2 a5 c k z x).2 (lk a2 a5 c k z x).1.bV (zs++[z]) q.1 q.2.1 q.2.2:=fun q hq=>xe hq
   obtain ⟨hl1,hl2⟩:=hlk2
   have e1:(lk a2 a5 c k z x).1=Z126.md k (bN a2 c z x) z x a5:=rfl
   have e2:(lk a2 a5 c k z x).2=bif (Z126.md k (bN a2 c z x) z x a5).gU then Z127.md c z x ((bN a2 c z x).getD ((Z126.md k (bN a2 c z x) z x a5).fK.length - 1) aq.zero) a5 else c:=rfl
   rw [e1] at hl1
   rw [e2] at hl2
   simp only [e1,e2] at hcase hcase2
   clear e1 e2
   generalize Z126.md k (bN a2 c z x) z x a5=l at hcase hcase2 hl1 hl2 hd2 ⊢
   obtain ⟨lk0,lf,le,ld,lc⟩:=l
   unfold nx at hcase hcase2
   cases ld
   ·refine dH rfl (cx (Z128.aj hl1) ?_)
    refine cx (Z129.aj trivial) ?_
    unfold Z129.md Z128.md
    exact ⟨0,by rw [hcase _ rfl];exact fz⟩
   obtain ⟨d1,d2⟩:=hd2 rfl
   simp only at d1 d2
   refine dQ rfl (dQ dt ?_)
   have hw:i64.wrap (((lc.map bk).length:Int) - 1)=((lc.length - 1:Nat):Int):=by rw [List.length_map,wi _ (by omega)];omega
   have hat2:bf.at ((bN a2 c z x).map aq.row) (toNat ((lc.length - 1:Nat):Int))=((bN a2 c z x).getD (lc.length - 1) aq.zero).r:=aq.dN
   refine dQ (by show decide ((0:Int)<=i64.wrap (((lc.map bk).length:Int) - 1))=true;rw [hw];apply decide_eq_true;omega) (dQ (by show decide (i64.wrap (((lc.map bk).length:Int) - 1)<_)=true;rw [hw];apply decide_eq_true;omega) ?_)
   have hke:=Z127.aj (a1:=z) (a3:=(bN a2 c z x).getD (lc.length - 1) aq.zero) (a4:=a5) ⟨hc,hx,bO.sZ hans az⟩
   rw [<-hat2,<-hw] at hke
   refine cx hke (cx (Z128.aj hl1) ?_)
   refine cx (Z129.aj trivial) ?_
   simp only [aZ] at hl2 hcase hcase2
   generalize Z127.md c z x ((bN a2 c z x).getD (lc.length - 1) aq.zero) a5=c2 at hl2 hcase hcase2 ⊢
   unfold Z129.md Z128.md
   cases lf
   ·exact ⟨0,by rw [hcase _ rfl];exact fz⟩
   simp only [Bool.not_true,bg,aZ,List.tail_cons] at hcase hcase2 ⊢
   have hpl:bO (2^21) (fun y:aC=>y.size<=(2^21)) le.bz:=hl1.2.1.2
   have hpl1:le.bz.length<=2^21:=hpl.1
   have hzz:zs.map bk++[[L.int z]]=(zs++[z]).map bk:=by simp [bk]
   simp only [SS]
   cases hk3:(le.bI==3)
   ·simp only [hk3,bg] at hcase hcase2 ⊢
    by_cases hx0:xs.length=0
    ·have e0:((xs.length:Int)==0)=true:=by simp [hx0]
     rw [e0] at hcase
     exact ⟨0,by rw [hcase _ rfl];exact ak (beq_iff_eq.2 (by omega)) fz⟩
    ·have e0:((xs.length:Int)==0)=false:=by simpa using hx0
     rw [e0] at hcase hcase2
     refine dH (beq_eq_false_iff_ne.2 (by omega)) ?_
     cases hk2:(le.bI==2)
     ·simp only [hk2,bg] at hcase
      exact ⟨0,by rw [hcase _ rfl];exact ak (by simpa using hk2) fz⟩
     ·simp only [hk2,bg,aZ] at hcase2
      refine dH (by simpa using hk2) (dQ dt (dQ dt ?_))
      have hip:Z51.md xs=true:=Z51.tl hp hx0
      rw [hcase2 _ rfl,hzz]
      exact ih c2 lk0 (zs++[z]) mv le.bX xs hl2 hl1.1 hip h0 h3 (by omega) (by simp;omega)
   ·simp only [hk3,aZ] at hcase hcase2 ⊢
    refine cx (Z43.aj hpl) (dQ dt (dQ dt (dQ (by have :(le.bz.map cK).length=le.bz.length:=List.length_map ..;have :(xs.map cK).length=xs.length:=List.length_map ..;exact iJ (by omega)) ?_)))
    by_cases hmv:mv>=3
    ·rw [decide_eq_true hmv] at hcase ⊢
     exact ⟨0,by rw [hcase _ rfl];exact fz⟩
    ·rw [decide_eq_false hmv] at hcase hcase2 ⊢
     simp only [bg] at hcase hcase2 ⊢
     have e:le.bz.map cK++xs.map cK=(le.bz++xs).map cK:=by simp
     rw [e]
     refine cx (Z51.aj ⟨by rw [List.length_append];omega,fun y hy=>(List.mem_append.1 hy).elim (fun h=>le_trans (hpl.2 y h) (by decide)) (hxs y)⟩) ?_
     cases hip:Z51.md (le.bz++xs)
     ·rw [hip] at hcase
      exact ⟨0,by rw [hcase _ rfl];exact fz⟩
     ·rw [hip] at hcase2
      have ht:=Z51.tr hip
      rw [hcase2 _ rfl,hzz,wi _ (by omega)]
      exact ih c2 lk0 (zs++[z]) (mv+1) le.bX (le.bz++xs) hl2 hl1.1 hip (by omega) (by omega) (by omega) (by simp;omega)
 unfold start md
 refine cx (Z42.aj H0) (cx (Z48.aj HC) ?_)
 refine cx (Z51.aj (bO.mono H3 (by decide) (fun y hy=>le_trans hy (by decide)))) ?_
 cases hp:Z51.md a4
 ·exact ⟨0,rfl⟩
 ·simp only [Bool.not_true,bg]
  exact cx (Z43.aj H3) (key 17 a1 a0 [] 0 a3 a4 HC H0 hp (by decide) (by decide) (by have:=(Z51.tr hp).1;omega) (by simp))
def af:cC 33 aU:=L6 152 (fun _=>7) cG cX live step start mix aB bh (CC Z42.af Z48.af Z51.af Z43.af Z53.af Z104.af Z126.af Z127.af Z128.af Z129.af) Tryz.func33
def Cl (c:aG)(z:Int)(l:aC):aq.size (Z53.md c z l)<=aG.size c:=by
 unfold Z53.md
 cases decide (Z52.md c z l<0)
 ·have h:=kU (f:=fun y:aA=>aA.size y) (xs:=c.aN) (i:=toNat (Z52.md c z l)) (z:=aA.zero) rfl
  refine le_trans ?_ h
  show aq.size (c.aN.getD _ aA.zero).bS<=aA.size (c.aN.getD _ aA.zero)
  unfold aA.size
  omega
 ·exact zero_le _
def BD (s:List aR)(c:aG)(z:Int)(l:aC)(hS:eC (fun y:aR=>aR.size y) s<=2^20):eC (fun y:aq=>aq.size y) (bN s c z l)<=aG.size c+6291457:=by
 have h1:=Cl c z l
 have h2:=Z104.sz s z l
 unfold bN
 rw [Z126.vR]
 omega
def Cr (c:aG)(z:Int)(l:aC)(a:aq)(now:Int):aG.size (Z127.md c z l a now)<=aG.size c+(l.size+aq.size a+1):=by
 have h2:aG.size (Z127.md c z l a now)<=aG.size c+(aA.size ⟨z,l,a⟩+1):=by
  unfold aG.size Z127.md
  generalize (Z121.md z l a now != 1)=b1
  generalize decide ((c.aN.length:Int)<16)=b3
  cases b1<;>cases decide (Z52.md c z l>=0)<;>cases b3<;>simp only [aZ,bg]<;>first | exact uN c.aN _ _ | exact sE c.aN _ | exact Nat.le_add_right _ _
 exact h2
def Ci {W:Nat}(s:List aR)(now:Int)(c:aG)(k:av)(z:Int)(l:aC)(hS:eC (fun y:aR=>aR.size y) s<=2^20)(hl:l.size<=8)(hW:aG.size c+6291457<=W) :
  Z110.Cz (lk s now c k z l).1.bV.aL<=Z110.Cz k.aL+W/\Z110.Fz (lk s now c k z l).1.bV.bp<=Z110.Fz k.bp+5*(2*(Z110.Cz k.aL+W)+W)/\ah.size (lk s now c k z l).1.aQ<=W/\aG.size (lk s now c k z l).2<=aG.size c+(8+(aG.size c+6291457)+1):=by
 have hg:=Z126.grow z l now (bN s c z l) (k.aL,k.bp,[])
 rw [<-Z126.nR] at hg
 obtain ⟨g1,g2,_,g4⟩:=hg
 have h1:=BD s c z l hS
 have h2:(bN s c z l).length<=5:=by have:=Z104.A4 s z l;unfold bN;simp only [List.length_cons];omega
 simp only at g1 g2
 have h3:=Nat.mul_le_mul_right (2*(Z110.Cz k.aL+eC (fun y:aq=>aq.size y) (bN s c z l))+eC (fun y:aq=>aq.size y) (bN s c z l)) h2
 have h5:aG.size (lk s now c k z l).2<=aG.size c+(8+(aG.size c+6291457)+1):=by
  unfold lk
  cases (Z126.md k (bN s c z l) z l now).gU
  ·exact Nat.le_add_right _ _
  ·have h6:=Cr c z l ((bN s c z l).getD ((Z126.md k (bN s c z l) z l now).fK.length - 1) aq.zero) now
   have h7:=kU (f:=fun y:aq=>aq.size y) (xs:=bN s c z l) (i:=(Z126.md k (bN s c z l) z l now).fK.length - 1) (z:=aq.zero) rfl
   simp only [aZ] at h6 h7 ⊢
   omega
 refine ⟨?_,?_,?_,h5⟩
 ·unfold lk;simp only;omega
 ·unfold lk;simp only;omega
 ·unfold lk;simp only;omega
def AQ {l:cm}{mv:Int}{p:List aC}{q:Int×Int×List aC}(h:nx l mv p=.inr q)(hp:Z51.md p=true):Z51.md q.2.2=true:=by
 cases p with
 | nil=>have:=(Z51.tr hp).1;simp at this
 | cons x xs=>
  unfold nx at h
  simp only [Bool.cond_eq_ite,List.tail_cons] at h
  revert h
  repeat' split
  all_goals (intro h;first | (cases h;done) | (injection h with h;subst h;first | (rename_i h0 _;exact Z51.tl hp (by intro e;simp [e] at h0)) | simp_all))
def Bt {W B E P:Nat}{s:List aR}{now:Int}(hS:eC (fun y:aR=>aR.size y) s<=2^20)(hP:P=8388608)(hE:E+6291457<=W) :
  ∀(n:Nat) (c:aG) (k:av) (zs:List Int) (mv z:Int) (p:List aC),Z51.md p=true->(aG.size c+P)*2^n<=E->Z110.Cz k.aL+n*W<=B->
   Z110.Cz (rs (lk s now) n c k zs mv z p).1.bV.aL<=B/\Z110.Fz (rs (lk s now) n c k zs mv z p).1.bV.bp<=Z110.Fz k.bp+n*(10*B+15*W)/\ah.size (rs (lk s now) n c k zs mv z p).1.aQ<=W/\(rs (lk s now) n c k zs mv z p).1.bQ.length<=zs.length+n/\aG.size (rs (lk s now) n c k zs mv z p).2<=E
 | 0,c,k,zs,mv,z,p,hp,he,hb=>⟨by show Z110.Cz k.aL<=B;omega,Nat.le_add_right _ _,zero_le _,Nat.le_refl _,by show aG.size c<=E;rw [Nat.pow_zero,Nat.mul_one] at he;omega⟩
 | n+1,c,k,zs,mv,z,p,hp,he,hb=>by
  have h8:=(Z51.tr hp).2
  have hx:(p.getD 0 ⟨#[]⟩).size<=8:=by
   cases p with
   | nil=>exact zero_le _
   | cons x xs=>exact h8 x (by simp)
  have hpos:1<=2^n:=Nat.one_le_two_pow
  have hc1:(aG.size c+P)*1<=(aG.size c+P)*2^(n+1):=Nat.mul_le_mul_left _ Nat.one_le_two_pow
  obtain ⟨h1,h2,h3,h5⟩:=Ci (W:=W) s now c k z (p.getD 0 ⟨#[]⟩) hS hx (by omega)
  rw [Nat.succ_mul] at hb
  have he2:(aG.size (lk s now c k z (p.getD 0 ⟨#[]⟩)).2+P)*2^n<=E:=by
   refine le_trans (Nat.mul_le_mul_right (2^n) (show _<=(aG.size c+P)*2 by omega)) ?_
   rw [Nat.mul_assoc,Nat.mul_comm 2,<-Nat.pow_succ]
   exact he
  have he3:(aG.size (lk s now c k z (p.getD 0 ⟨#[]⟩)).2+P)*1<=(aG.size (lk s now c k z (p.getD 0 ⟨#[]⟩)).2+P)*2^n:=Nat.mul_le_mul_left _ hpos
  cases hn:nx (lk s now c k z (p.getD 0 ⟨#[]⟩)).1 mv p with
  | inl q=>
   rw [xG hn]
   have hq:ah.size q.2<=W:=by
    unfold nx at hn
    simp only [Bool.cond_eq_ite] at hn
    revert hn
    repeat' split
    all_goals (intro hn;first | (cases hn;done) | (injection hn with hn;subst hn;first | exact h3 | exact zero_le _))
   refine ⟨by simp only;omega,?_,hq,by simp,by simp only;omega⟩
   simp only
   rw [Nat.succ_mul]
   omega
  | inr q=>
   rw [xe hn]
   obtain ⟨g1,g2,g3,g4,g5⟩:=Bt hS hP hE n (lk s now c k z (p.getD 0 ⟨#[]⟩)).2 (lk s now c k z (p.getD 0 ⟨#[]⟩)).1.bV (zs++[z]) q.1 q.2.1 q.2.2 (AQ hn hp) he2 (le_trans (Nat.add_le_add_right h1 _) (by rw [Nat.add_assoc,Nat.add_comm W];exact hb))
   rw [List.length_append,List.length_cons,List.length_nil] at g4
   refine ⟨g1,?_,g3,by omega,g5⟩
   rw [Nat.succ_mul]
   omega
def sz (a0:av)(a1:aG)(a2:List aR)(a3:Int)(a4:List aC)(a5:Int)(h0:av.size a0<=2^20)(h1:aG.size a1<=2^20)(h2:eC (fun y:aR=>aR.size y) a2<=2^20):dK.size (md a0 a1 a2 a3 a4 a5)<=4503599627370496:=by
 have hk:av.size a0=Z110.Cz a0.aL+Z110.Fz a0.bp:=rfl
 unfold md
 cases hp:Z51.md a4
 ·have :dK.size ⟨⟨a0,6,⟨⟨#[]⟩,0,0,[]⟩,[],0⟩,a1⟩=av.size a0+aG.size a1:=rfl
  show dK.size ⟨⟨a0,6,⟨⟨#[]⟩,0,0,[]⟩,[],0⟩,a1⟩<=_
  omega
 ·simp only [Bool.not_true,bg]
  obtain ⟨P,hP⟩:∃P,P=8388608:=⟨_,rfl⟩
  obtain ⟨E,hE⟩:∃E,E=1236950581248:=⟨_,rfl⟩
  obtain ⟨W,hW⟩:∃W,W=E+6291457:=⟨_,rfl⟩
  obtain ⟨B,hB⟩:∃B,B=2^20+17*W:=⟨_,rfl⟩
  have he:(aG.size a1+P)*2^17<=E:=by
   have :(aG.size a1+P)*2^17<=9437184*2^17:=Nat.mul_le_mul_right _ (by omega)
   exact le_trans this (by rw [hE];decide)
  have hg:=Bt (now:=a5) (W:=W) (B:=B) (E:=E) h2 hP (by omega) 17 a1 a0 [] 0 a3 a4 hp he (by omega)
  revert hg
  generalize rs (lk a2 a5) 17 a1 a0 [] 0 a3 a4=t
  intro hg
  obtain ⟨g1,g2,g3,g4,g5⟩:=hg
  have hd:dK.size ⟨t.1,t.2⟩=Z110.Cz t.1.bV.aL+Z110.Fz t.1.bV.bp+ah.size t.1.aQ+t.1.bQ.length+aG.size t.2:=by
   unfold dK.size bF.size av.size Z110.Cz Z110.Fz
   rw [rS]
  rw [hd]
  simp only [List.length_nil] at g4
  omega
end Z130
namespace Z131
def F (x0:bu)(x1:cu)(x2:Int)(x3:aD)(x4:Int):aI:=(call (Z130.R (x0,x1,[],x2,x3,x4)) fun v1=>ret (v1.gq:dD))
def md (a0:av)(a1:aG)(a2:Int)(a3:List aC)(a4:Int):bF:=(Z130.md a0 a1 [] a2 a3 a4).gq
def gd (a0:av)(a1:aG)(a2:Int)(a3:List aC)(a4:Int):Prop:=(av.Sm (2^21) a0)/\(aG.Sm (2^21) a1)/\(bO (2^21) (fun y:aC=>y.size<=(2^21)) a3)
def R:=RR (p5 gd) (u5 md)
def aj {a0 a1 a2 a3 a4}(h:gd a0 a1 a2 a3 a4):R ((av.r a0),(aG.r a1),a2,(a3.map cK),a4)=some (bF.r (md a0 a1 a2 a3 a4)):=wz h
def aU:=CN [.agg uY,.agg xV,pI,pL 9,pI] (.agg f41) RT.dec R
def bh (a0)(a1)(a2)(a3)(a4)(hg:gd a0 a1 a2 a3 a4):F (av.r a0) (aG.r a1) a2 (a3.map cK) a4=ret (bF.r (md a0 a1 a2 a3 a4)):=by
 obtain ⟨H0,H1,H3⟩:=hg
 unfold F md
 try simp only [SS]
 refine aX (dK.r (Z130.md a0 a1 [] a2 a3 a4)) (rq (Z130.aj (a0:=a0) (a1:=a1) (a2:=[]) (a3:=a2) (a4:=a3) (a5:=a4) ⟨H0,H1,bO.nil,H3⟩)) ?_
 try simp only [SS]
 all_goals exact fz
def af:cC 11 aU:=W5 19 F mix aB bh (cJ Z130.af) Tryz.func11
end Z131
namespace Z132
def F (x0:aD):aI:=(cond x0.isEmpty (either (ret ([]:aD)) ((cg (eX (x0.length*8)) (ret (x0:aD))))) (cg (eX (x0.length*8)) (ret (x0:aD))))
def md (a0:List Int):List Int:=a0
def gd (a0:List Int):Prop:=bO (2^38) (fun y:Int=>True) a0
def R:=RR gd md
def aj {a0}(h:gd a0):R (a0.map bk)=some (a0.map bk):=cT h
def aU:=CN [pL 3] (oL 3) RT.dec R
def bh (a0)(hg:gd a0):F (a0.map bk)=ret ((md a0).map bk):=by
 have H0:=hg.1
 unfold F md
 have hl:eX (((a0.map bk).length:Int)*8)=true:=iJ (by simp only [List.length_map];omega)
 simp only [hl,aZ]
 cases a0 with
 | nil=>exact mC
 | cons x xs=>rfl
def af:cC 242 aU:=W1 8 F mix aB bh .nil Tryz.func242
end Z132
namespace Z133
def F (x0:cN):aI:=(call (Z132.R x0.aN) fun v1=>ret ((⟨v1,x0.cH⟩):cN))
def md (a0:aO):aO:=a0
def gd (a0:aO):Prop:=(aO.Sm (2^21) a0)
def R:=RR gd md
def aj {a0}(h:gd a0):R (aO.r a0)=some (aO.r a0):=cT h
def aU:=CN [.agg jw] (.agg f173) RT.dec R
def bh (a0)(H0:gd a0):F (aO.r a0)=ret (aO.r (md a0)):=ct (Z132.aj (H0.mono (by decide) (fun x hx=>trivial))) fz
def af:cC 265 aU:=W1 9 F mix aB bh (cJ Z132.af) Tryz.func265
end Z133
namespace Z134
def F (x0:dm):aI:=(call (Z133.R x0.bR) fun v1=>(call (Z133.R x0.bE) fun v2=>(call (Z133.R x0.bB) fun v3=>ret ((⟨x0.bw,x0.cM,x0.bI,x0.cL,x0.cF,x0.cA,x0.dy,x0.dR,v1,v2,x0.dB,v3,x0.bC⟩):dm))))
def md (a0:aE):aE:=a0
def gd (a0:aE):Prop:=(aE.Sm (2^21) a0)
def R:=RR gd md
def aj {a0}(h:gd a0):R (aE.r a0)=some (aE.r a0):=cT h
def aU:=CN [.agg gB] (.agg f175) RT.dec R
def bh (a0)(H0:gd a0):F (aE.r a0)=ret (aE.r (md a0)):=by
 refine ct (Z133.aj H0.1) (ct (Z133.aj H0.2.1) ?_)
 exact ct (Z133.aj H0.2.2) fz
def af:cC 203 aU:=W1 16 F mix aB bh (cJ Z133.af) Tryz.func203
end Z134
namespace Z135
def F (x0:aD):aI:=(cond x0.isEmpty (either (ret ([]:aD)) ((cg (eX (x0.length*16)) (ret (x0:aD))))) (cg (eX (x0.length*16)) (ret (x0:aD))))
def md (a0:List bn):List bn:=a0
def gd (a0:List bn):Prop:=bO (2^21) (fun y:bn=>bn.Sm (2^21) y) a0
def R:=RR gd md
def aj {a0}(h:gd a0):R (a0.map bn.row)=some (a0.map bn.row):=cT h
def aU:=CN [pL 227] (oL 227) RT.dec R
def bh (a0)(hg:gd a0):F (a0.map bn.row)=ret ((md a0).map bn.row):=by
 have H0:=hg.1
 unfold F md
 have hl:eX (((a0.map bn.row).length:Int)*16)=true:=iJ (by simp only [List.length_map];omega)
 simp only [hl,aZ]
 cases a0 with
 | nil=>exact mC
 | cons x xs=>rfl
def af:cC 294 aU:=W1 8 F mix aB bh .nil Tryz.func294
end Z135
namespace Z136
def F (x0:aY):aI:=(call (Z134.R x0.an) fun v1=>(call (Z135.R x0.cI) fun v2=>ret ((⟨v1,v2⟩):aY)))
def md (a0:aa):aa:=a0
def gd (a0:aa):Prop:=(aa.Sm (2^21) a0)
def R:=RR gd md
def aj {a0}(h:gd a0):R (aa.r a0)=some (aa.r a0):=cT h
def aU:=CN [.agg lB] (.agg f178) RT.dec R
def bh (a0)(H0:gd a0):F (aa.r a0)=ret (aa.r (md a0)):=by
 refine ct (Z134.aj H0.1) (ct (Z135.aj H0.2) ?_)
 exact fz
def af:cC 240 aU:=W1 10 F mix aB bh (eM Z134.af Z135.af) Tryz.func240
end Z136
namespace Z137
inductive Pt where
 | p0 (a:aD) (b c:Int) (d:aD)
def cG:Pt->List V
 | .p0 a b c d=>[.own 0,.sl none 178 a,.int .i64 b,.int .i64 c]
def cX:Pt->List aW
 | .p0 a b c d=>[.row 178 d]
def step (J:Pt->aI):Pt->aI
 | .p0 a b c d=>(cond (c<b) (m2 c (a.length:Int) (call (Z136.R (aY.at a (toNat c))) fun v1=>(cg (eX (((d.length:Int)+1)*200)) (J (.p0 a b (i64.wrap (c+1)) (d++[(aY.enc v1)])))))) (ret (d:aD)))
def start (J:Pt->aI)(x0:aD):aI:=J (.p0 x0 (x0.length:Int) 0 [])
def live:Nat->Live:=fL [(3,[(3,some 178),(7,none),(8,none),(9,none)])]
def md (a0:List aa):List aa:=a0
def gd (a0:List aa):Prop:=(bO (2^21) (fun y:aa=>aa.Sm (2^21) y) a0)
def R:=RR gd md
def aj {a0}(h:gd a0):R (a0.map aa.row)=some (a0.map aa.row):=cT h
def aU:=CN [pL 178] (oL 178) RT.dec R
def bh (a0)(hg:gd a0):∃n,start (iter step n) (a0.map aa.row)=ret ((md a0).map aa.row):=by
 unfold gd at hg
 have H0:=hg
 unfold start md
 try simp only [SS]
 have Bh2:a0.length<=maxLen:=(by
   have:=(H0).1
   try simp only [maxLen] at *
   omega)
 refine ex_eq (out:=(fun b:List aa=>ret ((b.map aa.row):aD))) (gQ (xs:=a0) (z:=aa.zero) (t:=fun s3:List aa=>s3)) ?_
 refine dW (p:=Pt.p0 (a0.map aa.row) (a0.length:Int) 0 ([].map aa.row)) fz ?_
 refine cq (pt:=fun (i1:Nat) (s3:List aa)=>Pt.p0 (a0.map aa.row) (a0.length:Int) (i1:Int) (s3.map aa.row)) (s:=([]:List aa)) (out:=(fun b:List aa=>ret ((b.map aa.row):aD))) (fun (i1:Nat) (s3:List aa)=>s3.length<=([]:List Int).length+1*i1) (fun J i1 s3 h2 hih2=>?_) (fun s3 hih2=>?_) (by simp)
 ·simp only [step,SS]
  have gr_:=hih2
  try simp only [LN] at gr_
  have bb_:=Bh2
  simp only [maxLen] at bb_
  have:=(H0).1
  refine bq.yes (by apply decide_eq_true;omega) ?_
  refine bq.yes aK ?_
  refine bq.yes (aP h2) ?_
  refine cr (Z136.aj (bO.getD (z:=aa.zero) H0 h2)) ?_
  try simp only [SS]
  refine bq.yes lm ?_
  refine bq.inl (by
    have g_:=hih2
    try simp only [LN] at g_ ⊢
    first | omega | (simp;done) | (simp;omega)) ?_
  rw [aJ h2 Bh2]
  all_goals exact fz
 ·simp only [step,SS]
  have gr_:=hih2
  try simp only [LN] at gr_
  have:=(H0).1
  refine dH (by apply decide_eq_false;omega) ?_
  refine ⟨0,?_⟩
  all_goals exact fz
def af:cC 185 aU:=L1 20 (fun _=>3) cG cX live step start mix aB bh (cJ Z136.af) Tryz.func185
end Z137
namespace Z138
def F (x0:aD):aI:=(cond x0.isEmpty (either (ret ([]:aD)) ((cg (eX (x0.length*16)) (ret (x0:aD))))) (cg (eX (x0.length*16)) (ret (x0:aD))))
def md (a0:List aC):List aC:=a0
def gd (a0:List aC):Prop:=bO (2^21) (fun y:aC=>y.size<=(2^21)) a0
def R:=RR gd md
def aj {a0}(h:gd a0):R (a0.map cK)=some (a0.map cK):=cT h
def aU:=CN [pL 9] (oL 9) RT.dec R
def bh (a0)(hg:gd a0):F (a0.map cK)=ret ((md a0).map cK):=by
 have H0:=hg.1
 unfold F md
 have hl:eX (((a0.map cK).length:Int)*16)=true:=iJ (by simp only [List.length_map];omega)
 simp only [hl,aZ]
 cases a0 with
 | nil=>exact mC
 | cons x xs=>rfl
def af:cC 189 aU:=W1 8 F mix aB bh .nil Tryz.func189
end Z138
namespace Z139
def F (x0:bH):aI:=(call (Z138.R x0.bz) fun v1=>ret ((⟨x0.aV,x0.bI,x0.bX,v1⟩):bH))
def md (a0:ah):ah:=a0
def gd (a0:ah):Prop:=(ah.Sm (2^21) a0)
def R:=RR gd md
def aj {a0}(h:gd a0):R (ah.r a0)=some (ah.r a0):=cT h
def aU:=CN [.agg sX] (.agg f38) RT.dec R
def bh (a0)(H0:gd a0):F (ah.r a0)=ret (ah.r (md a0)):=ct (Z138.aj H0.2) fz
def af:cC 150 aU:=W1 8 F mix aB bh (cJ Z138.af) Tryz.func150
end Z139
namespace Z140
def F (x0:cS):aI:=(call (Z132.R x0.bz) fun v1=>ret ((⟨x0.eE,v1⟩):cS))
def md (a0:aH):aH:=a0
def gd (a0:aH):Prop:=(aH.Sm (2^21) a0)
def R:=RR gd md
def aj {a0}(h:gd a0):R (aH.r a0)=some (aH.r a0):=cT h
def aU:=CN [.agg oT] (.agg f122) RT.dec R
def bh (a0)(H0:gd a0):F (aH.r a0)=ret (aH.r (md a0)):=ct (Z132.aj (H0.mono (by decide) (fun x hx=>trivial))) fz
def af:cC 191 aU:=W1 9 F mix aB bh (cJ Z132.af) Tryz.func191
end Z140
namespace Z141
def F (x0:eN):aI:=(call (Z139.R x0.aM) fun v1=>(call (Z139.R x0.bU) fun v2=>(call (Z140.R x0.dI) fun v3=>(call (Z140.R x0.cz) fun v4=>ret ((⟨x0.eE,v1,v2,v3,v4⟩):eN)))))
def md (a0:bK):bK:=a0
def gd (a0:bK):Prop:=(bK.Sm (2^21) a0)
def R:=RR gd md
def aj {a0}(h:gd a0):R (bK.r a0)=some (bK.r a0):=cT h
def aU:=CN [.agg rP] (.agg f124) RT.dec R
def bh (a0)(H0:gd a0):F (bK.r a0)=ret (bK.r (md a0)):=by
 refine ct (Z139.aj H0.1) (ct (Z139.aj H0.2.1) ?_)
 refine ct (Z140.aj H0.2.2.1) (ct (Z140.aj H0.2.2.2) ?_)
 exact fz
def af:cC 192 aU:=W1 18 F mix aB bh (eM Z139.af Z140.af) Tryz.func192
end Z141
namespace Z142
def F (x0:bf):aI:=(call (Z137.R x0.aT) fun v1=>(call (Z139.R x0.aQ) fun v2=>(call (Z140.R x0.cZ) fun v3=>(call (Z141.R x0.dS) fun v4=>ret ((⟨v1,x0.bY,v2,v3,v4⟩):bf)))))
def md (a0:aq):aq:=a0
def gd (a0:aq):Prop:=(aq.Sm (2^21) a0)
def R:=RR gd md
def aj {a0}(h:gd a0):R (aq.r a0)=some (aq.r a0):=cT h
def aU:=CN [.agg sJ] (.agg f126) RT.dec R
def bh (a0)(H0:gd a0):F (aq.r a0)=ret (aq.r (md a0)):=by
 refine ct (Z137.aj H0.1) (ct (Z139.aj H0.2.1) ?_)
 refine ct (Z140.aj H0.2.2.1) (ct (Z141.aj H0.2.2.2) ?_)
 exact fz
def af:cC 147 aU:=W1 18 F mix aB bh (kP Z137.af Z139.af Z140.af Z141.af) Tryz.func147
end Z142
namespace Z143
def F (x0:bZ):aI:=(call (Z142.R x0.bS) fun v1=>ret ((⟨x0.bw,x0.aV,v1⟩):bZ))
def md (a0:aA):aA:=a0
def gd (a0:aA):Prop:=(aA.Sm (2^21) a0)
def R:=RR gd md
def aj {a0}(h:gd a0):R (aA.r a0)=some (aA.r a0):=cT h
def aU:=CN [.agg Ay] (.agg f148) RT.dec R
def bh (a0)(H0:gd a0):F (aA.r a0)=ret (aA.r (md a0)):=ct (Z142.aj H0.2) fz
def af:cC 142 aU:=W1 8 F mix aB bh (cJ Z142.af) Tryz.func142
end Z143
namespace Z144
inductive Pt where
 | p0 (a:aD) (b c:Int) (d:aD)
def cG:Pt->List V
 | .p0 a b c d=>[.cD 0 0,.cD 1 0,.sl none 148 a,.int .i64 b,.int .i64 c,.cD 1 0]
def cX:Pt->List aW
 | .p0 a b c d=>[.box [.nil],.box [.own 2],.row 148 d]
def step (J:Pt->aI):Pt->aI
 | .p0 a b c d=>(cond (c<b) (m2 c (a.length:Int) (call (Z143.R (bZ.at a (toNat c))) fun v1=>(cg (eX (((d.length:Int)+1)*328)) (J (.p0 a b (i64.wrap (c+1)) (d++[(bZ.enc v1)])))))) (ret ((⟨d⟩:cu):cu)))
def start (J:Pt->aI)(x0:cu):aI:=J (.p0 x0.aN x0.aN.length 0 [])
def live:Nat->Live:=fL [(3,[(2,none),(3,none),(8,none),(9,none),(10,none),(3,some 148)])]
def md (a0:aG):aG:=a0
def gd (a0:aG):Prop:=(aG.Sm (2^21) a0)
def R:=RR gd md
def aj {a0}(h:gd a0):R (aG.r a0)=some (aG.r a0):=cT h
def aU:=CN [.agg xV] (.agg f46) RT.dec R
def bh (a0)(H0:gd a0):∃n,start (iter step n) (aG.r a0)=ret (aG.r (md a0)):=by
 have Bh2:=bl H0
 refine ex_eq (out:=(fun b:aG=>ret ((aG.r b):cu))) (gQ (xs:=a0.aN) (z:=aA.zero) (t:=fun s3:List aA=>(⟨s3⟩:aG))) (dW (p:=Pt.p0 (a0.aN.map aA.row) (a0.aN.length:Int) 0 ([].map aA.row)) fz ?_)
 refine cq (pt:=fun (i1:Nat) (s3:List aA)=>Pt.p0 (a0.aN.map aA.row) (a0.aN.length:Int) (i1:Int) (s3.map aA.row)) (out:=(fun b:aG=>ret ((aG.r b):cu))) (fun (i1:Nat) (s3:List aA)=>s3.length<=([]:List Int).length+1*i1) (fun J i1 s3 h2 hih2=>?_) (fun s3 hih2=>?_) (by simp)
 ·simp only [step,SS]
  have gr_:=hih2
  simp only [LN] at gr_
  have:=(H0).1
  refine bq.yes dt (bq.yes aK ?_)
  refine bq.yes (aP h2) (cr (Z143.aj (bO.getD H0 h2)) ?_)
  refine bq.yes lm ?_
  refine bq.inl (by
    (simp;omega)) ?_
  rw [aJ h2 Bh2]
  exact fz
 ·simp only [step,SS]
  refine dH dn (⟨0,?_⟩)
  exact fz
def af:cC 94 aU:=L1 23 (fun _=>3) cG cX live step start mix aB bh (cJ Z143.af) Tryz.func94
end Z144
namespace Z145
def F (x0:bM):aI:=(call (Z136.R x0.aM) fun v1=>(call (Z136.R x0.fA) fun v2=>(call (Z136.R x0.fB) fun v3=>ret ((⟨v1,v2,v3⟩):bM))))
def md (a0:aF):aF:=a0
def gd (a0:aF):Prop:=(aF.Sm (2^21) a0)
def R:=RR gd md
def aj {a0}(h:gd a0):R (aF.r a0)=some (aF.r a0):=cT h
def aU:=CN [.agg uA] (.agg f180) RT.dec R
def bh (a0)(H0:gd a0):F (aF.r a0)=ret (aF.r (md a0)):=by
 refine ct (Z136.aj H0.1) (ct (Z136.aj H0.2.1) ?_)
 exact ct (Z136.aj H0.2.2) fz
def af:cC 186 aU:=W1 13 F mix aB bh (cJ Z136.af) Tryz.func186
end Z145
namespace Z146
inductive Pt where
 | p0 (a:aD) (b c:Int) (d:bu) (e:aD)
 | p1 (a:aD) (b c:Int) (d e:aD)
def pid:Pt->Nat
 | .p0 ..=>3
 | .p1 ..=>8
def cG:Pt->List V
 | .p0 a b c d e=>[.cD 0 0,.cD 1 0,.cD 2 0,.sl none 120 a,.int .i64 b,.int .i64 c,.cD 2 0]
 | .p1 a b c d e=>[.cD 0 0,.cD 1 0,.sl none 180 a,.int .i64 b,.int .i64 c,.cD 1 0,.cD 1 0]
def cX:Pt->List aW
 | .p0 a b c d e=>[.box [.sl none 120 d.aL,.sl none 180 d.bp],.box [.nil,.nil],.box [.own 3,.nil],.row 120 e]
 | .p1 a b c d e=>[.box [.nil,.nil],.box [.own 2,.own 3],.row 120 d,.row 180 e]
def step (J:Pt->aI):Pt->aI
 | .p0 a b c d e=>(cond (c<b) (m2 c (a.length:Int) (call (Z137.R (qd a (toNat c))) fun v1=>(cg (eX (((e.length:Int)+1)*24)) (J (.p0 a b (i64.wrap (c+1)) d (e++[[L.sl v1]])))))) (J (.p1 d.bp (d.bp.length:Int) 0 e [])))
 | .p1 a b c d e=>(cond (c<b) (m2 c (a.length:Int) (call (Z145.R (bM.at a (toNat c))) fun v1=>(cg (eX (((e.length:Int)+1)*600)) (J (.p1 a b (i64.wrap (c+1)) d (e++[(bM.enc v1)])))))) (ret ((⟨d,e⟩:bu):bu)))
def start (J:Pt->aI)(x0:bu):aI:=J (.p0 x0.aL x0.aL.length 0 x0 [])
def live:Nat->Live:=fL [(3,[(1,none),(2,none),(3,none),(10,none),(11,none),(12,none),(3,some 120)]),(8,[(2,none),(3,none),(25,none),(26,none),(27,none),(3,some 120),(3,some 1048756)])]
def md (a0:av):av:=a0
def gd (a0:av):Prop:=(av.Sm (2^21) a0)
def R:=RR gd md
def aj {a0}(h:gd a0):R (av.r a0)=some (av.r a0):=cT h
def aU:=CN [.agg uY] (.agg f36) RT.dec R
def bh (a0)(H0:gd a0):∃n,start (iter step n) (av.r a0)=ret (av.r (md a0)):=by
 have Bh2:=bl H0.1
 refine ex_eq (out:=(fun b:av=>ret ((av.r b):bu))) (gQ (xs:=a0.aL) (z:=[]) (t:=fun s3:List (List aa)=>(⟨s3,a0.bp⟩:av))) (dW (p:=Pt.p0 (a0.aL.map (eg aa.row)) (a0.aL.length:Int) 0 (av.r a0) ([].map (eg aa.row))) fz ?_)
 refine cq (pt:=fun (i1:Nat) (s3:List (List aa))=>Pt.p0 (a0.aL.map (eg aa.row)) (a0.aL.length:Int) (i1:Int) (av.r a0) (s3.map (eg aa.row))) (out:=(fun b:av=>ret ((av.r b):bu))) (fun (i1:Nat) (s3:List (List aa))=>s3.length<=([]:List Int).length+1*i1) (fun J i1 s3 h2 hih2=>?_) (fun s3 hih2=>?_) (by simp)
 ·simp only [step,SS]
  have gr_:=hih2
  simp only [LN] at gr_
  have:=(H0.1).1
  refine bq.yes dt (bq.yes aK ?_)
  refine bq.yes (aP h2) (cr (Z137.aj (bO.getD H0.1 h2)) ?_)
  refine bq.yes lm ?_
  refine bq.inl (by
    (simp;omega)) ?_
  rw [aJ h2 Bh2]
  exact fz
 ·simp only [step,SS]
  refine dH dn ?_
  have Bh5:=bl H0.2
  refine ex_eq (out:=(fun b:av=>ret ((av.r b):bu))) (gQ (xs:=a0.bp) (z:=aF.zero) (t:=fun s6:List aF=>(⟨s3,s6⟩:av))) (dW fz ?_)
  refine cq (pt:=fun (i4:Nat) (s6:List aF)=>Pt.p1 (a0.bp.map aF.row) (a0.bp.length:Int) (i4:Int) (s3.map (eg aa.row)) (s6.map aF.row)) (s:=([]:List aF)) (out:=(fun b:av=>ret ((av.r b):bu))) (fun (i4:Nat) (s6:List aF)=>s6.length<=([]:List Int).length+1*i4) (fun J i4 s6 h5 hih5=>?_) (fun s6 hih5=>?_) (by simp)
  ·simp only [step,SS]
   have gr_:=hih5
   simp only [LN] at gr_
   have:=(H0.2).1
   refine bq.yes dt (bq.yes aK ?_)
   refine bq.yes (aP h5) (cr (Z145.aj (bO.getD H0.2 h5)) ?_)
   refine bq.yes lm ?_
   refine bq.inl (by
     (simp;omega)) ?_
   rw [aJ h5 Bh5]
   exact fz
  ·simp only [step,SS]
   refine dH dn (⟨0,?_⟩)
   exact fz
def af:cC 143 aU:=L1 40 pid cG cX live step start mix aB bh (eM Z137.af Z145.af) Tryz.func143
end Z146
namespace Z147
def F (x0 x1 x2:Int):aI:=(cond (x1<=x0) (ret ((decide (x0<=x2)))) (ret false))
def md (a0 a1 a2:Int):Bool:=(cond (a1<=a0) ((decide (a0<=a2))) false)
def gd (a0 a1 a2:Int):Prop:=True
def R:=RR (p3 gd) (u3 md)
def aj {a0 a1 a2}(h:gd a0 a1 a2):R (a0,a1,a2)=some (md a0 a1 a2):=kN h
def aU:=CN [pI,pI,pI] oB RT.dec R
def bh (a0)(a1)(a2)(hg:gd a0 a1 a2):F a0 a1 a2=ret (md a0 a1 a2):=by
 refine bs (fun c1=>?_) (fun _=>rfl)
 exact fz
def af:cC 167 aU:=W3 15 F mix aB bh .nil Tryz.func167
def br (a0 a1 a2:Int):md a0 a1 a2=Z49.md a0 a1 a2:=by
 unfold md Z49.md
 rfl
end Z147
namespace Z148
inductive Pt where
 | p0 (a:aC) (b c:Int)
def cG:Pt->List V
 | .p0 a b c=>[.str a,.int .i64 b,.int .i64 c]
def step (J:Pt->aI):Pt->aI
 | .p0 a b c=>(cond (c<b) (m2 c (a.size:Int) (cond ((eK a (toNat c))>=97) (cond ((eK a (toNat c))<=122) (J (.p0 a b (i64.wrap (c+1)))) (cond ((eK a (toNat c))>=48) (cond ((eK a (toNat c))<=57) (J (.p0 a b (i64.wrap (c+1)))) (cond ((eK a (toNat c))==45) (cond (c>0) (cond (!(decide (c<(i64.wrap ((a.size:Int) - 1))))) bT (J (.p0 a b (i64.wrap (c+1))))) bT) bT)) (cond ((eK a (toNat c))==45) (cond (c>0) (cond (!(decide (c<(i64.wrap ((a.size:Int) - 1))))) bT (J (.p0 a b (i64.wrap (c+1))))) bT) bT))) (cond ((eK a (toNat c))>=48) (cond ((eK a (toNat c))<=57) (J (.p0 a b (i64.wrap (c+1)))) (cond ((eK a (toNat c))==45) (cond (c>0) (cond (!(decide (c<(i64.wrap ((a.size:Int) - 1))))) bT (J (.p0 a b (i64.wrap (c+1))))) bT) bT)) (cond ((eK a (toNat c))==45) (cond (c>0) (cond (!(decide (c<(i64.wrap ((a.size:Int) - 1))))) bT (J (.p0 a b (i64.wrap (c+1))))) bT) bT)))) (call (Z147.R ((a.size:Int),1,8)) fun v1=>ret (v1:Bool)))
def start (J:Pt->aI)(x0:aC):aI:=J (.p0 x0 x0.size 0)
def live:Nat->Live:=fL [(2,gA [0,6,7])]
def md (a0:aC):Bool:=(eL (S:=Unit) (β:=Bool) (fun i1 s3=>(cond ((eK a0 i1)>=97) (cond ((eK a0 i1)<=122) (.inl ()) (cond ((eK a0 i1)>=48) (cond ((eK a0 i1)<=57) (.inl ()) (cond ((eK a0 i1)==45) (cond ((i1:Int)>0) (cond (!(decide (i1<(i64.wrap (a0.size - 1))))) (.inr false) (.inl ())) (.inr false)) (.inr false))) (cond ((eK a0 i1)==45) (cond ((i1:Int)>0) (cond (!(decide (i1<(i64.wrap (a0.size - 1))))) (.inr false) (.inl ())) (.inr false)) (.inr false)))) (cond ((eK a0 i1)>=48) (cond ((eK a0 i1)<=57) (.inl ()) (cond ((eK a0 i1)==45) (cond ((i1:Int)>0) (cond (!(decide (i1<(i64.wrap (a0.size - 1))))) (.inr false) (.inl ())) (.inr false)) (.inr false))) (cond ((eK a0 i1)==45) (cond ((i1:Int)>0) (cond (!(decide (i1<(i64.wrap (a0.size - 1))))) (.inr false) (.inl ())) (.inr false)) (.inr false))))) (fun s3=>((Z147.md a0.size 1 8))) a0.size 0 ())
def gd (a0:aC):Prop:=(a0.size<=(2^22))
def R:=RR gd md
def aj {a0}(h:gd a0):R a0=some (md a0):=cT h
def aU:=CN [pS] oB RT.dec R
def bh (a0)(hg:gd a0):∃n,start (iter step n) a0=ret (md a0):=by
 unfold gd at hg
 have Bh2:a0.size<=maxLen:=(by
   simp only [maxLen] at *
   omega)
 refine dW fz (cq (pt:=fun (i1:Nat) (s3:Unit)=>Pt.p0 a0 (a0.size:Int) (i1:Int)) (fun _ _=>True) (fun J i1 s3 h2 hih2=>?_) (fun s3 hih2=>?_) trivial)
 ·simp only [step,SS]
  refine bq.yes dt (bq.yes aK ?_)
  refine bq.yes (aP h2) (bq.bif (fun c4=>?_) (fun c4=>?_))
  ·refine bq.bif (fun c5=>?_) (fun c5=>?_)
   ·refine bq.inl trivial ?_
    rw [aJ h2 Bh2]
   ·refine bq.bif (fun c6=>?_) (fun c6=>?_)
    ·refine bq.bif (fun c7=>?_) (fun c7=>?_)
     ·refine bq.inl trivial ?_
      rw [aJ h2 Bh2]
     ·refine bq.bif (fun c8=>?_) (fun _=>bq.inr rfl)
      refine bq.bif (fun c9=>?_) (fun _=>bq.inr rfl)
      refine bq.bif (fun _=>bq.inr rfl) (fun c10=>?_)
      refine bq.inl trivial ?_
      rw [aJ h2 Bh2]
    ·refine bq.bif (fun c11=>?_) (fun _=>bq.inr rfl)
     refine bq.bif (fun c12=>?_) (fun _=>bq.inr rfl)
     refine bq.bif (fun _=>bq.inr rfl) (fun c13=>?_)
     refine bq.inl trivial ?_
     rw [aJ h2 Bh2]
  ·refine bq.bif (fun c14=>?_) (fun c14=>?_)
   ·refine bq.bif (fun c15=>?_) (fun c15=>?_)
    ·refine bq.inl trivial ?_
     rw [aJ h2 Bh2]
    ·refine bq.bif (fun c16=>?_) (fun _=>bq.inr rfl)
     refine bq.bif (fun c17=>?_) (fun _=>bq.inr rfl)
     refine bq.bif (fun _=>bq.inr rfl) (fun c18=>?_)
     refine bq.inl trivial ?_
     rw [aJ h2 Bh2]
   ·refine bq.bif (fun c19=>?_) (fun _=>bq.inr rfl)
    refine bq.bif (fun c20=>?_) (fun _=>bq.inr rfl)
    refine bq.bif (fun _=>bq.inr rfl) (fun c21=>?_)
    refine bq.inl trivial ?_
    rw [aJ h2 Bh2]
 ·simp only [step,SS]
  refine dH dn (cx (Z147.aj trivial) ?_)
  refine ⟨0,?_⟩
  exact fz
def af:cC 125 aU:=L1 47 (fun _=>2) cG (fun _=>[]) live step start mix aB bh (cJ Z147.af) Tryz.func125
def br (a0:aC):md a0=Z50.md a0:=by
 unfold md Z50.md
 by_cases hl:1<=a0.size/\a0.size<=8
 ·have e1:Z49.md (a0.size:Int) 1 8=true:=by simp [Z49.md];omega
  simp only [Z147.br,e1]
  have ew:i64.wrap ((a0.size:Int) - 1)=((a0.size - 1:Nat):Int):=by
   rw [Go.IntWalk.i64_in _ (by omega)];omega
  simp only [ew,dw]
  rw [Bool.eq_iff_iff]
  rw [jP (fun i=>(97<=eK a0 i/\eK a0 i<=122)∨(48<=eK a0 i/\eK a0 i<=57)∨(eK a0 i=45/\0<i/\i<a0.size - 1)) (fun i hi h=>by simp;grind) (fun i hi h=>by simp;grind)]
  have e2:=jP (n:=a0.size) (f:=fun (i4:Nat) (s6:Unit)=>(cond ((eK a0 i4)<97) (cond ((eK a0 i4)<48) (cond ((eK a0 i4) != 45) (.inr (false:Bool)) (.inl ())) (cond ((eK a0 i4)>57) (cond ((eK a0 i4) != 45) (.inr (false:Bool)) (.inl ())) (.inl ()))) (cond ((eK a0 i4)>122) (cond ((eK a0 i4)<48) (cond ((eK a0 i4) != 45) (.inr (false:Bool)) (.inl ())) (cond ((eK a0 i4)>57) (cond ((eK a0 i4) != 45) (.inr (false:Bool)) (.inl ())) (.inl ()))) (.inl ())))) (t:=fun _=>true)
   (fun i=>(97<=eK a0 i/\eK a0 i<=122)∨(48<=eK a0 i/\eK a0 i<=57)∨eK a0 i=45) (fun i hi h=>by simp;grind) (fun i hi h=>by simp;grind)
  have e3:∀b c d:Bool,(cond (!true) false (bif b then false else bif c then false else d))=true↔b=false/\c=false/\d=true:=by intro b c d;cases b<;>cases c<;>simp
  rw [e3,e2]
  simp only [beq_eq_false_iff_ne,ne_eq,and_true]
  constructor
  ·intro h
   refine ⟨fun h0=>?_,fun h0=>?_,fun i hi=>?_⟩
   ·have:=h 0 (by omega);omega
   ·have:=h (a0.size - 1) (by omega);omega
   ·have:=h i hi;omega
  ·intro ⟨h1,h2,h3⟩ i hi
   have:=h3 i hi
   by_cases h0:i=0
   ·subst h0;omega
   ·by_cases h9:i=a0.size - 1
    ·subst h9;omega
    ·omega
 ·have e1:Z49.md (a0.size:Int) 1 8=false:=by simp [Z49.md];omega
  simp only [Z147.br,e1]
  refine qP ?_ _ _ _
  intro i s b h
  revert h
  simp only [Bool.cond_eq_ite]
  repeat' split
  all_goals (intro h;first | (cases h;rfl) | cases h)
end Z148
namespace Z149
def F (x0:aC):aI:=(call (Z148.R x0) fun v1=>ret ((!v1)))
def md (a0:aC):Bool:=((!(Z148.md a0)))
def gd (a0:aC):Prop:=(a0.size<=(2^22))
def R:=RR gd md
def aj {a0}(h:gd a0):R a0=some (md a0):=cT h
def aU:=CN [pS] oB RT.dec R
def bh (a0)(H0:gd a0):F a0=ret (md a0):=ct (Z148.aj H0) fz
def af:cC 188 aU:=W1 6 F mix aB bh (cJ Z148.af) Tryz.func188
end Z149
namespace Z150
inductive Pt where
 | p0 (a:aD) (b c:Int)
def pid:Pt->Nat
 | .p0 ..=>2
def cG:Pt->List V
 | .p0 a b c=>[.sl none 9 a,.fn 188 [],.int .i64 b,.int .i64 c]
def cX:Pt->List aW
 | .p0 a b c=>[]
def step (J:Pt->aI):Pt->aI
 | .p0 a b c=>(cond (c<b) (m2 c (a.length:Int) (call (Z149.R (qA a (toNat c))) fun v1=>(cond v1 (ret (c:Int)) (J (.p0 a b (i64.wrap (c+1))))))) (ret ((-1):Int)))
def start (J:Pt->aI)(x0:aD):aI:=J (.p0 x0 (x0.length:Int) 0)
def live:Nat->Live:=fL [(2,gA [0,1,7,8])]
def pats:List gN:=[.rd (.sl 9),.fn 188 []]
def res:RP:=.one (.rd (.int .i64))
abbrev E:Env:={ T:=assoc mq,G:=dM [(188,Z149.aU)],nt:=19 }
def step_eq (I:cR)(p:Pt):dF E live I (pid p) (bP Tryz.f241) (gp (live (pid p)) (cG p) (cX p)) (cP E Tryz.f241 res)=step (fun q=>I (pid q) (cG q) (cX q)) p:=by
 cases p<;>kernel_rfl
def start_eq (I:cR)(ls:List L):fG E live I (bP Tryz.f241) (dJ pats ls) (cP E Tryz.f241 res)=start (fun q=>I (pid q) (cG q) (cX q)) (ls.headD .hole).aS:=by kernel_rfl
def run_eq (n:Nat)(ls:List L):fc E live Tryz.f241 res n (dJ pats ls)=start (iter step n) (ls.headD .hole).aS:=cO (id:=pid) (vs:=cG) (hs:=cX) (step:=step) (start:=fun J=>start J (ls.headD .hole).aS) step_eq (fun I=>start_eq I ls) n
def md (a0:List aC):Int:=(dV (S:=Unit) (β:=Int) (fun (i1:Nat) (y1:aC) (s3:Unit)=>(cond (Z149.md y1) (.inr ((i1:Int):Int)) (.inl ()))) (fun (s3:Unit)=>((-1):Int)) 0 a0 ())
def gd (a0:List aC):Prop:=(bO (2^22) (fun y:aC=>y.size<=(2^22)) a0)
def acc (ls:List L):aD:=(ls.headD .hole).aS
def R:(aD)->Option Int:=RR gd md
def aj {a0}(h:gd a0):R (a0.map cK)=some (md a0):=cT h
def aU:fY:=CN pats res acc R
def bh (a0:List aC)(hg:gd a0):∃n,start (iter step n) (a0.map cK)=ret ((md a0):Int):=by
 unfold gd at hg
 have H0:=hg
 unfold start md
 try simp only [SS]
 have Bh2:a0.length<=maxLen:=(by
   have:=(H0).1
   try simp only [maxLen] at *
   omega)
 refine ex_eq (out:=ret) (cW (z:=⟨#[]⟩)) ?_
 refine dW (p:=Pt.p0 (a0.map cK) (a0.length:Int) 0) fz ?_
 refine cq (pt:=fun (i1:Nat) (s3:Unit)=>Pt.p0 (a0.map cK) (a0.length:Int) (i1:Int)) (s:=(():Unit)) (out:=ret) (fun _ _=>True) (fun J i1 s3 h2 hih2=>?_) (fun s3 hih2=>?_) trivial
 ·simp only [step,SS]
  have bb_:=Bh2
  simp only [maxLen] at bb_
  have:=(H0).1
  refine bq.yes (by apply decide_eq_true;omega) ?_
  refine bq.yes aK ?_
  refine bq.yes (aP h2) ?_
  refine cr (Z149.aj (bO.getD (z:=⟨#[]⟩) H0 h2)) ?_
  refine bq.bif (fun c4=>?_) (fun c4=>?_)
  ·refine bq.inr ?_
   all_goals exact fz
  ·refine bq.inl trivial ?_
   rw [aJ h2 Bh2]
   all_goals exact fz
 ·simp only [step,SS]
  have:=(H0).1
  refine dH (by apply decide_eq_false;omega) ?_
  refine ⟨0,?_⟩
  all_goals exact fz
def af:cC 241 aU:=VV (run:=fun n x=>start (iter step n) x) mix aB (cJ Z149.af) Tryz.func241 (by kernel_rfl) run_eq (fun _ a _ _ hg=>bh a hg)
def idx_eq (a0:List aC):md a0=jl (fun y=>Z149.md y) 0 a0:=by
 unfold md
 exact iB
end Z150
namespace Z151
def F (x0:aD):aI:=(call (Z150.R x0) fun v1=>ret ((decide (v1>=0))))
def pats:List gN:=[.rd (.sl 9),.fn 188 []]
def res:RP:=.one (.rd (.bool))
def md (a0:List aC):Bool:=((decide ((Z150.md a0)>=0)))
def gd (a0:List aC):Prop:=(bO (2^22) (fun y:aC=>y.size<=(2^22)) a0)
def acc (ls:List L):aD:=(ls.headD .hole).aS
def R:(aD)->Option Bool:=RR gd md
def aj {a0}(h:gd a0):R (a0.map cK)=some (md a0):=cT h
def aU:fY:=CN pats res acc R
def bh (a0:List aC)(H0:gd a0):F (a0.map cK)=ret ((md a0):Bool):=ct (Z150.aj H0) fz
def af:cC 187 aU:=VV (live:=fun _=>[]) (nt:=9) (run:=fun _ x=>F x) mix aB (cJ Z150.af) Tryz.func187 (by kernel_rfl) (fun _ _=>by kernel_rfl) (fun _ a _ _ hg=>⟨0,bh a hg⟩)
def any_eq (a0:List aC):md a0=a0.any (fun y=>Z149.md y):=by
 unfold md
 rw [Z150.idx_eq]
 exact rD
end Z151
namespace Z152
def F (x0:aD):aI:=(call (Z147.R (x0.length,1,4)) fun v1=>(cond v1 (call (Z151.R x0) fun v2=>ret ((!v2))) (ret false)))
def md (a0:List aC):Bool:=(cond (Z147.md a0.length 1 4) ((!(Z151.md a0))) false)
def gd (a0:List aC):Prop:=(bO (2^22) (fun y:aC=>y.size<=(2^22)) a0)
def R:=RR gd md
def aj {a0}(h:gd a0):R (a0.map cK)=some (md a0):=cT h
def aU:=CN [pL 9] oB RT.dec R
def bh (a0)(H0:gd a0):F (a0.map cK)=ret (md a0):=by
 unfold F md
 simp only [SS]
 refine ct (Z147.aj trivial) (bs (fun c1=>?_) (fun _=>rfl))
 exact ct (Z151.aj H0) fz
def af:cC 144 aU:=W1 11 F mix aB bh (eM Z147.af Z151.af) Tryz.func144
def br (a0:List aC):md a0=Z51.md a0:=by
 unfold md Z51.md
 rw [Z151.any_eq]
 have e:=nB (p:=fun y=>!(Z50.md y)) (b:=false) (c:=Z49.md (a0.length:Int) 1 4) (xs:=a0) (s:=())
 refine Eq.trans ?_ e.symm
 simp only [Z149.md,Z148.br,Z147.br]
 cases a0.any (fun y=>!(Z50.md y))<;>cases Z49.md (a0.length:Int) 1 4<;>rfl
end Z152
namespace Z153
def F (x0:bZ)(x1 x2:List L):aI:=(cond (x0.bw==(fU x1)) (ret ((x0.aV==(sDec x2)):Bool)) bT)
def pats:List gN:=[.agg [au,.str,.sl 178,.bool,.str,au,au,.sl 9,au,.sl 3,au,.str,au,au,.sl 9,.str,au,au,.sl 9,au,.sl 3,au,.sl 3],.ptr [au],.ptr [.str]]
def res:RP:=.one (.rd (.bool))
def md (a0:aA)(a1:Int)(a2:aC):Bool:=(cond (a0.bw==a1) ((a0.aV==a2):Bool) (false:Bool))
def gd (a0:aA)(a1:Int)(a2:aC):Prop:=True
def acc (ls:List L):bZ×Int×aC:=((bZ.dec ls),(fU (cE 1 (ay 23 ls))),(sDec (cE 1 (ay 24 ls))))
def R:(bZ×Int×aC)->Option Bool:=RR (p3 gd) (u3 md)
def aj {a0 a1 a2}(h:gd a0 a1 a2):R ((aA.r a0),a1,a2)=some (md a0 a1 a2):=kN h
def aU:fY:=CN pats res acc R
def bh (a0:aA)(a1:Int)(a2:aC)(p1 p2:List L)(e1:a1=(fU p1))(e2:a2=(sDec p2))(hg:gd a0 a1 a2):F (aA.r a0) p1 p2=ret ((md a0 a1 a2):Bool):=by
 unfold F md
 try simp only [SS,<-e1,<-e2]
 refine bt ret (fun c1=>?_) (fun _=>rfl)
 all_goals exact fz
def oF (ls:List L)(a:aA×Int×aC)(e:acc ls=Im.im a)(hg:(p3 gd) a):∃n:Nat,F (bZ.dec ls) (cE 1 (ay 23 ls)) (cE 1 (ay 24 ls))=ret (Im.im ((u3 md) a)):=by
 have e0:(aA.r a.1)=(bZ.dec ls):=(congrArg (fun x=>x.1) e.symm)
 have hn:=bh a.1 a.2.1 a.2.2 (cE 1 (ay 23 ls)) (cE 1 (ay 24 ls)) (congrArg (fun x=>x.2.1) e.symm) (congrArg (fun x=>x.2.2) e.symm) hg
 refine ⟨0,?_⟩
 rw [<-e0]
 exact hn
def af:cC 190 aU:=VP (live:=fun _=>[]) (nt:=15) (accr:=fun ls=>((bZ.dec ls),(cE 1 (ay 23 ls)),(cE 1 (ay 24 ls)))) (run:=fun _ x=>F x.1 x.2.1 x.2.2) mix aB .nil Tryz.func190 (by kernel_rfl) (fun _ _=>by kernel_rfl) (fun ls a _ e hg=>oF ls a e hg)
end Z153
namespace Z154
inductive Pt where
 | p0 (a:aD) (b c:List L) (d e:Int)
def pid:Pt->Nat
 | .p0 ..=>2
def cG:Pt->List V
 | .p0 a b c d e=>[.sl none 148 a,.fn 190 [.dL none [au] b 0,.dL none [.str] c 0],.int .i64 d,.int .i64 e]
def cX:Pt->List aW
 | .p0 a b c d e=>[]
def step (J:Pt->aI):Pt->aI
 | .p0 a b c d e=>(cond (e<d) (m2 e (a.length:Int) (call (Z153.R ((bZ.at a (toNat e)),(fU b),(sDec c))) fun v1=>(cond v1 (ret (e:Int)) (J (.p0 a b c d (i64.wrap (e+1))))))) (ret ((-1):Int)))
def start (J:Pt->aI)(x0:aD)(x1 x2:List L):aI:=J (.p0 x0 x1 x2 x0.length 0)
def live:Nat->Live:=fL [(2,gA [0,1,7,8])]
def pats:List gN:=[.rd (.sl 148),.fn 190 [[au],[.str]]]
def res:RP:=.one (.rd (.int .i64))
abbrev E:Env:={ T:=assoc mq,G:=dM [(190,Z153.aU)],nt:=19 }
def step_eq (I:cR)(p:Pt):dF E live I (pid p) (bP Tryz.f155) (gp (live (pid p)) (cG p) (cX p)) (cP E Tryz.f155 res)=step (fun q=>I (pid q) (cG q) (cX q)) p:=by
 cases p<;>kernel_rfl
def start_eq (I:cR)(ls:List L):fG E live I (bP Tryz.f155) (dJ pats ls) (cP E Tryz.f155 res)=start (fun q=>I (pid q) (cG q) (cX q)) (ls.headD .hole).aS (cE 1 (ay 1 ls)) (cE 1 (ay 2 ls)):=by kernel_rfl
def run_eq (n:Nat)(ls:List L):fc E live Tryz.f155 res n (dJ pats ls)=start (iter step n) (ls.headD .hole).aS (cE 1 (ay 1 ls)) (cE 1 (ay 2 ls)):=cO (id:=pid) (vs:=cG) (hs:=cX) (step:=step) (start:=fun J=>start J (ls.headD .hole).aS (cE 1 (ay 1 ls)) (cE 1 (ay 2 ls))) step_eq (fun I=>start_eq I ls) n
def md (a0:List aA)(a1:Int)(a2:aC):Int:=(dV (S:=Unit) (β:=Int) (fun i1 y1 s3=>(cond (Z153.md y1 a1 a2) (.inr (i1)) (.inl ()))) (fun s3=>((-1):Int)) 0 a0 ())
def gd (a0:List aA)(a1:Int)(a2:aC):Prop:=(bO (2^21) (fun y:aA=>aA.Sm (2^21) y) a0)
def acc (ls:List L):aD×Int×aC:=((ls.headD .hole).aS,(fU (cE 1 (ay 1 ls))),(sDec (cE 1 (ay 2 ls))))
def R:(aD×Int×aC)->Option Int:=RR (p3 gd) (u3 md)
def aj {a0 a1 a2}(h:gd a0 a1 a2):R ((a0.map aA.row),a1,a2)=some (md a0 a1 a2):=kN h
def aU:fY:=CN pats res acc R
def bh (a0:List aA)(a1:Int)(a2:aC)(p1 p2:List L)(e1:a1=(fU p1))(e2:a2=(sDec p2))(H0:gd a0 a1 a2):∃n,start (iter step n) (a0.map aA.row) p1 p2=ret ((md a0 a1 a2):Int):=by
 have Bh2:=bl H0
 refine ex_eq (cW (z:=aA.zero)) (dW (p:=Pt.p0 (a0.map aA.row) p1 p2 (a0.length:Int) 0) fz ?_)
 refine cq (pt:=fun (i1:Nat) (s3:Unit)=>Pt.p0 (a0.map aA.row) p1 p2 (a0.length:Int) (i1:Int)) (fun _ _=>True) (fun J i1 s3 h2 hih2=>?_) (fun s3 hih2=>?_) trivial
 ·simp only [step,SS,<-e1,<-e2]
  refine bq.yes dt (bq.yes aK ?_)
  refine bq.yes (aP h2) (cr (Z153.aj trivial) ?_)
  refine bq.bif (fun c4=>bq.inr fz) (fun c4=>?_)
  refine bq.inl trivial ?_
  rw [aJ h2 Bh2]
 ·simp only [step,SS,<-e1,<-e2]
  refine dH dn (⟨0,?_⟩)
  exact fz
def oF (ls:List L)(a:List aA×Int×aC)(e:acc ls=Im.im a)(hg:(p3 gd) a):∃n:Nat,start (iter step n) ((ls.headD .hole).aS) (cE 1 (ay 1 ls)) (cE 1 (ay 2 ls))=ret (Im.im ((u3 md) a)):=by
 have e0:(a.1.map aA.row)=(ls.headD .hole).aS:=(congrArg (fun x=>x.1) e.symm)
 obtain ⟨n,hn⟩:=bh a.1 a.2.1 a.2.2 (cE 1 (ay 1 ls)) (cE 1 (ay 2 ls)) (congrArg (fun x=>x.2.1) e.symm) (congrArg (fun x=>x.2.2) e.symm) hg
 refine ⟨n,?_⟩
 rw [<-e0]
 exact hn
def af:cC 155 aU:=VP (accr:=fun ls=>((ls.headD .hole).aS,(cE 1 (ay 1 ls)),(cE 1 (ay 2 ls)))) (run:=fun n x=>start (iter step n) x.1 x.2.1 x.2.2) mix aB (cJ Z153.af) Tryz.func155 (by kernel_rfl) run_eq (fun ls a _ e hg=>oF ls a e hg)
def fa (a0:List aA)(a1:Int)(a2:aC):-1<=md a0 a1 a2/\md a0 a1 a2<(a0.length:Int):=by
 refine gG ?_ _ _
 all_goals
  intro i x s b h
  revert h
  simp only [Bool.cond_eq_ite]
  repeat' split
  all_goals (intro h;first | (cases h;rfl) | cases h)
def idx_eq (a0:List aA)(a1:Int)(a2:aC):md a0 a1 a2=jl (fun y=>Z153.md y a1 a2) 0 a0:=iB
end Z154
namespace Z155
def F (x0:cu)(x1:Int)(x2:aC):aI:=(call (Z154.R (x0.aN,x1,x2)) fun v1=>ret v1)
def md (a0:aG)(a1:Int)(a2:aC):Int:=((Z154.md a0.aN a1 a2))
def gd (a0:aG)(a1:Int)(a2:aC):Prop:=(aG.Sm (2^21) a0)
def R:=RR (p3 gd) (u3 md)
def aj {a0 a1 a2}(h:gd a0 a1 a2):R ((aG.r a0),a1,a2)=some (md a0 a1 a2):=kN h
def aU:=CN [.agg xV,pI,pS] oI RT.dec R
def bh (a0)(a1)(a2)(H0:gd a0 a1 a2):F (aG.r a0) a1 a2=ret (md a0 a1 a2):=ct (Z154.aj H0) fz
def af:cC 146 aU:=W3 11 F mix aB bh (cJ Z154.af) Tryz.func146
def fa (a0:aG)(a1:Int)(a2:aC):-1<=md a0 a1 a2/\md a0 a1 a2<(a0.aN.length:Int):=by unfold md;exact Z154.fa _ _ _
def br (a0:aG)(a1:Int)(a2:aC):md a0 a1 a2=Z52.md a0 a1 a2:=by
 unfold md Z52.md
 rw [Z154.idx_eq]
 symm
 refine kB (fun i x s=>?_) _ _ _
 unfold Z153.md
 cases x.bw==a1<;>cases x.aV==a2<;>rfl
end Z155
namespace Z156
def F (x0:cu)(x1:Int)(x2:aC):aI:=(call (Z155.R (x0,x1,x2)) fun v1=>(cond (v1<0) (ret ((⟨[],false,(⟨(⟨#[]⟩:aC),0,0,[]⟩:bH),(⟨0,[]⟩:cS),(⟨0,(⟨(⟨#[]⟩:aC),0,0,[]⟩:bH),(⟨(⟨#[]⟩:aC),0,0,[]⟩:bH),(⟨0,[]⟩:cS),(⟨0,[]⟩:cS)⟩:eN)⟩:bf):bf)) (m2 v1 (x0.aN.length:Int) (call (Z142.R ((bZ.at x0.aN (toNat v1)).bS)) fun v2=>ret (v2:bf)))))
def md (a0:aG)(a1:Int)(a2:aC):aq:=(cond ((Z155.md a0 a1 a2)<0) (⟨[],false,(⟨((⟨#[]⟩:aC):aC),0,0,[]⟩:ah),(⟨0,[]⟩:aH),(⟨0,(⟨((⟨#[]⟩:aC):aC),0,0,[]⟩:ah),(⟨((⟨#[]⟩:aC):aC),0,0,[]⟩:ah),(⟨0,[]⟩:aH),(⟨0,[]⟩:aH)⟩:bK)⟩:aq) ((a0.aN.getD (toNat (Z155.md a0 a1 a2)) aA.zero).bS))
def gd (a0:aG)(a1:Int)(a2:aC):Prop:=(aG.Sm (2^21) a0)
def R:=RR (p3 gd) (u3 md)
def aj {a0 a1 a2}(h:gd a0 a1 a2):R ((aG.r a0),a1,a2)=some (aq.r (md a0 a1 a2)):=kN h
def aU:=CN [.agg xV,pI,pS] (.agg f126) RT.dec R
def bh (a0)(a1)(a2)(hg:gd a0 a1 a2):F (aG.r a0) a1 a2=ret (aq.r (md a0 a1 a2)):=by
 unfold gd at hg
 have H0:=hg
 unfold F md
 try simp only [SS]
 refine ct (Z155.aj H0) ?_
 have fv1_:=Z155.fa a0 a1 a2
 refine bt (fun b:aq=>ret ((aq.r b):bf)) (fun c1=>?_) (fun c1=>?_)
 ·all_goals exact fz
 ·have dc1:=c1
  try simp only [DC] at dc1
  refine ak dt ?_
  refine ak (have:=(H0).1;dt) ?_
  refine ct (Z142.aj (bO.getD (z:=aA.zero) H0 (by first | assumption | omega | (simp (disch:=omega) only [wi];omega) | (simp;omega))).2) ?_
  try simp only [SS]
  all_goals exact fz
def af:cC 97 aU:=W3 22 F mix aB bh (eM Z155.af Z142.af) Tryz.func97
def br (a0:aG)(a1:Int)(a2:aC):md a0 a1 a2=Z53.md a0 a1 a2:=by
 unfold md Z53.md
 first
 | (simp only [Z155.br];done)
 | (simp only [Z155.br];rfl)
 | rfl
end Z156
namespace Z157
def F (x0:Int):aI:=(call (Z147.R (x0,0,2147483646)) fun v1=>ret v1)
def md (a0:Int):Bool:=((Z147.md a0 0 2147483646))
def gd (a0:Int):Prop:=True
def R:=RR gd md
def aj {a0}(h:gd a0):R a0=some (md a0):=cT h
def aU:=CN [pI] oB RT.dec R
def bh (a0)(hg:gd a0):F a0=ret (md a0):=ct (Z147.aj trivial) fz
def af:cC 126 aU:=W1 5 F mix aB bh (cJ Z147.af) Tryz.func126
end Z157
namespace Z158
def F (x0:dm):aI:=(cond (x0.cL>=0) (cond (x0.cL<=x0.cF) (cond (x0.cF<=100000) (ret ((decide ((i64.wrap (x0.cF - x0.cL))<=200)))) (ret false)) (ret false)) (ret false))
def md (a0:aE):Bool:=(cond (a0.cL>=0) (cond (a0.cL<=a0.cF) (cond (a0.cF<=100000) ((decide ((i64.wrap (a0.cF - a0.cL))<=200))) false) false) false)
def gd (a0:aE):Prop:=True
def R:=RR gd md
def aj {a0}(h:gd a0):R (aE.r a0)=some (md a0):=cT h
def aU:=CN [.agg gB] oB RT.dec R
def bh (a0)(hg:gd a0):F (aE.r a0)=ret (md a0):=by
 refine bs (fun c1=>?_) (fun _=>rfl)
 refine bs (fun c2=>?_) (fun _=>rfl)
 refine bs (fun c3=>?_) (fun _=>rfl)
 exact fz
def af:cC 359 aU:=W1 26 F mix aB bh .nil Tryz.func359
end Z158
namespace Z159
inductive Pt where
 | p0 (a:aD) (b c:Int)
def cG:Pt->List V
 | .p0 a b c=>[.sl none 3 a,.int .i64 b,.int .i64 c]
def step (J:Pt->aI):Pt->aI
 | .p0 a b c=>(cond (c<b) (cond (c>0) (m2 c (a.length:Int) (cg ((0:Int)<=(i64.wrap (c - 1))) (cg ((i64.wrap (c - 1))<(a.length:Int)) (cond ((jG a (toNat c))<=(jG a (toNat (i64.wrap (c - 1))))) bT (J (.p0 a b (i64.wrap (c+1)))))))) (J (.p0 a b (i64.wrap (c+1))))) gf)
def start (J:Pt->aI)(x0:aD):aI:=J (.p0 x0 (x0.length:Int) 0)
def live:Nat->Live:=fL [(2,gA [0,5,6])]
def md (a0:List Int):Bool:=(dV (S:=Unit) (β:=Bool) (fun (i1:Nat) (y1:Int) (s3:Unit)=>(cond ((i1:Int)>0) (cond (y1<=(a0.getD (toNat (i64.wrap ((i1:Int) - 1))) 0)) (.inr (false:Bool)) (.inl ())) (.inl ()))) (fun (s3:Unit)=>(true:Bool)) 0 a0 ())
def gd (a0:List Int):Prop:=(bO (2^38) (fun y:Int=>True) a0)
def R:=RR gd md
def aj {a0}(h:gd a0):R (a0.map bk)=some (md a0):=cT h
def aU:=CN [pL 3] oB RT.dec R
def bh (a0)(hg:gd a0):∃n,start (iter step n) (a0.map bk)=ret (md a0):=by
 unfold gd at hg
 have H0:=hg
 unfold start md
 try simp only [SS]
 have Bh2:a0.length<=maxLen:=(by
   have:=(H0).1
   try simp only [maxLen] at *
   omega)
 refine ex_eq (out:=ret) (cW (z:=0)) ?_
 refine dW (p:=Pt.p0 (a0.map bk) (a0.length:Int) 0) fz ?_
 refine cq (pt:=fun (i1:Nat) (s3:Unit)=>Pt.p0 (a0.map bk) (a0.length:Int) (i1:Int)) (s:=(():Unit)) (out:=ret) (fun _ _=>True) (fun J i1 s3 h2 hih2=>?_) (fun s3 hih2=>?_) trivial
 ·simp only [step,SS]
  have bb_:=Bh2
  simp only [maxLen] at bb_
  have:=(H0).1
  refine bq.yes (by apply decide_eq_true;omega) ?_
  refine bq.bif (fun c4=>?_) (fun c4=>?_)
  ·have dc4:=c4
   try simp only [DC] at dc4
   refine bq.yes aK ?_
   refine bq.yes (aP h2) ?_
   refine bq.yes dt ?_
   refine bq.yes (have:=(H0).1;dt) ?_
   refine bq.bif (fun _=>bq.inr rfl) (fun c5=>?_)
   refine bq.inl trivial ?_
   rw [aJ h2 Bh2]
   all_goals exact fz
  ·refine bq.inl trivial ?_
   rw [aJ h2 Bh2]
   all_goals exact fz
 ·simp only [step,SS]
  have:=(H0).1
  refine dH (by apply decide_eq_false;omega) ?_
  refine ⟨0,?_⟩
  all_goals exact fz
def af:cC 388 aU:=L1 24 (fun _=>2) cG (fun _=>[]) live step start mix aB bh .nil Tryz.func388
end Z159
namespace Z160
def F (x0:Int):aI:=(call (Z147.R (x0,1,99)) fun v1=>ret v1)
def md (a0:Int):Bool:=((Z147.md a0 1 99))
def gd (a0:Int):Prop:=True
def R:=RR gd md
def aj {a0}(h:gd a0):R a0=some (md a0):=cT h
def aU:=CN [pI] oB RT.dec R
def bh (a0)(hg:gd a0):F a0=ret (md a0):=ct (Z147.aj trivial) fz
def af:cC 389 aU:=W1 5 F mix aB bh (cJ Z147.af) Tryz.func389
end Z160
namespace Z161
def F (x0:cN):aI:=(call (Z147.R (x0.aN.length,1,4)) fun v1=>(cond v1 (call (Z159.R x0.aN) fun v2=>(cond v2 (cg ((0:Int)<x0.aN.length) (call (Z160.R (jG x0.aN 0)) fun v3=>(cond v3 (cg ((0:Int)<=(i64.wrap (x0.aN.length - 1))) (cg ((i64.wrap (x0.aN.length - 1))<x0.aN.length) (call (Z160.R (jG x0.aN (toNat (i64.wrap (x0.aN.length - 1))))) fun v4=>(cond v4 (call (Z147.R (x0.cH,1,x0.aN.length)) fun v5=>ret v5) (ret false))))) (ret false)))) (ret false))) (ret false)))
def md (a0:aO):Bool:=(cond (Z147.md a0.aN.length 1 4) (cond (Z159.md a0.aN) (cond (Z160.md (a0.aN.getD 0 0)) (cond (Z160.md (a0.aN.getD (toNat (i64.wrap (a0.aN.length - 1))) 0)) ((Z147.md a0.cH 1 a0.aN.length)) false) false) false) false)
def gd (a0:aO):Prop:=(aO.Sm (2^21) a0)
def R:=RR gd md
def aj {a0}(h:gd a0):R (aO.r a0)=some (md a0):=cT h
def aU:=CN [.agg jw] oB RT.dec R
def bh (a0)(H0:gd a0):F (aO.r a0)=ret (md a0):=by
 unfold F md
 simp only [SS]
 refine ct (Z147.aj trivial) (bs (fun c1=>?_) (fun _=>rfl))
 have Dc1:=c1
 simp [Z147.md] at Dc1
 refine ct (Z159.aj (H0.mono (by decide) (fun x hx=>trivial))) (bs (fun c2=>?_) (fun _=>rfl))
 refine ak dt (ct (Z160.aj trivial) ?_)
 refine bs (fun c3=>?_) (fun _=>rfl)
 refine ak dt (ak dt ?_)
 refine ct (Z160.aj trivial) (bs (fun c4=>?_) (fun _=>rfl))
 exact ct (Z147.aj trivial) fz
def af:cC 360 aU:=W1 38 F mix aB bh (jS Z147.af Z159.af Z160.af) Tryz.func360
def Dv {l:List Int}(h:∀i:Nat,i<l.length->0<i->l.getD (i - 1) 0<l.getD i 0):∀(k i:Nat),i+k<l.length->l.getD i 0<=l.getD (i+k) 0
 | 0,i,_=>Int.le_refl _
 | k+1,i,hi=>by
  have h1:=Dv h k i (by omega)
  have h2:=h (i+(k+1)) hi (by omega)
  rw [show i+(k+1) - 1=i+k by omega] at h2
  omega
def br (a0:aO):md a0=Z54.md a0:=by
 unfold md Z54.md Z159.md
 simp only [Z147.br,Z160.md]
 by_cases hl:1<=a0.aN.length/\a0.aN.length<=4
 ·have e1:Z49.md (a0.aN.length:Int) 1 4=true:=by simp [Z49.md];omega
  rw [e1]
  have wp:∀i:Nat,0<i->i<=4->toNat (i64.wrap ((i:Int) - 1))=i - 1:=fun i h1 h2=>by
   rw [Go.IntWalk.i64_in _ (by omega)];omega
  rw [wp _ (by omega) (by omega)]
  generalize a0.cH=n
  generalize a0.aN=l at *
  have i1:∀x a b:Int,Z49.md x a b=true↔a<=x/\x<=b:=fun x a b=>by simp [Z49.md]
  have i2:∀x a b:Int,Z49.md x a b=false↔¬(a<=x/\x<=b):=fun x a b=>by rw [<-i1];simp
  have w2:∀i:Nat,i<l.length->0<i->toNat (i64.wrap ((i:Int) - 1))=i - 1:=fun i h1 h2=>wp i h2 (by omega)
  rw [Bool.eq_iff_iff,<-cW (z:=0),<-cW]
  have e3:∀a b c d:Bool,(cond true (cond a (cond b (cond c d false) false) false) false)=true↔a=true/\b=true/\c=true/\d=true:=by
   intro a b c d;cases a<;>cases b<;>cases c<;>simp
  have pos:∀i:Nat,0<i->decide ((i:Int)>0)=true:=fun i h=>by simpa using h
  have npos:∀i:Nat,¬0<i->decide ((i:Int)>0)=false:=fun i h=>by simpa using h
  rw [e3]
  rw [jP (fun i=>0<i->l.getD (i - 1) 0<l.getD i 0) (fun i hi h=>?_) (fun i hi h=>?_),jP (fun i=>(1<=l.getD i 0/\l.getD i 0<=99)/\(0<i->l.getD (i - 1) 0<l.getD i 0)) (fun i hi h=>?_) (fun i hi h=>?_)]
  ·simp only [i1,and_true,aZ]
   constructor
   ·rintro ⟨h1,⟨h2,h3⟩,⟨h4,h5⟩,h6⟩
    refine ⟨fun i hi=>⟨⟨?_,?_⟩,h1 i hi⟩,h6⟩
    ·have:=Dv h1 i 0 (by omega)
     rw [Nat.zero_add] at this;omega
    ·have:=Dv h1 (l.length - 1 - i) i (by omega)
     rw [show i+(l.length - 1 - i)=l.length - 1 by omega] at this;omega
   ·rintro ⟨h1,h6⟩
    exact ⟨fun i hi=>(h1 i hi).2,(h1 0 (by omega)).1,(h1 (l.length - 1) (by omega)).1,h6⟩
  ·have e2:=(i1 (l.getD i 0) 1 99).2 h.1
   rw [e2]
   by_cases h0:0<i
   ·rw [pos i h0,w2 i hi h0,decide_eq_false (by omega)];rfl
   ·rw [npos i h0];rfl
  ·by_cases h1:1<=l.getD i 0/\l.getD i 0<=99
   ·have e2:=(i1 (l.getD i 0) 1 99).2 h1
    have h0:0<i:=Classical.byContradiction fun hc=>h ⟨h1,fun h=>(hc h).elim⟩
    rw [e2,pos i h0,w2 i hi h0,decide_eq_true (by omega)];rfl
   ·rw [(i2 _ _ _).2 h1];rfl
  ·by_cases h0:0<i
   ·rw [pos i h0,w2 i hi h0,decide_eq_false (by omega)];rfl
   ·rw [npos i h0];rfl
  ·have h0:0<i:=Classical.byContradiction fun hc=>h fun h=>(hc h).elim
   rw [pos i h0,w2 i hi h0,decide_eq_true (by omega)];rfl
 ·have e1:Z49.md (a0.aN.length:Int) 1 4=false:=by simp [Z49.md];omega
  rw [e1]
  simp only [bg]
  symm
  exact lY (by
   intro i x s b h
   revert h
   simp only [Bool.cond_eq_ite]
   repeat' split
   all_goals (intro h;first | (cases h;rfl) | cases h)) _ _ _
end Z161
namespace Z162
def F (x0:cN):aI:=(cond (x0.cH==0) (ret (((x0.aN.length:Int)==0))) (ret false))
def md (a0:aO):Bool:=(cond (a0.cH==0) (((a0.aN.length:Int)==0)) false)
def gd (a0:aO):Prop:=True
def R:=RR gd md
def aj {a0}(h:gd a0):R (aO.r a0)=some (md a0):=cT h
def aU:=CN [.agg jw] oB RT.dec R
def bh (a0)(hg:gd a0):F (aO.r a0)=ret (md a0):=by
 refine bs (fun c1=>?_) (fun _=>rfl)
 exact fz
def af:cC 363 aU:=W1 12 F mix aB bh .nil Tryz.func363
def br (a0:aO):md a0=Z55.md a0:=by
 unfold md Z55.md
 simp only [id]
end Z162
namespace Z163
def F (x0:cN):aI:=(call (Z162.R x0) fun v1=>(cond v1 (ret true) (call (Z161.R x0) fun v2=>ret v2)))
def md (a0:aO):Bool:=(cond (Z162.md a0) true ((Z161.md a0)))
def gd (a0:aO):Prop:=(aO.Sm (2^21) a0)
def R:=RR gd md
def aj {a0}(h:gd a0):R (aO.r a0)=some (md a0):=cT h
def aU:=CN [.agg jw] oB RT.dec R
def bh (a0)(H0:gd a0):F (aO.r a0)=ret (md a0):=by
 refine ct (Z162.aj trivial) (bs (fun _=>rfl) (fun c1=>?_))
 exact ct (Z161.aj H0) fz
def af:cC 361 aU:=W1 9 F mix aB bh (eM Z162.af Z161.af) Tryz.func361
end Z163
namespace Z164
def F (x0:Int)(x1:cN):aI:=(call (Z162.R x1) fun v1=>(cond v1 (ret ((x0==0))) (call (Z147.R (x0,1,500)) fun v2=>ret v2)))
def md (a0:Int)(a1:aO):Bool:=(cond (Z162.md a1) ((a0==0)) ((Z147.md a0 1 500)))
def gd (a0:Int)(a1:aO):Prop:=True
def R:=RR (p2 gd) (u2 md)
def aj {a0 a1}(h:gd a0 a1):R (a0,(aO.r a1))=some (md a0 a1):=cB h
def aU:=CN [pI,.agg jw] oB RT.dec R
def bh (a0)(a1)(hg:gd a0 a1):F a0 (aO.r a1)=ret (md a0 a1):=ct (Z162.aj trivial) (bs (fun c1=>fz) (fun c1=>ct (Z147.aj trivial) fz))
def af:cC 362 aU:=W2 11 F mix aB bh (eM Z162.af Z147.af) Tryz.func362
end Z164
namespace Z165
def F (x0:dm):aI:=(call (Z157.R x0.bw) fun v1=>(cond v1 (call (Z157.R x0.dy) fun v2=>(cond v2 (call (Z157.R x0.dR) fun v3=>(cond v3 (call (Z147.R (x0.cM,0,200)) fun v4=>(cond v4 (call (Z147.R (x0.bI,1,3)) fun v5=>(cond v5 (call (Z158.R x0) fun v6=>(cond v6 (call (Z147.R (x0.cA,0,12)) fun v7=>(cond v7 (call (Z161.R x0.bR) fun v8=>(cond v8 (call (Z163.R x0.bE) fun v9=>(cond v9 (call (Z163.R x0.bB) fun v10=>(cond v10 (call (Z164.R (x0.dB,x0.bE)) fun v11=>(cond v11 (cond x0.bC (call (Z162.R x0.bB) fun v12=>ret ((!v12))) (ret true)) (ret false))) (ret false))) (ret false))) (ret false))) (ret false))) (ret false))) (ret false))) (ret false))) (ret false))) (ret false))) (ret false)))
def md (a0:aE):Bool:=(cond (Z157.md a0.bw) (cond (Z157.md a0.dy) (cond (Z157.md a0.dR) (cond (Z147.md a0.cM 0 200) (cond (Z147.md a0.bI 1 3) (cond (Z158.md a0) (cond (Z147.md a0.cA 0 12) (cond (Z161.md a0.bR) (cond (Z163.md a0.bE) (cond (Z163.md a0.bB) (cond (Z164.md a0.dB a0.bE) (cond a0.bC ((!(Z162.md a0.bB))) true) false) false) false) false) false) false) false) false) false) false) false)
def gd (a0:aE):Prop:=(aE.Sm (2^21) a0)
def R:=RR gd md
def aj {a0}(h:gd a0):R (aE.r a0)=some (md a0):=cT h
def aU:=CN [.agg gB] oB RT.dec R
def bh (a0)(H0:gd a0):F (aE.r a0)=ret (md a0):=by
 refine ct (Z157.aj trivial) (bs (fun c1=>?_) (fun _=>rfl))
 refine ct (Z157.aj trivial) (bs (fun c2=>?_) (fun _=>rfl))
 refine ct (Z157.aj trivial) (bs (fun c3=>?_) (fun _=>rfl))
 refine ct (Z147.aj trivial) (bs (fun c4=>?_) (fun _=>rfl))
 refine ct (Z147.aj trivial) (bs (fun c5=>?_) (fun _=>rfl))
 refine ct (Z158.aj trivial) (bs (fun c6=>?_) (fun _=>rfl))
 refine ct (Z147.aj trivial) (bs (fun c7=>?_) (fun _=>rfl))
 refine ct (Z161.aj H0.1) (bs (fun c8=>?_) (fun _=>rfl))
 refine ct (Z163.aj H0.2.1) (bs (fun c9=>?_) (fun _=>rfl))
 refine ct (Z163.aj H0.2.2) (bs (fun c10=>?_) (fun _=>rfl))
 refine ct (Z164.aj trivial) (bs (fun c11=>?_) (fun _=>rfl))
 refine bs (fun c12=>?_) (fun _=>rfl)
 exact ct (Z162.aj trivial) fz
def af:cC 335 aU:=W1 67 F mix aB bh (zj Z157.af Z147.af Z158.af Z161.af Z163.af Z164.af Z162.af) Tryz.func335
def br (a0:aE):md a0=Z56.md a0:=by
 unfold md Z56.md
 simp only [Z161.br,Z147.br,Z157.md,Z163.md,Z164.md,Z162.br]
 have hs:Z158.md a0=(Z49.md a0.cL 0 100000&&(Z49.md a0.cF a0.cL 100000&&!decide ((i64.wrap (a0.cF - a0.cL))>200))):=by
  rw [Bool.eq_iff_iff]
  simp [Z158.md,Z49.md]
  omega
 have hk:Z54.md a0.bB=true->Z55.md a0.bB=false:=fun h=>by
  have:=Z54.tr h
  have e:((a0.bB.aN.length:Int)==0)=false:=beq_eq_false_iff_ne.2 (by omega)
  unfold Z55.md
  rw [e]
  cases a0.bB.cH==0<;>rfl
 rw [hs]
 revert hk
 simp only [Co,Bm,Bool.and_assoc]
 generalize Z49.md a0.bw 0 2147483646=b1
 generalize Z49.md a0.dy 0 2147483646=b2
 generalize Z49.md a0.dR 0 2147483646=b3
 generalize Z49.md a0.cM 0 200=b4
 generalize Z49.md a0.bI 1 3=b5
 generalize Z49.md a0.cL 0 100000=b6
 generalize Z49.md a0.cF a0.cL 100000=b7
 generalize decide ((i64.wrap (a0.cF - a0.cL))>200)=b8
 generalize Z49.md a0.cA 0 12=b9
 generalize Z54.md a0.bR=b10
 generalize Z54.md a0.bE=kh
 generalize Z55.md a0.bE=nh
 generalize Z54.md a0.bB=kj
 generalize Z55.md a0.bB=nj
 generalize Z49.md a0.dB 1 500=lw
 have hw:(a0.dB != 0)=!(a0.dB==0):=rfl
 rw [hw]
 generalize (a0.dB==0)=w0
 generalize a0.bC=fz
 intro hk
 cases b1;· rfl
 cases b2;· rfl
 cases b3;· rfl
 cases b4;· rfl
 cases b5;· rfl
 cases b6;· rfl
 cases b7;· rfl
 cases b8;rotate_left;· rfl
 cases b9;· rfl
 cases b10;· rfl
 revert hk
 revert kh nh kj nj lw w0 fz
 decide
end Z165
namespace Z166
def F (x0:cN):aI:=(cg (eX (((2:Int)+x0.aN.length)*8)) (ret (([[L.int x0.cH],[L.int x0.aN.length]]++x0.aN):aD)))
def md (a0:aO):List Int:=([a0.cH,a0.aN.length]++a0.aN)
def gd (a0:aO):Prop:=(aO.Sm (2^21) a0)
def R:=RR gd md
def aj {a0}(h:gd a0):R (aO.r a0)=some ((md a0).map bk):=cT h
def aU:=CN [.agg jw] (oL 3) RT.dec R
def bh (a0)(H0:gd a0):F (aO.r a0)=ret ((md a0).map bk):=by
 unfold F md
 simp only [SS]
 exact ak (have:=(H0).1;lm) fz
def af:cC 364 aU:=W1 12 F mix aB bh .nil Tryz.func364
def len (a0:aO):(md a0).length=2+a0.aN.length:=by simp [md];omega
def br (a0:aO):md a0=Z57.md a0:=by
 unfold md Z57.md
 simp only [id]
end Z166
namespace Z167
def F (x0 x1:Int):aI:=(call (Z147.R (x1,1,1000000000000)) fun v1=>(cond (!v1) (ret (0:Int)) (cond (x1=0) none (cond (x1=0) none (ret ((Int.tmod (i64.wrap ((Int.tmod x0 x1)+x1)) x1)))))))
def md (a0 a1:Int):Int:=(cond (!(Z147.md a1 1 1000000000000)) (0:Int) ((Int.tmod (i64.wrap ((Int.tmod a0 a1)+a1)) a1)))
def gd (a0 a1:Int):Prop:=True
def R:=RR (p2 gd) (u2 md)
def aj {a0 a1}(h:gd a0 a1):R (a0,a1)=some (md a0 a1):=cB h
def aU:=CN [pI,pI] oI RT.dec R
def bh (a0)(a1)(hg:gd a0 a1):F a0 a1=ret (md a0 a1):=by
 refine ct (Z147.aj trivial) (bs (fun _=>rfl) (fun c1=>?_))
 have Dc1:=c1
 simp [Z147.md] at Dc1
 refine cY df (cY df ?_)
 exact fz
def af:cC 344 aU:=W2 15 F mix aB bh (cJ Z147.af) Tryz.func344
def br (a0 a1:Int):md a0 a1=Z58.md a0 a1:=by
 unfold md Z58.md
 simp only [Z147.br]
end Z167
namespace Z168
inductive Pt where
 | p0 (a:Int) (b:aD) (c d:Int)
def cG:Pt->List V
 | .p0 a b c d=>[.int .i64 a,.sl none 3 b,.int .i64 c,.int .i64 d]
def step (J:Pt->aI):Pt->aI
 | .p0 a b c d=>(cond (d<c) (m2 d (b.length:Int) (call (Z167.R ((jG b (toNat d)),2147483647)) fun v1=>J (.p0 (Int.tmod (i64.wrap ((i64.wrap ((i64.wrap (a*1000003))+v1))+13)) 2147483647) b c (i64.wrap (d+1))))) (ret (a:Int)))
def start (J:Pt->aI)(x0:aD):aI:=J (.p0 11 x0 (x0.length:Int) 0)
def live:Nat->Live:=fL [(3,gA [3,6,7,8])]
def md (a0:List Int):Int:=(eo (S:=Int) (β:=Int) (fun (y1:Int) (s3:Int)=>(.inl (Int.tmod (i64.wrap ((i64.wrap ((i64.wrap (s3*1000003))+(Z167.md y1 2147483647)))+13)) 2147483647))) (fun (s3:Int)=>(s3:Int)) a0 11)
def gd (a0:List Int):Prop:=(bO (2^43) (fun y:Int=>True) a0)
def R:=RR gd md
def aj {a0}(h:gd a0):R (a0.map bk)=some (md a0):=cT h
def aU:=CN [pL 3] oI RT.dec R
def bh (a0)(hg:gd a0):∃n,start (iter step n) (a0.map bk)=ret (md a0):=by
 unfold gd at hg
 have H0:=hg
 unfold start md
 try simp only [SS]
 have Bh2:a0.length<=maxLen:=(by
   have:=(H0).1
   try simp only [maxLen] at *
   omega)
 refine ex_eq (out:=ret) (eS (z:=0)) ?_
 refine dW (p:=Pt.p0 11 (a0.map bk) (a0.length:Int) 0) fz ?_
 refine cq (pt:=fun (i1:Nat) (s3:Int)=>Pt.p0 s3 (a0.map bk) (a0.length:Int) (i1:Int)) (s:=(11:Int)) (out:=ret) (fun _ _=>True) (fun J i1 s3 h2 hih2=>?_) (fun s3 hih2=>?_) trivial
 ·simp only [step,SS]
  have bb_:=Bh2
  simp only [maxLen] at bb_
  have:=(H0).1
  refine bq.yes (by apply decide_eq_true;omega) ?_
  refine bq.yes aK ?_
  refine bq.yes (aP h2) ?_
  refine cr (Z167.aj trivial) ?_
  refine bq.inl trivial ?_
  rw [aJ h2 Bh2]
  all_goals exact fz
 ·simp only [step,SS]
  have:=(H0).1
  refine dH (by apply decide_eq_false;omega) ?_
  refine ⟨0,?_⟩
  all_goals exact fz
def af:cC 316 aU:=L1 21 (fun _=>3) cG (fun _=>[]) live step start mix aB bh (cJ Z167.af) Tryz.func316
def br (a0:List Int):md a0=Z59.md a0:=by
 unfold md Z59.md
 first
 | (simp only [Z167.br];done)
 | (simp only [Z167.br];rfl)
 | rfl
end Z168
namespace Z169
def F (x0:cN)(x1:Int):aI:=(call (Z166.R x0) fun v1=>(cg (eX (((2:Int)+v1.length)*8)) (call (Z168.R ([[L.int 239],[L.int x1]]++v1)) fun v2=>ret v2)))
def md (a0:aO)(a1:Int):Int:=((Z168.md ([239,a1]++(Z166.md a0))))
def gd (a0:aO)(a1:Int):Prop:=(aO.Sm (2^21) a0)
def R:=RR (p2 gd) (u2 md)
def aj {a0 a1}(h:gd a0 a1):R ((aO.r a0),a1)=some (md a0 a1):=cB h
def aU:=CN [.agg jw,pI] oI RT.dec R
def bh (a0)(a1)(H0:gd a0 a1):F (aO.r a0) a1=ret (md a0 a1):=by
 refine ct (Z166.aj H0) (ak (have:=Z166.len a0;have:=(H0).1;lm) ?_)
 exact aX _ (rq (Z168.aj (a0:=([239,a1]++(Z166.md a0))) ⟨(have:=Z166.len a0;have:=(H0).1;om),fun _ _=>trivial⟩)) fz
def af:cC 336 aU:=W2 11 F mix aB bh (eM Z166.af Z168.af) Tryz.func336
def br (a0:aO)(a1:Int):md a0 a1=Z60.md a0 a1:=by
 unfold md Z60.md
 simp only [Z166.br,Z168.br]
end Z169
namespace Z170
def F (x0:Bool):aI:=(cond x0 (ret (1:Int)) (ret (0:Int)))
def md (a0:Bool):Int:=(cond a0 (1:Int) (0:Int))
def gd (a0:Bool):Prop:=True
def R:=RR gd md
def aj {a0}(h:gd a0):R a0=some (md a0):=cT h
def aU:=CN [pB] oI RT.dec R
def bh (a0)(hg:gd a0):F a0=ret (md a0):=by
 refine bs (fun _=>rfl) (fun _=>rfl)
def af:cC 371 aU:=W1 4 F mix aB bh .nil Tryz.func371
end Z170
namespace Z171
set_option maxHeartbeats 1000000 in
set_option maxRecDepth 100000 in
open Go.RowKit in
def BZ (b:Option Addr)(w:World):Calls Tryz.prog 393 #[.slice b 0 0,.int .i64 0] w fun e w'=>e=.returned (.slice b 0 0)/\w'=w:=by
 go_enter Tryz.func393,Tryz.ntmps393
 go_wp2
 go_ret
 exact ⟨rfl,rfl⟩
def Cq:Tryz.t3.size=1:=by kernel_rfl
def zd:Tryz.t3.bytes=8:=by kernel_rfl
set_option maxHeartbeats 1000000 in
set_option maxRecDepth 100000 in
open Go.RowKit in
def B1 (b:Option Addr)(n:Nat)(w:World)(h0:0<n)(h1:n*8<=140737488355328):Calls Tryz.prog 393 #[.slice b 0 0,.int .i64 n] w fun e w'=>e=.returned (.slice (some ⟨w.heap.size,0,none⟩) 0 (grownCap w n 0 3))/\w'=(w.drew.alloc (.cells (Builtin.zeroCells #[.int .i64 0] n++Builtin.zeroCells #[.int .i64 0] (grownCap w n 0 3 - n)) 3)):=by
 have hp:(0:Int)<n:=by omega
 have hnn:¬((n:Int)<0):=by omega
 have hold:(Builtin.firstCells Tryz.t3.size 0 (.slice b 0 0)).run Tryz.prog w.drew=.ok ([]:List Value).toArray w.drew:=by
  cases b with
  | none=>exact run_firstCells_none _ _ _ _ _
  | some b=>exact run_firstCells_some _ _ _ _ _ _ [] (by simp) (fun j v hj=>by simp at hj)
 have H:=fun ty=>Lib.run_append_grow_zeros (P:=Tryz.prog) w 39 3 ty 3 Tryz.t3 (.int .i64 0) .i64 .i64 (by kernel_rfl) (by kernel_rfl) (by kernel_rfl) (by kernel_rfl) b 0 0 [] hold n h0 (by rw [Cq];omega) (by omega) (by omega) (by rw [zd];omega) (by
  rw [Nat.zero_add,nextslicecap_zero h0,zd];omega)
 simp only [Nat.zero_add,Array.empty_append] at H
 have H2:=Lib.hid H
 clear H hold
 go_enter Tryz.func393,Tryz.ntmps393
 go_wp2_with (at_builtin;refine Lib.wpList_append_run _ rfl _ _ _ _ rfl _ _ rfl rfl _ _ (H2.out _) ?_)
 go_ret
 exact ⟨rfl,rfl⟩
def R (x0:Int):Option (aD):=bif decide (0<=x0)&&decide (x0*8<=140737488355328) then some [] else none
def aj {a0:Int}(h:0<=a0/\a0*8<=140737488355328):R a0=some []:=by simp [R,h.1,h.2]
def sem:List L->Option (List L)
 | [y0]=>(R y0.toInt).map RT.enc
 | _=>none
def aU:fY:=⟨[.nil,.rd (.int .i64)],.one (.fr 3),sem⟩
def BQ:Ev.cells 3=[au]:=by kernel_rfl
def af:cC 393 aU:=by
 refine yV ⟨Tryz.f393,Tryz.func393,by kernel_rfl,by kernel_rfl⟩ rfl fun ls r w vs Z hs hf=>?_
 simp only [aU] at hs
 unfold sem at hs
 split at hs
 ·rename_i y
  obtain ⟨v,hv,hq⟩:=map_some hs
  unfold R at hv
  cases hc:(decide (0<=y.toInt)&&decide (y.toInt*8<=140737488355328))<;>simp only [hc,aZ,bg] at hv
  ·cases hv
  injection hv with hv
  subst hv
  subst hq
  simp only [Bool.and_eq_true,decide_eq_true_eq] at hc
  cases hf with
  | cons h1 ht=>
   cases ht with
   | cons h2 ht=>
    cases ht
    obtain ⟨b,rfl⟩:=(show V0 Ev.cells w (A0 Z w) .nil _ from h1)
    have e2:_=Value.int .i64 y.toInt:=h2
    subst e2
    obtain ⟨n,hn⟩:∃n:Nat,y.toInt=n:=⟨y.toInt.toNat,by omega⟩
    rw [hn] at hc ⊢
    rcases Nat.eq_zero_or_pos n with h0 | h0
    ·subst h0
     exact (BZ b w).mono fun e w' ⟨h3,h4⟩=>⟨_,fun _=>False,h3,by rw [h4];exact Fr.refl _ _,fun b hb=>hb.elim,.nil _ _ _ _ rfl⟩
    ·refine (B1 b n w h0 (by omega)).mono fun e w' ⟨h3,h4⟩=>⟨_,fun b=>b=w.heap.size,h3,?_,fun b hb=>?_,?_⟩
     ·rw [h4];exact ((Fr.refl w _).drew).alloc _
     ·subst hb;rw [h4];simp
     ·have hge:=grownCap_ge w n 0 3
      have hle:grownCap w n 0 3<=maxLen:=grownCap_le_maxLen w n 0 3 (by simp only [maxLen];omega)
      rw [h4]
      refine .sl _ 3 0 _ w.heap.size 3 _ _ (fun _ _=>Go.undef) (fun _ _ _=>False) rfl (zero_le _) hle (heap_alloc_new w.drew _) ?_ rfl (fun _ _ _ h=>h.elim) (fun _ _ _ _ _ h=>h.elim) (fun i j k hi=>by omega) (fun i j k hi=>by omega)
      rw [BQ]
      simp only [Array.size_append,size_zeroCells,List.length_singleton]
      simp
      omega
 ·cases hs
end Z171
namespace Z172
inductive Pt where
 | p0 (a:aD) (b:Int) (c:aD) (d e:Int)
 | p1 (a:aD) (b c:Int) (d:aD)
def pid:Pt->Nat
 | .p0 ..=>3
 | .p1 ..=>11
def cG:Pt->List V
 | .p0 a b c d e=>[.sl none 39 a,.int .i64 b,.sl none 39 c,.int .i64 d,.int .i64 e]
 | .p1 a b c d=>[.own 0,.sl none 39 a,.int .i64 b,.int .i64 c]
def cX:Pt->List aW
 | .p0 a b c d e=>[]
 | .p1 a b c d=>[.row 3 d]
def step (J:Pt->aI):Pt->aI
 | .p0 a b c d e=>(cond (e<d) (m2 e (c.length:Int) (cond ((i64.wrap (b+((qd c (toNat e)).length:Int)))<0) none (J (.p0 a (i64.wrap (b+((qd c (toNat e)).length:Int))) c d (i64.wrap (e+1)))))) (call (Z171.R b) fun v1=>J (.p1 a (a.length:Int) 0 v1)))
 | .p1 a b c d=>(cond (c<b) (m2 c (a.length:Int) (cg (eX (((d.length:Int)+((qd a (toNat c)).length:Int))*8)) (J (.p1 a b (i64.wrap (c+1)) (d++(qd a (toNat c))))))) (ret (d:aD)))
def start (J:Pt->aI)(x0:aD):aI:=J (.p0 x0 0 x0 x0.length 0)
def live:Nat->Live:=fL [(3,gA [0,3,9,10,11]),(11,gA [6,25,26,27])]
def md (a0:List (List Int)):List Int:=a0.flatten
def gd (a0:List (List Int)):Prop:=a0.length<=8/\∀x∈a0,x.length<=2^40
def R:=RR gd md
def aj {a0}(h:gd a0):R (a0.map (eg bk))=some ((md a0).map bk):=cT h
def aU:=CN [pL 39] (oL 3) RT.dec R
def bh (a0)(hg:gd a0):∃n,start (iter step n) (a0.map (eg bk))=ret ((md a0).map bk):=by
 obtain ⟨hl,hx⟩:=hg
 have hs:∀i,i<=a0.length->((a0.take i).map List.length).sum<=i*2^40:=by
  intro i
  induction i with
  | zero=>intro _;simp
  | succ i ih=>
   intro hi
   rw [List.take_succ_eq_append_getElem (by omega)]
   have h1:=hx a0[i] (List.getElem_mem _)
   simp only [List.map_append,List.map_cons,List.map_nil,List.sum_append,List.sum_cons,List.sum_nil]
   omega
 have hstep:∀i (h:i<a0.length),((a0.take (i+1)).map List.length).sum=((a0.take i).map List.length).sum+a0[i].length:=by
  intro i hi
  rw [List.take_succ_eq_append_getElem (by omega)]
  simp only [List.map_append,List.map_cons,List.map_nil,List.sum_append,List.sum_cons,List.sum_nil]
  omega
 have hf:∀i,(a0.take i).flatten.length=((a0.take i).map List.length).sum:=fun i=>List.length_flatten
 have second:∀k i,i+k=a0.length->∃n,iter step n (Pt.p1 (a0.map (eg bk)) (a0.length:Int) (i:Int) ((a0.take i).flatten.map bk))=ret (a0.flatten.map bk:aD):=by
  intro k
  induction k with
  | zero=>
   intro i hi
   obtain rfl:i=a0.length:=by omega
   refine ⟨1,?_⟩
   show step (iter step 0) (Pt.p1 _ _ _ _)=_
   simp only [step]
   refine cY (by simp) ?_
   rw [List.take_length]
  | succ k ih=>
   intro i hi
   obtain ⟨n,hn⟩:=ih (i+1) (by omega)
   refine ⟨n+1,?_⟩
   show step (iter step n) (Pt.p1 _ _ _ _)=_
   have hlt:i<a0.length:=by omega
   have b1:=hs (i+1) (by omega)
   have b2:=hstep i hlt
   simp only [step,List.length_map,dw,sx]
   refine ak (by simp;omega) (ak (by simp) (ak (by simp;omega) (ak (iJ ?_) ?_)))
   ·rw [eV hlt,hf];omega
   ·rw [aJ hlt (by simp only [maxLen];omega),eV hlt,<-List.map_append]
    have e:(a0.take i).flatten++a0[i]=(a0.take (i+1)).flatten:=by
     rw [List.take_succ_eq_append_getElem (by omega)]
     simp only [List.flatten_append,List.flatten_cons,List.flatten_nil,List.append_nil]
    rw [e];exact hn
 have first:∀k i,i+k=a0.length->∃n,iter step n (Pt.p0 (a0.map (eg bk)) ((((a0.take i).map List.length).sum:Nat):Int) (a0.map (eg bk)) (a0.length:Int) (i:Int))=ret (a0.flatten.map bk:aD):=by
  intro k
  induction k with
  | zero=>
   intro i hi
   obtain rfl:i=a0.length:=by omega
   obtain ⟨n,hn⟩:=second a0.length 0 (by omega)
   refine ⟨n+1,?_⟩
   show step (iter step n) (Pt.p0 _ _ _ _ _)=_
   have b1:=hs a0.length (by omega)
   simp only [step]
   refine cY (by simp) (aX [] (Z171.aj ⟨by omega,by omega⟩) ?_)
   simpa using hn
  | succ k ih=>
   intro i hi
   obtain ⟨n,hn⟩:=ih (i+1) (by omega)
   refine ⟨n+1,?_⟩
   show step (iter step n) (Pt.p0 _ _ _ _ _)=_
   have hlt:i<a0.length:=by omega
   have b1:=hs (i+1) (by omega)
   have b2:=hstep i hlt
   simp only [step,List.length_map,dw,sx,eV hlt]
   have e:i64.wrap (((((a0.take i).map List.length).sum:Nat):Int)+(a0[i].length:Int))=((((a0.take (i+1)).map List.length).sum:Nat):Int):=by
    rw [Go.IntWalk.i64_in _ (by omega)];omega
   rw [e]
   refine ak (by simp;omega) (ak (by simp) (ak (by simp;omega) (cY (by simp) ?_)))
   rw [aJ hlt (by simp only [maxLen];omega)]
   exact hn
 unfold md
 obtain ⟨n,hn⟩:=first a0.length 0 (by omega)
 refine ⟨n,?_⟩
 unfold start
 simpa using hn
def af:cC 370 aU:=L1 36 pid cG cX live step start mix aB bh (cJ Z171.af) Tryz.func370
def len (a0:List (List Int)):(md a0).length=(a0.map List.length).sum:=by simp [md]
end Z172
namespace Z173
def F (x0:dm):aI:=(call (Z166.R x0.bR) fun v1=>(call (Z166.R x0.bE) fun v2=>(call (Z166.R x0.bB) fun v3=>(call (Z170.R x0.bC) fun v4=>(call (Z172.R [[L.sl [[L.int x0.bw],[L.int x0.cM],[L.int x0.bI],[L.int x0.cL],[L.int x0.cF],[L.int x0.cA],[L.int x0.dy],[L.int x0.dR]]],[L.sl v1],[L.sl v2],[L.sl [[L.int x0.dB]]],[L.sl v3],[L.sl [[L.int v4]]]]) fun v5=>ret (v5:aD))))))
def md (a0:aE):List Int:=(Z172.md [[a0.bw,a0.cM,a0.bI,a0.cL,a0.cF,a0.cA,a0.dy,a0.dR],(Z166.md a0.bR),(Z166.md a0.bE),[a0.dB],(Z166.md a0.bB),[(Z170.md a0.bC)]])
def gd (a0:aE):Prop:=(aE.Sm (2^21) a0)
def R:=RR gd md
def aj {a0}(h:gd a0):R (aE.r a0)=some ((md a0).map bk):=cT h
def aU:=CN [.agg gB] (oL 3) RT.dec R
def bh (a0)(hg:gd a0):F (aE.r a0)=ret ((md a0).map bk):=by
 unfold gd at hg
 have H0:=hg
 unfold F md
 try simp only [SS]
 refine ct (Z166.aj H0.1) ?_
 try simp only [SS]
 refine ct (Z166.aj H0.2.1) ?_
 try simp only [SS]
 refine ct (Z166.aj H0.2.2) ?_
 try simp only [SS]
 refine ct (Z170.aj trivial) ?_
 refine aX ((Z172.md [[a0.bw,a0.cM,a0.bI,a0.cL,a0.cF,a0.cA,a0.dy,a0.dR],(Z166.md a0.bR),(Z166.md a0.bE),[a0.dB],(Z166.md a0.bB),[(Z170.md a0.bC)]]).map bk) (rq (Z172.aj (a0:=[[a0.bw,a0.cM,a0.bI,a0.cL,a0.cF,a0.cA,a0.dy,a0.dR],(Z166.md a0.bR),(Z166.md a0.bE),[a0.dB],(Z166.md a0.bB),[(Z170.md a0.bC)]]) ⟨(by simp),(by
   have:=Z166.len a0.bR
   have:=(H0.1).1
   have:=Z166.len a0.bE
   have:=(H0.2.1).1
   have:=Z166.len a0.bB
   have:=(H0.2.2).1
   intro x_ hx_
   simp only [List.mem_cons,List.not_mem_nil,or_false] at hx_
   rcases hx_ with hx_ | hx_ | hx_ | hx_ | hx_ | hx_
   all_goals (subst hx_;first | omega | (simp only [LN];omega)))⟩)) ?_
 try simp only [SS]
 all_goals exact fz
def af:cC 340 aU:=W1 38 F mix aB bh (jS Z166.af Z170.af Z172.af) Tryz.func340
def len (a0:aE):(md a0).length=16+a0.bR.aN.length+a0.bE.aN.length+a0.bB.aN.length:=by unfold md;simp [Z172.md,Z166.len];omega
def br (a0:aE):md a0=Z61.md a0:=by
 rw [Z61.uv]
 unfold md Z172.md
 simp only [Z166.br,Z170.md,List.flatten_cons,List.flatten_nil,List.cons_append,List.nil_append,List.append_nil]
end Z173
namespace Z174
def F (x0:Int)(x1:aD):aI:=(call (Z172.R [[L.sl [[L.int x0]]],[L.sl x1],[L.sl [[L.int x0]]]]) fun v1=>(call (Z168.R v1) fun v2=>ret v2))
def md (a0:Int)(a1:List Int):Int:=((Z168.md (Z172.md [[a0],a1,[a0]])))
def gd (a0:Int)(a1:List Int):Prop:=(bO (2^40) (fun y:Int=>True) a1)
def R:=RR (p2 gd) (u2 md)
def aj {a0 a1}(h:gd a0 a1):R (a0,(a1.map bk))=some (md a0 a1):=cB h
def aU:=CN [pI,pL 3] oI RT.dec R
def bh (a0)(a1)(H1:gd a0 a1):F a0 (a1.map bk)=ret (md a0 a1):=by
 refine aX _ (rq (Z172.aj (a0:=[[a0],a1,[a0]]) ⟨(by simp),(by
   have:=(H1).1
   intro x_ hx_
   simp only [List.mem_cons,List.not_mem_nil,or_false] at hx_
   rcases hx_ with hx_ | hx_ | hx_
   all_goals (subst hx_;first | omega | (simp only [LN];omega)))⟩)) ?_
 refine ct (Z168.aj ⟨(by
   have:=Z172.len [[a0],a1,[a0]]
   simp only [LN] at this
   have:=(H1).1
   exact om),fun _ _=>trivial⟩) ?_
 exact fz
def af:cC 409 aU:=W2 13 F mix aB bh (eM Z172.af Z168.af) Tryz.func409
def br (a0:Int)(a1:List Int):md a0 a1=Z62.md a0 a1:=by
 unfold md Z62.md
 (simp only [Z168.br];rfl)
end Z174
namespace Z175
def F (x0:Int)(x1:aD):aI:=(cg (eX (((1:Int)+x1.length)*8)) (call (Z174.R (x0,([[L.int 223]]++x1))) fun v1=>ret v1))
def md (a0:Int)(a1:List Int):Int:=((Z174.md a0 ([223]++a1)))
def gd (a0:Int)(a1:List Int):Prop:=(bO (2^39) (fun y:Int=>True) a1)
def R:=RR (p2 gd) (u2 md)
def aj {a0 a1}(h:gd a0 a1):R (a0,(a1.map bk))=some (md a0 a1):=cB h
def aU:=CN [pI,pL 3] oI RT.dec R
def bh (a0)(a1)(H1:gd a0 a1):F a0 (a1.map bk)=ret (md a0 a1):=by
 refine ak (have:=(H1).1;lm) (aX _ (rq (Z174.aj (a1:=([223]++a1)) ⟨(have:=(H1).1;om),fun _ _=>trivial⟩)) ?_)
 exact fz
def af:cC 408 aU:=W2 10 F mix aB bh (cJ Z174.af) Tryz.func408
def br (a0:Int)(a1:List Int):md a0 a1=Z63.md a0 a1:=by
 unfold md Z63.md
 simp only [Z174.br]
end Z175
namespace Z176
def F (x0:bn)(x1:aD):aI:=(call (Z160.R x0.iu) fun v1=>(cond v1 (call (Z175.R (x0.iu,x1)) fun v2=>ret ((x0.jM==v2))) (ret false)))
def md (a0:bn)(a1:List Int):Bool:=(cond (Z160.md a0.iu) ((a0.jM==(Z175.md a0.iu a1))) false)
def gd (a0:bn)(a1:List Int):Prop:=(bO (2^38) (fun y:Int=>True) a1)
def R:=RR (p2 gd) (u2 md)
def aj {a0 a1}(h:gd a0 a1):R (a0,(a1.map bk))=some (md a0 a1):=cB h
def aU:=CN [.agg Ap,pL 3] oB RT.dec R
def bh (a0)(a1)(H1:gd a0 a1):F a0 (a1.map bk)=ret (md a0 a1):=by
 refine ct (Z160.aj trivial) (bs (fun c1=>?_) (fun _=>rfl))
 exact ct (Z175.aj (H1.mono (by decide) (fun x hx=>trivial))) fz
def af:cC 405 aU:=W2 17 F mix aB bh (eM Z160.af Z175.af) Tryz.func405
def br (a0:bn)(a1:List Int):md a0 a1=Z64.md a0 a1:=by
 unfold md Z64.md
 (simp only [Z175.br];rfl)
end Z176
namespace Z177
def F (x0:bn)(x1 x2:List L):aI:=(cond (x0.iu==(fU x1)) (call (Z176.R (x0,(nC x2))) fun v1=>ret (v1:Bool)) bT)
def pats:List gN:=[.agg [au,au],.ptr [au],.ptr [.sl 3]]
def res:RP:=.one (.rd (.bool))
def md (a0:bn)(a1:Int)(a2:List Int):Bool:=(cond (a0.iu==a1) ((Z176.md a0 a2):Bool) (false:Bool))
def gd (a0:bn)(a1:Int)(a2:List Int):Prop:=(bO (2^38) (fun y:Int=>True) a2)
def acc (ls:List L):bn×Int×aD:=((bn.dec ls),(fU (cE 1 (ay 2 ls))),(nC (cE 1 (ay 3 ls))))
def R:(bn×Int×aD)->Option Bool:=RR (p3 gd) (u3 md)
def aj {a0 a1 a2}(h:gd a0 a1 a2):R (a0,a1,(a2.map bk))=some (md a0 a1 a2):=kN h
def aU:fY:=CN pats res acc R
def bh (a0:bn)(a1:Int)(a2:List Int)(p1 p2:List L)(e1:a1=(fU p1))(e2:(a2.map bk)=(nC p2))(hg:gd a0 a1 a2):F a0 p1 p2=ret ((md a0 a1 a2):Bool):=by
 unfold gd at hg
 have H2:=hg
 unfold F md
 try simp only [SS,<-e1,<-e2]
 refine bt ret (fun c1=>?_) (fun _=>rfl)
 refine ct (Z176.aj H2) ?_
 all_goals exact fz
def oF (ls:List L)(a:bn×Int×List Int)(e:acc ls=Im.im a)(hg:(p3 gd) a):∃n:Nat,F (bn.dec ls) (cE 1 (ay 2 ls)) (cE 1 (ay 3 ls))=ret (Im.im ((u3 md) a)):=by
 have e0:a.1=(bn.dec ls):=(congrArg (fun x=>x.1) e.symm)
 have hn:=bh a.1 a.2.1 a.2.2 (cE 1 (ay 2 ls)) (cE 1 (ay 3 ls)) (congrArg (fun x=>x.2.1) e.symm) (congrArg (fun x=>x.2.2) e.symm) hg
 refine ⟨0,?_⟩
 rw [<-e0]
 exact hn
def af:cC 404 aU:=VP (live:=fun _=>[]) (nt:=14) (accr:=fun ls=>((bn.dec ls),(cE 1 (ay 2 ls)),(cE 1 (ay 3 ls)))) (run:=fun _ x=>F x.1 x.2.1 x.2.2) mix aB (cJ Z176.af) Tryz.func404 (by kernel_rfl) (fun _ _=>by kernel_rfl) (fun ls a _ e hg=>oF ls a e hg)
end Z177
namespace Z178
inductive Pt where
 | p0 (a:aD) (b c:List L) (d e:Int)
def pid:Pt->Nat
 | .p0 ..=>2
def cG:Pt->List V
 | .p0 a b c d e=>[.sl none 227 a,.fn 404 [.dL none [au] b 0,.dL none [.sl 3] c 0],.int .i64 d,.int .i64 e]
def cX:Pt->List aW
 | .p0 a b c d e=>[]
def step (J:Pt->aI):Pt->aI
 | .p0 a b c d e=>(cond (e<d) (m2 e (a.length:Int) (call (Z177.R ((bn.at a (toNat e)),(fU b),(nC c))) fun v1=>(cond v1 (ret (e:Int)) (J (.p0 a b c d (i64.wrap (e+1))))))) (ret ((-1):Int)))
def start (J:Pt->aI)(x0:aD)(x1 x2:List L):aI:=J (.p0 x0 x1 x2 x0.length 0)
def live:Nat->Live:=fL [(2,gA [0,1,7,8])]
def pats:List gN:=[.rd (.sl 227),.fn 404 [[au],[.sl 3]]]
def res:RP:=.one (.rd (.int .i64))
abbrev E:Env:={ T:=assoc mq,G:=dM [(404,Z177.aU)],nt:=19 }
def step_eq (I:cR)(p:Pt):dF E live I (pid p) (bP Tryz.f407) (gp (live (pid p)) (cG p) (cX p)) (cP E Tryz.f407 res)=step (fun q=>I (pid q) (cG q) (cX q)) p:=by
 cases p<;>kernel_rfl
def start_eq (I:cR)(ls:List L):fG E live I (bP Tryz.f407) (dJ pats ls) (cP E Tryz.f407 res)=start (fun q=>I (pid q) (cG q) (cX q)) (ls.headD .hole).aS (cE 1 (ay 1 ls)) (cE 1 (ay 2 ls)):=by kernel_rfl
def run_eq (n:Nat)(ls:List L):fc E live Tryz.f407 res n (dJ pats ls)=start (iter step n) (ls.headD .hole).aS (cE 1 (ay 1 ls)) (cE 1 (ay 2 ls)):=cO (id:=pid) (vs:=cG) (hs:=cX) (step:=step) (start:=fun J=>start J (ls.headD .hole).aS (cE 1 (ay 1 ls)) (cE 1 (ay 2 ls))) step_eq (fun I=>start_eq I ls) n
def md (a0:List bn)(a1:Int)(a2:List Int):Int:=(dV (S:=Unit) (β:=Int) (fun i1 y1 s3=>(cond (Z177.md y1 a1 a2) (.inr (i1)) (.inl ()))) (fun s3=>((-1):Int)) 0 a0 ())
def gd (a0:List bn)(a1:Int)(a2:List Int):Prop:=(bO (2^21) (fun y:bn=>bn.Sm (2^21) y) a0)/\(bO (2^38) (fun y:Int=>True) a2)
def acc (ls:List L):aD×Int×aD:=((ls.headD .hole).aS,(fU (cE 1 (ay 1 ls))),(nC (cE 1 (ay 2 ls))))
def R:(aD×Int×aD)->Option Int:=RR (p3 gd) (u3 md)
def aj {a0 a1 a2}(h:gd a0 a1 a2):R ((a0.map bn.row),a1,(a2.map bk))=some (md a0 a1 a2):=kN h
def aU:fY:=CN pats res acc R
def bh (a0:List bn)(a1:Int)(a2:List Int)(p1 p2:List L)(e1:a1=(fU p1))(e2:(a2.map bk)=(nC p2))(hg:gd a0 a1 a2):∃n,start (iter step n) (a0.map bn.row) p1 p2=ret ((md a0 a1 a2):Int):=by
 obtain ⟨H0,H2⟩:=hg
 have Bh2:=bl H0
 refine ex_eq (cW (z:=bn.zero)) (dW (p:=Pt.p0 (a0.map bn.row) p1 p2 (a0.length:Int) 0) fz ?_)
 refine cq (pt:=fun (i1:Nat) (s3:Unit)=>Pt.p0 (a0.map bn.row) p1 p2 (a0.length:Int) (i1:Int)) (fun _ _=>True) (fun J i1 s3 h2 hih2=>?_) (fun s3 hih2=>?_) trivial
 ·simp only [step,SS,<-e1,<-e2]
  refine bq.yes dt (bq.yes aK ?_)
  refine bq.yes (aP h2) (cr (Z177.aj H2) ?_)
  refine bq.bif (fun c4=>bq.inr fz) (fun c4=>?_)
  refine bq.inl trivial ?_
  rw [aJ h2 Bh2]
 ·simp only [step,SS,<-e1,<-e2]
  refine dH dn (⟨0,?_⟩)
  exact fz
def oF (ls:List L)(a:List bn×Int×List Int)(e:acc ls=Im.im a)(hg:(p3 gd) a):∃n:Nat,start (iter step n) ((ls.headD .hole).aS) (cE 1 (ay 1 ls)) (cE 1 (ay 2 ls))=ret (Im.im ((u3 md) a)):=by
 have e0:(a.1.map bn.row)=(ls.headD .hole).aS:=(congrArg (fun x=>x.1) e.symm)
 obtain ⟨n,hn⟩:=bh a.1 a.2.1 a.2.2 (cE 1 (ay 1 ls)) (cE 1 (ay 2 ls)) (congrArg (fun x=>x.2.1) e.symm) (congrArg (fun x=>x.2.2) e.symm) hg
 refine ⟨n,?_⟩
 rw [<-e0]
 exact hn
def af:cC 407 aU:=VP (accr:=fun ls=>((ls.headD .hole).aS,(cE 1 (ay 1 ls)),(cE 1 (ay 2 ls)))) (run:=fun n x=>start (iter step n) x.1 x.2.1 x.2.2) mix aB (cJ Z177.af) Tryz.func407 (by kernel_rfl) run_eq (fun ls a _ e hg=>oF ls a e hg)
def fa (a0:List bn)(a1:Int)(a2:List Int):-1<=md a0 a1 a2/\md a0 a1 a2<(a0.length:Int):=by
 refine gG ?_ _ _
 all_goals
  intro i x s b h
  revert h
  simp only [Bool.cond_eq_ite]
  repeat' split
  all_goals (intro h;first | (cases h;rfl) | cases h)
def idx_eq (a0:List bn)(a1:Int)(a2:List Int):md a0 a1 a2=jl (fun y=>Z177.md y a1 a2) 0 a0:=iB
end Z178
namespace Z179
def F (x0:aD)(x1 x2:List L):aI:=(call (Z178.R (x0,(fU x1),(nC x2))) fun v1=>ret ((decide (v1>=0)):Bool))
def pats:List gN:=[.rd (.sl 227),.fn 404 [[au],[.sl 3]]]
def res:RP:=.one (.rd (.bool))
def md (a0:List bn)(a1:Int)(a2:List Int):Bool:=((decide ((Z178.md a0 a1 a2)>=0)):Bool)
def gd (a0:List bn)(a1:Int)(a2:List Int):Prop:=(bO (2^21) (fun y:bn=>bn.Sm (2^21) y) a0)/\(bO (2^38) (fun y:Int=>True) a2)
def acc (ls:List L):aD×Int×aD:=((ls.headD .hole).aS,(fU (cE 1 (ay 1 ls))),(nC (cE 1 (ay 2 ls))))
def R:(aD×Int×aD)->Option Bool:=RR (p3 gd) (u3 md)
def aj {a0 a1 a2}(h:gd a0 a1 a2):R ((a0.map bn.row),a1,(a2.map bk))=some (md a0 a1 a2):=kN h
def aU:fY:=CN pats res acc R
def bh (a0:List bn)(a1:Int)(a2:List Int)(p1 p2:List L)(e1:a1=(fU p1))(e2:(a2.map bk)=(nC p2))(hg:gd a0 a1 a2):F (a0.map bn.row) p1 p2=ret ((md a0 a1 a2):Bool):=by
 obtain ⟨H0,H2⟩:=hg
 unfold F md
 try simp only [SS,<-e1,<-e2]
 refine ct (Z178.aj ⟨H0,H2⟩) ?_
 have fv1_:=Z178.fa a0 a1 a2
 all_goals exact fz
def oF (ls:List L)(a:List bn×Int×List Int)(e:acc ls=Im.im a)(hg:(p3 gd) a):∃n:Nat,F ((ls.headD .hole).aS) (cE 1 (ay 1 ls)) (cE 1 (ay 2 ls))=ret (Im.im ((u3 md) a)):=by
 have e0:(a.1.map bn.row)=(ls.headD .hole).aS:=(congrArg (fun x=>x.1) e.symm)
 have hn:=bh a.1 a.2.1 a.2.2 (cE 1 (ay 1 ls)) (cE 1 (ay 2 ls)) (congrArg (fun x=>x.2.1) e.symm) (congrArg (fun x=>x.2.2) e.symm) hg
 refine ⟨0,?_⟩
 rw [<-e0]
 exact hn
def af:cC 403 aU:=VP (live:=fun _=>[]) (nt:=9) (accr:=fun ls=>((ls.headD .hole).aS,(cE 1 (ay 1 ls)),(cE 1 (ay 2 ls)))) (run:=fun _ x=>F x.1 x.2.1 x.2.2) mix aB (cJ Z178.af) Tryz.func403 (by kernel_rfl) (fun _ _=>by kernel_rfl) (fun ls a _ e hg=>oF ls a e hg)
def any_eq (a0:List bn)(a1:Int)(a2:List Int):md a0 a1 a2=a0.any (fun y=>Z177.md y a1 a2):=by
 unfold md
 rw [Z178.idx_eq]
 exact rD
end Z179
namespace Z180
inductive Pt where
 | p0 (a:aD) (b:Int) (c:aD) (d e:Int) (f:aD)
def cG:Pt->List V
 | .p0 a b c d e f=>[.sl none 227 a,.cD 0 0,.int .i64 b,.sl none 3 c,.int .i64 d,.int .i64 e]
def cX:Pt->List aW
 | .p0 a b c d e f=>[.box [.sl none 3 f]]
def step (J:Pt->aI):Pt->aI
 | .p0 a b c d e f=>(cond (e<d) (m2 e (c.length:Int) (call (Z179.R (a,(jG c (toNat e)),f)) fun v1=>(cond v1 (J (.p0 a (i64.wrap (b+1)) c d (i64.wrap (e+1)) f)) (J (.p0 a b c d (i64.wrap (e+1)) f))))) (ret (b:Int)))
def start (J:Pt->aI)(x0:cN)(x1 x2:aD):aI:=J (.p0 x2 0 x0.aN (x0.aN.length:Int) 0 x1)
def live:Nat->Live:=fL [(3,gA [2,4,7,11,12,13])]
def md (a0:aO)(a1:List Int)(a2:List bn):Int:=(eo (S:=Int) (β:=Int) (fun (y1:Int) (s3:Int)=>(cond (Z179.md a2 y1 a1) (.inl (i64.wrap (s3+1))) (.inl s3))) (fun (s3:Int)=>(s3:Int)) a0.aN 0)
def gd (a0:aO)(a1:List Int)(a2:List bn):Prop:=(aO.Sm (2^21) a0)/\(bO (2^38) (fun y:Int=>True) a1)/\(bO (2^21) (fun y:bn=>bn.Sm (2^21) y) a2)
def R:=RR (p3 gd) (u3 md)
def aj {a0 a1 a2}(h:gd a0 a1 a2):R ((aO.r a0),(a1.map bk),(a2.map bn.row))=some (md a0 a1 a2):=kN h
def aU:=CN [.agg jw,pL 3,pL 227] oI RT.dec R
def bh (a0)(a1)(a2)(hg:gd a0 a1 a2):∃n,start (iter step n) (aO.r a0) (a1.map bk) (a2.map bn.row)=ret (md a0 a1 a2):=by
 obtain ⟨H0,H1,H2⟩:=hg
 unfold start md
 try simp only [SS]
 have Bh2:a0.aN.length<=maxLen:=(by
   have:=(H0).1
   try simp only [maxLen] at *
   omega)
 refine ex_eq (out:=ret) (eS (z:=0)) ?_
 refine dW (p:=Pt.p0 (a2.map bn.row) 0 (a0.aN.map bk) (a0.aN.length:Int) 0 (a1.map bk)) fz ?_
 refine cq (pt:=fun (i1:Nat) (s3:Int)=>Pt.p0 (a2.map bn.row) s3 (a0.aN.map bk) (a0.aN.length:Int) (i1:Int) (a1.map bk)) (s:=(0:Int)) (out:=ret) (fun _ _=>True) (fun J i1 s3 h2 hih2=>?_) (fun s3 hih2=>?_) trivial
 ·simp only [step,SS]
  have bb_:=Bh2
  simp only [maxLen] at bb_
  have:=(H0).1
  refine bq.yes (by apply decide_eq_true;omega) ?_
  refine bq.yes aK ?_
  refine bq.yes (aP h2) ?_
  refine cr (Z179.aj ⟨H2,H1⟩) ?_
  refine bq.bif (fun c4=>?_) (fun c4=>?_)
  ·refine bq.inl trivial ?_
   rw [aJ h2 Bh2]
   all_goals exact fz
  ·refine bq.inl trivial ?_
   rw [aJ h2 Bh2]
   all_goals exact fz
 ·simp only [step,SS]
  have:=(H0).1
  refine dH (by apply decide_eq_false;omega) ?_
  refine ⟨0,?_⟩
  all_goals exact fz
def af:cC 390 aU:=L3 24 (fun _=>3) cG cX live step start mix aB bh (cJ Z179.af) Tryz.func390
def br (a0:aO)(a1:List Int)(a2:List bn):md a0 a1 a2=Z65.md a0 a1 a2:=by
 unfold md Z65.md
 refine qz (fun x _ s=>?_) (fun s=>rfl)
 rw [Z179.any_eq]
 refine Eq.trans ?_ (nX (β:=Int⊕Int) (p:=fun y=>Z177.md y x a1) (b:=Sum.inl (i64.wrap (s+1))) (c:=Sum.inl s) (fun y s'=>?_) a2 ()).symm
 ·cases a2.any (fun y=>Z177.md y x a1)<;>rfl
 ·unfold Z177.md
  simp only [Z176.br]
  cases y.iu==x<;>cases Z64.md y a1<;>rfl
end Z180
namespace Z181
def F (x0:cN)(x1 x2:aD):aI:=(call (Z161.R x0) fun v1=>(cond v1 (call (Z180.R (x0,x1,x2)) fun v2=>ret ((decide (v2>=x0.cH)))) (ret false)))
def md (a0:aO)(a1:List Int)(a2:List bn):Bool:=(cond (Z161.md a0) ((decide ((Z180.md a0 a1 a2)>=a0.cH))) false)
def gd (a0:aO)(a1:List Int)(a2:List bn):Prop:=(aO.Sm (2^21) a0)/\(bO (2^38) (fun y:Int=>True) a1)/\(bO (2^21) (fun y:bn=>bn.Sm (2^21) y) a2)
def R:=RR (p3 gd) (u3 md)
def aj {a0 a1 a2}(h:gd a0 a1 a2):R ((aO.r a0),(a1.map bk),(a2.map bn.row))=some (md a0 a1 a2):=kN h
def aU:=CN [.agg jw,pL 3,pL 227] oB RT.dec R
def bh (a0)(a1)(a2)(hg:gd a0 a1 a2):F (aO.r a0) (a1.map bk) (a2.map bn.row)=ret (md a0 a1 a2):=by
 obtain ⟨H0,H1,H2⟩:=hg
 refine ct (Z161.aj H0) (bs (fun c1=>?_) (fun _=>rfl))
 exact ct (Z180.aj ⟨H0,H1,H2⟩) fz
def af:cC 365 aU:=W3 18 F mix aB bh (eM Z161.af Z180.af) Tryz.func365
def br (a0:aO)(a1:List Int)(a2:List bn):md a0 a1 a2=Z66.md a0 a1 a2:=by
 unfold md Z66.md
 simp only [Z161.br,Z180.br]
end Z181
namespace Z182
def F (x0:aY)(x1:cN):aI:=(call (Z173.R x0.an) fun v1=>(call (Z181.R (x1,v1,x0.cI)) fun v2=>ret v2))
def md (a0:aa)(a1:aO):Bool:=((Z181.md a1 (Z173.md a0.an) a0.cI))
def gd (a0:aa)(a1:aO):Prop:=(aa.Sm (2^21) a0)/\(aO.Sm (2^21) a1)
def R:=RR (p2 gd) (u2 md)
def aj {a0 a1}(h:gd a0 a1):R ((aa.r a0),(aO.r a1))=some (md a0 a1):=cB h
def aU:=CN [.agg lB,.agg jw] oB RT.dec R
def bh (a0)(a1)(hg:gd a0 a1):F (aa.r a0) (aO.r a1)=ret (md a0 a1):=by
 obtain ⟨H0,H1⟩:=hg
 refine ct (Z173.aj H0.1) (ct (Z181.aj ⟨H1,⟨(have:=Z173.len a0.an;have:=(H0.1.1).1;have:=(H0.1.2.1).1;have:=(H0.1.2.2).1;om),fun _ _=>trivial⟩,H0.2⟩) ?_)
 exact fz
def af:cC 337 aU:=W2 12 F mix aB bh (eM Z173.af Z181.af) Tryz.func337
end Z182
namespace Z183
def F (x0:aY):aI:=(call (Z165.R x0.an) fun v1=>(cond v1 (cond (x0.an.cM==0) (cond (x0.an.bI==1) (cond (!x0.an.bC) (call (Z169.R (x0.an.bR,x0.an.dR)) fun v2=>(cond (x0.an.bw==v2) (call (Z182.R (x0,x0.an.bR)) fun v3=>ret v3) (ret false))) (ret false)) (ret false)) (ret false)) (ret false)))
def md (a0:aa):Bool:=(cond (Z165.md a0.an) (cond (a0.an.cM==0) (cond (a0.an.bI==1) (cond (!a0.an.bC) (cond (a0.an.bw==(Z169.md a0.an.bR a0.an.dR)) ((Z182.md a0 a0.an.bR)) false) false) false) false) false)
def gd (a0:aa):Prop:=(aa.Sm (2^21) a0)
def R:=RR gd md
def aj {a0}(h:gd a0):R (aa.r a0)=some (md a0):=cT h
def aU:=CN [.agg lB] oB RT.dec R
def bh (a0)(H0:gd a0):F (aa.r a0)=ret (md a0):=by
 refine ct (Z165.aj H0.1) (bs (fun c1=>?_) (fun _=>rfl))
 refine bs (fun c2=>?_) (fun _=>rfl)
 refine bs (fun c3=>?_) (fun _=>rfl)
 refine bs (fun c4=>?_) (fun _=>rfl)
 refine ct (Z169.aj H0.1.1) (bs (fun c5=>?_) (fun _=>rfl))
 exact ct (Z182.aj ⟨H0,H0.1.1⟩) fz
def af:cC 302 aU:=W1 39 F mix aB bh (jS Z165.af Z169.af Z182.af) Tryz.func302
def br (a0:aa):md a0=Z67.md a0:=by
 unfold md Z67.md
 simp only [Z182.md,Z181.br,Z173.br,Z165.br,Z169.br]
end Z183
namespace Z184
def F (x0:dm):aI:=(call (Z173.R x0) fun v1=>(cg (eX (((1:Int)+v1.length)*8)) (call (Z168.R ([[L.int 233]]++v1)) fun v2=>ret v2)))
def md (a0:aE):Int:=((Z168.md ([233]++(Z173.md a0))))
def gd (a0:aE):Prop:=(aE.Sm (2^21) a0)
def R:=RR gd md
def aj {a0}(h:gd a0):R (aE.r a0)=some (md a0):=cT h
def aU:=CN [.agg gB] oI RT.dec R
def bh (a0)(H0:gd a0):F (aE.r a0)=ret (md a0):=by
 refine ct (Z173.aj H0) (ak (have:=Z173.len a0;have:=(H0.1).1;have:=(H0.2.1).1;have:=(H0.2.2).1;lm) ?_)
 exact aX _ (rq (Z168.aj (a0:=([233]++(Z173.md a0))) ⟨(have:=Z173.len a0;have:=(H0.1).1;have:=(H0.2.1).1;have:=(H0.2.2).1;om),fun _ _=>trivial⟩)) fz
def af:cC 391 aU:=W1 8 F mix aB bh (eM Z173.af Z168.af) Tryz.func391
def br (a0:aE):md a0=Z68.md a0:=by
 unfold md Z68.md
 simp only [Z173.br,Z168.br]
end Z184
namespace Z185
def F (x0 x1:dm):aI:=(cond (x1.bw==x0.bw) (cond (x1.cM==(i64.wrap (x0.cM+1))) (call (Z184.R x0) fun v1=>(cond (x1.dR==v1) (ret ((decide (x1.cL>=x0.cL)))) (ret false))) (ret false)) (ret false))
def md (a0 a1:aE):Bool:=(cond (a1.bw==a0.bw) (cond (a1.cM==(i64.wrap (a0.cM+1))) (cond (a1.dR==(Z184.md a0)) ((decide (a1.cL>=a0.cL))) false) false) false)
def gd (a0 a1:aE):Prop:=(aE.Sm (2^21) a0)
def R:=RR (p2 gd) (u2 md)
def aj {a0 a1}(h:gd a0 a1):R ((aE.r a0),(aE.r a1))=some (md a0 a1):=cB h
def aU:=CN [.agg gB,.agg gB] oB RT.dec R
def bh (a0)(a1)(H0:gd a0 a1):F (aE.r a0) (aE.r a1)=ret (md a0 a1):=by
 refine bs (fun c1=>?_) (fun _=>rfl)
 refine bs (fun c2=>?_) (fun _=>rfl)
 refine ct (Z184.aj H0) (bs (fun c3=>?_) (fun _=>rfl))
 exact fz
def af:cC 366 aU:=W2 32 F mix aB bh (cJ Z184.af) Tryz.func366
end Z185
namespace Z186
def F (x0:dm)(x1:aY):aI:=(cond x0.bC (ret (4:Int)) (cond x1.an.bC (ret (6:Int)) (call (Z182.R (x1,x0.bR)) fun v1=>(cond (!v1) (ret (7:Int)) (ret (1:Int))))))
def md (a0:aE)(a1:aa):Int:=(cond a0.bC (4:Int) (cond a1.an.bC (6:Int) (cond (!(Z182.md a1 a0.bR)) (7:Int) (1:Int))))
def gd (a0:aE)(a1:aa):Prop:=(aE.Sm (2^21) a0)/\(aa.Sm (2^21) a1)
def R:=RR (p2 gd) (u2 md)
def aj {a0 a1}(h:gd a0 a1):R ((aE.r a0),(aa.r a1))=some (md a0 a1):=cB h
def aU:=CN [.agg gB,.agg lB] oI RT.dec R
def bh (a0)(a1)(hg:gd a0 a1):F (aE.r a0) (aa.r a1)=ret (md a0 a1):=by
 obtain ⟨H0,H1⟩:=hg
 refine bs (fun _=>rfl) (fun c1=>?_)
 refine bs (fun _=>rfl) (fun c2=>?_)
 refine ct (Z182.aj ⟨H1,H0.1⟩) (bs (fun _=>rfl) (fun _=>rfl))
def af:cC 367 aU:=W2 18 F mix aB bh (cJ Z182.af) Tryz.func367
end Z186
namespace Z187
inductive Pt where
 | p0 (a b:aD) (c d:Int)
def cG:Pt->List V
 | .p0 a b c d=>[.sl none 3 a,.sl none 3 b,.int .i64 c,.int .i64 d]
def step (J:Pt->aI):Pt->aI
 | .p0 a b c d=>(cond (d<c) (m2 d (a.length:Int) (m2 d (b.length:Int) (cond ((jG a (toNat d)) != (jG b (toNat d))) bT (J (.p0 a b c (i64.wrap (d+1))))))) gf)
def start (J:Pt->aI)(x0 x1:aD):aI:=(cond ((x0.length:Int) != (x1.length:Int)) bT (J (.p0 x0 x1 (x0.length:Int) 0)))
def live:Nat->Live:=fL [(4,gA [0,1,12,13])]
def md (a0 a1:List Int):Bool:=(bif ((a0.length:Int) != (a1.length:Int)) then (false:Bool) else (eL (S:=Unit) (β:=Bool) (fun (i2:Nat) (s4:Unit)=>(cond ((a0.getD i2 0) != (a1.getD i2 0)) (.inr (false:Bool)) (.inl ()))) (fun (s4:Unit)=>(true:Bool)) a0.length 0 ()))
def gd (a0 a1:List Int):Prop:=(bO (2^38) (fun y:Int=>True) a0)/\(bO (2^38) (fun y:Int=>True) a1)
def R:=RR (p2 gd) (u2 md)
def aj {a0 a1}(h:gd a0 a1):R ((a0.map bk),(a1.map bk))=some (md a0 a1):=cB h
def aU:=CN [pL 3,pL 3] oB RT.dec R
def bh (a0)(a1)(hg:gd a0 a1):∃n,start (iter step n) (a0.map bk) (a1.map bk)=ret (md a0 a1):=by
 obtain ⟨H0,H1⟩:=hg
 unfold start md
 try simp only [SS]
 refine iy ret (fun _=>⟨0,rfl⟩) (fun c1=>?_)
 have dc1:=c1
 try simp only [DC] at dc1
 have Bh3:a0.length<=maxLen:=(by
   have:=(H0).1
   try simp only [maxLen] at *
   omega)
 refine dW (p:=Pt.p0 (a0.map bk) (a1.map bk) (a0.length:Int) 0) fz ?_
 refine cq (pt:=fun (i2:Nat) (s4:Unit)=>Pt.p0 (a0.map bk) (a1.map bk) (a0.length:Int) (i2:Int)) (s:=(():Unit)) (out:=ret) (fun _ _=>True) (fun J i2 s4 h3 hih3=>?_) (fun s4 hih3=>?_) trivial
 ·simp only [step,SS]
  have bb_:=Bh3
  simp only [maxLen] at bb_
  have:=(H0).1
  refine bq.yes (by apply decide_eq_true;omega) ?_
  refine bq.yes aK ?_
  refine bq.yes (aP h3) ?_
  refine bq.yes aK ?_
  refine bq.yes (have:=(H1).1;dt) ?_
  refine bq.bif (fun _=>bq.inr rfl) (fun c5=>?_)
  refine bq.inl trivial ?_
  rw [aJ h3 Bh3]
  all_goals exact fz
 ·simp only [step,SS]
  have:=(H0).1
  refine dH (by apply decide_eq_false;omega) ?_
  refine ⟨0,?_⟩
  all_goals exact fz
def af:cC 320 aU:=L2 26 (fun _=>4) cG (fun _=>[]) live step start mix aB bh .nil Tryz.func320
def md_eq (a0 a1:List Int):md a0 a1=eD a0 a1:=by
 unfold md
 refine kX (0) (fun i s h h2=>?_) (fun s=>rfl)
 simp only [bne,fV,bool_beq,fD]
 cases eD _ _<;>rfl
end Z187
namespace Z188
def F (x0 x1:cN):aI:=(call (Z187.R (x0.aN,x1.aN)) fun v1=>(cond v1 (ret ((x0.cH==x1.cH))) (ret false)))
def md (a0 a1:aO):Bool:=(cond (Z187.md a0.aN a1.aN) ((a0.cH==a1.cH)) false)
def gd (a0 a1:aO):Prop:=(aO.Sm (2^21) a0)/\(aO.Sm (2^21) a1)
def R:=RR (p2 gd) (u2 md)
def aj {a0 a1}(h:gd a0 a1):R ((aO.r a0),(aO.r a1))=some (md a0 a1):=cB h
def aU:=CN [.agg jw,.agg jw] oB RT.dec R
def bh (a0)(a1)(hg:gd a0 a1):F (aO.r a0) (aO.r a1)=ret (md a0 a1):=by
 obtain ⟨H0,H1⟩:=hg
 refine ct (Z187.aj ⟨(H0.mono (by decide) (fun x hx=>trivial)),(H1.mono (by decide) (fun x hx=>trivial))⟩) (bs (fun c1=>?_) (fun _=>rfl))
 exact fz
def af:cC 339 aU:=W2 17 F mix aB bh (cJ Z187.af) Tryz.func339
def md_eq (a0 a1:aO):md a0 a1=eD a0 a1:=by
 unfold md
 cases a0;cases a1
 rw [Bool.eq_iff_iff]
 simp [dz,fD,aO.mk.injEq,Z187.md_eq]
end Z188
namespace Z189
def F (x0 x1:dm):aI:=(cond (x0.cA==x1.cA) (ret ((x0.dy==x1.dy))) (ret false))
def md (a0 a1:aE):Bool:=(cond (a0.cA==a1.cA) ((a0.dy==a1.dy)) false)
def gd (a0 a1:aE):Prop:=True
def R:=RR (p2 gd) (u2 md)
def aj {a0 a1}(h:gd a0 a1):R ((aE.r a0),(aE.r a1))=some (md a0 a1):=cB h
def aU:=CN [.agg gB,.agg gB] oB RT.dec R
def bh (a0)(a1)(hg:gd a0 a1):F (aE.r a0) (aE.r a1)=ret (md a0 a1):=by
 refine bs (fun c1=>?_) (fun _=>rfl)
 exact fz
def af:cC 392 aU:=W2 17 F mix aB bh .nil Tryz.func392
def br (a0 a1:aE):md a0 a1=Z72.md a0 a1:=by
 unfold md Z72.md
 simp only [id]
end Z189
namespace Z190
def F (x0:dm)(x1:aY):aI:=(cond x0.bC (ret (4:Int)) (call (Z162.R x0.bE) fun v1=>(cond v1 (ret (5:Int)) (cond (x1.an.cL<(i64.wrap (x0.cF+x0.dB))) (ret (5:Int)) (cond x1.an.bC (ret (6:Int)) (call (Z188.R (x1.an.bR,x0.bE)) fun v2=>(cond (!v2) (ret (6:Int)) (call (Z189.R (x1.an,x0)) fun v3=>(cond (!v3) (ret (6:Int)) (call (Z182.R (x1,x0.bE)) fun v4=>(cond (!v4) (ret (7:Int)) (ret (1:Int)))))))))))))
def md (a0:aE)(a1:aa):Int:=(cond a0.bC (4:Int) (cond (Z162.md a0.bE) (5:Int) (cond (a1.an.cL<(i64.wrap (a0.cF+a0.dB))) (5:Int) (cond a1.an.bC (6:Int) (cond (!(Z188.md a1.an.bR a0.bE)) (6:Int) (cond (!(Z189.md a1.an a0)) (6:Int) (cond (!(Z182.md a1 a0.bE)) (7:Int) (1:Int))))))))
def gd (a0:aE)(a1:aa):Prop:=(aE.Sm (2^21) a0)/\(aa.Sm (2^21) a1)
def R:=RR (p2 gd) (u2 md)
def aj {a0 a1}(h:gd a0 a1):R ((aE.r a0),(aa.r a1))=some (md a0 a1):=cB h
def aU:=CN [.agg gB,.agg lB] oI RT.dec R
def bh (a0)(a1)(hg:gd a0 a1):F (aE.r a0) (aa.r a1)=ret (md a0 a1):=by
 obtain ⟨H0,H1⟩:=hg
 unfold F md
 try simp only [SS]
 refine bt ret (fun _=>rfl) (fun c1=>?_)
 refine ct (Z162.aj trivial) ?_
 refine bt ret (fun _=>rfl) (fun c2=>?_)
 refine bt ret (fun _=>rfl) (fun c3=>?_)
 refine bt ret (fun _=>rfl) (fun c4=>?_)
 refine ct (Z188.aj ⟨H1.1.1,H0.2.1⟩) ?_
 refine bt ret (fun _=>rfl) (fun c5=>?_)
 refine ct (Z189.aj trivial) ?_
 refine bt ret (fun _=>rfl) (fun c6=>?_)
 refine ct (Z182.aj ⟨H1,H0.2.1⟩) ?_
 refine bt ret (fun _=>rfl) (fun _=>rfl)
def af:cC 368 aU:=W2 48 F mix aB bh (kP Z162.af Z188.af Z189.af Z182.af) Tryz.func368
end Z190
namespace Z191
def F (x0:dm)(x1:aY):aI:=(call (Z189.R (x1.an,x0)) fun v1=>(cond v1 (call (Z188.R (x1.an.bB,x0.bB)) fun v2=>(cond v2 (call (Z188.R (x1.an.bE,x0.bE)) fun v3=>(cond v3 (call (Z162.R x0.bB) fun v4=>(cond v4 (ret (5:Int)) (cond (x1.an.bC==x0.bC) (ret (6:Int)) (cond (!(x1.an.dB==x0.dB)) (ret (6:Int)) (cond x1.an.bC (call (Z188.R (x1.an.bR,x0.bR)) fun v5=>(cond (!v5) (ret (6:Int)) (call (Z182.R (x1,x0.bB)) fun v6=>(cond (!v6) (ret (7:Int)) (ret (1:Int)))))) (call (Z182.R (x1,x0.bB)) fun v7=>(cond (!v7) (ret (7:Int)) (ret (1:Int))))))))) (call (Z162.R x0.bB) fun v8=>(cond v8 (ret (5:Int)) (cond (x1.an.bC==x0.bC) (ret (6:Int)) (ret (6:Int))))))) (call (Z162.R x0.bB) fun v9=>(cond v9 (ret (5:Int)) (cond (x1.an.bC==x0.bC) (ret (6:Int)) (ret (6:Int))))))) (call (Z162.R x0.bB) fun v10=>(cond v10 (ret (5:Int)) (cond (x1.an.bC==x0.bC) (ret (6:Int)) (ret (6:Int)))))))
def md (a0:aE)(a1:aa):Int:=(cond (Z189.md a1.an a0) (cond (Z188.md a1.an.bB a0.bB) (cond (Z188.md a1.an.bE a0.bE) (cond (Z162.md a0.bB) (5:Int) (cond (a1.an.bC==a0.bC) (6:Int) (cond (!(a1.an.dB==a0.dB)) (6:Int) (cond a1.an.bC (cond (!(Z188.md a1.an.bR a0.bR)) (6:Int) (cond (!(Z182.md a1 a0.bB)) (7:Int) (1:Int))) (cond (!(Z182.md a1 a0.bB)) (7:Int) (1:Int)))))) (cond (Z162.md a0.bB) (5:Int) (cond (a1.an.bC==a0.bC) (6:Int) (6:Int)))) (cond (Z162.md a0.bB) (5:Int) (cond (a1.an.bC==a0.bC) (6:Int) (6:Int)))) (cond (Z162.md a0.bB) (5:Int) (cond (a1.an.bC==a0.bC) (6:Int) (6:Int))))
def gd (a0:aE)(a1:aa):Prop:=(aE.Sm (2^21) a0)/\(aa.Sm (2^21) a1)
def R:=RR (p2 gd) (u2 md)
def aj {a0 a1}(h:gd a0 a1):R ((aE.r a0),(aa.r a1))=some (md a0 a1):=cB h
def aU:=CN [.agg gB,.agg lB] oI RT.dec R
def bh (a0)(a1)(hg:gd a0 a1):F (aE.r a0) (aa.r a1)=ret (md a0 a1):=by
 obtain ⟨H0,H1⟩:=hg
 refine ct (Z189.aj trivial) (bs (fun c1=>?_) (fun c1=>?_))
 ·refine ct (Z188.aj ⟨H1.1.2.2,H0.2.2⟩) (bs (fun c2=>?_) (fun c2=>?_))
  ·refine ct (Z188.aj ⟨H1.1.2.1,H0.2.1⟩) (bs (fun c3=>?_) (fun c3=>?_))
   ·refine ct (Z162.aj trivial) (bs (fun _=>rfl) (fun c4=>?_))
    refine bs (fun _=>rfl) (fun c5=>?_)
    refine bs (fun _=>rfl) (fun c6=>?_)
    refine bs (fun c7=>?_) (fun c7=>?_)
    ·refine ct (Z188.aj ⟨H1.1.1,H0.1⟩) (bs (fun _=>rfl) (fun c8=>?_))
     refine ct (Z182.aj ⟨H1,H0.2.2⟩) (bs (fun _=>rfl) (fun _=>rfl))
    ·refine ct (Z182.aj ⟨H1,H0.2.2⟩) (bs (fun _=>rfl) (fun _=>rfl))
   ·refine ct (Z162.aj trivial) (bs (fun _=>rfl) (fun c11=>?_))
    refine bs (fun _=>rfl) (fun _=>rfl)
  ·refine ct (Z162.aj trivial) (bs (fun _=>rfl) (fun c13=>?_))
   refine bs (fun _=>rfl) (fun _=>rfl)
 ·refine ct (Z162.aj trivial) (bs (fun _=>rfl) (fun c15=>?_))
  refine bs (fun _=>rfl) (fun _=>rfl)
def af:cC 369 aU:=W2 65 F mix aB bh (kP Z189.af Z188.af Z162.af Z182.af) Tryz.func369
end Z191
namespace Z192
def F (x0:dm)(x1:aY):aI:=(call (Z165.R x0) fun v1=>(cond (!v1) (ret (2:Int)) (call (Z165.R x1.an) fun v2=>(cond (!v2) (ret (2:Int)) (call (Z185.R (x0,x1.an)) fun v3=>(cond (!v3) (ret (3:Int)) (cond (x1.an.bI==1) (call (Z186.R (x0,x1)) fun v4=>ret v4) (cond (x1.an.bI==2) (call (Z190.R (x0,x1)) fun v5=>ret v5) (call (Z191.R (x0,x1)) fun v6=>ret v6)))))))))
def md (a0:aE)(a1:aa):Int:=(cond (!(Z165.md a0)) (2:Int) (cond (!(Z165.md a1.an)) (2:Int) (cond (!(Z185.md a0 a1.an)) (3:Int) (cond (a1.an.bI==1) ((Z186.md a0 a1)) (cond (a1.an.bI==2) ((Z190.md a0 a1)) ((Z191.md a0 a1)))))))
def gd (a0:aE)(a1:aa):Prop:=(aE.Sm (2^21) a0)/\(aa.Sm (2^21) a1)
def R:=RR (p2 gd) (u2 md)
def aj {a0 a1}(h:gd a0 a1):R ((aE.r a0),(aa.r a1))=some (md a0 a1):=cB h
def aU:=CN [.agg gB,.agg lB] oI RT.dec R
def bh (a0)(a1)(hg:gd a0 a1):F (aE.r a0) (aa.r a1)=ret (md a0 a1):=by
 obtain ⟨H0,H1⟩:=hg
 refine ct (Z165.aj H0) (bs (fun _=>rfl) (fun c1=>?_))
 refine ct (Z165.aj H1.1) (bs (fun _=>rfl) (fun c2=>?_))
 refine ct (Z185.aj H0) (bs (fun _=>rfl) (fun c3=>?_))
 refine bs (fun c4=>ct (Z186.aj ⟨H0,H1⟩) fz) (fun c4=>?_)
 exact bs (fun c5=>ct (Z190.aj ⟨H0,H1⟩) fz) (fun c5=>ct (Z191.aj ⟨H0,H1⟩) fz)
def af:cC 338 aU:=W2 40 F mix aB bh (xF Z165.af Z185.af Z186.af Z190.af Z191.af) Tryz.func338
def br (a0:aE)(a1:aa):md a0 a1=Z75.md a0 a1:=by
 unfold md Z75.md Z185.md Z186.md Z190.md Z191.md Z182.md Z69.md Z73.md Z74.md
 simp only [Z165.br,Z184.br,Z181.br,Z173.br,Z162.br,Z188.md_eq,Z71.md_eq,Z189.br,bne]
 cases Z56.md a0
 ·rfl
 cases h2:Z56.md a1.an
 ·rfl
 obtain ⟨⟨k1,k2⟩,_⟩:=Z56.tr h2
 have ht:decide (a1.an.cL<a0.cL)=!decide (a1.an.cL>=a0.cL):=by
  rw [Bool.eq_iff_iff];simp
 rw [ht]
 cases a1.an.bw==a0.bw
 ·rfl
 cases a1.an.cM==i64.wrap (a0.cM+1)
 ·rfl
 cases a1.an.dR==Z68.md a0
 ·rfl
 cases decide (a1.an.cL>=a0.cL)
 ·rfl
 have hk:a1.an.bI=1∨a1.an.bI=2∨a1.an.bI=3:=by omega
 generalize Z66.md a0.bR (Z61.md a1.an) a1.cI=s1
 generalize Z66.md a0.bE (Z61.md a1.an) a1.cI=s2
 generalize Z66.md a0.bB (Z61.md a1.an) a1.cI=s3
 generalize Z55.md a0.bE=n1
 generalize Z55.md a0.bB=n2
 generalize decide (a1.an.cL<i64.wrap (a0.cF+a0.dB))=d1
 generalize eD a1.an.bR a0.bE=e1
 generalize eD a1.an.bB a0.bB=e2
 generalize eD a1.an.bE a0.bE=e3
 generalize eD a1.an.bR a0.bR=e4
 generalize Z72.md a1.an a0=c1
 generalize (a1.an.dB==a0.dB)=w1
 generalize a1.an.bC=f1
 generalize a0.bC=f0
 rcases hk with hk | hk | hk<;>rw [hk]
 ·cases f0<;>cases f1<;>cases s1<;>rfl
 ·cases f0<;>cases n1<;>cases d1<;>cases f1<;>cases e1<;>cases c1<;>cases s2<;>rfl
 ·cases n2
  ·cases f1<;>cases f0<;>cases c1<;>cases e2<;>cases e3<;>cases w1<;>cases e4<;>cases s3<;>rfl
  ·cases c1<;>cases e2<;>cases e3<;>rfl
end Z192
namespace Z193
def F (x0:dm)(x1:aY):aI:=(call (Z192.R (x0,x1)) fun v1=>ret ((v1==1)))
def md (a0:aE)(a1:aa):Bool:=(((Z192.md a0 a1)==1))
def gd (a0:aE)(a1:aa):Prop:=(aE.Sm (2^21) a0)/\(aa.Sm (2^21) a1)
def R:=RR (p2 gd) (u2 md)
def aj {a0 a1}(h:gd a0 a1):R ((aE.r a0),(aa.r a1))=some (md a0 a1):=cB h
def aU:=CN [.agg gB,.agg lB] oB RT.dec R
def bh (a0)(a1)(hg:gd a0 a1):F (aE.r a0) (aa.r a1)=ret (md a0 a1):=by
 obtain ⟨H0,H1⟩:=hg
 exact ct (Z192.aj ⟨H0,H1⟩) fz
def af:cC 303 aU:=W2 9 F mix aB bh (cJ Z192.af) Tryz.func303
def br (a0:aE)(a1:aa):md a0 a1=Z76.md a0 a1:=by
 unfold md Z76.md
 simp only [Z192.br]
end Z193
namespace Z194
inductive Pt where
 | p0 (a b:aD) (c d:Int)
def cG:Pt->List V
 | .p0 a b c d=>[.sl none 178 a,.sl none 178 b,.int .i64 c,.int .i64 d]
def step (J:Pt->aI):Pt->aI
 | .p0 a b c d=>(cond (d<c) (m2 d (b.length:Int) (cond (d==0) (call (Z183.R (aY.at b (toNat d))) fun v1=>(cond (!v1) (ret (d:Int)) (cond (d>0) (cg ((0:Int)<=(i64.wrap (d - 1))) (cg ((i64.wrap (d - 1))<(a.length:Int)) (call (Z193.R ((aY.at a (toNat (i64.wrap (d - 1)))).an,(aY.at b (toNat d)))) fun v2=>(cond (!v2) (ret (d:Int)) (J (.p0 a b c (i64.wrap (d+1)))))))) (J (.p0 a b c (i64.wrap (d+1))))))) (cond (d>0) (cg ((0:Int)<=(i64.wrap (d - 1))) (cg ((i64.wrap (d - 1))<(a.length:Int)) (call (Z193.R ((aY.at a (toNat (i64.wrap (d - 1)))).an,(aY.at b (toNat d)))) fun v3=>(cond (!v3) (ret (d:Int)) (J (.p0 a b c (i64.wrap (d+1)))))))) (J (.p0 a b c (i64.wrap (d+1))))))) (ret ((-1):Int)))
def start (J:Pt->aI)(x0:aD):aI:=J (.p0 x0 x0 x0.length 0)
def live:Nat->Live:=fL [(2,gA [0,5,6,7])]
def md (a0:List aa):Int:=(dV (S:=Unit) (β:=Int) (fun i1 y1 s3=>(cond ((i1:Int)==0) (cond (!(Z183.md y1)) (.inr (i1)) (cond ((i1:Int)>0) (cond (!(Z193.md ((a0.getD (toNat (i64.wrap (i1 - 1))) aa.zero).an) y1)) (.inr (i1)) (.inl ())) (.inl ()))) (cond ((i1:Int)>0) (cond (!(Z193.md ((a0.getD (toNat (i64.wrap (i1 - 1))) aa.zero).an) y1)) (.inr (i1)) (.inl ())) (.inl ())))) (fun s3=>((-1):Int)) 0 a0 ())
def gd (a0:List aa):Prop:=(bO (2^21) (fun y:aa=>aa.Sm (2^21) y) a0)
def R:=RR gd md
def aj {a0}(h:gd a0):R (a0.map aa.row)=some (md a0):=cT h
def aU:=CN [pL 178] oI RT.dec R
def bh (a0)(H0:gd a0):∃n,start (iter step n) (a0.map aa.row)=ret (md a0):=by
 have Bh2:=bl H0
 refine ex_eq (cW (z:=aa.zero)) (dW (p:=Pt.p0 (a0.map aa.row) (a0.map aa.row) (a0.length:Int) 0) fz ?_)
 refine cq (pt:=fun (i1:Nat) (s3:Unit)=>Pt.p0 (a0.map aa.row) (a0.map aa.row) (a0.length:Int) (i1:Int)) (fun _ _=>True) (fun J i1 s3 h2 hih2=>?_) (fun s3 hih2=>?_) trivial
 ·simp only [step,SS]
  have:=(H0).1
  refine bq.yes dt (bq.yes aK ?_)
  refine bq.yes (aP h2) (bq.bif (fun c4=>?_) (fun c4=>?_))
  ·refine cr (Z183.aj (bO.getD H0 h2)) (bq.bif (fun c5=>bq.inr fz) (fun c5=>?_))
   refine bq.bif (fun c6=>?_) (fun c6=>?_)
   ·have dc6:=c6
    simp only [DC] at dc6
    refine bq.yes dt (bq.yes dt ?_)
    refine cr (Z193.aj ⟨(bO.getD H0 (by (simp (disch:=omega) only [wi];omega))).1,(bO.getD H0 h2)⟩) (bq.bif (fun c7=>bq.inr fz) (fun c7=>?_))
    refine bq.inl trivial ?_
    rw [aJ h2 Bh2]
   ·refine bq.inl trivial ?_
    rw [aJ h2 Bh2]
  ·refine bq.bif (fun c8=>?_) (fun c8=>?_)
   ·have dc8:=c8
    simp only [DC] at dc8
    refine bq.yes dt (bq.yes dt ?_)
    refine cr (Z193.aj ⟨(bO.getD H0 (by (simp (disch:=omega) only [wi];omega))).1,(bO.getD H0 h2)⟩) (bq.bif (fun c9=>bq.inr fz) (fun c9=>?_))
    refine bq.inl trivial ?_
    rw [aJ h2 Bh2]
   ·refine bq.inl trivial ?_
    rw [aJ h2 Bh2]
 ·simp only [step,SS]
  refine dH dn (⟨0,?_⟩)
  exact fz
def af:cC 250 aU:=L1 36 (fun _=>2) cG (fun _=>[]) live step start mix aB bh (eM Z183.af Z193.af) Tryz.func250
def br (a0:List aa):md a0=Z77.md a0:=by
 unfold md Z77.md
 rw [<-cW,<-cW]
 refine vw (fun _ _=>True) (fun i s hi _=>⟨?_,fun _ _=>trivial⟩) (fun _ _=>rfl) trivial
 simp only [Z183.br,Z193.br]
 by_cases h0:i=0
 ·subst h0;rfl
 ·have e:((i:Int)==0)=false:=beq_eq_false_iff_ne.2 (by omega)
  simp only [e,bg]
end Z194
namespace Z195
def F (x0:aD):aI:=(call (Z147.R (x0.length,1,12)) fun v1=>(cond v1 (call (Z194.R x0) fun v2=>ret ((decide (v2<0)))) (ret false)))
def md (a0:List aa):Bool:=(cond (Z147.md a0.length 1 12) ((decide ((Z194.md a0)<0))) false)
def gd (a0:List aa):Prop:=(bO (2^21) (fun y:aa=>aa.Sm (2^21) y) a0)
def R:=RR gd md
def aj {a0}(h:gd a0):R (a0.map aa.row)=some (md a0):=cT h
def aU:=CN [pL 178] oB RT.dec R
def bh (a0)(H0:gd a0):F (a0.map aa.row)=ret (md a0):=by
 unfold F md
 simp only [SS]
 refine ct (Z147.aj trivial) (bs (fun c1=>?_) (fun _=>rfl))
 exact ct (Z194.aj H0) fz
def af:cC 195 aU:=W1 11 F mix aB bh (eM Z147.af Z194.af) Tryz.func195
def tr {a0:List aa}(h:md a0=true):1<=a0.length/\a0.length<=12:=by simp [md,Z147.md] at h;omega
def br (a0:List aa):md a0=Z78.md a0:=by
 unfold md Z78.md
 simp only [Z147.br,Z194.br]
end Z195
namespace Z196
def F (x0:aD):aI:=(cg ((0:Int)<=(i64.wrap (x0.length - 1))) (cg ((i64.wrap (x0.length - 1))<x0.length) (ret ((aY.at x0 (toNat (i64.wrap (x0.length - 1)))).an))))
def md (a0:List aa):aE:=(a0.getD (toNat (i64.wrap (a0.length - 1))) aa.zero).an
def gd (a0:List aa):Prop:=(bO (2^21) (fun y:aa=>aa.Sm (2^21) y) a0)/\(1<=a0.length)
def R:=RR gd md
def aj {a0}(h:gd a0):R (a0.map aa.row)=some (aE.r (md a0)):=cT h
def aU:=CN [pL 178] (.agg [.rd (.int .i64),.rd (.int .i64),.rd (.int .i64),.rd (.int .i64),.rd (.int .i64),.rd (.int .i64),.rd (.int .i64),.rd (.int .i64),.rd (.sl 3),.rd (.int .i64),.rd (.sl 3),.rd (.int .i64),.rd (.int .i64),.rd (.sl 3),.rd (.int .i64),.rd (.bool)]) RT.dec R
def bh (a0)(hg:gd a0):F (a0.map aa.row)=ret (aE.r (md a0)):=by
 obtain ⟨H0,HX⟩:=hg
 refine ak (have:=(H0).1;dt) (ak (have:=(H0).1;dt) ?_)
 exact fz
def af:cC 204 aU:=W1 10 F mix aB bh .nil Tryz.func204
def iF {a0:List aa}(hg:gd a0):aE.Sm (2^21) (md a0):=by
 unfold gd at hg;unfold md
 have h1:=hg.1.1
 exact (bO.getD hg.1 (by simp (disch:=omega) only [Go.IntWalk.i64_in];omega)).1
end Z196
namespace Z197
def F (x0:bH):aI:=(call (Z148.R x0.aV) fun v1=>(cond (!v1) bT (cond (x0.bI==1) (call (Z147.R (x0.bX,0,999999)) fun v2=>(cond v2 (ret (((x0.bz.length:Int)==0):Bool)) bT)) (cond (x0.bI==2) (call (Z157.R x0.bX) fun v3=>(cond v3 (ret (((x0.bz.length:Int)==0):Bool)) bT)) (cond (x0.bI==3) (call (Z157.R x0.bX) fun v4=>(cond v4 (call (Z152.R x0.bz) fun v5=>ret (v5:Bool)) bT)) bT)))))
def md (a0:ah):Bool:=(cond (!(Z148.md a0.aV)) (false:Bool) (cond (a0.bI==1) (cond (Z147.md a0.bX 0 999999) (((a0.bz.length:Int)==0):Bool) (false:Bool)) (cond (a0.bI==2) (cond (Z157.md a0.bX) (((a0.bz.length:Int)==0):Bool) (false:Bool)) (cond (a0.bI==3) (cond (Z157.md a0.bX) ((Z152.md a0.bz):Bool) (false:Bool)) (false:Bool)))))
def gd (a0:ah):Prop:=(ah.Sm (2^21) a0)
def R:=RR gd md
def aj {a0}(h:gd a0):R (ah.r a0)=some (md a0):=cT h
def aU:=CN [.agg sX] oB RT.dec R
def bh (a0)(hg:gd a0):F (ah.r a0)=ret (md a0):=by
 unfold gd at hg
 have H0:=hg
 unfold F md
 try simp only [SS]
 refine ct (Z148.aj (le_trans H0.1 (by decide))) ?_
 refine bt ret (fun _=>rfl) (fun c1=>?_)
 refine bt ret (fun c2=>?_) (fun c2=>?_)
 ·refine ct (Z147.aj trivial) ?_
  refine bt ret (fun c3=>?_) (fun _=>rfl)
  all_goals exact fz
 ·refine bt ret (fun c4=>?_) (fun c4=>?_)
  ·refine ct (Z157.aj trivial) ?_
   refine bt ret (fun c5=>?_) (fun _=>rfl)
   all_goals exact fz
  ·refine bt ret (fun c6=>?_) (fun _=>rfl)
   refine ct (Z157.aj trivial) ?_
   refine bt ret (fun c7=>?_) (fun _=>rfl)
   refine ct (Z152.aj (H0.2.mono (by decide) (fun x hx=>(le_trans hx (by decide))))) ?_
   all_goals exact fz
def af:cC 268 aU:=W1 41 F mix aB bh (kP Z148.af Z147.af Z157.af Z152.af) Tryz.func268
def br (a0:ah):md a0=Z80.md a0:=by
 unfold md Z80.md
 simp only [Z148.br,Z147.br,Z157.md,Z152.br]
 cases Z50.md a0.aV<;>simp
end Z197
namespace Z198
set_option maxHeartbeats 1000000 in
set_option maxRecDepth 100000 in
open Go.RowKit in
def calls (a b:aC)(w:World):Calls Tryz.prog 170 #[.string a,.string b] w fun e w'=>e=.returned (.int .i64 (Lib.compareBytes a.data.toList b.data.toList))/\w'=w:=by
 go_enter Tryz.func170,Tryz.ntmps170
 go_wp2
 rw [run_callFunc_extern Tryz.func226 (by kernel_rfl) (by kernel_rfl) (by kernel_rfl) (e:=Extern.BytealgCompare.compare) (by kernel_rfl),Lib.run_compareString]
 simp only [Result.andThen]
 rw [Oper.upon_value]
 go_wp2
 go_ret
 exact ⟨rfl,rfl⟩
def md (a0 a1:aC):Int:=Lib.compareBytes a0.data.toList a1.data.toList
def R (x:aC×aC):Option Int:=some (md x.1 x.2)
def aj {a0 a1:aC}(_:True):R (a0,a1)=some (md a0 a1):=rfl
def sem:List L->Option (List L)
 | [y0,y1]=>(R (y0.toStr,y1.toStr)).map RT.enc
 | _=>none
def aU:fY:=⟨[.rd .str,.rd .str],.one (.rd (.int .i64)),sem⟩
def af:cC 170 aU:=by
 refine wM ⟨Tryz.f170,Tryz.func170,by kernel_rfl,by kernel_rfl⟩ rfl (fun _=>rfl) fun ls r w vs Z hs hf=>?_
 simp only [aU] at hs
 unfold sem at hs
 split at hs
 ·rename_i a b
  cases hf with
  | cons h1 ht=>
   cases ht with
   | cons h2 ht=>
    cases ht
    have e1:_=Value.string a.toStr:=h1
    have e2:_=Value.string b.toStr:=h2
    subst e1;subst e2
    refine (calls a.toStr b.toStr w).mono fun e w' ⟨h3,h4⟩=>⟨_,h3,h4,?_⟩
    injection hs with hs
    subst hs
    rfl
 ·cases hs
end Z198
namespace Z199
def F (x0 x1:aC):aI:=(call (Z198.R (x0,x1)) fun v1=>ret v1)
def md (a0 a1:aC):Int:=((Z198.md a0 a1))
def gd (a0 a1:aC):Prop:=True
def R:=RR (p2 gd) (u2 md)
def aj {a0 a1}(h:gd a0 a1):R (a0,a1)=some (md a0 a1):=cB h
def aU:=CN [pS,pS] oI RT.dec R
def bh (a0)(a1)(hg:gd a0 a1):F a0 a1=ret (md a0 a1):=ct (Z198.aj trivial) fz
def af:cC 128 aU:=W2 8 F mix aB bh (cJ Z198.af) Tryz.func128
end Z199
namespace Z200
def F (x0 x1:aC):aI:=(call (Z199.R (x0,x1)) fun v1=>ret v1)
def md (a0 a1:aC):Int:=((Z199.md a0 a1))
def gd (a0 a1:aC):Prop:=True
def R:=RR (p2 gd) (u2 md)
def aj {a0 a1}(h:gd a0 a1):R (a0,a1)=some (md a0 a1):=cB h
def aU:=CN [pS,pS] oI RT.dec R
def bh (a0)(a1)(hg:gd a0 a1):F a0 a1=ret (md a0 a1):=ct (Z199.aj trivial) fz
def af:cC 79 aU:=W2 8 F mix aB bh (cJ Z199.af) Tryz.func79
def cmp:∀a b:List UInt8,Lib.compareBytes a b=(cond (Op.bytesLess a b) ((-1):Int) (cond (!((Op.bytesLess a b)||(a==b))) (1:Int) (0:Int)))
 | [],[]=>by simp [Lib.compareBytes,Op.bytesLess]
 | [],_::_=>by simp [Lib.compareBytes,Op.bytesLess]
 | _::_,[]=>by simp [Lib.compareBytes,Op.bytesLess]
 | a::xs,b::ys=>by
  simp only [Lib.compareBytes,Op.bytesLess]
  rw [cmp xs ys]
  by_cases h1:a<b
  ·simp [h1]
  ·by_cases h2:b<a
   ·have hne:a≠b:=fun e=>by subst e;exact h1 h2
    have hb:(a==b)=false:=beq_eq_false_iff_ne.2 hne
    simp [h1,h2,hb,hne]
   ·have he:a=b:=by
     have:=UInt8.lt_or_eq_of_le (UInt8.not_lt.1 h1)
     rcases this with h | h
     ·exact (h2 h).elim
     ·exact h.symm
    subst he
    simp [h1]
def br (a0 a1:aC):md a0 a1=Z81.md a0 a1:=by
 unfold md Z81.md Z199.md Z198.md
 rw [cmp,ByteArray.toList_eq,ByteArray.toList_eq]
end Z200
namespace Z201
inductive Pt where
 | p0 (a b:aD) (c d:Int)
def cG:Pt->List V
 | .p0 a b c d=>[.sl none 38 a,.sl none 38 b,.int .i64 c,.int .i64 d]
def step (J:Pt->aI):Pt->aI
 | .p0 a b c d=>(cond (d<c) (m2 d (b.length:Int) (call (Z197.R (bH.at b (toNat d))) fun v1=>(cond (!v1) bT (cond (d>0) (cg ((0:Int)<=(i64.wrap (d - 1))) (cg ((i64.wrap (d - 1))<(a.length:Int)) (call (Z200.R ((bH.at b (toNat d)).aV,(bH.at a (toNat (i64.wrap (d - 1)))).aV)) fun v2=>(cond (v2<=0) bT (J (.p0 a b c (i64.wrap (d+1)))))))) (J (.p0 a b c (i64.wrap (d+1)))))))) (ret ((decide ((a.length:Int)<=12)):Bool)))
def start (J:Pt->aI)(x0:aD):aI:=J (.p0 x0 x0 (x0.length:Int) 0)
def live:Nat->Live:=fL [(2,gA [0,5,6,7])]
def md (a0:List ah):Bool:=(dV (S:=Unit) (β:=Bool) (fun (i1:Nat) (y1:ah) (s3:Unit)=>(cond (!(Z197.md y1)) (.inr (false:Bool)) (cond ((i1:Int)>0) (cond ((Z200.md (y1.aV) ((a0.getD (toNat (i64.wrap ((i1:Int) - 1))) ah.zero).aV))<=0) (.inr (false:Bool)) (.inl ())) (.inl ())))) (fun (s3:Unit)=>((decide ((a0.length:Int)<=12)):Bool)) 0 a0 ())
def gd (a0:List ah):Prop:=(bO (2^21) (fun y:ah=>ah.Sm (2^21) y) a0)
def R:=RR gd md
def aj {a0}(h:gd a0):R (a0.map ah.row)=some (md a0):=cT h
def aU:=CN [pL 38] oB RT.dec R
def bh (a0)(hg:gd a0):∃n,start (iter step n) (a0.map ah.row)=ret (md a0):=by
 unfold gd at hg
 have H0:=hg
 unfold start md
 try simp only [SS]
 have Bh2:a0.length<=maxLen:=(by
   have:=(H0).1
   try simp only [maxLen] at *
   omega)
 refine ex_eq (out:=ret) (cW (z:=ah.zero)) ?_
 refine dW (p:=Pt.p0 (a0.map ah.row) (a0.map ah.row) (a0.length:Int) 0) fz ?_
 refine cq (pt:=fun (i1:Nat) (s3:Unit)=>Pt.p0 (a0.map ah.row) (a0.map ah.row) (a0.length:Int) (i1:Int)) (s:=(():Unit)) (out:=ret) (fun _ _=>True) (fun J i1 s3 h2 hih2=>?_) (fun s3 hih2=>?_) trivial
 ·simp only [step,SS]
  have bb_:=Bh2
  simp only [maxLen] at bb_
  have:=(H0).1
  refine bq.yes (by apply decide_eq_true;omega) ?_
  refine bq.yes aK ?_
  refine bq.yes (aP h2) ?_
  refine cr (Z197.aj (bO.getD (z:=ah.zero) H0 h2)) ?_
  refine bq.bif (fun _=>bq.inr rfl) (fun c4=>?_)
  have dc4:=c4
  try simp only [DC] at dc4
  refine bq.bif (fun c5=>?_) (fun c5=>?_)
  ·have dc5:=c5
   try simp only [DC] at dc5
   refine bq.yes dt ?_
   refine bq.yes (have:=(H0).1;dt) ?_
   refine cr (Z200.aj trivial) ?_
   refine bq.bif (fun _=>bq.inr rfl) (fun c6=>?_)
   refine bq.inl trivial ?_
   rw [aJ h2 Bh2]
   all_goals exact fz
  ·refine bq.inl trivial ?_
   rw [aJ h2 Bh2]
   all_goals exact fz
 ·simp only [step,SS]
  have:=(H0).1
  refine dH (by apply decide_eq_false;omega) ?_
  refine ⟨0,?_⟩
  all_goals exact fz
def af:cC 300 aU:=L1 35 (fun _=>2) cG (fun _=>[]) live step start mix aB bh (eM Z197.af Z200.af) Tryz.func300
def br (a0:List ah):md a0=Z82.md a0:=by
 unfold md Z82.md
 refine mH (fun i x _ s=>?_) (fun s=>rfl)
 simp only [Z197.br,Z200.br,Z81.swap]
end Z201
namespace Z202
inductive Pt where
 | p0 (a:aD) (b c:Int) (d:aD)
def cG:Pt->List V
 | .p0 a b c d=>[.own 0,.sl none 5 a,.int .i64 b,.int .i64 c]
def cX:Pt->List aW
 | .p0 a b c d=>[.row 3 d]
def step (J:Pt->aI):Pt->aI
 | .p0 a b c d=>(cond (c<b) (m2 c (a.length:Int) (cg (eX (((d.length:Int)+1)*8)) (J (.p0 a b (i64.wrap (c+1)) (d++[[L.int (i64.wrap (jG a (toNat c)))]]))))) (ret (d:aD)))
def start (J:Pt->aI)(x0:aD):aI:=J (.p0 x0 (x0.length:Int) 0 [[L.int (x0.length:Int)]])
def live:Nat->Live:=fL [(3,gA [3,9,10,11])]
def md (a0:List Int):List Int:=([(a0.length:Int)]++a0.map (fun (y1:Int)=>(i64.wrap y1)))
def gd (a0:List Int):Prop:=(bO (2^38) (fun y:Int=>True) a0)
def R:=RR gd md
def aj {a0}(h:gd a0):R (a0.map bk)=some ((md a0).map bk):=cT h
def aU:=CN [pL 5] (oL 3) RT.dec R
def bh (a0)(hg:gd a0):∃n,start (iter step n) (a0.map bk)=ret ((md a0).map bk):=by
 unfold gd at hg
 have H0:=hg
 unfold start md
 try simp only [SS]
 have Bh2:a0.length<=maxLen:=(by
   have:=(H0).1
   try simp only [maxLen] at *
   omega)
 refine ex_eq (out:=(fun b:List Int=>ret ((b.map bk):aD))) (nw (g:=fun (y1:Int)=>(i64.wrap y1)) (z:=0) (t:=fun (s3:List Int)=>s3) (s:=[(a0.length:Int)])) ?_
 refine dW (p:=Pt.p0 (a0.map bk) (a0.length:Int) 0 ([(a0.length:Int)].map bk)) fz ?_
 refine cq (pt:=fun (i1:Nat) (s3:List Int)=>Pt.p0 (a0.map bk) (a0.length:Int) (i1:Int) (s3.map bk)) (s:=([(a0.length:Int)]:List Int)) (out:=(fun b:List Int=>ret ((b.map bk):aD))) (fun (i1:Nat) (s3:List Int)=>s3.length<=[(a0.length:Int)].length+1*i1) (fun J i1 s3 h2 hih2=>?_) (fun s3 hih2=>?_) (by simp)
 ·simp only [step,SS]
  have gr_:=hih2
  try simp only [LN] at gr_
  have:=(H0).1
  have bb_:=Bh2
  simp only [maxLen] at bb_
  have:=(H0).1
  refine bq.yes (by apply decide_eq_true;omega) ?_
  refine bq.yes aK ?_
  refine bq.yes (aP h2) ?_
  refine bq.yes lm ?_
  refine bq.inl (by
    have g_:=hih2
    try simp only [LN] at g_ ⊢
    first | omega | (simp;done) | (simp;omega)) ?_
  rw [aJ h2 Bh2]
  all_goals exact fz
 ·simp only [step,SS]
  have gr_:=hih2
  try simp only [LN] at gr_
  have:=(H0).1
  have:=(H0).1
  refine dH (by apply decide_eq_false;omega) ?_
  refine ⟨0,?_⟩
  all_goals exact fz
def af:cC 374 aU:=L1 22 (fun _=>3) cG cX live step start mix aB bh .nil Tryz.func374
def len (a0:List Int):(md a0).length=1+a0.length:=by simp [md];omega
def br (a0:List Int):md a0=Z83.md a0:=by
 unfold md Z83.md
 first
 | (simp only [id];done)
 | (simp only [id];rfl)
 | rfl
end Z202
namespace Z203
def F (x0:aC):aI:=(cg ((x0.size:Int)<=140737488355328) (call (Z202.R (iR x0)) fun v1=>ret (v1:aD)))
def md (a0:aC):List Int:=(Z202.md (kR a0))
def gd (a0:aC):Prop:=(a0.size<=(2^21))
def R:=RR gd md
def aj {a0}(h:gd a0):R a0=some ((md a0).map bk):=cT h
def aU:=CN [pS] (oL 3) RT.dec R
def bh (a0)(hg:gd a0):F a0=ret ((md a0).map bk):=by
 unfold gd at hg
 have H0:=hg
 refine ak (have:=H0;dt) (aX _ (rq (Z202.aj (a0:=(kR a0)) ⟨(have:=ir a0;have:=H0;om),fun _ _=>trivial⟩)) ?_)
 exact fz
def af:cC 345 aU:=W1 6 F mix aB bh (cJ Z202.af) Tryz.func345
def len (a0:aC):(md a0).length=1+a0.size:=by simp [md,Z202.len,ir]
def br (a0:aC):md a0=Z84.md a0:=by
 unfold md Z84.md
 simp only [Z202.br]
end Z203
namespace Z204
inductive Pt where
 | p0 (a:aD) (b c:Int) (d:aD)
def cG:Pt->List V
 | .p0 a b c d=>[.own 0,.sl none 9 a,.int .i64 b,.int .i64 c]
def cX:Pt->List aW
 | .p0 a b c d=>[.row 3 d]
def step (J:Pt->aI):Pt->aI
 | .p0 a b c d=>(cond (c<b) (m2 c (a.length:Int) (call (Z203.R (qA a (toNat c))) fun v1=>(cg (eX (((d.length:Int)+(v1.length:Int))*8)) (J (.p0 a b (i64.wrap (c+1)) (d++v1)))))) (ret (d:aD)))
def start (J:Pt->aI)(x0:bH):aI:=(call (Z203.R x0.aV) fun v1=>(cg (eX ((v1.length+3)*8)) (J (.p0 x0.bz x0.bz.length 0 (v1++[[L.int x0.bI],[L.int x0.bX],[L.int x0.bz.length]])))))
def live:Nat->Live:=fL [(3,gA [3,19,20,21])]
def md (a0:ah):List Int:=(((Z203.md a0.aV)++[a0.bI,a0.bX,a0.bz.length])++a0.bz.flatMap (fun y1=>(Z203.md y1)))
def gd (a0:ah):Prop:=(ah.Sm (2^21) a0)
def R:=RR gd md
def aj {a0}(h:gd a0):R (ah.r a0)=some ((md a0).map bk):=cT h
def aU:=CN [.agg sX] (oL 3) RT.dec R
def bh (a0)(H0:gd a0):∃n,start (iter step n) (ah.r a0)=ret ((md a0).map bk):=by
 refine cx (Z203.aj H0.1) ?_
 simp only [SS]
 refine dQ (have:=Z203.len a0.aV;have:=H0.1;lm) ?_
 have Bh2:=bl H0.2
 refine ex_eq (out:=(fun b:List Int=>ret ((b.map bk):aD))) (rK (g:=fun (y1:aC)=>(Z203.md y1)) (z:=⟨#[]⟩) (t:=fun (s3:List Int)=>s3)) (dW (p:=Pt.p0 (a0.bz.map cK) (a0.bz.length:Int) 0 (((Z203.md a0.aV)++[a0.bI,a0.bX,(a0.bz.length:Int)]).map bk)) fz ?_)
 refine cq (pt:=fun (i1:Nat) (s3:List Int)=>Pt.p0 (a0.bz.map cK) (a0.bz.length:Int) (i1:Int) (s3.map bk)) (out:=(fun b:List Int=>ret ((b.map bk):aD))) (fun (i1:Nat) (s3:List Int)=>s3.length<=4+a0.aV.size+i1*(2^21+1)) (fun J i1 s3 h2 hih2=>?_) (fun s3 hih2=>?_) (by
   have:=Z203.len a0.aV
   simp
   try omega)
 ·simp only [step,SS]
  have:=H0.1
  have:=(H0.2).1
  refine bq.yes dt (bq.yes aK ?_)
  refine bq.yes (aP h2) (cr (Z203.aj (bO.getD H0.2 h2)) ?_)
  refine bq.yes (have:=Z203.len (a0.bz.getD i1 ⟨#[]⟩);have:=(bO.getD (z:=⟨#[]⟩) H0.2 h2);lm) ?_
  refine bq.inl (by
    have:=Z203.len (a0.bz.getD i1 ⟨#[]⟩)
    have:=(bO.getD (z:=⟨#[]⟩) H0.2 h2)
    have g_:=hih2
    simp only [LN] at g_ ⊢
    first | omega | (simp;done) | (simp;omega)) ?_
  rw [aJ h2 Bh2]
  exact fz
 ·simp only [step,SS]
  refine dH dn (⟨0,?_⟩)
  exact fz
def af:cC 317 aU:=L1 31 (fun _=>3) cG cX live step start mix aB bh (cJ Z203.af) Tryz.func317
def iF {a0:ah}(hg:gd a0):bO (2^43 - 1) (fun y:Int=>True) (md a0):=by
 refine ⟨?_,fun _ _=>trivial⟩
 unfold md
 have h1:=mL (xs:=a0.bz) (g:=fun y=>Z203.md y) (n:=2^21+1) (fun x hx=>by rw [Z203.len];have:=hg.2.2 x hx;omega)
 have h2:=hg.1
 have h3:=hg.2.1
 have h4:=Z203.len a0.aV
 simp only [List.length_append,List.length_cons,List.length_nil]
 omega
def br (a0:ah):md a0=Z85.md a0:=by
 unfold md Z85.md
 simp only [Z203.br]
end Z204
namespace Z205
def F (x0:bH):aI:=(call (Z204.R x0) fun v1=>(cg (eX (((1:Int)+v1.length)*8)) (call (Z168.R ([[L.int 227]]++v1)) fun v2=>ret v2)))
def md (a0:ah):Int:=((Z168.md ([227]++(Z204.md a0))))
def gd (a0:ah):Prop:=(ah.Sm (2^21) a0)
def R:=RR gd md
def aj {a0}(h:gd a0):R (ah.r a0)=some (md a0):=cT h
def aU:=CN [.agg sX] oI RT.dec R
def bh (a0)(H0:gd a0):F (ah.r a0)=ret (md a0):=by
 refine ct (Z204.aj H0) (ak (have:=((Z204.iF H0)).1;lm) ?_)
 exact aX _ (rq (Z168.aj (a0:=([227]++(Z204.md a0))) ⟨(have:=((Z204.iF H0)).1;om),fun _ _=>trivial⟩)) fz
def af:cC 267 aU:=W1 8 F mix aB bh (eM Z204.af Z168.af) Tryz.func267
def br (a0:ah):md a0=Z86.md a0:=by
 unfold md Z86.md
 simp only [Z204.br,Z168.br]
end Z205
namespace Z206
inductive Pt where
 | p0 (a:aD) (b c:Int) (d:aD)
def cG:Pt->List V
 | .p0 a b c d=>[.own 0,.sl none 38 a,.int .i64 b,.int .i64 c]
def cX:Pt->List aW
 | .p0 a b c d=>[.row 3 d]
def step (J:Pt->aI):Pt->aI
 | .p0 a b c d=>(cond (c<b) (m2 c (a.length:Int) (call (Z205.R (bH.at a (toNat c))) fun v1=>(cg (eX (((d.length:Int)+1)*8)) (J (.p0 a b (i64.wrap (c+1)) (d++[[L.int v1]])))))) (ret (d:aD)))
def start (J:Pt->aI)(x0:aD):aI:=J (.p0 x0 (x0.length:Int) 0 [])
def live:Nat->Live:=fL [(3,[(3,some 3),(7,none),(8,none),(9,none)])]
def md (a0:List ah):List Int:=(a0.map (fun (y1:ah)=>(Z205.md y1)))
def gd (a0:List ah):Prop:=(bO (2^21) (fun y:ah=>ah.Sm (2^21) y) a0)
def R:=RR gd md
def aj {a0}(h:gd a0):R (a0.map ah.row)=some ((md a0).map bk):=cT h
def aU:=CN [pL 38] (oL 3) RT.dec R
def bh (a0)(hg:gd a0):∃n,start (iter step n) (a0.map ah.row)=ret ((md a0).map bk):=by
 unfold gd at hg
 have H0:=hg
 unfold start md
 try simp only [SS]
 have Bh2:a0.length<=maxLen:=(by
   have:=(H0).1
   try simp only [maxLen] at *
   omega)
 refine ex_eq (out:=(fun b:List Int=>ret ((b.map bk):aD))) (oE (g:=fun (y1:ah)=>(Z205.md y1)) (z:=ah.zero) (t:=fun (s3:List Int)=>s3)) ?_
 refine dW (p:=Pt.p0 (a0.map ah.row) (a0.length:Int) 0 ([].map bk)) fz ?_
 refine cq (pt:=fun (i1:Nat) (s3:List Int)=>Pt.p0 (a0.map ah.row) (a0.length:Int) (i1:Int) (s3.map bk)) (s:=([]:List Int)) (out:=(fun b:List Int=>ret ((b.map bk):aD))) (fun (i1:Nat) (s3:List Int)=>s3.length<=([]:List Int).length+1*i1) (fun J i1 s3 h2 hih2=>?_) (fun s3 hih2=>?_) (by simp)
 ·simp only [step,SS]
  have gr_:=hih2
  try simp only [LN] at gr_
  have bb_:=Bh2
  simp only [maxLen] at bb_
  have:=(H0).1
  refine bq.yes (by apply decide_eq_true;omega) ?_
  refine bq.yes aK ?_
  refine bq.yes (aP h2) ?_
  refine cr (Z205.aj (bO.getD (z:=ah.zero) H0 h2)) ?_
  refine bq.yes lm ?_
  refine bq.inl (by
    have g_:=hih2
    try simp only [LN] at g_ ⊢
    first | omega | (simp;done) | (simp;omega)) ?_
  rw [aJ h2 Bh2]
  all_goals exact fz
 ·simp only [step,SS]
  have gr_:=hih2
  try simp only [LN] at gr_
  have:=(H0).1
  refine dH (by apply decide_eq_false;omega) ?_
  refine ⟨0,?_⟩
  all_goals exact fz
def af:cC 299 aU:=L1 20 (fun _=>3) cG cX live step start mix aB bh (cJ Z205.af) Tryz.func299
def len (a0:List ah):(md a0).length=a0.length:=by simp [md]
def br (a0:List ah):md a0=Z87.md a0:=by
 unfold md Z87.md
 first
 | (simp only [Z205.br];done)
 | (simp only [Z205.br];rfl)
 | rfl
end Z206
namespace Z207
def F (x0:aD):aI:=(call (Z168.R x0) fun v1=>ret v1)
def md (a0:List Int):Int:=((Z168.md a0))
def gd (a0:List Int):Prop:=(bO (2^42) (fun y:Int=>True) a0)
def R:=RR gd md
def aj {a0}(h:gd a0):R (a0.map bk)=some (md a0):=cT h
def aU:=CN [pL 3] oI RT.dec R
def bh (a0)(H0:gd a0):F (a0.map bk)=ret (md a0):=ct (Z168.aj (H0.mono (by decide) (fun x hx=>trivial))) fz
def af:cC 318 aU:=W1 5 F mix aB bh (cJ Z168.af) Tryz.func318
def br (a0:List Int):md a0=Z59.md a0:=Z168.br a0
end Z207
namespace Z208
def F (x0 x1:Int):aI:=(call (Z207.R [[L.int 229],[L.int x0],[L.int x1]]) fun v1=>ret v1)
def md (a0 a1:Int):Int:=((Z207.md [229,a0,a1]))
def gd (a0 a1:Int):Prop:=True
def R:=RR (p2 gd) (u2 md)
def aj {a0 a1}(h:gd a0 a1):R (a0,a1)=some (md a0 a1):=cB h
def aU:=CN [pI,pI] oI RT.dec R
def bh (a0)(a1)(hg:gd a0 a1):F a0 a1=ret (md a0 a1):=aX _ (rq (Z207.aj (a0:=[229,a0,a1]) ⟨(om),fun _ _=>trivial⟩)) fz
def af:cC 315 aU:=W2 9 F mix aB bh (cJ Z207.af) Tryz.func315
def br (a0 a1:Int):md a0 a1=Z88.md a0 a1:=by
 unfold md Z88.md
 simp only [Z207.br]
end Z208
namespace Z209
inductive Pt where
 | p0 (a:aD) (b:Int) (c:aD)
def cG:Pt->List V
 | .p0 a b c=>[.sl none 3 a,.own 0,.int .i64 b]
def cX:Pt->List aW
 | .p0 a b c=>[.row 3 c]
def step (J:Pt->aI):Pt->aI
 | .p0 a b c=>(cond (b<(a.length:Int)) (cond ((i64.wrap (b+1))<(a.length:Int)) (m2 b (a.length:Int) (cg ((0:Int)<=(i64.wrap (b+1))) (cg ((i64.wrap (b+1))<(a.length:Int)) (call (Z208.R ((jG a (toNat b)),(jG a (toNat (i64.wrap (b+1)))))) fun v1=>(cg (eX (((c.length:Int)+1)*8)) (J (.p0 a (i64.wrap (b+2)) (c++[[L.int v1]])))))))) (m2 b (a.length:Int) (cg (eX (((c.length:Int)+1)*8)) (J (.p0 a (i64.wrap (b+2)) (c++[[L.int (jG a (toNat b))]])))))) (ret (c:aD)))
def start (J:Pt->aI)(x0:aD):aI:=J (.p0 x0 0 [])
def live:Nat->Live:=fL [(3,[(0,none),(3,some 3),(4,none)])]
def md (a0:List Int):List Int:=Z89.md a0
def gd (a0:List Int):Prop:=bO (2^38) (fun y:Int=>True) a0
def R:=RR gd md
def aj {a0}(h:gd a0):R (a0.map bk)=some ((md a0).map bk):=cT h
def aU:=CN [pL 3] (oL 3) RT.dec R
def bh (a0)(hg:gd a0):∃n,start (iter step n) (a0.map bk)=ret ((md a0).map bk):=by
 obtain ⟨H1,_⟩:=hg
 have key:∀(k i:Nat) (c:List Int),i+k=a0.length->c.length<=i->∃n,iter step n (Pt.p0 (a0.map bk) (i:Int) (c.map bk))=ret ((c++Z89.up (a0.drop i)).map bk:aD):=by
  intro k
  induction k using Nat.strongRecOn with
  | _ k ih=>
  intro i c hi hc
  match k,hi,ih with
  | 0,hi,_=>
   refine ⟨1,?_⟩
   show step (iter step 0) (Pt.p0 _ _ _)=_
   simp only [step,List.length_map]
   refine cY (decide_eq_false (by omega)) ?_
   rw [List.drop_eq_nil_of_le (by omega)]
   simp only [Z89.up,List.append_nil]
  | 1,hi,ih=>
   obtain ⟨n,hn⟩:=ih 0 (by omega) (i+1) (c++[a0.getD i 0]) (by omega) (by simp;omega)
   have h2:∃n,iter step n (Pt.p0 (a0.map bk) (i64.wrap ((i:Int)+2)) ((c++[a0.getD i 0]).map bk))=ret ((c++[a0.getD i 0]).map bk:aD):=by
    refine ⟨1,?_⟩
    show step (iter step 0) (Pt.p0 _ _ _)=_
    simp only [step,List.length_map]
    refine cY (decide_eq_false ?_) rfl
    rw [Go.IntWalk.i64_in _ (by omega)];omega
   obtain ⟨n,hn⟩:=h2
   refine ⟨n+1,?_⟩
   show step (iter step n) (Pt.p0 _ _ _)=_
   simp only [step,List.length_map,dw,iw]
   refine ak (decide_eq_true (by omega)) (cY (decide_eq_false ?_) (ak (decide_eq_true (by omega)) (ak (decide_eq_true (by omega)) (ak (iJ (by omega)) ?_))))
   ·rw [Go.IntWalk.i64_in _ (by omega)];omega
   ·rw [List.map_append] at hn
    refine Eq.trans hn ?_
    rw [List.drop_eq_getElem_cons (by omega),List.drop_eq_nil_of_le (by omega),eV (by omega:i<a0.length)]
    simp only [Z89.up,List.map_append]
  | k+2,hi,ih=>
   obtain ⟨n,hn⟩:=ih k (by omega) (i+2) (c++[Z88.md (a0.getD i 0) (a0.getD (i+1) 0)]) (by omega) (by simp;omega)
   refine ⟨n+1,?_⟩
   show step (iter step n) (Pt.p0 _ _ _)=_
   have w1:i64.wrap ((i:Int)+1)=((i+1:Nat):Int):=by rw [Go.IntWalk.i64_in _ (by omega)];omega
   have w2:i64.wrap ((i:Int)+2)=((i+2:Nat):Int):=by rw [Go.IntWalk.i64_in _ (by omega)];omega
   simp only [step,List.length_map,w1,w2,dw,iw]
   refine ak (decide_eq_true (by omega)) (ak (decide_eq_true (by omega)) (ak (decide_eq_true (by omega)) (ak (decide_eq_true (by omega)) (ak (decide_eq_true (by omega)) (ak (decide_eq_true (by omega)) ?_)))))
   refine aX _ (by have:=Z208.aj (a0:=a0.getD i 0) (a1:=a0.getD (i+1) 0) trivial;rw [Z208.br] at this;exact this) (ak (iJ (by omega)) ?_)
   rw [List.map_append] at hn
   refine Eq.trans hn ?_
   rw [List.drop_eq_getElem_cons (by omega:i<a0.length),List.drop_eq_getElem_cons (by omega:i+1<a0.length),eV (by omega:i<a0.length),eV (by omega:i+1<a0.length)]
   simp only [Z89.up,List.append_assoc,List.cons_append,List.nil_append]
 have:=key a0.length 0 [] (by omega) (by simp)
 unfold start md Z89.md
 simpa using this
def af:cC 334 aU:=L1 38 (fun _=>3) cG cX live step start mix aB bh (cJ Z208.af) Tryz.func334
def br (a0:List Int):md a0=Z89.md a0:=by
 unfold md Z89.md
 simp only [Z208.br]
end Z209
namespace Z210
inductive Pt where
 | p0 (a:aD)
 | p1 (a:aD)
def cG:Pt->List V
 | .p0 a=>[.sl none 3 a]
 | .p1 a=>[.own 0]
def cX:Pt->List aW
 | .p0 a=>[]
 | .p1 a=>[.row 3 a]
def step (J:Pt->aI):Pt->aI
 | .p0 a=>(cond ((a.length:Int)>1) (call (Z209.R a) fun v1=>J (.p1 v1)) (cg ((0:Int)<(a.length:Int)) (ret ((jG a 0):Int))))
 | .p1 a=>(cond ((a.length:Int)>1) (call (Z209.R a) fun v1=>J (.p1 v1)) (cg ((0:Int)<(a.length:Int)) (ret ((jG a 0):Int))))
def start (J:Pt->aI)(x0:aD):aI:=(cond ((x0.length:Int)==0) (call (Z207.R [[L.int 229]]) fun v1=>ret (v1:Int)) (J (.p0 x0)))
def live:Nat->Live:=fL [(3,[(0,none)])]
def md (a0:List Int):Int:=Z90.md a0
def gd (a0:List Int):Prop:=bO (2^38) (fun y:Int=>True) a0
def R:=RR gd md
def aj {a0}(h:gd a0):R (a0.map bk)=some (md a0):=cT h
def aU:=CN [pL 3] oI RT.dec R
def bh (a0)(hg:gd a0):∃n,start (iter step n) (a0.map bk)=ret (md a0):=by
 have one:∀(l:List Int) (r:Int) (n:Nat),bO (2^38) (fun y:Int=>True) l->0<l.length->(if l.length>1 then iter step n (Pt.p1 ((Z89.up l).map bk))=ret r else ret (l.getD 0 0:Int)=ret r)->step (iter step n) (Pt.p0 (l.map bk))=ret r/\step (iter step n) (Pt.p1 (l.map bk))=ret r:=by
  intro l r n hl hp h
  simp only [step,List.length_map,iw]
  by_cases h1:l.length>1
  ·rw [if_pos h1] at h
   have hx:∀y:aI,(cond ((l.length:Int)>1) (call (Z209.R (l.map bk)) (fun v1=>iter step n (Pt.p1 v1))) y)=ret r:=fun y=>
    ak (decide_eq_true (by omega)) (aX ((Z89.up l).map bk) (Z209.aj hl) h)
   exact ⟨hx _,hx _⟩
  ·rw [if_neg h1] at h
   have hx:∀y:aI,(cond ((l.length:Int)>1) y (cond ((0:Int)<(l.length:Int)) (ret (l.getD 0 0:Int)) none))=ret r:=fun y=>
    cY (decide_eq_false (by omega)) (ak (decide_eq_true (by omega)) h)
   exact ⟨hx _,hx _⟩
 have key:∀(k:Nat) (l:List Int),bO (2^38) (fun y:Int=>True) l->0<l.length->l.length<=k+1->∃n,step (iter step n) (Pt.p0 (l.map bk))=ret (Z90.top k l)/\step (iter step n) (Pt.p1 (l.map bk))=ret (Z90.top k l):=by
  intro k
  induction k with
  | zero=>
   intro l hl hp hk
   exact ⟨0,one l _ 0 hl hp (by rw [if_neg (by omega)];rfl)⟩
  | succ k ih=>
   intro l hl hp hk
   by_cases h1:l.length>1
   ·have hu:=Z89.kS l
    have hl1:=hl.1
    obtain ⟨n,_,hn⟩:=ih (Z89.up l) ⟨by omega,fun _ _=>trivial⟩ (by omega) (by omega)
    refine ⟨n+1,one l _ (n+1) hl hp ?_⟩
    rw [if_pos h1]
    refine Eq.trans hn ?_
    unfold Z90.top
    rw [if_pos h1]
    cases k<;>rfl
   ·refine ⟨0,one l _ 0 hl hp ?_⟩
    rw [if_neg h1]
    unfold Z90.top
    rw [if_neg h1]
 unfold md Z90.md
 unfold start
 simp only [List.length_map]
 by_cases h0:a0.length=0
 ·have e:((a0.length:Int)==0)=true:=by simpa using List.length_eq_zero_iff.1 h0
  refine ⟨0,?_⟩
  rw [e]
  refine aX (Z59.md [229]) (by have:=Z207.aj (a0:=[229]) ⟨by decide,fun _ _=>trivial⟩;rw [Z207.br] at this;exact this) ?_
  rw [if_pos h0]
 ·have e:((a0.length:Int)==0)=false:=beq_eq_false_iff_ne.2 (by omega)
  obtain ⟨n,hn,_⟩:=key a0.length a0 hg (by omega) (by omega)
  refine ⟨n+1,?_⟩
  rw [e,if_neg h0]
  exact hn
def af:cC 321 aU:=L1 16 (fun _=>3) cG cX live step start mix aB bh (eM Z207.af Z209.af) Tryz.func321
def br (a0:List Int):md a0=Z90.md a0:=by
 unfold md Z90.md
 first
 | (simp only [Z207.br,Z209.br];done)
 | (simp only [Z207.br,Z209.br];rfl)
 | rfl
end Z210
namespace Z211
def F (x0 x1:Int):aI:=(call (Z207.R [[L.int 231],[L.int x0],[L.int x1]]) fun v1=>ret v1)
def md (a0 a1:Int):Int:=((Z207.md [231,a0,a1]))
def gd (a0 a1:Int):Prop:=True
def R:=RR (p2 gd) (u2 md)
def aj {a0 a1}(h:gd a0 a1):R (a0,a1)=some (md a0 a1):=cB h
def aU:=CN [pI,pI] oI RT.dec R
def bh (a0)(a1)(hg:gd a0 a1):F a0 a1=ret (md a0 a1):=aX _ (rq (Z207.aj (a0:=[231,a0,a1]) ⟨(om),fun _ _=>trivial⟩)) fz
def af:cC 269 aU:=W2 9 F mix aB bh (cJ Z207.af) Tryz.func269
def br (a0 a1:Int):md a0 a1=Z91.md a0 a1:=by
 unfold md Z91.md
 simp only [Z207.br]
end Z211
namespace Z212
def F (x0:aD):aI:=(call (Z206.R x0) fun v1=>(call (Z210.R v1) fun v2=>(call (Z211.R (x0.length,v2)) fun v3=>ret v3)))
def md (a0:List ah):Int:=((Z211.md a0.length (Z210.md (Z206.md a0))))
def gd (a0:List ah):Prop:=(bO (2^21) (fun y:ah=>ah.Sm (2^21) y) a0)
def R:=RR gd md
def aj {a0}(h:gd a0):R (a0.map ah.row)=some (md a0):=cT h
def aU:=CN [pL 38] oI RT.dec R
def bh (a0)(H0:gd a0):F (a0.map ah.row)=ret (md a0):=by
 refine ct (Z206.aj H0) ?_
 simp only [SS]
 refine ct (Z210.aj ⟨(have:=Z206.len a0;have:=(H0).1;om),fun _ _=>trivial⟩) (ct (Z211.aj trivial) ?_)
 exact fz
def af:cC 272 aU:=W1 9 F mix aB bh (jS Z206.af Z210.af Z211.af) Tryz.func272
def br (a0:List ah):md a0=Z92.md a0:=by
 unfold md Z92.md
 simp only [Z206.br,Z210.br,Z211.br]
end Z212
namespace Z213
def F (x0:Int)(x1:aD):aI:=(call (Z201.R x1) fun v1=>(cond v1 (call (Z212.R x1) fun v2=>ret ((v2==x0))) (ret false)))
def md (a0:Int)(a1:List ah):Bool:=(cond (Z201.md a1) (((Z212.md a1)==a0)) false)
def gd (a0:Int)(a1:List ah):Prop:=(bO (2^21) (fun y:ah=>ah.Sm (2^21) y) a1)
def R:=RR (p2 gd) (u2 md)
def aj {a0 a1}(h:gd a0 a1):R (a0,(a1.map ah.row))=some (md a0 a1):=cB h
def aU:=CN [pI,pL 38] oB RT.dec R
def bh (a0)(a1)(H1:gd a0 a1):F a0 (a1.map ah.row)=ret (md a0 a1):=by
 refine ct (Z201.aj H1) (bs (fun c1=>?_) (fun _=>rfl))
 exact ct (Z212.aj H1) fz
def af:cC 295 aU:=W2 13 F mix aB bh (eM Z201.af Z212.af) Tryz.func295
def br (a0:Int)(a1:List ah):md a0 a1=Z93.md a0 a1:=by
 unfold md Z93.md
 simp only [Z201.br,Z212.br]
end Z213
namespace Z214
def F (x0:fq):aI:=(call (Z195.R x0.aT) fun v1=>(cond (!v1) (ret false) (call (Z196.R x0.aT) fun v2=>(cond (v2.cA==x0.ck.length) (call (Z213.R (v2.dy,x0.ck)) fun v3=>ret v3) (ret false)))))
def md (a0:bD):Bool:=(cond (!(Z195.md a0.aT)) false (cond ((Z196.md a0.aT).cA==a0.ck.length) ((Z213.md ((Z196.md a0.aT).dy) a0.ck)) false))
def gd (a0:bD):Prop:=(bD.Sm (2^21) a0)
def R:=RR gd md
def aj {a0}(h:gd a0):R (bD.r a0)=some (md a0):=cT h
def aU:=CN [.agg xq] oB RT.dec R
def bh (a0)(H0:gd a0):F (bD.r a0)=ret (md a0):=by
 refine ct (Z195.aj H0.1) (bs (fun _=>rfl) (fun c1=>?_))
 have tc1:=Z195.tr (by simpa using c1)
 refine ct (Z196.aj ⟨H0.1,om⟩) ?_
 simp only [SS]
 refine bs (fun c2=>?_) (fun _=>rfl)
 exact ct (Z213.aj H0.2) fz
def af:cC 246 aU:=W1 24 F mix aB bh (jS Z195.af Z196.af Z213.af) Tryz.func246
def tr {a0:bD}(h:md a0=true):1<=a0.aT.length:=by
 unfold md at h
 cases hc:Z195.md a0.aT
 ·rw [hc] at h;cases h
 ·exact (Z195.tr hc).1
def br (a0:bD):md a0=Z94.md a0:=by
 unfold md Z94.md
 rw [Z195.br,Z213.br]
 unfold Z196.md Z79.md
 cases h:Z78.md a0.aT
 ·rfl
 ·rfl
end Z214
namespace Z215
def F (x0:fq):aI:=(call (Z214.R x0) fun v1=>(cond (!v1) (ret ((-1):Int)) (call (Z196.R x0.aT) fun v2=>ret v2.bw)))
def md (a0:bD):Int:=(cond (!(Z214.md a0)) ((-1):Int) ((Z196.md a0.aT).bw))
def gd (a0:bD):Prop:=(bD.Sm (2^21) a0)
def R:=RR gd md
def aj {a0}(h:gd a0):R (bD.r a0)=some (md a0):=cT h
def aU:=CN [.agg xq] oI RT.dec R
def bh (a0)(H0:gd a0):F (bD.r a0)=ret (md a0):=by
 refine ct (Z214.aj H0) (bs (fun _=>rfl) (fun c1=>?_))
 have tc1:=Z214.tr (by simpa using c1)
 exact ct (Z196.aj ⟨H0.1,om⟩) fz
def af:cC 245 aU:=W1 10 F mix aB bh (eM Z214.af Z196.af) Tryz.func245
def br (a0:bD):md a0=Z95.md a0:=by
 unfold md Z95.md
 rw [Z214.br]
 cases h:Z94.md a0
 ·rfl
 ·have h2:Z78.md a0.aT=true:=by
   unfold Z94.md Z79.md at h
   cases hc:Z78.md a0.aT
   ·rw [hc] at h;cases h
   ·rfl
  unfold Z196.md Z79.md
  rw [h2]
  rfl
end Z215
namespace Z216
def F (x0:fq)(x1:List L):aI:=(call (Z215.R x0) fun v1=>ret ((v1==(fU x1))))
def pats:List gN:=[.agg [.sl 178,.sl 38],.ptr [au]]
def res:RP:=.one (.rd (.bool))
def md (a0:bD)(a1:Int):Bool:=(((Z215.md a0)==a1))
def gd (a0:bD)(a1:Int):Prop:=(bD.Sm (2^21) a0)
def acc (ls:List L):fq×Int:=((fq.dec ls),(fU (cE 1 (ay 2 ls))))
def R:(fq×Int)->Option Bool:=RR (p2 gd) (u2 md)
def aj {a0 a1}(h:gd a0 a1):R ((bD.r a0),a1)=some (md a0 a1):=cB h
def aU:fY:=CN pats res acc R
def bh (a0:bD)(a1:Int)(p1:List L)(e1:a1=(fU p1))(H0:gd a0 a1):F (bD.r a0) p1=ret ((md a0 a1):Bool):=by
 unfold F md
 simp only [SS,<-e1]
 exact ct (Z215.aj H0) fz
def oF (ls:List L)(a:bD×Int)(e:acc ls=Im.im a)(hg:(p2 gd) a):∃n:Nat,F (fq.dec ls) (cE 1 (ay 2 ls))=ret (Im.im ((u2 md) a)):=by
 have e0:(bD.r a.1)=(fq.dec ls):=(congrArg (fun x=>x.1) e.symm)
 have hn:=bh a.1 a.2 (cE 1 (ay 2 ls)) (congrArg (fun x=>x.2) e.symm) hg
 refine ⟨0,?_⟩
 rw [<-e0]
 exact hn
def af:cC 244 aU:=VP (live:=fun _=>[]) (nt:=8) (accr:=fun ls=>((fq.dec ls),(cE 1 (ay 2 ls)))) (run:=fun _ x=>F x.1 x.2) mix aB (cJ Z215.af) Tryz.func244 (by kernel_rfl) (fun _ _=>by kernel_rfl) (fun ls a _ e hg=>oF ls a e hg)
end Z216
namespace Z217
inductive Pt where
 | p0 (a:aD) (b:List L) (c d:Int)
def pid:Pt->Nat
 | .p0 ..=>2
def cG:Pt->List V
 | .p0 a b c d=>[.sl none 215 a,.fn 244 [.dL none [au] b 0],.int .i64 c,.int .i64 d]
def cX:Pt->List aW
 | .p0 a b c d=>[]
def step (J:Pt->aI):Pt->aI
 | .p0 a b c d=>(cond (d<c) (m2 d (a.length:Int) (call (Z216.R ((fq.at a (toNat d)),(fU b))) fun v1=>(cond v1 (ret (d:Int)) (J (.p0 a b c (i64.wrap (d+1))))))) (ret ((-1):Int)))
def start (J:Pt->aI)(x0:aD)(x1:List L):aI:=J (.p0 x0 x1 x0.length 0)
def live:Nat->Live:=fL [(2,gA [0,1,7,8])]
def pats:List gN:=[.rd (.sl 215),.fn 244 [[au]]]
def res:RP:=.one (.rd (.int .i64))
abbrev E:Env:={ T:=assoc mq,G:=dM [(244,Z216.aU)],nt:=19 }
def step_eq (I:cR)(p:Pt):dF E live I (pid p) (bP Tryz.f243) (gp (live (pid p)) (cG p) (cX p)) (cP E Tryz.f243 res)=step (fun q=>I (pid q) (cG q) (cX q)) p:=by
 cases p<;>kernel_rfl
def start_eq (I:cR)(ls:List L):fG E live I (bP Tryz.f243) (dJ pats ls) (cP E Tryz.f243 res)=start (fun q=>I (pid q) (cG q) (cX q)) (ls.headD .hole).aS (cE 1 (ay 1 ls)):=by kernel_rfl
def run_eq (n:Nat)(ls:List L):fc E live Tryz.f243 res n (dJ pats ls)=start (iter step n) (ls.headD .hole).aS (cE 1 (ay 1 ls)):=cO (id:=pid) (vs:=cG) (hs:=cX) (step:=step) (start:=fun J=>start J (ls.headD .hole).aS (cE 1 (ay 1 ls))) step_eq (fun I=>start_eq I ls) n
def md (a0:List bD)(a1:Int):Int:=(dV (S:=Unit) (β:=Int) (fun i1 y1 s3=>(cond (Z216.md y1 a1) (.inr (i1)) (.inl ()))) (fun s3=>((-1):Int)) 0 a0 ())
def gd (a0:List bD)(a1:Int):Prop:=(bO (2^21) (fun y:bD=>bD.Sm (2^21) y) a0)
def acc (ls:List L):aD×Int:=((ls.headD .hole).aS,(fU (cE 1 (ay 1 ls))))
def R:(aD×Int)->Option Int:=RR (p2 gd) (u2 md)
def aj {a0 a1}(h:gd a0 a1):R ((a0.map bD.row),a1)=some (md a0 a1):=cB h
def aU:fY:=CN pats res acc R
def bh (a0:List bD)(a1:Int)(p1:List L)(e1:a1=(fU p1))(H0:gd a0 a1):∃n,start (iter step n) (a0.map bD.row) p1=ret ((md a0 a1):Int):=by
 have Bh2:=bl H0
 refine ex_eq (cW (z:=bD.zero)) (dW (p:=Pt.p0 (a0.map bD.row) p1 (a0.length:Int) 0) fz ?_)
 refine cq (pt:=fun (i1:Nat) (s3:Unit)=>Pt.p0 (a0.map bD.row) p1 (a0.length:Int) (i1:Int)) (fun _ _=>True) (fun J i1 s3 h2 hih2=>?_) (fun s3 hih2=>?_) trivial
 ·simp only [step,SS,<-e1]
  refine bq.yes dt (bq.yes aK ?_)
  refine bq.yes (aP h2) (cr (Z216.aj (bO.getD H0 h2)) ?_)
  refine bq.bif (fun c4=>bq.inr fz) (fun c4=>?_)
  refine bq.inl trivial ?_
  rw [aJ h2 Bh2]
 ·simp only [step,SS,<-e1]
  refine dH dn (⟨0,?_⟩)
  exact fz
def oF (ls:List L)(a:List bD×Int)(e:acc ls=Im.im a)(hg:(p2 gd) a):∃n:Nat,start (iter step n) ((ls.headD .hole).aS) (cE 1 (ay 1 ls))=ret (Im.im ((u2 md) a)):=by
 have e0:(a.1.map bD.row)=(ls.headD .hole).aS:=(congrArg (fun x=>x.1) e.symm)
 obtain ⟨n,hn⟩:=bh a.1 a.2 (cE 1 (ay 1 ls)) (congrArg (fun x=>x.2) e.symm) hg
 refine ⟨n,?_⟩
 rw [<-e0]
 exact hn
def af:cC 243 aU:=VP (accr:=fun ls=>((ls.headD .hole).aS,(cE 1 (ay 1 ls)))) (run:=fun n x=>start (iter step n) x.1 x.2) mix aB (cJ Z216.af) Tryz.func243 (by kernel_rfl) run_eq (fun ls a _ e hg=>oF ls a e hg)
def fa (a0:List bD)(a1:Int):-1<=md a0 a1/\md a0 a1<(a0.length:Int):=by
 refine gG ?_ _ _
 all_goals
  intro i x s b h
  revert h
  simp only [Bool.cond_eq_ite]
  repeat' split
  all_goals (intro h;first | (cases h;rfl) | cases h)
def idx_eq (a0:List bD)(a1:Int):md a0 a1=jl (fun y=>Z216.md y a1) 0 a0:=iB
end Z217
namespace Z218
def F (x0:ec)(x1:Int):aI:=(cond (x1<0) (ret ((-1):Int)) (call (Z217.R (x0.bQ,x1)) fun v1=>ret (v1:Int)))
def md (a0:aR)(a1:Int):Int:=(cond (a1<0) ((-1):Int) ((Z217.md a0.bQ a1):Int))
def gd (a0:aR)(a1:Int):Prop:=(aR.Sm (2^21) a0)
def R:=RR (p2 gd) (u2 md)
def aj {a0 a1}(h:gd a0 a1):R ((aR.r a0),a1)=some (md a0 a1):=cB h
def aU:=CN [.agg BG,pI] oI RT.dec R
def bh (a0)(a1)(hg:gd a0 a1):F (aR.r a0) a1=ret (md a0 a1):=by
 unfold gd at hg
 have H0:=hg
 unfold F md
 try simp only [SS]
 refine bt ret (fun _=>rfl) (fun c1=>?_)
 refine ct (Z217.aj H0) ?_
 have fv1_:=Z217.fa a0.bQ a1
 all_goals exact fz
def af:cC 193 aU:=W2 11 F mix aB bh (cJ Z217.af) Tryz.func193
def fa (a0:aR)(a1:Int):-1<=md a0 a1/\md a0 a1<(a0.bQ.length:Int):=by
 unfold md
 have:=Z217.fa a0.bQ a1
 cases decide (a1<0)
 ·exact this
 ·simp only [aZ];omega
def br (a0:aR)(a1:Int):md a0 a1=Z96.md a0 a1:=by
 unfold md Z96.md
 rw [Z217.idx_eq]
 rw [kB (p:=fun y=>(Z95.md y==a1)&&decide (a1>=0)) (fun i x s=>by cases (Z95.md x==a1)<;>cases decide (a1>=0)<;>rfl)]
 have e:(fun y=>Z216.md y a1)=fun y=>Z95.md y==a1:=by
  funext y
  unfold Z216.md
  rw [Z215.br]
 have key:∀(xs:List bD) (i:Nat),jl (fun _=>false) i xs=-1:=by
  intro xs
  induction xs with
  | nil=>intro i;rfl
  | cons x xs ih=>intro i;unfold jl;exact ih _
 rw [e]
 by_cases h:a1<0
 ·rw [decide_eq_true h,decide_eq_false (show ¬a1>=0 by omega)]
  simp only [aZ,Bool.and_false,key]
 ·rw [decide_eq_false h,decide_eq_true (show a1>=0 by omega)]
  simp only [bg,Bool.and_true]
end Z218
namespace Z219
def F (x0:bH)(x1:List L):aI:=ret ((x0.aV==(sDec x1)))
def pats:List gN:=[.agg [.str,au,au,.sl 9],.ptr [.str]]
def res:RP:=.one (.rd (.bool))
def md (a0:ah)(a1:aC):Bool:=((a0.aV==a1))
def gd (a0:ah)(a1:aC):Prop:=True
def acc (ls:List L):bH×aC:=((bH.dec ls),(sDec (cE 1 (ay 4 ls))))
def R:(bH×aC)->Option Bool:=RR (p2 gd) (u2 md)
def aj {a0 a1}(h:gd a0 a1):R ((ah.r a0),a1)=some (md a0 a1):=cB h
def aU:fY:=CN pats res acc R
def bh (a0:ah)(a1:aC)(p1:List L)(e1:a1=(sDec p1))(hg:gd a0 a1):F (ah.r a0) p1=ret ((md a0 a1):Bool):=by
 unfold F md
 simp only [SS,<-e1]
def oF (ls:List L)(a:ah×aC)(e:acc ls=Im.im a)(hg:(p2 gd) a):∃n:Nat,F (bH.dec ls) (cE 1 (ay 4 ls))=ret (Im.im ((u2 md) a)):=by
 have e0:(ah.r a.1)=(bH.dec ls):=(congrArg (fun x=>x.1) e.symm)
 have hn:=bh a.1 a.2 (cE 1 (ay 4 ls)) (congrArg (fun x=>x.2) e.symm) hg
 refine ⟨0,?_⟩
 rw [<-e0]
 exact hn
def af:cC 297 aU:=VP (live:=fun _=>[]) (nt:=8) (accr:=fun ls=>((bH.dec ls),(cE 1 (ay 4 ls)))) (run:=fun _ x=>F x.1 x.2) mix aB .nil Tryz.func297 (by kernel_rfl) (fun _ _=>by kernel_rfl) (fun ls a _ e hg=>oF ls a e hg)
end Z219
namespace Z220
inductive Pt where
 | p0 (a:aD) (b:List L) (c d:Int)
def pid:Pt->Nat
 | .p0 ..=>2
def cG:Pt->List V
 | .p0 a b c d=>[.sl none 38 a,.fn 297 [.dL none [.str] b 0],.int .i64 c,.int .i64 d]
def cX:Pt->List aW
 | .p0 a b c d=>[]
def step (J:Pt->aI):Pt->aI
 | .p0 a b c d=>(cond (d<c) (m2 d (a.length:Int) (call (Z219.R ((bH.at a (toNat d)),(sDec b))) fun v1=>(cond v1 (ret (d:Int)) (J (.p0 a b c (i64.wrap (d+1))))))) (ret ((-1):Int)))
def start (J:Pt->aI)(x0:aD)(x1:List L):aI:=J (.p0 x0 x1 x0.length 0)
def live:Nat->Live:=fL [(2,gA [0,1,7,8])]
def pats:List gN:=[.rd (.sl 38),.fn 297 [[.str]]]
def res:RP:=.one (.rd (.int .i64))
abbrev E:Env:={ T:=assoc mq,G:=dM [(297,Z219.aU)],nt:=19 }
def step_eq (I:cR)(p:Pt):dF E live I (pid p) (bP Tryz.f296) (gp (live (pid p)) (cG p) (cX p)) (cP E Tryz.f296 res)=step (fun q=>I (pid q) (cG q) (cX q)) p:=by
 cases p<;>kernel_rfl
def start_eq (I:cR)(ls:List L):fG E live I (bP Tryz.f296) (dJ pats ls) (cP E Tryz.f296 res)=start (fun q=>I (pid q) (cG q) (cX q)) (ls.headD .hole).aS (cE 1 (ay 1 ls)):=by kernel_rfl
def run_eq (n:Nat)(ls:List L):fc E live Tryz.f296 res n (dJ pats ls)=start (iter step n) (ls.headD .hole).aS (cE 1 (ay 1 ls)):=cO (id:=pid) (vs:=cG) (hs:=cX) (step:=step) (start:=fun J=>start J (ls.headD .hole).aS (cE 1 (ay 1 ls))) step_eq (fun I=>start_eq I ls) n
def md (a0:List ah)(a1:aC):Int:=(dV (S:=Unit) (β:=Int) (fun i1 y1 s3=>(cond (Z219.md y1 a1) (.inr (i1)) (.inl ()))) (fun s3=>((-1):Int)) 0 a0 ())
def gd (a0:List ah)(a1:aC):Prop:=(bO (2^21) (fun y:ah=>ah.Sm (2^21) y) a0)
def acc (ls:List L):aD×aC:=((ls.headD .hole).aS,(sDec (cE 1 (ay 1 ls))))
def R:(aD×aC)->Option Int:=RR (p2 gd) (u2 md)
def aj {a0 a1}(h:gd a0 a1):R ((a0.map ah.row),a1)=some (md a0 a1):=cB h
def aU:fY:=CN pats res acc R
def bh (a0:List ah)(a1:aC)(p1:List L)(e1:a1=(sDec p1))(H0:gd a0 a1):∃n,start (iter step n) (a0.map ah.row) p1=ret ((md a0 a1):Int):=by
 have Bh2:=bl H0
 refine ex_eq (cW (z:=ah.zero)) (dW (p:=Pt.p0 (a0.map ah.row) p1 (a0.length:Int) 0) fz ?_)
 refine cq (pt:=fun (i1:Nat) (s3:Unit)=>Pt.p0 (a0.map ah.row) p1 (a0.length:Int) (i1:Int)) (fun _ _=>True) (fun J i1 s3 h2 hih2=>?_) (fun s3 hih2=>?_) trivial
 ·simp only [step,SS,<-e1]
  refine bq.yes dt (bq.yes aK ?_)
  refine bq.yes (aP h2) (cr (Z219.aj trivial) ?_)
  refine bq.bif (fun c4=>bq.inr fz) (fun c4=>?_)
  refine bq.inl trivial ?_
  rw [aJ h2 Bh2]
 ·simp only [step,SS,<-e1]
  refine dH dn (⟨0,?_⟩)
  exact fz
def oF (ls:List L)(a:List ah×aC)(e:acc ls=Im.im a)(hg:(p2 gd) a):∃n:Nat,start (iter step n) ((ls.headD .hole).aS) (cE 1 (ay 1 ls))=ret (Im.im ((u2 md) a)):=by
 have e0:(a.1.map ah.row)=(ls.headD .hole).aS:=(congrArg (fun x=>x.1) e.symm)
 obtain ⟨n,hn⟩:=bh a.1 a.2 (cE 1 (ay 1 ls)) (congrArg (fun x=>x.2) e.symm) hg
 refine ⟨n,?_⟩
 rw [<-e0]
 exact hn
def af:cC 296 aU:=VP (accr:=fun ls=>((ls.headD .hole).aS,(cE 1 (ay 1 ls)))) (run:=fun n x=>start (iter step n) x.1 x.2) mix aB (cJ Z219.af) Tryz.func296 (by kernel_rfl) run_eq (fun ls a _ e hg=>oF ls a e hg)
end Z220
namespace Z221
def F (x0:aD)(x1:aC):aI:=(call (Z220.R (x0,x1)) fun v1=>ret v1)
def md (a0:List ah)(a1:aC):Int:=((Z220.md a0 a1))
def gd (a0:List ah)(a1:aC):Prop:=(bO (2^21) (fun y:ah=>ah.Sm (2^21) y) a0)
def R:=RR (p2 gd) (u2 md)
def aj {a0 a1}(h:gd a0 a1):R ((a0.map ah.row),a1)=some (md a0 a1):=cB h
def aU:=CN [pL 38,pS] oI RT.dec R
def bh (a0)(a1)(H0:gd a0 a1):F (a0.map ah.row) a1=ret (md a0 a1):=ct (Z220.aj H0) fz
def af:cC 247 aU:=W2 8 F mix aB bh (cJ Z220.af) Tryz.func247
def fa (a0:List ah)(a1:aC):-1<=md a0 a1/\md a0 a1<(a0.length:Int):=by
 refine gG ?_ _ _
 all_goals
  intro i x s b h
  revert h
  simp only [Bool.cond_eq_ite]
  repeat' split
  all_goals (intro h;first | (cases h;rfl) | cases h)
def br (a0:List ah)(a1:aC):md a0 a1=Z97.md a0 a1:=by
 unfold md Z97.md
 rfl
end Z221
namespace Z222
inductive Pt where
 | p0 (a:aD) (b:Int) (c:aD)
 | p1 (a:Int) (b c:aD)
def cG:Pt->List V
 | .p0 a b c=>[.sl none 3 a,.int .i64 b,.own 0]
 | .p1 a b c=>[.own 0,.int .i64 a,.own 1]
def cX:Pt->List aW
 | .p0 a b c=>[.row 3 c]
 | .p1 a b c=>[.row 3 b,.row 3 c]
def step (J:Pt->aI):Pt->aI
 | .p0 a b c=>(cond ((a.length:Int)>1) (cond ((oo .i64 b 1)<(a.length:Int)) (cg ((0:Int)<=(oo .i64 b 1)) (cg ((oo .i64 b 1)<(a.length:Int)) (cg (eX (((c.length:Int)+1)*8)) (call (Z209.R a) fun v1=>J (.p1 (i64.wrap (Int.tdiv b 2)) v1 (c++[[L.int (jG a (toNat (oo .i64 b 1)))]])))))) (call (Z209.R a) fun v2=>J (.p1 (i64.wrap (Int.tdiv b 2)) v2 c))) (ret (c:aD)))
 | .p1 a b c=>(cond ((b.length:Int)>1) (cond ((oo .i64 a 1)<(b.length:Int)) (cg ((0:Int)<=(oo .i64 a 1)) (cg ((oo .i64 a 1)<(b.length:Int)) (cg (eX (((c.length:Int)+1)*8)) (call (Z209.R b) fun v1=>J (.p1 (i64.wrap (Int.tdiv a 2)) v1 (c++[[L.int (jG b (toNat (oo .i64 a 1)))]])))))) (call (Z209.R b) fun v2=>J (.p1 (i64.wrap (Int.tdiv a 2)) v2 c))) (ret (c:aD)))
def start (J:Pt->aI)(x0:aD)(x1:Int):aI:=(call (Z147.R (x1,0,(i64.wrap (x0.length - 1)))) fun v1=>(cond (!v1) (ret ([]:aD)) (J (.p0 x0 x1 []))))
def live:Nat->Live:=fL [(4,[(0,none),(1,none),(5,some 3)])]
def Dn (b:Nat)(h:b<2^40):oo .i64 (b:Int) 1=((Z98.wT b:Nat):Int):=by
 have e1:(BitVec.ofInt 64 (b:Int)).toNat=b:=by simp [BitVec.toNat_ofInt];omega
 have e2:(BitVec.ofInt 64 (1:Int)).toNat=1:=by decide
 have e3:(b ^^^ 1)=Z98.wT b:=by
  have a1:(b ^^^ 1) % 2=(b+1) % 2:=by
   have h:=Nat.xor_mod_two_pow (a:=b) (b:=1) (n:=1)
   rw [Nat.pow_one,show (1:Nat) % 2=1 from rfl] at h
   rcases Nat.mod_two_eq_zero_or_one b with e | e
   ·rw [e,show (0:Nat) ^^^ 1=1 from rfl] at h;omega
   ·rw [e,show (1:Nat) ^^^ 1=0 from rfl] at h;omega
  have a2:(b ^^^ 1) / 2=b / 2:=by rw [Nat.xor_div_two];simp
  unfold Z98.wT;split<;>omega
 show i64.wrap (((BitVec.ofInt 64 (b:Int) ^^^ BitVec.ofInt 64 1).toNat:Nat):Int)=_
 rw [BitVec.toNat_xor,e1,e2,e3,wi _ (by unfold Z98.wT;split<;>omega)]
def md (a0:List Int)(a1:Int):List Int:=Z98.md a0 a1
def gd (a0:List Int)(a1:Int):Prop:=bO (2^38) (fun y:Int=>True) a0
def R:=RR (p2 gd) (u2 md)
def aj {a0 a1}(h:gd a0 a1):R ((a0.map bk),a1)=some ((md a0 a1).map bk):=cB h
def aU:=CN [pL 3,pI] (oL 3) RT.dec R
def bh (a0)(a1)(hg:gd a0 a1):∃n,start (iter step n) (a0.map bk) a1=ret ((md a0 a1).map bk):=by
 have one:∀(i:Nat) (l c r:List Int) (n:Nat),bO (2^38) (fun y:Int=>True) l->i<2^40->c.length<2^40->(if l.length>1 then iter step n (Pt.p1 ((i / 2:Nat):Int) ((Z89.up l).map bk) ((Z98.wU i l c).map bk))=ret (r.map bk) else c=r)->
   step (iter step n) (Pt.p0 (l.map bk) (i:Int) (c.map bk))=ret (r.map bk)/\step (iter step n) (Pt.p1 (i:Int) (l.map bk) (c.map bk))=ret (r.map bk):=by
  intro i l c r n hl hi hc h
  have hs:=Dn i hi
  have hd:=Z98.half i hi
  refine ⟨?_,?_⟩
  all_goals
   simp only [step,MM,List.length_map,iw,hs,hd,dw]
   by_cases h1:l.length>1
   ·rw [if_pos h1] at h
    rw [decide_eq_true (show (l.length:Int)>1 by omega),aZ]
    by_cases h2:Z98.wT i<l.length
    ·rw [Z98.wU,if_pos h2,List.map_append] at h
     rw [decide_eq_true (show ((Z98.wT i:Nat):Int)<(l.length:Int) by omega),aZ,decide_eq_true (show (0:Int)<=((Z98.wT i:Nat):Int) by omega),aZ,aZ,iJ (by omega),aZ]
     exact aX _ (Z209.aj hl) h
    ·rw [Z98.wU,if_neg h2] at h
     rw [decide_eq_false (show ¬((Z98.wT i:Nat):Int)<(l.length:Int) by omega),bg]
     exact aX _ (Z209.aj hl) h
   ·rw [if_neg h1] at h
    rw [decide_eq_false (show ¬(l.length:Int)>1 by omega),bg,h]
 have key:∀(k i:Nat) (l c:List Int),bO (2^38) (fun y:Int=>True) l->l.length<=k->i<2^40->c.length+k<2^40->
   ∃n,step (iter step n) (Pt.p0 (l.map bk) (i:Int) (c.map bk))=ret ((Z98.Aw k i l c).map bk)/\step (iter step n) (Pt.p1 (i:Int) (l.map bk) (c.map bk))=ret ((Z98.Aw k i l c).map bk):=by
  intro k
  induction k with
  | zero=>intro i l c hl hk hi hc;exact ⟨0,one i l c _ 0 hl hi (by omega) (by rw [if_neg (by omega)];rfl)⟩
  | succ k ih=>
   intro i l c hl hk hi hc
   unfold Z98.Aw
   by_cases h1:l.length>1
   ·have hu:=Z89.kS l
    have hl1:=hl.1
    have h2:(Z98.wU i l c).length<=c.length+1:=by unfold Z98.wU;split<;>simp
    obtain ⟨n,_,hn⟩:=ih (i / 2) (Z89.up l) (Z98.wU i l c) ⟨by omega,fun _ _=>trivial⟩ (by omega) (by omega) (by omega)
    rw [if_pos h1]
    exact ⟨n+1,one i l c _ (n+1) hl hi (by omega) (by rw [if_pos h1];exact hn)⟩
   ·rw [if_neg h1]
    exact ⟨0,one i l c _ 0 hl hi (by omega) (by rw [if_neg h1])⟩
 unfold start md Z98.md
 simp only [List.length_map]
 have hlen:=hg.1
 cases h:Z49.md a1 0 (i64.wrap ((a0.length:Int) - 1))
 ·exact ⟨0,aX false (by rw [<-h,<-Z147.br];exact Z147.aj trivial) rfl⟩
 ·have hh:=h
  rw [wi _ (by omega)] at hh
  simp [Z49.md] at hh
  obtain ⟨i,rfl⟩:=Int.eq_ofNat_of_zero_le hh.1
  obtain ⟨n,hn,_⟩:=key a0.length i a0 [] hg (Nat.le_refl _) (by omega) (by simp only [List.length_nil];omega)
  exact ⟨n+1,aX true (by rw [<-h,<-Z147.br];exact Z147.aj trivial) hn⟩
def af:cC 298 aU:=L2 36 (fun _=>4) cG cX live step start mix aB bh (eM Z147.af Z209.af) Tryz.func298
def len (a0:List Int)(a1:Int):(md a0 a1).length<=a0.length:=by
 intros;unfold md Z98.md
 cases Z49.md _ 0 _
 ·exact zero_le _
 ·exact le_trans (Z98.uT _ _ _ _) (by simp)
def br (a0:List Int)(a1:Int):md a0 a1=Z98.md a0 a1:=by
 unfold md Z98.md
 simp only [Z147.br,Z209.br]
end Z222
end Go.DM
end
