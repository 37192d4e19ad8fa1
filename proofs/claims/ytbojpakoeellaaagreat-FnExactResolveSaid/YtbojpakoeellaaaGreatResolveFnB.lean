/- What the functions compute that the law reaches, and that the law returns true. Conditions: none. -/
import Derived.Test.YtbojpakoeellaaaGreatResolveTy
import Derived.Test.YtbojpakoeellaaaGreatResolveFnA
set_option linter.all false
set_option maxRecDepth 100000
noncomputable section
namespace Go.DM
open Go.Proofs
open Go.IntKind (i64)
open Int (toNat)
open Nat (le_trans zero_le)
namespace Z102
def F (x0:bu)(x1:aC):aH:=(call (Z40.R x0) fun v1=>(call (Z100.R (x0,x1)) fun v2=>(cond (v2==1) (cond (decide ((x0.aI.length:Int)>=8)) (ret ((v1,6):bu×Int)) (call (Z38.R x1) fun v3=>(bZ (eP (((v1.aI.length:Int)+1)*24)) (ret (((⟨(v1.aI++[[L.sl v3]]),v1.bn⟩:bu),v2):bu×Int))))) (cond (v2==3) (bZ (decide ((0:Int)<(x1.length:Int))) (call (Z97.R (x0,(aP.at x1 0).an.bD)) fun v4=>(call (Z38.R x1) fun v5=>(m2 v4 (v1.aI.length:Int) (ret (((⟨(List.set v1.aI (toNat v4) [L.sl v5]),v1.bn⟩:bu),v2):bu×Int)))))) (cond (v2==5) (bZ (decide ((0:Int)<(x1.length:Int))) (call (Z97.R (x0,(aP.at x1 0).an.bD)) fun v6=>(m2 v6 (x0.aI.length:Int) (call (Z101.R ((oy x0.aI (toNat v6)),x1)) fun v7=>(cond v7.2 (cond (decide ((x0.bn.length:Int)<8)) (bZ (eP (((v1.bn.length:Int)+1)*600)) (ret (((⟨v1.aI,(v1.bn++[(bF.enc v7.1)])⟩:bu),v2):bu×Int))) (ret ((v1,v2):bu×Int))) (ret ((v1,v2):bu×Int))))))) (ret ((v1,v2):bu×Int)))))))
def md (a0:aq)(a1:List aa):aq×Int:=(cond ((Z100.md a0 a1)==1) (cond (decide ((a0.aI.length:Int)>=8)) (a0,6) ((⟨(a0.aI++[a1]),a0.bn⟩:aq),(Z100.md a0 a1))) (cond ((Z100.md a0 a1)==3) ((⟨(List.set a0.aI (toNat (Z97.md a0 (((a1.getD 0 aa.zero).an).bD))) a1),a0.bn⟩:aq),(Z100.md a0 a1)) (cond ((Z100.md a0 a1)==5) (cond ((Z101.md (a0.aI.getD (toNat (Z97.md a0 (((a1.getD 0 aa.zero).an).bD))) []) a1).2) (cond (decide ((a0.bn.length:Int)<8)) ((⟨a0.aI,(a0.bn++[(Z101.md (a0.aI.getD (toNat (Z97.md a0 (((a1.getD 0 aa.zero).an).bD))) []) a1).1])⟩:aq),(Z100.md a0 a1)) (a0,(Z100.md a0 a1))) (a0,(Z100.md a0 a1))) (a0,(Z100.md a0 a1)))))
def gd (a0:aq)(a1:List aa):Prop:=(aq.Sm (2^21) a0)/\(bM (2^21) (fun y:aa=>aa.Sm (2^21) y) a1)
def R:=RR (p2 gd) (u2 md)
def aj {a0 a1}(h:gd a0 a1):R ((aq.r a0),(a1.map aa.row))=some ((aq.r (md a0 a1).1),(md a0 a1).2):=aO (a:=(a0,a1)) h
def aW:=CN [.agg tE,pL 141] (.iH [(true,f37),(false,[fI])]) RT.dec R
def bw (a0)(a1)(hg:gd a0 a1):F (aq.r a0) (a1.map aa.row)=ret ((aq.r (md a0 a1).1),(md a0 a1).2):=by
 obtain ⟨H0,H1⟩:=hg
 unfold F md
 try simp only [SS]
 refine ct (Z40.aj H0) ?_
 try simp only [SS]
 refine ct (Z100.aj ⟨H0,H1⟩) ?_
 have fv2_:=Z100.fa a0 a1
 refine au (fun b:aq×Int=>ret (((aq.r b.1),b.2):bu×Int)) (fun c1=>?_) (fun c1=>?_)
 ·have dc1:=c1
  try simp only [DC] at dc1
  refine au (fun b:aq×Int=>ret (((aq.r b.1),b.2):bu×Int)) (fun c2=>?_) (fun c2=>?_)
  ·all_goals exact fz
  ·have dc2:=c2
   try simp only [DC] at dc2
   refine ct (Z38.aj H1) ?_
   try simp only [SS]
   refine ak (have:=(H0.1).1;lm) ?_
   all_goals exact fz
 ·have dc1:=c1
  try simp only [DC] at dc1
  refine au (fun b:aq×Int=>ret (((aq.r b.1),b.2):bu×Int)) (fun c3=>?_) (fun c3=>?_)
  ·have dc3:=c3
   try simp only [DC] at dc3
   refine ak (have:=(H1).1;dt) ?_
   refine ct (Z97.aj H0) ?_
   have fv4_:=Z97.fa a0 (((a1.getD 0 aa.zero).an).bD)
   refine ct (Z38.aj H1) ?_
   try simp only [SS]
   refine ak dt ?_
   refine ak (have:=(H0.1).1;dt) ?_
   all_goals exact fz
  ·have dc3:=c3
   try simp only [DC] at dc3
   refine au (fun b:aq×Int=>ret (((aq.r b.1),b.2):bu×Int)) (fun c4=>?_) (fun c4=>?_)
   ·have dc4:=c4
    try simp only [DC] at dc4
    refine ak (have:=(H1).1;dt) ?_
    refine ct (Z97.aj H0) ?_
    have fv6_:=Z97.fa a0 (((a1.getD 0 aa.zero).an).bD)
    refine ak dt ?_
    refine ak (have:=(H0.1).1;dt) ?_
    refine ct (Z101.aj ⟨(bM.getD (z:=[]) H0.1 (by first | assumption | omega | (simp (disch:=omega) only [wi];omega) | (simp;omega))),H1⟩) ?_
    try simp only [SS]
    refine au (fun b:aq×Int=>ret (((aq.r b.1),b.2):bu×Int)) (fun c5=>?_) (fun c5=>?_)
    ·refine au (fun b:aq×Int=>ret (((aq.r b.1),b.2):bu×Int)) (fun c6=>?_) (fun c6=>?_)
     ·have dc6:=c6
      try simp only [DC] at dc6
      refine ak (have:=(H0.2).1;lm) ?_
      all_goals exact fz
     ·all_goals exact fz
    ·all_goals exact fz
   ·all_goals exact fz
def af:cy 102 aW:=W2 77 F mix aF bw (.cons Z40.af (.cons Z100.af (.cons Z38.af (.cons Z97.af (.cons Z101.af .nil))))) Tryz.func102
def gb {a0:aq}{a1:List aa}(hg:gd a0 a1):aq.Sm (2^21) ((md a0 a1).1):=by
 unfold gd at hg;unfold md
 obtain ⟨⟨h1,h2⟩,h3⟩:=hg
 simp only [Bool.cond_eq_ite]
 repeat' split
 all_goals (try simp only [decide_eq_true_eq,ge_iff_le] at *)
 all_goals first
  | exact ⟨h1,h2⟩
  | exact ⟨bM.app (a:=7) (b:=1) ⟨by omega,h1.2⟩ (bM.one h3) (by decide),h2⟩
  | exact ⟨bM.set h1 h3,h2⟩
  | exact ⟨h1,bM.app (a:=7) (b:=1) ⟨by omega,h2.2⟩ (bM.one (Z101.gb ⟨bM.vq h1 bM.nil,h3⟩)) (by decide)⟩
def Cz (c:List (List aa)):Nat:=dP (fun y:List aa=>dP (fun y:aa=>aa.size y) y) c
def Fz (c:List az):Nat:=dP (fun y:az=>az.size y) c
def zI (X a1:List aa):az.size (Z101.md X a1).1<=2*dP (fun y:aa=>aa.size y) X+dP (fun y:aa=>aa.size y) a1:=by
 unfold Z101.md
 have z:az.size az.zero=0:=rfl
 cases Z69.md X
 ·exact zero_le _
 cases Z69.md a1
 ·exact zero_le _
 cases ((X.getD 0 aa.zero).an.bD != (a1.getD 0 aa.zero).an.bD)
 case true=>exact zero_le _
 cases h1:Z99.md X a1
 case true=>exact zero_le _
 cases h2:Z99.md a1 X
 case true=>exact zero_le _
 obtain ⟨h3,h4,_⟩:=Z101.lB h1 h2
 exact Z101.zg h3 h4
def grow (a0:aq)(a1:List aa):Cz (md a0 a1).1.aI<=Cz a0.aI+(dP (fun y:aa=>aa.size y) a1+1)/\
  Fz (md a0 a1).1.bn<=Fz a0.bn+(2*Cz a0.aI+dP (fun y:aa=>aa.size y) a1+1):=by
 unfold md Cz Fz
 have hs:=vW (f:=fun y:List aa=>dP (fun y:aa=>aa.size y) y) a0.aI (toNat (Z97.md a0 ((a1.getD 0 aa.zero).an.bD))) a1
 have ha:=uu (f:=fun y:List aa=>dP (fun y:aa=>aa.size y) y) a0.aI a1
 have hk:=uu (f:=fun y:az=>az.size y) a0.bn (Z101.md (a0.aI.getD (toNat (Z97.md a0 ((a1.getD 0 aa.zero).an.bD))) []) a1).1
 have hf1:=zI (a0.aI.getD (toNat (Z97.md a0 ((a1.getD 0 aa.zero).an.bD))) []) a1
 have hg1:=mW (f:=fun y:List aa=>dP (fun y:aa=>aa.size y) y) (xs:=a0.aI) (i:=toNat (Z97.md a0 ((a1.getD 0 aa.zero).an.bD))) (z:=[]) rfl
 (try simp only at hs);(try simp only at ha);(try simp only at hk);(try simp only at hg1)
 simp only [Bool.cond_eq_ite]
 repeat' split
 all_goals constructor<;>(try simp only)<;>omega
end Z102
namespace Z103
def F (x0:bX)(x1:Int):aH:=(call (Z41.R (x1,x0.cA,x0.cu)) fun v1=>ret (v1:Bool))
def md (a0:aE)(a1:Int):Bool:=((Z41.md a1 a0.cA a0.cu):Bool)
def gd (a0:aE)(a1:Int):Prop:=True
def R:=RR (p2 gd) (u2 md)
def aj {a0 a1}(h:gd a0 a1):R ((aE.r a0),a1)=some (md a0 a1):=aO (a:=(a0,a1)) h
def aW:=CN [.agg fU,pI] oB RT.dec R
def bw (a0)(a1)(hg:gd a0 a1):F (aE.r a0) a1=ret (md a0 a1):=by
 unfold F md
 try simp only [SS]
 refine ct (Z41.aj trivial) ?_
 all_goals exact fz
def af:cy 126 aW:=W2 11 F mix aF bw (.cons Z41.af .nil) Tryz.func126
end Z103
namespace Z104
inductive Pt where
 | p0 (a b c:Int) (d:aC) (e:Int)
def pid:Pt->Nat
 | .p0 ..=>4
def cj:Pt->List V
 | .p0 a b c d e=>[.int .i64 a,.int .i64 b,.int .i64 c,.sl none 3 d,.int .i64 e]
def cg:Pt->List aV
 | .p0 a b c d e=>[]
def step (J:Pt->aH):Pt->aH
 | .p0 a b c d e=>(cond (decide (c>1)) (cond ((Int.tmod b 2)==1) (cond (decide (e>=(d.length:Int))) (ret ((0,false):Int×Bool)) (cond ((Int.tmod b 2)==1) (m2 e (d.length:Int) (call (Z79.R ((jh d (toNat e)),a)) fun v1=>J (.p0 v1 (i64.wrap (Int.tdiv b 2)) (i64.wrap (Int.tdiv (i64.wrap (c+1)) 2)) d (i64.wrap (e+1))))) (m2 e (d.length:Int) (call (Z79.R (a,(jh d (toNat e)))) fun v2=>J (.p0 v2 (i64.wrap (Int.tdiv b 2)) (i64.wrap (Int.tdiv (i64.wrap (c+1)) 2)) d (i64.wrap (e+1))))))) (cond (decide ((i64.wrap (b+1))<c)) (cond (decide (e>=(d.length:Int))) (ret ((0,false):Int×Bool)) (cond ((Int.tmod b 2)==1) (m2 e (d.length:Int) (call (Z79.R ((jh d (toNat e)),a)) fun v3=>J (.p0 v3 (i64.wrap (Int.tdiv b 2)) (i64.wrap (Int.tdiv (i64.wrap (c+1)) 2)) d (i64.wrap (e+1))))) (m2 e (d.length:Int) (call (Z79.R (a,(jh d (toNat e)))) fun v4=>J (.p0 v4 (i64.wrap (Int.tdiv b 2)) (i64.wrap (Int.tdiv (i64.wrap (c+1)) 2)) d (i64.wrap (e+1))))))) (J (.p0 a (i64.wrap (Int.tdiv b 2)) (i64.wrap (Int.tdiv (i64.wrap (c+1)) 2)) d e)))) (cond (e != (d.length:Int)) (ret ((0,false):Int×Bool)) (ret ((a,true):Int×Bool))))
def start (J:Pt->aH)(x0 x1 x2:Int)(x3:aC):aH:=(call (Z41.R (x2,1,12)) fun v1=>(cond (!v1) (ret ((0,false):Int×Bool)) (call (Z41.R (x1,0,(i64.wrap (x2 - 1)))) fun v2=>(cond (!v2) (ret ((0,false):Int×Bool)) (J (.p0 x0 x1 x2 x3 0))))))
def live:Nat->Live:=fun i=>match i with | 4=>[(0,none),(1,none),(2,none),(3,none),(10,none)] | _=>[]
def tf:Nat->Int->Int->Int->List Int->Int×Bool
 | 0,_,_,_,_=>(0,false)
 | k+1,leaf,i,n,path=>
  if n>1 then
   if i % 2=1∨i+1<n then
    match path with
    | []=>(0,false)
    | p::ps=>tf k (if i % 2=1 then Z79.md p leaf else Z79.md leaf p) (i / 2) ((n+1) / 2) ps
   else tf k leaf (i / 2) ((n+1) / 2) path
  else if path.isEmpty then (leaf,true) else (0,false)
def md (a0 a1 a2:Int)(a3:List Int):Int×Bool:=(cond (!(Z41.md a2 1 12)) (0,false) (bif !(Z41.md a1 0 (i64.wrap (a2 - 1))) then (0,false) else tf 5 a0 a1 a2 a3))
def gd (a0 a1 a2:Int)(a3:List Int):Prop:=bM (2^38) (fun y:Int=>True) a3
def R:=RR (p4 gd) (u4 md)
def aj {a0 a1 a2 a3}(h:gd a0 a1 a2 a3):R (a0,a1,a2,(a3.map aZ))=some ((md a0 a1 a2 a3).1,(md a0 a1 a2 a3).2):=aO (a:=(a0,a1,a2,a3)) h
def aW:=CN [pI,pI,pI,pL 3] (.iH [(false,[fI]),(false,[fB])]) RT.dec R
def bw (a0)(a1)(a2)(a3)(hg:gd a0 a1 a2 a3):∃n,start (iter step n) a0 a1 a2 (a3.map aZ)=ret ((md a0 a1 a2 a3).1,(md a0 a1 a2 a3).2):=by
 have tm:∀b:Int,0<=b->b<=11->Int.tmod b 2=b % 2:=fun b h1 h2=>Int.tmod_eq_emod_of_nonneg h1
 have td:∀b:Int,0<=b->b<=13->i64.wrap (Int.tdiv b 2)=b / 2:=fun b h1 h2=>by
  rw [Int.tdiv_eq_ediv_of_nonneg h1,Go.IntWalk.i64_in _ (by omega)]
 have t1:∀b:Int,0<=b->b<=13->i64.wrap (b+1)=b+1:=fun b h1 h2=>Go.IntWalk.i64_in _ (by omega)
 obtain ⟨H3,_⟩:=hg
 have key:∀(k:Nat) (leaf i n:Int) (u:Nat),0<=i->i<n->n<=12->n<=2^k->u<=a3.length->∃m,iter step m (Pt.p0 leaf i n (a3.map aZ) (u:Int))=ret ((tf (k+1) leaf i n (a3.drop u)).1,(tf (k+1) leaf i n (a3.drop u)).2):=by
  intro k
  induction k with
  | zero=>
   intro leaf i n u h1 h2 h3 h4 h5
   refine ⟨1,?_⟩
   show step (iter step 0) (Pt.p0 _ _ _ _ _)=_
   have hn:n=1:=by omega
   subst hn
   simp only [step,List.length_map]
   refine cL (by decide) ?_
   unfold tf
   rw [if_neg (by omega)]
   by_cases hu:u=a3.length
   ·rw [List.drop_eq_nil_of_le (by omega),show ((u:Int) != (a3.length:Int))=false from bne_eq_false_iff_eq.2 (by omega)];rfl
   ·have hne:(a3.drop u).isEmpty=false:=by
     rw [List.drop_eq_getElem_cons (by omega)];rfl
    rw [hne,show ((u:Int) != (a3.length:Int))=true from bne_iff_ne.2 (by omega)];rfl
  | succ k ih=>
   intro leaf i n u h1 h2 h3 h4 h5
   have hk:n<=2*2^k:=by rw [Int.pow_succ] at h4;omega
   unfold tf
   by_cases hn:n>1
   ·have e1:=tm i h1 (by omega)
    have e2:=td i h1 (by omega)
    have e3:=t1 n (by omega) (by omega)
    have e4:=td (n+1) (by omega) (by omega)
    have e5:=t1 i h1 (by omega)
    rw [if_pos hn]
    by_cases hc:i % 2=1∨i+1<n
    ·rw [if_pos hc]
     by_cases hu:u=a3.length
     ·refine ⟨1,?_⟩
      show step (iter step 0) (Pt.p0 _ _ _ _ _)=_
      rw [List.drop_eq_nil_of_le (by omega)]
      simp only [step,List.length_map,e1,e5]
      refine ak (decide_eq_true (by omega)) ?_
      by_cases hm:i % 2=1
      ·rw [hm]
       exact ak rfl (ak (decide_eq_true (by omega)) rfl)
      ·refine cL (beq_eq_false_iff_ne.2 hm) (ak (decide_eq_true (by omega)) (ak (decide_eq_true (by omega)) rfl))
     ·have hlt:u<a3.length:=by omega
      rw [List.drop_eq_getElem_cons hlt]
      obtain ⟨m,hm⟩:=ih (if i % 2=1 then Z79.md a3[u] leaf else Z79.md leaf a3[u]) (i / 2) ((n+1) / 2) (u+1) (by omega) (by omega) (by omega) (by omega) (by omega)
      refine ⟨m+1,?_⟩
      show step (iter step m) (Pt.p0 _ _ _ _ _)=_
      have w:i64.wrap ((u:Int)+1)=((u+1:Nat):Int):=by rw [Go.IntWalk.i64_in _ (by omega)];omega
      simp only [step,List.length_map,e1,e2,e3,e4,e5,w,cE,gM,eF hlt]
      refine ak (decide_eq_true (by omega)) ?_
      by_cases hp:i % 2=1
      ·rw [if_pos hp] at hm
       rw [hp]
       refine ak rfl (cL (decide_eq_false (by omega)) (ak rfl (ak (decide_eq_true (by omega)) (ak (decide_eq_true (by omega)) (bp _ (Z79.aj trivial) ?_)))))
       rw [if_pos rfl]
       exact hm
      ·rw [if_neg hp] at hm
       have hb:(i % 2==1)=false:=beq_eq_false_iff_ne.2 hp
       rw [hb]
       refine cL rfl (ak (decide_eq_true (by omega)) (cL (decide_eq_false (by omega)) (cL rfl (ak (decide_eq_true (by omega)) (ak (decide_eq_true (by omega)) (bp _ (Z79.aj trivial) ?_))))))
       rw [if_neg hp]
       exact hm
    ·rw [if_neg hc]
     obtain ⟨m,hm⟩:=ih leaf (i / 2) ((n+1) / 2) u (by omega) (by omega) (by omega) (by omega) h5
     refine ⟨m+1,?_⟩
     show step (iter step m) (Pt.p0 _ _ _ _ _)=_
     simp only [step,List.length_map,e1,e2,e3,e4,e5]
     have hb:(i % 2==1)=false:=beq_eq_false_iff_ne.2 (by omega)
     rw [hb]
     exact ak (decide_eq_true (by omega)) (cL rfl (cL (decide_eq_false (by omega)) hm))
   ·refine ⟨1,?_⟩
    show step (iter step 0) (Pt.p0 _ _ _ _ _)=_
    have hn1:n=1:=by omega
    subst hn1
    simp only [step,List.length_map]
    refine cL (by decide) ?_
    rw [if_neg (by omega)]
    by_cases hu:u=a3.length
    ·rw [List.drop_eq_nil_of_le (by omega),show ((u:Int) != (a3.length:Int))=false from bne_eq_false_iff_eq.2 (by omega)];rfl
    ·have hne:(a3.drop u).isEmpty=false:=by
      rw [List.drop_eq_getElem_cons (by omega)];rfl
     rw [hne,show ((u:Int) != (a3.length:Int))=true from bne_iff_ne.2 (by omega)];rfl
 unfold start md
 refine eU (Z41.md a2 1 12) (Z41.aj trivial) ?_
 cases hc:Z41.md a2 1 12
 ·exact ⟨0,rfl⟩
 simp only [Bool.not_true,bq]
 refine eU (Z41.md a1 0 (i64.wrap (a2 - 1))) (Z41.aj trivial) ?_
 cases hd:Z41.md a1 0 (i64.wrap (a2 - 1))
 ·exact ⟨0,rfl⟩
 have i1:1<=a2/\a2<=12:=by simpa [Z41.md] using hc
 rw [Go.IntWalk.i64_in _ (by omega)] at hd
 have i2:0<=a1/\a1<=a2 - 1:=by simpa [Z41.md] using hd
 exact key 4 a0 a1 a2 0 (by omega) (by omega) (by omega) (by omega) (by omega)
def af:cy 191 aW:=L4 63 pid cj cg live step start mix aF bw (.cons Z41.af (.cons Z79.af .nil)) Tryz.func191
end Z104
namespace Z105
def F (x0 x1:Int)(x2:aU)(x3:bR):aH:=(call (Z77.R x2) fun v1=>(call (Z104.R (v1,x3.eo,x1,x3.bH)) fun v2=>(call (Z71.R x2) fun v3=>(cond v3 (cond v2.2 (call (Z82.R (x1,v2.1)) fun v4=>ret ((v4==x0):Bool)) bh) bh))))
def md (a0 a1:Int)(a2:ah)(a3:aL):Bool:=(cond (Z71.md a2) (cond ((Z104.md (Z77.md a2) a3.eo a1 a3.bH).2) (((Z82.md a1 ((Z104.md (Z77.md a2) a3.eo a1 a3.bH).1))==a0):Bool) (false:Bool)) (false:Bool))
def gd (a0 a1:Int)(a2:ah)(a3:aL):Prop:=(ah.Sm (2^21) a2)/\(aL.Sm (2^21) a3)
def R:=RR (p4 gd) (u4 md)
def aj {a0 a1 a2 a3}(h:gd a0 a1 a2 a3):R (a0,a1,(ah.r a2),(aL.r a3))=some (md a0 a1 a2 a3):=aO (a:=(a0,a1,a2,a3)) h
def aW:=CN [pI,pI,.agg qV,.agg rm] oB RT.dec R
def bw (a0)(a1)(a2)(a3)(hg:gd a0 a1 a2 a3):F a0 a1 (ah.r a2) (aL.r a3)=ret (md a0 a1 a2 a3):=by
 obtain ⟨H2,H3⟩:=hg
 unfold F md
 try simp only [SS]
 refine ct (Z77.aj H2) ?_
 refine ct (Z104.aj (H3.mono (by decide) (fun x hx=>trivial))) ?_
 refine ct (Z71.aj H2) ?_
 refine au ret (fun c1=>?_) (fun _=>rfl)
 refine au ret (fun c2=>?_) (fun _=>rfl)
 refine ct (Z82.aj trivial) ?_
 all_goals exact fz
def af:cy 157 aW:=W4 34 F mix aF bw (.cons Z77.af (.cons Z104.af (.cons Z71.af (.cons Z82.af .nil)))) Tryz.func157
end Z105
namespace Z106
inductive Pt where
 | p0 (a b:aC) (c:Int)
def pid:Pt->Nat
 | .p0 ..=>4
def cj:Pt->List V
 | .p0 a b c=>[.sl none 9 a,.sl none 9 b,.int .i64 c]
def cg:Pt->List aV
 | .p0 a b c=>[]
def step (J:Pt->aH):Pt->aH
 | .p0 a b c=>(cond (decide (c<(a.length:Int))) (m2 c (a.length:Int) (m2 c (b.length:Int) (cond (!((pR a (toNat c))==(pR b (toNat c)))) bh (J (.p0 a b (i64.wrap (c+1))))))) eI)
def start (J:Pt->aH)(x0 x1:aC):aH:=(cond ((x0.length:Int) != (x1.length:Int)) bh (J (.p0 x0 x1 0)))
def live:Nat->Live:=fun i=>match i with | 4=>[(0,none),(1,none),(5,none)] | _=>[]
def md (a0 a1:List aD):Bool:=(bif ((a0.length:Int) != (a1.length:Int)) then (false:Bool) else (ec (S:=Unit) (β:=Bool) (fun (i2:Nat) (s4:Unit)=>(cond (!((a0.getD i2 ⟨#[]⟩)==(a1.getD i2 ⟨#[]⟩))) (.inr (false:Bool)) (.inl ()))) (fun (s4:Unit)=>(true:Bool)) a0.length 0 ()))
def gd (a0 a1:List aD):Prop:=(bM (2^21) (fun y:aD=>y.size<=(2^21)) a0)/\(bM (2^21) (fun y:aD=>y.size<=(2^21)) a1)
def R:=RR (p2 gd) (u2 md)
def aj {a0 a1}(h:gd a0 a1):R ((a0.map cC),(a1.map cC))=some (md a0 a1):=aO (a:=(a0,a1)) h
def aW:=CN [pL 9,pL 9] oB RT.dec R
def bw (a0)(a1)(hg:gd a0 a1):∃n,start (iter step n) (a0.map cC) (a1.map cC)=ret (md a0 a1):=by
 obtain ⟨H0,H1⟩:=hg
 unfold start md
 try simp only [SS]
 refine gP ret (fun _=>⟨0,rfl⟩) (fun c1=>?_)
 have dc1:=c1
 try simp only [DC] at dc1
 have Bh3:a0.length<=maxLen:=(by
   have:=(H0).1
   try simp only [maxLen] at *
   omega)
 refine dM (p:=Pt.p0 (a0.map cC) (a1.map cC) 0) fz ?_
 refine cm (pt:=fun (i2:Nat) (s4:Unit)=>Pt.p0 (a0.map cC) (a1.map cC) (i2:Int)) (s:=(():Unit)) (out:=ret) (fun _ _=>True) (fun J i2 s4 h3 hih3=>?_) (fun s4 hih3=>?_) trivial
 ·simp only [step,SS]
  have bb_:=Bh3
  simp only [maxLen] at bb_
  have:=(H0).1
  refine bz.yes (by apply decide_eq_true;omega) ?_
  refine bz.yes aJ ?_
  refine bz.yes (aN h3) ?_
  refine bz.yes aJ ?_
  refine bz.yes (have:=(H1).1;dt) ?_
  refine bz.bif (fun _=>bz.inr rfl) (fun c5=>?_)
  refine bz.inl trivial ?_
  rw [aG h3 Bh3]
  all_goals exact fz
 ·simp only [step,SS]
  have:=(H0).1
  refine dx (by apply decide_eq_false;omega) ?_
  refine ⟨0,?_⟩
  all_goals exact fz
def af:cy 234 aW:=L2 26 pid cj cg live step start mix aF bw .nil Tryz.func234
def md_eq (a0 a1:List aD):md a0 a1=dV a0 a1:=by
 unfold md
 refine jZ (⟨#[]⟩) (fun i s h h2=>?_) (fun s=>rfl)
 simp only [bne,ff,bool_beq,eM]
 cases dV _ _<;>rfl
end Z106
namespace Z107
def F (x0 x1:aU):aH:=(cond (x0.bf==x1.bf) (cond (x0.bJ==x1.bJ) (cond (x0.bV==x1.bV) (call (Z106.R (x0.bH,x1.bH)) fun v1=>ret (v1:Bool)) bh) bh) bh)
def md (a0 a1:ah):Bool:=(cond (a0.bf==a1.bf) (cond (a0.bJ==a1.bJ) (cond (a0.bV==a1.bV) ((Z106.md a0.bH a1.bH):Bool) (false:Bool)) (false:Bool)) (false:Bool))
def gd (a0 a1:ah):Prop:=(ah.Sm (2^21) a0)/\(ah.Sm (2^21) a1)
def R:=RR (p2 gd) (u2 md)
def aj {a0 a1}(h:gd a0 a1):R ((ah.r a0),(ah.r a1))=some (md a0 a1):=aO (a:=(a0,a1)) h
def aW:=CN [.agg qV,.agg qV] oB RT.dec R
def bw (a0)(a1)(hg:gd a0 a1):F (ah.r a0) (ah.r a1)=ret (md a0 a1):=by
 obtain ⟨H0,H1⟩:=hg
 unfold F md
 try simp only [SS]
 refine au ret (fun c1=>?_) (fun _=>rfl)
 refine au ret (fun c2=>?_) (fun _=>rfl)
 refine au ret (fun c3=>?_) (fun _=>rfl)
 refine ct (Z106.aj ⟨H0.2,H1.2⟩) ?_
 all_goals exact fz
def af:cy 195 aW:=W2 31 F mix aF bw (.cons Z106.af .nil) Tryz.func195
def md_eq (a0 a1:ah):md a0 a1=dV a0 a1:=by
 unfold md
 cases a0;cases a1
 rw [Bool.eq_iff_iff]
 simp [cZ,eM,ah.mk.injEq,Z106.md_eq]
 try (constructor<;>(intro h;simp_all))
end Z107
namespace Z108
def F (x0 x1:bR):aH:=(cond (x0.eo==x1.eo) (call (Z61.R (x0.bH,x1.bH)) fun v1=>ret (v1:Bool)) bh)
def md (a0 a1:aL):Bool:=(cond (a0.eo==a1.eo) ((Z61.md a0.bH a1.bH):Bool) (false:Bool))
def gd (a0 a1:aL):Prop:=(aL.Sm (2^21) a0)/\(aL.Sm (2^21) a1)
def R:=RR (p2 gd) (u2 md)
def aj {a0 a1}(h:gd a0 a1):R ((aL.r a0),(aL.r a1))=some (md a0 a1):=aO (a:=(a0,a1)) h
def aW:=CN [.agg rm,.agg rm] oB RT.dec R
def bw (a0)(a1)(hg:gd a0 a1):F (aL.r a0) (aL.r a1)=ret (md a0 a1):=by
 obtain ⟨H0,H1⟩:=hg
 unfold F md
 try simp only [SS]
 refine au ret (fun c1=>?_) (fun _=>rfl)
 refine ct (Z61.aj ⟨(H0.mono (by decide) (fun x hx=>trivial)),(H1.mono (by decide) (fun x hx=>trivial))⟩) ?_
 all_goals exact fz
def af:cy 196 aW:=W2 17 F mix aF bw (.cons Z61.af .nil) Tryz.func196
def md_eq (a0 a1:aL):md a0 a1=dV a0 a1:=by
 unfold md
 cases a0;cases a1
 rw [Bool.eq_iff_iff]
 simp [cZ,eM,aL.mk.injEq,Z61.md_eq]
 try (constructor<;>(intro h;simp_all))
end Z108
namespace Z109
def F (x0 x1:dK):aH:=(cond (x0.eo==x1.eo) (call (Z107.R (x0.aQ,x1.aQ)) fun v1=>(cond v1 (call (Z107.R (x0.cF,x1.cF)) fun v2=>(cond v2 (call (Z108.R (x0.eu,x1.eu)) fun v3=>(cond v3 (call (Z108.R (x0.cS,x1.cS)) fun v4=>ret (v4:Bool)) bh)) bh)) bh)) bh)
def md (a0 a1:bT):Bool:=(cond (a0.eo==a1.eo) (cond (Z107.md a0.aQ a1.aQ) (cond (Z107.md a0.cF a1.cF) (cond (Z108.md a0.eu a1.eu) ((Z108.md a0.cS a1.cS):Bool) (false:Bool)) (false:Bool)) (false:Bool)) (false:Bool))
def gd (a0 a1:bT):Prop:=(bT.Sm (2^21) a0)/\(bT.Sm (2^21) a1)
def R:=RR (p2 gd) (u2 md)
def aj {a0 a1}(h:gd a0 a1):R ((bT.r a0),(bT.r a1))=some (md a0 a1):=aO (a:=(a0,a1)) h
def aW:=CN [.agg vK,.agg vK] oB RT.dec R
def bw (a0)(a1)(hg:gd a0 a1):F (bT.r a0) (bT.r a1)=ret (md a0 a1):=by
 obtain ⟨H0,H1⟩:=hg
 unfold F md
 try simp only [SS]
 refine au ret (fun c1=>?_) (fun _=>rfl)
 refine ct (Z107.aj ⟨H0.1,H1.1⟩) ?_
 refine au ret (fun c2=>?_) (fun _=>rfl)
 refine ct (Z107.aj ⟨H0.2.1,H1.2.1⟩) ?_
 refine au ret (fun c3=>?_) (fun _=>rfl)
 refine ct (Z108.aj ⟨H0.2.2.1,H1.2.2.1⟩) ?_
 refine au ret (fun c4=>?_) (fun _=>rfl)
 refine ct (Z108.aj ⟨H0.2.2.2,H1.2.2.2⟩) ?_
 all_goals exact fz
def af:cy 158 aW:=W2 38 F mix aF bw (.cons Z107.af (.cons Z108.af .nil)) Tryz.func158
def md_eq (a0 a1:bT):md a0 a1=dV a0 a1:=by
 unfold md
 cases a0;cases a1
 rw [Bool.eq_iff_iff]
 simp [cZ,eM,bT.mk.injEq,Z107.md_eq,Z108.md_eq]
 try (constructor<;>(intro h;simp_all))
end Z109
namespace Z110
def F (x0:aU)(x1:bR):aH:=(call (Z107.R (x0,(⟨(⟨#[]⟩:aD),0,0,[]⟩:aU))) fun v1=>(cond v1 (call (Z108.R (x1,(⟨0,[]⟩:bR))) fun v2=>ret (v2:Bool)) bh))
def md (a0:ah)(a1:aL):Bool:=(cond (Z107.md a0 (⟨((⟨#[]⟩:aD):aD),0,0,[]⟩:ah)) ((Z108.md a1 (⟨0,[]⟩:aL)):Bool) (false:Bool))
def gd (a0:ah)(a1:aL):Prop:=(ah.Sm (2^21) a0)/\(aL.Sm (2^21) a1)
def R:=RR (p2 gd) (u2 md)
def aj {a0 a1}(h:gd a0 a1):R ((ah.r a0),(aL.r a1))=some (md a0 a1):=aO (a:=(a0,a1)) h
def aW:=CN [.agg qV,.agg rm] oB RT.dec R
def bw (a0)(a1)(hg:gd a0 a1):F (ah.r a0) (aL.r a1)=ret (md a0 a1):=by
 obtain ⟨H0,H1⟩:=hg
 unfold F md
 try simp only [SS]
 refine ct (Z107.aj (a1:=(⟨((⟨#[]⟩:aD):aD),0,0,[]⟩:ah)) ⟨H0,⟨(by decide),bM.nil⟩⟩) ?_
 refine au ret (fun c1=>?_) (fun _=>rfl)
 refine ct (Z108.aj (a1:=(⟨0,[]⟩:aL)) ⟨H1,bM.nil⟩) ?_
 all_goals exact fz
def af:cy 160 aW:=W2 13 F mix aF bw (.cons Z107.af (.cons Z108.af .nil)) Tryz.func160
end Z110
namespace Z111
def F (x0 x1:Int)(x2:aD)(x3:dK):aH:=(call (Z42.R x2) fun v1=>(cond (!v1) bh (call (Z41.R (x3.eo,0,x1)) fun v2=>(cond (!v2) bh (cond (x1==0) (call (Z83.R []) fun v3=>(cond (x0 != v3) bh (cond (x3.eo==0) (call (Z110.R (x3.aQ,x3.eu)) fun v4=>(cond (!v4) bh (cond (x3.eo==x1) (call (Z110.R (x3.cF,x3.cS)) fun v5=>ret (v5:Bool)) (call (Z105.R (x0,x1,x3.cF,x3.cS)) fun v6=>(cond v6 (cond (x3.cS.eo==x3.eo) (call (Z72.R (x3.cF.bf,x2)) fun v7=>ret ((v7==1):Bool)) bh) bh))))) (call (Z105.R (x0,x1,x3.aQ,x3.eu)) fun v8=>(cond (!v8) bh (cond (x3.eu.eo != (i64.wrap (x3.eo - 1))) bh (call (Z72.R (x3.aQ.bf,x2)) fun v9=>(cond (v9 != (-1)) bh (cond (x3.eo==x1) (call (Z110.R (x3.cF,x3.cS)) fun v10=>ret (v10:Bool)) (call (Z105.R (x0,x1,x3.cF,x3.cS)) fun v11=>(cond v11 (cond (x3.cS.eo==x3.eo) (call (Z72.R (x3.cF.bf,x2)) fun v12=>ret ((v12==1):Bool)) bh) bh))))))))))) (cond (x3.eo==0) (call (Z110.R (x3.aQ,x3.eu)) fun v13=>(cond (!v13) bh (cond (x3.eo==x1) (call (Z110.R (x3.cF,x3.cS)) fun v14=>ret (v14:Bool)) (call (Z105.R (x0,x1,x3.cF,x3.cS)) fun v15=>(cond v15 (cond (x3.cS.eo==x3.eo) (call (Z72.R (x3.cF.bf,x2)) fun v16=>ret ((v16==1):Bool)) bh) bh))))) (call (Z105.R (x0,x1,x3.aQ,x3.eu)) fun v17=>(cond (!v17) bh (cond (x3.eu.eo != (i64.wrap (x3.eo - 1))) bh (call (Z72.R (x3.aQ.bf,x2)) fun v18=>(cond (v18 != (-1)) bh (cond (x3.eo==x1) (call (Z110.R (x3.cF,x3.cS)) fun v19=>ret (v19:Bool)) (call (Z105.R (x0,x1,x3.cF,x3.cS)) fun v20=>(cond v20 (cond (x3.cS.eo==x3.eo) (call (Z72.R (x3.cF.bf,x2)) fun v21=>ret ((v21==1):Bool)) bh) bh))))))))))))))
def md (a0 a1:Int)(a2:aD)(a3:bT):Bool:=(cond (!(Z42.md a2)) (false:Bool) (cond (!(Z41.md a3.eo 0 a1)) (false:Bool) (cond (a1==0) (cond (a0 != (Z83.md [])) (false:Bool) (cond (a3.eo==0) (cond (!(Z110.md a3.aQ a3.eu)) (false:Bool) (cond (a3.eo==a1) ((Z110.md a3.cF a3.cS):Bool) (cond (Z105.md a0 a1 a3.cF a3.cS) (cond (a3.cS.eo==a3.eo) (((Z72.md a3.cF.bf a2)==1):Bool) (false:Bool)) (false:Bool)))) (cond (!(Z105.md a0 a1 a3.aQ a3.eu)) (false:Bool) (cond (a3.eu.eo != (i64.wrap (a3.eo - 1))) (false:Bool) (cond ((Z72.md a3.aQ.bf a2) != (-1)) (false:Bool) (cond (a3.eo==a1) ((Z110.md a3.cF a3.cS):Bool) (cond (Z105.md a0 a1 a3.cF a3.cS) (cond (a3.cS.eo==a3.eo) (((Z72.md a3.cF.bf a2)==1):Bool) (false:Bool)) (false:Bool)))))))) (cond (a3.eo==0) (cond (!(Z110.md a3.aQ a3.eu)) (false:Bool) (cond (a3.eo==a1) ((Z110.md a3.cF a3.cS):Bool) (cond (Z105.md a0 a1 a3.cF a3.cS) (cond (a3.cS.eo==a3.eo) (((Z72.md a3.cF.bf a2)==1):Bool) (false:Bool)) (false:Bool)))) (cond (!(Z105.md a0 a1 a3.aQ a3.eu)) (false:Bool) (cond (a3.eu.eo != (i64.wrap (a3.eo - 1))) (false:Bool) (cond ((Z72.md a3.aQ.bf a2) != (-1)) (false:Bool) (cond (a3.eo==a1) ((Z110.md a3.cF a3.cS):Bool) (cond (Z105.md a0 a1 a3.cF a3.cS) (cond (a3.cS.eo==a3.eo) (((Z72.md a3.cF.bf a2)==1):Bool) (false:Bool)) (false:Bool))))))))))
def gd (a0 a1:Int)(a2:aD)(a3:bT):Prop:=(a2.size<=(2^21))/\(bT.Sm (2^21) a3)
def R:=RR (p4 gd) (u4 md)
def aj {a0 a1 a2 a3}(h:gd a0 a1 a2 a3):R (a0,a1,a2,(bT.r a3))=some (md a0 a1 a2 a3):=aO (a:=(a0,a1,a2,a3)) h
def aW:=CN [pI,pI,pS,.agg vK] oB RT.dec R
def bw (a0)(a1)(a2)(a3)(hg:gd a0 a1 a2 a3):F a0 a1 a2 (bT.r a3)=ret (md a0 a1 a2 a3):=by
 obtain ⟨H2,H3⟩:=hg
 unfold F md
 try simp only [SS]
 refine ct (Z42.aj (le_trans H2 (by decide))) ?_
 refine au ret (fun _=>rfl) (fun c1=>?_)
 refine ct (Z41.aj trivial) ?_
 refine au ret (fun _=>rfl) (fun c2=>?_)
 refine au ret (fun c3=>?_) (fun c3=>?_)
 ·refine bp (Z83.md []) (rq (Z83.aj (a0:=[]) bM.nil)) ?_
  refine au ret (fun _=>rfl) (fun c4=>?_)
  refine au ret (fun c5=>?_) (fun c5=>?_)
  ·refine ct (Z110.aj ⟨H3.1,H3.2.2.1⟩) ?_
   refine au ret (fun _=>rfl) (fun c6=>?_)
   refine au ret (fun c7=>?_) (fun c7=>?_)
   ·refine ct (Z110.aj ⟨H3.2.1,H3.2.2.2⟩) ?_
    all_goals exact fz
   ·refine ct (Z105.aj ⟨H3.2.1,H3.2.2.2⟩) ?_
    refine au ret (fun c8=>?_) (fun _=>rfl)
    refine au ret (fun c9=>?_) (fun _=>rfl)
    refine ct (Z72.aj trivial) ?_
    all_goals exact fz
  ·refine ct (Z105.aj ⟨H3.1,H3.2.2.1⟩) ?_
   refine au ret (fun _=>rfl) (fun c10=>?_)
   refine au ret (fun _=>rfl) (fun c11=>?_)
   refine ct (Z72.aj trivial) ?_
   refine au ret (fun _=>rfl) (fun c12=>?_)
   refine au ret (fun c13=>?_) (fun c13=>?_)
   ·refine ct (Z110.aj ⟨H3.2.1,H3.2.2.2⟩) ?_
    all_goals exact fz
   ·refine ct (Z105.aj ⟨H3.2.1,H3.2.2.2⟩) ?_
    refine au ret (fun c14=>?_) (fun _=>rfl)
    refine au ret (fun c15=>?_) (fun _=>rfl)
    refine ct (Z72.aj trivial) ?_
    all_goals exact fz
 ·refine au ret (fun c16=>?_) (fun c16=>?_)
  ·refine ct (Z110.aj ⟨H3.1,H3.2.2.1⟩) ?_
   refine au ret (fun _=>rfl) (fun c17=>?_)
   refine au ret (fun c18=>?_) (fun c18=>?_)
   ·refine ct (Z110.aj ⟨H3.2.1,H3.2.2.2⟩) ?_
    all_goals exact fz
   ·refine ct (Z105.aj ⟨H3.2.1,H3.2.2.2⟩) ?_
    refine au ret (fun c19=>?_) (fun _=>rfl)
    refine au ret (fun c20=>?_) (fun _=>rfl)
    refine ct (Z72.aj trivial) ?_
    all_goals exact fz
  ·refine ct (Z105.aj ⟨H3.1,H3.2.2.1⟩) ?_
   refine au ret (fun _=>rfl) (fun c21=>?_)
   refine au ret (fun _=>rfl) (fun c22=>?_)
   refine ct (Z72.aj trivial) ?_
   refine au ret (fun _=>rfl) (fun c23=>?_)
   refine au ret (fun c24=>?_) (fun c24=>?_)
   ·refine ct (Z110.aj ⟨H3.2.1,H3.2.2.2⟩) ?_
    all_goals exact fz
   ·refine ct (Z105.aj ⟨H3.2.1,H3.2.2.2⟩) ?_
    refine au ret (fun c25=>?_) (fun _=>rfl)
    refine au ret (fun c26=>?_) (fun _=>rfl)
    refine ct (Z72.aj trivial) ?_
    all_goals exact fz
def af:cy 159 aW:=W4 95 F mix aF bw (.cons Z42.af (.cons Z41.af (.cons Z83.af (.cons Z110.af (.cons Z105.af (.cons Z72.af .nil)))))) Tryz.func159
end Z111
namespace Z112
def F (x0:bX)(x1:aD)(x2:aY):aH:=(cond x2.cq (cond (x2.aT.bf==x1) (call (Z105.R (x0.cQ,x0.ck,x2.aT,x2.ep)) fun v1=>(cond v1 (call (Z109.R (x2.fR,(⟨0,(⟨(⟨#[]⟩:aD),0,0,[]⟩:aU),(⟨(⟨#[]⟩:aD),0,0,[]⟩:aU),(⟨0,[]⟩:bR),(⟨0,[]⟩:bR)⟩:dK))) fun v2=>ret (v2:Bool)) bh)) bh) (call (Z111.R (x0.cQ,x0.ck,x1,x2.fR)) fun v3=>(cond v3 (call (Z110.R (x2.aT,x2.ep)) fun v4=>ret (v4:Bool)) bh)))
def md (a0:aE)(a1:aD)(a2:av):Bool:=(cond a2.cq (cond (a2.aT.bf==a1) (cond (Z105.md a0.cQ a0.ck a2.aT a2.ep) ((Z109.md a2.fR (⟨0,(⟨((⟨#[]⟩:aD):aD),0,0,[]⟩:ah),(⟨((⟨#[]⟩:aD):aD),0,0,[]⟩:ah),(⟨0,[]⟩:aL),(⟨0,[]⟩:aL)⟩:bT)):Bool) (false:Bool)) (false:Bool)) (cond (Z111.md a0.cQ a0.ck a1 a2.fR) ((Z110.md a2.aT a2.ep):Bool) (false:Bool)))
def gd (a0:aE)(a1:aD)(a2:av):Prop:=(a1.size<=(2^21))/\(av.Sm (2^21) a2)
def R:=RR (p3 gd) (u3 md)
def aj {a0 a1 a2}(h:gd a0 a1 a2):R ((aE.r a0),a1,(av.r a2))=some (md a0 a1 a2):=aO (a:=(a0,a1,a2)) h
def aW:=CN [.agg fU,pS,.agg xT] oB RT.dec R
def bw (a0)(a1)(a2)(hg:gd a0 a1 a2):F (aE.r a0) a1 (av.r a2)=ret (md a0 a1 a2):=by
 obtain ⟨H1,H2⟩:=hg
 unfold F md
 try simp only [SS]
 refine au ret (fun c1=>?_) (fun c1=>?_)
 ·refine au ret (fun c2=>?_) (fun _=>rfl)
  refine ct (Z105.aj ⟨H2.2.1,H2.2.2.1⟩) ?_
  refine au ret (fun c3=>?_) (fun _=>rfl)
  refine ct (Z109.aj (a1:=(⟨0,(⟨((⟨#[]⟩:aD):aD),0,0,[]⟩:ah),(⟨((⟨#[]⟩:aD):aD),0,0,[]⟩:ah),(⟨0,[]⟩:aL),(⟨0,[]⟩:aL)⟩:bT)) ⟨H2.2.2.2,⟨⟨(by decide),bM.nil⟩,⟨(by decide),bM.nil⟩,bM.nil,bM.nil⟩⟩) ?_
  all_goals exact fz
 ·refine ct (Z111.aj ⟨H1,H2.2.2.2⟩) ?_
  refine au ret (fun c4=>?_) (fun _=>rfl)
  refine ct (Z110.aj ⟨H2.2.1,H2.2.2.1⟩) ?_
  all_goals exact fz
def af:cy 127 aW:=W3 46 F mix aF bw (.cons Z105.af (.cons Z109.af (.cons Z111.af (.cons Z110.af .nil)))) Tryz.func127
end Z112
namespace Z113
def F (x0:Int)(x1:aD)(x2:aY)(x3:Int):aH:=(call (Z70.R x2.aR) fun v1=>(cond (!v1.2) (ret (3:Int)) (cond (v1.1.bD != x0) (ret (2:Int)) (call (Z103.R (v1.1,x3)) fun v2=>(cond (!v2) (ret (4:Int)) (cond v1.1.bC (ret (5:Int)) (call (Z112.R (v1.1,x1,x2)) fun v3=>(cond (!v3) (ret (6:Int)) (ret (1:Int))))))))))
def md (a0:Int)(a1:aD)(a2:av)(a3:Int):Int:=(cond (!(Z70.md a2.aR).2) (3:Int) (cond ((Z70.md a2.aR).1.bD != a0) (2:Int) (cond (!(Z103.md ((Z70.md a2.aR).1) a3)) (4:Int) (cond ((Z70.md a2.aR).1.bC) (5:Int) (cond (!(Z112.md ((Z70.md a2.aR).1) a1 a2)) (6:Int) (1:Int))))))
def gd (a0:Int)(a1:aD)(a2:av)(a3:Int):Prop:=(a1.size<=(2^21))/\(av.Sm (2^21) a2)
def R:=RR (p4 gd) (u4 md)
def aj {a0 a1 a2 a3}(h:gd a0 a1 a2 a3):R (a0,a1,(av.r a2),a3)=some (md a0 a1 a2 a3):=aO (a:=(a0,a1,a2,a3)) h
def aW:=CN [pI,pS,.agg xT,pI] oI RT.dec R
def bw (a0)(a1)(a2)(a3)(hg:gd a0 a1 a2 a3):F a0 a1 (av.r a2) a3=ret (md a0 a1 a2 a3):=by
 obtain ⟨H1,H2⟩:=hg
 unfold F md
 try simp only [SS]
 refine ct (Z70.aj H2.1) ?_
 try simp only [SS]
 refine au ret (fun _=>rfl) (fun c1=>?_)
 refine au ret (fun _=>rfl) (fun c2=>?_)
 refine ct (Z103.aj trivial) ?_
 refine au ret (fun _=>rfl) (fun c3=>?_)
 refine au ret (fun _=>rfl) (fun c4=>?_)
 refine ct (Z112.aj ⟨H1,H2⟩) ?_
 refine au ret (fun _=>rfl) (fun _=>rfl)
def af:cy 103 aW:=W4 39 F mix aF bw (.cons Z70.af (.cons Z103.af (.cons Z112.af .nil))) Tryz.func103
end Z113
namespace Z114
inductive Pt where
 | p0 (a:Int) (b c:aP)
def pid:Pt->Nat
 | .p0 ..=>4
def cj:Pt->List V
 | .p0 a b c=>[.cK 0 0,.cK 1 0,.int .i64 a]
def cg:Pt->List aV
 | .p0 a b c=>[.box [.int .i64 b.an.bD,.int .i64 b.an.cD,.int .i64 b.an.bJ,.int .i64 b.an.cA,.int .i64 b.an.cu,.int .i64 b.an.ck,.int .i64 b.an.cQ,.int .i64 b.an.dw,.sl none 3 b.an.bO.aX,.int .i64 b.an.bO.cz,.sl none 3 b.an.bA.aX,.int .i64 b.an.bA.cz,.int .i64 b.an.cT,.sl none 3 b.an.bt.aX,.int .i64 b.an.bt.cz,.bool b.an.bC,.sl none 190 b.bY],.box [.int .i64 c.an.bD,.int .i64 c.an.cD,.int .i64 c.an.bJ,.int .i64 c.an.cA,.int .i64 c.an.cu,.int .i64 c.an.ck,.int .i64 c.an.cQ,.int .i64 c.an.dw,.sl none 3 c.an.bO.aX,.int .i64 c.an.bO.cz,.sl none 3 c.an.bA.aX,.int .i64 c.an.bA.cz,.int .i64 c.an.cT,.sl none 3 c.an.bt.aX,.int .i64 c.an.bt.cz,.bool c.an.bC,.sl none 190 c.bY]]
def step (J:Pt->aH):Pt->aH
 | .p0 a b c=>(cond (decide (a<(b.bY.length:Int))) (m2 a (b.bY.length:Int) (m2 a (c.bY.length:Int) (cond (!((((bk.at b.bY (toNat a)).gI:Int)==(bk.at c.bY (toNat a)).gI)&&((((bk.at b.bY (toNat a)).jc:Int)==(bk.at c.bY (toNat a)).jc)&&true))) bh (J (.p0 (i64.wrap (a+1)) b c))))) eI)
def start (J:Pt->aH)(x0 x1:aP):aH:=(call (Z98.R (x0.an,x1.an)) fun v1=>(cond (!v1) bh (cond ((x0.bY.length:Int) != (x1.bY.length:Int)) bh (J (.p0 0 x0 x1)))))
def live:Nat->Live:=fun i=>match i with | 4=>[(2,none),(3,none),(5,none)] | _=>[]
def md (a0 a1:aa):Bool:=(bif (!(Z98.md a0.an a1.an)) then (false:Bool) else (bif ((a0.bY.length:Int) != (a1.bY.length:Int)) then (false:Bool) else (ec (S:=Unit) (β:=Bool) (fun (i3:Nat) (s5:Unit)=>(cond (!((((a0.bY.getD i3 bk.zero).gI:Int)==(a1.bY.getD i3 bk.zero).gI)&&((((a0.bY.getD i3 bk.zero).jc:Int)==(a1.bY.getD i3 bk.zero).jc)&&true))) (.inr (false:Bool)) (.inl ()))) (fun (s5:Unit)=>(true:Bool)) a0.bY.length 0 ())))
def gd (a0 a1:aa):Prop:=(aa.Sm (2^21) a0)/\(aa.Sm (2^21) a1)
def R:=RR (p2 gd) (u2 md)
def aj {a0 a1}(h:gd a0 a1):R ((aa.r a0),(aa.r a1))=some (md a0 a1):=aO (a:=(a0,a1)) h
def aW:=CN [.agg kD,.agg kD] oB RT.dec R
def bw (a0)(a1)(hg:gd a0 a1):∃n,start (iter step n) (aa.r a0) (aa.r a1)=ret (md a0 a1):=by
 obtain ⟨H0,H1⟩:=hg
 unfold start md
 try simp only [SS]
 refine cx (Z98.aj ⟨H0.1,H1.1⟩) ?_
 refine gP ret (fun _=>⟨0,rfl⟩) (fun c1=>?_)
 have dc1:=c1
 try simp only [DC] at dc1
 refine gP ret (fun _=>⟨0,rfl⟩) (fun c2=>?_)
 have dc2:=c2
 try simp only [DC] at dc2
 have Bh4:a0.bY.length<=maxLen:=(by
   have:=(H0.2).1
   try simp only [maxLen] at *
   omega)
 refine dM (p:=Pt.p0 0 (aa.r a0) (aa.r a1)) fz ?_
 refine cm (pt:=fun (i3:Nat) (s5:Unit)=>Pt.p0 (i3:Int) (aa.r a0) (aa.r a1)) (s:=(():Unit)) (out:=ret) (fun _ _=>True) (fun J i3 s5 h4 hih4=>?_) (fun s5 hih4=>?_) trivial
 ·simp only [step,SS]
  have bb_:=Bh4
  simp only [maxLen] at bb_
  have:=(H0.2).1
  refine bz.yes (by apply decide_eq_true;omega) ?_
  refine bz.yes aJ ?_
  refine bz.yes (aN h4) ?_
  refine bz.yes aJ ?_
  refine bz.yes (have:=(H1.2).1;dt) ?_
  refine bz.bif (fun _=>bz.inr rfl) (fun c6=>?_)
  refine bz.inl trivial ?_
  rw [aG h4 Bh4]
  all_goals exact fz
 ·simp only [step,SS]
  have:=(H0.2).1
  refine dx (by apply decide_eq_false;omega) ?_
  refine ⟨0,?_⟩
  all_goals exact fz
def af:cy 199 aW:=L2 39 pid cj cg live step start mix aF bw (.cons Z98.af .nil) Tryz.func199
def md_eq (a0 a1:aa):md a0 a1=dV a0 a1:=by
 unfold md
 simp only [Z98.md_eq,ff,bk.eqc]
 rw [jZ bk.zero (fun i s h h2=>by cases dV (a0.bY.getD i bk.zero) (a1.bY.getD i bk.zero)<;>rfl) (fun s=>rfl)]
 rw [Bool.eq_iff_iff]
 cases a0;cases a1
 simp [cZ]
end Z114
namespace Z115
def F (x0:bF):aH:=(call (Z98.R (x0.fA.an,x0.fB.an)) fun v1=>(cond v1 bh (call (Z114.R (x0.aQ,(⟨(⟨0,0,0,0,0,0,0,0,(⟨[],0⟩:bB),(⟨[],0⟩:bB),0,(⟨[],0⟩:bB),false⟩:bX),[]⟩:aP))) fun v2=>(cond v2 (call (Z58.R x0.fA) fun v3=>(cond v3 (call (Z58.R x0.fB) fun v4=>(cond v4 (ret ((x0.fA.an.bD==x0.fB.an.bD):Bool)) bh)) bh)) (call (Z67.R (x0.aQ.an,x0.fA)) fun v5=>(cond v5 (call (Z67.R (x0.aQ.an,x0.fB)) fun v6=>ret (v6:Bool)) bh))))))
def md (a0:az):Bool:=(cond (Z98.md a0.fA.an a0.fB.an) (false:Bool) (cond (Z114.md a0.aQ (⟨(⟨0,0,0,0,0,0,0,0,(⟨[],0⟩:aM),(⟨[],0⟩:aM),0,(⟨[],0⟩:aM),false⟩:aE),[]⟩:aa)) (cond (Z58.md a0.fA) (cond (Z58.md a0.fB) ((a0.fA.an.bD==a0.fB.an.bD):Bool) (false:Bool)) (false:Bool)) (cond (Z67.md a0.aQ.an a0.fA) ((Z67.md a0.aQ.an a0.fB):Bool) (false:Bool))))
def gd (a0:az):Prop:=(az.Sm (2^21) a0)
def R:=RR gd md
def aj {a0}(h:gd a0):R (az.r a0)=some (md a0):=aO (a:=a0) h
def aW:=CN [.agg sS] oB RT.dec R
def bw (a0)(hg:gd a0):F (az.r a0)=ret (md a0):=by
 unfold gd at hg
 have H0:=hg
 unfold F md
 try simp only [SS]
 refine ct (Z98.aj ⟨H0.2.1.1,H0.2.2.1⟩) ?_
 refine au ret (fun _=>rfl) (fun c1=>?_)
 refine ct (Z114.aj (a1:=(⟨(⟨0,0,0,0,0,0,0,0,(⟨[],0⟩:aM),(⟨[],0⟩:aM),0,(⟨[],0⟩:aM),false⟩:aE),[]⟩:aa)) ⟨H0.1,⟨⟨bM.nil,bM.nil,bM.nil⟩,bM.nil⟩⟩) ?_
 refine au ret (fun c2=>?_) (fun c2=>?_)
 ·refine ct (Z58.aj H0.2.1) ?_
  refine au ret (fun c3=>?_) (fun _=>rfl)
  refine ct (Z58.aj H0.2.2) ?_
  refine au ret (fun c4=>?_) (fun _=>rfl)
  all_goals exact fz
 ·refine ct (Z67.aj ⟨H0.1.1,H0.2.1⟩) ?_
  refine au ret (fun c5=>?_) (fun _=>rfl)
  refine ct (Z67.aj ⟨H0.1.1,H0.2.2⟩) ?_
  all_goals exact fz
def af:cy 161 aW:=W1 47 F mix aF bw (.cons Z98.af (.cons Z114.af (.cons Z58.af (.cons Z67.af .nil)))) Tryz.func161
end Z115
namespace Z116
def F (x0:bF):aH:=(call (Z115.R x0) fun v1=>(cond (!v1) (ret ((-1):Int)) (ret (x0.fA.an.bD:Int))))
def md (a0:az):Int:=(cond (!(Z115.md a0)) ((-1):Int) (a0.fA.an.bD:Int))
def gd (a0:az):Prop:=(az.Sm (2^21) a0)
def R:=RR gd md
def aj {a0}(h:gd a0):R (az.r a0)=some (md a0):=aO (a:=a0) h
def aW:=CN [.agg sS] oI RT.dec R
def bw (a0)(hg:gd a0):F (az.r a0)=ret (md a0):=by
 unfold gd at hg
 have H0:=hg
 unfold F md
 try simp only [SS]
 refine ct (Z115.aj H0) ?_
 refine au ret (fun _=>rfl) (fun c1=>?_)
 all_goals exact fz
def af:cy 128 aW:=W1 10 F mix aF bw (.cons Z115.af .nil) Tryz.func128
end Z116
namespace Z117
inductive Pt where
 | p0 (a b:Int) (c:bu)
def pid:Pt->Nat
 | .p0 ..=>2
def cj:Pt->List V
 | .p0 a b c=>[.int .i64 a,.cK 0 0,.int .i64 b]
def cg:Pt->List aV
 | .p0 a b c=>[.box [.sl none 134 c.aI,.sl none 143 c.bn]]
def step (J:Pt->aH):Pt->aH
 | .p0 a b c=>(cond (decide (b<(c.bn.length:Int))) (m2 b (c.bn.length:Int) (call (Z116.R (bF.at c.bn (toNat b))) fun v1=>(cond (v1==a) (cond (decide (a>=0)) eI (J (.p0 a (i64.wrap (b+1)) c))) (J (.p0 a (i64.wrap (b+1)) c))))) bh)
def start (J:Pt->aH)(x0:bu)(x1:Int):aH:=J (.p0 x1 0 x0)
def live:Nat->Live:=fun i=>match i with | 2=>[(1,none),(2,none),(5,none)] | _=>[]
def md (a0:aq)(a1:Int):Bool:=(dS (S:=Unit) (β:=Bool) (fun (y1:az) (s3:Unit)=>(cond ((Z116.md y1)==a1) (cond (decide (a1>=0)) (.inr (true:Bool)) (.inl ())) (.inl ()))) (fun (s3:Unit)=>(false:Bool)) a0.bn ())
def gd (a0:aq)(a1:Int):Prop:=(aq.Sm (2^21) a0)
def R:=RR (p2 gd) (u2 md)
def aj {a0 a1}(h:gd a0 a1):R ((aq.r a0),a1)=some (md a0 a1):=aO (a:=(a0,a1)) h
def aW:=CN [.agg tE,pI] oB RT.dec R
def bw (a0)(a1)(hg:gd a0 a1):∃n,start (iter step n) (aq.r a0) a1=ret (md a0 a1):=by
 unfold gd at hg
 have H0:=hg
 unfold start md
 try simp only [SS]
 have Bh2:a0.bn.length<=maxLen:=(by
   have:=(H0.2).1
   try simp only [maxLen] at *
   omega)
 refine ex_eq (out:=ret) (eC (z:=az.zero)) ?_
 refine dM (p:=Pt.p0 a1 0 (aq.r a0)) fz ?_
 refine cm (pt:=fun (i1:Nat) (s3:Unit)=>Pt.p0 a1 (i1:Int) (aq.r a0)) (s:=(():Unit)) (out:=ret) (fun _ _=>True) (fun J i1 s3 h2 hih2=>?_) (fun s3 hih2=>?_) trivial
 ·simp only [step,SS]
  have bb_:=Bh2
  simp only [maxLen] at bb_
  have:=(H0.2).1
  refine bz.yes (by apply decide_eq_true;omega) ?_
  refine bz.yes aJ ?_
  refine bz.yes (aN h2) ?_
  refine cr (Z116.aj (bM.getD (z:=az.zero) H0.2 h2)) ?_
  refine bz.bif (fun c4=>?_) (fun c4=>?_)
  ·refine bz.bif (fun _=>bz.inr rfl) (fun c5=>?_)
   refine bz.inl trivial ?_
   rw [aG h2 Bh2]
   all_goals exact fz
  ·refine bz.inl trivial ?_
   rw [aG h2 Bh2]
   all_goals exact fz
 ·simp only [step,SS]
  have:=(H0.2).1
  refine dx (by apply decide_eq_false;omega) ?_
  refine ⟨0,?_⟩
  all_goals exact fz
def af:cy 104 aW:=L2 25 pid cj cg live step start mix aF bw (.cons Z116.af .nil) Tryz.func104
end Z117
namespace Z118
inductive Pt where
 | p0 (a:aC) (b:Int) (c:aD) (d e:Int) (f:Bool) (g:aD) (h i:Int) (j k:Bool) (l:aD) (m n:Int) (o:Bool) (p q s:aC)
def pid:Pt->Nat
 | .p0 ..=>3
def cj:Pt->List V
 | .p0 a b c d e f g h i j k l m n o p q s=>[.sl none 165 a,.int .i64 b,.str c,.int .i64 d,.cK 0 0,.cK 1 0,.int .i64 e,.cK 1 0]
def cg:Pt->List aV
 | .p0 a b c d e f g h i j k l m n o p q s=>[.box [.nil,.nil,.bool f,.str g,.int .i64 h,.int .i64 i,.nil,.bool j,.nil],.box [.own 2,.own 3,.bool k,.str l,.int .i64 m,.int .i64 n,.nil,.bool o,.own 4],.row 134 p,.row 143 q,.row 3 s]
def step (J:Pt->aH):Pt->aH
 | .p0 a b c d e f g h i j k l m n o p q s=>(cond (decide (e<(a.length:Int))) (m2 e (a.length:Int) (call (Z70.R ((aY.at a (toNat e)).aR)) fun v1=>(cond v1.2 (cond (v1.1.bD==b) (call (Z102.R ((⟨p,q⟩:bu),(aY.at a (toNat e)).aR)) fun v2=>(call (Z113.R (b,c,(aY.at a (toNat e)),d)) fun v3=>(cond (v2.2==1) (cond (v3==1) (call (Z117.R (v2.1,b)) fun v4=>(cond v4 (bZ (eP (((s.length:Int)+1)*8)) (J (.p0 a b c d (i64.wrap (e+1)) f g h i j k l m n o v2.1.aI v2.1.bn (s++[[L.int 3]])))) (bZ (eP (((s.length:Int)+1)*8)) (cond (v3==1) (call (Z89.R ((aY.at a (toNat e)).aT)) fun v5=>ret ((⟨v2.1,(aY.at a (toNat e)).cq,v5,true,(s++[[L.int v3]])⟩:cV):cV)) (J (.p0 a b c d (i64.wrap (e+1)) f g h i j k l m n o v2.1.aI v2.1.bn (s++[[L.int v3]]))))))) (bZ (eP (((s.length:Int)+1)*8)) (cond (v3==1) (call (Z89.R ((aY.at a (toNat e)).aT)) fun v6=>ret ((⟨v2.1,(aY.at a (toNat e)).cq,v6,true,(s++[[L.int v3]])⟩:cV):cV)) (J (.p0 a b c d (i64.wrap (e+1)) f g h i j k l m n o v2.1.aI v2.1.bn (s++[[L.int v3]])))))) (cond (v2.2==2) (cond (v3==1) (call (Z117.R (v2.1,b)) fun v7=>(cond v7 (bZ (eP (((s.length:Int)+1)*8)) (J (.p0 a b c d (i64.wrap (e+1)) f g h i j k l m n o v2.1.aI v2.1.bn (s++[[L.int 3]])))) (bZ (eP (((s.length:Int)+1)*8)) (cond (v3==1) (call (Z89.R ((aY.at a (toNat e)).aT)) fun v8=>ret ((⟨v2.1,(aY.at a (toNat e)).cq,v8,true,(s++[[L.int v3]])⟩:cV):cV)) (J (.p0 a b c d (i64.wrap (e+1)) f g h i j k l m n o v2.1.aI v2.1.bn (s++[[L.int v3]]))))))) (bZ (eP (((s.length:Int)+1)*8)) (cond (v3==1) (call (Z89.R ((aY.at a (toNat e)).aT)) fun v9=>ret ((⟨v2.1,(aY.at a (toNat e)).cq,v9,true,(s++[[L.int v3]])⟩:cV):cV)) (J (.p0 a b c d (i64.wrap (e+1)) f g h i j k l m n o v2.1.aI v2.1.bn (s++[[L.int v3]])))))) (cond (v3==1) (cond (!(v2.2==3)) (bZ (eP (((s.length:Int)+1)*8)) (J (.p0 a b c d (i64.wrap (e+1)) f g h i j k l m n o v2.1.aI v2.1.bn (s++[[L.int 3]])))) (call (Z117.R (v2.1,b)) fun v10=>(cond v10 (bZ (eP (((s.length:Int)+1)*8)) (J (.p0 a b c d (i64.wrap (e+1)) f g h i j k l m n o v2.1.aI v2.1.bn (s++[[L.int 3]])))) (bZ (eP (((s.length:Int)+1)*8)) (cond (v3==1) (call (Z89.R ((aY.at a (toNat e)).aT)) fun v11=>ret ((⟨v2.1,(aY.at a (toNat e)).cq,v11,true,(s++[[L.int v3]])⟩:cV):cV)) (J (.p0 a b c d (i64.wrap (e+1)) f g h i j k l m n o v2.1.aI v2.1.bn (s++[[L.int v3]])))))))) (bZ (eP (((s.length:Int)+1)*8)) (cond (v3==1) (call (Z89.R ((aY.at a (toNat e)).aT)) fun v12=>ret ((⟨v2.1,(aY.at a (toNat e)).cq,v12,true,(s++[[L.int v3]])⟩:cV):cV)) (J (.p0 a b c d (i64.wrap (e+1)) f g h i j k l m n o v2.1.aI v2.1.bn (s++[[L.int v3]])))))))))) (call (Z113.R (b,c,(aY.at a (toNat e)),d)) fun v13=>(cond (v13==1) (bZ (eP (((s.length:Int)+1)*8)) (J (.p0 a b c d (i64.wrap (e+1)) f g h i j k l m n o p q (s++[[L.int 3]])))) (bZ (eP (((s.length:Int)+1)*8)) (cond (v13==1) (call (Z89.R ((aY.at a (toNat e)).aT)) fun v14=>ret ((⟨(⟨p,q⟩:bu),(aY.at a (toNat e)).cq,v14,true,(s++[[L.int v13]])⟩:cV):cV)) (J (.p0 a b c d (i64.wrap (e+1)) f g h i j k l m n o p q (s++[[L.int v13]])))))))) (call (Z113.R (b,c,(aY.at a (toNat e)),d)) fun v15=>(cond (v15==1) (bZ (eP (((s.length:Int)+1)*8)) (J (.p0 a b c d (i64.wrap (e+1)) f g h i j k l m n o p q (s++[[L.int 3]])))) (bZ (eP (((s.length:Int)+1)*8)) (cond (v15==1) (call (Z89.R ((aY.at a (toNat e)).aT)) fun v16=>ret ((⟨(⟨p,q⟩:bu),(aY.at a (toNat e)).cq,v16,true,(s++[[L.int v15]])⟩:cV):cV)) (J (.p0 a b c d (i64.wrap (e+1)) f g h i j k l m n o p q (s++[[L.int v15]])))))))))) (ret ((⟨(⟨p,q⟩:bu),k,(⟨l,m,n,[]⟩:aU),o,s⟩:cV):cV)))
def start (J:Pt->aH)(x0:bu)(x1:aC)(x2:Int)(x3:aD)(x4:Int):aH:=(call (Z40.R x0) fun v1=>J (.p0 x1 x2 x3 x4 0 false ⟨#[]⟩ 0 0 false false ⟨#[]⟩ 0 0 false v1.aI v1.bn []))
def live:Nat->Live:=fun i=>match i with | 3=>[(1,none),(2,none),(3,none),(4,none),(10,none),(11,none),(12,none),(11,some 8388611)] | _=>[]
def md (a0:aq)(a1:List av)(a2:Int)(a3:aD)(a4:Int):bS:=(dS (S:=List (List aa)×List az×List Int) (β:=bS) (fun (y1:av) (s3:List (List aa)×List az×List Int)=>(cond ((Z70.md (y1.aR)).2) (cond ((Z70.md (y1.aR)).1.bD==a2) (cond ((Z102.md (⟨s3.1,s3.2.1⟩:aq) (y1.aR)).2==1) (cond ((Z113.md a2 a3 y1 a4)==1) (cond (Z117.md ((Z102.md (⟨s3.1,s3.2.1⟩:aq) (y1.aR)).1) a2) (.inl ((Z102.md (⟨s3.1,s3.2.1⟩:aq) (y1.aR)).1.aI,(Z102.md (⟨s3.1,s3.2.1⟩:aq) (y1.aR)).1.bn,(s3.2.2++[3]))) (cond ((Z113.md a2 a3 y1 a4)==1) (.inr (⟨(Z102.md (⟨s3.1,s3.2.1⟩:aq) (y1.aR)).1,y1.cq,(y1.aT),true,(s3.2.2++[(Z113.md a2 a3 y1 a4)])⟩:bS)) (.inl ((Z102.md (⟨s3.1,s3.2.1⟩:aq) (y1.aR)).1.aI,(Z102.md (⟨s3.1,s3.2.1⟩:aq) (y1.aR)).1.bn,(s3.2.2++[(Z113.md a2 a3 y1 a4)]))))) (cond ((Z113.md a2 a3 y1 a4)==1) (.inr (⟨(Z102.md (⟨s3.1,s3.2.1⟩:aq) (y1.aR)).1,y1.cq,(y1.aT),true,(s3.2.2++[(Z113.md a2 a3 y1 a4)])⟩:bS)) (.inl ((Z102.md (⟨s3.1,s3.2.1⟩:aq) (y1.aR)).1.aI,(Z102.md (⟨s3.1,s3.2.1⟩:aq) (y1.aR)).1.bn,(s3.2.2++[(Z113.md a2 a3 y1 a4)]))))) (cond ((Z102.md (⟨s3.1,s3.2.1⟩:aq) (y1.aR)).2==2) (cond ((Z113.md a2 a3 y1 a4)==1) (cond (Z117.md ((Z102.md (⟨s3.1,s3.2.1⟩:aq) (y1.aR)).1) a2) (.inl ((Z102.md (⟨s3.1,s3.2.1⟩:aq) (y1.aR)).1.aI,(Z102.md (⟨s3.1,s3.2.1⟩:aq) (y1.aR)).1.bn,(s3.2.2++[3]))) (cond ((Z113.md a2 a3 y1 a4)==1) (.inr (⟨(Z102.md (⟨s3.1,s3.2.1⟩:aq) (y1.aR)).1,y1.cq,(y1.aT),true,(s3.2.2++[(Z113.md a2 a3 y1 a4)])⟩:bS)) (.inl ((Z102.md (⟨s3.1,s3.2.1⟩:aq) (y1.aR)).1.aI,(Z102.md (⟨s3.1,s3.2.1⟩:aq) (y1.aR)).1.bn,(s3.2.2++[(Z113.md a2 a3 y1 a4)]))))) (cond ((Z113.md a2 a3 y1 a4)==1) (.inr (⟨(Z102.md (⟨s3.1,s3.2.1⟩:aq) (y1.aR)).1,y1.cq,(y1.aT),true,(s3.2.2++[(Z113.md a2 a3 y1 a4)])⟩:bS)) (.inl ((Z102.md (⟨s3.1,s3.2.1⟩:aq) (y1.aR)).1.aI,(Z102.md (⟨s3.1,s3.2.1⟩:aq) (y1.aR)).1.bn,(s3.2.2++[(Z113.md a2 a3 y1 a4)]))))) (cond ((Z113.md a2 a3 y1 a4)==1) (cond (!((Z102.md (⟨s3.1,s3.2.1⟩:aq) (y1.aR)).2==3)) (.inl ((Z102.md (⟨s3.1,s3.2.1⟩:aq) (y1.aR)).1.aI,(Z102.md (⟨s3.1,s3.2.1⟩:aq) (y1.aR)).1.bn,(s3.2.2++[3]))) (cond (Z117.md ((Z102.md (⟨s3.1,s3.2.1⟩:aq) (y1.aR)).1) a2) (.inl ((Z102.md (⟨s3.1,s3.2.1⟩:aq) (y1.aR)).1.aI,(Z102.md (⟨s3.1,s3.2.1⟩:aq) (y1.aR)).1.bn,(s3.2.2++[3]))) (cond ((Z113.md a2 a3 y1 a4)==1) (.inr (⟨(Z102.md (⟨s3.1,s3.2.1⟩:aq) (y1.aR)).1,y1.cq,(y1.aT),true,(s3.2.2++[(Z113.md a2 a3 y1 a4)])⟩:bS)) (.inl ((Z102.md (⟨s3.1,s3.2.1⟩:aq) (y1.aR)).1.aI,(Z102.md (⟨s3.1,s3.2.1⟩:aq) (y1.aR)).1.bn,(s3.2.2++[(Z113.md a2 a3 y1 a4)])))))) (cond ((Z113.md a2 a3 y1 a4)==1) (.inr (⟨(Z102.md (⟨s3.1,s3.2.1⟩:aq) (y1.aR)).1,y1.cq,(y1.aT),true,(s3.2.2++[(Z113.md a2 a3 y1 a4)])⟩:bS)) (.inl ((Z102.md (⟨s3.1,s3.2.1⟩:aq) (y1.aR)).1.aI,(Z102.md (⟨s3.1,s3.2.1⟩:aq) (y1.aR)).1.bn,(s3.2.2++[(Z113.md a2 a3 y1 a4)]))))))) (cond ((Z113.md a2 a3 y1 a4)==1) (.inl (s3.1,s3.2.1,(s3.2.2++[3]))) (cond ((Z113.md a2 a3 y1 a4)==1) (.inr (⟨(⟨s3.1,s3.2.1⟩:aq),y1.cq,(y1.aT),true,(s3.2.2++[(Z113.md a2 a3 y1 a4)])⟩:bS)) (.inl (s3.1,s3.2.1,(s3.2.2++[(Z113.md a2 a3 y1 a4)])))))) (cond ((Z113.md a2 a3 y1 a4)==1) (.inl (s3.1,s3.2.1,(s3.2.2++[3]))) (cond ((Z113.md a2 a3 y1 a4)==1) (.inr (⟨(⟨s3.1,s3.2.1⟩:aq),y1.cq,(y1.aT),true,(s3.2.2++[(Z113.md a2 a3 y1 a4)])⟩:bS)) (.inl (s3.1,s3.2.1,(s3.2.2++[(Z113.md a2 a3 y1 a4)]))))))) (fun (s3:List (List aa)×List az×List Int)=>(⟨(⟨s3.1,s3.2.1⟩:aq),false,(⟨(⟨#[]⟩:aD),0,0,[]⟩:ah),false,s3.2.2⟩:bS)) a1 (a0.aI,a0.bn,[]))
def gd (a0:aq)(a1:List av)(a2:Int)(a3:aD)(a4:Int):Prop:=(aq.Sm (2^21) a0)/\(bM (2^21) (fun y:av=>av.Sm (2^21) y) a1)/\(a3.size<=(2^21))
def R:=RR (p5 gd) (u5 md)
def aj {a0 a1 a2 a3 a4}(h:gd a0 a1 a2 a3 a4):R ((aq.r a0),(a1.map av.row),a2,a3,a4)=some (bS.r (md a0 a1 a2 a3 a4)):=aO (a:=(a0,a1,a2,a3,a4)) h
def aW:=CN [.agg tE,pL 165,pI,pS,pI] (.agg f102) RT.dec R
def bw (a0)(a1)(a2)(a3)(a4)(hg:gd a0 a1 a2 a3 a4):∃n,start (iter step n) (aq.r a0) (a1.map av.row) a2 a3 a4=ret (bS.r (md a0 a1 a2 a3 a4)):=by
 obtain ⟨H0,H1,H3⟩:=hg
 unfold start md
 try simp only [SS]
 refine cx (Z40.aj H0) ?_
 try simp only [SS]
 have Bh2:a1.length<=maxLen:=(by
   have:=(H1).1
   try simp only [maxLen] at *
   omega)
 refine ex_eq (out:=(fun b:bS=>ret ((bS.r b):cV))) (eC (z:=av.zero)) ?_
 refine dM (p:=Pt.p0 (a1.map av.row) a2 a3 a4 0 false (⟨#[]⟩:aD) 0 0 false false (⟨#[]⟩:aD) 0 0 false (a0.aI.map (dF aa.row)) (a0.bn.map az.row) ([].map aZ)) fz ?_
 refine cm (pt:=fun (i1:Nat) (s3:List (List aa)×List az×List Int)=>Pt.p0 (a1.map av.row) a2 a3 a4 (i1:Int) false (⟨#[]⟩:aD) 0 0 false false (⟨#[]⟩:aD) 0 0 false (s3.1.map (dF aa.row)) (s3.2.1.map az.row) (s3.2.2.map aZ)) (s:=((a0.aI,a0.bn,[]):List (List aa)×List az×List Int)) (out:=(fun b:bS=>ret ((bS.r b):cV))) (fun (i1:Nat) (s3:List (List aa)×List az×List Int)=>aq.Sm (2^21) (⟨s3.1,s3.2.1⟩:aq)/\s3.2.2.length<=i1) (fun J i1 s3 h2 hih2=>?_) (fun s3 hih2=>?_) ⟨H0,zero_le _⟩
 ·simp only [step,SS]
  have gr_:=hih2
  try simp only [LN] at gr_
  have bb_:=Bh2
  simp only [maxLen] at bb_
  have:=(H1).1
  refine bz.yes (by apply decide_eq_true;omega) ?_
  refine bz.yes aJ ?_
  refine bz.yes (aN h2) ?_
  refine cr (Z70.aj (bM.getD (z:=av.zero) H1 h2).1) ?_
  try simp only [SS]
  refine bz.bif (fun c4=>?_) (fun c4=>?_)
  ·refine bz.bif (fun c5=>?_) (fun c5=>?_)
   ·have dc5:=c5
    try simp only [DC] at dc5
    refine cr (Z102.aj (a0:=(⟨s3.1,s3.2.1⟩:aq)) ⟨⟨hih2.1.1,hih2.1.2⟩,(bM.getD (z:=av.zero) H1 h2).1⟩) ?_
    try simp only [SS]
    refine cr (Z113.aj ⟨H3,(bM.getD (z:=av.zero) H1 h2)⟩) ?_
    refine bz.bif (fun c6=>?_) (fun c6=>?_)
    ·have dc6:=c6
     try simp only [DC] at dc6
     refine bz.bif (fun c7=>?_) (fun c7=>?_)
     ·have dc7:=c7
      try simp only [DC] at dc7
      refine cr (Z117.aj (a0:=(Z102.md (⟨s3.1,s3.2.1⟩:aq) ((a1.getD i1 av.zero).aR)).1) (Z102.gb (a0:=(⟨s3.1,s3.2.1⟩:aq)) (a1:=(a1.getD i1 av.zero).aR) ⟨⟨hih2.1.1,hih2.1.2⟩,(bM.getD (z:=av.zero) H1 h2).1⟩)) ?_
      refine bz.bif (fun c8=>?_) (fun c8=>?_)
      ·refine bz.yes lm ?_
       refine bz.inl (by first | exact ⟨hih2.1,gZ hih2.2⟩ | exact ⟨Z102.gb ⟨hih2.1,(bM.getD H1 h2).1⟩,gZ hih2.2⟩) ?_
       rw [aG h2 Bh2]
       all_goals exact fz
      ·refine bz.yes lm ?_
       refine bz.bif (fun c9=>?_) (fun c9=>?_)
       ·refine cr (Z89.aj (bM.getD (z:=av.zero) H1 h2).2.1) ?_
        try simp only [SS]
        refine bz.inr ?_
        all_goals exact fz
       ·refine bz.inl (by first | exact ⟨hih2.1,gZ hih2.2⟩ | exact ⟨Z102.gb ⟨hih2.1,(bM.getD H1 h2).1⟩,gZ hih2.2⟩) ?_
        rw [aG h2 Bh2]
        all_goals exact fz
     ·have dc7:=c7
      try simp only [DC] at dc7
      refine bz.yes lm ?_
      refine bz.bif (fun c10=>?_) (fun c10=>?_)
      ·refine cr (Z89.aj (bM.getD (z:=av.zero) H1 h2).2.1) ?_
       try simp only [SS]
       refine bz.inr ?_
       all_goals exact fz
      ·refine bz.inl (by first | exact ⟨hih2.1,gZ hih2.2⟩ | exact ⟨Z102.gb ⟨hih2.1,(bM.getD H1 h2).1⟩,gZ hih2.2⟩) ?_
       rw [aG h2 Bh2]
       all_goals exact fz
    ·have dc6:=c6
     try simp only [DC] at dc6
     refine bz.bif (fun c11=>?_) (fun c11=>?_)
     ·have dc11:=c11
      try simp only [DC] at dc11
      refine bz.bif (fun c12=>?_) (fun c12=>?_)
      ·have dc12:=c12
       try simp only [DC] at dc12
       refine cr (Z117.aj (a0:=(Z102.md (⟨s3.1,s3.2.1⟩:aq) ((a1.getD i1 av.zero).aR)).1) (Z102.gb (a0:=(⟨s3.1,s3.2.1⟩:aq)) (a1:=(a1.getD i1 av.zero).aR) ⟨⟨hih2.1.1,hih2.1.2⟩,(bM.getD (z:=av.zero) H1 h2).1⟩)) ?_
       refine bz.bif (fun c13=>?_) (fun c13=>?_)
       ·refine bz.yes lm ?_
        refine bz.inl (by first | exact ⟨hih2.1,gZ hih2.2⟩ | exact ⟨Z102.gb ⟨hih2.1,(bM.getD H1 h2).1⟩,gZ hih2.2⟩) ?_
        rw [aG h2 Bh2]
        all_goals exact fz
       ·refine bz.yes lm ?_
        refine bz.bif (fun c14=>?_) (fun c14=>?_)
        ·refine cr (Z89.aj (bM.getD (z:=av.zero) H1 h2).2.1) ?_
         try simp only [SS]
         refine bz.inr ?_
         all_goals exact fz
        ·refine bz.inl (by first | exact ⟨hih2.1,gZ hih2.2⟩ | exact ⟨Z102.gb ⟨hih2.1,(bM.getD H1 h2).1⟩,gZ hih2.2⟩) ?_
         rw [aG h2 Bh2]
         all_goals exact fz
      ·have dc12:=c12
       try simp only [DC] at dc12
       refine bz.yes lm ?_
       refine bz.bif (fun c15=>?_) (fun c15=>?_)
       ·refine cr (Z89.aj (bM.getD (z:=av.zero) H1 h2).2.1) ?_
        try simp only [SS]
        refine bz.inr ?_
        all_goals exact fz
       ·refine bz.inl (by first | exact ⟨hih2.1,gZ hih2.2⟩ | exact ⟨Z102.gb ⟨hih2.1,(bM.getD H1 h2).1⟩,gZ hih2.2⟩) ?_
        rw [aG h2 Bh2]
        all_goals exact fz
     ·have dc11:=c11
      try simp only [DC] at dc11
      refine bz.bif (fun c16=>?_) (fun c16=>?_)
      ·have dc16:=c16
       try simp only [DC] at dc16
       refine bz.bif (fun c17=>?_) (fun c17=>?_)
       ·have dc17:=c17
        try simp only [DC] at dc17
        refine bz.yes lm ?_
        refine bz.inl (by first | exact ⟨hih2.1,gZ hih2.2⟩ | exact ⟨Z102.gb ⟨hih2.1,(bM.getD H1 h2).1⟩,gZ hih2.2⟩) ?_
        rw [aG h2 Bh2]
        all_goals exact fz
       ·have dc17:=c17
        try simp only [DC] at dc17
        refine cr (Z117.aj (a0:=(Z102.md (⟨s3.1,s3.2.1⟩:aq) ((a1.getD i1 av.zero).aR)).1) (Z102.gb (a0:=(⟨s3.1,s3.2.1⟩:aq)) (a1:=(a1.getD i1 av.zero).aR) ⟨⟨hih2.1.1,hih2.1.2⟩,(bM.getD (z:=av.zero) H1 h2).1⟩)) ?_
        refine bz.bif (fun c18=>?_) (fun c18=>?_)
        ·refine bz.yes lm ?_
         refine bz.inl (by first | exact ⟨hih2.1,gZ hih2.2⟩ | exact ⟨Z102.gb ⟨hih2.1,(bM.getD H1 h2).1⟩,gZ hih2.2⟩) ?_
         rw [aG h2 Bh2]
         all_goals exact fz
        ·refine bz.yes lm ?_
         refine bz.bif (fun c19=>?_) (fun c19=>?_)
         ·refine cr (Z89.aj (bM.getD (z:=av.zero) H1 h2).2.1) ?_
          try simp only [SS]
          refine bz.inr ?_
          all_goals exact fz
         ·refine bz.inl (by first | exact ⟨hih2.1,gZ hih2.2⟩ | exact ⟨Z102.gb ⟨hih2.1,(bM.getD H1 h2).1⟩,gZ hih2.2⟩) ?_
          rw [aG h2 Bh2]
          all_goals exact fz
      ·have dc16:=c16
       try simp only [DC] at dc16
       refine bz.yes lm ?_
       refine bz.bif (fun c20=>?_) (fun c20=>?_)
       ·refine cr (Z89.aj (bM.getD (z:=av.zero) H1 h2).2.1) ?_
        try simp only [SS]
        refine bz.inr ?_
        all_goals exact fz
       ·refine bz.inl (by first | exact ⟨hih2.1,gZ hih2.2⟩ | exact ⟨Z102.gb ⟨hih2.1,(bM.getD H1 h2).1⟩,gZ hih2.2⟩) ?_
        rw [aG h2 Bh2]
        all_goals exact fz
   ·have dc5:=c5
    try simp only [DC] at dc5
    refine cr (Z113.aj ⟨H3,(bM.getD (z:=av.zero) H1 h2)⟩) ?_
    refine bz.bif (fun c21=>?_) (fun c21=>?_)
    ·have dc21:=c21
     try simp only [DC] at dc21
     refine bz.yes lm ?_
     refine bz.inl (by first | exact ⟨hih2.1,gZ hih2.2⟩ | exact ⟨Z102.gb ⟨hih2.1,(bM.getD H1 h2).1⟩,gZ hih2.2⟩) ?_
     rw [aG h2 Bh2]
     all_goals exact fz
    ·have dc21:=c21
     try simp only [DC] at dc21
     refine bz.yes lm ?_
     refine bz.bif (fun c22=>?_) (fun c22=>?_)
     ·refine cr (Z89.aj (bM.getD (z:=av.zero) H1 h2).2.1) ?_
      try simp only [SS]
      refine bz.inr ?_
      all_goals exact fz
     ·refine bz.inl (by first | exact ⟨hih2.1,gZ hih2.2⟩ | exact ⟨Z102.gb ⟨hih2.1,(bM.getD H1 h2).1⟩,gZ hih2.2⟩) ?_
      rw [aG h2 Bh2]
      all_goals exact fz
  ·refine cr (Z113.aj ⟨H3,(bM.getD (z:=av.zero) H1 h2)⟩) ?_
   refine bz.bif (fun c23=>?_) (fun c23=>?_)
   ·have dc23:=c23
    try simp only [DC] at dc23
    refine bz.yes lm ?_
    refine bz.inl (by first | exact ⟨hih2.1,gZ hih2.2⟩ | exact ⟨Z102.gb ⟨hih2.1,(bM.getD H1 h2).1⟩,gZ hih2.2⟩) ?_
    rw [aG h2 Bh2]
    all_goals exact fz
   ·have dc23:=c23
    try simp only [DC] at dc23
    refine bz.yes lm ?_
    refine bz.bif (fun c24=>?_) (fun c24=>?_)
    ·refine cr (Z89.aj (bM.getD (z:=av.zero) H1 h2).2.1) ?_
     try simp only [SS]
     refine bz.inr ?_
     all_goals exact fz
    ·refine bz.inl (by first | exact ⟨hih2.1,gZ hih2.2⟩ | exact ⟨Z102.gb ⟨hih2.1,(bM.getD H1 h2).1⟩,gZ hih2.2⟩) ?_
     rw [aG h2 Bh2]
     all_goals exact fz
 ·simp only [step,SS]
  have gr_:=hih2
  try simp only [LN] at gr_
  have:=(H1).1
  refine dx (by apply decide_eq_false;omega) ?_
  refine ⟨0,?_⟩
  all_goals exact fz
def af:cy 64 aW:=L5 99 pid cj cg live step start mix aF bw (.cons Z40.af (.cons Z70.af (.cons Z102.af (.cons Z113.af (.cons Z117.af (.cons Z89.af .nil)))))) Tryz.func64
def nQ (z:Int)(l:aD)(now:Int)(y:av)(k:aq):aq×Int:=
 let kn:=bif (Z70.md y.aR).2&&((Z70.md y.aR).1.bD==z) then Z102.md k y.aR else (k,6)
 (kn.1,bif (Z113.md z l y now==1)&&!((kn.2==1||(kn.2==2||kn.2==3))&&!Z117.md kn.1 z) then 3 else Z113.md z l y now)
def tD (z:Int)(l:aD)(now:Int)(y:av)(s:List (List aa)×List az×List Int):List (List aa)×List az×List Int⊕bS:=
 bif (nQ z l now y ⟨s.1,s.2.1⟩).2==1 then .inr ⟨(nQ z l now y ⟨s.1,s.2.1⟩).1,y.cq,y.aT,true,s.2.2++[(nQ z l now y ⟨s.1,s.2.1⟩).2]⟩
 else .inl ((nQ z l now y ⟨s.1,s.2.1⟩).1.aI,(nQ z l now y ⟨s.1,s.2.1⟩).1.bn,s.2.2++[(nQ z l now y ⟨s.1,s.2.1⟩).2])
def fin (s:List (List aa)×List az×List Int):bS:=⟨⟨s.1,s.2.1⟩,false,⟨⟨#[]⟩,0,0,[]⟩,false,s.2.2⟩
def qH (a0:aq)(a1:List av)(a2:Int)(a3:aD)(a4:Int):md a0 a1 a2 a3 a4=dS (tD a2 a3 a4) fin a1 (a0.aI,a0.bn,[]):=by
 unfold md
 refine oN (fun y _ s=>?_) (fun s=>rfl)
 have h31:((3:Int)==1)=false:=rfl
 have h61:((6:Int)==1)=false:=rfl
 have h62:((6:Int)==2)=false:=rfl
 have h63:((6:Int)==3)=false:=rfl
 unfold tD nQ
 cases g1:(Z70.md y.aR).2
 ·cases g2:(Z113.md a2 a3 y a4==1)<;>simp [g2,h31,h61,h62,h63]
 cases g3:((Z70.md y.aR).1.bD==a2)
 ·cases g2:(Z113.md a2 a3 y a4==1)<;>simp [g2,h31,h61,h62,h63]
 generalize Z102.md (⟨s.1,s.2.1⟩:aq) y.aR=r
 cases g2:(Z113.md a2 a3 y a4==1)<;>cases g4:(r.2==1)<;>cases g5:(r.2==2)<;>cases g6:(r.2==3)<;>cases g7:Z117.md r.1 a2<;>simp [g2,g4,g5,g6,g7,h31]
def yO (z:Int)(l:aD)(now:Int)(y:av)(k:aq):Z102.Cz (nQ z l now y k).1.aI<=Z102.Cz k.aI+(av.size y+1)/\
  Z102.Fz (nQ z l now y k).1.bn<=Z102.Fz k.bn+(2*Z102.Cz k.aI+av.size y+1):=by
 have h:=Z102.grow k y.aR
 have hs:dP (fun y:aa=>aa.size y) y.aR<=av.size y:=by unfold av.size;omega
 unfold nQ
 cases (Z70.md y.aR).2&&((Z70.md y.aR).1.bD==z)
 ·simp only [bq];omega
 ·simp only [bg];omega
def xP {α:Type}(f:α->Nat)(x:α)(xs:List α):dP f (x::xs)=dP f xs+(f x+1):=by simp [dP];omega
def grow (z:Int)(l:aD)(now:Int):∀(xs:List av) (s:List (List aa)×List az×List Int),
  Z102.Cz (dS (tD z l now) fin xs s).bW.aI<=Z102.Cz s.1+dP (fun y:av=>av.size y) xs/\
  Z102.Fz (dS (tD z l now) fin xs s).bW.bn<=Z102.Fz s.2.1+xs.length*(2*(Z102.Cz s.1+dP (fun y:av=>av.size y) xs)+dP (fun y:av=>av.size y) xs)/\
  (dS (tD z l now) fin xs s).kC.length<=s.2.2.length+xs.length/\ah.size (dS (tD z l now) fin xs s).aT<=dP (fun y:av=>av.size y) xs
 | [],s=>⟨Nat.le_add_right _ _,Nat.le_add_right _ _,Nat.le_refl _,zero_le _⟩
 | y::xs,s=>by
  have hg:=yO z l now y ⟨s.1,s.2.1⟩
  have hy:ah.size y.aT<=av.size y:=by unfold av.size;omega
  rw [xP]
  unfold dS
  cases hb:(nQ z l now y ⟨s.1,s.2.1⟩).2==1
  ·have e:tD z l now y s=.inl ((nQ z l now y ⟨s.1,s.2.1⟩).1.aI,(nQ z l now y ⟨s.1,s.2.1⟩).1.bn,s.2.2++[(nQ z l now y ⟨s.1,s.2.1⟩).2]):=by unfold tD;rw [hb];rfl
   rw [e]
   obtain ⟨h1,h2,h3,h4⟩:=grow z l now xs ((nQ z l now y ⟨s.1,s.2.1⟩).1.aI,(nQ z l now y ⟨s.1,s.2.1⟩).1.bn,s.2.2++[(nQ z l now y ⟨s.1,s.2.1⟩).2])
   simp only at h1 h2 h3 h4 hg ⊢
   generalize dP (fun y:av=>av.size y) xs=w at *
   generalize av.size y=q at *
   generalize Z102.Cz (nQ z l now y ⟨s.1,s.2.1⟩).1.aI=c1 at *
   generalize Z102.Cz s.1=c0 at *
   have hm:xs.length*(2*(c1+w)+w)<=xs.length*(2*(c0+(w+(q+1)))+(w+(q+1))):=Nat.mul_le_mul_left _ (by omega)
   rw [List.length_cons,Nat.succ_mul]
   rw [List.length_append] at h3
   refine ⟨by omega,by omega,by simp only [List.length_cons,List.length_nil] at h3;omega,by omega⟩
  ·have e:tD z l now y s=.inr ⟨(nQ z l now y ⟨s.1,s.2.1⟩).1,y.cq,y.aT,true,s.2.2++[(nQ z l now y ⟨s.1,s.2.1⟩).2]⟩:=by unfold tD;rw [hb];rfl
   rw [e]
   simp only at hg ⊢
   generalize dP (fun y:av=>av.size y) xs=w at *
   generalize av.size y=q at *
   generalize Z102.Cz s.1=c0 at *
   rw [List.length_cons,Nat.succ_mul,List.length_append]
   refine ⟨by omega,by omega,by simp only [List.length_cons,List.length_nil];omega,by omega⟩
def AK {z:Int}{l:aD}{now:Int}{y:av}{k:aq}(hk:aq.Sm (2^21) k)(hy:av.Sm (2^21) y):aq.Sm (2^21) (nQ z l now y k).1:=by
 unfold nQ
 cases (Z70.md y.aR).2&&((Z70.md y.aR).1.bD==z)
 ·exact hk
 ·exact Z102.gb ⟨hk,hy.1⟩
def tH {z:Int}{l:aD}{now:Int}:∀(xs:List av) (s:List (List aa)×List az×List Int),aq.Sm (2^21) ⟨s.1,s.2.1⟩->(∀y∈xs,av.Sm (2^21) y)->s.2.2.length+xs.length<=2^21->bS.Sm (2^21) (dS (tD z l now) fin xs s)
 | [],s,hk,_,hc=>⟨hk,⟨zero_le _,bM.nil⟩,hc,fun _ _=>trivial⟩
 | y::xs,s,hk,hx,hc=>by
  have hy:=hx y (by simp)
  have he:=AK (z:=z) (l:=l) (now:=now) hk hy
  simp only [List.length_cons] at hc
  unfold dS
  cases hb:(nQ z l now y ⟨s.1,s.2.1⟩).2==1
  ·have e:tD z l now y s=.inl ((nQ z l now y ⟨s.1,s.2.1⟩).1.aI,(nQ z l now y ⟨s.1,s.2.1⟩).1.bn,s.2.2++[(nQ z l now y ⟨s.1,s.2.1⟩).2]):=by unfold tD;rw [hb];rfl
   rw [e]
   exact tH xs _ he (fun y hy=>hx y (by simp [hy])) (by simp only [List.length_append,List.length_cons,List.length_nil];omega)
  ·have e:tD z l now y s=.inr ⟨(nQ z l now y ⟨s.1,s.2.1⟩).1,y.cq,y.aT,true,s.2.2++[(nQ z l now y ⟨s.1,s.2.1⟩).2]⟩:=by unfold tD;rw [hb];rfl
   rw [e]
   exact ⟨he,hy.2.1,by simp only [List.length_append,List.length_cons,List.length_nil];omega,fun _ _=>trivial⟩
def gb {a0:aq}{a1:List av}{a2:Int}{a3:aD}{a4:Int}(hg:gd a0 a1 a2 a3 a4):bS.Sm (2^21) (md a0 a1 a2 a3 a4):=by
 unfold gd at hg
 rw [qH]
 exact tH a1 _ hg.1 hg.2.1.2 (by have:=hg.2.1.1;simp only [List.length_nil];omega)
end Z118
namespace Z119
def F (x0:cV):aH:=(cond (!x0.jY) (ret (((⟨(⟨#[]⟩:aD),0,0,[]⟩:aU),false):aU×Bool)) (cond (!x0.cq) (ret (((⟨(⟨#[]⟩:aD),0,0,[]⟩:aU),false):aU×Bool)) (call (Z89.R x0.aT) fun v1=>ret ((v1,true):aU×Bool))))
def md (a0:bS):ah×Bool:=(cond (!a0.jY) ((⟨((⟨#[]⟩:aD):aD),0,0,[]⟩:ah),false) (cond (!a0.cq) ((⟨((⟨#[]⟩:aD):aD),0,0,[]⟩:ah),false) (a0.aT,true)))
def gd (a0:bS):Prop:=(bS.Sm (2^21) a0)
def R:=RR gd md
def aj {a0}(h:gd a0):R (bS.r a0)=some ((ah.r (md a0).1),(md a0).2):=aO (a:=a0) h
def aW:=CN [.agg Aw] (.iH [(true,f57),(false,[fB])]) RT.dec R
def bw (a0)(hg:gd a0):F (bS.r a0)=ret ((ah.r (md a0).1),(md a0).2):=by
 unfold gd at hg
 have H0:=hg
 unfold F md
 try simp only [SS]
 refine au (fun b:ah×Bool=>ret (((ah.r b.1),b.2):aU×Bool)) (fun c1=>?_) (fun c1=>?_)
 ·all_goals exact fz
 ·refine au (fun b:ah×Bool=>ret (((ah.r b.1),b.2):aU×Bool)) (fun c2=>?_) (fun c2=>?_)
  ·all_goals exact fz
  ·refine ct (Z89.aj H0.2.1) ?_
   try simp only [SS]
   all_goals exact fz
def af:cy 66 aW:=W1 16 F mix aF bw (.cons Z89.af .nil) Tryz.func66
end Z119
namespace Z120
def F (x0:cV):aH:=(cond x0.jY (ret ((!x0.cq):Bool)) bh)
def md (a0:bS):Bool:=(cond a0.jY ((!a0.cq):Bool) (false:Bool))
def gd (a0:bS):Prop:=True
def R:=RR gd md
def aj {a0}(h:gd a0):R (bS.r a0)=some (md a0):=aO (a:=a0) h
def aW:=CN [.agg Aw] oB RT.dec R
def bw (a0)(hg:gd a0):F (bS.r a0)=ret (md a0):=by
 unfold F md
 try simp only [SS]
 refine au ret (fun c1=>?_) (fun _=>rfl)
 all_goals exact fz
def af:cy 67 aW:=W1 10 F mix aF bw .nil Tryz.func67
end Z120
namespace Z121
inductive Pt where
 | p0 (a:aC) (b c:Int) (d:aC) (e:Int) (f:aD) (g h i j:Int) (k:aD) (l m n:Int) (o p q:aC)
def pid:Pt->Nat
 | .p0 ..=>6
def cj:Pt->List V
 | .p0 a b c d e f g h i j k l m n o p q=>[.sl none 88 a,.int .i64 b,.cK 0 0,.cK 1 0,.int .i64 c,.sl none 9 d,.cK 1 0]
def cg:Pt->List aV
 | .p0 a b c d e f g h i j k l m n o p q=>[.box [.nil,.nil,.int .i64 e,.str f,.int .i64 g,.int .i64 h,.nil,.nil,.int .i64 i],.box [.own 2,.own 3,.int .i64 j,.str k,.int .i64 l,.int .i64 m,.nil,.own 4,.int .i64 n],.row 134 o,.row 143 p,.row 3 q]
def step (J:Pt->aH):Pt->aH
 | .p0 a b c d e f g h i j k l m n o p q=>(bZ (eP (((q.length:Int)+1)*8)) (bZ (decide ((0:Int)<(d.length:Int))) (call (Z96.R (a,c,(pR d 0))) fun v1=>(bZ (decide ((0:Int)<(d.length:Int))) (call (Z118.R ((⟨o,p⟩:bu),v1,c,(pR d 0),b)) fun v2=>(call (Z119.R v2) fun v3=>(call (Z120.R v2) fun v4=>(cond v4 (ret ((⟨v2.bW,2,(⟨k,l,m,[]⟩:aU),(q++[[L.int c]]),n⟩:cX):cX)) (cond (!v3.2) (ret ((⟨v2.bW,3,(⟨k,l,m,[]⟩:aU),(q++[[L.int c]]),n⟩:cX):cX)) (cond (v3.1.bJ==3) (call (Z44.R v3.1.bH) fun v5=>(bZ (decide ((1:Int)<=(d.length:Int))) (bZ (decide ((d.length:Int)<=(d.length:Int))) (bZ (eP (((v5.length:Int)+((List.take (toNat ((d.length:Int) - 1)) (List.drop 1 d)).length:Int))*16)) (cond (decide (n>=3)) (ret ((⟨v2.bW,5,(⟨k,l,m,[]⟩:aU),(q++[[L.int c]]),n⟩:cX):cX)) (call (Z43.R (v5++(List.take (toNat ((d.length:Int) - 1)) (List.drop 1 d)))) fun v6=>(cond (!v6) (ret ((⟨v2.bW,5,(⟨k,l,m,[]⟩:aU),(q++[[L.int c]]),n⟩:cX):cX)) (J (.p0 a b v3.1.bV (v5++(List.take (toNat ((d.length:Int) - 1)) (List.drop 1 d))) e f g h i j k l m (i64.wrap (n+1)) v2.bW.aI v2.bW.bn (q++[[L.int c]])))))))))) (cond ((d.length:Int)==1) (ret ((⟨v2.bW,1,v3.1,(q++[[L.int c]]),n⟩:cX):cX)) (cond (v3.1.bJ != 2) (ret ((⟨v2.bW,4,(⟨k,l,m,[]⟩:aU),(q++[[L.int c]]),n⟩:cX):cX)) (bZ (decide ((1:Int)<=(d.length:Int))) (bZ (decide ((d.length:Int)<=(d.length:Int))) (J (.p0 a b v3.1.bV (List.take (toNat ((d.length:Int) - 1)) (List.drop 1 d)) e f g h i j k l m n v2.bW.aI v2.bW.bn (q++[[L.int c]])))))))))))))))))
def start (J:Pt->aH)(x0:bu)(x1:aC)(x2:Int)(x3:aC)(x4:Int):aH:=(call (Z40.R x0) fun v1=>(call (Z43.R x3) fun v2=>(cond (!v2) (ret ((⟨v1,6,(⟨(⟨#[]⟩:aD),0,0,[]⟩:aU),[],0⟩:cX):cX)) (call (Z44.R x3) fun v3=>J (.p0 x1 x4 x2 v3 0 ⟨#[]⟩ 0 0 0 6 ⟨#[]⟩ 0 0 0 v1.aI v1.bn [])))))
def live:Nat->Live:=fun i=>match i with | 6=>[(1,none),(4,none),(10,none),(11,none),(12,none),(13,some 1099511627785),(11,some 7340035)] | _=>[]
def nx (l:bS)(mv:Int)(p:List aD):(Int×ah)⊕(Int×Int×List aD):=
 bif !l.jY then .inl (3,⟨⟨#[]⟩,0,0,[]⟩) else bif !l.cq then .inl (2,⟨⟨#[]⟩,0,0,[]⟩)
 else bif l.aT.bJ==3 then (cond (decide (mv>=3)) (.inl (5,⟨⟨#[]⟩,0,0,[]⟩)) (bif !Z43.md (l.aT.bH++p.tail) then .inl (5,⟨⟨#[]⟩,0,0,[]⟩) else .inr (mv+1,l.aT.bV,l.aT.bH++p.tail)))
 else bif (p.tail.length:Int)==0 then .inl (1,l.aT) else bif l.aT.bJ==2 then .inr (mv,l.aT.bV,p.tail) else .inl (4,⟨⟨#[]⟩,0,0,[]⟩)
def rs {σ:Type}(look:σ->aq->Int->aD->bS×σ):Nat->σ->aq->List Int->Int->Int->List aD->bE×σ
 | 0,c,k,zs,mv,_,_=>(⟨k,0,⟨⟨#[]⟩,0,0,[]⟩,zs,mv⟩,c)
 | n+1,c,k,zs,mv,z,p=>match nx (look c k z (p.getD 0 ⟨#[]⟩)).1 mv p with
  | .inl q=>(⟨(look c k z (p.getD 0 ⟨#[]⟩)).1.bW,q.1,q.2,zs++[z],mv⟩,(look c k z (p.getD 0 ⟨#[]⟩)).2)
  | .inr q=>rs look n (look c k z (p.getD 0 ⟨#[]⟩)).2 (look c k z (p.getD 0 ⟨#[]⟩)).1.bW (zs++[z]) q.1 q.2.1 q.2.2
def lk (s:List ay)(now:Int)(_:Unit)(k:aq)(z:Int)(l:aD):bS×Unit:=(Z118.md k (Z96.md s z l) z l now,())
def vI {σ:Type}{look:σ->aq->Int->aD->bS×σ}{n:Nat}{c:σ}{k:aq}{zs:List Int}{mv z:Int}{p:List aD}{q:Int×ah}(h:nx (look c k z (p.getD 0 ⟨#[]⟩)).1 mv p=.inl q) :
  rs look (n+1) c k zs mv z p=(⟨(look c k z (p.getD 0 ⟨#[]⟩)).1.bW,q.1,q.2,zs++[z],mv⟩,(look c k z (p.getD 0 ⟨#[]⟩)).2):=by
 show (match nx (look c k z (p.getD 0 ⟨#[]⟩)).1 mv p with | .inl q=>_ | .inr q=>_)=_
 rw [h]
def vm {σ:Type}{look:σ->aq->Int->aD->bS×σ}{n:Nat}{c:σ}{k:aq}{zs:List Int}{mv z:Int}{p:List aD}{q:Int×Int×List aD}(h:nx (look c k z (p.getD 0 ⟨#[]⟩)).1 mv p=.inr q) :
  rs look (n+1) c k zs mv z p=rs look n (look c k z (p.getD 0 ⟨#[]⟩)).2 (look c k z (p.getD 0 ⟨#[]⟩)).1.bW (zs++[z]) q.1 q.2.1 q.2.2:=by
 show (match nx (look c k z (p.getD 0 ⟨#[]⟩)).1 mv p with | .inl q=>_ | .inr q=>_)=_
 rw [h]
def wj {Pt:Type}{step:(Pt->aH)->Pt->aH}{p:Pt}{r:aH}(h:∃m,step (iter step m) p=r):∃m,iter step m p=r:=h.elim fun m h=>⟨m+1,h⟩
def md (a0:aq)(a1:List ay)(a2:Int)(a3:List aD)(a4:Int):bE:=(cond (!Z43.md a3) ⟨a0,6,⟨⟨#[]⟩,0,0,[]⟩,[],0⟩ ((rs (lk a1 a4) 17 () a0 [] 0 a2 a3).1))
def gd (a0:aq)(a1:List ay)(a2:Int)(a3:List aD)(a4:Int):Prop:=(aq.Sm (2^21) a0)/\(bM (2^21) (fun y:ay=>ay.Sm (2^21) y) a1)/\(bM (2^21) (fun y:aD=>y.size<=(2^21)) a3)
def R:=RR (p5 gd) (u5 md)
def aj {a0 a1 a2 a3 a4}(h:gd a0 a1 a2 a3 a4):R ((aq.r a0),(a1.map ay.row),a2,(a3.map cC),a4)=some (bE.r (md a0 a1 a2 a3 a4)):=aO (a:=(a0,a1,a2,a3,a4)) h
def aW:=CN [.agg tE,pL 88,pI,pL 9,pI] (.agg f60) RT.dec R
def bw (a0)(a1)(a2)(a3)(a4)(hg:gd a0 a1 a2 a3 a4):∃n,start (iter step n) (aq.r a0) (a1.map ay.row) a2 (a3.map cC) a4=ret (bE.r (md a0 a1 a2 a3 a4)):=by
 obtain ⟨H0,H1,H3⟩:=hg
 have key:∀(n:Nat) (k:aq) (zs:List Int) (mv z:Int) (p:List aD),aq.Sm (2^21) k->Z43.md p=true->0<=mv->mv<=3->(3 - mv)*4+(p.length:Int)<=n->zs.length+n<=100->
   ∃m,iter step m (Pt.p0 (a1.map ay.row) a4 z (p.map cC) 0 ⟨#[]⟩ 0 0 0 6 ⟨#[]⟩ 0 0 mv (k.aI.map (dF aa.row)) (k.bn.map az.row) (zs.map aZ))=ret (bE.r (rs (lk a1 a4) n () k zs mv z p).1):=by
  intro n
  induction n with
  | zero=>intro k zs mv z p _ hp _ _ hm _;have:=(Z43.tr hp).1;omega
  | succ n ih=>
   intro k zs mv z p hk hp h0 h3 hm hz
   obtain ⟨⟨p1,p4⟩,p8⟩:=Z43.tr hp
   obtain ⟨x,xs,rfl⟩:∃x xs,p=x::xs:=by
    cases p with
    | nil=>simp at p1
    | cons x xs=>exact ⟨x,xs,rfl⟩
   have hx:x.size<=2^21:=le_trans (p8 x (by simp)) (by decide)
   have hxs:∀y∈xs,y.size<=2^22:=fun y hy=>le_trans (p8 y (by simp [hy])) (by decide)
   have hask:=Z96.gb (a0:=a1) (a1:=z) (a2:=x) ⟨H1,hx⟩
   have hlk:=Z118.gb (a0:=k) (a1:=Z96.md a1 z x) (a2:=z) (a3:=x) (a4:=a4) ⟨hk,hask,hx⟩
   have hat:pR ((x::xs).map cC) 0=x:=rfl
   have hg0:(x::xs).getD 0 ⟨#[]⟩=x:=rfl
   have ht:List.take (toNat (((xs.length+1:Nat):Int) - 1)) (List.drop 1 ((x::xs).map cC))=xs.map cC:=by
    simp only [List.map_cons,List.drop_succ_cons,List.drop_zero]
    exact List.take_of_length_le (by simp)
   have hkn:(lk a1 a4 () k z ((x::xs).getD 0 ⟨#[]⟩)).1=Z118.md k (Z96.md a1 z x) z x a4:=rfl
   simp only [List.length_cons] at p4 hm
   refine wj ?_
   simp only [step,hat,List.length_map,List.length_cons,ht]
   refine dH lm ?_
   refine dH dt ?_
   refine cx (Z96.aj (a0:=a1) ⟨H1,hx⟩) ?_
   refine dH dt ?_
   refine cx (Z118.aj (a0:=k) (a1:=Z96.md a1 z x) ⟨hk,hask,hx⟩) ?_
   have hcase:∀q,nx (Z118.md k (Z96.md a1 z x) z x a4) mv (x::xs)=.inl q->rs (lk a1 a4) (n+1) () k zs mv z (x::xs)=(⟨(Z118.md k (Z96.md a1 z x) z x a4).bW,q.1,q.2,zs++[z],mv⟩,()):=fun q hq=>vI hq
   have hcase2:∀q,nx (Z118.md k (Z96.md a1 z x) z x a4) mv (x::xs)=.inr q->rs (lk a1 a4) (n+1) () k zs mv z (x::xs)=rs (lk a1 a4) n () (Z118.md k (Z96.md a1 z x) z x a4).bW (zs++[z]) q.1 q.2.1 q.2.2:=fun q hq=>vm hq
   revert hcase hcase2 hlk
   generalize Z118.md k (Z96.md a1 z x) z x a4=l
   intro hlk hcase hcase2
   refine cx (Z119.aj (a0:=l) hlk) ?_
   refine cx (Z120.aj (a0:=l) trivial) ?_
   obtain ⟨lk0,lf,le,ld,lc⟩:=l
   unfold nx at hcase hcase2
   unfold Z120.md Z119.md
   cases ld
   ·exact ⟨0,by rw [hcase _ rfl];exact fz⟩
   cases lf
   ·exact ⟨0,by rw [hcase _ rfl];exact fz⟩
   simp only [Bool.not_true,bq,bg,List.tail_cons] at hcase hcase2 ⊢
   have hpl:bM (2^21) (fun y:aD=>y.size<=(2^21)) le.bH:=hlk.2.1.2
   have hpl1:le.bH.length<=2^21:=hpl.1
   have hzz:zs.map aZ++[[L.int z]]=(zs++[z]).map aZ:=by simp [aZ]
   try simp only [SS]
   cases hk3:(le.bJ==3)
   ·simp only [hk3,bq] at hcase hcase2 ⊢
    by_cases hx0:xs.length=0
    ·have e0:((xs.length:Int)==0)=true:=by simp [hx0]
     rw [e0] at hcase
     exact ⟨0,by rw [hcase _ rfl];exact ak (beq_iff_eq.2 (by omega)) fz⟩
    ·have e0:((xs.length:Int)==0)=false:=by simpa using hx0
     rw [e0] at hcase hcase2
     refine dx (beq_eq_false_iff_ne.2 (by omega)) ?_
     cases hk2:(le.bJ==2)
     ·simp only [hk2,bq] at hcase
      exact ⟨0,by rw [hcase _ rfl];exact ak (by simpa using hk2) fz⟩
     ·simp only [hk2,bq,bg] at hcase2
      refine dx (by simpa using hk2) (dH dt (dH dt ?_))
      have hip:Z43.md xs=true:=Z43.tl hp hx0
      rw [hcase2 _ rfl,hzz]
      exact ih lk0 (zs++[z]) mv le.bV xs hlk.1 hip h0 h3 (by omega) (by simp;omega)
   ·simp only [hk3,bg] at hcase hcase2 ⊢
    refine cx (Z44.aj (a0:=le.bH) hpl) ?_
    refine dH dt (dH dt (dH (by have :(le.bH.map cC).length=le.bH.length:=List.length_map ..;have :(xs.map cC).length=xs.length:=List.length_map ..;exact iy (by omega)) ?_))
    by_cases hmv:mv>=3
    ·rw [decide_eq_true hmv] at hcase ⊢
     exact ⟨0,by rw [hcase _ rfl];exact fz⟩
    ·rw [decide_eq_false hmv] at hcase hcase2 ⊢
     simp only [bq] at hcase hcase2 ⊢
     have e:le.bH.map cC++xs.map cC=(le.bH++xs).map cC:=by simp
     rw [e]
     refine cx (Z43.aj (a0:=le.bH++xs) ⟨by rw [List.length_append];omega,fun y hy=>(List.mem_append.1 hy).elim (fun h=>le_trans (hpl.2 y h) (by decide)) (hxs y)⟩) ?_
     cases hip:Z43.md (le.bH++xs)
     ·rw [hip] at hcase
      exact ⟨0,by rw [hcase _ rfl];exact fz⟩
     ·rw [hip] at hcase2
      have ht:=Z43.tr hip
      rw [hcase2 _ rfl,hzz,wi _ (by omega)]
      exact ih lk0 (zs++[z]) (mv+1) le.bV (le.bH++xs) hlk.1 hip (by omega) (by omega) (by omega) (by simp;omega)
 unfold start md
 refine cx (Z40.aj (a0:=a0) H0) ?_
 refine cx (Z43.aj (a0:=a3) (bM.mono H3 (by decide) (fun y hy=>le_trans hy (by decide)))) ?_
 cases hp:Z43.md a3
 ·exact ⟨0,rfl⟩
 ·simp only [Bool.not_true,bq]
  refine cx (Z44.aj (a0:=a3) H3) ?_
  exact key 17 a0 [] 0 a2 a3 H0 hp (by decide) (by decide) (by have:=(Z43.tr hp).1;omega) (by simp)
def af:cy 28 aW:=L5 109 pid cj cg live step start mix aF bw (.cons Z40.af (.cons Z43.af (.cons Z44.af (.cons Z96.af (.cons Z118.af (.cons Z119.af (.cons Z120.af .nil))))))) Tryz.func28
def zX {σ:Type}{look:σ->aq->Int->aD->bS×σ}{A B:Nat}(I:σ->Prop)(hI:∀c k z s,I c->I (look c k z s).2)(hl:∀c k z s,I c->Z102.Cz (look c k z s).1.bW.aI<=Z102.Cz k.aI+A/\Z102.Fz (look c k z s).1.bW.bn<=Z102.Fz k.bn+4*(2*(Z102.Cz k.aI+A)+A)/\ah.size (look c k z s).1.aT<=A) :
  ∀(n:Nat) (c:σ) (k:aq) (zs:List Int) (mv z:Int) (p:List aD),I c->Z102.Cz k.aI+n*A<=B->
   Z102.Cz (rs look n c k zs mv z p).1.bW.aI<=B/\Z102.Fz (rs look n c k zs mv z p).1.bW.bn<=Z102.Fz k.bn+n*(8*B+12*A)/\ah.size (rs look n c k zs mv z p).1.aT<=A/\(rs look n c k zs mv z p).1.bG.length<=zs.length+n/\I (rs look n c k zs mv z p).2
 | 0,c,k,zs,mv,z,p,hi,hb=>⟨by show Z102.Cz k.aI<=B;omega,Nat.le_add_right _ _,zero_le _,Nat.le_refl _,hi⟩
 | n+1,c,k,zs,mv,z,p,hi,hb=>by
  obtain ⟨h1,h2,h3⟩:=hl c k z (p.getD 0 ⟨#[]⟩) hi
  have hi2:=hI c k z (p.getD 0 ⟨#[]⟩) hi
  rw [Nat.succ_mul] at hb
  cases hn:nx (look c k z (p.getD 0 ⟨#[]⟩)).1 mv p with
  | inl q=>
   rw [vI hn]
   have hq:ah.size q.2<=A:=by
    have e0:ah.size ⟨⟨#[]⟩,0,0,[]⟩=0:=rfl
    unfold nx at hn
    simp only [Bool.cond_eq_ite] at hn
    revert hn
    repeat' split
    all_goals (intro hn;first | (cases hn;done) | (injection hn with hn;subst hn;first | exact h3 | exact zero_le _))
   refine ⟨by simp only;omega,?_,hq,by simp,hi2⟩
   simp only
   rw [Nat.succ_mul]
   omega
  | inr q=>
   rw [vm hn]
   obtain ⟨g1,g2,g3,g4,g5⟩:=zX (A:=A) (B:=B) I hI hl n (look c k z (p.getD 0 ⟨#[]⟩)).2 (look c k z (p.getD 0 ⟨#[]⟩)).1.bW (zs++[z]) q.1 q.2.1 q.2.2 hi2 (by omega)
   rw [List.length_append,List.length_cons,List.length_nil] at g4
   refine ⟨g1,?_,g3,by omega,g5⟩
   rw [Nat.succ_mul]
   omega
def A4 (s:List ay)(now:Int)(k:aq)(z:Int)(l:aD){A:Nat}(hA:6*dP (fun y:ay=>ay.size y) s<=A) :
  Z102.Cz (lk s now () k z l).1.bW.aI<=Z102.Cz k.aI+A/\Z102.Fz (lk s now () k z l).1.bW.bn<=Z102.Fz k.bn+4*(2*(Z102.Cz k.aI+A)+A)/\ah.size (lk s now () k z l).1.aT<=A:=by
 have hg:=Z118.grow z l now (Z96.md s z l) (k.aI,k.bn,[])
 rw [<-Z118.qH] at hg
 obtain ⟨g1,g2,_,g4⟩:=hg
 have h1:=Z96.sz s z l
 have h2:=Z96.BG s z l
 simp only at g1 g2
 have h3:=Nat.mul_le_mul_right (2*(Z102.Cz k.aI+dP (fun y:av=>av.size y) (Z96.md s z l))+dP (fun y:av=>av.size y) (Z96.md s z l)) h2
 unfold lk
 refine ⟨by simp only;omega,by simp only;omega,by simp only;omega⟩
def sz (a0:aq)(a1:List ay)(a2:Int)(a3:List aD)(a4:Int)(h0:aq.size a0<=2^20)(h1:dP (fun y:ay=>ay.size y) a1<=2^20):bE.size (md a0 a1 a2 a3 a4)<=2^40:=by
 have hk:aq.size a0=Z102.Cz a0.aI+Z102.Fz a0.bn:=rfl
 unfold md
 cases Z43.md a3
 ·show bE.size ⟨a0,6,⟨⟨#[]⟩,0,0,[]⟩,[],0⟩<=_
  have :bE.size ⟨a0,6,⟨⟨#[]⟩,0,0,[]⟩,[],0⟩=aq.size a0:=rfl
  omega
 ·simp only [Bool.not_true,bq]
  obtain ⟨g1,g2,g3,g4,_⟩:=zX (look:=lk a1 a4) (A:=6*2^20) (B:=2^20+17*(6*2^20)) (fun _=>True) (fun _ _ _ _ _=>trivial) (fun _ k z s _=>A4 a1 a4 k z s (by omega)) 17 () a0 [] 0 a2 a3 trivial (by omega)
  have hd:∀t:bE,bE.size t=Z102.Cz t.bW.aI+Z102.Fz t.bW.bn+ah.size t.aT+t.bG.length:=by
   intro t
   unfold bE.size aq.size Z102.Cz Z102.Fz
   rw [qE]
  rw [hd]
  simp only [List.length_nil] at g4
  omega
end Z121
namespace Z122
def F (x0:aC):aH:=(cond x0.isEmpty (either (ret ([]:aC)) ((bZ (eP ((x0.length:Int)*8)) (ret (x0:aC))))) (bZ (eP ((x0.length:Int)*8)) (ret (x0:aC))))
def md (a0:List Int):List Int:=a0
def gd (a0:List Int):Prop:=bM (2^38) (fun y:Int=>True) a0
def R:=RR gd md
def aj {a0}(h:gd a0):R (a0.map aZ)=some (a0.map aZ):=aO (a:=a0) h
def aW:=CN [pL 3] (oL 3) RT.dec R
def bw (a0)(hg:gd a0):F (a0.map aZ)=ret ((md a0).map aZ):=by
 have H0:=hg.1
 unfold F md
 have hl:eP (((a0.map aZ).length:Int)*8)=true:=iy (by simp only [List.length_map];omega)
 simp only [hl,bg]
 cases a0 with
 | nil=>exact kW
 | cons x xs=>rfl
def af:cy 225 aW:=W1 8 F mix aF bw .nil Tryz.func225
end Z122
namespace Z123
def F (x0:bB):aH:=(call (Z122.R x0.aX) fun v1=>ret ((⟨v1,x0.cz⟩:bB):bB))
def md (a0:aM):aM:=a0
def gd (a0:aM):Prop:=(aM.Sm (2^21) a0)
def R:=RR gd md
def aj {a0}(h:gd a0):R (aM.r a0)=some (aM.r a0):=aO (a:=a0) h
def aW:=CN [.agg iP] (.agg f136) RT.dec R
def bw (a0)(hg:gd a0):F (aM.r a0)=ret (aM.r (md a0)):=by
 unfold gd at hg
 have H0:=hg
 unfold F md
 try simp only [SS]
 refine ct (Z122.aj (H0.mono (by decide) (fun x hx=>trivial))) ?_
 try simp only [SS]
 all_goals exact fz
def af:cy 184 aW:=W1 9 F mix aF bw (.cons Z122.af .nil) Tryz.func184
end Z123
namespace Z124
def F (x0:bX):aH:=(call (Z123.R x0.bO) fun v1=>(call (Z123.R x0.bA) fun v2=>(call (Z123.R x0.bt) fun v3=>ret ((⟨x0.bD,x0.cD,x0.bJ,x0.cA,x0.cu,x0.ck,x0.cQ,x0.dw,v1,v2,x0.cT,v3,x0.bC⟩:bX):bX))))
def md (a0:aE):aE:=a0
def gd (a0:aE):Prop:=(aE.Sm (2^21) a0)
def R:=RR gd md
def aj {a0}(h:gd a0):R (aE.r a0)=some (aE.r a0):=aO (a:=a0) h
def aW:=CN [.agg fU] (.agg f138) RT.dec R
def bw (a0)(hg:gd a0):F (aE.r a0)=ret (aE.r (md a0)):=by
 unfold gd at hg
 have H0:=hg
 unfold F md
 try simp only [SS]
 refine ct (Z123.aj H0.1) ?_
 try simp only [SS]
 refine ct (Z123.aj H0.2.1) ?_
 try simp only [SS]
 refine ct (Z123.aj H0.2.2) ?_
 try simp only [SS]
 all_goals exact fz
def af:cy 148 aW:=W1 16 F mix aF bw (.cons Z123.af .nil) Tryz.func148
end Z124
namespace Z125
def F (x0:aC):aH:=(cond x0.isEmpty (either (ret ([]:aC)) ((bZ (eP ((x0.length:Int)*16)) (ret (x0:aC))))) (bZ (eP ((x0.length:Int)*16)) (ret (x0:aC))))
def md (a0:List bk):List bk:=a0
def gd (a0:List bk):Prop:=bM (2^21) (fun y:bk=>bk.Sm (2^21) y) a0
def R:=RR gd md
def aj {a0}(h:gd a0):R (a0.map bk.row)=some (a0.map bk.row):=aO (a:=a0) h
def aW:=CN [pL 190] (oL 190) RT.dec R
def bw (a0)(hg:gd a0):F (a0.map bk.row)=ret ((md a0).map bk.row):=by
 have H0:=hg.1
 unfold F md
 have hl:eP (((a0.map bk.row).length:Int)*16)=true:=iy (by simp only [List.length_map];omega)
 simp only [hl,bg]
 cases a0 with
 | nil=>exact kW
 | cons x xs=>rfl
def af:cy 149 aW:=W1 8 F mix aF bw .nil Tryz.func149
end Z125
namespace Z126
def F (x0:aP):aH:=(call (Z124.R x0.an) fun v1=>(call (Z125.R x0.bY) fun v2=>ret ((⟨v1,v2⟩:aP):aP)))
def md (a0:aa):aa:=a0
def gd (a0:aa):Prop:=(aa.Sm (2^21) a0)
def R:=RR gd md
def aj {a0}(h:gd a0):R (aa.r a0)=some (aa.r a0):=aO (a:=a0) h
def aW:=CN [.agg kD] (.agg f141) RT.dec R
def bw (a0)(hg:gd a0):F (aa.r a0)=ret (aa.r (md a0)):=by
 unfold gd at hg
 have H0:=hg
 unfold F md
 try simp only [SS]
 refine ct (Z124.aj H0.1) ?_
 try simp only [SS]
 refine ct (Z125.aj H0.2) ?_
 try simp only [SS]
 all_goals exact fz
def af:cy 118 aW:=W1 10 F mix aF bw (.cons Z124.af (.cons Z125.af .nil)) Tryz.func118
end Z126
namespace Z127
inductive Pt where
 | p0 (a:aC) (b c:Int) (d:aC)
def pid:Pt->Nat
 | .p0 ..=>3
def cj:Pt->List V
 | .p0 a b c d=>[.own 0,.sl none 141 a,.int .i64 b,.int .i64 c]
def cg:Pt->List aV
 | .p0 a b c d=>[.row 141 d]
def step (J:Pt->aH):Pt->aH
 | .p0 a b c d=>(cond (decide (c<b)) (m2 c (a.length:Int) (call (Z126.R (aP.at a (toNat c))) fun v1=>(bZ (eP (((d.length:Int)+1)*200)) (J (.p0 a b (i64.wrap (c+1)) (d++[(aP.enc v1)])))))) (ret (d:aC)))
def start (J:Pt->aH)(x0:aC):aH:=J (.p0 x0 (x0.length:Int) 0 [])
def live:Nat->Live:=fun i=>match i with | 3=>[(3,some 141),(7,none),(8,none),(9,none)] | _=>[]
def md (a0:List aa):List aa:=a0
def gd (a0:List aa):Prop:=(bM (2^21) (fun y:aa=>aa.Sm (2^21) y) a0)
def R:=RR gd md
def aj {a0}(h:gd a0):R (a0.map aa.row)=some (a0.map aa.row):=aO (a:=a0) h
def aW:=CN [pL 141] (oL 141) RT.dec R
def bw (a0)(hg:gd a0):∃n,start (iter step n) (a0.map aa.row)=ret ((md a0).map aa.row):=by
 unfold gd at hg
 have H0:=hg
 unfold start md
 try simp only [SS]
 have Bh2:a0.length<=maxLen:=(by
   have:=(H0).1
   try simp only [maxLen] at *
   omega)
 refine ex_eq (out:=(fun b:List aa=>ret ((b.map aa.row):aC))) (hO (xs:=a0) (z:=aa.zero) (t:=fun s3:List aa=>s3)) ?_
 refine dM (p:=Pt.p0 (a0.map aa.row) (a0.length:Int) 0 ([].map aa.row)) fz ?_
 refine cm (pt:=fun (i1:Nat) (s3:List aa)=>Pt.p0 (a0.map aa.row) (a0.length:Int) (i1:Int) (s3.map aa.row)) (s:=([]:List aa)) (out:=(fun b:List aa=>ret ((b.map aa.row):aC))) (fun (i1:Nat) (s3:List aa)=>s3.length<=([]:List Int).length+1*i1) (fun J i1 s3 h2 hih2=>?_) (fun s3 hih2=>?_) (by simp)
 ·simp only [step,SS]
  have gr_:=hih2
  try simp only [LN] at gr_
  have bb_:=Bh2
  simp only [maxLen] at bb_
  have:=(H0).1
  refine bz.yes (by apply decide_eq_true;omega) ?_
  refine bz.yes aJ ?_
  refine bz.yes (aN h2) ?_
  refine cr (Z126.aj (bM.getD (z:=aa.zero) H0 h2)) ?_
  try simp only [SS]
  refine bz.yes lm ?_
  refine bz.inl (by
    have g_:=hih2
    try simp only [LN] at g_ ⊢
    first | omega | (simp;done) | (simp;omega)) ?_
  rw [aG h2 Bh2]
  all_goals exact fz
 ·simp only [step,SS]
  have gr_:=hih2
  try simp only [LN] at gr_
  have:=(H0).1
  refine dx (by apply decide_eq_false;omega) ?_
  refine ⟨0,?_⟩
  all_goals exact fz
def af:cy 89 aW:=L1 20 pid cj cg live step start mix aF bw (.cons Z126.af .nil) Tryz.func89
end Z127
namespace Z128
def F (x0:bF):aH:=(call (Z126.R x0.aQ) fun v1=>(call (Z126.R x0.fA) fun v2=>(call (Z126.R x0.fB) fun v3=>ret ((⟨v1,v2,v3⟩:bF):bF))))
def md (a0:az):az:=a0
def gd (a0:az):Prop:=(az.Sm (2^21) a0)
def R:=RR gd md
def aj {a0}(h:gd a0):R (az.r a0)=some (az.r a0):=aO (a:=a0) h
def aW:=CN [.agg sS] (.agg f143) RT.dec R
def bw (a0)(hg:gd a0):F (az.r a0)=ret (az.r (md a0)):=by
 unfold gd at hg
 have H0:=hg
 unfold F md
 try simp only [SS]
 refine ct (Z126.aj H0.1) ?_
 try simp only [SS]
 refine ct (Z126.aj H0.2.1) ?_
 try simp only [SS]
 refine ct (Z126.aj H0.2.2) ?_
 try simp only [SS]
 all_goals exact fz
def af:cy 90 aW:=W1 13 F mix aF bw (.cons Z126.af .nil) Tryz.func90
end Z128
namespace Z129
inductive Pt where
 | p0 (a:aC) (b c:Int) (d:bu) (e:aC)
 | p1 (a:aC) (b c:Int) (d e:aC)
def pid:Pt->Nat
 | .p0 ..=>3
 | .p1 ..=>8
def cj:Pt->List V
 | .p0 a b c d e=>[.cK 0 0,.cK 1 0,.cK 2 0,.sl none 134 a,.int .i64 b,.int .i64 c,.cK 2 0]
 | .p1 a b c d e=>[.cK 0 0,.cK 1 0,.sl none 143 a,.int .i64 b,.int .i64 c,.cK 1 0,.cK 1 0]
def cg:Pt->List aV
 | .p0 a b c d e=>[.box [.sl none 134 d.aI,.sl none 143 d.bn],.box [.nil,.nil],.box [.own 3,.nil],.row 134 e]
 | .p1 a b c d e=>[.box [.nil,.nil],.box [.own 2,.own 3],.row 134 d,.row 143 e]
def step (J:Pt->aH):Pt->aH
 | .p0 a b c d e=>(cond (decide (c<b)) (m2 c (a.length:Int) (call (Z127.R (oy a (toNat c))) fun v1=>(bZ (eP (((e.length:Int)+1)*24)) (J (.p0 a b (i64.wrap (c+1)) d (e++[[L.sl v1]])))))) (J (.p1 d.bn (d.bn.length:Int) 0 e [])))
 | .p1 a b c d e=>(cond (decide (c<b)) (m2 c (a.length:Int) (call (Z128.R (bF.at a (toNat c))) fun v1=>(bZ (eP (((e.length:Int)+1)*600)) (J (.p1 a b (i64.wrap (c+1)) d (e++[(bF.enc v1)])))))) (ret ((⟨d,e⟩:bu):bu)))
def start (J:Pt->aH)(x0:bu):aH:=J (.p0 x0.aI (x0.aI.length:Int) 0 x0 [])
def live:Nat->Live:=fun i=>match i with | 3=>[(1,none),(2,none),(3,none),(10,none),(11,none),(12,none),(3,some 134)] | 8=>[(2,none),(3,none),(25,none),(26,none),(27,none),(3,some 134),(3,some 1048719)] | _=>[]
def md (a0:aq):aq:=a0
def gd (a0:aq):Prop:=(aq.Sm (2^21) a0)
def R:=RR gd md
def aj {a0}(h:gd a0):R (aq.r a0)=some (aq.r a0):=aO (a:=a0) h
def aW:=CN [.agg tE] (.agg f37) RT.dec R
def bw (a0)(hg:gd a0):∃n,start (iter step n) (aq.r a0)=ret (aq.r (md a0)):=by
 unfold gd at hg
 have H0:=hg
 unfold start md
 try simp only [SS]
 have Bh2:a0.aI.length<=maxLen:=(by
   have:=(H0.1).1
   try simp only [maxLen] at *
   omega)
 refine ex_eq (out:=(fun b:aq=>ret ((aq.r b):bu))) (hO (xs:=a0.aI) (z:=[]) (t:=fun s3:List (List aa)=>(⟨s3,a0.bn⟩:aq))) ?_
 refine dM (p:=Pt.p0 (a0.aI.map (dF aa.row)) (a0.aI.length:Int) 0 (aq.r a0) ([].map (dF aa.row))) fz ?_
 refine cm (pt:=fun (i1:Nat) (s3:List (List aa))=>Pt.p0 (a0.aI.map (dF aa.row)) (a0.aI.length:Int) (i1:Int) (aq.r a0) (s3.map (dF aa.row))) (s:=([]:List (List aa))) (out:=(fun b:aq=>ret ((aq.r b):bu))) (fun (i1:Nat) (s3:List (List aa))=>s3.length<=([]:List Int).length+1*i1) (fun J i1 s3 h2 hih2=>?_) (fun s3 hih2=>?_) (by simp)
 ·simp only [step,SS]
  have gr_:=hih2
  try simp only [LN] at gr_
  have bb_:=Bh2
  simp only [maxLen] at bb_
  have:=(H0.1).1
  refine bz.yes (by apply decide_eq_true;omega) ?_
  refine bz.yes aJ ?_
  refine bz.yes (aN h2) ?_
  refine cr (Z127.aj (bM.getD (z:=[]) H0.1 h2)) ?_
  try simp only [SS]
  refine bz.yes lm ?_
  refine bz.inl (by
    have g_:=hih2
    try simp only [LN] at g_ ⊢
    first | omega | (simp;done) | (simp;omega)) ?_
  rw [aG h2 Bh2]
  all_goals exact fz
 ·simp only [step,SS]
  have gr_:=hih2
  try simp only [LN] at gr_
  have:=(H0.1).1
  refine dx (by apply decide_eq_false;omega) ?_
  have Bh5:a0.bn.length<=maxLen:=(by
    have:=(H0.2).1
    try simp only [maxLen] at *
    omega)
  refine ex_eq (out:=(fun b:aq=>ret ((aq.r b):bu))) (hO (xs:=a0.bn) (z:=az.zero) (t:=fun s6:List az=>(⟨s3,s6⟩:aq))) ?_
  refine dM (p:=Pt.p1 (a0.bn.map az.row) (a0.bn.length:Int) 0 (s3.map (dF aa.row)) ([].map az.row)) fz ?_
  refine cm (pt:=fun (i4:Nat) (s6:List az)=>Pt.p1 (a0.bn.map az.row) (a0.bn.length:Int) (i4:Int) (s3.map (dF aa.row)) (s6.map az.row)) (s:=([]:List az)) (out:=(fun b:aq=>ret ((aq.r b):bu))) (fun (i4:Nat) (s6:List az)=>s6.length<=([]:List Int).length+1*i4) (fun J i4 s6 h5 hih5=>?_) (fun s6 hih5=>?_) (by simp)
  ·simp only [step,SS]
   have gr_:=hih5
   try simp only [LN] at gr_
   have bb_:=Bh5
   simp only [maxLen] at bb_
   have:=(H0.2).1
   refine bz.yes (by apply decide_eq_true;omega) ?_
   refine bz.yes aJ ?_
   refine bz.yes (aN h5) ?_
   refine cr (Z128.aj (bM.getD (z:=az.zero) H0.2 h5)) ?_
   try simp only [SS]
   refine bz.yes lm ?_
   refine bz.inl (by
     have g_:=hih5
     try simp only [LN] at g_ ⊢
     first | omega | (simp;done) | (simp;omega)) ?_
   rw [aG h5 Bh5]
   all_goals exact fz
  ·simp only [step,SS]
   have gr_:=hih5
   try simp only [LN] at gr_
   have:=(H0.2).1
   refine dx (by apply decide_eq_false;omega) ?_
   refine ⟨0,?_⟩
   all_goals exact fz
def af:cy 48 aW:=L1 40 pid cj cg live step start mix aF bw (.cons Z127.af (.cons Z128.af .nil)) Tryz.func48
end Z129
namespace Z130
def F (x0 x1 x2:Int):aH:=(cond (decide (x1<=x0)) (ret ((decide (x0<=x2)):Bool)) bh)
def md (a0 a1 a2:Int):Bool:=(cond (decide (a1<=a0)) ((decide (a0<=a2)):Bool) (false:Bool))
def gd (a0 a1 a2:Int):Prop:=True
def R:=RR (p3 gd) (u3 md)
def aj {a0 a1 a2}(h:gd a0 a1 a2):R (a0,a1,a2)=some (md a0 a1 a2):=aO (a:=(a0,a1,a2)) h
def aW:=CN [pI,pI,pI] oB RT.dec R
def bw (a0)(a1)(a2)(hg:gd a0 a1 a2):F a0 a1 a2=ret (md a0 a1 a2):=by
 unfold F md
 try simp only [SS]
 refine au ret (fun c1=>?_) (fun _=>rfl)
 all_goals exact fz
def af:cy 131 aW:=W3 15 F mix aF bw .nil Tryz.func131
def br (a0 a1 a2:Int):md a0 a1 a2=Z41.md a0 a1 a2:=by
 unfold md Z41.md
 first | rfl | (rw [Bool.eq_iff_iff];simp)
end Z130
namespace Z131
inductive Pt where
 | p0 (a:aD) (b c:Int)
def pid:Pt->Nat
 | .p0 ..=>2
def cj:Pt->List V
 | .p0 a b c=>[.str a,.int .i64 b,.int .i64 c]
def cg:Pt->List aV
 | .p0 a b c=>[]
def step (J:Pt->aH):Pt->aH
 | .p0 a b c=>(cond (decide (c<b)) (m2 c (a.size:Int) (cond (decide ((dW a (toNat c))>=97)) (cond (decide ((dW a (toNat c))<=122)) (J (.p0 a b (i64.wrap (c+1)))) (cond (decide ((dW a (toNat c))>=48)) (cond (decide ((dW a (toNat c))<=57)) (J (.p0 a b (i64.wrap (c+1)))) (cond ((dW a (toNat c))==45) (cond (decide (c>0)) (cond (!(decide (c<(i64.wrap ((a.size:Int) - 1))))) bh (J (.p0 a b (i64.wrap (c+1))))) bh) bh)) (cond ((dW a (toNat c))==45) (cond (decide (c>0)) (cond (!(decide (c<(i64.wrap ((a.size:Int) - 1))))) bh (J (.p0 a b (i64.wrap (c+1))))) bh) bh))) (cond (decide ((dW a (toNat c))>=48)) (cond (decide ((dW a (toNat c))<=57)) (J (.p0 a b (i64.wrap (c+1)))) (cond ((dW a (toNat c))==45) (cond (decide (c>0)) (cond (!(decide (c<(i64.wrap ((a.size:Int) - 1))))) bh (J (.p0 a b (i64.wrap (c+1))))) bh) bh)) (cond ((dW a (toNat c))==45) (cond (decide (c>0)) (cond (!(decide (c<(i64.wrap ((a.size:Int) - 1))))) bh (J (.p0 a b (i64.wrap (c+1))))) bh) bh)))) (call (Z130.R ((a.size:Int),1,8)) fun v1=>ret (v1:Bool)))
def start (J:Pt->aH)(x0:aD):aH:=J (.p0 x0 (x0.size:Int) 0)
def live:Nat->Live:=fun i=>match i with | 2=>[(0,none),(6,none),(7,none)] | _=>[]
def md (a0:aD):Bool:=(ec (S:=Unit) (β:=Bool) (fun (i1:Nat) (s3:Unit)=>(cond (decide ((dW a0 i1)>=97)) (cond (decide ((dW a0 i1)<=122)) (.inl ()) (cond (decide ((dW a0 i1)>=48)) (cond (decide ((dW a0 i1)<=57)) (.inl ()) (cond ((dW a0 i1)==45) (cond (decide ((i1:Int)>0)) (cond (!(decide ((i1:Int)<(i64.wrap ((a0.size:Int) - 1))))) (.inr (false:Bool)) (.inl ())) (.inr (false:Bool))) (.inr (false:Bool)))) (cond ((dW a0 i1)==45) (cond (decide ((i1:Int)>0)) (cond (!(decide ((i1:Int)<(i64.wrap ((a0.size:Int) - 1))))) (.inr (false:Bool)) (.inl ())) (.inr (false:Bool))) (.inr (false:Bool))))) (cond (decide ((dW a0 i1)>=48)) (cond (decide ((dW a0 i1)<=57)) (.inl ()) (cond ((dW a0 i1)==45) (cond (decide ((i1:Int)>0)) (cond (!(decide ((i1:Int)<(i64.wrap ((a0.size:Int) - 1))))) (.inr (false:Bool)) (.inl ())) (.inr (false:Bool))) (.inr (false:Bool)))) (cond ((dW a0 i1)==45) (cond (decide ((i1:Int)>0)) (cond (!(decide ((i1:Int)<(i64.wrap ((a0.size:Int) - 1))))) (.inr (false:Bool)) (.inl ())) (.inr (false:Bool))) (.inr (false:Bool)))))) (fun (s3:Unit)=>((Z130.md (a0.size:Int) 1 8):Bool)) a0.size 0 ())
def gd (a0:aD):Prop:=(a0.size<=(2^22))
def R:=RR gd md
def aj {a0}(h:gd a0):R a0=some (md a0):=aO (a:=a0) h
def aW:=CN [pS] oB RT.dec R
def bw (a0)(hg:gd a0):∃n,start (iter step n) a0=ret (md a0):=by
 unfold gd at hg
 have H0:=hg
 unfold start md
 try simp only [SS]
 have Bh2:a0.size<=maxLen:=(by
   have:=H0
   try simp only [maxLen] at *
   omega)
 refine dM (p:=Pt.p0 a0 (a0.size:Int) 0) fz ?_
 refine cm (pt:=fun (i1:Nat) (s3:Unit)=>Pt.p0 a0 (a0.size:Int) (i1:Int)) (s:=(():Unit)) (out:=ret) (fun _ _=>True) (fun J i1 s3 h2 hih2=>?_) (fun s3 hih2=>?_) trivial
 ·simp only [step,SS]
  have bb_:=Bh2
  simp only [maxLen] at bb_
  have:=H0
  refine bz.yes (by apply decide_eq_true;omega) ?_
  refine bz.yes aJ ?_
  refine bz.yes (aN h2) ?_
  refine bz.bif (fun c4=>?_) (fun c4=>?_)
  ·refine bz.bif (fun c5=>?_) (fun c5=>?_)
   ·refine bz.inl trivial ?_
    rw [aG h2 Bh2]
    all_goals exact fz
   ·refine bz.bif (fun c6=>?_) (fun c6=>?_)
    ·refine bz.bif (fun c7=>?_) (fun c7=>?_)
     ·refine bz.inl trivial ?_
      rw [aG h2 Bh2]
      all_goals exact fz
     ·refine bz.bif (fun c8=>?_) (fun _=>bz.inr rfl)
      refine bz.bif (fun c9=>?_) (fun _=>bz.inr rfl)
      refine bz.bif (fun _=>bz.inr rfl) (fun c10=>?_)
      refine bz.inl trivial ?_
      rw [aG h2 Bh2]
      all_goals exact fz
    ·refine bz.bif (fun c11=>?_) (fun _=>bz.inr rfl)
     refine bz.bif (fun c12=>?_) (fun _=>bz.inr rfl)
     refine bz.bif (fun _=>bz.inr rfl) (fun c13=>?_)
     refine bz.inl trivial ?_
     rw [aG h2 Bh2]
     all_goals exact fz
  ·refine bz.bif (fun c14=>?_) (fun c14=>?_)
   ·refine bz.bif (fun c15=>?_) (fun c15=>?_)
    ·refine bz.inl trivial ?_
     rw [aG h2 Bh2]
     all_goals exact fz
    ·refine bz.bif (fun c16=>?_) (fun _=>bz.inr rfl)
     refine bz.bif (fun c17=>?_) (fun _=>bz.inr rfl)
     refine bz.bif (fun _=>bz.inr rfl) (fun c18=>?_)
     refine bz.inl trivial ?_
     rw [aG h2 Bh2]
     all_goals exact fz
   ·refine bz.bif (fun c19=>?_) (fun _=>bz.inr rfl)
    refine bz.bif (fun c20=>?_) (fun _=>bz.inr rfl)
    refine bz.bif (fun _=>bz.inr rfl) (fun c21=>?_)
    refine bz.inl trivial ?_
    rw [aG h2 Bh2]
    all_goals exact fz
 ·simp only [step,SS]
  have:=H0
  refine dx (by apply decide_eq_false;omega) ?_
  refine cx (Z130.aj trivial) ?_
  refine ⟨0,?_⟩
  all_goals exact fz
def af:cy 134 aW:=L1 47 pid cj cg live step start mix aF bw (.cons Z130.af .nil) Tryz.func134
def br (a0:aD):md a0=Z42.md a0:=by
 unfold md Z42.md
 by_cases hl:1<=a0.size/\a0.size<=8
 ·have e1:Z41.md (a0.size:Int) 1 8=true:=by simp [Z41.md];omega
  simp only [Z130.br,e1]
  have ew:i64.wrap ((a0.size:Int) - 1)=((a0.size - 1:Nat):Int):=by
   rw [Go.IntWalk.i64_in _ (by omega)];omega
  simp only [ew,cE]
  rw [Bool.eq_iff_iff]
  rw [jl (fun i=>(97<=dW a0 i/\dW a0 i<=122)∨(48<=dW a0 i/\dW a0 i<=57)∨(dW a0 i=45/\0<i/\i<a0.size - 1)) (fun i hi h=>by simp;grind) (fun i hi h=>by simp;grind)]
  have e2:=jl (n:=a0.size) (f:=fun (i4:Nat) (s6:Unit)=>(cond (decide ((dW a0 i4)<97)) (cond (decide ((dW a0 i4)<48)) (cond ((dW a0 i4) != 45) (.inr (false:Bool)) (.inl ())) (cond (decide ((dW a0 i4)>57)) (cond ((dW a0 i4) != 45) (.inr (false:Bool)) (.inl ())) (.inl ()))) (cond (decide ((dW a0 i4)>122)) (cond (decide ((dW a0 i4)<48)) (cond ((dW a0 i4) != 45) (.inr (false:Bool)) (.inl ())) (cond (decide ((dW a0 i4)>57)) (cond ((dW a0 i4) != 45) (.inr (false:Bool)) (.inl ())) (.inl ()))) (.inl ())))) (t:=fun _=>true)
   (fun i=>(97<=dW a0 i/\dW a0 i<=122)∨(48<=dW a0 i/\dW a0 i<=57)∨dW a0 i=45) (fun i hi h=>by simp;grind) (fun i hi h=>by simp;grind)
  have e3:∀b c d:Bool,(cond (!true) false (bif b then false else bif c then false else d))=true↔b=false/\c=false/\d=true:=by intro b c d;cases b<;>cases c<;>simp
  rw [e3,e2]
  simp only [beq_eq_false_iff_ne,ne_eq,and_true]
  constructor
  ·intro h
   refine ⟨fun h0=>?_,fun h0=>?_,fun i hi=>?_⟩
   ·have:=h 0 (by omega);omega
   ·have:=h (a0.size - 1) (by omega);omega
   ·have:=h i hi;omega
  ·intro ⟨h1,h2,h3⟩ i hi
   have:=h3 i hi
   by_cases h0:i=0
   ·subst h0;omega
   ·by_cases h9:i=a0.size - 1
    ·subst h9;omega
    ·omega
 ·have e1:Z41.md (a0.size:Int) 1 8=false:=by simp [Z41.md];omega
  simp only [Z130.br,e1]
  refine oQ ?_ _ _ _
  intro i s b h
  revert h
  simp only [Bool.cond_eq_ite]
  repeat' split
  all_goals (intro h;first | (cases h;rfl) | cases h)
end Z131
namespace Z132
def F (x0:aD):aH:=(call (Z131.R x0) fun v1=>ret ((!v1):Bool))
def md (a0:aD):Bool:=((!(Z131.md a0)):Bool)
def gd (a0:aD):Prop:=(a0.size<=(2^22))
def R:=RR gd md
def aj {a0}(h:gd a0):R a0=some (md a0):=aO (a:=a0) h
def aW:=CN [pS] oB RT.dec R
def bw (a0)(hg:gd a0):F a0=ret (md a0):=by
 unfold gd at hg
 have H0:=hg
 unfold F md
 try simp only [SS]
 refine ct (Z131.aj H0) ?_
 all_goals exact fz
def af:cy 133 aW:=W1 6 F mix aF bw (.cons Z131.af .nil) Tryz.func133
end Z132
namespace Z133
inductive Pt where
 | p0 (a:aC) (b c:Int)
def pid:Pt->Nat
 | .p0 ..=>2
def cj:Pt->List V
 | .p0 a b c=>[.sl none 9 a,.fn 133 [],.int .i64 b,.int .i64 c]
def cg:Pt->List aV
 | .p0 a b c=>[]
def step (J:Pt->aH):Pt->aH
 | .p0 a b c=>(cond (decide (c<b)) (m2 c (a.length:Int) (call (Z132.R (pR a (toNat c))) fun v1=>(cond v1 (ret (c:Int)) (J (.p0 a b (i64.wrap (c+1))))))) (ret ((-1):Int)))
def start (J:Pt->aH)(x0:aC):aH:=J (.p0 x0 (x0.length:Int) 0)
def live:Nat->Live:=fun i=>match i with | 2=>[(0,none),(1,none),(7,none),(8,none)] | _=>[]
def pats:List gj:=[.rd (.sl 9),.fn 133 []]
def res:RP:=.one (.rd (.int .i64))
abbrev E:Env:={ T:=assoc kL,G:=dm [(133,Z132.aW)],nt:=19 }
def step_eq (I:cH)(p:Pt):cR E live I (pid p) (bQ Tryz.f167) (fE (live (pid p)) (cj p) (cg p)) (cG E Tryz.f167 res)=step (fun q=>I (pid q) (cj q) (cg q)) p:=by
 cases p<;>kernel_rfl
def start_eq (I:cH)(ls:List L):eS E live I (bQ Tryz.f167) (cW pats ls) (cG E Tryz.f167 res)=start (fun q=>I (pid q) (cj q) (cg q)) (ls.headD .hole).aS:=by kernel_rfl
def run_eq (n:Nat)(ls:List L):eN E live Tryz.f167 res n (cW pats ls)=start (iter step n) (ls.headD .hole).aS:=cB (id:=pid) (vs:=cj) (hs:=cg) (step:=step) (start:=fun J=>start J (ls.headD .hole).aS) step_eq (fun I=>start_eq I ls) n
def md (a0:List aD):Int:=(dR (S:=Unit) (β:=Int) (fun (i1:Nat) (y1:aD) (s3:Unit)=>(cond (Z132.md y1) (.inr ((i1:Int):Int)) (.inl ()))) (fun (s3:Unit)=>((-1):Int)) 0 a0 ())
def gd (a0:List aD):Prop:=(bM (2^22) (fun y:aD=>y.size<=(2^22)) a0)
def acc (ls:List L):aC:=(ls.headD .hole).aS
def R:(aC)->Option Int:=RR gd md
def aj {a0}(h:gd a0):R (a0.map cC)=some (md a0):=aO (a:=a0) h
def aW:fT:=CN pats res acc R
def bw (a0:List aD)(hg:gd a0):∃n,start (iter step n) (a0.map cC)=ret ((md a0):Int):=by
 unfold gd at hg
 have H0:=hg
 unfold start md
 try simp only [SS]
 have Bh2:a0.length<=maxLen:=(by
   have:=(H0).1
   try simp only [maxLen] at *
   omega)
 refine ex_eq (out:=ret) (cU (z:=⟨#[]⟩)) ?_
 refine dM (p:=Pt.p0 (a0.map cC) (a0.length:Int) 0) fz ?_
 refine cm (pt:=fun (i1:Nat) (s3:Unit)=>Pt.p0 (a0.map cC) (a0.length:Int) (i1:Int)) (s:=(():Unit)) (out:=ret) (fun _ _=>True) (fun J i1 s3 h2 hih2=>?_) (fun s3 hih2=>?_) trivial
 ·simp only [step,SS]
  have bb_:=Bh2
  simp only [maxLen] at bb_
  have:=(H0).1
  refine bz.yes (by apply decide_eq_true;omega) ?_
  refine bz.yes aJ ?_
  refine bz.yes (aN h2) ?_
  refine cr (Z132.aj (bM.getD (z:=⟨#[]⟩) H0 h2)) ?_
  refine bz.bif (fun c4=>?_) (fun c4=>?_)
  ·refine bz.inr ?_
   all_goals exact fz
  ·refine bz.inl trivial ?_
   rw [aG h2 Bh2]
   all_goals exact fz
 ·simp only [step,SS]
  have:=(H0).1
  refine dx (by apply decide_eq_false;omega) ?_
  refine ⟨0,?_⟩
  all_goals exact fz
def af:cy 167 aW:=VV (run:=fun n x=>start (iter step n) x) mix aF (.cons Z132.af .nil) Tryz.func167 (by kernel_rfl) run_eq (fun _ a _ _ hg=>bw a hg)
def fa (a0:List aD):-1<=md a0/\md a0<(a0.length:Int):=by
 unfold md
 refine fW ?_ _ _
 all_goals
  intro i x s b h
  revert h
  simp only [Bool.cond_eq_ite]
  repeat' split
  all_goals (intro h;first | (cases h;rfl) | cases h)
def idx_eq (a0:List aD):md a0=iL (fun y=>Z132.md y) 0 a0:=by
 unfold md
 exact gN
end Z133
namespace Z134
def F (x0:aC):aH:=(call (Z133.R x0) fun v1=>ret ((decide (v1>=0)):Bool))
def pats:List gj:=[.rd (.sl 9),.fn 133 []]
def res:RP:=.one (.rd (.bool))
def md (a0:List aD):Bool:=((decide ((Z133.md a0)>=0)):Bool)
def gd (a0:List aD):Prop:=(bM (2^22) (fun y:aD=>y.size<=(2^22)) a0)
def acc (ls:List L):aC:=(ls.headD .hole).aS
def R:(aC)->Option Bool:=RR gd md
def aj {a0}(h:gd a0):R (a0.map cC)=some (md a0):=aO (a:=a0) h
def aW:fT:=CN pats res acc R
def bw (a0:List aD)(hg:gd a0):F (a0.map cC)=ret ((md a0):Bool):=by
 unfold gd at hg
 have H0:=hg
 unfold F md
 try simp only [SS]
 refine ct (Z133.aj H0) ?_
 have fv1_:=Z133.fa a0
 all_goals exact fz
def af:cy 132 aW:=VV (live:=fun _=>[]) (nt:=9) (run:=fun _ x=>F x) mix aF (.cons Z133.af .nil) Tryz.func132 (by kernel_rfl) (fun _ _=>by kernel_rfl) (fun _ a _ _ hg=>⟨0,bw a hg⟩)
def any_eq (a0:List aD):md a0=a0.any (fun y=>Z132.md y):=by
 unfold md
 rw [Z133.idx_eq]
 exact qa
end Z134
namespace Z135
def F (x0:aC):aH:=(call (Z130.R ((x0.length:Int),1,4)) fun v1=>(cond v1 (call (Z134.R x0) fun v2=>ret ((!v2):Bool)) bh))
def md (a0:List aD):Bool:=(cond (Z130.md (a0.length:Int) 1 4) ((!(Z134.md a0)):Bool) (false:Bool))
def gd (a0:List aD):Prop:=(bM (2^22) (fun y:aD=>y.size<=(2^22)) a0)
def R:=RR gd md
def aj {a0}(h:gd a0):R (a0.map cC)=some (md a0):=aO (a:=a0) h
def aW:=CN [pL 9] oB RT.dec R
def bw (a0)(hg:gd a0):F (a0.map cC)=ret (md a0):=by
 unfold gd at hg
 have H0:=hg
 unfold F md
 try simp only [SS]
 refine ct (Z130.aj trivial) ?_
 refine au ret (fun c1=>?_) (fun _=>rfl)
 refine ct (Z134.aj H0) ?_
 all_goals exact fz
def af:cy 107 aW:=W1 11 F mix aF bw (.cons Z130.af (.cons Z134.af .nil)) Tryz.func107
def br (a0:List aD):md a0=Z43.md a0:=by
 unfold md Z43.md
 rw [Z134.any_eq]
 have e:=lN (p:=fun y=>!(Z42.md y)) (b:=false) (c:=Z41.md (a0.length:Int) 1 4) (xs:=a0) (s:=())
 refine Eq.trans ?_ e.symm
 simp only [Z132.md,Z131.br,Z130.br]
 cases a0.any (fun y=>!(Z42.md y))<;>cases Z41.md (a0.length:Int) 1 4<;>rfl
end Z135
namespace Z136
def F (x0:Int):aH:=(call (Z130.R (x0,0,2147483646)) fun v1=>ret (v1:Bool))
def md (a0:Int):Bool:=((Z130.md a0 0 2147483646):Bool)
def gd (a0:Int):Prop:=True
def R:=RR gd md
def aj {a0}(h:gd a0):R a0=some (md a0):=aO (a:=a0) h
def aW:=CN [pI] oB RT.dec R
def bw (a0)(hg:gd a0):F a0=ret (md a0):=by
 unfold F md
 try simp only [SS]
 refine ct (Z130.aj trivial) ?_
 all_goals exact fz
def af:cy 281 aW:=W1 5 F mix aF bw (.cons Z130.af .nil) Tryz.func281
end Z136
namespace Z137
def F (x0:bX):aH:=(cond (decide (x0.cA>=0)) (cond (decide (x0.cA<=x0.cu)) (cond (decide (x0.cu<=100000)) (ret ((decide ((i64.wrap (x0.cu - x0.cA))<=200)):Bool)) bh) bh) bh)
def md (a0:aE):Bool:=(cond (decide (a0.cA>=0)) (cond (decide (a0.cA<=a0.cu)) (cond (decide (a0.cu<=100000)) ((decide ((i64.wrap (a0.cu - a0.cA))<=200)):Bool) (false:Bool)) (false:Bool)) (false:Bool))
def gd (a0:aE):Prop:=True
def R:=RR gd md
def aj {a0}(h:gd a0):R (aE.r a0)=some (md a0):=aO (a:=a0) h
def aW:=CN [.agg fU] oB RT.dec R
def bw (a0)(hg:gd a0):F (aE.r a0)=ret (md a0):=by
 unfold F md
 try simp only [SS]
 refine au ret (fun c1=>?_) (fun _=>rfl)
 refine au ret (fun c2=>?_) (fun _=>rfl)
 refine au ret (fun c3=>?_) (fun _=>rfl)
 all_goals exact fz
def af:cy 289 aW:=W1 26 F mix aF bw .nil Tryz.func289
end Z137
namespace Z138
inductive Pt where
 | p0 (a:aC) (b c:Int)
def pid:Pt->Nat
 | .p0 ..=>2
def cj:Pt->List V
 | .p0 a b c=>[.sl none 3 a,.int .i64 b,.int .i64 c]
def cg:Pt->List aV
 | .p0 a b c=>[]
def step (J:Pt->aH):Pt->aH
 | .p0 a b c=>(cond (decide (c<b)) (cond (decide (c>0)) (m2 c (a.length:Int) (bZ (decide ((0:Int)<=(i64.wrap (c - 1)))) (bZ (decide ((i64.wrap (c - 1))<(a.length:Int))) (cond (decide ((jh a (toNat c))<=(jh a (toNat (i64.wrap (c - 1)))))) bh (J (.p0 a b (i64.wrap (c+1)))))))) (J (.p0 a b (i64.wrap (c+1))))) eI)
def start (J:Pt->aH)(x0:aC):aH:=J (.p0 x0 (x0.length:Int) 0)
def live:Nat->Live:=fun i=>match i with | 2=>[(0,none),(5,none),(6,none)] | _=>[]
def md (a0:List Int):Bool:=(dR (S:=Unit) (β:=Bool) (fun (i1:Nat) (y1:Int) (s3:Unit)=>(cond (decide ((i1:Int)>0)) (cond (decide (y1<=(a0.getD (toNat (i64.wrap ((i1:Int) - 1))) 0))) (.inr (false:Bool)) (.inl ())) (.inl ()))) (fun (s3:Unit)=>(true:Bool)) 0 a0 ())
def gd (a0:List Int):Prop:=(bM (2^38) (fun y:Int=>True) a0)
def R:=RR gd md
def aj {a0}(h:gd a0):R (a0.map aZ)=some (md a0):=aO (a:=a0) h
def aW:=CN [pL 3] oB RT.dec R
def bw (a0)(hg:gd a0):∃n,start (iter step n) (a0.map aZ)=ret (md a0):=by
 unfold gd at hg
 have H0:=hg
 unfold start md
 try simp only [SS]
 have Bh2:a0.length<=maxLen:=(by
   have:=(H0).1
   try simp only [maxLen] at *
   omega)
 refine ex_eq (out:=ret) (cU (z:=0)) ?_
 refine dM (p:=Pt.p0 (a0.map aZ) (a0.length:Int) 0) fz ?_
 refine cm (pt:=fun (i1:Nat) (s3:Unit)=>Pt.p0 (a0.map aZ) (a0.length:Int) (i1:Int)) (s:=(():Unit)) (out:=ret) (fun _ _=>True) (fun J i1 s3 h2 hih2=>?_) (fun s3 hih2=>?_) trivial
 ·simp only [step,SS]
  have bb_:=Bh2
  simp only [maxLen] at bb_
  have:=(H0).1
  refine bz.yes (by apply decide_eq_true;omega) ?_
  refine bz.bif (fun c4=>?_) (fun c4=>?_)
  ·have dc4:=c4
   try simp only [DC] at dc4
   refine bz.yes aJ ?_
   refine bz.yes (aN h2) ?_
   refine bz.yes dt ?_
   refine bz.yes (have:=(H0).1;dt) ?_
   refine bz.bif (fun _=>bz.inr rfl) (fun c5=>?_)
   refine bz.inl trivial ?_
   rw [aG h2 Bh2]
   all_goals exact fz
  ·refine bz.inl trivial ?_
   rw [aG h2 Bh2]
   all_goals exact fz
 ·simp only [step,SS]
  have:=(H0).1
  refine dx (by apply decide_eq_false;omega) ?_
  refine ⟨0,?_⟩
  all_goals exact fz
def af:cy 307 aW:=L1 24 pid cj cg live step start mix aF bw .nil Tryz.func307
end Z138
namespace Z139
def F (x0:Int):aH:=(call (Z130.R (x0,1,99)) fun v1=>ret (v1:Bool))
def md (a0:Int):Bool:=((Z130.md a0 1 99):Bool)
def gd (a0:Int):Prop:=True
def R:=RR gd md
def aj {a0}(h:gd a0):R a0=some (md a0):=aO (a:=a0) h
def aW:=CN [pI] oB RT.dec R
def bw (a0)(hg:gd a0):F a0=ret (md a0):=by
 unfold F md
 try simp only [SS]
 refine ct (Z130.aj trivial) ?_
 all_goals exact fz
def af:cy 308 aW:=W1 5 F mix aF bw (.cons Z130.af .nil) Tryz.func308
end Z139
namespace Z140
def F (x0:bB):aH:=(call (Z130.R ((x0.aX.length:Int),1,4)) fun v1=>(cond v1 (call (Z138.R x0.aX) fun v2=>(cond v2 (bZ (decide ((0:Int)<(x0.aX.length:Int))) (call (Z139.R (jh x0.aX 0)) fun v3=>(cond v3 (bZ (decide ((0:Int)<=(i64.wrap ((x0.aX.length:Int) - 1)))) (bZ (decide ((i64.wrap ((x0.aX.length:Int) - 1))<(x0.aX.length:Int))) (call (Z139.R (jh x0.aX (toNat (i64.wrap ((x0.aX.length:Int) - 1))))) fun v4=>(cond v4 (call (Z130.R (x0.cz,1,(x0.aX.length:Int))) fun v5=>ret (v5:Bool)) bh)))) bh))) bh)) bh))
def md (a0:aM):Bool:=(cond (Z130.md (a0.aX.length:Int) 1 4) (cond (Z138.md a0.aX) (cond (Z139.md (a0.aX.getD 0 0)) (cond (Z139.md (a0.aX.getD (toNat (i64.wrap ((a0.aX.length:Int) - 1))) 0)) ((Z130.md a0.cz 1 (a0.aX.length:Int)):Bool) (false:Bool)) (false:Bool)) (false:Bool)) (false:Bool))
def gd (a0:aM):Prop:=(aM.Sm (2^21) a0)
def R:=RR gd md
def aj {a0}(h:gd a0):R (aM.r a0)=some (md a0):=aO (a:=a0) h
def aW:=CN [.agg iP] oB RT.dec R
def bw (a0)(hg:gd a0):F (aM.r a0)=ret (md a0):=by
 unfold gd at hg
 have H0:=hg
 unfold F md
 try simp only [SS]
 refine ct (Z130.aj trivial) ?_
 refine au ret (fun c1=>?_) (fun _=>rfl)
 have Dc1:=c1
 try simp [Z130.md] at Dc1
 refine ct (Z138.aj (H0.mono (by decide) (fun x hx=>trivial))) ?_
 refine au ret (fun c2=>?_) (fun _=>rfl)
 refine ak (have:=(H0).1;dt) ?_
 refine ct (Z139.aj trivial) ?_
 refine au ret (fun c3=>?_) (fun _=>rfl)
 refine ak (have:=(H0).1;dt) ?_
 refine ak (have:=(H0).1;dt) ?_
 refine ct (Z139.aj trivial) ?_
 refine au ret (fun c4=>?_) (fun _=>rfl)
 refine ct (Z130.aj trivial) ?_
 all_goals exact fz
def af:cy 290 aW:=W1 38 F mix aF bw (.cons Z130.af (.cons Z138.af (.cons Z139.af .nil))) Tryz.func290
def BO {l:List Int}(h:∀i:Nat,i<l.length->0<i->l.getD (i - 1) 0<l.getD i 0):∀(k i:Nat),i+k<l.length->l.getD i 0<=l.getD (i+k) 0
 | 0,i,_=>Int.le_refl _
 | k+1,i,hi=>by
  have h1:=BO h k i (by omega)
  have h2:=h (i+(k+1)) hi (by omega)
  rw [show i+(k+1) - 1=i+k by omega] at h2
  omega
def br (a0:aM):md a0=Z45.md a0:=by
 unfold md Z45.md Z138.md
 simp only [Z130.br,Z139.md]
 by_cases hl:1<=a0.aX.length/\a0.aX.length<=4
 ·have e1:Z41.md (a0.aX.length:Int) 1 4=true:=by simp [Z41.md];omega
  rw [e1]
  have wp:∀i:Nat,0<i->i<=4->toNat (i64.wrap ((i:Int) - 1))=i - 1:=fun i h1 h2=>by
   rw [Go.IntWalk.i64_in _ (by omega)];omega
  rw [wp _ (by omega) (by omega)]
  generalize a0.cz=n
  generalize a0.aX=l at *
  have i1:∀x a b:Int,Z41.md x a b=true↔a<=x/\x<=b:=fun x a b=>by simp [Z41.md]
  have i2:∀x a b:Int,Z41.md x a b=false↔¬(a<=x/\x<=b):=fun x a b=>by rw [<-i1];simp
  have w2:∀i:Nat,i<l.length->0<i->toNat (i64.wrap ((i:Int) - 1))=i - 1:=fun i h1 h2=>wp i h2 (by omega)
  rw [Bool.eq_iff_iff,<-cU (z:=0),<-cU (z:=0)]
  have e3:∀a b c d:Bool,(cond true (cond a (cond b (cond c d false) false) false) false)=true↔a=true/\b=true/\c=true/\d=true:=by
   intro a b c d;cases a<;>cases b<;>cases c<;>simp
  have pos:∀i:Nat,0<i->decide ((i:Int)>0)=true:=fun i h=>by simpa using h
  have npos:∀i:Nat,¬0<i->decide ((i:Int)>0)=false:=fun i h=>by simpa using h
  rw [e3]
  rw [jl (fun i=>0<i->l.getD (i - 1) 0<l.getD i 0) (fun i hi h=>?_) (fun i hi h=>?_),jl (fun i=>(1<=l.getD i 0/\l.getD i 0<=99)/\(0<i->l.getD (i - 1) 0<l.getD i 0)) (fun i hi h=>?_) (fun i hi h=>?_)]
  ·simp only [i1,and_true,bg]
   constructor
   ·rintro ⟨h1,⟨h2,h3⟩,⟨h4,h5⟩,h6⟩
    refine ⟨fun i hi=>⟨⟨?_,?_⟩,h1 i hi⟩,h6⟩
    ·have:=BO h1 i 0 (by omega)
     rw [Nat.zero_add] at this;omega
    ·have:=BO h1 (l.length - 1 - i) i (by omega)
     rw [show i+(l.length - 1 - i)=l.length - 1 by omega] at this;omega
   ·rintro ⟨h1,h6⟩
    exact ⟨fun i hi=>(h1 i hi).2,(h1 0 (by omega)).1,(h1 (l.length - 1) (by omega)).1,h6⟩
  ·have e2:=(i1 (l.getD i 0) 1 99).2 h.1
   rw [e2]
   by_cases h0:0<i
   ·have:=h.2 h0
    rw [pos i h0,w2 i hi h0,decide_eq_false (by omega)];rfl
   ·rw [npos i h0];rfl
  ·by_cases h1:1<=l.getD i 0/\l.getD i 0<=99
   ·have e2:=(i1 (l.getD i 0) 1 99).2 h1
    have h0:0<i:=Classical.byContradiction fun hc=>h ⟨h1,fun h=>(hc h).elim⟩
    have h2:¬l.getD (i - 1) 0<l.getD i 0:=fun hc=>h ⟨h1,fun _=>hc⟩
    rw [e2,pos i h0,w2 i hi h0,decide_eq_true (by omega)];rfl
   ·rw [(i2 _ _ _).2 h1];rfl
  ·by_cases h0:0<i
   ·have:=h h0
    rw [pos i h0,w2 i hi h0,decide_eq_false (by omega)];rfl
   ·rw [npos i h0];rfl
  ·have h0:0<i:=Classical.byContradiction fun hc=>h fun h=>(hc h).elim
   have h2:¬l.getD (i - 1) 0<l.getD i 0:=fun hc=>h fun _=>hc
   rw [pos i h0,w2 i hi h0,decide_eq_true (by omega)];rfl
 ·have e1:Z41.md (a0.aX.length:Int) 1 4=false:=by simp [Z41.md];omega
  rw [e1]
  simp only [bq]
  symm
  exact lp (by
   intro i x s b h
   revert h
   simp only [Bool.cond_eq_ite]
   repeat' split
   all_goals (intro h;first | (cases h;rfl) | cases h)) _ _ _
end Z140
namespace Z141
def F (x0:bB):aH:=(cond (x0.cz==0) (ret (((x0.aX.length:Int)==0):Bool)) bh)
def md (a0:aM):Bool:=(cond (a0.cz==0) (((a0.aX.length:Int)==0):Bool) (false:Bool))
def gd (a0:aM):Prop:=True
def R:=RR gd md
def aj {a0}(h:gd a0):R (aM.r a0)=some (md a0):=aO (a:=a0) h
def aW:=CN [.agg iP] oB RT.dec R
def bw (a0)(hg:gd a0):F (aM.r a0)=ret (md a0):=by
 unfold F md
 try simp only [SS]
 refine au ret (fun c1=>?_) (fun _=>rfl)
 all_goals exact fz
def af:cy 293 aW:=W1 12 F mix aF bw .nil Tryz.func293
def br (a0:aM):md a0=Z46.md a0:=by
 unfold md Z46.md
 first
 | (simp only [id];done)
 | (simp only [id];rfl)
 | rfl
end Z141
namespace Z142
def F (x0:bB):aH:=(call (Z141.R x0) fun v1=>(cond v1 eI (call (Z140.R x0) fun v2=>ret (v2:Bool))))
def md (a0:aM):Bool:=(cond (Z141.md a0) (true:Bool) ((Z140.md a0):Bool))
def gd (a0:aM):Prop:=(aM.Sm (2^21) a0)
def R:=RR gd md
def aj {a0}(h:gd a0):R (aM.r a0)=some (md a0):=aO (a:=a0) h
def aW:=CN [.agg iP] oB RT.dec R
def bw (a0)(hg:gd a0):F (aM.r a0)=ret (md a0):=by
 unfold gd at hg
 have H0:=hg
 unfold F md
 try simp only [SS]
 refine ct (Z141.aj trivial) ?_
 refine au ret (fun _=>rfl) (fun c1=>?_)
 refine ct (Z140.aj H0) ?_
 all_goals exact fz
def af:cy 291 aW:=W1 9 F mix aF bw (.cons Z141.af (.cons Z140.af .nil)) Tryz.func291
end Z142
namespace Z143
def F (x0:Int)(x1:bB):aH:=(call (Z141.R x1) fun v1=>(cond v1 (ret ((x0==0):Bool)) (call (Z130.R (x0,1,500)) fun v2=>ret (v2:Bool))))
def md (a0:Int)(a1:aM):Bool:=(cond (Z141.md a1) ((a0==0):Bool) ((Z130.md a0 1 500):Bool))
def gd (a0:Int)(a1:aM):Prop:=True
def R:=RR (p2 gd) (u2 md)
def aj {a0 a1}(h:gd a0 a1):R (a0,(aM.r a1))=some (md a0 a1):=aO (a:=(a0,a1)) h
def aW:=CN [pI,.agg iP] oB RT.dec R
def bw (a0)(a1)(hg:gd a0 a1):F a0 (aM.r a1)=ret (md a0 a1):=by
 unfold F md
 try simp only [SS]
 refine ct (Z141.aj trivial) ?_
 refine au ret (fun c1=>?_) (fun c1=>?_)
 ·all_goals exact fz
 ·refine ct (Z130.aj trivial) ?_
  all_goals exact fz
def af:cy 292 aW:=W2 11 F mix aF bw (.cons Z141.af (.cons Z130.af .nil)) Tryz.func292
end Z143
namespace Z144
def F (x0:bX):aH:=(call (Z136.R x0.bD) fun v1=>(cond v1 (call (Z136.R x0.cQ) fun v2=>(cond v2 (call (Z136.R x0.dw) fun v3=>(cond v3 (call (Z130.R (x0.cD,0,200)) fun v4=>(cond v4 (call (Z130.R (x0.bJ,1,3)) fun v5=>(cond v5 (call (Z137.R x0) fun v6=>(cond v6 (call (Z130.R (x0.ck,0,12)) fun v7=>(cond v7 (call (Z140.R x0.bO) fun v8=>(cond v8 (call (Z142.R x0.bA) fun v9=>(cond v9 (call (Z142.R x0.bt) fun v10=>(cond v10 (call (Z143.R (x0.cT,x0.bA)) fun v11=>(cond v11 (cond x0.bC (call (Z141.R x0.bt) fun v12=>ret ((!v12):Bool)) eI) bh)) bh)) bh)) bh)) bh)) bh)) bh)) bh)) bh)) bh)) bh))
def md (a0:aE):Bool:=(cond (Z136.md a0.bD) (cond (Z136.md a0.cQ) (cond (Z136.md a0.dw) (cond (Z130.md a0.cD 0 200) (cond (Z130.md a0.bJ 1 3) (cond (Z137.md a0) (cond (Z130.md a0.ck 0 12) (cond (Z140.md a0.bO) (cond (Z142.md a0.bA) (cond (Z142.md a0.bt) (cond (Z143.md a0.cT a0.bA) (cond a0.bC ((!(Z141.md a0.bt)):Bool) (true:Bool)) (false:Bool)) (false:Bool)) (false:Bool)) (false:Bool)) (false:Bool)) (false:Bool)) (false:Bool)) (false:Bool)) (false:Bool)) (false:Bool)) (false:Bool))
def gd (a0:aE):Prop:=(aE.Sm (2^21) a0)
def R:=RR gd md
def aj {a0}(h:gd a0):R (aE.r a0)=some (md a0):=aO (a:=a0) h
def aW:=CN [.agg fU] oB RT.dec R
def bw (a0)(hg:gd a0):F (aE.r a0)=ret (md a0):=by
 unfold gd at hg
 have H0:=hg
 unfold F md
 try simp only [SS]
 refine ct (Z136.aj trivial) ?_
 refine au ret (fun c1=>?_) (fun _=>rfl)
 refine ct (Z136.aj trivial) ?_
 refine au ret (fun c2=>?_) (fun _=>rfl)
 refine ct (Z136.aj trivial) ?_
 refine au ret (fun c3=>?_) (fun _=>rfl)
 refine ct (Z130.aj trivial) ?_
 refine au ret (fun c4=>?_) (fun _=>rfl)
 refine ct (Z130.aj trivial) ?_
 refine au ret (fun c5=>?_) (fun _=>rfl)
 refine ct (Z137.aj trivial) ?_
 refine au ret (fun c6=>?_) (fun _=>rfl)
 refine ct (Z130.aj trivial) ?_
 refine au ret (fun c7=>?_) (fun _=>rfl)
 refine ct (Z140.aj H0.1) ?_
 refine au ret (fun c8=>?_) (fun _=>rfl)
 refine ct (Z142.aj H0.2.1) ?_
 refine au ret (fun c9=>?_) (fun _=>rfl)
 refine ct (Z142.aj H0.2.2) ?_
 refine au ret (fun c10=>?_) (fun _=>rfl)
 refine ct (Z143.aj trivial) ?_
 refine au ret (fun c11=>?_) (fun _=>rfl)
 refine au ret (fun c12=>?_) (fun _=>rfl)
 refine ct (Z141.aj trivial) ?_
 all_goals exact fz
def af:cy 269 aW:=W1 67 F mix aF bw (.cons Z136.af (.cons Z130.af (.cons Z137.af (.cons Z140.af (.cons Z142.af (.cons Z143.af (.cons Z141.af .nil))))))) Tryz.func269
def br (a0:aE):md a0=Z47.md a0:=by
 unfold md Z47.md
 simp only [Z140.br,Z130.br,Z136.md,Z142.md,Z143.md,Z141.br]
 have hs:Z137.md a0=(Z41.md a0.cA 0 100000&&(Z41.md a0.cu a0.cA 100000&&!decide ((i64.wrap (a0.cu - a0.cA))>200))):=by
  rw [Bool.eq_iff_iff]
  simp [Z137.md,Z41.md]
  omega
 have hk:Z45.md a0.bt=true->Z46.md a0.bt=false:=fun h=>by
  have:=Z45.tr h
  have e:((a0.bt.aX.length:Int)==0)=false:=beq_eq_false_iff_ne.2 (by omega)
  unfold Z46.md
  rw [e]
  cases a0.bt.cz==0<;>rfl
 rw [hs]
 revert hk
 simp only [AW,zY,Bool.and_assoc]
 generalize Z41.md a0.bD 0 2147483646=b1
 generalize Z41.md a0.cQ 0 2147483646=b2
 generalize Z41.md a0.dw 0 2147483646=b3
 generalize Z41.md a0.cD 0 200=b4
 generalize Z41.md a0.bJ 1 3=b5
 generalize Z41.md a0.cA 0 100000=b6
 generalize Z41.md a0.cu a0.cA 100000=b7
 generalize decide ((i64.wrap (a0.cu - a0.cA))>200)=b8
 generalize Z41.md a0.ck 0 12=b9
 generalize Z45.md a0.bO=b10
 generalize Z45.md a0.bA=kh
 generalize Z46.md a0.bA=nh
 generalize Z45.md a0.bt=kj
 generalize Z46.md a0.bt=nj
 generalize Z41.md a0.cT 1 500=lw
 have hw:(a0.cT != 0)=!(a0.cT==0):=rfl
 rw [hw]
 generalize (a0.cT==0)=w0
 generalize a0.bC=fz
 intro hk
 cases b1;· rfl
 cases b2;· rfl
 cases b3;· rfl
 cases b4;· rfl
 cases b5;· rfl
 cases b6;· rfl
 cases b7;· rfl
 cases b8;rotate_left;· rfl
 cases b9;· rfl
 cases b10;· rfl
 revert hk
 revert kh nh kj nj lw w0 fz
 decide
end Z144
namespace Z145
def F (x0:bB):aH:=(bZ (eP (((2:Int)+(x0.aX.length:Int))*8)) (ret (([[L.int x0.cz],[L.int (x0.aX.length:Int)]]++x0.aX):aC)))
def md (a0:aM):List Int:=([a0.cz,(a0.aX.length:Int)]++a0.aX)
def gd (a0:aM):Prop:=(aM.Sm (2^21) a0)
def R:=RR gd md
def aj {a0}(h:gd a0):R (aM.r a0)=some ((md a0).map aZ):=aO (a:=a0) h
def aW:=CN [.agg iP] (oL 3) RT.dec R
def bw (a0)(hg:gd a0):F (aM.r a0)=ret ((md a0).map aZ):=by
 unfold gd at hg
 have H0:=hg
 unfold F md
 try simp only [SS]
 refine ak (have:=(H0).1;lm) ?_
 all_goals exact fz
def af:cy 294 aW:=W1 12 F mix aF bw .nil Tryz.func294
def len (a0:aM):(md a0).length=2+a0.aX.length:=by simp [md];omega
def br (a0:aM):md a0=Z48.md a0:=by
 unfold md Z48.md
 first
 | (simp only [id];done)
 | (simp only [id];rfl)
 | rfl
end Z145
namespace Z146
def F (x0 x1:Int):aH:=(call (Z130.R (x1,1,1000000000000)) fun v1=>(cond (!v1) (ret (0:Int)) (cond (decide (x1=0)) none (cond (decide (x1=0)) none (ret ((Int.tmod (i64.wrap ((Int.tmod x0 x1)+x1)) x1):Int))))))
def md (a0 a1:Int):Int:=(cond (!(Z130.md a1 1 1000000000000)) (0:Int) ((Int.tmod (i64.wrap ((Int.tmod a0 a1)+a1)) a1):Int))
def gd (a0 a1:Int):Prop:=True
def R:=RR (p2 gd) (u2 md)
def aj {a0 a1}(h:gd a0 a1):R (a0,a1)=some (md a0 a1):=aO (a:=(a0,a1)) h
def aW:=CN [pI,pI] oI RT.dec R
def bw (a0)(a1)(hg:gd a0 a1):F a0 a1=ret (md a0 a1):=by
 unfold F md
 try simp only [SS]
 refine ct (Z130.aj trivial) ?_
 refine au ret (fun _=>rfl) (fun c1=>?_)
 have dc1:=c1
 try simp only [DC] at dc1
 have Dc1:=c1
 try simp [Z130.md] at Dc1
 refine cL df ?_
 refine cL df ?_
 all_goals exact fz
def af:cy 303 aW:=W2 15 F mix aF bw (.cons Z130.af .nil) Tryz.func303
def br (a0 a1:Int):md a0 a1=Z49.md a0 a1:=by
 unfold md Z49.md
 first
 | (simp only [Z130.br];done)
 | (simp only [Z130.br];rfl)
 | rfl
end Z146
namespace Z147
inductive Pt where
 | p0 (a:Int) (b:aC) (c d:Int)
def pid:Pt->Nat
 | .p0 ..=>3
def cj:Pt->List V
 | .p0 a b c d=>[.int .i64 a,.sl none 3 b,.int .i64 c,.int .i64 d]
def cg:Pt->List aV
 | .p0 a b c d=>[]
def step (J:Pt->aH):Pt->aH
 | .p0 a b c d=>(cond (decide (d<c)) (m2 d (b.length:Int) (call (Z146.R ((jh b (toNat d)),2147483647)) fun v1=>J (.p0 (Int.tmod (i64.wrap ((i64.wrap ((i64.wrap (a*1000003))+v1))+13)) 2147483647) b c (i64.wrap (d+1))))) (ret (a:Int)))
def start (J:Pt->aH)(x0:aC):aH:=J (.p0 11 x0 (x0.length:Int) 0)
def live:Nat->Live:=fun i=>match i with | 3=>[(3,none),(6,none),(7,none),(8,none)] | _=>[]
def md (a0:List Int):Int:=(dS (S:=Int) (β:=Int) (fun (y1:Int) (s3:Int)=>(.inl (Int.tmod (i64.wrap ((i64.wrap ((i64.wrap (s3*1000003))+(Z146.md y1 2147483647)))+13)) 2147483647))) (fun (s3:Int)=>(s3:Int)) a0 11)
def gd (a0:List Int):Prop:=(bM (2^43) (fun y:Int=>True) a0)
def R:=RR gd md
def aj {a0}(h:gd a0):R (a0.map aZ)=some (md a0):=aO (a:=a0) h
def aW:=CN [pL 3] oI RT.dec R
def bw (a0)(hg:gd a0):∃n,start (iter step n) (a0.map aZ)=ret (md a0):=by
 unfold gd at hg
 have H0:=hg
 unfold start md
 try simp only [SS]
 have Bh2:a0.length<=maxLen:=(by
   have:=(H0).1
   try simp only [maxLen] at *
   omega)
 refine ex_eq (out:=ret) (eC (z:=0)) ?_
 refine dM (p:=Pt.p0 11 (a0.map aZ) (a0.length:Int) 0) fz ?_
 refine cm (pt:=fun (i1:Nat) (s3:Int)=>Pt.p0 s3 (a0.map aZ) (a0.length:Int) (i1:Int)) (s:=(11:Int)) (out:=ret) (fun _ _=>True) (fun J i1 s3 h2 hih2=>?_) (fun s3 hih2=>?_) trivial
 ·simp only [step,SS]
  have bb_:=Bh2
  simp only [maxLen] at bb_
  have:=(H0).1
  refine bz.yes (by apply decide_eq_true;omega) ?_
  refine bz.yes aJ ?_
  refine bz.yes (aN h2) ?_
  refine cr (Z146.aj trivial) ?_
  refine bz.inl trivial ?_
  rw [aG h2 Bh2]
  all_goals exact fz
 ·simp only [step,SS]
  have:=(H0).1
  refine dx (by apply decide_eq_false;omega) ?_
  refine ⟨0,?_⟩
  all_goals exact fz
def af:cy 279 aW:=L1 21 pid cj cg live step start mix aF bw (.cons Z146.af .nil) Tryz.func279
def br (a0:List Int):md a0=Z50.md a0:=by
 unfold md Z50.md
 first
 | (simp only [Z146.br];done)
 | (simp only [Z146.br];rfl)
 | rfl
end Z147
namespace Z148
def F (x0:bB)(x1:Int):aH:=(call (Z145.R x0) fun v1=>(bZ (eP (((2:Int)+(v1.length:Int))*8)) (call (Z147.R ([[L.int 239],[L.int x1]]++v1)) fun v2=>ret (v2:Int))))
def md (a0:aM)(a1:Int):Int:=((Z147.md ([239,a1]++(Z145.md a0))):Int)
def gd (a0:aM)(a1:Int):Prop:=(aM.Sm (2^21) a0)
def R:=RR (p2 gd) (u2 md)
def aj {a0 a1}(h:gd a0 a1):R ((aM.r a0),a1)=some (md a0 a1):=aO (a:=(a0,a1)) h
def aW:=CN [.agg iP,pI] oI RT.dec R
def bw (a0)(a1)(hg:gd a0 a1):F (aM.r a0) a1=ret (md a0 a1):=by
 unfold gd at hg
 have H0:=hg
 unfold F md
 try simp only [SS]
 refine ct (Z145.aj H0) ?_
 try simp only [SS]
 refine ak (have:=Z145.len a0;have:=(H0).1;lm) ?_
 refine bp (Z147.md ([239,a1]++(Z145.md a0))) (rq (Z147.aj (a0:=([239,a1]++(Z145.md a0))) ⟨(have:=Z145.len a0;have:=(H0).1;om),fun _ _=>trivial⟩)) ?_
 all_goals exact fz
def af:cy 270 aW:=W2 11 F mix aF bw (.cons Z145.af (.cons Z147.af .nil)) Tryz.func270
def br (a0:aM)(a1:Int):md a0 a1=Z51.md a0 a1:=by
 unfold md Z51.md
 first
 | (simp only [Z145.br,Z147.br];done)
 | (simp only [Z145.br,Z147.br];rfl)
 | rfl
end Z148
namespace Z149
def F (x0:Bool):aH:=(cond x0 (ret (1:Int)) (ret (0:Int)))
def md (a0:Bool):Int:=(cond a0 (1:Int) (0:Int))
def gd (a0:Bool):Prop:=True
def R:=RR gd md
def aj {a0}(h:gd a0):R a0=some (md a0):=aO (a:=a0) h
def aW:=CN [pB] oI RT.dec R
def bw (a0)(hg:gd a0):F a0=ret (md a0):=by
 unfold F md
 try simp only [SS]
 refine au ret (fun _=>rfl) (fun _=>rfl)
def af:cy 301 aW:=W1 4 F mix aF bw .nil Tryz.func301
end Z149
namespace Z150
set_option maxHeartbeats 1000000 in
set_option maxRecDepth 100000 in
open Go.RowKit in
def As (b:Option Addr)(w:World):Calls Tryz.prog 312 #[.slice b 0 0,.int .i64 0] w fun e w'=>e=.returned (.slice b 0 0)/\w'=w:=by
 go_enter Tryz.func312,Tryz.ntmps312
 go_wp2
 go_ret
 exact ⟨rfl,rfl⟩
def Bd:Tryz.t3.size=1:=by kernel_rfl
def yu:Tryz.t3.bytes=8:=by kernel_rfl
set_option maxHeartbeats 1000000 in
set_option maxRecDepth 100000 in
open Go.RowKit in
def Ak (b:Option Addr)(n:Nat)(w:World)(h0:0<n)(h1:n*8<=140737488355328):Calls Tryz.prog 312 #[.slice b 0 0,.int .i64 n] w fun e w'=>e=.returned (.slice (some ⟨w.heap.size,0,none⟩) 0 (grownCap w n 0 3))/\w'=(w.drew.alloc (.cells (Builtin.zeroCells #[.int .i64 0] n++Builtin.zeroCells #[.int .i64 0] (grownCap w n 0 3 - n)) 3)):=by
 have hp:(0:Int)<n:=by omega
 have hnn:¬((n:Int)<0):=by omega
 have hold:(Builtin.firstCells Tryz.t3.size 0 (.slice b 0 0)).run Tryz.prog w.drew=.ok ([]:List Value).toArray w.drew:=by
  cases b with
  | none=>exact run_firstCells_none _ _ _ _ _
  | some b=>exact run_firstCells_some _ _ _ _ _ _ [] (by simp) (fun j v hj=>by simp at hj)
 have H:=fun ty=>Lib.run_append_grow_zeros (P:=Tryz.prog) w 58 3 ty 3 Tryz.t3 (.int .i64 0) .i64 .i64 (by kernel_rfl) (by kernel_rfl) (by kernel_rfl) (by kernel_rfl) b 0 0 [] hold n h0 (by rw [Bd];omega) (by omega) (by omega) (by rw [yu];omega) (by
  rw [Nat.zero_add,nextslicecap_zero h0,yu];omega)
 simp only [Nat.zero_add,Array.empty_append] at H
 have H2:=Lib.hid H
 clear H hold
 go_enter Tryz.func312,Tryz.ntmps312
 go_wp2_with (at_builtin;refine Lib.wpList_append_run _ rfl _ _ _ _ rfl _ _ rfl rfl _ _ (H2.out _) ?_)
 go_ret
 exact ⟨rfl,rfl⟩
def R (x0:Int):Option (aC):=bif decide (0<=x0)&&decide (x0*8<=140737488355328) then some [] else none
def aj {a0:Int}(h:0<=a0/\a0*8<=140737488355328):R a0=some []:=by simp [R,h.1,h.2]
def sem:List L->Option (List L)
 | [y0]=>(R y0.toInt).map RT.enc
 | _=>none
def aW:fT:=⟨[.nil,.rd (.int .i64)],.one (.fr 3),sem⟩
def Az:Ev.cells 3=[aB]:=by kernel_rfl
def af:cy 312 aW:=by
 refine xe ⟨Tryz.f312,Tryz.func312,by kernel_rfl,by kernel_rfl⟩ rfl fun ls r w vs Z hs hf=>?_
 simp only [aW] at hs
 unfold sem at hs
 split at hs
 ·rename_i y
  obtain ⟨v,hv,hq⟩:=map_some hs
  unfold R at hv
  cases hc:(decide (0<=y.toInt)&&decide (y.toInt*8<=140737488355328))<;>simp only [hc,bg,bq] at hv
  ·cases hv
  injection hv with hv
  subst hv
  subst hq
  simp only [Bool.and_eq_true,decide_eq_true_eq] at hc
  cases hf with
  | cons h1 ht=>
   cases ht with
   | cons h2 ht=>
    cases ht
    obtain ⟨b,rfl⟩:=(show V0 Ev.cells w (A0 Z w) .nil _ from h1)
    have e2:_=Value.int .i64 y.toInt:=h2
    subst e2
    obtain ⟨n,hn⟩:∃n:Nat,y.toInt=n:=⟨y.toInt.toNat,by omega⟩
    rw [hn] at hc ⊢
    rcases Nat.eq_zero_or_pos n with h0 | h0
    ·subst h0
     exact (As b w).mono fun e w' ⟨h3,h4⟩=>⟨_,fun _=>False,h3,by rw [h4];exact Fr.refl _ _,fun b hb=>hb.elim,.nil _ _ _ _ rfl⟩
    ·refine (Ak b n w h0 (by omega)).mono fun e w' ⟨h3,h4⟩=>⟨_,fun b=>b=w.heap.size,h3,?_,fun b hb=>?_,?_⟩
     ·rw [h4];exact ((Fr.refl w _).drew).alloc _
     ·subst hb;rw [h4];simp
     ·have hge:=grownCap_ge w n 0 3
      have hle:grownCap w n 0 3<=maxLen:=grownCap_le_maxLen w n 0 3 (by simp only [maxLen];omega)
      rw [h4]
      refine .sl _ 3 0 _ w.heap.size 3 _ _ (fun _ _=>Go.undef) (fun _ _ _=>False) rfl (zero_le _) hle (heap_alloc_new w.drew _) ?_ rfl (fun _ _ _ h=>h.elim) (fun _ _ _ _ _ h=>h.elim) (fun i j k hi=>by omega) (fun i j k hi=>by omega)
      rw [Az]
      simp only [Array.size_append,size_zeroCells,List.length_singleton]
      simp
      omega
 ·cases hs
end Z150
namespace Z151
inductive Pt where
 | p0 (a:aC) (b:Int) (c:aC) (d e:Int)
 | p1 (a:aC) (b c:Int) (d:aC)
def pid:Pt->Nat
 | .p0 ..=>3
 | .p1 ..=>11
def cj:Pt->List V
 | .p0 a b c d e=>[.sl none 58 a,.int .i64 b,.sl none 58 c,.int .i64 d,.int .i64 e]
 | .p1 a b c d=>[.own 0,.sl none 58 a,.int .i64 b,.int .i64 c]
def cg:Pt->List aV
 | .p0 a b c d e=>[]
 | .p1 a b c d=>[.row 3 d]
def step (J:Pt->aH):Pt->aH
 | .p0 a b c d e=>(cond (decide (e<d)) (m2 e (c.length:Int) (cond (decide ((i64.wrap (b+((oy c (toNat e)).length:Int)))<0)) none (J (.p0 a (i64.wrap (b+((oy c (toNat e)).length:Int))) c d (i64.wrap (e+1)))))) (call (Z150.R b) fun v1=>J (.p1 a (a.length:Int) 0 v1)))
 | .p1 a b c d=>(cond (decide (c<b)) (m2 c (a.length:Int) (bZ (eP (((d.length:Int)+((oy a (toNat c)).length:Int))*8)) (J (.p1 a b (i64.wrap (c+1)) (d++(oy a (toNat c))))))) (ret (d:aC)))
def start (J:Pt->aH)(x0:aC):aH:=J (.p0 x0 0 x0 (x0.length:Int) 0)
def live:Nat->Live:=fun i=>match i with | 3=>[(0,none),(3,none),(9,none),(10,none),(11,none)] | 11=>[(6,none),(25,none),(26,none),(27,none)] | _=>[]
def md (a0:List (List Int)):List Int:=a0.flatten
def gd (a0:List (List Int)):Prop:=a0.length<=8/\∀x∈a0,x.length<=2^40
def R:=RR gd md
def aj {a0}(h:gd a0):R (a0.map (dF aZ))=some ((md a0).map aZ):=aO (a:=a0) h
def aW:=CN [pL 58] (oL 3) RT.dec R
def bw (a0)(hg:gd a0):∃n,start (iter step n) (a0.map (dF aZ))=ret ((md a0).map aZ):=by
 obtain ⟨hl,hx⟩:=hg
 have hs:∀i,i<=a0.length->((a0.take i).map List.length).sum<=i*2^40:=by
  intro i
  induction i with
  | zero=>intro _;simp
  | succ i ih=>
   intro hi
   rw [List.take_succ_eq_append_getElem (by omega)]
   have h1:=hx a0[i] (List.getElem_mem _)
   have h2:=ih (by omega)
   simp only [List.map_append,List.map_cons,List.map_nil,List.sum_append,List.sum_cons,List.sum_nil]
   omega
 have hstep:∀i (h:i<a0.length),((a0.take (i+1)).map List.length).sum=((a0.take i).map List.length).sum+a0[i].length:=by
  intro i hi
  rw [List.take_succ_eq_append_getElem (by omega)]
  simp only [List.map_append,List.map_cons,List.map_nil,List.sum_append,List.sum_cons,List.sum_nil]
  omega
 have hf:∀i,(a0.take i).flatten.length=((a0.take i).map List.length).sum:=fun i=>List.length_flatten
 have second:∀k i,i+k=a0.length->∃n,iter step n (Pt.p1 (a0.map (dF aZ)) (a0.length:Int) (i:Int) ((a0.take i).flatten.map aZ))=ret (a0.flatten.map aZ:aC):=by
  intro k
  induction k with
  | zero=>
   intro i hi
   obtain rfl:i=a0.length:=by omega
   refine ⟨1,?_⟩
   show step (iter step 0) (Pt.p1 _ _ _ _)=_
   simp only [step]
   refine cL (by simp) ?_
   rw [List.take_length]
  | succ k ih=>
   intro i hi
   obtain ⟨n,hn⟩:=ih (i+1) (by omega)
   refine ⟨n+1,?_⟩
   show step (iter step n) (Pt.p1 _ _ _ _)=_
   have hlt:i<a0.length:=by omega
   have b1:=hs (i+1) (by omega)
   have b2:=hstep i hlt
   simp only [step,List.length_map,cE,qS]
   refine ak (by simp;omega) (ak (by simp) (ak (by simp;omega) (ak (iy ?_) ?_)))
   ·rw [eF hlt,hf];omega
   ·rw [aG hlt (by simp only [maxLen];omega),eF hlt,<-List.map_append]
    have e:(a0.take i).flatten++a0[i]=(a0.take (i+1)).flatten:=by
     rw [List.take_succ_eq_append_getElem (by omega)]
     simp only [List.flatten_append,List.flatten_cons,List.flatten_nil,List.append_nil]
    rw [e];exact hn
 have first:∀k i,i+k=a0.length->∃n,iter step n (Pt.p0 (a0.map (dF aZ)) ((((a0.take i).map List.length).sum:Nat):Int) (a0.map (dF aZ)) (a0.length:Int) (i:Int))=ret (a0.flatten.map aZ:aC):=by
  intro k
  induction k with
  | zero=>
   intro i hi
   obtain rfl:i=a0.length:=by omega
   obtain ⟨n,hn⟩:=second a0.length 0 (by omega)
   refine ⟨n+1,?_⟩
   show step (iter step n) (Pt.p0 _ _ _ _ _)=_
   have b1:=hs a0.length (by omega)
   simp only [step]
   refine cL (by simp) (bp [] (Z150.aj ⟨by omega,by omega⟩) ?_)
   simpa using hn
  | succ k ih=>
   intro i hi
   obtain ⟨n,hn⟩:=ih (i+1) (by omega)
   refine ⟨n+1,?_⟩
   show step (iter step n) (Pt.p0 _ _ _ _ _)=_
   have hlt:i<a0.length:=by omega
   have b1:=hs (i+1) (by omega)
   have b2:=hstep i hlt
   simp only [step,List.length_map,cE,qS,eF hlt]
   have e:i64.wrap (((((a0.take i).map List.length).sum:Nat):Int)+(a0[i].length:Int))=((((a0.take (i+1)).map List.length).sum:Nat):Int):=by
    rw [Go.IntWalk.i64_in _ (by omega)];omega
   rw [e]
   refine ak (by simp;omega) (ak (by simp) (ak (by simp;omega) (cL (by simp) ?_)))
   rw [aG hlt (by simp only [maxLen];omega)]
   exact hn
 unfold md
 obtain ⟨n,hn⟩:=first a0.length 0 (by omega)
 refine ⟨n,?_⟩
 unfold start
 simpa using hn
def af:cy 300 aW:=L1 36 pid cj cg live step start mix aF bw (.cons Z150.af .nil) Tryz.func300
def len (a0:List (List Int)):(md a0).length=(a0.map List.length).sum:=by simp [md]
end Z151
namespace Z152
def F (x0:bX):aH:=(call (Z145.R x0.bO) fun v1=>(call (Z145.R x0.bA) fun v2=>(call (Z145.R x0.bt) fun v3=>(call (Z149.R x0.bC) fun v4=>(call (Z151.R [[L.sl [[L.int x0.bD],[L.int x0.cD],[L.int x0.bJ],[L.int x0.cA],[L.int x0.cu],[L.int x0.ck],[L.int x0.cQ],[L.int x0.dw]]],[L.sl v1],[L.sl v2],[L.sl [[L.int x0.cT]]],[L.sl v3],[L.sl [[L.int v4]]]]) fun v5=>ret (v5:aC))))))
def md (a0:aE):List Int:=(Z151.md [[a0.bD,a0.cD,a0.bJ,a0.cA,a0.cu,a0.ck,a0.cQ,a0.dw],(Z145.md a0.bO),(Z145.md a0.bA),[a0.cT],(Z145.md a0.bt),[(Z149.md a0.bC)]])
def gd (a0:aE):Prop:=(aE.Sm (2^21) a0)
def R:=RR gd md
def aj {a0}(h:gd a0):R (aE.r a0)=some ((md a0).map aZ):=aO (a:=a0) h
def aW:=CN [.agg fU] (oL 3) RT.dec R
def bw (a0)(hg:gd a0):F (aE.r a0)=ret ((md a0).map aZ):=by
 unfold gd at hg
 have H0:=hg
 unfold F md
 try simp only [SS]
 refine ct (Z145.aj H0.1) ?_
 try simp only [SS]
 refine ct (Z145.aj H0.2.1) ?_
 try simp only [SS]
 refine ct (Z145.aj H0.2.2) ?_
 try simp only [SS]
 refine ct (Z149.aj trivial) ?_
 refine bp ((Z151.md [[a0.bD,a0.cD,a0.bJ,a0.cA,a0.cu,a0.ck,a0.cQ,a0.dw],(Z145.md a0.bO),(Z145.md a0.bA),[a0.cT],(Z145.md a0.bt),[(Z149.md a0.bC)]]).map aZ) (rq (Z151.aj (a0:=[[a0.bD,a0.cD,a0.bJ,a0.cA,a0.cu,a0.ck,a0.cQ,a0.dw],(Z145.md a0.bO),(Z145.md a0.bA),[a0.cT],(Z145.md a0.bt),[(Z149.md a0.bC)]]) ⟨(by simp),(by
   have:=Z145.len a0.bO
   have:=(H0.1).1
   have:=Z145.len a0.bA
   have:=(H0.2.1).1
   have:=Z145.len a0.bt
   have:=(H0.2.2).1
   intro x_ hx_
   simp only [List.mem_cons,List.not_mem_nil,or_false] at hx_
   rcases hx_ with hx_ | hx_ | hx_ | hx_ | hx_ | hx_
   all_goals (subst hx_;first | omega | (simp only [LN];omega)))⟩)) ?_
 try simp only [SS]
 all_goals exact fz
def af:cy 275 aW:=W1 38 F mix aF bw (.cons Z145.af (.cons Z149.af (.cons Z151.af .nil))) Tryz.func275
def len (a0:aE):(md a0).length=16+a0.bO.aX.length+a0.bA.aX.length+a0.bt.aX.length:=by unfold md;simp [Z151.md,Z145.len];omega
def br (a0:aE):md a0=Z52.md a0:=by
 rw [Z52.sE]
 unfold md Z151.md
 simp only [Z145.br,Z149.md,List.flatten_cons,List.flatten_nil,List.cons_append,List.nil_append,List.append_nil]
end Z152
namespace Z153
def F (x0:Int)(x1:aC):aH:=(call (Z151.R [[L.sl [[L.int x0]]],[L.sl x1],[L.sl [[L.int x0]]]]) fun v1=>(call (Z147.R v1) fun v2=>ret (v2:Int)))
def md (a0:Int)(a1:List Int):Int:=((Z147.md (Z151.md [[a0],a1,[a0]])):Int)
def gd (a0:Int)(a1:List Int):Prop:=(bM (2^40) (fun y:Int=>True) a1)
def R:=RR (p2 gd) (u2 md)
def aj {a0 a1}(h:gd a0 a1):R (a0,(a1.map aZ))=some (md a0 a1):=aO (a:=(a0,a1)) h
def aW:=CN [pI,pL 3] oI RT.dec R
def bw (a0)(a1)(hg:gd a0 a1):F a0 (a1.map aZ)=ret (md a0 a1):=by
 unfold gd at hg
 have H1:=hg
 unfold F md
 try simp only [SS]
 refine bp ((Z151.md [[a0],a1,[a0]]).map aZ) (rq (Z151.aj (a0:=[[a0],a1,[a0]]) ⟨(by simp),(by
   have:=(H1).1
   intro x_ hx_
   simp only [List.mem_cons,List.not_mem_nil,or_false] at hx_
   rcases hx_ with hx_ | hx_ | hx_
   all_goals (subst hx_;first | omega | (simp only [LN];omega)))⟩)) ?_
 try simp only [SS]
 refine ct (Z147.aj ⟨(by
   have:=Z151.len [[a0],a1,[a0]]
   try simp only [LN] at this
   have:=(H1).1
   exact om),fun _ _=>trivial⟩) ?_
 all_goals exact fz
def af:cy 321 aW:=W2 13 F mix aF bw (.cons Z151.af (.cons Z147.af .nil)) Tryz.func321
def br (a0:Int)(a1:List Int):md a0 a1=Z53.md a0 a1:=by
 unfold md Z53.md
 first
 | (simp only [Z147.br];done)
 | (simp only [Z147.br];rfl)
 | rfl
end Z153
namespace Z154
def F (x0:Int)(x1:aC):aH:=(bZ (eP (((1:Int)+(x1.length:Int))*8)) (call (Z153.R (x0,([[L.int 223]]++x1))) fun v1=>ret (v1:Int)))
def md (a0:Int)(a1:List Int):Int:=((Z153.md a0 ([223]++a1)):Int)
def gd (a0:Int)(a1:List Int):Prop:=(bM (2^39) (fun y:Int=>True) a1)
def R:=RR (p2 gd) (u2 md)
def aj {a0 a1}(h:gd a0 a1):R (a0,(a1.map aZ))=some (md a0 a1):=aO (a:=(a0,a1)) h
def aW:=CN [pI,pL 3] oI RT.dec R
def bw (a0)(a1)(hg:gd a0 a1):F a0 (a1.map aZ)=ret (md a0 a1):=by
 unfold gd at hg
 have H1:=hg
 unfold F md
 try simp only [SS]
 refine ak (have:=(H1).1;lm) ?_
 refine bp (Z153.md a0 ([223]++a1)) (rq (Z153.aj (a0:=a0) (a1:=([223]++a1)) ⟨(have:=(H1).1;om),fun _ _=>trivial⟩)) ?_
 all_goals exact fz
def af:cy 320 aW:=W2 10 F mix aF bw (.cons Z153.af .nil) Tryz.func320
def br (a0:Int)(a1:List Int):md a0 a1=Z54.md a0 a1:=by
 unfold md Z54.md
 first
 | (simp only [Z153.br];done)
 | (simp only [Z153.br];rfl)
 | rfl
end Z154
namespace Z155
def F (x0:bk)(x1:aC):aH:=(call (Z139.R x0.gI) fun v1=>(cond v1 (call (Z154.R (x0.gI,x1)) fun v2=>ret ((x0.jc==v2):Bool)) bh))
def md (a0:bk)(a1:List Int):Bool:=(cond (Z139.md a0.gI) ((a0.jc==(Z154.md a0.gI a1)):Bool) (false:Bool))
def gd (a0:bk)(a1:List Int):Prop:=(bM (2^38) (fun y:Int=>True) a1)
def R:=RR (p2 gd) (u2 md)
def aj {a0 a1}(h:gd a0 a1):R (a0,(a1.map aZ))=some (md a0 a1):=aO (a:=(a0,a1)) h
def aW:=CN [.agg xW,pL 3] oB RT.dec R
def bw (a0)(a1)(hg:gd a0 a1):F a0 (a1.map aZ)=ret (md a0 a1):=by
 unfold gd at hg
 have H1:=hg
 unfold F md
 try simp only [SS]
 refine ct (Z139.aj trivial) ?_
 refine au ret (fun c1=>?_) (fun _=>rfl)
 refine ct (Z154.aj (H1.mono (by decide) (fun x hx=>trivial))) ?_
 all_goals exact fz
def af:cy 318 aW:=W2 17 F mix aF bw (.cons Z139.af (.cons Z154.af .nil)) Tryz.func318
def br (a0:bk)(a1:List Int):md a0 a1=Z55.md a0 a1:=by
 unfold md Z55.md
 first
 | (simp only [Z154.br];done)
 | (simp only [Z154.br];rfl)
 | rfl
end Z155
namespace Z156
def F (x0:bk)(x1 x2:List L):aH:=(cond (x0.gI==(gi x1)) (call (Z155.R (x0,(me x2))) fun v1=>ret (v1:Bool)) bh)
def pats:List gj:=[.agg [aB,aB],.ptr [aB],.ptr [.sl 3]]
def res:RP:=.one (.rd (.bool))
def md (a0:bk)(a1:Int)(a2:List Int):Bool:=(cond (a0.gI==a1) ((Z155.md a0 a2):Bool) (false:Bool))
def gd (a0:bk)(a1:Int)(a2:List Int):Prop:=(bM (2^38) (fun y:Int=>True) a2)
def acc (ls:List L):bk×Int×aC:=((bk.dec ls),(gi (cJ 1 (aA 2 ls))),(me (cJ 1 (aA 3 ls))))
def R:(bk×Int×aC)->Option Bool:=RR (p3 gd) (u3 md)
def aj {a0 a1 a2}(h:gd a0 a1 a2):R (a0,a1,(a2.map aZ))=some (md a0 a1 a2):=aO (a:=(a0,a1,a2)) h
def aW:fT:=CN pats res acc R
def bw (a0:bk)(a1:Int)(a2:List Int)(p1 p2:List L)(e1:a1=(gi p1))(e2:(a2.map aZ)=(me p2))(hg:gd a0 a1 a2):F a0 p1 p2=ret ((md a0 a1 a2):Bool):=by
 unfold gd at hg
 have H2:=hg
 unfold F md
 try simp only [SS,<-e1,<-e2]
 refine au ret (fun c1=>?_) (fun _=>rfl)
 refine ct (Z155.aj H2) ?_
 all_goals exact fz
def ox (ls:List L)(a:bk×Int×List Int)(e:acc ls=Im.im a)(hg:(p3 gd) a):∃n:Nat,F (bk.dec ls) (cJ 1 (aA 2 ls)) (cJ 1 (aA 3 ls))=ret (Im.im ((u3 md) a)):=by
 have e0:a.1=(bk.dec ls):=(congrArg (fun x=>x.1) e.symm)
 have hn:=bw a.1 a.2.1 a.2.2 (cJ 1 (aA 2 ls)) (cJ 1 (aA 3 ls)) (congrArg (fun x=>x.2.1) e.symm) (congrArg (fun x=>x.2.2) e.symm) hg
 refine ⟨0,?_⟩
 rw [<-e0]
 exact hn
def af:cy 317 aW:=VP (live:=fun _=>[]) (nt:=14) (accr:=fun ls=>((bk.dec ls),(cJ 1 (aA 2 ls)),(cJ 1 (aA 3 ls)))) (run:=fun _ x=>F x.1 x.2.1 x.2.2) mix aF (.cons Z155.af .nil) Tryz.func317 (by kernel_rfl) (fun _ _=>by kernel_rfl) (fun ls a _ e hg=>ox ls a e hg)
end Z156
namespace Z157
inductive Pt where
 | p0 (a:aC) (b c:List L) (d e:Int)
def pid:Pt->Nat
 | .p0 ..=>2
def cj:Pt->List V
 | .p0 a b c d e=>[.sl none 190 a,.fn 317 [.dB none [aB] b 0,.dB none [.sl 3] c 0],.int .i64 d,.int .i64 e]
def cg:Pt->List aV
 | .p0 a b c d e=>[]
def step (J:Pt->aH):Pt->aH
 | .p0 a b c d e=>(cond (decide (e<d)) (m2 e (a.length:Int) (call (Z156.R ((bk.at a (toNat e)),(gi b),(me c))) fun v1=>(cond v1 (ret (e:Int)) (J (.p0 a b c d (i64.wrap (e+1))))))) (ret ((-1):Int)))
def start (J:Pt->aH)(x0:aC)(x1 x2:List L):aH:=J (.p0 x0 x1 x2 (x0.length:Int) 0)
def live:Nat->Live:=fun i=>match i with | 2=>[(0,none),(1,none),(7,none),(8,none)] | _=>[]
def pats:List gj:=[.rd (.sl 190),.fn 317 [[aB],[.sl 3]]]
def res:RP:=.one (.rd (.int .i64))
abbrev E:Env:={ T:=assoc kL,G:=dm [(317,Z156.aW)],nt:=19 }
def step_eq (I:cH)(p:Pt):cR E live I (pid p) (bQ Tryz.f319) (fE (live (pid p)) (cj p) (cg p)) (cG E Tryz.f319 res)=step (fun q=>I (pid q) (cj q) (cg q)) p:=by
 cases p<;>kernel_rfl
def start_eq (I:cH)(ls:List L):eS E live I (bQ Tryz.f319) (cW pats ls) (cG E Tryz.f319 res)=start (fun q=>I (pid q) (cj q) (cg q)) (ls.headD .hole).aS (cJ 1 (aA 1 ls)) (cJ 1 (aA 2 ls)):=by kernel_rfl
def run_eq (n:Nat)(ls:List L):eN E live Tryz.f319 res n (cW pats ls)=start (iter step n) (ls.headD .hole).aS (cJ 1 (aA 1 ls)) (cJ 1 (aA 2 ls)):=cB (id:=pid) (vs:=cj) (hs:=cg) (step:=step) (start:=fun J=>start J (ls.headD .hole).aS (cJ 1 (aA 1 ls)) (cJ 1 (aA 2 ls))) step_eq (fun I=>start_eq I ls) n
def md (a0:List bk)(a1:Int)(a2:List Int):Int:=(dR (S:=Unit) (β:=Int) (fun (i1:Nat) (y1:bk) (s3:Unit)=>(cond (Z156.md y1 a1 a2) (.inr ((i1:Int):Int)) (.inl ()))) (fun (s3:Unit)=>((-1):Int)) 0 a0 ())
def gd (a0:List bk)(a1:Int)(a2:List Int):Prop:=(bM (2^21) (fun y:bk=>bk.Sm (2^21) y) a0)/\(bM (2^38) (fun y:Int=>True) a2)
def acc (ls:List L):aC×Int×aC:=((ls.headD .hole).aS,(gi (cJ 1 (aA 1 ls))),(me (cJ 1 (aA 2 ls))))
def R:(aC×Int×aC)->Option Int:=RR (p3 gd) (u3 md)
def aj {a0 a1 a2}(h:gd a0 a1 a2):R ((a0.map bk.row),a1,(a2.map aZ))=some (md a0 a1 a2):=aO (a:=(a0,a1,a2)) h
def aW:fT:=CN pats res acc R
def bw (a0:List bk)(a1:Int)(a2:List Int)(p1 p2:List L)(e1:a1=(gi p1))(e2:(a2.map aZ)=(me p2))(hg:gd a0 a1 a2):∃n,start (iter step n) (a0.map bk.row) p1 p2=ret ((md a0 a1 a2):Int):=by
 obtain ⟨H0,H2⟩:=hg
 unfold start md
 try simp only [SS,<-e1,<-e2]
 have Bh2:a0.length<=maxLen:=(by
   have:=(H0).1
   try simp only [maxLen] at *
   omega)
 refine ex_eq (out:=ret) (cU (z:=bk.zero)) ?_
 refine dM (p:=Pt.p0 (a0.map bk.row) p1 p2 (a0.length:Int) 0) fz ?_
 refine cm (pt:=fun (i1:Nat) (s3:Unit)=>Pt.p0 (a0.map bk.row) p1 p2 (a0.length:Int) (i1:Int)) (s:=(():Unit)) (out:=ret) (fun _ _=>True) (fun J i1 s3 h2 hih2=>?_) (fun s3 hih2=>?_) trivial
 ·simp only [step,SS,<-e1,<-e2]
  have bb_:=Bh2
  simp only [maxLen] at bb_
  have:=(H0).1
  refine bz.yes (by apply decide_eq_true;omega) ?_
  refine bz.yes aJ ?_
  refine bz.yes (aN h2) ?_
  refine cr (Z156.aj H2) ?_
  refine bz.bif (fun c4=>?_) (fun c4=>?_)
  ·refine bz.inr ?_
   all_goals exact fz
  ·refine bz.inl trivial ?_
   rw [aG h2 Bh2]
   all_goals exact fz
 ·simp only [step,SS,<-e1,<-e2]
  have:=(H0).1
  refine dx (by apply decide_eq_false;omega) ?_
  refine ⟨0,?_⟩
  all_goals exact fz
def ox (ls:List L)(a:List bk×Int×List Int)(e:acc ls=Im.im a)(hg:(p3 gd) a):∃n:Nat,start (iter step n) ((ls.headD .hole).aS) (cJ 1 (aA 1 ls)) (cJ 1 (aA 2 ls))=ret (Im.im ((u3 md) a)):=by
 have e0:(a.1.map bk.row)=(ls.headD .hole).aS:=(congrArg (fun x=>x.1) e.symm)
 obtain ⟨n,hn⟩:=bw a.1 a.2.1 a.2.2 (cJ 1 (aA 1 ls)) (cJ 1 (aA 2 ls)) (congrArg (fun x=>x.2.1) e.symm) (congrArg (fun x=>x.2.2) e.symm) hg
 refine ⟨n,?_⟩
 rw [<-e0]
 exact hn
def af:cy 319 aW:=VP (accr:=fun ls=>((ls.headD .hole).aS,(cJ 1 (aA 1 ls)),(cJ 1 (aA 2 ls)))) (run:=fun n x=>start (iter step n) x.1 x.2.1 x.2.2) mix aF (.cons Z156.af .nil) Tryz.func319 (by kernel_rfl) run_eq (fun ls a _ e hg=>ox ls a e hg)
def fa (a0:List bk)(a1:Int)(a2:List Int):-1<=md a0 a1 a2/\md a0 a1 a2<(a0.length:Int):=by
 unfold md
 refine fW ?_ _ _
 all_goals
  intro i x s b h
  revert h
  simp only [Bool.cond_eq_ite]
  repeat' split
  all_goals (intro h;first | (cases h;rfl) | cases h)
def idx_eq (a0:List bk)(a1:Int)(a2:List Int):md a0 a1 a2=iL (fun y=>Z156.md y a1 a2) 0 a0:=by
 unfold md
 exact gN
end Z157
namespace Z158
def F (x0:aC)(x1 x2:List L):aH:=(call (Z157.R (x0,(gi x1),(me x2))) fun v1=>ret ((decide (v1>=0)):Bool))
def pats:List gj:=[.rd (.sl 190),.fn 317 [[aB],[.sl 3]]]
def res:RP:=.one (.rd (.bool))
def md (a0:List bk)(a1:Int)(a2:List Int):Bool:=((decide ((Z157.md a0 a1 a2)>=0)):Bool)
def gd (a0:List bk)(a1:Int)(a2:List Int):Prop:=(bM (2^21) (fun y:bk=>bk.Sm (2^21) y) a0)/\(bM (2^38) (fun y:Int=>True) a2)
def acc (ls:List L):aC×Int×aC:=((ls.headD .hole).aS,(gi (cJ 1 (aA 1 ls))),(me (cJ 1 (aA 2 ls))))
def R:(aC×Int×aC)->Option Bool:=RR (p3 gd) (u3 md)
def aj {a0 a1 a2}(h:gd a0 a1 a2):R ((a0.map bk.row),a1,(a2.map aZ))=some (md a0 a1 a2):=aO (a:=(a0,a1,a2)) h
def aW:fT:=CN pats res acc R
def bw (a0:List bk)(a1:Int)(a2:List Int)(p1 p2:List L)(e1:a1=(gi p1))(e2:(a2.map aZ)=(me p2))(hg:gd a0 a1 a2):F (a0.map bk.row) p1 p2=ret ((md a0 a1 a2):Bool):=by
 obtain ⟨H0,H2⟩:=hg
 unfold F md
 try simp only [SS,<-e1,<-e2]
 refine ct (Z157.aj ⟨H0,H2⟩) ?_
 have fv1_:=Z157.fa a0 a1 a2
 all_goals exact fz
def ox (ls:List L)(a:List bk×Int×List Int)(e:acc ls=Im.im a)(hg:(p3 gd) a):∃n:Nat,F ((ls.headD .hole).aS) (cJ 1 (aA 1 ls)) (cJ 1 (aA 2 ls))=ret (Im.im ((u3 md) a)):=by
 have e0:(a.1.map bk.row)=(ls.headD .hole).aS:=(congrArg (fun x=>x.1) e.symm)
 have hn:=bw a.1 a.2.1 a.2.2 (cJ 1 (aA 1 ls)) (cJ 1 (aA 2 ls)) (congrArg (fun x=>x.2.1) e.symm) (congrArg (fun x=>x.2.2) e.symm) hg
 refine ⟨0,?_⟩
 rw [<-e0]
 exact hn
def af:cy 316 aW:=VP (live:=fun _=>[]) (nt:=9) (accr:=fun ls=>((ls.headD .hole).aS,(cJ 1 (aA 1 ls)),(cJ 1 (aA 2 ls)))) (run:=fun _ x=>F x.1 x.2.1 x.2.2) mix aF (.cons Z157.af .nil) Tryz.func316 (by kernel_rfl) (fun _ _=>by kernel_rfl) (fun ls a _ e hg=>ox ls a e hg)
def any_eq (a0:List bk)(a1:Int)(a2:List Int):md a0 a1 a2=a0.any (fun y=>Z156.md y a1 a2):=by
 unfold md
 rw [Z157.idx_eq]
 exact qa
end Z158
namespace Z159
inductive Pt where
 | p0 (a:aC) (b:Int) (c:aC) (d e:Int) (f:aC)
def pid:Pt->Nat
 | .p0 ..=>3
def cj:Pt->List V
 | .p0 a b c d e f=>[.sl none 190 a,.cK 0 0,.int .i64 b,.sl none 3 c,.int .i64 d,.int .i64 e]
def cg:Pt->List aV
 | .p0 a b c d e f=>[.box [.sl none 3 f]]
def step (J:Pt->aH):Pt->aH
 | .p0 a b c d e f=>(cond (decide (e<d)) (m2 e (c.length:Int) (call (Z158.R (a,(jh c (toNat e)),f)) fun v1=>(cond v1 (J (.p0 a (i64.wrap (b+1)) c d (i64.wrap (e+1)) f)) (J (.p0 a b c d (i64.wrap (e+1)) f))))) (ret (b:Int)))
def start (J:Pt->aH)(x0:bB)(x1 x2:aC):aH:=J (.p0 x2 0 x0.aX (x0.aX.length:Int) 0 x1)
def live:Nat->Live:=fun i=>match i with | 3=>[(2,none),(4,none),(7,none),(11,none),(12,none),(13,none)] | _=>[]
def md (a0:aM)(a1:List Int)(a2:List bk):Int:=(dS (S:=Int) (β:=Int) (fun (y1:Int) (s3:Int)=>(cond (Z158.md a2 y1 a1) (.inl (i64.wrap (s3+1))) (.inl s3))) (fun (s3:Int)=>(s3:Int)) a0.aX 0)
def gd (a0:aM)(a1:List Int)(a2:List bk):Prop:=(aM.Sm (2^21) a0)/\(bM (2^38) (fun y:Int=>True) a1)/\(bM (2^21) (fun y:bk=>bk.Sm (2^21) y) a2)
def R:=RR (p3 gd) (u3 md)
def aj {a0 a1 a2}(h:gd a0 a1 a2):R ((aM.r a0),(a1.map aZ),(a2.map bk.row))=some (md a0 a1 a2):=aO (a:=(a0,a1,a2)) h
def aW:=CN [.agg iP,pL 3,pL 190] oI RT.dec R
def bw (a0)(a1)(a2)(hg:gd a0 a1 a2):∃n,start (iter step n) (aM.r a0) (a1.map aZ) (a2.map bk.row)=ret (md a0 a1 a2):=by
 obtain ⟨H0,H1,H2⟩:=hg
 unfold start md
 try simp only [SS]
 have Bh2:a0.aX.length<=maxLen:=(by
   have:=(H0).1
   try simp only [maxLen] at *
   omega)
 refine ex_eq (out:=ret) (eC (z:=0)) ?_
 refine dM (p:=Pt.p0 (a2.map bk.row) 0 (a0.aX.map aZ) (a0.aX.length:Int) 0 (a1.map aZ)) fz ?_
 refine cm (pt:=fun (i1:Nat) (s3:Int)=>Pt.p0 (a2.map bk.row) s3 (a0.aX.map aZ) (a0.aX.length:Int) (i1:Int) (a1.map aZ)) (s:=(0:Int)) (out:=ret) (fun _ _=>True) (fun J i1 s3 h2 hih2=>?_) (fun s3 hih2=>?_) trivial
 ·simp only [step,SS]
  have bb_:=Bh2
  simp only [maxLen] at bb_
  have:=(H0).1
  refine bz.yes (by apply decide_eq_true;omega) ?_
  refine bz.yes aJ ?_
  refine bz.yes (aN h2) ?_
  refine cr (Z158.aj ⟨H2,H1⟩) ?_
  refine bz.bif (fun c4=>?_) (fun c4=>?_)
  ·refine bz.inl trivial ?_
   rw [aG h2 Bh2]
   all_goals exact fz
  ·refine bz.inl trivial ?_
   rw [aG h2 Bh2]
   all_goals exact fz
 ·simp only [step,SS]
  have:=(H0).1
  refine dx (by apply decide_eq_false;omega) ?_
  refine ⟨0,?_⟩
  all_goals exact fz
def af:cy 309 aW:=L3 24 pid cj cg live step start mix aF bw (.cons Z158.af .nil) Tryz.func309
def br (a0:aM)(a1:List Int)(a2:List bk):md a0 a1 a2=Z56.md a0 a1 a2:=by
 unfold md Z56.md
 refine oN (fun x _ s=>?_) (fun s=>rfl)
 rw [Z158.any_eq]
 refine Eq.trans ?_ (mU (β:=Int⊕Int) (p:=fun y=>Z156.md y x a1) (b:=Sum.inl (i64.wrap (s+1))) (c:=Sum.inl s) (fun y s'=>?_) a2 ()).symm
 ·cases a2.any (fun y=>Z156.md y x a1)<;>rfl
 ·unfold Z156.md
  simp only [Z155.br]
  cases y.gI==x<;>cases Z55.md y a1<;>rfl
end Z159
namespace Z160
def F (x0:bB)(x1 x2:aC):aH:=(call (Z140.R x0) fun v1=>(cond v1 (call (Z159.R (x0,x1,x2)) fun v2=>ret ((decide (v2>=x0.cz)):Bool)) bh))
def md (a0:aM)(a1:List Int)(a2:List bk):Bool:=(cond (Z140.md a0) ((decide ((Z159.md a0 a1 a2)>=a0.cz)):Bool) (false:Bool))
def gd (a0:aM)(a1:List Int)(a2:List bk):Prop:=(aM.Sm (2^21) a0)/\(bM (2^38) (fun y:Int=>True) a1)/\(bM (2^21) (fun y:bk=>bk.Sm (2^21) y) a2)
def R:=RR (p3 gd) (u3 md)
def aj {a0 a1 a2}(h:gd a0 a1 a2):R ((aM.r a0),(a1.map aZ),(a2.map bk.row))=some (md a0 a1 a2):=aO (a:=(a0,a1,a2)) h
def aW:=CN [.agg iP,pL 3,pL 190] oB RT.dec R
def bw (a0)(a1)(a2)(hg:gd a0 a1 a2):F (aM.r a0) (a1.map aZ) (a2.map bk.row)=ret (md a0 a1 a2):=by
 obtain ⟨H0,H1,H2⟩:=hg
 unfold F md
 try simp only [SS]
 refine ct (Z140.aj H0) ?_
 refine au ret (fun c1=>?_) (fun _=>rfl)
 refine ct (Z159.aj ⟨H0,H1,H2⟩) ?_
 all_goals exact fz
def af:cy 295 aW:=W3 18 F mix aF bw (.cons Z140.af (.cons Z159.af .nil)) Tryz.func295
def br (a0:aM)(a1:List Int)(a2:List bk):md a0 a1 a2=Z57.md a0 a1 a2:=by
 unfold md Z57.md
 first
 | (simp only [Z140.br,Z159.br];done)
 | (simp only [Z140.br,Z159.br];rfl)
 | rfl
end Z160
namespace Z161
def F (x0:aP)(x1:bB):aH:=(call (Z152.R x0.an) fun v1=>(call (Z160.R (x1,v1,x0.bY)) fun v2=>ret (v2:Bool)))
def md (a0:aa)(a1:aM):Bool:=((Z160.md a1 (Z152.md a0.an) a0.bY):Bool)
def gd (a0:aa)(a1:aM):Prop:=(aa.Sm (2^21) a0)/\(aM.Sm (2^21) a1)
def R:=RR (p2 gd) (u2 md)
def aj {a0 a1}(h:gd a0 a1):R ((aa.r a0),(aM.r a1))=some (md a0 a1):=aO (a:=(a0,a1)) h
def aW:=CN [.agg kD,.agg iP] oB RT.dec R
def bw (a0)(a1)(hg:gd a0 a1):F (aa.r a0) (aM.r a1)=ret (md a0 a1):=by
 obtain ⟨H0,H1⟩:=hg
 unfold F md
 try simp only [SS]
 refine ct (Z152.aj H0.1) ?_
 try simp only [SS]
 refine ct (Z160.aj ⟨H1,⟨(have:=Z152.len a0.an;have:=(H0.1.1).1;have:=(H0.1.2.1).1;have:=(H0.1.2.2).1;om),fun _ _=>trivial⟩,H0.2⟩) ?_
 all_goals exact fz
def af:cy 271 aW:=W2 12 F mix aF bw (.cons Z152.af (.cons Z160.af .nil)) Tryz.func271
end Z161
namespace Z162
def F (x0:aP):aH:=(call (Z144.R x0.an) fun v1=>(cond v1 (cond (x0.an.cD==0) (cond (x0.an.bJ==1) (cond (!x0.an.bC) (call (Z148.R (x0.an.bO,x0.an.dw)) fun v2=>(cond (x0.an.bD==v2) (call (Z161.R (x0,x0.an.bO)) fun v3=>ret (v3:Bool)) bh)) bh) bh) bh) bh))
def md (a0:aa):Bool:=(cond (Z144.md a0.an) (cond (a0.an.cD==0) (cond (a0.an.bJ==1) (cond (!a0.an.bC) (cond (a0.an.bD==(Z148.md a0.an.bO a0.an.dw)) ((Z161.md a0 a0.an.bO):Bool) (false:Bool)) (false:Bool)) (false:Bool)) (false:Bool)) (false:Bool))
def gd (a0:aa):Prop:=(aa.Sm (2^21) a0)
def R:=RR gd md
def aj {a0}(h:gd a0):R (aa.r a0)=some (md a0):=aO (a:=a0) h
def aW:=CN [.agg kD] oB RT.dec R
def bw (a0)(hg:gd a0):F (aa.r a0)=ret (md a0):=by
 unfold gd at hg
 have H0:=hg
 unfold F md
 try simp only [SS]
 refine ct (Z144.aj H0.1) ?_
 refine au ret (fun c1=>?_) (fun _=>rfl)
 refine au ret (fun c2=>?_) (fun _=>rfl)
 refine au ret (fun c3=>?_) (fun _=>rfl)
 refine au ret (fun c4=>?_) (fun _=>rfl)
 refine ct (Z148.aj H0.1.1) ?_
 refine au ret (fun c5=>?_) (fun _=>rfl)
 refine ct (Z161.aj ⟨H0,H0.1.1⟩) ?_
 all_goals exact fz
def af:cy 242 aW:=W1 39 F mix aF bw (.cons Z144.af (.cons Z148.af (.cons Z161.af .nil))) Tryz.func242
def br (a0:aa):md a0=Z58.md a0:=by
 unfold md Z58.md
 simp only [Z161.md,Z160.br,Z152.br,Z144.br,Z148.br]
end Z162
namespace Z163
def F (x0:bX):aH:=(call (Z152.R x0) fun v1=>(bZ (eP (((1:Int)+(v1.length:Int))*8)) (call (Z147.R ([[L.int 233]]++v1)) fun v2=>ret (v2:Int))))
def md (a0:aE):Int:=((Z147.md ([233]++(Z152.md a0))):Int)
def gd (a0:aE):Prop:=(aE.Sm (2^21) a0)
def R:=RR gd md
def aj {a0}(h:gd a0):R (aE.r a0)=some (md a0):=aO (a:=a0) h
def aW:=CN [.agg fU] oI RT.dec R
def bw (a0)(hg:gd a0):F (aE.r a0)=ret (md a0):=by
 unfold gd at hg
 have H0:=hg
 unfold F md
 try simp only [SS]
 refine ct (Z152.aj H0) ?_
 try simp only [SS]
 refine ak (have:=Z152.len a0;have:=(H0.1).1;have:=(H0.2.1).1;have:=(H0.2.2).1;lm) ?_
 refine bp (Z147.md ([233]++(Z152.md a0))) (rq (Z147.aj (a0:=([233]++(Z152.md a0))) ⟨(have:=Z152.len a0;have:=(H0.1).1;have:=(H0.2.1).1;have:=(H0.2.2).1;om),fun _ _=>trivial⟩)) ?_
 all_goals exact fz
def af:cy 310 aW:=W1 8 F mix aF bw (.cons Z152.af (.cons Z147.af .nil)) Tryz.func310
def br (a0:aE):md a0=Z59.md a0:=by
 unfold md Z59.md
 first
 | (simp only [Z152.br,Z147.br];done)
 | (simp only [Z152.br,Z147.br];rfl)
 | rfl
end Z163
namespace Z164
def F (x0 x1:bX):aH:=(cond (x1.bD==x0.bD) (cond (x1.cD==(i64.wrap (x0.cD+1))) (call (Z163.R x0) fun v1=>(cond (x1.dw==v1) (ret ((decide (x1.cA>=x0.cA)):Bool)) bh)) bh) bh)
def md (a0 a1:aE):Bool:=(cond (a1.bD==a0.bD) (cond (a1.cD==(i64.wrap (a0.cD+1))) (cond (a1.dw==(Z163.md a0)) ((decide (a1.cA>=a0.cA)):Bool) (false:Bool)) (false:Bool)) (false:Bool))
def gd (a0 a1:aE):Prop:=(aE.Sm (2^21) a0)
def R:=RR (p2 gd) (u2 md)
def aj {a0 a1}(h:gd a0 a1):R ((aE.r a0),(aE.r a1))=some (md a0 a1):=aO (a:=(a0,a1)) h
def aW:=CN [.agg fU,.agg fU] oB RT.dec R
def bw (a0)(a1)(hg:gd a0 a1):F (aE.r a0) (aE.r a1)=ret (md a0 a1):=by
 unfold gd at hg
 have H0:=hg
 unfold F md
 try simp only [SS]
 refine au ret (fun c1=>?_) (fun _=>rfl)
 refine au ret (fun c2=>?_) (fun _=>rfl)
 refine ct (Z163.aj H0) ?_
 refine au ret (fun c3=>?_) (fun _=>rfl)
 all_goals exact fz
def af:cy 296 aW:=W2 32 F mix aF bw (.cons Z163.af .nil) Tryz.func296
end Z164
namespace Z165
def F (x0:bX)(x1:aP):aH:=(cond x0.bC (ret (4:Int)) (cond x1.an.bC (ret (6:Int)) (call (Z161.R (x1,x0.bO)) fun v1=>(cond (!v1) (ret (7:Int)) (ret (1:Int))))))
def md (a0:aE)(a1:aa):Int:=(cond a0.bC (4:Int) (cond a1.an.bC (6:Int) (cond (!(Z161.md a1 a0.bO)) (7:Int) (1:Int))))
def gd (a0:aE)(a1:aa):Prop:=(aE.Sm (2^21) a0)/\(aa.Sm (2^21) a1)
def R:=RR (p2 gd) (u2 md)
def aj {a0 a1}(h:gd a0 a1):R ((aE.r a0),(aa.r a1))=some (md a0 a1):=aO (a:=(a0,a1)) h
def aW:=CN [.agg fU,.agg kD] oI RT.dec R
def bw (a0)(a1)(hg:gd a0 a1):F (aE.r a0) (aa.r a1)=ret (md a0 a1):=by
 obtain ⟨H0,H1⟩:=hg
 unfold F md
 try simp only [SS]
 refine au ret (fun _=>rfl) (fun c1=>?_)
 refine au ret (fun _=>rfl) (fun c2=>?_)
 refine ct (Z161.aj ⟨H1,H0.1⟩) ?_
 refine au ret (fun _=>rfl) (fun _=>rfl)
def af:cy 297 aW:=W2 18 F mix aF bw (.cons Z161.af .nil) Tryz.func297
end Z165
namespace Z166
inductive Pt where
 | p0 (a b:aC) (c d:Int)
def pid:Pt->Nat
 | .p0 ..=>4
def cj:Pt->List V
 | .p0 a b c d=>[.sl none 3 a,.sl none 3 b,.int .i64 c,.int .i64 d]
def cg:Pt->List aV
 | .p0 a b c d=>[]
def step (J:Pt->aH):Pt->aH
 | .p0 a b c d=>(cond (decide (d<c)) (m2 d (a.length:Int) (m2 d (b.length:Int) (cond ((jh a (toNat d)) != (jh b (toNat d))) bh (J (.p0 a b c (i64.wrap (d+1))))))) eI)
def start (J:Pt->aH)(x0 x1:aC):aH:=(cond ((x0.length:Int) != (x1.length:Int)) bh (J (.p0 x0 x1 (x0.length:Int) 0)))
def live:Nat->Live:=fun i=>match i with | 4=>[(0,none),(1,none),(12,none),(13,none)] | _=>[]
def md (a0 a1:List Int):Bool:=(bif ((a0.length:Int) != (a1.length:Int)) then (false:Bool) else (ec (S:=Unit) (β:=Bool) (fun (i2:Nat) (s4:Unit)=>(cond ((a0.getD i2 0) != (a1.getD i2 0)) (.inr (false:Bool)) (.inl ()))) (fun (s4:Unit)=>(true:Bool)) a0.length 0 ()))
def gd (a0 a1:List Int):Prop:=(bM (2^38) (fun y:Int=>True) a0)/\(bM (2^38) (fun y:Int=>True) a1)
def R:=RR (p2 gd) (u2 md)
def aj {a0 a1}(h:gd a0 a1):R ((a0.map aZ),(a1.map aZ))=some (md a0 a1):=aO (a:=(a0,a1)) h
def aW:=CN [pL 3,pL 3] oB RT.dec R
def bw (a0)(a1)(hg:gd a0 a1):∃n,start (iter step n) (a0.map aZ) (a1.map aZ)=ret (md a0 a1):=by
 obtain ⟨H0,H1⟩:=hg
 unfold start md
 try simp only [SS]
 refine gP ret (fun _=>⟨0,rfl⟩) (fun c1=>?_)
 have dc1:=c1
 try simp only [DC] at dc1
 have Bh3:a0.length<=maxLen:=(by
   have:=(H0).1
   try simp only [maxLen] at *
   omega)
 refine dM (p:=Pt.p0 (a0.map aZ) (a1.map aZ) (a0.length:Int) 0) fz ?_
 refine cm (pt:=fun (i2:Nat) (s4:Unit)=>Pt.p0 (a0.map aZ) (a1.map aZ) (a0.length:Int) (i2:Int)) (s:=(():Unit)) (out:=ret) (fun _ _=>True) (fun J i2 s4 h3 hih3=>?_) (fun s4 hih3=>?_) trivial
 ·simp only [step,SS]
  have bb_:=Bh3
  simp only [maxLen] at bb_
  have:=(H0).1
  refine bz.yes (by apply decide_eq_true;omega) ?_
  refine bz.yes aJ ?_
  refine bz.yes (aN h3) ?_
  refine bz.yes aJ ?_
  refine bz.yes (have:=(H1).1;dt) ?_
  refine bz.bif (fun _=>bz.inr rfl) (fun c5=>?_)
  refine bz.inl trivial ?_
  rw [aG h3 Bh3]
  all_goals exact fz
 ·simp only [step,SS]
  have:=(H0).1
  refine dx (by apply decide_eq_false;omega) ?_
  refine ⟨0,?_⟩
  all_goals exact fz
def af:cy 274 aW:=L2 26 pid cj cg live step start mix aF bw .nil Tryz.func274
def md_eq (a0 a1:List Int):md a0 a1=dV a0 a1:=by
 unfold md
 refine jZ (0) (fun i s h h2=>?_) (fun s=>rfl)
 simp only [bne,ff,bool_beq,eM]
 cases dV _ _<;>rfl
end Z166
namespace Z167
def F (x0 x1:bB):aH:=(call (Z166.R (x0.aX,x1.aX)) fun v1=>(cond v1 (ret ((x0.cz==x1.cz):Bool)) bh))
def md (a0 a1:aM):Bool:=(cond (Z166.md a0.aX a1.aX) ((a0.cz==a1.cz):Bool) (false:Bool))
def gd (a0 a1:aM):Prop:=(aM.Sm (2^21) a0)/\(aM.Sm (2^21) a1)
def R:=RR (p2 gd) (u2 md)
def aj {a0 a1}(h:gd a0 a1):R ((aM.r a0),(aM.r a1))=some (md a0 a1):=aO (a:=(a0,a1)) h
def aW:=CN [.agg iP,.agg iP] oB RT.dec R
def bw (a0)(a1)(hg:gd a0 a1):F (aM.r a0) (aM.r a1)=ret (md a0 a1):=by
 obtain ⟨H0,H1⟩:=hg
 unfold F md
 try simp only [SS]
 refine ct (Z166.aj ⟨(H0.mono (by decide) (fun x hx=>trivial)),(H1.mono (by decide) (fun x hx=>trivial))⟩) ?_
 refine au ret (fun c1=>?_) (fun _=>rfl)
 all_goals exact fz
def af:cy 273 aW:=W2 17 F mix aF bw (.cons Z166.af .nil) Tryz.func273
def md_eq (a0 a1:aM):md a0 a1=dV a0 a1:=by
 unfold md
 cases a0;cases a1
 rw [Bool.eq_iff_iff]
 simp [cZ,eM,aM.mk.injEq,Z166.md_eq]
 try (constructor<;>(intro h;simp_all))
end Z167
namespace Z168
def F (x0 x1:bX):aH:=(cond (x0.ck==x1.ck) (ret ((x0.cQ==x1.cQ):Bool)) bh)
def md (a0 a1:aE):Bool:=(cond (a0.ck==a1.ck) ((a0.cQ==a1.cQ):Bool) (false:Bool))
def gd (a0 a1:aE):Prop:=True
def R:=RR (p2 gd) (u2 md)
def aj {a0 a1}(h:gd a0 a1):R ((aE.r a0),(aE.r a1))=some (md a0 a1):=aO (a:=(a0,a1)) h
def aW:=CN [.agg fU,.agg fU] oB RT.dec R
def bw (a0)(a1)(hg:gd a0 a1):F (aE.r a0) (aE.r a1)=ret (md a0 a1):=by
 unfold F md
 try simp only [SS]
 refine au ret (fun c1=>?_) (fun _=>rfl)
 all_goals exact fz
def af:cy 311 aW:=W2 17 F mix aF bw .nil Tryz.func311
def br (a0 a1:aE):md a0 a1=Z63.md a0 a1:=by
 unfold md Z63.md
 first
 | (simp only [id];done)
 | (simp only [id];rfl)
 | rfl
end Z168
namespace Z169
def F (x0:bX)(x1:aP):aH:=(cond x0.bC (ret (4:Int)) (call (Z141.R x0.bA) fun v1=>(cond v1 (ret (5:Int)) (cond (decide (x1.an.cA<(i64.wrap (x0.cu+x0.cT)))) (ret (5:Int)) (cond x1.an.bC (ret (6:Int)) (call (Z167.R (x1.an.bO,x0.bA)) fun v2=>(cond (!v2) (ret (6:Int)) (call (Z168.R (x1.an,x0)) fun v3=>(cond (!v3) (ret (6:Int)) (call (Z161.R (x1,x0.bA)) fun v4=>(cond (!v4) (ret (7:Int)) (ret (1:Int)))))))))))))
def md (a0:aE)(a1:aa):Int:=(cond a0.bC (4:Int) (cond (Z141.md a0.bA) (5:Int) (cond (decide (a1.an.cA<(i64.wrap (a0.cu+a0.cT)))) (5:Int) (cond a1.an.bC (6:Int) (cond (!(Z167.md a1.an.bO a0.bA)) (6:Int) (cond (!(Z168.md a1.an a0)) (6:Int) (cond (!(Z161.md a1 a0.bA)) (7:Int) (1:Int))))))))
def gd (a0:aE)(a1:aa):Prop:=(aE.Sm (2^21) a0)/\(aa.Sm (2^21) a1)
def R:=RR (p2 gd) (u2 md)
def aj {a0 a1}(h:gd a0 a1):R ((aE.r a0),(aa.r a1))=some (md a0 a1):=aO (a:=(a0,a1)) h
def aW:=CN [.agg fU,.agg kD] oI RT.dec R
def bw (a0)(a1)(hg:gd a0 a1):F (aE.r a0) (aa.r a1)=ret (md a0 a1):=by
 obtain ⟨H0,H1⟩:=hg
 unfold F md
 try simp only [SS]
 refine au ret (fun _=>rfl) (fun c1=>?_)
 refine ct (Z141.aj trivial) ?_
 refine au ret (fun _=>rfl) (fun c2=>?_)
 refine au ret (fun _=>rfl) (fun c3=>?_)
 refine au ret (fun _=>rfl) (fun c4=>?_)
 refine ct (Z167.aj ⟨H1.1.1,H0.2.1⟩) ?_
 refine au ret (fun _=>rfl) (fun c5=>?_)
 refine ct (Z168.aj trivial) ?_
 refine au ret (fun _=>rfl) (fun c6=>?_)
 refine ct (Z161.aj ⟨H1,H0.2.1⟩) ?_
 refine au ret (fun _=>rfl) (fun _=>rfl)
def af:cy 298 aW:=W2 48 F mix aF bw (.cons Z141.af (.cons Z167.af (.cons Z168.af (.cons Z161.af .nil)))) Tryz.func298
end Z169
namespace Z170
def F (x0:bX)(x1:aP):aH:=(call (Z168.R (x1.an,x0)) fun v1=>(cond v1 (call (Z167.R (x1.an.bt,x0.bt)) fun v2=>(cond v2 (call (Z167.R (x1.an.bA,x0.bA)) fun v3=>(cond v3 (call (Z141.R x0.bt) fun v4=>(cond v4 (ret (5:Int)) (cond (x1.an.bC==x0.bC) (ret (6:Int)) (cond (!(x1.an.cT==x0.cT)) (ret (6:Int)) (cond x1.an.bC (call (Z167.R (x1.an.bO,x0.bO)) fun v5=>(cond (!v5) (ret (6:Int)) (call (Z161.R (x1,x0.bt)) fun v6=>(cond (!v6) (ret (7:Int)) (ret (1:Int)))))) (call (Z161.R (x1,x0.bt)) fun v7=>(cond (!v7) (ret (7:Int)) (ret (1:Int))))))))) (call (Z141.R x0.bt) fun v8=>(cond v8 (ret (5:Int)) (cond (x1.an.bC==x0.bC) (ret (6:Int)) (ret (6:Int))))))) (call (Z141.R x0.bt) fun v9=>(cond v9 (ret (5:Int)) (cond (x1.an.bC==x0.bC) (ret (6:Int)) (ret (6:Int))))))) (call (Z141.R x0.bt) fun v10=>(cond v10 (ret (5:Int)) (cond (x1.an.bC==x0.bC) (ret (6:Int)) (ret (6:Int)))))))
def md (a0:aE)(a1:aa):Int:=(cond (Z168.md a1.an a0) (cond (Z167.md a1.an.bt a0.bt) (cond (Z167.md a1.an.bA a0.bA) (cond (Z141.md a0.bt) (5:Int) (cond (a1.an.bC==a0.bC) (6:Int) (cond (!(a1.an.cT==a0.cT)) (6:Int) (cond a1.an.bC (cond (!(Z167.md a1.an.bO a0.bO)) (6:Int) (cond (!(Z161.md a1 a0.bt)) (7:Int) (1:Int))) (cond (!(Z161.md a1 a0.bt)) (7:Int) (1:Int)))))) (cond (Z141.md a0.bt) (5:Int) (cond (a1.an.bC==a0.bC) (6:Int) (6:Int)))) (cond (Z141.md a0.bt) (5:Int) (cond (a1.an.bC==a0.bC) (6:Int) (6:Int)))) (cond (Z141.md a0.bt) (5:Int) (cond (a1.an.bC==a0.bC) (6:Int) (6:Int))))
def gd (a0:aE)(a1:aa):Prop:=(aE.Sm (2^21) a0)/\(aa.Sm (2^21) a1)
def R:=RR (p2 gd) (u2 md)
def aj {a0 a1}(h:gd a0 a1):R ((aE.r a0),(aa.r a1))=some (md a0 a1):=aO (a:=(a0,a1)) h
def aW:=CN [.agg fU,.agg kD] oI RT.dec R
def bw (a0)(a1)(hg:gd a0 a1):F (aE.r a0) (aa.r a1)=ret (md a0 a1):=by
 obtain ⟨H0,H1⟩:=hg
 unfold F md
 try simp only [SS]
 refine ct (Z168.aj trivial) ?_
 refine au ret (fun c1=>?_) (fun c1=>?_)
 ·refine ct (Z167.aj ⟨H1.1.2.2,H0.2.2⟩) ?_
  refine au ret (fun c2=>?_) (fun c2=>?_)
  ·refine ct (Z167.aj ⟨H1.1.2.1,H0.2.1⟩) ?_
   refine au ret (fun c3=>?_) (fun c3=>?_)
   ·refine ct (Z141.aj trivial) ?_
    refine au ret (fun _=>rfl) (fun c4=>?_)
    refine au ret (fun _=>rfl) (fun c5=>?_)
    refine au ret (fun _=>rfl) (fun c6=>?_)
    refine au ret (fun c7=>?_) (fun c7=>?_)
    ·refine ct (Z167.aj ⟨H1.1.1,H0.1⟩) ?_
     refine au ret (fun _=>rfl) (fun c8=>?_)
     refine ct (Z161.aj ⟨H1,H0.2.2⟩) ?_
     refine au ret (fun _=>rfl) (fun _=>rfl)
    ·refine ct (Z161.aj ⟨H1,H0.2.2⟩) ?_
     refine au ret (fun _=>rfl) (fun _=>rfl)
   ·refine ct (Z141.aj trivial) ?_
    refine au ret (fun _=>rfl) (fun c11=>?_)
    refine au ret (fun _=>rfl) (fun _=>rfl)
  ·refine ct (Z141.aj trivial) ?_
   refine au ret (fun _=>rfl) (fun c13=>?_)
   refine au ret (fun _=>rfl) (fun _=>rfl)
 ·refine ct (Z141.aj trivial) ?_
  refine au ret (fun _=>rfl) (fun c15=>?_)
  refine au ret (fun _=>rfl) (fun _=>rfl)
def af:cy 299 aW:=W2 65 F mix aF bw (.cons Z168.af (.cons Z167.af (.cons Z141.af (.cons Z161.af .nil)))) Tryz.func299
end Z170
namespace Z171
def F (x0:bX)(x1:aP):aH:=(call (Z144.R x0) fun v1=>(cond (!v1) (ret (2:Int)) (call (Z144.R x1.an) fun v2=>(cond (!v2) (ret (2:Int)) (call (Z164.R (x0,x1.an)) fun v3=>(cond (!v3) (ret (3:Int)) (cond (x1.an.bJ==1) (call (Z165.R (x0,x1)) fun v4=>ret (v4:Int)) (cond (x1.an.bJ==2) (call (Z169.R (x0,x1)) fun v5=>ret (v5:Int)) (call (Z170.R (x0,x1)) fun v6=>ret (v6:Int))))))))))
def md (a0:aE)(a1:aa):Int:=(cond (!(Z144.md a0)) (2:Int) (cond (!(Z144.md a1.an)) (2:Int) (cond (!(Z164.md a0 a1.an)) (3:Int) (cond (a1.an.bJ==1) ((Z165.md a0 a1):Int) (cond (a1.an.bJ==2) ((Z169.md a0 a1):Int) ((Z170.md a0 a1):Int))))))
def gd (a0:aE)(a1:aa):Prop:=(aE.Sm (2^21) a0)/\(aa.Sm (2^21) a1)
def R:=RR (p2 gd) (u2 md)
def aj {a0 a1}(h:gd a0 a1):R ((aE.r a0),(aa.r a1))=some (md a0 a1):=aO (a:=(a0,a1)) h
def aW:=CN [.agg fU,.agg kD] oI RT.dec R
def bw (a0)(a1)(hg:gd a0 a1):F (aE.r a0) (aa.r a1)=ret (md a0 a1):=by
 obtain ⟨H0,H1⟩:=hg
 unfold F md
 try simp only [SS]
 refine ct (Z144.aj H0) ?_
 refine au ret (fun _=>rfl) (fun c1=>?_)
 refine ct (Z144.aj H1.1) ?_
 refine au ret (fun _=>rfl) (fun c2=>?_)
 refine ct (Z164.aj H0) ?_
 refine au ret (fun _=>rfl) (fun c3=>?_)
 refine au ret (fun c4=>?_) (fun c4=>?_)
 ·refine ct (Z165.aj ⟨H0,H1⟩) ?_
  all_goals exact fz
 ·refine au ret (fun c5=>?_) (fun c5=>?_)
  ·refine ct (Z169.aj ⟨H0,H1⟩) ?_
   all_goals exact fz
  ·refine ct (Z170.aj ⟨H0,H1⟩) ?_
   all_goals exact fz
def af:cy 272 aW:=W2 40 F mix aF bw (.cons Z144.af (.cons Z164.af (.cons Z165.af (.cons Z169.af (.cons Z170.af .nil))))) Tryz.func272
def br (a0:aE)(a1:aa):md a0 a1=Z66.md a0 a1:=by
 unfold md Z66.md Z164.md Z165.md Z169.md Z170.md Z161.md Z60.md Z64.md Z65.md
 simp only [Z144.br,Z163.br,Z160.br,Z152.br,Z141.br,Z167.md_eq,Z62.md_eq,Z168.br,bne]
 cases Z47.md a0
 ·rfl
 cases h2:Z47.md a1.an
 ·rfl
 obtain ⟨⟨k1,k2⟩,_⟩:=Z47.tr h2
 have ht:decide (a1.an.cA<a0.cA)=!decide (a1.an.cA>=a0.cA):=by
  rw [Bool.eq_iff_iff];simp
 rw [ht]
 cases a1.an.bD==a0.bD
 ·rfl
 cases a1.an.cD==i64.wrap (a0.cD+1)
 ·rfl
 cases a1.an.dw==Z59.md a0
 ·rfl
 cases decide (a1.an.cA>=a0.cA)
 ·rfl
 have hk:a1.an.bJ=1∨a1.an.bJ=2∨a1.an.bJ=3:=by omega
 generalize Z57.md a0.bO (Z52.md a1.an) a1.bY=s1
 generalize Z57.md a0.bA (Z52.md a1.an) a1.bY=s2
 generalize Z57.md a0.bt (Z52.md a1.an) a1.bY=s3
 generalize Z46.md a0.bA=n1
 generalize Z46.md a0.bt=n2
 generalize decide (a1.an.cA<i64.wrap (a0.cu+a0.cT))=d1
 generalize dV a1.an.bO a0.bA=e1
 generalize dV a1.an.bt a0.bt=e2
 generalize dV a1.an.bA a0.bA=e3
 generalize dV a1.an.bO a0.bO=e4
 generalize Z63.md a1.an a0=c1
 generalize (a1.an.cT==a0.cT)=w1
 generalize a1.an.bC=f1
 generalize a0.bC=f0
 rcases hk with hk | hk | hk<;>rw [hk]
 ·cases f0<;>cases f1<;>cases s1<;>rfl
 ·cases f0<;>cases n1<;>cases d1<;>cases f1<;>cases e1<;>cases c1<;>cases s2<;>rfl
 ·cases n2
  ·cases f1<;>cases f0<;>cases c1<;>cases e2<;>cases e3<;>cases w1<;>cases e4<;>cases s3<;>rfl
  ·cases c1<;>cases e2<;>cases e3<;>rfl
end Z171
namespace Z172
def F (x0:bX)(x1:aP):aH:=(call (Z171.R (x0,x1)) fun v1=>ret ((v1==1):Bool))
def md (a0:aE)(a1:aa):Bool:=(((Z171.md a0 a1)==1):Bool)
def gd (a0:aE)(a1:aa):Prop:=(aE.Sm (2^21) a0)/\(aa.Sm (2^21) a1)
def R:=RR (p2 gd) (u2 md)
def aj {a0 a1}(h:gd a0 a1):R ((aE.r a0),(aa.r a1))=some (md a0 a1):=aO (a:=(a0,a1)) h
def aW:=CN [.agg fU,.agg kD] oB RT.dec R
def bw (a0)(a1)(hg:gd a0 a1):F (aE.r a0) (aa.r a1)=ret (md a0 a1):=by
 obtain ⟨H0,H1⟩:=hg
 unfold F md
 try simp only [SS]
 refine ct (Z171.aj ⟨H0,H1⟩) ?_
 all_goals exact fz
def af:cy 243 aW:=W2 9 F mix aF bw (.cons Z171.af .nil) Tryz.func243
def br (a0:aE)(a1:aa):md a0 a1=Z67.md a0 a1:=by
 unfold md Z67.md
 first
 | (simp only [Z171.br];done)
 | (simp only [Z171.br];rfl)
 | rfl
end Z172
namespace Z173
inductive Pt where
 | p0 (a b:aC) (c d:Int)
def pid:Pt->Nat
 | .p0 ..=>2
def cj:Pt->List V
 | .p0 a b c d=>[.sl none 141 a,.sl none 141 b,.int .i64 c,.int .i64 d]
def cg:Pt->List aV
 | .p0 a b c d=>[]
def step (J:Pt->aH):Pt->aH
 | .p0 a b c d=>(cond (decide (d<c)) (m2 d (b.length:Int) (cond (d==0) (call (Z162.R (aP.at b (toNat d))) fun v1=>(cond (!v1) (ret (d:Int)) (cond (decide (d>0)) (bZ (decide ((0:Int)<=(i64.wrap (d - 1)))) (bZ (decide ((i64.wrap (d - 1))<(a.length:Int))) (call (Z172.R ((aP.at a (toNat (i64.wrap (d - 1)))).an,(aP.at b (toNat d)))) fun v2=>(cond (!v2) (ret (d:Int)) (J (.p0 a b c (i64.wrap (d+1)))))))) (J (.p0 a b c (i64.wrap (d+1))))))) (cond (decide (d>0)) (bZ (decide ((0:Int)<=(i64.wrap (d - 1)))) (bZ (decide ((i64.wrap (d - 1))<(a.length:Int))) (call (Z172.R ((aP.at a (toNat (i64.wrap (d - 1)))).an,(aP.at b (toNat d)))) fun v3=>(cond (!v3) (ret (d:Int)) (J (.p0 a b c (i64.wrap (d+1)))))))) (J (.p0 a b c (i64.wrap (d+1))))))) (ret ((-1):Int)))
def start (J:Pt->aH)(x0:aC):aH:=J (.p0 x0 x0 (x0.length:Int) 0)
def live:Nat->Live:=fun i=>match i with | 2=>[(0,none),(5,none),(6,none),(7,none)] | _=>[]
def md (a0:List aa):Int:=(dR (S:=Unit) (β:=Int) (fun (i1:Nat) (y1:aa) (s3:Unit)=>(cond ((i1:Int)==0) (cond (!(Z162.md y1)) (.inr ((i1:Int):Int)) (cond (decide ((i1:Int)>0)) (cond (!(Z172.md ((a0.getD (toNat (i64.wrap ((i1:Int) - 1))) aa.zero).an) y1)) (.inr ((i1:Int):Int)) (.inl ())) (.inl ()))) (cond (decide ((i1:Int)>0)) (cond (!(Z172.md ((a0.getD (toNat (i64.wrap ((i1:Int) - 1))) aa.zero).an) y1)) (.inr ((i1:Int):Int)) (.inl ())) (.inl ())))) (fun (s3:Unit)=>((-1):Int)) 0 a0 ())
def gd (a0:List aa):Prop:=(bM (2^21) (fun y:aa=>aa.Sm (2^21) y) a0)
def R:=RR gd md
def aj {a0}(h:gd a0):R (a0.map aa.row)=some (md a0):=aO (a:=a0) h
def aW:=CN [pL 141] oI RT.dec R
def bw (a0)(hg:gd a0):∃n,start (iter step n) (a0.map aa.row)=ret (md a0):=by
 unfold gd at hg
 have H0:=hg
 unfold start md
 try simp only [SS]
 have Bh2:a0.length<=maxLen:=(by
   have:=(H0).1
   try simp only [maxLen] at *
   omega)
 refine ex_eq (out:=ret) (cU (z:=aa.zero)) ?_
 refine dM (p:=Pt.p0 (a0.map aa.row) (a0.map aa.row) (a0.length:Int) 0) fz ?_
 refine cm (pt:=fun (i1:Nat) (s3:Unit)=>Pt.p0 (a0.map aa.row) (a0.map aa.row) (a0.length:Int) (i1:Int)) (s:=(():Unit)) (out:=ret) (fun _ _=>True) (fun J i1 s3 h2 hih2=>?_) (fun s3 hih2=>?_) trivial
 ·simp only [step,SS]
  have bb_:=Bh2
  simp only [maxLen] at bb_
  have:=(H0).1
  refine bz.yes (by apply decide_eq_true;omega) ?_
  refine bz.yes aJ ?_
  refine bz.yes (aN h2) ?_
  refine bz.bif (fun c4=>?_) (fun c4=>?_)
  ·have dc4:=c4
   try simp only [DC] at dc4
   refine cr (Z162.aj (bM.getD (z:=aa.zero) H0 h2)) ?_
   refine bz.bif (fun c5=>?_) (fun c5=>?_)
   ·refine bz.inr ?_
    all_goals exact fz
   ·have dc5:=c5
    try simp only [DC] at dc5
    refine bz.bif (fun c6=>?_) (fun c6=>?_)
    ·have dc6:=c6
     try simp only [DC] at dc6
     refine bz.yes dt ?_
     refine bz.yes (have:=(H0).1;dt) ?_
     refine cr (Z172.aj ⟨(bM.getD (z:=aa.zero) H0 (by first | assumption | omega | (simp (disch:=omega) only [wi];omega) | (simp;omega))).1,(bM.getD (z:=aa.zero) H0 h2)⟩) ?_
     refine bz.bif (fun c7=>?_) (fun c7=>?_)
     ·refine bz.inr ?_
      all_goals exact fz
     ·refine bz.inl trivial ?_
      rw [aG h2 Bh2]
      all_goals exact fz
    ·refine bz.inl trivial ?_
     rw [aG h2 Bh2]
     all_goals exact fz
  ·have dc4:=c4
   try simp only [DC] at dc4
   refine bz.bif (fun c8=>?_) (fun c8=>?_)
   ·have dc8:=c8
    try simp only [DC] at dc8
    refine bz.yes dt ?_
    refine bz.yes (have:=(H0).1;dt) ?_
    refine cr (Z172.aj ⟨(bM.getD (z:=aa.zero) H0 (by first | assumption | omega | (simp (disch:=omega) only [wi];omega) | (simp;omega))).1,(bM.getD (z:=aa.zero) H0 h2)⟩) ?_
    refine bz.bif (fun c9=>?_) (fun c9=>?_)
    ·refine bz.inr ?_
     all_goals exact fz
    ·refine bz.inl trivial ?_
     rw [aG h2 Bh2]
     all_goals exact fz
   ·refine bz.inl trivial ?_
    rw [aG h2 Bh2]
    all_goals exact fz
 ·simp only [step,SS]
  have:=(H0).1
  refine dx (by apply decide_eq_false;omega) ?_
  refine ⟨0,?_⟩
  all_goals exact fz
def af:cy 208 aW:=L1 36 pid cj cg live step start mix aF bw (.cons Z162.af (.cons Z172.af .nil)) Tryz.func208
def br (a0:List aa):md a0=Z68.md a0:=by
 unfold md Z68.md
 rw [<-cU (z:=aa.zero),<-cU (z:=aa.zero)]
 refine uX (fun _ _=>True) (fun i s hi _=>⟨?_,fun _ _=>trivial⟩) (fun _ _=>rfl) trivial
 simp only [Z162.br,Z172.br]
 by_cases h0:i=0
 ·subst h0;rfl
 ·have e:((i:Int)==0)=false:=beq_eq_false_iff_ne.2 (by omega)
  simp only [e,bq]
end Z173
namespace Z174
def F (x0:aC):aH:=(call (Z130.R ((x0.length:Int),1,12)) fun v1=>(cond v1 (call (Z173.R x0) fun v2=>ret ((decide (v2<0)):Bool)) bh))
def md (a0:List aa):Bool:=(cond (Z130.md (a0.length:Int) 1 12) ((decide ((Z173.md a0)<0)):Bool) (false:Bool))
def gd (a0:List aa):Prop:=(bM (2^21) (fun y:aa=>aa.Sm (2^21) y) a0)
def R:=RR gd md
def aj {a0}(h:gd a0):R (a0.map aa.row)=some (md a0):=aO (a:=a0) h
def aW:=CN [pL 141] oB RT.dec R
def bw (a0)(hg:gd a0):F (a0.map aa.row)=ret (md a0):=by
 unfold gd at hg
 have H0:=hg
 unfold F md
 try simp only [SS]
 refine ct (Z130.aj trivial) ?_
 refine au ret (fun c1=>?_) (fun _=>rfl)
 refine ct (Z173.aj H0) ?_
 all_goals exact fz
def af:cy 169 aW:=W1 11 F mix aF bw (.cons Z130.af (.cons Z173.af .nil)) Tryz.func169
def tr {a0:List aa}(h:md a0=true):1<=a0.length/\a0.length<=12:=by simp [md,Z130.md] at h;omega
def br (a0:List aa):md a0=Z69.md a0:=by
 unfold md Z69.md
 first
 | (simp only [Z130.br,Z173.br];done)
 | (simp only [Z130.br,Z173.br];rfl)
 | rfl
end Z174
namespace Z175
def F (x0:aC):aH:=(bZ (decide ((0:Int)<=(i64.wrap ((x0.length:Int) - 1)))) (bZ (decide ((i64.wrap ((x0.length:Int) - 1))<(x0.length:Int))) (ret ((aP.at x0 (toNat (i64.wrap ((x0.length:Int) - 1)))).an:bX))))
def md (a0:List aa):aE:=(a0.getD (toNat (i64.wrap ((a0.length:Int) - 1))) aa.zero).an
def gd (a0:List aa):Prop:=(bM (2^21) (fun y:aa=>aa.Sm (2^21) y) a0)/\(1<=a0.length)
def R:=RR gd md
def aj {a0}(h:gd a0):R (a0.map aa.row)=some (aE.r (md a0)):=aO (a:=a0) h
def aW:=CN [pL 141] (.agg [.rd (.int .i64),.rd (.int .i64),.rd (.int .i64),.rd (.int .i64),.rd (.int .i64),.rd (.int .i64),.rd (.int .i64),.rd (.int .i64),.rd (.sl 3),.rd (.int .i64),.rd (.sl 3),.rd (.int .i64),.rd (.int .i64),.rd (.sl 3),.rd (.int .i64),.rd (.bool)]) RT.dec R
def bw (a0)(hg:gd a0):F (a0.map aa.row)=ret (aE.r (md a0)):=by
 obtain ⟨H0,HX⟩:=hg
 unfold F md
 try simp only [SS]
 refine ak (have:=(H0).1;dt) ?_
 refine ak (have:=(H0).1;dt) ?_
 all_goals exact fz
def af:cy 215 aW:=W1 10 F mix aF bw .nil Tryz.func215
def gb {a0:List aa}(hg:gd a0):aE.Sm (2^21) (md a0):=by
 unfold gd at hg;unfold md
 have h1:=hg.1.1
 have h2:=hg.2
 exact (bM.getD hg.1 (by simp (disch:=omega) only [Go.IntWalk.i64_in];omega)).1
end Z175
namespace Z176
def F (x0:aU):aH:=(call (Z131.R x0.bf) fun v1=>(cond (!v1) bh (cond (x0.bJ==1) (call (Z130.R (x0.bV,0,999999)) fun v2=>(cond v2 (ret (((x0.bH.length:Int)==0):Bool)) bh)) (cond (x0.bJ==2) (call (Z136.R x0.bV) fun v3=>(cond v3 (ret (((x0.bH.length:Int)==0):Bool)) bh)) (cond (x0.bJ==3) (call (Z136.R x0.bV) fun v4=>(cond v4 (call (Z135.R x0.bH) fun v5=>ret (v5:Bool)) bh)) bh)))))
def md (a0:ah):Bool:=(cond (!(Z131.md a0.bf)) (false:Bool) (cond (a0.bJ==1) (cond (Z130.md a0.bV 0 999999) (((a0.bH.length:Int)==0):Bool) (false:Bool)) (cond (a0.bJ==2) (cond (Z136.md a0.bV) (((a0.bH.length:Int)==0):Bool) (false:Bool)) (cond (a0.bJ==3) (cond (Z136.md a0.bV) ((Z135.md a0.bH):Bool) (false:Bool)) (false:Bool)))))
def gd (a0:ah):Prop:=(ah.Sm (2^21) a0)
def R:=RR gd md
def aj {a0}(h:gd a0):R (ah.r a0)=some (md a0):=aO (a:=a0) h
def aW:=CN [.agg qV] oB RT.dec R
def bw (a0)(hg:gd a0):F (ah.r a0)=ret (md a0):=by
 unfold gd at hg
 have H0:=hg
 unfold F md
 try simp only [SS]
 refine ct (Z131.aj (le_trans H0.1 (by decide))) ?_
 refine au ret (fun _=>rfl) (fun c1=>?_)
 refine au ret (fun c2=>?_) (fun c2=>?_)
 ·refine ct (Z130.aj trivial) ?_
  refine au ret (fun c3=>?_) (fun _=>rfl)
  all_goals exact fz
 ·refine au ret (fun c4=>?_) (fun c4=>?_)
  ·refine ct (Z136.aj trivial) ?_
   refine au ret (fun c5=>?_) (fun _=>rfl)
   all_goals exact fz
  ·refine au ret (fun c6=>?_) (fun _=>rfl)
   refine ct (Z136.aj trivial) ?_
   refine au ret (fun c7=>?_) (fun _=>rfl)
   refine ct (Z135.aj (H0.2.mono (by decide) (fun x hx=>(le_trans hx (by decide))))) ?_
   all_goals exact fz
def af:cy 253 aW:=W1 41 F mix aF bw (.cons Z131.af (.cons Z130.af (.cons Z136.af (.cons Z135.af .nil)))) Tryz.func253
def br (a0:ah):md a0=Z71.md a0:=by
 unfold md Z71.md
 simp only [Z131.br,Z130.br,Z136.md,Z135.br]
 cases Z42.md a0.bf<;>simp
end Z176
namespace Z177
set_option maxHeartbeats 1000000 in
set_option maxRecDepth 100000 in
open Go.RowKit in
def calls (a b:aD)(w:World):Calls Tryz.prog 305 #[.string a,.string b] w fun e w'=>e=.returned (.int .i64 (Lib.compareBytes a.data.toList b.data.toList))/\w'=w:=by
 go_enter Tryz.func305,Tryz.ntmps305
 go_wp2
 rw [run_callFunc_extern Tryz.func314 (by kernel_rfl) (by kernel_rfl) (by kernel_rfl) (e:=Extern.BytealgCompare.compare) (by kernel_rfl),Lib.run_compareString]
 simp only [Result.andThen]
 rw [Oper.upon_value]
 go_wp2
 go_ret
 exact ⟨rfl,rfl⟩
def md (a0 a1:aD):Int:=Lib.compareBytes a0.data.toList a1.data.toList
def R (x:aD×aD):Option Int:=some (md x.1 x.2)
def aj {a0 a1:aD}(_:True):R (a0,a1)=some (md a0 a1):=rfl
def sem:List L->Option (List L)
 | [y0,y1]=>(R (y0.toStr,y1.toStr)).map RT.enc
 | _=>none
def aW:fT:=⟨[.rd .str,.rd .str],.one (.rd (.int .i64)),sem⟩
def af:cy 305 aW:=by
 refine uf ⟨Tryz.f305,Tryz.func305,by kernel_rfl,by kernel_rfl⟩ rfl (fun _=>rfl) fun ls r w vs Z hs hf=>?_
 simp only [aW] at hs
 unfold sem at hs
 split at hs
 ·rename_i a b
  cases hf with
  | cons h1 ht=>
   cases ht with
   | cons h2 ht=>
    cases ht
    have e1:_=Value.string a.toStr:=h1
    have e2:_=Value.string b.toStr:=h2
    subst e1;subst e2
    refine (calls a.toStr b.toStr w).mono fun e w' ⟨h3,h4⟩=>⟨_,h3,h4,?_⟩
    injection hs with hs
    subst hs
    rfl
 ·cases hs
end Z177
namespace Z178
def F (x0 x1:aD):aH:=(call (Z177.R (x0,x1)) fun v1=>ret (v1:Int))
def md (a0 a1:aD):Int:=((Z177.md a0 a1):Int)
def gd (a0 a1:aD):Prop:=True
def R:=RR (p2 gd) (u2 md)
def aj {a0 a1}(h:gd a0 a1):R (a0,a1)=some (md a0 a1):=aO (a:=(a0,a1)) h
def aW:=CN [pS,pS] oI RT.dec R
def bw (a0)(a1)(hg:gd a0 a1):F a0 a1=ret (md a0 a1):=by
 unfold F md
 try simp only [SS]
 refine ct (Z177.aj trivial) ?_
 all_goals exact fz
def af:cy 282 aW:=W2 8 F mix aF bw (.cons Z177.af .nil) Tryz.func282
end Z178
namespace Z179
def F (x0 x1:aD):aH:=(call (Z178.R (x0,x1)) fun v1=>ret (v1:Int))
def md (a0 a1:aD):Int:=((Z178.md a0 a1):Int)
def gd (a0 a1:aD):Prop:=True
def R:=RR (p2 gd) (u2 md)
def aj {a0 a1}(h:gd a0 a1):R (a0,a1)=some (md a0 a1):=aO (a:=(a0,a1)) h
def aW:=CN [pS,pS] oI RT.dec R
def bw (a0)(a1)(hg:gd a0 a1):F a0 a1=ret (md a0 a1):=by
 unfold F md
 try simp only [SS]
 refine ct (Z178.aj trivial) ?_
 all_goals exact fz
def af:cy 254 aW:=W2 8 F mix aF bw (.cons Z178.af .nil) Tryz.func254
def cmp:∀a b:List UInt8,Lib.compareBytes a b=(cond (Op.bytesLess a b) ((-1):Int) (cond (!((Op.bytesLess a b)||(a==b))) (1:Int) (0:Int)))
 | [],[]=>by simp [Lib.compareBytes,Op.bytesLess]
 | [],_::_=>by simp [Lib.compareBytes,Op.bytesLess]
 | _::_,[]=>by simp [Lib.compareBytes,Op.bytesLess]
 | a::xs,b::ys=>by
  simp only [Lib.compareBytes,Op.bytesLess]
  rw [cmp xs ys]
  by_cases h1:a<b
  ·simp [h1]
  ·by_cases h2:b<a
   ·have hne:a≠b:=fun e=>by subst e;exact h1 h2
    have hb:(a==b)=false:=beq_eq_false_iff_ne.2 hne
    simp [h1,h2,hb,hne]
   ·have he:a=b:=by
     have:=UInt8.lt_or_eq_of_le (UInt8.not_lt.1 h1)
     rcases this with h | h
     ·exact (h2 h).elim
     ·exact h.symm
    subst he
    simp [h1]
def br (a0 a1:aD):md a0 a1=Z72.md a0 a1:=by
 unfold md Z72.md Z178.md Z177.md
 rw [cmp,ByteArray.toList_eq,ByteArray.toList_eq]
end Z179
namespace Z180
inductive Pt where
 | p0 (a b:aC) (c d:Int)
def pid:Pt->Nat
 | .p0 ..=>2
def cj:Pt->List V
 | .p0 a b c d=>[.sl none 57 a,.sl none 57 b,.int .i64 c,.int .i64 d]
def cg:Pt->List aV
 | .p0 a b c d=>[]
def step (J:Pt->aH):Pt->aH
 | .p0 a b c d=>(cond (decide (d<c)) (m2 d (b.length:Int) (call (Z176.R (aU.at b (toNat d))) fun v1=>(cond (!v1) bh (cond (decide (d>0)) (bZ (decide ((0:Int)<=(i64.wrap (d - 1)))) (bZ (decide ((i64.wrap (d - 1))<(a.length:Int))) (call (Z179.R ((aU.at b (toNat d)).bf,(aU.at a (toNat (i64.wrap (d - 1)))).bf)) fun v2=>(cond (decide (v2<=0)) bh (J (.p0 a b c (i64.wrap (d+1)))))))) (J (.p0 a b c (i64.wrap (d+1)))))))) (ret ((decide ((a.length:Int)<=12)):Bool)))
def start (J:Pt->aH)(x0:aC):aH:=J (.p0 x0 x0 (x0.length:Int) 0)
def live:Nat->Live:=fun i=>match i with | 2=>[(0,none),(5,none),(6,none),(7,none)] | _=>[]
def md (a0:List ah):Bool:=(dR (S:=Unit) (β:=Bool) (fun (i1:Nat) (y1:ah) (s3:Unit)=>(cond (!(Z176.md y1)) (.inr (false:Bool)) (cond (decide ((i1:Int)>0)) (cond (decide ((Z179.md (y1.bf) ((a0.getD (toNat (i64.wrap ((i1:Int) - 1))) ah.zero).bf))<=0)) (.inr (false:Bool)) (.inl ())) (.inl ())))) (fun (s3:Unit)=>((decide ((a0.length:Int)<=12)):Bool)) 0 a0 ())
def gd (a0:List ah):Prop:=(bM (2^21) (fun y:ah=>ah.Sm (2^21) y) a0)
def R:=RR gd md
def aj {a0}(h:gd a0):R (a0.map ah.row)=some (md a0):=aO (a:=a0) h
def aW:=CN [pL 57] oB RT.dec R
def bw (a0)(hg:gd a0):∃n,start (iter step n) (a0.map ah.row)=ret (md a0):=by
 unfold gd at hg
 have H0:=hg
 unfold start md
 try simp only [SS]
 have Bh2:a0.length<=maxLen:=(by
   have:=(H0).1
   try simp only [maxLen] at *
   omega)
 refine ex_eq (out:=ret) (cU (z:=ah.zero)) ?_
 refine dM (p:=Pt.p0 (a0.map ah.row) (a0.map ah.row) (a0.length:Int) 0) fz ?_
 refine cm (pt:=fun (i1:Nat) (s3:Unit)=>Pt.p0 (a0.map ah.row) (a0.map ah.row) (a0.length:Int) (i1:Int)) (s:=(():Unit)) (out:=ret) (fun _ _=>True) (fun J i1 s3 h2 hih2=>?_) (fun s3 hih2=>?_) trivial
 ·simp only [step,SS]
  have bb_:=Bh2
  simp only [maxLen] at bb_
  have:=(H0).1
  refine bz.yes (by apply decide_eq_true;omega) ?_
  refine bz.yes aJ ?_
  refine bz.yes (aN h2) ?_
  refine cr (Z176.aj (bM.getD (z:=ah.zero) H0 h2)) ?_
  refine bz.bif (fun _=>bz.inr rfl) (fun c4=>?_)
  have dc4:=c4
  try simp only [DC] at dc4
  refine bz.bif (fun c5=>?_) (fun c5=>?_)
  ·have dc5:=c5
   try simp only [DC] at dc5
   refine bz.yes dt ?_
   refine bz.yes (have:=(H0).1;dt) ?_
   refine cr (Z179.aj trivial) ?_
   refine bz.bif (fun _=>bz.inr rfl) (fun c6=>?_)
   refine bz.inl trivial ?_
   rw [aG h2 Bh2]
   all_goals exact fz
  ·refine bz.inl trivial ?_
   rw [aG h2 Bh2]
   all_goals exact fz
 ·simp only [step,SS]
  have:=(H0).1
  refine dx (by apply decide_eq_false;omega) ?_
  refine ⟨0,?_⟩
  all_goals exact fz
def af:cy 221 aW:=L1 35 pid cj cg live step start mix aF bw (.cons Z176.af (.cons Z179.af .nil)) Tryz.func221
def br (a0:List ah):md a0=Z73.md a0:=by
 unfold md Z73.md
 refine lC (fun i x _ s=>?_) (fun s=>rfl)
 simp only [Z176.br,Z179.br,Z72.swap]
end Z180
namespace Z181
inductive Pt where
 | p0 (a:aC) (b c:Int) (d:aC)
def pid:Pt->Nat
 | .p0 ..=>3
def cj:Pt->List V
 | .p0 a b c d=>[.own 0,.sl none 5 a,.int .i64 b,.int .i64 c]
def cg:Pt->List aV
 | .p0 a b c d=>[.row 3 d]
def step (J:Pt->aH):Pt->aH
 | .p0 a b c d=>(cond (decide (c<b)) (m2 c (a.length:Int) (bZ (eP (((d.length:Int)+1)*8)) (J (.p0 a b (i64.wrap (c+1)) (d++[[L.int (i64.wrap (jh a (toNat c)))]]))))) (ret (d:aC)))
def start (J:Pt->aH)(x0:aC):aH:=J (.p0 x0 (x0.length:Int) 0 [[L.int (x0.length:Int)]])
def live:Nat->Live:=fun i=>match i with | 3=>[(3,none),(9,none),(10,none),(11,none)] | _=>[]
def md (a0:List Int):List Int:=([(a0.length:Int)]++a0.map (fun (y1:Int)=>(i64.wrap y1)))
def gd (a0:List Int):Prop:=(bM (2^38) (fun y:Int=>True) a0)
def R:=RR gd md
def aj {a0}(h:gd a0):R (a0.map aZ)=some ((md a0).map aZ):=aO (a:=a0) h
def aW:=CN [pL 5] (oL 3) RT.dec R
def bw (a0)(hg:gd a0):∃n,start (iter step n) (a0.map aZ)=ret ((md a0).map aZ):=by
 unfold gd at hg
 have H0:=hg
 unfold start md
 try simp only [SS]
 have Bh2:a0.length<=maxLen:=(by
   have:=(H0).1
   try simp only [maxLen] at *
   omega)
 refine ex_eq (out:=(fun b:List Int=>ret ((b.map aZ):aC))) (lX (g:=fun (y1:Int)=>(i64.wrap y1)) (z:=0) (t:=fun (s3:List Int)=>s3) (s:=[(a0.length:Int)])) ?_
 refine dM (p:=Pt.p0 (a0.map aZ) (a0.length:Int) 0 ([(a0.length:Int)].map aZ)) fz ?_
 refine cm (pt:=fun (i1:Nat) (s3:List Int)=>Pt.p0 (a0.map aZ) (a0.length:Int) (i1:Int) (s3.map aZ)) (s:=([(a0.length:Int)]:List Int)) (out:=(fun b:List Int=>ret ((b.map aZ):aC))) (fun (i1:Nat) (s3:List Int)=>s3.length<=[(a0.length:Int)].length+1*i1) (fun J i1 s3 h2 hih2=>?_) (fun s3 hih2=>?_) (by simp)
 ·simp only [step,SS]
  have gr_:=hih2
  try simp only [LN] at gr_
  have:=(H0).1
  have bb_:=Bh2
  simp only [maxLen] at bb_
  have:=(H0).1
  refine bz.yes (by apply decide_eq_true;omega) ?_
  refine bz.yes aJ ?_
  refine bz.yes (aN h2) ?_
  refine bz.yes lm ?_
  refine bz.inl (by
    have g_:=hih2
    try simp only [LN] at g_ ⊢
    first | omega | (simp;done) | (simp;omega)) ?_
  rw [aG h2 Bh2]
  all_goals exact fz
 ·simp only [step,SS]
  have gr_:=hih2
  try simp only [LN] at gr_
  have:=(H0).1
  have:=(H0).1
  refine dx (by apply decide_eq_false;omega) ?_
  refine ⟨0,?_⟩
  all_goals exact fz
def af:cy 313 aW:=L1 22 pid cj cg live step start mix aF bw .nil Tryz.func313
def len (a0:List Int):(md a0).length=1+a0.length:=by simp [md];omega
def br (a0:List Int):md a0=Z74.md a0:=by
 unfold md Z74.md
 first
 | (simp only [id];done)
 | (simp only [id];rfl)
 | rfl
end Z181
namespace Z182
def F (x0:aD):aH:=(bZ (decide ((x0.size:Int)<=140737488355328)) (call (Z181.R (ig x0)) fun v1=>ret (v1:aC)))
def md (a0:aD):List Int:=(Z181.md (iI a0))
def gd (a0:aD):Prop:=(a0.size<=(2^21))
def R:=RR gd md
def aj {a0}(h:gd a0):R a0=some ((md a0).map aZ):=aO (a:=a0) h
def aW:=CN [pS] (oL 3) RT.dec R
def bw (a0)(hg:gd a0):F a0=ret ((md a0).map aZ):=by
 unfold gd at hg
 have H0:=hg
 unfold F md
 try simp only [SS]
 refine ak (have:=H0;dt) ?_
 refine bp ((Z181.md (iI a0)).map aZ) (rq (Z181.aj (a0:=(iI a0)) ⟨(have:=gD a0;have:=H0;om),fun _ _=>trivial⟩)) ?_
 try simp only [SS]
 all_goals exact fz
def af:cy 304 aW:=W1 6 F mix aF bw (.cons Z181.af .nil) Tryz.func304
def len (a0:aD):(md a0).length=1+a0.size:=by simp [md,Z181.len,gD]
def br (a0:aD):md a0=Z75.md a0:=by
 unfold md Z75.md
 first
 | (simp only [Z181.br];done)
 | (simp only [Z181.br];rfl)
 | rfl
end Z182
namespace Z183
inductive Pt where
 | p0 (a:aC) (b c:Int) (d:aC)
def pid:Pt->Nat
 | .p0 ..=>3
def cj:Pt->List V
 | .p0 a b c d=>[.own 0,.sl none 9 a,.int .i64 b,.int .i64 c]
def cg:Pt->List aV
 | .p0 a b c d=>[.row 3 d]
def step (J:Pt->aH):Pt->aH
 | .p0 a b c d=>(cond (decide (c<b)) (m2 c (a.length:Int) (call (Z182.R (pR a (toNat c))) fun v1=>(bZ (eP (((d.length:Int)+(v1.length:Int))*8)) (J (.p0 a b (i64.wrap (c+1)) (d++v1)))))) (ret (d:aC)))
def start (J:Pt->aH)(x0:aU):aH:=(call (Z182.R x0.bf) fun v1=>(bZ (eP (((v1.length:Int)+3)*8)) (J (.p0 x0.bH (x0.bH.length:Int) 0 (v1++[[L.int x0.bJ],[L.int x0.bV],[L.int (x0.bH.length:Int)]])))))
def live:Nat->Live:=fun i=>match i with | 3=>[(3,none),(19,none),(20,none),(21,none)] | _=>[]
def md (a0:ah):List Int:=(((Z182.md a0.bf)++[a0.bJ,a0.bV,(a0.bH.length:Int)])++a0.bH.flatMap (fun (y1:aD)=>(Z182.md y1)))
def gd (a0:ah):Prop:=(ah.Sm (2^21) a0)
def R:=RR gd md
def aj {a0}(h:gd a0):R (ah.r a0)=some ((md a0).map aZ):=aO (a:=a0) h
def aW:=CN [.agg qV] (oL 3) RT.dec R
def bw (a0)(hg:gd a0):∃n,start (iter step n) (ah.r a0)=ret ((md a0).map aZ):=by
 unfold gd at hg
 have H0:=hg
 unfold start md
 try simp only [SS]
 refine cx (Z182.aj H0.1) ?_
 try simp only [SS]
 refine dH (have:=Z182.len a0.bf;have:=H0.1;lm) ?_
 have Bh2:a0.bH.length<=maxLen:=(by
   have:=(H0.2).1
   try simp only [maxLen] at *
   omega)
 refine ex_eq (out:=(fun b:List Int=>ret ((b.map aZ):aC))) (qO (g:=fun (y1:aD)=>(Z182.md y1)) (z:=⟨#[]⟩) (t:=fun (s3:List Int)=>s3) (s:=((Z182.md a0.bf)++[a0.bJ,a0.bV,(a0.bH.length:Int)]))) ?_
 refine dM (p:=Pt.p0 (a0.bH.map cC) (a0.bH.length:Int) 0 (((Z182.md a0.bf)++[a0.bJ,a0.bV,(a0.bH.length:Int)]).map aZ)) fz ?_
 refine cm (pt:=fun (i1:Nat) (s3:List Int)=>Pt.p0 (a0.bH.map cC) (a0.bH.length:Int) (i1:Int) (s3.map aZ)) (s:=(((Z182.md a0.bf)++[a0.bJ,a0.bV,(a0.bH.length:Int)]):List Int)) (out:=(fun b:List Int=>ret ((b.map aZ):aC))) (fun (i1:Nat) (s3:List Int)=>s3.length<=4+a0.bf.size+i1*(2^21+1)) (fun J i1 s3 h2 hih2=>?_) (fun s3 hih2=>?_) (by
   have:=(H0.2).1
   have:=Z182.len a0.bf
   have:=H0.1
   try simp only [LN]
   try simp
   try omega)
 ·simp only [step,SS]
  have gr_:=hih2
  try simp only [LN] at gr_
  have:=H0.1
  have bb_:=Bh2
  simp only [maxLen] at bb_
  have:=(H0.2).1
  refine bz.yes (by apply decide_eq_true;omega) ?_
  refine bz.yes aJ ?_
  refine bz.yes (aN h2) ?_
  refine cr (Z182.aj (bM.getD (z:=⟨#[]⟩) H0.2 h2)) ?_
  try simp only [SS]
  refine bz.yes (have:=Z182.len (a0.bH.getD i1 ⟨#[]⟩);have:=(bM.getD (z:=⟨#[]⟩) H0.2 h2);lm) ?_
  refine bz.inl (by
    have:=Z182.len (a0.bH.getD i1 ⟨#[]⟩)
    have:=(bM.getD (z:=⟨#[]⟩) H0.2 h2)
    have g_:=hih2
    try simp only [LN] at g_ ⊢
    first | omega | (simp;done) | (simp;omega)) ?_
  rw [aG h2 Bh2]
  all_goals exact fz
 ·simp only [step,SS]
  have gr_:=hih2
  try simp only [LN] at gr_
  have:=H0.1
  have:=(H0.2).1
  refine dx (by apply decide_eq_false;omega) ?_
  refine ⟨0,?_⟩
  all_goals exact fz
def af:cy 280 aW:=L1 31 pid cj cg live step start mix aF bw (.cons Z182.af .nil) Tryz.func280
def gb {a0:ah}(hg:gd a0):bM (2^43 - 1) (fun y:Int=>True) (md a0):=by
 unfold gd at hg
 refine ⟨?_,fun _ _=>trivial⟩
 unfold md
 have h1:=lG (xs:=a0.bH) (g:=fun y=>Z182.md y) (n:=2^21+1) (fun x hx=>by rw [Z182.len];have:=hg.2.2 x hx;omega)
 have h2:=hg.1
 have h3:=hg.2.1
 have h4:=Z182.len a0.bf
 simp only [List.length_append,List.length_cons,List.length_nil]
 omega
def br (a0:ah):md a0=Z76.md a0:=by
 unfold md Z76.md
 first
 | (simp only [Z182.br];done)
 | (simp only [Z182.br];rfl)
 | rfl
end Z183
namespace Z184
def F (x0:aU):aH:=(call (Z183.R x0) fun v1=>(bZ (eP (((1:Int)+(v1.length:Int))*8)) (call (Z147.R ([[L.int 227]]++v1)) fun v2=>ret (v2:Int))))
def md (a0:ah):Int:=((Z147.md ([227]++(Z183.md a0))):Int)
def gd (a0:ah):Prop:=(ah.Sm (2^21) a0)
def R:=RR gd md
def aj {a0}(h:gd a0):R (ah.r a0)=some (md a0):=aO (a:=a0) h
def aW:=CN [.agg qV] oI RT.dec R
def bw (a0)(hg:gd a0):F (ah.r a0)=ret (md a0):=by
 unfold gd at hg
 have H0:=hg
 unfold F md
 try simp only [SS]
 refine ct (Z183.aj H0) ?_
 try simp only [SS]
 refine ak (have:=((Z183.gb (a0:=a0) H0)).1;lm) ?_
 refine bp (Z147.md ([227]++(Z183.md a0))) (rq (Z147.aj (a0:=([227]++(Z183.md a0))) ⟨(have:=((Z183.gb (a0:=a0) H0)).1;om),fun _ _=>trivial⟩)) ?_
 all_goals exact fz
def af:cy 252 aW:=W1 8 F mix aF bw (.cons Z183.af (.cons Z147.af .nil)) Tryz.func252
def br (a0:ah):md a0=Z77.md a0:=by
 unfold md Z77.md
 first
 | (simp only [Z183.br,Z147.br];done)
 | (simp only [Z183.br,Z147.br];rfl)
 | rfl
end Z184
namespace Z185
inductive Pt where
 | p0 (a:aC) (b c:Int) (d:aC)
def pid:Pt->Nat
 | .p0 ..=>3
def cj:Pt->List V
 | .p0 a b c d=>[.own 0,.sl none 57 a,.int .i64 b,.int .i64 c]
def cg:Pt->List aV
 | .p0 a b c d=>[.row 3 d]
def step (J:Pt->aH):Pt->aH
 | .p0 a b c d=>(cond (decide (c<b)) (m2 c (a.length:Int) (call (Z184.R (aU.at a (toNat c))) fun v1=>(bZ (eP (((d.length:Int)+1)*8)) (J (.p0 a b (i64.wrap (c+1)) (d++[[L.int v1]])))))) (ret (d:aC)))
def start (J:Pt->aH)(x0:aC):aH:=J (.p0 x0 (x0.length:Int) 0 [])
def live:Nat->Live:=fun i=>match i with | 3=>[(3,some 3),(7,none),(8,none),(9,none)] | _=>[]
def md (a0:List ah):List Int:=(a0.map (fun (y1:ah)=>(Z184.md y1)))
def gd (a0:List ah):Prop:=(bM (2^21) (fun y:ah=>ah.Sm (2^21) y) a0)
def R:=RR gd md
def aj {a0}(h:gd a0):R (a0.map ah.row)=some ((md a0).map aZ):=aO (a:=a0) h
def aW:=CN [pL 57] (oL 3) RT.dec R
def bw (a0)(hg:gd a0):∃n,start (iter step n) (a0.map ah.row)=ret ((md a0).map aZ):=by
 unfold gd at hg
 have H0:=hg
 unfold start md
 try simp only [SS]
 have Bh2:a0.length<=maxLen:=(by
   have:=(H0).1
   try simp only [maxLen] at *
   omega)
 refine ex_eq (out:=(fun b:List Int=>ret ((b.map aZ):aC))) (mS (g:=fun (y1:ah)=>(Z184.md y1)) (z:=ah.zero) (t:=fun (s3:List Int)=>s3)) ?_
 refine dM (p:=Pt.p0 (a0.map ah.row) (a0.length:Int) 0 ([].map aZ)) fz ?_
 refine cm (pt:=fun (i1:Nat) (s3:List Int)=>Pt.p0 (a0.map ah.row) (a0.length:Int) (i1:Int) (s3.map aZ)) (s:=([]:List Int)) (out:=(fun b:List Int=>ret ((b.map aZ):aC))) (fun (i1:Nat) (s3:List Int)=>s3.length<=([]:List Int).length+1*i1) (fun J i1 s3 h2 hih2=>?_) (fun s3 hih2=>?_) (by simp)
 ·simp only [step,SS]
  have gr_:=hih2
  try simp only [LN] at gr_
  have bb_:=Bh2
  simp only [maxLen] at bb_
  have:=(H0).1
  refine bz.yes (by apply decide_eq_true;omega) ?_
  refine bz.yes aJ ?_
  refine bz.yes (aN h2) ?_
  refine cr (Z184.aj (bM.getD (z:=ah.zero) H0 h2)) ?_
  refine bz.yes lm ?_
  refine bz.inl (by
    have g_:=hih2
    try simp only [LN] at g_ ⊢
    first | omega | (simp;done) | (simp;omega)) ?_
  rw [aG h2 Bh2]
  all_goals exact fz
 ·simp only [step,SS]
  have gr_:=hih2
  try simp only [LN] at gr_
  have:=(H0).1
  refine dx (by apply decide_eq_false;omega) ?_
  refine ⟨0,?_⟩
  all_goals exact fz
def af:cy 220 aW:=L1 20 pid cj cg live step start mix aF bw (.cons Z184.af .nil) Tryz.func220
def len (a0:List ah):(md a0).length=a0.length:=by simp [md]
def br (a0:List ah):md a0=Z78.md a0:=by
 unfold md Z78.md
 first
 | (simp only [Z184.br];done)
 | (simp only [Z184.br];rfl)
 | rfl
end Z185
namespace Z186
def F (x0:aC):aH:=(call (Z147.R x0) fun v1=>ret (v1:Int))
def md (a0:List Int):Int:=((Z147.md a0):Int)
def gd (a0:List Int):Prop:=(bM (2^42) (fun y:Int=>True) a0)
def R:=RR gd md
def aj {a0}(h:gd a0):R (a0.map aZ)=some (md a0):=aO (a:=a0) h
def aW:=CN [pL 3] oI RT.dec R
def bw (a0)(hg:gd a0):F (a0.map aZ)=ret (md a0):=by
 unfold gd at hg
 have H0:=hg
 unfold F md
 try simp only [SS]
 refine ct (Z147.aj (H0.mono (by decide) (fun x hx=>trivial))) ?_
 all_goals exact fz
def af:cy 287 aW:=W1 5 F mix aF bw (.cons Z147.af .nil) Tryz.func287
def br (a0:List Int):md a0=Z50.md a0:=by
 unfold md
 exact Z147.br a0
end Z186
namespace Z187
def F (x0 x1:Int):aH:=(call (Z186.R [[L.int 229],[L.int x0],[L.int x1]]) fun v1=>ret (v1:Int))
def md (a0 a1:Int):Int:=((Z186.md [229,a0,a1]):Int)
def gd (a0 a1:Int):Prop:=True
def R:=RR (p2 gd) (u2 md)
def aj {a0 a1}(h:gd a0 a1):R (a0,a1)=some (md a0 a1):=aO (a:=(a0,a1)) h
def aW:=CN [pI,pI] oI RT.dec R
def bw (a0)(a1)(hg:gd a0 a1):F a0 a1=ret (md a0 a1):=by
 unfold F md
 try simp only [SS]
 refine bp (Z186.md [229,a0,a1]) (rq (Z186.aj (a0:=[229,a0,a1]) ⟨(om),fun _ _=>trivial⟩)) ?_
 all_goals exact fz
def af:cy 278 aW:=W2 9 F mix aF bw (.cons Z186.af .nil) Tryz.func278
def br (a0 a1:Int):md a0 a1=Z79.md a0 a1:=by
 unfold md Z79.md
 first
 | (simp only [Z186.br];done)
 | (simp only [Z186.br];rfl)
 | rfl
end Z187
namespace Z188
inductive Pt where
 | p0 (a:aC) (b:Int) (c:aC)
def pid:Pt->Nat
 | .p0 ..=>3
def cj:Pt->List V
 | .p0 a b c=>[.sl none 3 a,.own 0,.int .i64 b]
def cg:Pt->List aV
 | .p0 a b c=>[.row 3 c]
def step (J:Pt->aH):Pt->aH
 | .p0 a b c=>(cond (decide (b<(a.length:Int))) (cond (decide ((i64.wrap (b+1))<(a.length:Int))) (m2 b (a.length:Int) (bZ (decide ((0:Int)<=(i64.wrap (b+1)))) (bZ (decide ((i64.wrap (b+1))<(a.length:Int))) (call (Z187.R ((jh a (toNat b)),(jh a (toNat (i64.wrap (b+1)))))) fun v1=>(bZ (eP (((c.length:Int)+1)*8)) (J (.p0 a (i64.wrap (b+2)) (c++[[L.int v1]])))))))) (m2 b (a.length:Int) (bZ (eP (((c.length:Int)+1)*8)) (J (.p0 a (i64.wrap (b+2)) (c++[[L.int (jh a (toNat b))]])))))) (ret (c:aC)))
def start (J:Pt->aH)(x0:aC):aH:=J (.p0 x0 0 [])
def live:Nat->Live:=fun i=>match i with | 3=>[(0,none),(3,some 3),(4,none)] | _=>[]
def md (a0:List Int):List Int:=Z80.md a0
def gd (a0:List Int):Prop:=bM (2^38) (fun y:Int=>True) a0
def R:=RR gd md
def aj {a0}(h:gd a0):R (a0.map aZ)=some ((md a0).map aZ):=aO (a:=a0) h
def aW:=CN [pL 3] (oL 3) RT.dec R
def bw (a0)(hg:gd a0):∃n,start (iter step n) (a0.map aZ)=ret ((md a0).map aZ):=by
 obtain ⟨H1,_⟩:=hg
 have key:∀(k i:Nat) (c:List Int),i+k=a0.length->c.length<=i->∃n,iter step n (Pt.p0 (a0.map aZ) (i:Int) (c.map aZ))=ret ((c++Z80.up (a0.drop i)).map aZ:aC):=by
  intro k
  induction k using Nat.strongRecOn with
  | _ k ih=>
  intro i c hi hc
  match k,hi,ih with
  | 0,hi,_=>
   refine ⟨1,?_⟩
   show step (iter step 0) (Pt.p0 _ _ _)=_
   simp only [step,List.length_map]
   refine cL (decide_eq_false (by omega)) ?_
   rw [List.drop_eq_nil_of_le (by omega)]
   simp only [Z80.up,List.append_nil]
  | 1,hi,ih=>
   obtain ⟨n,hn⟩:=ih 0 (by omega) (i+1) (c++[a0.getD i 0]) (by omega) (by simp;omega)
   have h2:∃n,iter step n (Pt.p0 (a0.map aZ) (i64.wrap ((i:Int)+2)) ((c++[a0.getD i 0]).map aZ))=ret ((c++[a0.getD i 0]).map aZ:aC):=by
    refine ⟨1,?_⟩
    show step (iter step 0) (Pt.p0 _ _ _)=_
    simp only [step,List.length_map]
    refine cL (decide_eq_false ?_) rfl
    rw [Go.IntWalk.i64_in _ (by omega)];omega
   obtain ⟨n,hn⟩:=h2
   refine ⟨n+1,?_⟩
   show step (iter step n) (Pt.p0 _ _ _)=_
   simp only [step,List.length_map,cE,gM]
   refine ak (decide_eq_true (by omega)) (cL (decide_eq_false ?_) (ak (decide_eq_true (by omega)) (ak (decide_eq_true (by omega)) (ak (iy (by omega)) ?_))))
   ·rw [Go.IntWalk.i64_in _ (by omega)];omega
   ·rw [List.map_append] at hn
    refine Eq.trans hn ?_
    rw [List.drop_eq_getElem_cons (by omega),List.drop_eq_nil_of_le (by omega),eF (by omega:i<a0.length)]
    simp only [Z80.up,List.map_append]
  | k+2,hi,ih=>
   obtain ⟨n,hn⟩:=ih k (by omega) (i+2) (c++[Z79.md (a0.getD i 0) (a0.getD (i+1) 0)]) (by omega) (by simp;omega)
   refine ⟨n+1,?_⟩
   show step (iter step n) (Pt.p0 _ _ _)=_
   have w1:i64.wrap ((i:Int)+1)=((i+1:Nat):Int):=by rw [Go.IntWalk.i64_in _ (by omega)];omega
   have w2:i64.wrap ((i:Int)+2)=((i+2:Nat):Int):=by rw [Go.IntWalk.i64_in _ (by omega)];omega
   simp only [step,List.length_map,w1,w2,cE,gM]
   refine ak (decide_eq_true (by omega)) (ak (decide_eq_true (by omega)) (ak (decide_eq_true (by omega)) (ak (decide_eq_true (by omega)) (ak (decide_eq_true (by omega)) (ak (decide_eq_true (by omega)) ?_)))))
   refine bp (Z79.md (a0.getD i 0) (a0.getD (i+1) 0)) (by have:=Z187.aj (a0:=a0.getD i 0) (a1:=a0.getD (i+1) 0) trivial;rw [Z187.br] at this;exact this) (ak (iy (by omega)) ?_)
   rw [List.map_append] at hn
   refine Eq.trans hn ?_
   rw [List.drop_eq_getElem_cons (by omega:i<a0.length),List.drop_eq_getElem_cons (by omega:i+1<a0.length),eF (by omega:i<a0.length),eF (by omega:i+1<a0.length)]
   simp only [Z80.up,List.append_assoc,List.cons_append,List.nil_append]
 have:=key a0.length 0 [] (by omega) (by simp)
 unfold start md Z80.md
 simpa using this
def af:cy 251 aW:=L1 38 pid cj cg live step start mix aF bw (.cons Z187.af .nil) Tryz.func251
def br (a0:List Int):md a0=Z80.md a0:=by
 unfold md Z80.md
 first
 | (simp only [Z187.br];done)
 | (simp only [Z187.br];rfl)
 | rfl
end Z188
namespace Z189
inductive Pt where
 | p0 (a:aC)
 | p1 (a:aC)
def pid:Pt->Nat
 | .p0 ..=>3
 | .p1 ..=>3
def cj:Pt->List V
 | .p0 a=>[.sl none 3 a]
 | .p1 a=>[.own 0]
def cg:Pt->List aV
 | .p0 a=>[]
 | .p1 a=>[.row 3 a]
def step (J:Pt->aH):Pt->aH
 | .p0 a=>(cond (decide ((a.length:Int)>1)) (call (Z188.R a) fun v1=>J (.p1 v1)) (bZ (decide ((0:Int)<(a.length:Int))) (ret ((jh a 0):Int))))
 | .p1 a=>(cond (decide ((a.length:Int)>1)) (call (Z188.R a) fun v1=>J (.p1 v1)) (bZ (decide ((0:Int)<(a.length:Int))) (ret ((jh a 0):Int))))
def start (J:Pt->aH)(x0:aC):aH:=(cond ((x0.length:Int)==0) (call (Z186.R [[L.int 229]]) fun v1=>ret (v1:Int)) (J (.p0 x0)))
def live:Nat->Live:=fun i=>match i with | 3=>[(0,none)] | _=>[]
def md (a0:List Int):Int:=Z81.md a0
def gd (a0:List Int):Prop:=bM (2^38) (fun y:Int=>True) a0
def R:=RR gd md
def aj {a0}(h:gd a0):R (a0.map aZ)=some (md a0):=aO (a:=a0) h
def aW:=CN [pL 3] oI RT.dec R
def bw (a0)(hg:gd a0):∃n,start (iter step n) (a0.map aZ)=ret (md a0):=by
 have one:∀(l:List Int) (r:Int) (n:Nat),bM (2^38) (fun y:Int=>True) l->0<l.length->(if l.length>1 then iter step n (Pt.p1 ((Z80.up l).map aZ))=ret r else ret (l.getD 0 0:Int)=ret r)->step (iter step n) (Pt.p0 (l.map aZ))=ret r/\step (iter step n) (Pt.p1 (l.map aZ))=ret r:=by
  intro l r n hl hp h
  simp only [step,List.length_map,gM]
  by_cases h1:l.length>1
  ·rw [if_pos h1] at h
   have hx:∀y:aH,(cond (decide ((l.length:Int)>1)) (call (Z188.R (l.map aZ)) (fun v1=>iter step n (Pt.p1 v1))) y)=ret r:=fun y=>
    ak (decide_eq_true (by omega)) (bp ((Z80.up l).map aZ) (Z188.aj hl) h)
   exact ⟨hx _,hx _⟩
  ·rw [if_neg h1] at h
   have hx:∀y:aH,(cond (decide ((l.length:Int)>1)) y (cond (decide ((0:Int)<(l.length:Int))) (ret (l.getD 0 0:Int)) none))=ret r:=fun y=>
    cL (decide_eq_false (by omega)) (ak (decide_eq_true (by omega)) h)
   exact ⟨hx _,hx _⟩
 have key:∀(k:Nat) (l:List Int),bM (2^38) (fun y:Int=>True) l->0<l.length->l.length<=k+1->∃n,step (iter step n) (Pt.p0 (l.map aZ))=ret (Z81.top k l)/\step (iter step n) (Pt.p1 (l.map aZ))=ret (Z81.top k l):=by
  intro k
  induction k with
  | zero=>
   intro l hl hp hk
   exact ⟨0,one l _ 0 hl hp (by rw [if_neg (by omega)];rfl)⟩
  | succ k ih=>
   intro l hl hp hk
   by_cases h1:l.length>1
   ·have hu:=Z80.jS l
    have hl1:=hl.1
    obtain ⟨n,_,hn⟩:=ih (Z80.up l) ⟨by omega,fun _ _=>trivial⟩ (by omega) (by omega)
    refine ⟨n+1,one l _ (n+1) hl hp ?_⟩
    rw [if_pos h1]
    refine Eq.trans hn ?_
    unfold Z81.top
    rw [if_pos h1]
    cases k<;>rfl
   ·refine ⟨0,one l _ 0 hl hp ?_⟩
    rw [if_neg h1]
    unfold Z81.top
    rw [if_neg h1]
 unfold md Z81.md
 unfold start
 simp only [List.length_map]
 by_cases h0:a0.length=0
 ·have e:((a0.length:Int)==0)=true:=by simpa using List.length_eq_zero_iff.1 h0
  refine ⟨0,?_⟩
  rw [e]
  refine bp (Z50.md [229]) (by have:=Z186.aj (a0:=[229]) ⟨by decide,fun _ _=>trivial⟩;rw [Z186.br] at this;exact this) ?_
  rw [if_pos h0]
 ·have e:((a0.length:Int)==0)=false:=beq_eq_false_iff_ne.2 (by omega)
  obtain ⟨n,hn,_⟩:=key a0.length a0 hg (by omega) (by omega)
  refine ⟨n+1,?_⟩
  rw [e,if_neg h0]
  exact hn
def af:cy 277 aW:=L1 16 pid cj cg live step start mix aF bw (.cons Z186.af (.cons Z188.af .nil)) Tryz.func277
def br (a0:List Int):md a0=Z81.md a0:=by
 unfold md Z81.md
 first
 | (simp only [Z186.br,Z188.br];done)
 | (simp only [Z186.br,Z188.br];rfl)
 | rfl
end Z189
namespace Z190
def F (x0 x1:Int):aH:=(call (Z186.R [[L.int 231],[L.int x0],[L.int x1]]) fun v1=>ret (v1:Int))
def md (a0 a1:Int):Int:=((Z186.md [231,a0,a1]):Int)
def gd (a0 a1:Int):Prop:=True
def R:=RR (p2 gd) (u2 md)
def aj {a0 a1}(h:gd a0 a1):R (a0,a1)=some (md a0 a1):=aO (a:=(a0,a1)) h
def aW:=CN [pI,pI] oI RT.dec R
def bw (a0)(a1)(hg:gd a0 a1):F a0 a1=ret (md a0 a1):=by
 unfold F md
 try simp only [SS]
 refine bp (Z186.md [231,a0,a1]) (rq (Z186.aj (a0:=[231,a0,a1]) ⟨(om),fun _ _=>trivial⟩)) ?_
 all_goals exact fz
def af:cy 265 aW:=W2 9 F mix aF bw (.cons Z186.af .nil) Tryz.func265
def br (a0 a1:Int):md a0 a1=Z82.md a0 a1:=by
 unfold md Z82.md
 first
 | (simp only [Z186.br];done)
 | (simp only [Z186.br];rfl)
 | rfl
end Z190
namespace Z191
def F (x0:aC):aH:=(call (Z185.R x0) fun v1=>(call (Z189.R v1) fun v2=>(call (Z190.R ((x0.length:Int),v2)) fun v3=>ret (v3:Int))))
def md (a0:List ah):Int:=((Z190.md (a0.length:Int) (Z189.md (Z185.md a0))):Int)
def gd (a0:List ah):Prop:=(bM (2^21) (fun y:ah=>ah.Sm (2^21) y) a0)
def R:=RR gd md
def aj {a0}(h:gd a0):R (a0.map ah.row)=some (md a0):=aO (a:=a0) h
def aW:=CN [pL 57] oI RT.dec R
def bw (a0)(hg:gd a0):F (a0.map ah.row)=ret (md a0):=by
 unfold gd at hg
 have H0:=hg
 unfold F md
 try simp only [SS]
 refine ct (Z185.aj H0) ?_
 try simp only [SS]
 refine ct (Z189.aj ⟨(have:=Z185.len a0;have:=(H0).1;om),fun _ _=>trivial⟩) ?_
 refine ct (Z190.aj trivial) ?_
 all_goals exact fz
def af:cy 250 aW:=W1 9 F mix aF bw (.cons Z185.af (.cons Z189.af (.cons Z190.af .nil))) Tryz.func250
def br (a0:List ah):md a0=Z83.md a0:=by
 unfold md Z83.md
 first
 | (simp only [Z185.br,Z189.br,Z190.br];done)
 | (simp only [Z185.br,Z189.br,Z190.br];rfl)
 | rfl
end Z191
namespace Z192
def F (x0:Int)(x1:aC):aH:=(call (Z180.R x1) fun v1=>(cond v1 (call (Z191.R x1) fun v2=>ret ((v2==x0):Bool)) bh))
def md (a0:Int)(a1:List ah):Bool:=(cond (Z180.md a1) (((Z191.md a1)==a0):Bool) (false:Bool))
def gd (a0:Int)(a1:List ah):Prop:=(bM (2^21) (fun y:ah=>ah.Sm (2^21) y) a1)
def R:=RR (p2 gd) (u2 md)
def aj {a0 a1}(h:gd a0 a1):R (a0,(a1.map ah.row))=some (md a0 a1):=aO (a:=(a0,a1)) h
def aW:=CN [pI,pL 57] oB RT.dec R
def bw (a0)(a1)(hg:gd a0 a1):F a0 (a1.map ah.row)=ret (md a0 a1):=by
 unfold gd at hg
 have H1:=hg
 unfold F md
 try simp only [SS]
 refine ct (Z180.aj H1) ?_
 refine au ret (fun c1=>?_) (fun _=>rfl)
 refine ct (Z191.aj H1) ?_
 all_goals exact fz
def af:cy 216 aW:=W2 13 F mix aF bw (.cons Z180.af (.cons Z191.af .nil)) Tryz.func216
def br (a0:Int)(a1:List ah):md a0 a1=Z84.md a0 a1:=by
 unfold md Z84.md
 first
 | (simp only [Z180.br,Z191.br];done)
 | (simp only [Z180.br,Z191.br];rfl)
 | rfl
end Z192
namespace Z193
def F (x0:dJ):aH:=(call (Z174.R x0.aR) fun v1=>(cond (!v1) bh (call (Z175.R x0.aR) fun v2=>(cond (v2.ck==(x0.bK.length:Int)) (call (Z192.R (v2.cQ,x0.bK)) fun v3=>ret (v3:Bool)) bh))))
def md (a0:aK):Bool:=(cond (!(Z174.md a0.aR)) (false:Bool) (cond ((Z175.md a0.aR).ck==(a0.bK.length:Int)) ((Z192.md ((Z175.md a0.aR).cQ) a0.bK):Bool) (false:Bool)))
def gd (a0:aK):Prop:=(aK.Sm (2^21) a0)
def R:=RR gd md
def aj {a0}(h:gd a0):R (aK.r a0)=some (md a0):=aO (a:=a0) h
def aW:=CN [.agg sJ] oB RT.dec R
def bw (a0)(hg:gd a0):F (aK.r a0)=ret (md a0):=by
 unfold gd at hg
 have H0:=hg
 unfold F md
 try simp only [SS]
 refine ct (Z174.aj H0.1) ?_
 refine au ret (fun _=>rfl) (fun c1=>?_)
 have dc1:=c1
 try simp only [DC] at dc1
 try have tc1:=Z174.tr (by simpa using c1)
 refine ct (Z175.aj ⟨H0.1,(by
   have:=(H0.1).1
   first | assumption | exact om)⟩) ?_
 try simp only [SS]
 refine au ret (fun c2=>?_) (fun _=>rfl)
 refine ct (Z192.aj H0.2) ?_
 all_goals exact fz
def af:cy 175 aW:=W1 24 F mix aF bw (.cons Z174.af (.cons Z175.af (.cons Z192.af .nil))) Tryz.func175
def tr {a0:aK}(h:md a0=true):1<=a0.aR.length:=by
 unfold md at h
 cases hc:Z174.md a0.aR
 ·rw [hc] at h;cases h
 ·exact (Z174.tr hc).1
def br (a0:aK):md a0=Z85.md a0:=by
 unfold md Z85.md
 rw [Z174.br,Z192.br]
 unfold Z175.md Z70.md
 cases h:Z69.md a0.aR
 ·rfl
 ·rfl
end Z193
namespace Z194
def F (x0:dJ):aH:=(call (Z193.R x0) fun v1=>(cond (!v1) (ret ((-1):Int)) (call (Z175.R x0.aR) fun v2=>ret (v2.bD:Int))))
def md (a0:aK):Int:=(cond (!(Z193.md a0)) ((-1):Int) ((Z175.md a0.aR).bD:Int))
def gd (a0:aK):Prop:=(aK.Sm (2^21) a0)
def R:=RR gd md
def aj {a0}(h:gd a0):R (aK.r a0)=some (md a0):=aO (a:=a0) h
def aW:=CN [.agg sJ] oI RT.dec R
def bw (a0)(hg:gd a0):F (aK.r a0)=ret (md a0):=by
 unfold gd at hg
 have H0:=hg
 unfold F md
 try simp only [SS]
 refine ct (Z193.aj H0) ?_
 refine au ret (fun _=>rfl) (fun c1=>?_)
 have dc1:=c1
 try simp only [DC] at dc1
 try have tc1:=Z193.tr (by simpa using c1)
 refine ct (Z175.aj ⟨H0.1,(by
   have:=(H0.1).1
   first | assumption | exact om)⟩) ?_
 try simp only [SS]
 all_goals exact fz
def af:cy 174 aW:=W1 10 F mix aF bw (.cons Z193.af (.cons Z175.af .nil)) Tryz.func174
def br (a0:aK):md a0=Z86.md a0:=by
 unfold md Z86.md
 rw [Z193.br]
 cases h:Z85.md a0
 ·rfl
 ·have h2:Z69.md a0.aR=true:=by
   unfold Z85.md Z70.md at h
   cases hc:Z69.md a0.aR
   ·rw [hc] at h;cases h
   ·rfl
  unfold Z175.md Z70.md
  rw [h2]
  rfl
end Z194
namespace Z195
def F (x0:dJ)(x1:List L):aH:=(call (Z194.R x0) fun v1=>ret ((v1==(gi x1)):Bool))
def pats:List gj:=[.agg [.sl 141,.sl 57],.ptr [aB]]
def res:RP:=.one (.rd (.bool))
def md (a0:aK)(a1:Int):Bool:=(((Z194.md a0)==a1):Bool)
def gd (a0:aK)(a1:Int):Prop:=(aK.Sm (2^21) a0)
def acc (ls:List L):dJ×Int:=((dJ.dec ls),(gi (cJ 1 (aA 2 ls))))
def R:(dJ×Int)->Option Bool:=RR (p2 gd) (u2 md)
def aj {a0 a1}(h:gd a0 a1):R ((aK.r a0),a1)=some (md a0 a1):=aO (a:=(a0,a1)) h
def aW:fT:=CN pats res acc R
def bw (a0:aK)(a1:Int)(p1:List L)(e1:a1=(gi p1))(hg:gd a0 a1):F (aK.r a0) p1=ret ((md a0 a1):Bool):=by
 unfold gd at hg
 have H0:=hg
 unfold F md
 try simp only [SS,<-e1]
 refine ct (Z194.aj H0) ?_
 all_goals exact fz
def ox (ls:List L)(a:aK×Int)(e:acc ls=Im.im a)(hg:(p2 gd) a):∃n:Nat,F (dJ.dec ls) (cJ 1 (aA 2 ls))=ret (Im.im ((u2 md) a)):=by
 have e0:(aK.r a.1)=(dJ.dec ls):=(congrArg (fun x=>x.1) e.symm)
 have hn:=bw a.1 a.2 (cJ 1 (aA 2 ls)) (congrArg (fun x=>x.2) e.symm) hg
 refine ⟨0,?_⟩
 rw [<-e0]
 exact hn
def af:cy 173 aW:=VP (live:=fun _=>[]) (nt:=8) (accr:=fun ls=>((dJ.dec ls),(cJ 1 (aA 2 ls)))) (run:=fun _ x=>F x.1 x.2) mix aF (.cons Z194.af .nil) Tryz.func173 (by kernel_rfl) (fun _ _=>by kernel_rfl) (fun ls a _ e hg=>ox ls a e hg)
end Z195
namespace Z196
inductive Pt where
 | p0 (a:aC) (b:List L) (c d:Int)
def pid:Pt->Nat
 | .p0 ..=>2
def cj:Pt->List V
 | .p0 a b c d=>[.sl none 155 a,.fn 173 [.dB none [aB] b 0],.int .i64 c,.int .i64 d]
def cg:Pt->List aV
 | .p0 a b c d=>[]
def step (J:Pt->aH):Pt->aH
 | .p0 a b c d=>(cond (decide (d<c)) (m2 d (a.length:Int) (call (Z195.R ((dJ.at a (toNat d)),(gi b))) fun v1=>(cond v1 (ret (d:Int)) (J (.p0 a b c (i64.wrap (d+1))))))) (ret ((-1):Int)))
def start (J:Pt->aH)(x0:aC)(x1:List L):aH:=J (.p0 x0 x1 (x0.length:Int) 0)
def live:Nat->Live:=fun i=>match i with | 2=>[(0,none),(1,none),(7,none),(8,none)] | _=>[]
def pats:List gj:=[.rd (.sl 155),.fn 173 [[aB]]]
def res:RP:=.one (.rd (.int .i64))
abbrev E:Env:={ T:=assoc kL,G:=dm [(173,Z195.aW)],nt:=19 }
def step_eq (I:cH)(p:Pt):cR E live I (pid p) (bQ Tryz.f172) (fE (live (pid p)) (cj p) (cg p)) (cG E Tryz.f172 res)=step (fun q=>I (pid q) (cj q) (cg q)) p:=by
 cases p<;>kernel_rfl
def start_eq (I:cH)(ls:List L):eS E live I (bQ Tryz.f172) (cW pats ls) (cG E Tryz.f172 res)=start (fun q=>I (pid q) (cj q) (cg q)) (ls.headD .hole).aS (cJ 1 (aA 1 ls)):=by kernel_rfl
def run_eq (n:Nat)(ls:List L):eN E live Tryz.f172 res n (cW pats ls)=start (iter step n) (ls.headD .hole).aS (cJ 1 (aA 1 ls)):=cB (id:=pid) (vs:=cj) (hs:=cg) (step:=step) (start:=fun J=>start J (ls.headD .hole).aS (cJ 1 (aA 1 ls))) step_eq (fun I=>start_eq I ls) n
def md (a0:List aK)(a1:Int):Int:=(dR (S:=Unit) (β:=Int) (fun (i1:Nat) (y1:aK) (s3:Unit)=>(cond (Z195.md y1 a1) (.inr ((i1:Int):Int)) (.inl ()))) (fun (s3:Unit)=>((-1):Int)) 0 a0 ())
def gd (a0:List aK)(a1:Int):Prop:=(bM (2^21) (fun y:aK=>aK.Sm (2^21) y) a0)
def acc (ls:List L):aC×Int:=((ls.headD .hole).aS,(gi (cJ 1 (aA 1 ls))))
def R:(aC×Int)->Option Int:=RR (p2 gd) (u2 md)
def aj {a0 a1}(h:gd a0 a1):R ((a0.map aK.row),a1)=some (md a0 a1):=aO (a:=(a0,a1)) h
def aW:fT:=CN pats res acc R
def bw (a0:List aK)(a1:Int)(p1:List L)(e1:a1=(gi p1))(hg:gd a0 a1):∃n,start (iter step n) (a0.map aK.row) p1=ret ((md a0 a1):Int):=by
 unfold gd at hg
 have H0:=hg
 unfold start md
 try simp only [SS,<-e1]
 have Bh2:a0.length<=maxLen:=(by
   have:=(H0).1
   try simp only [maxLen] at *
   omega)
 refine ex_eq (out:=ret) (cU (z:=aK.zero)) ?_
 refine dM (p:=Pt.p0 (a0.map aK.row) p1 (a0.length:Int) 0) fz ?_
 refine cm (pt:=fun (i1:Nat) (s3:Unit)=>Pt.p0 (a0.map aK.row) p1 (a0.length:Int) (i1:Int)) (s:=(():Unit)) (out:=ret) (fun _ _=>True) (fun J i1 s3 h2 hih2=>?_) (fun s3 hih2=>?_) trivial
 ·simp only [step,SS,<-e1]
  have bb_:=Bh2
  simp only [maxLen] at bb_
  have:=(H0).1
  refine bz.yes (by apply decide_eq_true;omega) ?_
  refine bz.yes aJ ?_
  refine bz.yes (aN h2) ?_
  refine cr (Z195.aj (bM.getD (z:=aK.zero) H0 h2)) ?_
  refine bz.bif (fun c4=>?_) (fun c4=>?_)
  ·refine bz.inr ?_
   all_goals exact fz
  ·refine bz.inl trivial ?_
   rw [aG h2 Bh2]
   all_goals exact fz
 ·simp only [step,SS,<-e1]
  have:=(H0).1
  refine dx (by apply decide_eq_false;omega) ?_
  refine ⟨0,?_⟩
  all_goals exact fz
def ox (ls:List L)(a:List aK×Int)(e:acc ls=Im.im a)(hg:(p2 gd) a):∃n:Nat,start (iter step n) ((ls.headD .hole).aS) (cJ 1 (aA 1 ls))=ret (Im.im ((u2 md) a)):=by
 have e0:(a.1.map aK.row)=(ls.headD .hole).aS:=(congrArg (fun x=>x.1) e.symm)
 obtain ⟨n,hn⟩:=bw a.1 a.2 (cJ 1 (aA 1 ls)) (congrArg (fun x=>x.2) e.symm) hg
 refine ⟨n,?_⟩
 rw [<-e0]
 exact hn
def af:cy 172 aW:=VP (accr:=fun ls=>((ls.headD .hole).aS,(cJ 1 (aA 1 ls)))) (run:=fun n x=>start (iter step n) x.1 x.2) mix aF (.cons Z195.af .nil) Tryz.func172 (by kernel_rfl) run_eq (fun ls a _ e hg=>ox ls a e hg)
def fa (a0:List aK)(a1:Int):-1<=md a0 a1/\md a0 a1<(a0.length:Int):=by
 unfold md
 refine fW ?_ _ _
 all_goals
  intro i x s b h
  revert h
  simp only [Bool.cond_eq_ite]
  repeat' split
  all_goals (intro h;first | (cases h;rfl) | cases h)
def idx_eq (a0:List aK)(a1:Int):md a0 a1=iL (fun y=>Z195.md y a1) 0 a0:=by
 unfold md
 exact gN
end Z196
namespace Z197
def F (x0:cI)(x1:Int):aH:=(cond (decide (x1<0)) (ret ((-1):Int)) (call (Z196.R (x0.bG,x1)) fun v1=>ret (v1:Int)))
def md (a0:ay)(a1:Int):Int:=(cond (decide (a1<0)) ((-1):Int) ((Z196.md a0.bG a1):Int))
def gd (a0:ay)(a1:Int):Prop:=(ay.Sm (2^21) a0)
def R:=RR (p2 gd) (u2 md)
def aj {a0 a1}(h:gd a0 a1):R ((ay.r a0),a1)=some (md a0 a1):=aO (a:=(a0,a1)) h
def aW:=CN [.agg Be,pI] oI RT.dec R
def bw (a0)(a1)(hg:gd a0 a1):F (ay.r a0) a1=ret (md a0 a1):=by
 unfold gd at hg
 have H0:=hg
 unfold F md
 try simp only [SS]
 refine au ret (fun _=>rfl) (fun c1=>?_)
 refine ct (Z196.aj H0) ?_
 have fv1_:=Z196.fa a0.bG a1
 all_goals exact fz
def af:cy 138 aW:=W2 11 F mix aF bw (.cons Z196.af .nil) Tryz.func138
def fa (a0:ay)(a1:Int):-1<=md a0 a1/\md a0 a1<(a0.bG.length:Int):=by
 unfold md
 have:=Z196.fa a0.bG a1
 cases decide (a1<0)
 ·exact this
 ·simp only [bg];omega
def br (a0:ay)(a1:Int):md a0 a1=Z87.md a0 a1:=by
 unfold md Z87.md
 rw [Z196.idx_eq]
 rw [kX (p:=fun y=>(Z86.md y==a1)&&decide (a1>=0)) (fun i x s=>by cases (Z86.md x==a1)<;>cases decide (a1>=0)<;>rfl)]
 have e:(fun y=>Z195.md y a1)=fun y=>Z86.md y==a1:=by
  funext y
  unfold Z195.md
  rw [Z194.br]
 have key:∀(xs:List aK) (i:Nat),iL (fun _=>false) i xs=-1:=by
  intro xs
  induction xs with
  | nil=>intro i;rfl
  | cons x xs ih=>intro i;unfold iL;exact ih _
 rw [e]
 by_cases h:a1<0
 ·rw [decide_eq_true h,decide_eq_false (show ¬a1>=0 by omega)]
  simp only [bg,Bool.and_false,key]
 ·rw [decide_eq_false h,decide_eq_true (show a1>=0 by omega)]
  simp only [bq,Bool.and_true]
end Z197
namespace Z198
def F (x0:aU)(x1:List L):aH:=ret ((x0.bf==(sDec x1)):Bool)
def pats:List gj:=[.agg [.str,aB,aB,.sl 9],.ptr [.str]]
def res:RP:=.one (.rd (.bool))
def md (a0:ah)(a1:aD):Bool:=((a0.bf==a1):Bool)
def gd (a0:ah)(a1:aD):Prop:=True
def acc (ls:List L):aU×aD:=((aU.dec ls),(sDec (cJ 1 (aA 4 ls))))
def R:(aU×aD)->Option Bool:=RR (p2 gd) (u2 md)
def aj {a0 a1}(h:gd a0 a1):R ((ah.r a0),a1)=some (md a0 a1):=aO (a:=(a0,a1)) h
def aW:fT:=CN pats res acc R
def bw (a0:ah)(a1:aD)(p1:List L)(e1:a1=(sDec p1))(hg:gd a0 a1):F (ah.r a0) p1=ret ((md a0 a1):Bool):=by
 unfold F md
 try simp only [SS,<-e1]
 all_goals exact fz
def ox (ls:List L)(a:ah×aD)(e:acc ls=Im.im a)(hg:(p2 gd) a):∃n:Nat,F (aU.dec ls) (cJ 1 (aA 4 ls))=ret (Im.im ((u2 md) a)):=by
 have e0:(ah.r a.1)=(aU.dec ls):=(congrArg (fun x=>x.1) e.symm)
 have hn:=bw a.1 a.2 (cJ 1 (aA 4 ls)) (congrArg (fun x=>x.2) e.symm) hg
 refine ⟨0,?_⟩
 rw [<-e0]
 exact hn
def af:cy 218 aW:=VP (live:=fun _=>[]) (nt:=8) (accr:=fun ls=>((aU.dec ls),(cJ 1 (aA 4 ls)))) (run:=fun _ x=>F x.1 x.2) mix aF .nil Tryz.func218 (by kernel_rfl) (fun _ _=>by kernel_rfl) (fun ls a _ e hg=>ox ls a e hg)
end Z198
namespace Z199
inductive Pt where
 | p0 (a:aC) (b:List L) (c d:Int)
def pid:Pt->Nat
 | .p0 ..=>2
def cj:Pt->List V
 | .p0 a b c d=>[.sl none 57 a,.fn 218 [.dB none [.str] b 0],.int .i64 c,.int .i64 d]
def cg:Pt->List aV
 | .p0 a b c d=>[]
def step (J:Pt->aH):Pt->aH
 | .p0 a b c d=>(cond (decide (d<c)) (m2 d (a.length:Int) (call (Z198.R ((aU.at a (toNat d)),(sDec b))) fun v1=>(cond v1 (ret (d:Int)) (J (.p0 a b c (i64.wrap (d+1))))))) (ret ((-1):Int)))
def start (J:Pt->aH)(x0:aC)(x1:List L):aH:=J (.p0 x0 x1 (x0.length:Int) 0)
def live:Nat->Live:=fun i=>match i with | 2=>[(0,none),(1,none),(7,none),(8,none)] | _=>[]
def pats:List gj:=[.rd (.sl 57),.fn 218 [[.str]]]
def res:RP:=.one (.rd (.int .i64))
abbrev E:Env:={ T:=assoc kL,G:=dm [(218,Z198.aW)],nt:=19 }
def step_eq (I:cH)(p:Pt):cR E live I (pid p) (bQ Tryz.f217) (fE (live (pid p)) (cj p) (cg p)) (cG E Tryz.f217 res)=step (fun q=>I (pid q) (cj q) (cg q)) p:=by
 cases p<;>kernel_rfl
def start_eq (I:cH)(ls:List L):eS E live I (bQ Tryz.f217) (cW pats ls) (cG E Tryz.f217 res)=start (fun q=>I (pid q) (cj q) (cg q)) (ls.headD .hole).aS (cJ 1 (aA 1 ls)):=by kernel_rfl
def run_eq (n:Nat)(ls:List L):eN E live Tryz.f217 res n (cW pats ls)=start (iter step n) (ls.headD .hole).aS (cJ 1 (aA 1 ls)):=cB (id:=pid) (vs:=cj) (hs:=cg) (step:=step) (start:=fun J=>start J (ls.headD .hole).aS (cJ 1 (aA 1 ls))) step_eq (fun I=>start_eq I ls) n
def md (a0:List ah)(a1:aD):Int:=(dR (S:=Unit) (β:=Int) (fun (i1:Nat) (y1:ah) (s3:Unit)=>(cond (Z198.md y1 a1) (.inr ((i1:Int):Int)) (.inl ()))) (fun (s3:Unit)=>((-1):Int)) 0 a0 ())
def gd (a0:List ah)(a1:aD):Prop:=(bM (2^21) (fun y:ah=>ah.Sm (2^21) y) a0)
def acc (ls:List L):aC×aD:=((ls.headD .hole).aS,(sDec (cJ 1 (aA 1 ls))))
def R:(aC×aD)->Option Int:=RR (p2 gd) (u2 md)
def aj {a0 a1}(h:gd a0 a1):R ((a0.map ah.row),a1)=some (md a0 a1):=aO (a:=(a0,a1)) h
def aW:fT:=CN pats res acc R
def bw (a0:List ah)(a1:aD)(p1:List L)(e1:a1=(sDec p1))(hg:gd a0 a1):∃n,start (iter step n) (a0.map ah.row) p1=ret ((md a0 a1):Int):=by
 unfold gd at hg
 have H0:=hg
 unfold start md
 try simp only [SS,<-e1]
 have Bh2:a0.length<=maxLen:=(by
   have:=(H0).1
   try simp only [maxLen] at *
   omega)
 refine ex_eq (out:=ret) (cU (z:=ah.zero)) ?_
 refine dM (p:=Pt.p0 (a0.map ah.row) p1 (a0.length:Int) 0) fz ?_
 refine cm (pt:=fun (i1:Nat) (s3:Unit)=>Pt.p0 (a0.map ah.row) p1 (a0.length:Int) (i1:Int)) (s:=(():Unit)) (out:=ret) (fun _ _=>True) (fun J i1 s3 h2 hih2=>?_) (fun s3 hih2=>?_) trivial
 ·simp only [step,SS,<-e1]
  have bb_:=Bh2
  simp only [maxLen] at bb_
  have:=(H0).1
  refine bz.yes (by apply decide_eq_true;omega) ?_
  refine bz.yes aJ ?_
  refine bz.yes (aN h2) ?_
  refine cr (Z198.aj trivial) ?_
  refine bz.bif (fun c4=>?_) (fun c4=>?_)
  ·refine bz.inr ?_
   all_goals exact fz
  ·refine bz.inl trivial ?_
   rw [aG h2 Bh2]
   all_goals exact fz
 ·simp only [step,SS,<-e1]
  have:=(H0).1
  refine dx (by apply decide_eq_false;omega) ?_
  refine ⟨0,?_⟩
  all_goals exact fz
def ox (ls:List L)(a:List ah×aD)(e:acc ls=Im.im a)(hg:(p2 gd) a):∃n:Nat,start (iter step n) ((ls.headD .hole).aS) (cJ 1 (aA 1 ls))=ret (Im.im ((u2 md) a)):=by
 have e0:(a.1.map ah.row)=(ls.headD .hole).aS:=(congrArg (fun x=>x.1) e.symm)
 obtain ⟨n,hn⟩:=bw a.1 a.2 (cJ 1 (aA 1 ls)) (congrArg (fun x=>x.2) e.symm) hg
 refine ⟨n,?_⟩
 rw [<-e0]
 exact hn
def af:cy 217 aW:=VP (accr:=fun ls=>((ls.headD .hole).aS,(cJ 1 (aA 1 ls)))) (run:=fun n x=>start (iter step n) x.1 x.2) mix aF (.cons Z198.af .nil) Tryz.func217 (by kernel_rfl) run_eq (fun ls a _ e hg=>ox ls a e hg)
def fa (a0:List ah)(a1:aD):-1<=md a0 a1/\md a0 a1<(a0.length:Int):=by
 unfold md
 refine fW ?_ _ _
 all_goals
  intro i x s b h
  revert h
  simp only [Bool.cond_eq_ite]
  repeat' split
  all_goals (intro h;first | (cases h;rfl) | cases h)
def idx_eq (a0:List ah)(a1:aD):md a0 a1=iL (fun y=>Z198.md y a1) 0 a0:=by
 unfold md
 exact gN
end Z199
namespace Z200
def F (x0:aC)(x1:aD):aH:=(call (Z199.R (x0,x1)) fun v1=>ret (v1:Int))
def md (a0:List ah)(a1:aD):Int:=((Z199.md a0 a1):Int)
def gd (a0:List ah)(a1:aD):Prop:=(bM (2^21) (fun y:ah=>ah.Sm (2^21) y) a0)
def R:=RR (p2 gd) (u2 md)
def aj {a0 a1}(h:gd a0 a1):R ((a0.map ah.row),a1)=some (md a0 a1):=aO (a:=(a0,a1)) h
def aW:=CN [pL 57,pS] oI RT.dec R
def bw (a0)(a1)(hg:gd a0 a1):F (a0.map ah.row) a1=ret (md a0 a1):=by
 unfold gd at hg
 have H0:=hg
 unfold F md
 try simp only [SS]
 refine ct (Z199.aj H0) ?_
 have fv1_:=Z199.fa a0 a1
 all_goals exact fz
def af:cy 176 aW:=W2 8 F mix aF bw (.cons Z199.af .nil) Tryz.func176
def fa (a0:List ah)(a1:aD):-1<=md a0 a1/\md a0 a1<(a0.length:Int):=by
 unfold md
 refine fW ?_ _ _
 all_goals
  intro i x s b h
  revert h
  simp only [Bool.cond_eq_ite]
  repeat' split
  all_goals (intro h;first | (cases h;rfl) | cases h)
def br (a0:List ah)(a1:aD):md a0 a1=Z88.md a0 a1:=by
 unfold md Z88.md
 first
 | (simp only [Z199.idx_eq];done)
 | (simp only [Z199.idx_eq];rfl)
 | rfl
end Z200
namespace Z201
def F (x0:aC):aH:=(cond x0.isEmpty (either (ret ([]:aC)) ((bZ (eP ((x0.length:Int)*16)) (ret (x0:aC))))) (bZ (eP ((x0.length:Int)*16)) (ret (x0:aC))))
def md (a0:List aD):List aD:=a0
def gd (a0:List aD):Prop:=bM (2^21) (fun y:aD=>y.size<=(2^21)) a0
def R:=RR gd md
def aj {a0}(h:gd a0):R (a0.map cC)=some (a0.map cC):=aO (a:=a0) h
def aW:=CN [pL 9] (oL 9) RT.dec R
def bw (a0)(hg:gd a0):F (a0.map cC)=ret ((md a0).map cC):=by
 have H0:=hg.1
 unfold F md
 have hl:eP (((a0.map cC).length:Int)*16)=true:=iy (by simp only [List.length_map];omega)
 simp only [hl,bg]
 cases a0 with
 | nil=>exact kW
 | cons x xs=>rfl
def af:cy 135 aW:=W1 8 F mix aF bw .nil Tryz.func135
end Z201
namespace Z202
def F (x0:aU):aH:=(call (Z201.R x0.bH) fun v1=>ret ((⟨x0.bf,x0.bJ,x0.bV,v1⟩:aU):aU))
def md (a0:ah):ah:=a0
def gd (a0:ah):Prop:=(ah.Sm (2^21) a0)
def R:=RR gd md
def aj {a0}(h:gd a0):R (ah.r a0)=some (ah.r a0):=aO (a:=a0) h
def aW:=CN [.agg qV] (.agg f57) RT.dec R
def bw (a0)(hg:gd a0):F (ah.r a0)=ret (ah.r (md a0)):=by
 unfold gd at hg
 have H0:=hg
 unfold F md
 try simp only [SS]
 refine ct (Z201.aj H0.2) ?_
 try simp only [SS]
 all_goals exact fz
def af:cy 136 aW:=W1 8 F mix aF bw (.cons Z201.af .nil) Tryz.func136
end Z202
namespace Z203
inductive Pt where
 | p0 (a:aC) (b:Int) (c:aC)
 | p1 (a:Int) (b c:aC)
def pid:Pt->Nat
 | .p0 ..=>4
 | .p1 ..=>4
def cj:Pt->List V
 | .p0 a b c=>[.sl none 3 a,.int .i64 b,.own 0]
 | .p1 a b c=>[.own 0,.int .i64 a,.own 1]
def cg:Pt->List aV
 | .p0 a b c=>[.row 3 c]
 | .p1 a b c=>[.row 3 b,.row 3 c]
def step (J:Pt->aH):Pt->aH
 | .p0 a b c=>(cond (decide ((a.length:Int)>1)) (cond (decide ((mA .i64 b 1)<(a.length:Int))) (bZ (decide ((0:Int)<=(mA .i64 b 1))) (bZ (decide ((mA .i64 b 1)<(a.length:Int))) (bZ (eP (((c.length:Int)+1)*8)) (call (Z188.R a) fun v1=>J (.p1 (i64.wrap (Int.tdiv b 2)) v1 (c++[[L.int (jh a (toNat (mA .i64 b 1)))]])))))) (call (Z188.R a) fun v2=>J (.p1 (i64.wrap (Int.tdiv b 2)) v2 c))) (ret (c:aC)))
 | .p1 a b c=>(cond (decide ((b.length:Int)>1)) (cond (decide ((mA .i64 a 1)<(b.length:Int))) (bZ (decide ((0:Int)<=(mA .i64 a 1))) (bZ (decide ((mA .i64 a 1)<(b.length:Int))) (bZ (eP (((c.length:Int)+1)*8)) (call (Z188.R b) fun v1=>J (.p1 (i64.wrap (Int.tdiv a 2)) v1 (c++[[L.int (jh b (toNat (mA .i64 a 1)))]])))))) (call (Z188.R b) fun v2=>J (.p1 (i64.wrap (Int.tdiv a 2)) v2 c))) (ret (c:aC)))
def start (J:Pt->aH)(x0:aC)(x1:Int):aH:=(call (Z130.R (x1,0,(i64.wrap ((x0.length:Int) - 1)))) fun v1=>(cond (!v1) (ret ([]:aC)) (J (.p0 x0 x1 []))))
def live:Nat->Live:=fun i=>match i with | 4=>[(0,none),(1,none),(5,some 3)] | _=>[]
def BB (b:Nat)(h:b<2^40):mA .i64 (b:Int) 1=((Z90.vf b:Nat):Int):=by
 have e1:(BitVec.ofInt 64 (b:Int)).toNat=b:=by simp [BitVec.toNat_ofInt];omega
 have e2:(BitVec.ofInt 64 (1:Int)).toNat=1:=by decide
 have e3:(b ^^^ 1)=Z90.vf b:=by
  have a1:(b ^^^ 1) % 2=(b+1) % 2:=by
   have h:=Nat.xor_mod_two_pow (a:=b) (b:=1) (n:=1)
   rw [Nat.pow_one,show (1:Nat) % 2=1 from rfl] at h
   rcases Nat.mod_two_eq_zero_or_one b with e | e
   ·rw [e,show (0:Nat) ^^^ 1=1 from rfl] at h;omega
   ·rw [e,show (1:Nat) ^^^ 1=0 from rfl] at h;omega
  have a2:(b ^^^ 1) / 2=b / 2:=by rw [Nat.xor_div_two];simp
  unfold Z90.vf;split<;>omega
 show i64.wrap (((BitVec.ofInt 64 (b:Int) ^^^ BitVec.ofInt 64 1).toNat:Nat):Int)=_
 rw [BitVec.toNat_xor,e1,e2,e3,wi _ (by unfold Z90.vf;split<;>omega)]
def md (a0:List Int)(a1:Int):List Int:=Z90.md a0 a1
def gd (a0:List Int)(a1:Int):Prop:=bM (2^38) (fun y:Int=>True) a0
def R:=RR (p2 gd) (u2 md)
def aj {a0 a1}(h:gd a0 a1):R ((a0.map aZ),a1)=some ((md a0 a1).map aZ):=aO (a:=(a0,a1)) h
def aW:=CN [pL 3,pI] (oL 3) RT.dec R
def bw (a0)(a1)(hg:gd a0 a1):∃n,start (iter step n) (a0.map aZ) a1=ret ((md a0 a1).map aZ):=by
 have one:∀(i:Nat) (l c r:List Int) (n:Nat),bM (2^38) (fun y:Int=>True) l->i<2^40->c.length<2^40->(if l.length>1 then iter step n (Pt.p1 ((i / 2:Nat):Int) ((Z80.up l).map aZ) ((Z90.vi i l c).map aZ))=ret (r.map aZ) else c=r)->
   step (iter step n) (Pt.p0 (l.map aZ) (i:Int) (c.map aZ))=ret (r.map aZ)/\step (iter step n) (Pt.p1 (i:Int) (l.map aZ) (c.map aZ))=ret (r.map aZ):=by
  intro i l c r n hl hi hc h
  have hs:=BB i hi
  have hd:=Z90.half i hi
  refine ⟨?_,?_⟩
  all_goals
   simp only [step,MM,List.length_map,gM,hs,hd,cE]
   by_cases h1:l.length>1
   ·rw [if_pos h1] at h
    rw [decide_eq_true (show (l.length:Int)>1 by omega),bg]
    by_cases h2:Z90.vf i<l.length
    ·rw [Z90.vi,if_pos h2,List.map_append] at h
     rw [decide_eq_true (show ((Z90.vf i:Nat):Int)<(l.length:Int) by omega),bg,decide_eq_true (show (0:Int)<=((Z90.vf i:Nat):Int) by omega),bg,bg,iy (by omega),bg]
     exact bp ((Z80.up l).map aZ) (Z188.aj hl) h
    ·rw [Z90.vi,if_neg h2] at h
     rw [decide_eq_false (show ¬((Z90.vf i:Nat):Int)<(l.length:Int) by omega),bq]
     exact bp ((Z80.up l).map aZ) (Z188.aj hl) h
   ·rw [if_neg h1] at h
    rw [decide_eq_false (show ¬(l.length:Int)>1 by omega),bq,h]
 have key:∀(k i:Nat) (l c:List Int),bM (2^38) (fun y:Int=>True) l->l.length<=k->i<2^40->c.length+k<2^40->
   ∃n,step (iter step n) (Pt.p0 (l.map aZ) (i:Int) (c.map aZ))=ret ((Z90.yS k i l c).map aZ)/\step (iter step n) (Pt.p1 (i:Int) (l.map aZ) (c.map aZ))=ret ((Z90.yS k i l c).map aZ):=by
  intro k
  induction k with
  | zero=>intro i l c hl hk hi hc;exact ⟨0,one i l c _ 0 hl hi (by omega) (by rw [if_neg (by omega)];rfl)⟩
  | succ k ih=>
   intro i l c hl hk hi hc
   unfold Z90.yS
   by_cases h1:l.length>1
   ·have hu:=Z80.jS l
    have hl1:=hl.1
    have h2:(Z90.vi i l c).length<=c.length+1:=by unfold Z90.vi;split<;>simp
    obtain ⟨n,_,hn⟩:=ih (i / 2) (Z80.up l) (Z90.vi i l c) ⟨by omega,fun _ _=>trivial⟩ (by omega) (by omega) (by omega)
    rw [if_pos h1]
    exact ⟨n+1,one i l c _ (n+1) hl hi (by omega) (by rw [if_pos h1];exact hn)⟩
   ·rw [if_neg h1]
    exact ⟨0,one i l c _ 0 hl hi (by omega) (by rw [if_neg h1])⟩
 unfold gd at hg
 unfold start md Z90.md
 simp only [List.length_map]
 have hlen:=hg.1
 cases h:Z41.md a1 0 (i64.wrap ((a0.length:Int) - 1))
 ·exact ⟨0,bp false (by rw [<-h,<-Z130.br];exact Z130.aj trivial) rfl⟩
 ·have hh:=h
  rw [wi _ (by omega)] at hh
  simp [Z41.md] at hh
  obtain ⟨i,rfl⟩:=Int.eq_ofNat_of_zero_le hh.1
  obtain ⟨n,hn,_⟩:=key a0.length i a0 [] hg (Nat.le_refl _) (by omega) (by simp only [List.length_nil];omega)
  exact ⟨n+1,bp true (by rw [<-h,<-Z130.br];exact Z130.aj trivial) hn⟩
def af:cy 219 aW:=L2 36 pid cj cg live step start mix aF bw (.cons Z130.af (.cons Z188.af .nil)) Tryz.func219
def len (a0:List Int)(a1:Int):(md a0 a1).length<=a0.length:=by
 intros;unfold md Z90.md
 cases Z41.md _ 0 _
 ·exact zero_le _
 ·exact le_trans (Z90.tA _ _ _ _) (by simp)
def br (a0:List Int)(a1:Int):md a0 a1=Z90.md a0 a1:=by
 unfold md Z90.md
 first
 | (simp only [Z130.br,Z188.br];done)
 | (simp only [Z130.br,Z188.br];rfl)
 | rfl
end Z203
namespace Z204
def F (x0:aC)(x1:aD):aH:=(call (Z200.R (x0,x1)) fun v1=>(cond (decide (v1<0)) (ret (((⟨0,[]⟩:bR),false):bR×Bool)) (call (Z185.R x0) fun v2=>(call (Z203.R (v2,v1)) fun v3=>ret (((⟨v1,v3⟩:bR),true):bR×Bool)))))
def md (a0:List ah)(a1:aD):aL×Bool:=(cond (decide ((Z200.md a0 a1)<0)) ((⟨0,[]⟩:aL),false) ((⟨(Z200.md a0 a1),(Z203.md (Z185.md a0) (Z200.md a0 a1))⟩:aL),true))
def gd (a0:List ah)(a1:aD):Prop:=(bM (2^21) (fun y:ah=>ah.Sm (2^21) y) a0)
def R:=RR (p2 gd) (u2 md)
def aj {a0 a1}(h:gd a0 a1):R ((a0.map ah.row),a1)=some ((aL.r (md a0 a1).1),(md a0 a1).2):=aO (a:=(a0,a1)) h
def aW:=CN [pL 57,pS] (.iH [(true,f161),(false,[fB])]) RT.dec R
def bw (a0)(a1)(hg:gd a0 a1):F (a0.map ah.row) a1=ret ((aL.r (md a0 a1).1),(md a0 a1).2):=by
 unfold gd at hg
 have H0:=hg
 unfold F md
 try simp only [SS]
 refine ct (Z200.aj H0) ?_
 have fv1_:=Z200.fa a0 a1
 refine au (fun b:aL×Bool=>ret (((aL.r b.1),b.2):bR×Bool)) (fun c1=>?_) (fun c1=>?_)
 ·all_goals exact fz
 ·have dc1:=c1
  try simp only [DC] at dc1
  refine ct (Z185.aj H0) ?_
  try simp only [SS]
  refine ct (Z203.aj ⟨(have:=Z185.len a0;have:=(H0).1;om),fun _ _=>trivial⟩) ?_
  try simp only [SS]
  all_goals exact fz
def af:cy 177 aW:=W2 19 F mix aF bw (.cons Z200.af (.cons Z185.af (.cons Z203.af .nil))) Tryz.func177
def gb {a0:List ah}{a1:aD}(hg:gd a0 a1):aL.Sm (2^21) ((md a0 a1).1):=by
 unfold gd at hg;unfold md
 cases decide (Z200.md a0 a1<0)
 ·refine ⟨?_,fun _ _=>trivial⟩
  have h:=Z203.len (Z185.md a0) (Z200.md a0 a1)
  rw [Z185.len] at h
  exact le_trans h hg.1
 ·exact bM.nil
def br (a0:List ah)(a1:aD):md a0 a1=Z91.md a0 a1:=by
 unfold md Z91.md
 first
 | (simp only [Z200.br,Z185.br,Z203.br];done)
 | (simp only [Z200.br,Z185.br,Z203.br];rfl)
 | rfl
end Z204
end Go.DM
end
