/- What the functions compute that the law reaches, and that the law returns true. Conditions: none. -/
import Derived.Test.YtgagkddebgbdmaaGreatResolveOfflineTy
import Derived.Test.YtgagkddebgbdmaaGreatResolveOfflineFnB
set_option linter.all false
set_option maxRecDepth 100000
noncomputable section
namespace Go.DM
open Go.Proofs
open Go.IntKind (i64)
open Int (toNat)
open Nat (le_trans zero_le)
namespace Z223
def F (x0:aD)(x1:aC):aI:=(call (Z221.R (x0,x1)) fun v1=>(cond (v1<0) (ret (((⟨0,[]⟩:cS),false):cS×Bool)) (call (Z206.R x0) fun v2=>(call (Z222.R (v2,v1)) fun v3=>ret (((⟨v1,v3⟩:cS),true):cS×Bool)))))
def md (a0:List ah)(a1:aC):aH×Bool:=(cond ((Z221.md a0 a1)<0) ((⟨0,[]⟩:aH),false) ((⟨(Z221.md a0 a1),(Z222.md (Z206.md a0) (Z221.md a0 a1))⟩:aH),true))
def gd (a0:List ah)(a1:aC):Prop:=(bO (2^21) (fun y:ah=>ah.Sm (2^21) y) a0)
def R:=RR (p2 gd) (u2 md)
def aj {a0 a1}(h:gd a0 a1):R ((a0.map ah.row),a1)=some ((aH.r (md a0 a1).1),(md a0 a1).2):=cB h
def aU:=CN [pL 38,pS] (.iL [(true,f122),(false,[fB])]) RT.dec R
def bh (a0)(a1)(hg:gd a0 a1):F (a0.map ah.row) a1=ret ((aH.r (md a0 a1).1),(md a0 a1).2):=by
 unfold gd at hg
 have H0:=hg
 unfold F md
 try simp only [SS]
 refine ct (Z221.aj H0) ?_
 have fv1_:=Z221.fa a0 a1
 refine bt (fun b:aH×Bool=>ret (((aH.r b.1),b.2):cS×Bool)) (fun c1=>?_) (fun c1=>?_)
 ·all_goals exact fz
 ·have dc1:=c1
  try simp only [DC] at dc1
  refine ct (Z206.aj H0) ?_
  try simp only [SS]
  refine ct (Z222.aj ⟨(have:=Z206.len a0;have:=(H0).1;om),fun _ _=>trivial⟩) ?_
  try simp only [SS]
  all_goals exact fz
def af:cC 248 aU:=W2 19 F mix aB bh (jS Z221.af Z206.af Z222.af) Tryz.func248
def iF {a0:List ah}{a1:aC}(hg:gd a0 a1):aH.Sm (2^21) ((md a0 a1).1):=by
 unfold gd at hg;unfold md
 cases decide (Z221.md a0 a1<0)
 ·refine ⟨?_,fun _ _=>trivial⟩
  have h:=Z222.len (Z206.md a0) (Z221.md a0 a1)
  rw [Z206.len] at h
  exact le_trans h hg.1
 ·exact bO.nil
def br (a0:List ah)(a1:aC):md a0 a1=Z99.md a0 a1:=by
 unfold md Z99.md
 first
 | (simp only [Z221.br,Z206.br,Z222.br];done)
 | (simp only [Z221.br,Z206.br,Z222.br];rfl)
 | rfl
end Z223
namespace Z224
inductive Pt where
 | p0 (a:aC) (b:Int) (c:aD) (d e:Int)
def cG:Pt->List V
 | .p0 a b c d e=>[.str a,.int .i64 b,.sl none 38 c,.int .i64 d,.int .i64 e]
def step (J:Pt->aI):Pt->aI
 | .p0 a b c d e=>(cond (e<d) (m2 e (c.length:Int) (call (Z200.R ((bH.at c (toNat e)).aV,a)) fun v1=>(cond (v1<0) (J (.p0 a (i64.wrap (b+1)) c d (i64.wrap (e+1)))) (J (.p0 a b c d (i64.wrap (e+1))))))) (ret (b:Int)))
def start (J:Pt->aI)(x0:aD)(x1:aC):aI:=J (.p0 x1 0 x0 x0.length 0)
def live:Nat->Live:=fL [(3,gA [1,5,8,9,10])]
def md (a0:List ah)(a1:aC):Int:=(eo (S:=Int) (β:=Int) (fun y1 s3=>(cond ((Z200.md (y1.aV) a1)<0) (.inl (i64.wrap (s3+1))) (.inl s3))) (fun s3=>s3) a0 0)
def gd (a0:List ah)(a1:aC):Prop:=(bO (2^21) (fun y:ah=>ah.Sm (2^21) y) a0)
def R:=RR (p2 gd) (u2 md)
def aj {a0 a1}(h:gd a0 a1):R ((a0.map ah.row),a1)=some (md a0 a1):=cB h
def aU:=CN [pL 38,pS] oI RT.dec R
def bh (a0)(a1)(H0:gd a0 a1):∃n,start (iter step n) (a0.map ah.row) a1=ret (md a0 a1):=by
 have Bh2:=bl H0
 refine ex_eq (eS (z:=ah.zero)) (dW (p:=Pt.p0 a1 0 (a0.map ah.row) (a0.length:Int) 0) fz ?_)
 refine cq (pt:=fun (i1:Nat) (s3:Int)=>Pt.p0 a1 s3 (a0.map ah.row) (a0.length:Int) (i1:Int)) (fun _ _=>True) (fun J i1 s3 h2 hih2=>?_) (fun s3 hih2=>?_) trivial
 ·simp only [step,SS]
  refine bq.yes dt (bq.yes aK ?_)
  refine bq.yes (aP h2) (cr (Z200.aj trivial) ?_)
  refine bq.bif (fun c4=>?_) (fun c4=>?_)
  ·refine bq.inl trivial ?_
   rw [aJ h2 Bh2]
  ·refine bq.inl trivial ?_
   rw [aJ h2 Bh2]
 ·simp only [step,SS]
  refine dH dn (⟨0,?_⟩)
  exact fz
def af:cC 301 aU:=L2 23 (fun _=>3) cG (fun _=>[]) live step start mix aB bh (cJ Z200.af) Tryz.func301
def fa (a0:List ah)(a1:aC):a0.length<=2^21->0<=md a0 a1/\md a0 a1<=(a0.length:Int):=fun hl=>by
 have key:∀(xs:List ah) (s:Int),0<=s->s+xs.length<=2^22->0<=eo (S:=Int) (β:=Int) (fun (y1:ah) (s3:Int)=>(cond ((Z200.md (y1.aV) a1)<0) (.inl (i64.wrap (s3+1))) (.inl s3))) (fun (s3:Int)=>(s3:Int)) xs s/\eo (S:=Int) (β:=Int) (fun (y1:ah) (s3:Int)=>(cond ((Z200.md (y1.aV) a1)<0) (.inl (i64.wrap (s3+1))) (.inl s3))) (fun (s3:Int)=>(s3:Int)) xs s<=s+xs.length:=by
  intro xs
  induction xs with
  | nil=>intro s h0 h1;exact ⟨h0,by simp [eo]⟩
  | cons x xs ih=>
   intro s h0 h1
   simp only [List.length_cons] at h1 ⊢
   unfold eo
   cases decide (Z200.md x.aV a1<0)
   ·have:=ih s h0 (by omega)
    simp only [bg]
    omega
   ·have:=ih (s+1) (by omega) (by omega)
    simp only [aZ]
    rw [wi _ (by omega)]
    omega
 have:=key a0 0 (Int.le_refl _) (by omega)
 unfold md
 omega
def br (a0:List ah)(a1:aC):md a0 a1=Z100.md a0 a1:=by
 unfold md Z100.md
 simp only [Z200.br]
end Z224
namespace Z225
def F (x0:aD)(x1:aC):aI:=(call (Z201.R x0) fun v1=>(cond (!v1) (ret (((⟨0,(⟨(⟨#[]⟩:aC),0,0,[]⟩),(⟨(⟨#[]⟩:aC),0,0,[]⟩),(⟨0,[]⟩),(⟨0,[]⟩)⟩),false):eN×Bool)) (call (Z148.R x1) fun v2=>(cond (!v2) (ret (((⟨0,(⟨(⟨#[]⟩:aC),0,0,[]⟩),(⟨(⟨#[]⟩:aC),0,0,[]⟩),(⟨0,[]⟩),(⟨0,[]⟩)⟩),false):eN×Bool)) (call (Z221.R (x0,x1)) fun v3=>(cond (v3>=0) (ret (((⟨0,(⟨(⟨#[]⟩:aC),0,0,[]⟩),(⟨(⟨#[]⟩:aC),0,0,[]⟩),(⟨0,[]⟩),(⟨0,[]⟩)⟩),false):eN×Bool)) (call (Z224.R (x0,x1)) fun v4=>(cond (v4>0) (cg ((0:Int)<=(i64.wrap (v4 - 1))) (cg ((i64.wrap (v4 - 1))<x0.length) (call (Z139.R (bH.at x0 (toNat (i64.wrap (v4 - 1))))) fun v5=>(call (Z223.R (x0,v5.aV)) fun v6=>(cond (v4<x0.length) (m2 v4 x0.length (call (Z139.R (bH.at x0 (toNat v4))) fun v7=>(call (Z223.R (x0,v7.aV)) fun v8=>ret (((⟨v4,v5,v7,v6.1,v8.1⟩),true):eN×Bool)))) (ret (((⟨v4,v5,(⟨(⟨#[]⟩:aC),0,0,[]⟩),v6.1,(⟨0,[]⟩)⟩),true):eN×Bool))))))) (cond (v4<x0.length) (m2 v4 x0.length (call (Z139.R (bH.at x0 (toNat v4))) fun v9=>(call (Z223.R (x0,v9.aV)) fun v10=>ret (((⟨v4,(⟨(⟨#[]⟩:aC),0,0,[]⟩),v9,(⟨0,[]⟩),v10.1⟩),true):eN×Bool)))) (ret (((⟨v4,(⟨(⟨#[]⟩:aC),0,0,[]⟩),(⟨(⟨#[]⟩:aC),0,0,[]⟩),(⟨0,[]⟩),(⟨0,[]⟩)⟩),true):eN×Bool)))))))))))
def md (a0:List ah)(a1:aC):bK×Bool:=(cond (!(Z201.md a0)) ((⟨0,(⟨((⟨#[]⟩:aC)),0,0,[]⟩),(⟨((⟨#[]⟩:aC)),0,0,[]⟩),(⟨0,[]⟩),(⟨0,[]⟩)⟩),false) (cond (!(Z148.md a1)) ((⟨0,(⟨((⟨#[]⟩:aC)),0,0,[]⟩),(⟨((⟨#[]⟩:aC)),0,0,[]⟩),(⟨0,[]⟩),(⟨0,[]⟩)⟩),false) (cond ((Z221.md a0 a1)>=0) ((⟨0,(⟨((⟨#[]⟩:aC)),0,0,[]⟩),(⟨((⟨#[]⟩:aC)),0,0,[]⟩),(⟨0,[]⟩),(⟨0,[]⟩)⟩),false) (cond ((Z224.md a0 a1)>0) (cond ((Z224.md a0 a1)<a0.length) ((⟨(Z224.md a0 a1),(a0.getD (toNat (i64.wrap ((Z224.md a0 a1) - 1))) ah.zero),(a0.getD (toNat (Z224.md a0 a1)) ah.zero),(Z223.md a0 ((a0.getD (toNat (i64.wrap ((Z224.md a0 a1) - 1))) ah.zero).aV)).1,(Z223.md a0 ((a0.getD (toNat (Z224.md a0 a1)) ah.zero).aV)).1⟩),true) ((⟨(Z224.md a0 a1),(a0.getD (toNat (i64.wrap ((Z224.md a0 a1) - 1))) ah.zero),(⟨((⟨#[]⟩:aC)),0,0,[]⟩),(Z223.md a0 ((a0.getD (toNat (i64.wrap ((Z224.md a0 a1) - 1))) ah.zero).aV)).1,(⟨0,[]⟩)⟩),true)) (cond ((Z224.md a0 a1)<a0.length) ((⟨(Z224.md a0 a1),(⟨((⟨#[]⟩:aC)),0,0,[]⟩),(a0.getD (toNat (Z224.md a0 a1)) ah.zero),(⟨0,[]⟩),(Z223.md a0 ((a0.getD (toNat (Z224.md a0 a1)) ah.zero).aV)).1⟩),true) ((⟨(Z224.md a0 a1),(⟨((⟨#[]⟩:aC)),0,0,[]⟩),(⟨((⟨#[]⟩:aC)),0,0,[]⟩),(⟨0,[]⟩),(⟨0,[]⟩)⟩),true))))))
def gd (a0:List ah)(a1:aC):Prop:=(bO (2^21) (fun y:ah=>ah.Sm (2^21) y) a0)/\(a1.size<=(2^21))
def R:=RR (p2 gd) (u2 md)
def aj {a0 a1}(h:gd a0 a1):R ((a0.map ah.row),a1)=some ((bK.r (md a0 a1).1),(md a0 a1).2):=cB h
def aU:=CN [pL 38,pS] (.iL [(true,f124),(false,[fB])]) RT.dec R
def bh (a0)(a1)(hg:gd a0 a1):F (a0.map ah.row) a1=ret ((bK.r (md a0 a1).1),(md a0 a1).2):=by
 obtain ⟨H0,H1⟩:=hg
 unfold F md
 simp only [SS]
 refine ct (Z201.aj H0) (bt (fun b:bK×Bool=>ret (((bK.r b.1),b.2):eN×Bool)) (fun c1=>fz) (fun c1=>?_))
 refine ct (Z148.aj (le_trans H1 (by decide))) (bt (fun b:bK×Bool=>ret (((bK.r b.1),b.2):eN×Bool)) (fun c2=>fz) (fun c2=>?_))
 refine ct (Z221.aj H0) (bt (fun b:bK×Bool=>ret (((bK.r b.1),b.2):eN×Bool)) (fun c3=>fz) (fun c3=>?_))
 refine ct (Z224.aj H0) ?_
 have fv4_:=Z224.fa a0 a1
 refine bt (fun b:bK×Bool=>ret (((bK.r b.1),b.2):eN×Bool)) (fun c4=>?_) (fun c4=>?_)
 ·have dc4:=c4
  simp only [DC] at dc4
  refine ak (have:=(H0).1;dt) (ak (have:=(H0).1;have:=(H0).1;dt) ?_)
  refine ct (Z139.aj (bO.getD H0 (by have:=(H0).1;first | assumption | omega | (simp (disch:=omega) only [wi];omega) | (simp;omega)))) (ct (Z223.aj H0) ?_)
  refine bt (fun b:bK×Bool=>ret (((bK.r b.1),b.2):eN×Bool)) (fun c5=>?_) (fun c5=>fz)
  have dc5:=c5
  simp only [DC] at dc5
  refine ak dt (ak (have:=(H0).1;have:=(H0).1;dt) ?_)
  refine ct (Z139.aj (bO.getD H0 (by have:=(H0).1;first | assumption | omega | (simp (disch:=omega) only [wi];omega) | (simp;omega)))) (ct (Z223.aj H0) ?_)
  exact fz
 ·refine bt (fun b:bK×Bool=>ret (((bK.r b.1),b.2):eN×Bool)) (fun c6=>?_) (fun c6=>fz)
  have dc6:=c6
  simp only [DC] at dc6
  refine ak (have:=(H0).1;dt) (ak (have:=(H0).1;have:=(H0).1;dt) ?_)
  refine ct (Z139.aj (bO.getD H0 (by have:=(H0).1;first | assumption | omega | (simp (disch:=omega) only [wi];omega) | (simp;omega)))) (ct (Z223.aj H0) ?_)
  exact fz
def af:cC 249 aU:=W2 68 F mix aB bh (zE Z201.af Z148.af Z221.af Z224.af Z139.af Z223.af) Tryz.func249
def iF {a0:List ah}{a1:aC}(hg:gd a0 a1):bK.Sm (2^21) ((md a0 a1).1):=by
 unfold gd at hg;unfold md
 have ez:ah.Sm (2^21) ⟨⟨#[]⟩,0,0,[]⟩:=⟨zero_le _,bO.nil⟩
 have pz:aH.Sm (2^21) ⟨0,[]⟩:=bO.nil
 have he:∀i,ah.Sm (2^21) (a0.getD i ah.zero):=fun i=>bO.sZ hg.1 ez
 have hp:∀x,aH.Sm (2^21) (Z223.md a0 x).1:=fun x=>Z223.iF hg.1
 simp only [Bool.cond_eq_ite]
 repeat' split
 all_goals (refine ⟨?_,?_,?_,?_⟩<;>first | exact he _ | exact hp _ | exact ez | exact pz)
def br (a0:List ah)(a1:aC):md a0 a1=Z101.md a0 a1:=by
 unfold md Z101.md
 simp only [Z201.br,Z148.br,Z221.br,Z224.br,Z223.br]
end Z225
namespace Z226
def F (x0:fq)(x1:aC):aI:=(call (Z214.R x0) fun v1=>(cond (!v1) (ret ((⟨[],false,(⟨(⟨#[]⟩:aC),0,0,[]⟩),(⟨0,[]⟩),(⟨0,(⟨(⟨#[]⟩:aC),0,0,[]⟩),(⟨(⟨#[]⟩:aC),0,0,[]⟩),(⟨0,[]⟩),(⟨0,[]⟩)⟩)⟩):bf)) (call (Z148.R x1) fun v2=>(cond (!v2) (ret ((⟨[],false,(⟨(⟨#[]⟩:aC),0,0,[]⟩),(⟨0,[]⟩),(⟨0,(⟨(⟨#[]⟩:aC),0,0,[]⟩),(⟨(⟨#[]⟩:aC),0,0,[]⟩),(⟨0,[]⟩),(⟨0,[]⟩)⟩)⟩):bf)) (call (Z137.R x0.aT) fun v3=>(call (Z221.R (x0.ck,x1)) fun v4=>(cond (v4>=0) (m2 v4 x0.ck.length (call (Z139.R (bH.at x0.ck (toNat v4))) fun v5=>(call (Z223.R (x0.ck,x1)) fun v6=>ret ((⟨v3,true,v5,v6.1,(⟨0,(⟨(⟨#[]⟩:aC),0,0,[]⟩),(⟨(⟨#[]⟩:aC),0,0,[]⟩),(⟨0,[]⟩),(⟨0,[]⟩)⟩)⟩):bf)))) (call (Z225.R (x0.ck,x1)) fun v7=>ret ((⟨v3,false,(⟨(⟨#[]⟩:aC),0,0,[]⟩),(⟨0,[]⟩),v7.1⟩):bf)))))))))
def md (a0:bD)(a1:aC):aq:=(cond (!(Z214.md a0)) (⟨[],false,(⟨((⟨#[]⟩:aC)),0,0,[]⟩),(⟨0,[]⟩),(⟨0,(⟨((⟨#[]⟩:aC)),0,0,[]⟩),(⟨((⟨#[]⟩:aC)),0,0,[]⟩),(⟨0,[]⟩),(⟨0,[]⟩)⟩)⟩) (cond (!(Z148.md a1)) (⟨[],false,(⟨((⟨#[]⟩:aC)),0,0,[]⟩),(⟨0,[]⟩),(⟨0,(⟨((⟨#[]⟩:aC)),0,0,[]⟩),(⟨((⟨#[]⟩:aC)),0,0,[]⟩),(⟨0,[]⟩),(⟨0,[]⟩)⟩)⟩) (cond ((Z221.md a0.ck a1)>=0) (⟨a0.aT,true,(a0.ck.getD (toNat (Z221.md a0.ck a1)) ah.zero),(Z223.md a0.ck a1).1,(⟨0,(⟨((⟨#[]⟩:aC)),0,0,[]⟩),(⟨((⟨#[]⟩:aC)),0,0,[]⟩),(⟨0,[]⟩),(⟨0,[]⟩)⟩)⟩) (⟨a0.aT,false,(⟨((⟨#[]⟩:aC)),0,0,[]⟩),(⟨0,[]⟩),(Z225.md a0.ck a1).1⟩))))
def gd (a0:bD)(a1:aC):Prop:=(bD.Sm (2^21) a0)/\(a1.size<=(2^21))
def R:=RR (p2 gd) (u2 md)
def aj {a0 a1}(h:gd a0 a1):R ((bD.r a0),a1)=some (aq.r (md a0 a1)):=cB h
def aU:=CN [.agg xq,pS] (.agg f126) RT.dec R
def bh (a0)(a1)(hg:gd a0 a1):F (bD.r a0) a1=ret (aq.r (md a0 a1)):=by
 obtain ⟨H0,H1⟩:=hg
 refine ct (Z214.aj H0) (bo (fun c1=>fz) (fun c1=>?_))
 refine ct (Z148.aj (le_trans H1 (by decide))) (bo (fun c2=>fz) (fun c2=>?_))
 refine ct (Z137.aj H0.1) ?_
 simp only [SS]
 refine ct (Z221.aj H0.2) ?_
 have fv4_:=Z221.fa a0.ck a1
 refine bo (fun c3=>?_) (fun c3=>ct (Z225.aj ⟨H0.2,H1⟩) fz)
 have dc3:=c3
 simp only [DC] at dc3
 refine ak dt (ak (have:=(H0.2).1;dt) ?_)
 refine ct (Z139.aj (bO.getD H0.2 (by omega))) (ct (Z223.aj H0.2) ?_)
 exact fz
def af:cC 194 aU:=W2 51 F mix aB bh (zj Z214.af Z148.af Z137.af Z221.af Z139.af Z223.af Z225.af) Tryz.func194
def iF {a0:bD}{a1:aC}(hg:gd a0 a1):aq.Sm (2^21) (md a0 a1):=by
 unfold gd at hg;unfold md
 obtain ⟨⟨hc,hl⟩,_⟩:=hg
 have ez:ah.Sm (2^21) ⟨⟨#[]⟩,0,0,[]⟩:=⟨zero_le _,bO.nil⟩
 have pz:aH.Sm (2^21) ⟨0,[]⟩:=bO.nil
 have gz:bK.Sm (2^21) ⟨0,⟨⟨#[]⟩,0,0,[]⟩,⟨⟨#[]⟩,0,0,[]⟩,⟨0,[]⟩,⟨0,[]⟩⟩:=⟨ez,ez,pz,pz⟩
 have he:∀i,ah.Sm (2^21) (a0.ck.getD i ah.zero):=fun i=>bO.sZ hl ez
 have hp:∀x,aH.Sm (2^21) (Z223.md a0.ck x).1:=fun x=>Z223.iF hl
 have hga:bK.Sm (2^21) (Z225.md a0.ck a1).1:=Z225.iF ⟨hl,by assumption⟩
 simp only [Bool.cond_eq_ite]
 repeat' split
 all_goals (refine ⟨?_,?_,?_,?_⟩<;>first | exact hc | exact bO.nil | exact he _ | exact hp _ | exact hga | exact ez | exact pz | exact gz)
def br (a0:bD)(a1:aC):md a0 a1=Z102.md a0 a1:=by
 unfold md Z102.md
 simp only [Z214.br,Z148.br,Z221.br,Z223.br,Z225.br]
end Z226
namespace Z227
def F (x0:ec)(x1:Int)(x2:aC):aI:=(call (Z218.R (x0,x1)) fun v1=>(cond (v1<0) (ret ((⟨[],false,(⟨(⟨#[]⟩:aC),0,0,[]⟩),(⟨0,[]⟩),(⟨0,(⟨(⟨#[]⟩:aC),0,0,[]⟩),(⟨(⟨#[]⟩:aC),0,0,[]⟩),(⟨0,[]⟩),(⟨0,[]⟩)⟩)⟩):bf)) (cond (x0.jz==4) (ret ((⟨[],false,(⟨(⟨#[]⟩:aC),0,0,[]⟩),(⟨0,[]⟩),(⟨0,(⟨(⟨#[]⟩:aC),0,0,[]⟩),(⟨(⟨#[]⟩:aC),0,0,[]⟩),(⟨0,[]⟩),(⟨0,[]⟩)⟩)⟩):bf)) (m2 v1 x0.bQ.length (call (Z226.R ((fq.at x0.bQ (toNat v1)),x2)) fun v2=>(cond (x0.jz==1) (ret ((⟨v2.aT,v2.bY,(⟨v2.aQ.aV,v2.aQ.bI,(i64.wrap (v2.aQ.bX+1)),v2.aQ.bz⟩),v2.cZ,v2.dS⟩):bf)) (cond (x0.jz==2) (cg ((0:Int)<=(cond ((0:Int)<(i64.wrap (v2.aT.length - 1))) (i64.wrap (v2.aT.length - 1)) 0)) (cg ((cond ((0:Int)<(i64.wrap (v2.aT.length - 1))) (i64.wrap (v2.aT.length - 1)) 0)<=v2.aT.length) (ret ((⟨(List.take (toNat (cond ((0:Int)<(i64.wrap (v2.aT.length - 1))) (i64.wrap (v2.aT.length - 1)) 0)) v2.aT),v2.bY,v2.aQ,v2.cZ,v2.dS⟩):bf)))) (cond (x0.jz==3) (ret ((⟨v2.aT,false,(⟨(⟨#[]⟩:aC),0,0,[]⟩),(⟨0,[]⟩),(⟨0,(⟨(⟨#[]⟩:aC),0,0,[]⟩),(⟨(⟨#[]⟩:aC),0,0,[]⟩),(⟨0,[]⟩),(⟨0,[]⟩)⟩)⟩):bf)) (ret v2)))))))))
def pats:List gN:=[.agg [.sl 215,au],.rd (.int .i64),.rd (.str)]
def res:RP:=.agg [.fr 178,.rd (.bool),.rd (.str),.rd (.int .i64),.rd (.int .i64),.fr 9,.rd (.int .i64),.fr 3,.rd (.int .i64),.rd (.str),.rd (.int .i64),.rd (.int .i64),.fr 9,.rd (.str),.rd (.int .i64),.rd (.int .i64),.fr 9,.rd (.int .i64),.fr 3,.rd (.int .i64),.fr 3]
def md (a0:aR)(a1:Int)(a2:aC):aq:=(cond ((Z218.md a0 a1)<0) (⟨[],false,(⟨((⟨#[]⟩:aC)),0,0,[]⟩),(⟨0,[]⟩),(⟨0,(⟨((⟨#[]⟩:aC)),0,0,[]⟩),(⟨((⟨#[]⟩:aC)),0,0,[]⟩),(⟨0,[]⟩),(⟨0,[]⟩)⟩)⟩) (cond (a0.jz==4) (⟨[],false,(⟨((⟨#[]⟩:aC)),0,0,[]⟩),(⟨0,[]⟩),(⟨0,(⟨((⟨#[]⟩:aC)),0,0,[]⟩),(⟨((⟨#[]⟩:aC)),0,0,[]⟩),(⟨0,[]⟩),(⟨0,[]⟩)⟩)⟩) (cond (a0.jz==1) (⟨(Z226.md (a0.bQ.getD (toNat (Z218.md a0 a1)) bD.zero) a2).aT,(Z226.md (a0.bQ.getD (toNat (Z218.md a0 a1)) bD.zero) a2).bY,(⟨(Z226.md (a0.bQ.getD (toNat (Z218.md a0 a1)) bD.zero) a2).aQ.aV,(Z226.md (a0.bQ.getD (toNat (Z218.md a0 a1)) bD.zero) a2).aQ.bI,(i64.wrap ((Z226.md (a0.bQ.getD (toNat (Z218.md a0 a1)) bD.zero) a2).aQ.bX+1)),(Z226.md (a0.bQ.getD (toNat (Z218.md a0 a1)) bD.zero) a2).aQ.bz⟩),(Z226.md (a0.bQ.getD (toNat (Z218.md a0 a1)) bD.zero) a2).cZ,(Z226.md (a0.bQ.getD (toNat (Z218.md a0 a1)) bD.zero) a2).dS⟩) (cond (a0.jz==2) (⟨(List.take (toNat (cond ((0:Int)<(i64.wrap (((Z226.md (a0.bQ.getD (toNat (Z218.md a0 a1)) bD.zero) a2).aT.length) - 1))) (i64.wrap (((Z226.md (a0.bQ.getD (toNat (Z218.md a0 a1)) bD.zero) a2).aT.length) - 1)) 0)) (Z226.md (a0.bQ.getD (toNat (Z218.md a0 a1)) bD.zero) a2).aT),(Z226.md (a0.bQ.getD (toNat (Z218.md a0 a1)) bD.zero) a2).bY,(Z226.md (a0.bQ.getD (toNat (Z218.md a0 a1)) bD.zero) a2).aQ,(Z226.md (a0.bQ.getD (toNat (Z218.md a0 a1)) bD.zero) a2).cZ,(Z226.md (a0.bQ.getD (toNat (Z218.md a0 a1)) bD.zero) a2).dS⟩) (cond (a0.jz==3) (⟨(Z226.md (a0.bQ.getD (toNat (Z218.md a0 a1)) bD.zero) a2).aT,false,(⟨((⟨#[]⟩:aC)),0,0,[]⟩),(⟨0,[]⟩),(⟨0,(⟨((⟨#[]⟩:aC)),0,0,[]⟩),(⟨((⟨#[]⟩:aC)),0,0,[]⟩),(⟨0,[]⟩),(⟨0,[]⟩)⟩)⟩) (Z226.md (a0.bQ.getD (toNat (Z218.md a0 a1)) bD.zero) a2))))))
def gd (a0:aR)(a1:Int)(a2:aC):Prop:=(aR.Sm (2^21) a0)/\(a2.size<=(2^21))
def acc (ls:List L):ec×Int×aC:=((ec.dec ls),((ay 2 ls).headD .hole).toInt,((ay 3 ls).headD .hole).toStr)
def R:(ec×Int×aC)->Option bf:=RR (p3 gd) (u3 md)
def aj {a0 a1 a2}(h:gd a0 a1 a2):R ((aR.r a0),a1,a2)=some (aq.r (md a0 a1 a2)):=kN h
def aU:fY:=CN pats res acc R
def bh (a0:aR)(a1:Int)(a2:aC)(hg:gd a0 a1 a2):F (aR.r a0) a1 a2=ret ((aq.r (md a0 a1 a2)):bf):=by
 obtain ⟨H0,H2⟩:=hg
 unfold F md
 simp only [SS]
 refine ct (Z218.aj H0) ?_
 have fv1_:=Z218.fa a0 a1
 refine bo (fun c1=>fz) (fun c1=>?_)
 have dc1:=c1
 simp only [DC] at dc1
 refine bo (fun c2=>fz) (fun c2=>?_)
 refine ak dt (ak (have:=(H0).1;have:=(H0).1;dt) ?_)
 refine ct (Z226.aj ⟨(bO.getD H0 (by have:=(H0).1;first | assumption | omega | (simp (disch:=omega) only [wi];omega) | (simp;omega))),H2⟩) ?_
 simp only [SS]
 refine bo (fun c3=>fz) (fun c3=>?_)
 refine bo (fun c4=>?_) (fun c4=>?_)
 ·refine ak (have:=((Z226.iF (a0:=a0.bQ.getD (toNat (Z218.md a0 a1)) bD.zero) ⟨(bO.getD H0 (by have:=(H0).1;first | assumption | omega | (simp (disch:=omega) only [wi];omega) | (simp;omega))),H2⟩).1).1;have:=(H0).1;dt) (ak (have:=((Z226.iF (a0:=a0.bQ.getD (toNat (Z218.md a0 a1)) bD.zero) ⟨(bO.getD H0 (by have:=(H0).1;first | assumption | omega | (simp (disch:=omega) only [wi];omega) | (simp;omega))),H2⟩).1).1;have:=(H0).1;dt) ?_)
  exact fz
 ·exact bo (fun c5=>fz) (fun c5=>fz)
def af:cC 148 aU:=VT (live:=fun _=>[]) (nt:=54) (run:=fun _ x=>F x.1 x.2.1 x.2.2) mix aB (eM Z218.af Z226.af) .nil Tryz.func148 (by kernel_rfl) (fun _ _=>by kernel_rfl) (fun _ a _ _ hg=>⟨0,bh a.1 a.2.1 a.2.2 hg⟩)
def br (a0:aR)(a1:Int)(a2:aC):md a0 a1 a2=Z103.md a0 a1 a2:=by
 unfold md Z103.md
 simp only [Z218.br,Z226.br]
 generalize Z102.md (a0.bQ.getD (toNat (Z96.md a0 a1)) bD.zero) a2=A
 have mx:∀n:Int,toNat (cond ((0:Int)<n) n 0)=toNat n:=by
  intro n
  by_cases h:(0:Int)<n
  ·rw [decide_eq_true h];rfl
  ·rw [decide_eq_false h];simp only [bg];omega
 have e:∀k:Nat,(⟨List.take k A.aT,A.bY,A.aQ,A.cZ,A.dS⟩:aq)=bif decide ((A.aT.length:Int)>0) then (⟨List.take k A.aT,A.bY,A.aQ,A.cZ,A.dS⟩:aq) else A:=by
  intro k
  obtain ⟨ch,f,e,p,g⟩:=A
  cases ch with
  | nil=>simp
  | cons x xs=>simp only [List.length_cons];rw [decide_eq_true (by omega)];rfl
 simp only [mx,<-e]
end Z227
namespace Z228
inductive Pt where
 | p0 (a:Int) (b:aC) (c:aD) (d e:Int) (f:aD)
def cG:Pt->List V
 | .p0 a b c d e f=>[.int .i64 a,.str b,.own 0,.sl none 138 c,.int .i64 d,.int .i64 e]
def cX:Pt->List aW
 | .p0 a b c d e f=>[.row 126 f]
def step (J:Pt->aI):Pt->aI
 | .p0 a b c d e f=>(cond (e<d) (m2 e (c.length:Int) (call (Z227.R ((ec.at c (toNat e)),a,b)) fun v1=>(cg (eX (((f.length:Int)+1)*304)) (J (.p0 a b c d (i64.wrap (e+1)) (f++[(bf.enc v1)])))))) (ret (f:aD)))
def start (J:Pt->aI)(x0:aD)(x1:Int)(x2:aC):aI:=(cg ((0:Int)<=(cond ((x0.length:Int)<4) (x0.length:Int) 4)) (cg ((cond ((x0.length:Int)<4) (x0.length:Int) 4)<=x0.length) (J (.p0 x1 x2 (List.take (toNat ((cond ((x0.length:Int)<4) (x0.length:Int) 4) - 0)) (List.drop 0 x0)) ((List.take (toNat ((cond ((x0.length:Int)<4) (x0.length:Int) 4) - 0)) (List.drop 0 x0)).length) 0 []))))
def live:Nat->Live:=fL [(3,[(1,none),(2,none),(7,some 126),(15,none),(16,none),(17,none)])]
def md (a0:List aR)(a1:Int)(a2:aC):List aq:=((List.take (toNat ((cond ((a0.length:Int)<4) (a0.length:Int) 4) - 0)) (List.drop 0 a0)).map (fun y1=>(Z227.md y1 a1 a2)))
def gd (a0:List aR)(a1:Int)(a2:aC):Prop:=(bO (2^21) (fun y:aR=>aR.Sm (2^21) y) a0)/\(a2.size<=(2^21))
def R:=RR (p3 gd) (u3 md)
def aj {a0 a1 a2}(h:gd a0 a1 a2):R ((a0.map aR.row),a1,a2)=some ((md a0 a1 a2).map aq.row):=kN h
def aU:=CN [pL 138,pI,pS] (oL 126) RT.dec R
def bh (a0)(a1)(a2)(hg:gd a0 a1 a2):∃n,start (iter step n) (a0.map aR.row) a1 a2=ret ((md a0 a1 a2).map aq.row):=by
 obtain ⟨H0,H2⟩:=hg
 refine dQ dt (dQ dt ?_)
 have Bh2:(List.take (toNat ((cond ((a0.length:Int)<4) (a0.length:Int) 4) - 0)) (List.drop 0 a0)).length<=maxLen:=(by
   have:=((bO.take (k:=(toNat ((cond ((a0.length:Int)<4) (a0.length:Int) 4) - 0))) (bO.drop (k:=0) H0))).1
   simp only [maxLen] at *
   omega)
 refine ex_eq (out:=(fun b:List aq=>ret ((b.map aq.row):aD))) (oE (g:=fun (y1:aR)=>(Z227.md y1 a1 a2)) (z:=aR.zero) (t:=fun (s3:List aq)=>s3)) (dW (p:=Pt.p0 a1 a2 ((List.take (toNat ((cond ((a0.length:Int)<4) (a0.length:Int) 4) - 0)) (List.drop 0 a0)).map aR.row) ((List.take (toNat ((cond ((a0.length:Int)<4) (a0.length:Int) 4) - 0)) (List.drop 0 a0)).length:Int) 0 ([].map aq.row)) fz ?_)
 refine cq (pt:=fun (i1:Nat) (s3:List aq)=>Pt.p0 a1 a2 ((List.take (toNat ((cond ((a0.length:Int)<4) (a0.length:Int) 4) - 0)) (List.drop 0 a0)).map aR.row) ((List.take (toNat ((cond ((a0.length:Int)<4) (a0.length:Int) 4) - 0)) (List.drop 0 a0)).length:Int) (i1:Int) (s3.map aq.row)) (out:=(fun b:List aq=>ret ((b.map aq.row):aD))) (fun (i1:Nat) (s3:List aq)=>s3.length<=([]:List Int).length+1*i1) (fun J i1 s3 h2 hih2=>?_) (fun s3 hih2=>?_) (by simp)
 ·simp only [step,SS]
  have gr_:=hih2
  simp only [LN] at gr_
  have:=((bO.take (k:=(toNat ((cond ((a0.length:Int)<4) (a0.length:Int) 4) - 0))) (bO.drop (k:=0) H0))).1
  refine bq.yes (by apply decide_eq_true;omega) (bq.yes aK ?_)
  refine bq.yes (aP h2) (cr (Z227.aj ⟨(bO.getD (bO.take (k:=(toNat ((cond ((a0.length:Int)<4) (a0.length:Int) 4) - 0))) (bO.drop (k:=0) H0)) h2),H2⟩) ?_)
  refine bq.yes lm ?_
  refine bq.inl (by
    (simp;omega)) ?_
  rw [aJ h2 Bh2]
  exact fz
 ·simp only [step,SS]
  refine dH dn (⟨0,?_⟩)
  exact fz
def af:cC 98 aU:=L3 30 (fun _=>3) cG cX live step start mix aB bh (cJ Z227.af) Tryz.func98
def br (a0:List aR)(a1:Int)(a2:aC):md a0 a1 a2=Z104.md a0 a1 a2:=by
 rw [Z104.rm]
 unfold md
 simp only [Z227.br,Int.sub_zero,List.drop_zero]
 congr 1
 by_cases h:(a0.length:Int)<4
 ·rw [decide_eq_true h,aZ,List.take_of_length_le (by omega),List.take_of_length_le (by omega)]
 ·rw [decide_eq_false h];rfl
end Z228
namespace Z229
def F (x0:aD):aI:=(call (Z195.R x0) fun v1=>(cond (!v1) (ret (((⟨0,0,0,0,0,0,0,0,(⟨[],0⟩:cN),(⟨[],0⟩:cN),0,(⟨[],0⟩:cN),false⟩:dm),false):dm×Bool)) (call (Z196.R x0) fun v2=>(call (Z134.R v2) fun v3=>ret ((v3,true):dm×Bool)))))
def md (a0:List aa):aE×Bool:=(cond (!(Z195.md a0)) ((⟨0,0,0,0,0,0,0,0,(⟨[],0⟩:aO),(⟨[],0⟩:aO),0,(⟨[],0⟩:aO),false⟩:aE),false) ((Z196.md a0),true))
def gd (a0:List aa):Prop:=(bO (2^21) (fun y:aa=>aa.Sm (2^21) y) a0)
def R:=RR gd md
def aj {a0}(h:gd a0):R (a0.map aa.row)=some ((aE.r (md a0).1),(md a0).2):=cT h
def aU:=CN [pL 178] (.iL [(true,f175),(false,[fB])]) RT.dec R
def bh (a0)(hg:gd a0):F (a0.map aa.row)=ret ((aE.r (md a0).1),(md a0).2):=by
 unfold gd at hg
 have H0:=hg
 unfold F md
 try simp only [SS]
 refine ct (Z195.aj H0) ?_
 refine bt (fun b:aE×Bool=>ret (((aE.r b.1),b.2):dm×Bool)) (fun c1=>?_) (fun c1=>?_)
 ·all_goals exact fz
 ·have dc1:=c1
  try simp only [DC] at dc1
  try have tc1:=Z195.tr (by simpa using c1)
  refine ct (Z196.aj ⟨H0,(by
    have:=(H0).1
    first | assumption | exact om)⟩) ?_
  try simp only [SS]
  refine ct (Z134.aj (Z196.iF (a0:=a0) ⟨H0,(by
    have:=(H0).1
    first | assumption | exact om)⟩)) ?_
  try simp only [SS]
  all_goals exact fz
def af:cC 156 aU:=W1 11 F mix aB bh (jS Z195.af Z196.af Z134.af) Tryz.func156
def br (a0:List aa):md a0=Z79.md a0:=by
 unfold md Z79.md
 first
 | (simp only [Z195.br];done)
 | (simp only [Z195.br];rfl)
 | rfl
end Z229
namespace Z230
def F (x0:dm)(x1:Int):aI:=(call (Z147.R (x1,x0.cL,x0.cF)) fun v1=>ret v1)
def md (a0:aE)(a1:Int):Bool:=((Z147.md a1 a0.cL a0.cF))
def gd (a0:aE)(a1:Int):Prop:=True
def R:=RR (p2 gd) (u2 md)
def aj {a0 a1}(h:gd a0 a1):R ((aE.r a0),a1)=some (md a0 a1):=cB h
def aU:=CN [.agg gB,pI] oB RT.dec R
def bh (a0)(a1)(hg:gd a0 a1):F (aE.r a0) a1=ret (md a0 a1):=ct (Z147.aj trivial) fz
def af:cC 157 aU:=W2 11 F mix aB bh (cJ Z147.af) Tryz.func157
def br (a0:aE)(a1:Int):md a0 a1=Z111.md a0 a1:=by
 unfold md Z111.md
 simp only [Z147.br]
end Z230
namespace Z231
inductive Pt where
 | p0 (a b c:Int) (d:aD)
def cG:Pt->List V
 | .p0 a b c d=>[.int .i64 a,.int .i64 b,.int .i64 c,.sl none 3 d]
def step (J:Pt->aI):Pt->aI
 | .p0 a b c d=>(cond (c>1) (cond ((oo .i64 b 1)>=c) (J (.p0 a (i64.wrap (Int.tdiv b 2)) (i64.wrap (Int.tdiv (i64.wrap (c+1)) 2)) d)) (cond ((d.length:Int)==0) (ret ((0,false):Int×Bool)) (cond ((Int.tmod b 2)==0) (cg ((0:Int)<(d.length:Int)) (call (Z208.R (a,(jG d 0))) fun v1=>(cg ((1:Int)<=(d.length:Int)) (cg ((d.length:Int)<=(d.length:Int)) (J (.p0 v1 (i64.wrap (Int.tdiv b 2)) (i64.wrap (Int.tdiv (i64.wrap (c+1)) 2)) (List.take (toNat ((d.length:Int) - 1)) (List.drop 1 d)))))))) (cg ((0:Int)<(d.length:Int)) (call (Z208.R ((jG d 0),a)) fun v2=>(cg ((1:Int)<=(d.length:Int)) (cg ((d.length:Int)<=(d.length:Int)) (J (.p0 v2 (i64.wrap (Int.tdiv b 2)) (i64.wrap (Int.tdiv (i64.wrap (c+1)) 2)) (List.take (toNat ((d.length:Int) - 1)) (List.drop 1 d))))))))))) (cond ((d.length:Int)>0) (ret ((0,false):Int×Bool)) (ret ((a,true):Int×Bool))))
def start (J:Pt->aI)(x0 x1 x2:Int)(x3:aD):aI:=(cond (x2<1) (ret ((0,false):Int×Bool)) (cond (x2>12) (ret ((0,false):Int×Bool)) (call (Z147.R (x1,0,(i64.wrap (x2 - 1)))) fun v1=>(cond (!v1) (ret ((0,false):Int×Bool)) (J (.p0 x0 x1 x2 x3))))))
def live:Nat->Live:=fL [(3,gA [0,1,2,3])]
def md (a0 a1 a2:Int)(a3:List Int):Int×Bool:=Z112.md a0 a1 a2 a3
def gd (a0 a1 a2:Int)(a3:List Int):Prop:=bO (2^38) (fun y:Int=>True) a3
def R:=RR (p4 gd) (u4 md)
def aj {a0 a1 a2 a3}(h:gd a0 a1 a2 a3):R (a0,a1,a2,(a3.map bk))=some ((md a0 a1 a2 a3).1,(md a0 a1 a2 a3).2):=wg h
def aU:=CN [pI,pI,pI,pL 3] (.iL [(false,[fI]),(false,[fB])]) RT.dec R
def bh (a0)(a1)(a2)(a3)(hg:gd a0 a1 a2 a3):∃n,start (iter step n) a0 a1 a2 (a3.map bk)=ret ((md a0 a1 a2 a3).1,(md a0 a1 a2 a3).2):=by
 have tm:∀b:Int,0<=b->b<=11->Int.tmod b 2=b % 2:=fun b h1 h2=>Int.tmod_eq_emod_of_nonneg h1
 have td:∀b:Int,0<=b->b<=13->i64.wrap (Int.tdiv b 2)=b / 2:=fun b h1 h2=>by
  rw [Int.tdiv_eq_ediv_of_nonneg h1,Go.IntWalk.i64_in _ (by omega)]
 have t1:∀b:Int,0<=b->b<=13->i64.wrap (b+1)=b+1:=fun b h1 h2=>Go.IntWalk.i64_in _ (by omega)
 have xr:∀b:Int,0<=b->b<=11->oo .i64 b 1=if b % 2=0 then b+1 else b - 1:=by
  intro b h1 h2
  have :b=0∨b=1∨b=2∨b=3∨b=4∨b=5∨b=6∨b=7∨b=8∨b=9∨b=10∨b=11:=by omega
  rcases this with h | h | h | h | h | h | h | h | h | h | h | h<;>subst h<;>decide
 have key:∀(k:Nat) (leaf i n:Int) (p:List Int),p.length<=2^38->0<=i->i<n->n<=12->n<=2^k->∃m,iter step m (Pt.p0 leaf i n (p.map bk))=ret ((Z112.tf (k+1) leaf i n p).1,(Z112.tf (k+1) leaf i n p).2):=by
  have fin:∀(leaf:Int) (p:List Int) (J:Pt->aI),step J (Pt.p0 leaf 0 1 (p.map bk))=ret ((if p.isEmpty then (leaf,true) else (0,false)).1,(if p.isEmpty then (leaf,true) else (0,false)).2):=by
   intro leaf p J
   simp only [step,List.length_map]
   refine cY (by decide) ?_
   cases p with
   | nil=>rfl
   | cons x xs=>exact ak (decide_eq_true (by simp only [List.length_cons];omega)) rfl
  intro k
  induction k with
  | zero=>
   intro leaf i n p hp h1 h2 h3 h4
   have hn:n=1:=by omega
   subst hn
   have hi:i=0:=by omega
   subst hi
   exact ⟨1,(fin leaf p _).trans rfl⟩
  | succ k ih=>
   intro leaf i n p hp h1 h2 h3 h4
   unfold Z112.tf
   by_cases hn:n>1
   ·have e1:=tm i h1 (by omega)
    have e2:=td i h1 (by omega)
    have e3:=t1 n (by omega) (by omega)
    have e4:=td (n+1) (by omega) (by omega)
    have e6:=xr i h1 (by omega)
    rw [if_pos hn]
    by_cases hc:i % 2=1∨i+1<n
    ·have hx:decide (oo .i64 i 1>=n)=false:=by
      rw [e6]
      split
      ·exact decide_eq_false (by omega)
      ·exact decide_eq_false (by omega)
     rw [if_pos hc]
     cases p with
     | nil=>
      refine ⟨1,?_⟩
      show step (iter step 0) (Pt.p0 _ _ _ _)=_
      simp only [step,hx]
      exact ak (decide_eq_true (by omega)) (cY rfl (ak rfl rfl))
     | cons x xs=>
      simp only [List.length_cons] at hp
      obtain ⟨m,hm⟩:=ih (if i % 2=1 then Z88.md x leaf else Z88.md leaf x) (i / 2) ((n+1) / 2) xs (by omega) (by omega) (by omega) (by omega) (by omega)
      refine ⟨m+1,?_⟩
      show step (iter step m) (Pt.p0 _ _ _ _)=_
      have ht:List.take (toNat ((xs.length:Int)+1 - 1)) (List.drop 1 ((x::xs).map bk))=xs.map bk:=by
       simp only [List.map_cons,List.drop_succ_cons,List.drop_zero]
       exact List.take_of_length_le (by simp)
      have hl:(((x::xs).map bk).length:Int)=(xs.length:Int)+1:=by simp
      simp only [step,hx,e1,e2,e3,e4,ht,hl]
      refine ak (decide_eq_true (by omega)) (cY rfl (cY (beq_eq_false_iff_ne.2 (by omega)) ?_))
      have hat:jG ((x::xs).map bk) 0=x:=rfl
      rw [hat]
      by_cases hp:i % 2=1
      ·rw [if_pos hp] at hm
       rw [hp]
       refine cY rfl (ak (decide_eq_true (by omega)) (aX _ (by have:=Z208.aj (a0:=x) (a1:=leaf) trivial;rw [Z208.br] at this;exact this) (ak (decide_eq_true (by omega)) (ak (decide_eq_true (by omega)) ?_))))
       rw [if_pos rfl]
       exact hm
      ·rw [if_neg hp] at hm
       have h0:i % 2=0:=by omega
       rw [h0]
       refine ak rfl (ak (decide_eq_true (by omega)) (aX _ (by have:=Z208.aj (a0:=leaf) (a1:=x) trivial;rw [Z208.br] at this;exact this) (ak (decide_eq_true (by omega)) (ak (decide_eq_true (by omega)) ?_))))
       rw [if_neg (by omega)]
       exact hm
    ·have hx:decide (oo .i64 i 1>=n)=true:=by
      rw [e6,if_pos (by omega)]
      exact decide_eq_true (by omega)
     rw [if_neg hc]
     obtain ⟨m,hm⟩:=ih leaf (i / 2) ((n+1) / 2) p hp (by omega) (by omega) (by omega) (by omega)
     refine ⟨m+1,?_⟩
     show step (iter step m) (Pt.p0 _ _ _ _)=_
     simp only [step,hx,e2,e3,e4]
     exact ak (decide_eq_true (by omega)) (ak rfl hm)
   ·have hn1:n=1:=by omega
    subst hn1
    have hi:i=0:=by omega
    subst hi
    refine ⟨1,(fin leaf p _).trans ?_⟩
    rw [if_neg (show ¬(1:Int)>1 by omega)]
 unfold start md Z112.md
 obtain ⟨H3,_⟩:=hg
 by_cases c1:a2<1
 ·refine ⟨0,ak (decide_eq_true c1) ?_⟩
  rw [show Z49.md a2 1 12=false from by simp [Z49.md];omega];rfl
 refine dH (decide_eq_false c1) ?_
 by_cases c2:a2>12
 ·refine ⟨0,ak (decide_eq_true c2) ?_⟩
  rw [show Z49.md a2 1 12=false from by simp [Z49.md];omega];rfl
 refine dH (decide_eq_false c2) ?_
 rw [show Z49.md a2 1 12=true from by simp [Z49.md];omega]
 simp only [Bool.not_true,bg]
 refine fC _ (by have:=Z147.aj (a0:=a1) (a1:=0) (a2:=i64.wrap (a2 - 1)) trivial;rw [Z147.br] at this;exact this) ?_
 cases hd:Z49.md a1 0 (i64.wrap (a2 - 1))
 ·exact ⟨0,rfl⟩
 rw [Go.IntWalk.i64_in _ (by omega)] at hd
 have i2:0<=a1/\a1<=a2 - 1:=by simpa [Z49.md] using hd
 exact key 4 a0 a1 a2 a3 H3 (by omega) (by omega) (by omega) (by omega)
def af:cC 266 aU:=L4 56 (fun _=>3) cG (fun _=>[]) live step start mix aB bh (eM Z147.af Z208.af) Tryz.func266
def br (a0 a1 a2:Int)(a3:List Int):md a0 a1 a2 a3=Z112.md a0 a1 a2 a3:=by
 unfold md Z112.md
 simp only [Z147.br,Z208.br]
end Z231
namespace Z232
def F (x0 x1:Int)(x2:bH)(x3:cS):aI:=(call (Z205.R x2) fun v1=>(call (Z231.R (v1,x3.eE,x1,x3.bz)) fun v2=>(cond v2.2 (call (Z197.R x2) fun v3=>(cond v3 (call (Z211.R (x1,v2.1)) fun v4=>ret ((v4==x0))) (ret false))) (ret false))))
def md (a0 a1:Int)(a2:ah)(a3:aH):Bool:=(cond ((Z231.md (Z205.md a2) a3.eE a1 a3.bz).2) (cond (Z197.md a2) (((Z211.md a1 ((Z231.md (Z205.md a2) a3.eE a1 a3.bz).1))==a0)) false) false)
def gd (a0 a1:Int)(a2:ah)(a3:aH):Prop:=(ah.Sm (2^21) a2)/\(aH.Sm (2^21) a3)
def R:=RR (p4 gd) (u4 md)
def aj {a0 a1 a2 a3}(h:gd a0 a1 a2 a3):R (a0,a1,(ah.r a2),(aH.r a3))=some (md a0 a1 a2 a3):=wg h
def aU:=CN [pI,pI,.agg sX,.agg oT] oB RT.dec R
def bh (a0)(a1)(a2)(a3)(hg:gd a0 a1 a2 a3):F a0 a1 (ah.r a2) (aH.r a3)=ret (md a0 a1 a2 a3):=by
 obtain ⟨H2,H3⟩:=hg
 refine ct (Z205.aj H2) (ct (Z231.aj (H3.mono (by decide) (fun x hx=>trivial))) ?_)
 refine bs (fun c1=>?_) (fun _=>rfl)
 refine ct (Z197.aj H2) (bs (fun c2=>?_) (fun _=>rfl))
 exact ct (Z211.aj trivial) fz
def af:cC 205 aU:=W4 34 F mix aB bh (kP Z205.af Z231.af Z197.af Z211.af) Tryz.func205
def br (a0 a1:Int)(a2:ah)(a3:aH):md a0 a1 a2 a3=Z113.md a0 a1 a2 a3:=by
 unfold md Z113.md
 simp only [Z231.br,Z205.br,Z197.br,Z211.br]
 cases Z80.md a2<;>cases (Z112.md (Z86.md a2) a3.eE a1 a3.bz).2<;>rfl
end Z232
namespace Z233
inductive Pt where
 | p0 (a b:aD) (c d:Int)
def cG:Pt->List V
 | .p0 a b c d=>[.sl none 9 a,.sl none 9 b,.int .i64 c,.int .i64 d]
def step (J:Pt->aI):Pt->aI
 | .p0 a b c d=>(cond (d<c) (m2 d (a.length:Int) (m2 d (b.length:Int) (cond (!((qA a (toNat d))==(qA b (toNat d)))) bT (J (.p0 a b c (i64.wrap (d+1))))))) gf)
def start (J:Pt->aI)(x0 x1:aD):aI:=(cond ((x0.length:Int) != (x1.length:Int)) bT (J (.p0 x0 x1 (x0.length:Int) 0)))
def live:Nat->Live:=fL [(4,gA [0,1,12,13])]
def md (a0 a1:List aC):Bool:=(bif ((a0.length:Int) != (a1.length:Int)) then (false:Bool) else (eL (S:=Unit) (β:=Bool) (fun (i2:Nat) (s4:Unit)=>(cond (!((a0.getD i2 ⟨#[]⟩)==(a1.getD i2 ⟨#[]⟩))) (.inr (false:Bool)) (.inl ()))) (fun (s4:Unit)=>(true:Bool)) a0.length 0 ()))
def gd (a0 a1:List aC):Prop:=(bO (2^21) (fun y:aC=>y.size<=(2^21)) a0)/\(bO (2^21) (fun y:aC=>y.size<=(2^21)) a1)
def R:=RR (p2 gd) (u2 md)
def aj {a0 a1}(h:gd a0 a1):R ((a0.map cK),(a1.map cK))=some (md a0 a1):=cB h
def aU:=CN [pL 9,pL 9] oB RT.dec R
def bh (a0)(a1)(hg:gd a0 a1):∃n,start (iter step n) (a0.map cK) (a1.map cK)=ret (md a0 a1):=by
 obtain ⟨H0,H1⟩:=hg
 unfold start md
 try simp only [SS]
 refine iy ret (fun _=>⟨0,rfl⟩) (fun c1=>?_)
 have dc1:=c1
 try simp only [DC] at dc1
 have Bh3:a0.length<=maxLen:=(by
   have:=(H0).1
   try simp only [maxLen] at *
   omega)
 refine dW (p:=Pt.p0 (a0.map cK) (a1.map cK) (a0.length:Int) 0) fz ?_
 refine cq (pt:=fun (i2:Nat) (s4:Unit)=>Pt.p0 (a0.map cK) (a1.map cK) (a0.length:Int) (i2:Int)) (s:=(():Unit)) (out:=ret) (fun _ _=>True) (fun J i2 s4 h3 hih3=>?_) (fun s4 hih3=>?_) trivial
 ·simp only [step,SS]
  have bb_:=Bh3
  simp only [maxLen] at bb_
  have:=(H0).1
  refine bq.yes (by apply decide_eq_true;omega) ?_
  refine bq.yes aK ?_
  refine bq.yes (aP h3) ?_
  refine bq.yes aK ?_
  refine bq.yes (have:=(H1).1;dt) ?_
  refine bq.bif (fun _=>bq.inr rfl) (fun c5=>?_)
  refine bq.inl trivial ?_
  rw [aJ h3 Bh3]
  all_goals exact fz
 ·simp only [step,SS]
  have:=(H0).1
  refine dH (by apply decide_eq_false;omega) ?_
  refine ⟨0,?_⟩
  all_goals exact fz
def af:cC 319 aU:=L2 26 (fun _=>4) cG (fun _=>[]) live step start mix aB bh .nil Tryz.func319
def md_eq (a0 a1:List aC):md a0 a1=eD a0 a1:=by
 unfold md
 refine kX (⟨#[]⟩) (fun i s h h2=>?_) (fun s=>rfl)
 simp only [bne,fV,bool_beq,fD]
 cases eD _ _<;>rfl
end Z233
namespace Z234
def F (x0 x1:bH):aI:=(cond (x0.aV==x1.aV) (cond (x0.bI==x1.bI) (cond (x0.bX==x1.bX) (call (Z233.R (x0.bz,x1.bz)) fun v1=>ret v1) (ret false)) (ret false)) (ret false))
def md (a0 a1:ah):Bool:=(cond (a0.aV==a1.aV) (cond (a0.bI==a1.bI) (cond (a0.bX==a1.bX) ((Z233.md a0.bz a1.bz)) false) false) false)
def gd (a0 a1:ah):Prop:=(ah.Sm (2^21) a0)/\(ah.Sm (2^21) a1)
def R:=RR (p2 gd) (u2 md)
def aj {a0 a1}(h:gd a0 a1):R ((ah.r a0),(ah.r a1))=some (md a0 a1):=cB h
def aU:=CN [.agg sX,.agg sX] oB RT.dec R
def bh (a0)(a1)(hg:gd a0 a1):F (ah.r a0) (ah.r a1)=ret (md a0 a1):=by
 obtain ⟨H0,H1⟩:=hg
 refine bs (fun c1=>?_) (fun _=>rfl)
 refine bs (fun c2=>?_) (fun _=>rfl)
 refine bs (fun c3=>?_) (fun _=>rfl)
 exact ct (Z233.aj ⟨H0.2,H1.2⟩) fz
def af:cC 270 aU:=W2 31 F mix aB bh (cJ Z233.af) Tryz.func270
def md_eq (a0 a1:ah):md a0 a1=eD a0 a1:=by
 unfold md
 cases a0;cases a1
 rw [Bool.eq_iff_iff]
 simp [dz,fD,ah.mk.injEq,Z233.md_eq]
end Z234
namespace Z235
def F (x0 x1:cS):aI:=(cond (x0.eE==x1.eE) (call (Z187.R (x0.bz,x1.bz)) fun v1=>ret v1) (ret false))
def md (a0 a1:aH):Bool:=(cond (a0.eE==a1.eE) ((Z187.md a0.bz a1.bz)) false)
def gd (a0 a1:aH):Prop:=(aH.Sm (2^21) a0)/\(aH.Sm (2^21) a1)
def R:=RR (p2 gd) (u2 md)
def aj {a0 a1}(h:gd a0 a1):R ((aH.r a0),(aH.r a1))=some (md a0 a1):=cB h
def aU:=CN [.agg oT,.agg oT] oB RT.dec R
def bh (a0)(a1)(hg:gd a0 a1):F (aH.r a0) (aH.r a1)=ret (md a0 a1):=by
 obtain ⟨H0,H1⟩:=hg
 refine bs (fun c1=>?_) (fun _=>rfl)
 exact ct (Z187.aj ⟨(H0.mono (by decide) (fun x hx=>trivial)),(H1.mono (by decide) (fun x hx=>trivial))⟩) fz
def af:cC 271 aU:=W2 17 F mix aB bh (cJ Z187.af) Tryz.func271
def md_eq (a0 a1:aH):md a0 a1=eD a0 a1:=by
 unfold md
 cases a0;cases a1
 rw [Bool.eq_iff_iff]
 simp [dz,fD,aH.mk.injEq,Z187.md_eq]
end Z235
namespace Z236
def F (x0 x1:eN):aI:=(cond (x0.eE==x1.eE) (call (Z234.R (x0.aM,x1.aM)) fun v1=>(cond v1 (call (Z234.R (x0.bU,x1.bU)) fun v2=>(cond v2 (call (Z235.R (x0.dI,x1.dI)) fun v3=>(cond v3 (call (Z235.R (x0.cz,x1.cz)) fun v4=>ret v4) (ret false))) (ret false))) (ret false))) (ret false))
def md (a0 a1:bK):Bool:=(cond (a0.eE==a1.eE) (cond (Z234.md a0.aM a1.aM) (cond (Z234.md a0.bU a1.bU) (cond (Z235.md a0.dI a1.dI) ((Z235.md a0.cz a1.cz)) false) false) false) false)
def gd (a0 a1:bK):Prop:=(bK.Sm (2^21) a0)/\(bK.Sm (2^21) a1)
def R:=RR (p2 gd) (u2 md)
def aj {a0 a1}(h:gd a0 a1):R ((bK.r a0),(bK.r a1))=some (md a0 a1):=cB h
def aU:=CN [.agg rP,.agg rP] oB RT.dec R
def bh (a0)(a1)(hg:gd a0 a1):F (bK.r a0) (bK.r a1)=ret (md a0 a1):=by
 obtain ⟨H0,H1⟩:=hg
 refine bs (fun c1=>?_) (fun _=>rfl)
 refine ct (Z234.aj ⟨H0.1,H1.1⟩) (bs (fun c2=>?_) (fun _=>rfl))
 refine ct (Z234.aj ⟨H0.2.1,H1.2.1⟩) (bs (fun c3=>?_) (fun _=>rfl))
 refine ct (Z235.aj ⟨H0.2.2.1,H1.2.2.1⟩) (bs (fun c4=>?_) (fun _=>rfl))
 exact ct (Z235.aj ⟨H0.2.2.2,H1.2.2.2⟩) fz
def af:cC 206 aU:=W2 38 F mix aB bh (eM Z234.af Z235.af) Tryz.func206
def md_eq (a0 a1:bK):md a0 a1=eD a0 a1:=by
 unfold md
 cases a0;cases a1
 rw [Bool.eq_iff_iff]
 simp [dz,fD,bK.mk.injEq,Z234.md_eq,Z235.md_eq]
end Z236
namespace Z237
def F (x0:bH):aI:=(call (Z234.R (x0,(⟨(⟨#[]⟩:aC),0,0,[]⟩))) fun v1=>ret v1)
def md (a0:ah):Bool:=((Z234.md a0 (⟨((⟨#[]⟩:aC)),0,0,[]⟩)))
def gd (a0:ah):Prop:=(ah.Sm (2^21) a0)
def R:=RR gd md
def aj {a0}(h:gd a0):R (ah.r a0)=some (md a0):=cT h
def aU:=CN [.agg sX] oB RT.dec R
def bh (a0)(H0:gd a0):F (ah.r a0)=ret (md a0):=ct (Z234.aj (a1:=(⟨((⟨#[]⟩:aC):aC),0,0,[]⟩:ah)) ⟨H0,⟨(by decide),bO.nil⟩⟩) fz
def af:cC 208 aU:=W1 6 F mix aB bh (cJ Z234.af) Tryz.func208
end Z237
namespace Z238
def F (x0:cS):aI:=(call (Z235.R (x0,(⟨0,[]⟩))) fun v1=>ret v1)
def md (a0:aH):Bool:=((Z235.md a0 (⟨0,[]⟩)))
def gd (a0:aH):Prop:=(aH.Sm (2^21) a0)
def R:=RR gd md
def aj {a0}(h:gd a0):R (aH.r a0)=some (md a0):=cT h
def aU:=CN [.agg oT] oB RT.dec R
def bh (a0)(H0:gd a0):F (aH.r a0)=ret (md a0):=ct (Z235.aj (a1:=(⟨0,[]⟩:aH)) ⟨H0,bO.nil⟩) fz
def af:cC 209 aU:=W1 6 F mix aB bh (cJ Z235.af) Tryz.func209
end Z238
namespace Z239
def F (x0 x1:Int)(x2:bH)(x3:cS)(x4:Int):aI:=(call (Z147.R (x4,0,(i64.wrap (x1 - 1)))) fun v1=>(cond (!v1) (call (Z237.R x2) fun v2=>(cond v2 (call (Z238.R x3) fun v3=>ret v3) (ret false))) (call (Z232.R (x0,x1,x2,x3)) fun v4=>(cond v4 (ret ((x3.eE==x4))) (ret false)))))
def md (a0 a1:Int)(a2:ah)(a3:aH)(a4:Int):Bool:=(cond (!(Z147.md a4 0 (i64.wrap (a1 - 1)))) (cond (Z237.md a2) ((Z238.md a3)) false) (cond (Z232.md a0 a1 a2 a3) ((a3.eE==a4)) false))
def gd (a0 a1:Int)(a2:ah)(a3:aH)(a4:Int):Prop:=(ah.Sm (2^21) a2)/\(aH.Sm (2^21) a3)
def R:=RR (p5 gd) (u5 md)
def aj {a0 a1 a2 a3 a4}(h:gd a0 a1 a2 a3 a4):R (a0,a1,(ah.r a2),(aH.r a3),a4)=some (md a0 a1 a2 a3 a4):=wz h
def aU:=CN [pI,pI,.agg sX,.agg oT,pI] oB RT.dec R
def bh (a0)(a1)(a2)(a3)(a4)(hg:gd a0 a1 a2 a3 a4):F a0 a1 (ah.r a2) (aH.r a3) a4=ret (md a0 a1 a2 a3 a4):=by
 obtain ⟨H2,H3⟩:=hg
 refine ct (Z147.aj trivial) (bs (fun c1=>?_) (fun c1=>?_))
 ·refine ct (Z237.aj H2) (bs (fun c2=>?_) (fun _=>rfl))
  exact ct (Z238.aj H3) fz
 ·refine ct (Z232.aj ⟨H2,H3⟩) (bs (fun c3=>?_) (fun _=>rfl))
  exact fz
def af:cC 273 aU:=W5 33 F mix aB bh (kP Z147.af Z237.af Z238.af Z232.af) Tryz.func273
end Z239
namespace Z240
def F (x0 x1:Int)(x2:aC)(x3:eN):aI:=(call (Z148.R x2) fun v1=>(cond (!v1) (ret false) (call (Z147.R (x3.eE,0,x1)) fun v2=>(cond (!v2) (ret false) (cond (x1==0) (call (Z212.R []) fun v3=>(cond (x0 != v3) (ret false) (call (Z239.R (x0,x1,x3.aM,x3.dI,(i64.wrap (x3.eE - 1)))) fun v4=>(cond (!v4) (ret false) (call (Z239.R (x0,x1,x3.bU,x3.cz,x3.eE)) fun v5=>(cond (!v5) (ret false) (cond (x3.eE==0) (cond (x3.eE==x1) (ret true) (call (Z200.R (x3.bU.aV,x2)) fun v6=>ret ((decide (v6>0))))) (call (Z200.R (x3.aM.aV,x2)) fun v7=>(cond (v7<0) (cond (x3.eE==x1) (ret true) (call (Z200.R (x3.bU.aV,x2)) fun v8=>ret ((decide (v8>0))))) (ret false)))))))))) (call (Z239.R (x0,x1,x3.aM,x3.dI,(i64.wrap (x3.eE - 1)))) fun v9=>(cond (!v9) (ret false) (call (Z239.R (x0,x1,x3.bU,x3.cz,x3.eE)) fun v10=>(cond (!v10) (ret false) (cond (x3.eE==0) (cond (x3.eE==x1) (ret true) (call (Z200.R (x3.bU.aV,x2)) fun v11=>ret ((decide (v11>0))))) (call (Z200.R (x3.aM.aV,x2)) fun v12=>(cond (v12<0) (cond (x3.eE==x1) (ret true) (call (Z200.R (x3.bU.aV,x2)) fun v13=>ret ((decide (v13>0))))) (ret false)))))))))))))
def md (a0 a1:Int)(a2:aC)(a3:bK):Bool:=(cond (!(Z148.md a2)) false (cond (!(Z147.md a3.eE 0 a1)) false (cond (a1==0) (cond (a0 != (Z212.md [])) false (cond (!(Z239.md a0 a1 a3.aM a3.dI (i64.wrap (a3.eE - 1)))) false (cond (!(Z239.md a0 a1 a3.bU a3.cz a3.eE)) false (cond (a3.eE==0) (cond (a3.eE==a1) true ((decide ((Z200.md a3.bU.aV a2)>0)))) (cond ((Z200.md a3.aM.aV a2)<0) (cond (a3.eE==a1) true ((decide ((Z200.md a3.bU.aV a2)>0)))) false))))) (cond (!(Z239.md a0 a1 a3.aM a3.dI (i64.wrap (a3.eE - 1)))) false (cond (!(Z239.md a0 a1 a3.bU a3.cz a3.eE)) false (cond (a3.eE==0) (cond (a3.eE==a1) true ((decide ((Z200.md a3.bU.aV a2)>0)))) (cond ((Z200.md a3.aM.aV a2)<0) (cond (a3.eE==a1) true ((decide ((Z200.md a3.bU.aV a2)>0)))) false)))))))
def gd (a0 a1:Int)(a2:aC)(a3:bK):Prop:=(a2.size<=(2^21))/\(bK.Sm (2^21) a3)
def R:=RR (p4 gd) (u4 md)
def aj {a0 a1 a2 a3}(h:gd a0 a1 a2 a3):R (a0,a1,a2,(bK.r a3))=some (md a0 a1 a2 a3):=wg h
def aU:=CN [pI,pI,pS,.agg rP] oB RT.dec R
def bh (a0)(a1)(a2)(a3)(hg:gd a0 a1 a2 a3):F a0 a1 a2 (bK.r a3)=ret (md a0 a1 a2 a3):=by
 obtain ⟨H2,H3⟩:=hg
 refine ct (Z148.aj (le_trans H2 (by decide))) (bs (fun _=>rfl) (fun c1=>?_))
 refine ct (Z147.aj trivial) (bs (fun _=>rfl) (fun c2=>?_))
 refine bs (fun c3=>?_) (fun c3=>?_)
 ·refine aX _ (rq (Z212.aj bO.nil)) (bs (fun _=>rfl) (fun c4=>?_))
  refine ct (Z239.aj ⟨H3.1,H3.2.2.1⟩) (bs (fun _=>rfl) (fun c5=>?_))
  refine ct (Z239.aj ⟨H3.2.1,H3.2.2.2⟩) (bs (fun _=>rfl) (fun c6=>?_))
  refine bs (fun c7=>?_) (fun c7=>?_)
  ·refine bs (fun _=>rfl) (fun c8=>?_)
   exact ct (Z200.aj trivial) fz
  ·refine ct (Z200.aj trivial) (bs (fun c9=>?_) (fun _=>rfl))
   refine bs (fun _=>rfl) (fun c10=>?_)
   exact ct (Z200.aj trivial) fz
 ·refine ct (Z239.aj ⟨H3.1,H3.2.2.1⟩) (bs (fun _=>rfl) (fun c11=>?_))
  refine ct (Z239.aj ⟨H3.2.1,H3.2.2.2⟩) (bs (fun _=>rfl) (fun c12=>?_))
  refine bs (fun c13=>?_) (fun c13=>?_)
  ·refine bs (fun _=>rfl) (fun c14=>?_)
   exact ct (Z200.aj trivial) fz
  ·refine ct (Z200.aj trivial) (bs (fun c15=>?_) (fun _=>rfl))
   refine bs (fun _=>rfl) (fun c16=>?_)
   exact ct (Z200.aj trivial) fz
def af:cC 207 aU:=W4 76 F mix aB bh (xF Z148.af Z147.af Z212.af Z239.af Z200.af) Tryz.func207
def Dq (a0 a1:Int)(a2:aC)(a3:bK)(hc:a1<=1000):md a0 a1 a2 a3=Z119.md a0 a1 a2 a3:=by
 unfold md Z119.md Z239.md Z118.md Z237.md Z238.md
 simp only [Z148.br,Z147.br,Z212.br,Z232.br,Z234.md_eq,Z115.md_eq,Z235.md_eq,Z116.md_eq,Z200.br,Z81.lt,Z81.gt]
 cases Z50.md a2
 ·rfl
 cases hr:Z49.md a3.eE 0 a1
 ·rfl
 have hi:0<=a3.eE/\a3.eE<=a1:=by simpa [Z49.md] using hr
 have w1:i64.wrap (a1 - 1)=a1 - 1:=Go.IntWalk.i64_in _ (by omega)
 have w2:i64.wrap (a3.eE - 1)=a3.eE - 1:=Go.IntWalk.i64_in _ (by omega)
 have e1:Z49.md (a3.eE - 1) 0 (a1 - 1)=!(a3.eE==0):=by
  rw [Bool.eq_iff_iff];simp [Z49.md];omega
 have e2:Z49.md a3.eE 0 (a1 - 1)=!(a3.eE==a1):=by
  rw [Bool.eq_iff_iff];simp [Z49.md];omega
 simp only [w1,w2,e1,e2,bne]
 generalize (a3.eE==0)=z
 generalize (a3.eE==a1)=e
 generalize (a1==0)=c0
 generalize (a0==Z92.md [])=rt
 generalize eD a3.aM _=x1
 generalize eD a3.dI _=x2
 generalize eD a3.bU _=x3
 generalize eD a3.cz _=x4
 generalize Z113.md a0 a1 a3.aM a3.dI=k1
 generalize Z113.md a0 a1 a3.bU a3.cz=k2
 generalize (a3.dI.eE==a3.eE - 1)=p1
 generalize (a3.cz.eE==a3.eE)=p2
 generalize (Z81.md a3.aM.aV a2 == -1)=m1
 generalize (Z81.md a3.bU.aV a2==1)=m2
 cases c0<;>cases rt<;>cases z<;>cases e<;>cases x1<;>cases x2<;>cases k1<;>cases p1<;>cases m1<;>first | rfl | (cases x3<;>cases x4<;>rfl) | (cases k2<;>cases p2<;>cases m2<;>rfl)
end Z240
namespace Z241
def F (x0:dm)(x1:aC)(x2:bf):aI:=(cond x2.bY (cond (x2.aQ.aV==x1) (call (Z232.R (x0.dy,x0.cA,x2.aQ,x2.cZ)) fun v1=>(cond v1 (call (Z236.R (x2.dS,(⟨0,(⟨(⟨#[]⟩:aC),0,0,[]⟩:bH),(⟨(⟨#[]⟩:aC),0,0,[]⟩:bH),(⟨0,[]⟩:cS),(⟨0,[]⟩:cS)⟩:eN))) fun v2=>ret (v2:Bool)) bT)) bT) (call (Z240.R (x0.dy,x0.cA,x1,x2.dS)) fun v3=>(cond v3 (call (Z237.R x2.aQ) fun v4=>(cond v4 (call (Z238.R x2.cZ) fun v5=>ret (v5:Bool)) bT)) bT)))
def md (a0:aE)(a1:aC)(a2:aq):Bool:=(cond a2.bY (cond (a2.aQ.aV==a1) (cond (Z232.md a0.dy a0.cA a2.aQ a2.cZ) ((Z236.md a2.dS (⟨0,(⟨((⟨#[]⟩:aC):aC),0,0,[]⟩:ah),(⟨((⟨#[]⟩:aC):aC),0,0,[]⟩:ah),(⟨0,[]⟩:aH),(⟨0,[]⟩:aH)⟩:bK)):Bool) (false:Bool)) (false:Bool)) (cond (Z240.md a0.dy a0.cA a1 a2.dS) (cond (Z237.md a2.aQ) ((Z238.md a2.cZ):Bool) (false:Bool)) (false:Bool)))
def gd (a0:aE)(a1:aC)(a2:aq):Prop:=(a1.size<=(2^21))/\(aq.Sm (2^21) a2)
def R:=RR (p3 gd) (u3 md)
def aj {a0 a1 a2}(h:gd a0 a1 a2):R ((aE.r a0),a1,(aq.r a2))=some (md a0 a1 a2):=kN h
def aU:=CN [.agg gB,pS,.agg sJ] oB RT.dec R
def bh (a0)(a1)(a2)(hg:gd a0 a1 a2):F (aE.r a0) a1 (aq.r a2)=ret (md a0 a1 a2):=by
 obtain ⟨H1,H2⟩:=hg
 unfold F md
 try simp only [SS]
 refine bt ret (fun c1=>?_) (fun c1=>?_)
 ·refine bt ret (fun c2=>?_) (fun _=>rfl)
  refine ct (Z232.aj ⟨H2.2.1,H2.2.2.1⟩) ?_
  refine bt ret (fun c3=>?_) (fun _=>rfl)
  refine ct (Z236.aj (a1:=(⟨0,(⟨((⟨#[]⟩:aC):aC),0,0,[]⟩:ah),(⟨((⟨#[]⟩:aC):aC),0,0,[]⟩:ah),(⟨0,[]⟩:aH),(⟨0,[]⟩:aH)⟩:bK)) ⟨H2.2.2.2,⟨⟨(by decide),bO.nil⟩,⟨(by decide),bO.nil⟩,bO.nil,bO.nil⟩⟩) ?_
  all_goals exact fz
 ·refine ct (Z240.aj ⟨H1,H2.2.2.2⟩) ?_
  refine bt ret (fun c4=>?_) (fun _=>rfl)
  refine ct (Z237.aj H2.2.1) ?_
  refine bt ret (fun c5=>?_) (fun _=>rfl)
  refine ct (Z238.aj H2.2.2.1) ?_
  all_goals exact fz
def af:cC 158 aU:=W3 49 F mix aB bh (xF Z232.af Z236.af Z240.af Z237.af Z238.af) Tryz.func158
def Dq (a0:aE)(a1:aC)(a2:aq)(hc:a0.cA<=1000):md a0 a1 a2=Z120.md a0 a1 a2:=by
 unfold md Z120.md Z118.md Z237.md Z238.md
 simp only [Z240.Dq _ _ _ _ hc,Z232.br,Z234.md_eq,Z115.md_eq,Z235.md_eq,Z116.md_eq,Z236.md_eq,Z117.md_eq]
end Z241
namespace Z242
def F (x0:Int)(x1:aC)(x2:bf)(x3:Int):aI:=(call (Z229.R x2.aT) fun v1=>(cond (!v1.2) (ret (3:Int)) (cond (v1.1.bw != x0) (ret (2:Int)) (call (Z230.R (v1.1,x3)) fun v2=>(cond (!v2) (ret (4:Int)) (cond v1.1.bC (ret (5:Int)) (call (Z241.R (v1.1,x1,x2)) fun v3=>(cond (!v3) (ret (6:Int)) (ret (1:Int))))))))))
def md (a0:Int)(a1:aC)(a2:aq)(a3:Int):Int:=(cond (!(Z229.md a2.aT).2) (3:Int) (cond ((Z229.md a2.aT).1.bw != a0) (2:Int) (cond (!(Z230.md ((Z229.md a2.aT).1) a3)) (4:Int) (cond ((Z229.md a2.aT).1.bC) (5:Int) (cond (!(Z241.md ((Z229.md a2.aT).1) a1 a2)) (6:Int) (1:Int))))))
def gd (a0:Int)(a1:aC)(a2:aq)(a3:Int):Prop:=(a1.size<=(2^21))/\(aq.Sm (2^21) a2)
def R:=RR (p4 gd) (u4 md)
def aj {a0 a1 a2 a3}(h:gd a0 a1 a2 a3):R (a0,a1,(aq.r a2),a3)=some (md a0 a1 a2 a3):=wg h
def aU:=CN [pI,pS,.agg sJ,pI] oI RT.dec R
def bh (a0)(a1)(a2)(a3)(hg:gd a0 a1 a2 a3):F a0 a1 (aq.r a2) a3=ret (md a0 a1 a2 a3):=by
 obtain ⟨H1,H2⟩:=hg
 unfold F md
 try simp only [SS]
 refine ct (Z229.aj H2.1) ?_
 try simp only [SS]
 refine bt ret (fun _=>rfl) (fun c1=>?_)
 refine bt ret (fun _=>rfl) (fun c2=>?_)
 refine ct (Z230.aj trivial) ?_
 refine bt ret (fun _=>rfl) (fun c3=>?_)
 refine bt ret (fun _=>rfl) (fun c4=>?_)
 refine ct (Z241.aj ⟨H1,H2⟩) ?_
 refine bt ret (fun _=>rfl) (fun _=>rfl)
def af:cC 106 aU:=W4 39 F mix aB bh (jS Z229.af Z230.af Z241.af) Tryz.func106
def br (a0:Int)(a1:aC)(a2:aq)(a3:Int):md a0 a1 a2 a3=Z121.md a0 a1 a2 a3:=by
 unfold md Z121.md
 simp only [Z229.br,Z230.br]
 cases hok:(Z79.md a2.aT).2
 ·rfl
 ·have:=Z56.tr (Z79.head hok).2.2
  rw [Z241.Dq _ _ _ (by omega)]
end Z242
namespace Z243
def F (x0:aD)(x1:List L):aI:=(cond ((x0.length:Int)>0) (cg ((0:Int)<(x0.length:Int)) (ret (((aY.at x0 0).an.bw==(fU x1)):Bool))) bT)
def pats:List gN:=[.rd (.sl 178),.ptr [au]]
def res:RP:=.one (.rd (.bool))
def md (a0:List aa)(a1:Int):Bool:=(cond ((a0.length:Int)>0) ((((a0.getD 0 aa.zero).an).bw==a1):Bool) (false:Bool))
def gd (a0:List aa)(a1:Int):Prop:=(bO (2^21) (fun y:aa=>aa.Sm (2^21) y) a0)
def acc (ls:List L):aD×Int:=((ls.headD .hole).aS,(fU (cE 1 (ay 1 ls))))
def R:(aD×Int)->Option Bool:=RR (p2 gd) (u2 md)
def aj {a0 a1}(h:gd a0 a1):R ((a0.map aa.row),a1)=some (md a0 a1):=cB h
def aU:fY:=CN pats res acc R
def bh (a0:List aa)(a1:Int)(p1:List L)(e1:a1=(fU p1))(hg:gd a0 a1):F (a0.map aa.row) p1=ret ((md a0 a1):Bool):=by
 unfold gd at hg
 have H0:=hg
 unfold F md
 try simp only [SS,<-e1]
 refine bt ret (fun c1=>?_) (fun _=>rfl)
 have dc1:=c1
 try simp only [DC] at dc1
 refine ak (have:=(H0).1;dt) ?_
 all_goals exact fz
def oF (ls:List L)(a:List aa×Int)(e:acc ls=Im.im a)(hg:(p2 gd) a):∃n:Nat,F ((ls.headD .hole).aS) (cE 1 (ay 1 ls))=ret (Im.im ((u2 md) a)):=by
 have e0:(a.1.map aa.row)=(ls.headD .hole).aS:=(congrArg (fun x=>x.1) e.symm)
 have hn:=bh a.1 a.2 (cE 1 (ay 1 ls)) (congrArg (fun x=>x.2) e.symm) hg
 refine ⟨0,?_⟩
 rw [<-e0]
 exact hn
def af:cC 306 aU:=VP (live:=fun _=>[]) (nt:=16) (accr:=fun ls=>((ls.headD .hole).aS,(cE 1 (ay 1 ls)))) (run:=fun _ x=>F x.1 x.2) mix aB .nil Tryz.func306 (by kernel_rfl) (fun _ _=>by kernel_rfl) (fun ls a _ e hg=>oF ls a e hg)
end Z243
namespace Z244
inductive Pt where
 | p0 (a:aD) (b:List L) (c d:Int)
def pid:Pt->Nat
 | .p0 ..=>2
def cG:Pt->List V
 | .p0 a b c d=>[.sl none 120 a,.fn 306 [.dL none [au] b 0],.int .i64 c,.int .i64 d]
def cX:Pt->List aW
 | .p0 a b c d=>[]
def step (J:Pt->aI):Pt->aI
 | .p0 a b c d=>(cond (d<c) (m2 d (a.length:Int) (call (Z243.R ((qd a (toNat d)),(fU b))) fun v1=>(cond v1 (ret (d:Int)) (J (.p0 a b c (i64.wrap (d+1))))))) (ret ((-1):Int)))
def start (J:Pt->aI)(x0:aD)(x1:List L):aI:=J (.p0 x0 x1 x0.length 0)
def live:Nat->Live:=fL [(2,gA [0,1,7,8])]
def pats:List gN:=[.rd (.sl 120),.fn 306 [[au]]]
def res:RP:=.one (.rd (.int .i64))
abbrev E:Env:={ T:=assoc mq,G:=dM [(306,Z243.aU)],nt:=19 }
def step_eq (I:cR)(p:Pt):dF E live I (pid p) (bP Tryz.f305) (gp (live (pid p)) (cG p) (cX p)) (cP E Tryz.f305 res)=step (fun q=>I (pid q) (cG q) (cX q)) p:=by
 cases p<;>kernel_rfl
def start_eq (I:cR)(ls:List L):fG E live I (bP Tryz.f305) (dJ pats ls) (cP E Tryz.f305 res)=start (fun q=>I (pid q) (cG q) (cX q)) (ls.headD .hole).aS (cE 1 (ay 1 ls)):=by kernel_rfl
def run_eq (n:Nat)(ls:List L):fc E live Tryz.f305 res n (dJ pats ls)=start (iter step n) (ls.headD .hole).aS (cE 1 (ay 1 ls)):=cO (id:=pid) (vs:=cG) (hs:=cX) (step:=step) (start:=fun J=>start J (ls.headD .hole).aS (cE 1 (ay 1 ls))) step_eq (fun I=>start_eq I ls) n
def md (a0:List (List aa))(a1:Int):Int:=(dV (S:=Unit) (β:=Int) (fun i1 (y1:List aa) s3=>(cond (Z243.md y1 a1) (.inr (i1)) (.inl ()))) (fun s3=>((-1):Int)) 0 a0 ())
def gd (a0:List (List aa))(a1:Int):Prop:=(bO (2^21) (fun y:List aa=>bO (2^21) (fun y:aa=>aa.Sm (2^21) y) y) a0)
def acc (ls:List L):aD×Int:=((ls.headD .hole).aS,(fU (cE 1 (ay 1 ls))))
def R:(aD×Int)->Option Int:=RR (p2 gd) (u2 md)
def aj {a0 a1}(h:gd a0 a1):R ((a0.map (eg aa.row)),a1)=some (md a0 a1):=cB h
def aU:fY:=CN pats res acc R
def bh (a0:List (List aa))(a1:Int)(p1:List L)(e1:a1=(fU p1))(H0:gd a0 a1):∃n,start (iter step n) (a0.map (eg aa.row)) p1=ret ((md a0 a1):Int):=by
 have Bh2:=bl H0
 refine ex_eq (cW (z:=[])) (dW (p:=Pt.p0 (a0.map (eg aa.row)) p1 (a0.length:Int) 0) fz ?_)
 refine cq (pt:=fun (i1:Nat) (s3:Unit)=>Pt.p0 (a0.map (eg aa.row)) p1 (a0.length:Int) (i1:Int)) (fun _ _=>True) (fun J i1 s3 h2 hih2=>?_) (fun s3 hih2=>?_) trivial
 ·simp only [step,SS,<-e1]
  refine bq.yes dt (bq.yes aK ?_)
  refine bq.yes (aP h2) (cr (Z243.aj (bO.getD H0 h2)) ?_)
  refine bq.bif (fun c4=>bq.inr fz) (fun c4=>?_)
  refine bq.inl trivial ?_
  rw [aJ h2 Bh2]
 ·simp only [step,SS,<-e1]
  refine dH dn (⟨0,?_⟩)
  exact fz
def oF (ls:List L)(a:List (List aa)×Int)(e:acc ls=Im.im a)(hg:(p2 gd) a):∃n:Nat,start (iter step n) ((ls.headD .hole).aS) (cE 1 (ay 1 ls))=ret (Im.im ((u2 md) a)):=by
 have e0:(a.1.map (eg aa.row))=(ls.headD .hole).aS:=(congrArg (fun x=>x.1) e.symm)
 obtain ⟨n,hn⟩:=bh a.1 a.2 (cE 1 (ay 1 ls)) (congrArg (fun x=>x.2) e.symm) hg
 refine ⟨n,?_⟩
 rw [<-e0]
 exact hn
def af:cC 305 aU:=VP (accr:=fun ls=>((ls.headD .hole).aS,(cE 1 (ay 1 ls)))) (run:=fun n x=>start (iter step n) x.1 x.2) mix aB (cJ Z243.af) Tryz.func305 (by kernel_rfl) run_eq (fun ls a _ e hg=>oF ls a e hg)
def fa (a0:List (List aa))(a1:Int):-1<=md a0 a1/\md a0 a1<(a0.length:Int):=by
 refine gG ?_ _ _
 all_goals
  intro i x s b h
  revert h
  simp only [Bool.cond_eq_ite]
  repeat' split
  all_goals (intro h;first | (cases h;rfl) | cases h)
def idx_eq (a0:List (List aa))(a1:Int):md a0 a1=jl (fun y=>Z243.md y a1) 0 a0:=iB
end Z244
namespace Z245
def F (x0:bu)(x1:Int):aI:=(call (Z244.R (x0.aL,x1)) fun v1=>ret v1)
def md (a0:av)(a1:Int):Int:=((Z244.md a0.aL a1))
def gd (a0:av)(a1:Int):Prop:=(av.Sm (2^21) a0)
def R:=RR (p2 gd) (u2 md)
def aj {a0 a1}(h:gd a0 a1):R ((av.r a0),a1)=some (md a0 a1):=cB h
def aU:=CN [.agg uY,pI] oI RT.dec R
def bh (a0)(a1)(H0:gd a0 a1):F (av.r a0) a1=ret (md a0 a1):=ct (Z244.aj H0.1) fz
def af:cC 252 aU:=W2 9 F mix aB bh (cJ Z244.af) Tryz.func252
def fa (a0:av)(a1:Int):-1<=md a0 a1/\md a0 a1<(a0.aL.length:Int):=by unfold md;exact Z244.fa _ _
def br (a0:av)(a1:Int):md a0 a1=Z105.md a0 a1:=by
 unfold md Z105.md
 rw [Z244.idx_eq]
 symm
 refine kB (fun i x s=>?_) _ _ _
 unfold Z243.md
 cases decide ((x.length:Int)>0)<;>first | rfl | (cases ((x.getD 0 aa.zero).an).bw==a1<;>rfl)
end Z245
namespace Z246
def F (x0 x1:dm):aI:=(call (Z188.R (x0.bR,x1.bR)) fun v1=>(cond v1 (call (Z188.R (x0.bE,x1.bE)) fun v2=>(cond v2 (call (Z188.R (x0.bB,x1.bB)) fun v3=>(cond v3 (call (Z173.R x0) fun v4=>(call (Z173.R x1) fun v5=>(call (Z187.R (v4,v5)) fun v6=>ret (v6:Bool)))) bT)) bT)) bT))
def md (a0 a1:aE):Bool:=(cond (Z188.md a0.bR a1.bR) (cond (Z188.md a0.bE a1.bE) (cond (Z188.md a0.bB a1.bB) ((Z187.md (Z173.md a0) (Z173.md a1)):Bool) (false:Bool)) (false:Bool)) (false:Bool))
def gd (a0 a1:aE):Prop:=(aE.Sm (2^21) a0)/\(aE.Sm (2^21) a1)
def R:=RR (p2 gd) (u2 md)
def aj {a0 a1}(h:gd a0 a1):R ((aE.r a0),(aE.r a1))=some (md a0 a1):=cB h
def aU:=CN [.agg gB,.agg gB] oB RT.dec R
def bh (a0)(a1)(hg:gd a0 a1):F (aE.r a0) (aE.r a1)=ret (md a0 a1):=by
 obtain ⟨H0,H1⟩:=hg
 unfold F md
 try simp only [SS]
 refine ct (Z188.aj ⟨H0.1,H1.1⟩) ?_
 refine bt ret (fun c1=>?_) (fun _=>rfl)
 refine ct (Z188.aj ⟨H0.2.1,H1.2.1⟩) ?_
 refine bt ret (fun c2=>?_) (fun _=>rfl)
 refine ct (Z188.aj ⟨H0.2.2,H1.2.2⟩) ?_
 refine bt ret (fun c3=>?_) (fun _=>rfl)
 refine ct (Z173.aj H0) ?_
 try simp only [SS]
 refine ct (Z173.aj H1) ?_
 try simp only [SS]
 refine ct (Z187.aj ⟨⟨(have:=Z173.len a0;have:=(H0.1).1;have:=(H0.2.1).1;have:=(H0.2.2).1;om),fun _ _=>trivial⟩,⟨(have:=Z173.len a1;have:=(H1.1).1;have:=(H1.2.1).1;have:=(H1.2.2).1;om),fun _ _=>trivial⟩⟩) ?_
 all_goals exact fz
def af:cC 307 aU:=W2 31 F mix aB bh (jS Z188.af Z173.af Z187.af) Tryz.func307
def md_eq (a0 a1:aE):md a0 a1=eD a0 a1:=by
 unfold md
 simp only [Z187.md_eq,Z188.md_eq,Z173.br]
 rw [Bool.eq_iff_iff]
 constructor
 ·intro h
  simp only [Bm,Bool.and_eq_true] at h
  exact dz.2 (Z61.inj (dz.1 h.2.2.2))
 ·intro h
  rw [dz] at h
  rw [h]
  simp only [gv];rfl
end Z246
namespace Z247
inductive Pt where
 | p0 (a b:aD) (c d:Int)
def cG:Pt->List V
 | .p0 a b c d=>[.sl none 178 a,.sl none 178 b,.int .i64 c,.int .i64 d]
def step (J:Pt->aI):Pt->aI
 | .p0 a b c d=>(cond (d<c) (m2 d (b.length:Int) (m2 d (a.length:Int) (call (Z246.R ((aY.at b (toNat d)).an,(aY.at a (toNat d)).an)) fun v1=>(cond (!v1) bT (J (.p0 a b c (i64.wrap (d+1)))))))) gf)
def start (J:Pt->aI)(x0 x1:aD):aI:=(cond ((x0.length:Int)>(x1.length:Int)) bT (J (.p0 x1 x0 (x0.length:Int) 0)))
def live:Nat->Live:=fL [(4,gA [1,12,13,14])]
def md (a0 a1:List aa):Bool:=(bif (decide ((a0.length:Int)>(a1.length:Int))) then (false:Bool) else (eL (S:=Unit) (β:=Bool) (fun (i2:Nat) (s4:Unit)=>(cond (!(Z246.md ((a0.getD i2 aa.zero).an) ((a1.getD i2 aa.zero).an))) (.inr (false:Bool)) (.inl ()))) (fun (s4:Unit)=>(true:Bool)) a0.length 0 ()))
def gd (a0 a1:List aa):Prop:=(bO (2^21) (fun y:aa=>aa.Sm (2^21) y) a0)/\(bO (2^21) (fun y:aa=>aa.Sm (2^21) y) a1)
def R:=RR (p2 gd) (u2 md)
def aj {a0 a1}(h:gd a0 a1):R ((a0.map aa.row),(a1.map aa.row))=some (md a0 a1):=cB h
def aU:=CN [pL 178,pL 178] oB RT.dec R
def bh (a0)(a1)(hg:gd a0 a1):∃n,start (iter step n) (a0.map aa.row) (a1.map aa.row)=ret (md a0 a1):=by
 obtain ⟨H0,H1⟩:=hg
 unfold start md
 try simp only [SS]
 refine iy ret (fun _=>⟨0,rfl⟩) (fun c1=>?_)
 have dc1:=c1
 try simp only [DC] at dc1
 have Bh3:a0.length<=maxLen:=(by
   have:=(H0).1
   try simp only [maxLen] at *
   omega)
 refine dW (p:=Pt.p0 (a1.map aa.row) (a0.map aa.row) (a0.length:Int) 0) fz ?_
 refine cq (pt:=fun (i2:Nat) (s4:Unit)=>Pt.p0 (a1.map aa.row) (a0.map aa.row) (a0.length:Int) (i2:Int)) (s:=(():Unit)) (out:=ret) (fun _ _=>True) (fun J i2 s4 h3 hih3=>?_) (fun s4 hih3=>?_) trivial
 ·simp only [step,SS]
  have bb_:=Bh3
  simp only [maxLen] at bb_
  have:=(H0).1
  refine bq.yes (by apply decide_eq_true;omega) ?_
  refine bq.yes aK ?_
  refine bq.yes (aP h3) ?_
  refine bq.yes aK ?_
  refine bq.yes (have:=(H1).1;dt) ?_
  refine cr (Z246.aj ⟨(bO.getD (z:=aa.zero) H0 h3).1,(bO.getD (z:=aa.zero) H1 (by first | assumption | omega | (simp (disch:=omega) only [wi];omega) | (simp;omega))).1⟩) ?_
  refine bq.bif (fun _=>bq.inr rfl) (fun c5=>?_)
  refine bq.inl trivial ?_
  rw [aJ h3 Bh3]
  all_goals exact fz
 ·simp only [step,SS]
  have:=(H0).1
  refine dH (by apply decide_eq_false;omega) ?_
  refine ⟨0,?_⟩
  all_goals exact fz
def af:cC 304 aU:=L2 29 (fun _=>4) cG (fun _=>[]) live step start mix aB bh (cJ Z246.af) Tryz.func304
def br (a0 a1:List aa):md a0 a1=Z107.md a0 a1:=by
 unfold md Z107.md
 first
 | (simp only [Z246.md_eq,Z106.md_eq];done)
 | (simp only [Z246.md_eq,Z106.md_eq];rfl)
 | rfl
end Z247
namespace Z248
def F (x0:bu)(x1:aD):aI:=(call (Z195.R x1) fun v1=>(cond (!v1) (ret (6:Int)) (cg ((0:Int)<x1.length) (call (Z245.R (x0,(aY.at x1 0).an.bw)) fun v2=>(cond (v2<0) (ret (1:Int)) (m2 v2 x0.aL.length (call (Z247.R ((qd x0.aL (toNat v2)),x1)) fun v3=>(m2 v2 x0.aL.length (call (Z247.R (x1,(qd x0.aL (toNat v2)))) fun v4=>(cond v3 (cond v4 (ret (2:Int)) (cond v3 (ret (3:Int)) (cond v4 (ret (4:Int)) (ret (5:Int))))) (cond v3 (ret (3:Int)) (cond v4 (ret (4:Int)) (ret (5:Int))))))))))))))
def md (a0:av)(a1:List aa):Int:=(cond (!(Z195.md a1)) (6:Int) (cond ((Z245.md a0 (((a1.getD 0 aa.zero).an).bw))<0) (1:Int) (cond (Z247.md (a0.aL.getD (toNat (Z245.md a0 (((a1.getD 0 aa.zero).an).bw))) []) a1) (cond (Z247.md a1 (a0.aL.getD (toNat (Z245.md a0 (((a1.getD 0 aa.zero).an).bw))) [])) (2:Int) (cond (Z247.md (a0.aL.getD (toNat (Z245.md a0 (((a1.getD 0 aa.zero).an).bw))) []) a1) (3:Int) (cond (Z247.md a1 (a0.aL.getD (toNat (Z245.md a0 (((a1.getD 0 aa.zero).an).bw))) [])) (4:Int) (5:Int)))) (cond (Z247.md (a0.aL.getD (toNat (Z245.md a0 (((a1.getD 0 aa.zero).an).bw))) []) a1) (3:Int) (cond (Z247.md a1 (a0.aL.getD (toNat (Z245.md a0 (((a1.getD 0 aa.zero).an).bw))) [])) (4:Int) (5:Int))))))
def gd (a0:av)(a1:List aa):Prop:=(av.Sm (2^21) a0)/\(bO (2^21) (fun y:aa=>aa.Sm (2^21) y) a1)
def R:=RR (p2 gd) (u2 md)
def aj {a0 a1}(h:gd a0 a1):R ((av.r a0),(a1.map aa.row))=some (md a0 a1):=cB h
def aU:=CN [.agg uY,pL 178] oI RT.dec R
def bh (a0)(a1)(hg:gd a0 a1):F (av.r a0) (a1.map aa.row)=ret (md a0 a1):=by
 obtain ⟨H0,H1⟩:=hg
 unfold F md
 simp only [SS]
 refine ct (Z195.aj H1) (bs (fun _=>rfl) (fun c1=>?_))
 have tc1:=Z195.tr (by simpa using c1)
 refine ak dt (ct (Z245.aj H0) ?_)
 have fv2_:=Z245.fa a0 (((a1.getD 0 aa.zero).an).bw)
 refine bs (fun _=>rfl) (fun c2=>?_)
 have dc2:=c2
 simp only [DC] at dc2
 refine ak dt (ak (have:=(H0.1).1;dt) ?_)
 refine ct (Z247.aj ⟨(bO.getD H0.1 (by omega)),H1⟩) (ak dt ?_)
 refine ak (have:=(H0.1).1;dt) (ct (Z247.aj ⟨H1,(bO.getD H0.1 (by omega))⟩) ?_)
 refine bs (fun c3=>?_) (fun c3=>?_)
 ·refine bs (fun _=>rfl) (fun c4=>?_)
  refine bs (fun _=>rfl) (fun c5=>?_)
  refine bs (fun _=>rfl) (fun _=>rfl)
 ·refine bs (fun _=>rfl) (fun c7=>?_)
  refine bs (fun _=>rfl) (fun _=>rfl)
def af:cC 251 aU:=W2 43 F mix aB bh (jS Z195.af Z245.af Z247.af) Tryz.func251
def fa (a0:av)(a1:List aa):(md a0 a1=3->1<=a1.length/\0<=Z245.md a0 (a1.getD 0 aa.zero).an.bw)/\(md a0 a1=5->1<=a1.length/\0<=Z245.md a0 (a1.getD 0 aa.zero).an.bw):=by
 unfold md
 cases h:Z195.md a1
 ·exact ⟨fun h=>by simp at h,fun h=>by simp at h⟩
 ·have t:=Z195.tr h
  cases hf:decide (Z245.md a0 ((a1.getD 0 aa.zero).an.bw)<0)
  ·have:=of_decide_eq_false hf
   exact ⟨fun _=>⟨t.1,by omega⟩,fun _=>⟨t.1,by omega⟩⟩
  ·exact ⟨fun h=>by simp at h,fun h=>by simp at h⟩
def br (a0:av)(a1:List aa):md a0 a1=Z108.md a0 a1:=by
 unfold md Z108.md
 simp only [Z195.br,Z245.br,Z247.br]
end Z248
namespace Z249
inductive Pt where
 | p0 (a b:aD) (c d e f g h i j k l m n o:Int) (p:Bool) (q s t u v w y z w24 w25 w26 w27:Int) (w28:Bool) (w29 w30 w31 w32 w33 w34 w35 w36 w37 w38 w39 w40:Int) (w41:Bool)
def cG:Pt->List V
 | .p0 a b c d e f g h i j k l m n o p q s t u v w y z w24 w25 w26 w27 w28 w29 w30 w31 w32 w33 w34 w35 w36 w37 w38 w39 w40 w41=>[.sl none 178 a,.sl none 178 b,.cD 0 0,.int .i64 c]
def cX:Pt->List aW
 | .p0 a b c d e f g h i j k l m n o p q s t u v w y z w24 w25 w26 w27 w28 w29 w30 w31 w32 w33 w34 w35 w36 w37 w38 w39 w40 w41=>[.box [.int .i64 d,.int .i64 e,.int .i64 f,.int .i64 g,.int .i64 h,.int .i64 i,.int .i64 j,.int .i64 k,.nil,.int .i64 l,.nil,.int .i64 m,.int .i64 n,.nil,.int .i64 o,.bool p,.nil,.int .i64 q,.int .i64 s,.int .i64 t,.int .i64 u,.int .i64 v,.int .i64 w,.int .i64 y,.int .i64 z,.nil,.int .i64 w24,.nil,.int .i64 w25,.int .i64 w26,.nil,.int .i64 w27,.bool w28,.nil,.int .i64 w29,.int .i64 w30,.int .i64 w31,.int .i64 w32,.int .i64 w33,.int .i64 w34,.int .i64 w35,.int .i64 w36,.nil,.int .i64 w37,.nil,.int .i64 w38,.int .i64 w39,.nil,.int .i64 w40,.bool w41,.nil]]
def step (J:Pt->aI):Pt->aI
 | .p0 a b c d e f g h i j k l m n o p q s t u v w y z w24 w25 w26 w27 w28 w29 w30 w31 w32 w33 w34 w35 w36 w37 w38 w39 w40 w41=>(m2 c (a.length:Int) (m2 c (b.length:Int) (call (Z246.R ((aY.at a (toNat c)).an,(aY.at b (toNat c)).an)) fun v1=>(cond v1 (J (.p0 a b (i64.wrap (c+1)) d e f g h i j k l m n o p q s t u v w y z w24 w25 w26 w27 w28 w29 w30 w31 w32 w33 w34 w35 w36 w37 w38 w39 w40 w41)) (m2 c (a.length:Int) (call (Z136.R (aY.at a (toNat c))) fun v2=>(m2 c (b.length:Int) (call (Z136.R (aY.at b (toNat c))) fun v3=>(cond (c>0) (cg ((0:Int)<=(i64.wrap (c - 1))) (cg ((i64.wrap (c - 1))<(a.length:Int)) (call (Z136.R (aY.at a (toNat (i64.wrap (c - 1))))) fun v4=>ret (((⟨v4,v2,v3⟩:bM),true):bM×Bool)))) (ret (((⟨(⟨(⟨0,0,0,0,0,0,0,0,(⟨[],0⟩:cN),(⟨[],0⟩:cN),0,(⟨[],0⟩:cN),false⟩:dm),[]⟩:aY),v2,v3⟩:bM),true):bM×Bool)))))))))))
def start (J:Pt->aI)(x0 x1:aD):aI:=(call (Z195.R x0) fun v1=>(cond (!v1) (ret (((⟨(⟨(⟨0,0,0,0,0,0,0,0,(⟨[],0⟩),(⟨[],0⟩),0,(⟨[],0⟩),false⟩),[]⟩),(⟨(⟨0,0,0,0,0,0,0,0,(⟨[],0⟩),(⟨[],0⟩),0,(⟨[],0⟩),false⟩),[]⟩),(⟨(⟨0,0,0,0,0,0,0,0,(⟨[],0⟩),(⟨[],0⟩),0,(⟨[],0⟩),false⟩),[]⟩)⟩),false):bM×Bool)) (call (Z195.R x1) fun v2=>(cond (!v2) (ret (((⟨(⟨(⟨0,0,0,0,0,0,0,0,(⟨[],0⟩),(⟨[],0⟩),0,(⟨[],0⟩),false⟩),[]⟩),(⟨(⟨0,0,0,0,0,0,0,0,(⟨[],0⟩),(⟨[],0⟩),0,(⟨[],0⟩),false⟩),[]⟩),(⟨(⟨0,0,0,0,0,0,0,0,(⟨[],0⟩),(⟨[],0⟩),0,(⟨[],0⟩),false⟩),[]⟩)⟩),false):bM×Bool)) (cg ((0:Int)<x0.length) (cg ((0:Int)<x1.length) (cond ((aY.at x0 0).an.bw != (aY.at x1 0).an.bw) (ret (((⟨(⟨(⟨0,0,0,0,0,0,0,0,(⟨[],0⟩),(⟨[],0⟩),0,(⟨[],0⟩),false⟩),[]⟩),(⟨(⟨0,0,0,0,0,0,0,0,(⟨[],0⟩),(⟨[],0⟩),0,(⟨[],0⟩),false⟩),[]⟩),(⟨(⟨0,0,0,0,0,0,0,0,(⟨[],0⟩),(⟨[],0⟩),0,(⟨[],0⟩),false⟩),[]⟩)⟩),false):bM×Bool)) (call (Z247.R (x0,x1)) fun v3=>(cond v3 (ret (((⟨(⟨(⟨0,0,0,0,0,0,0,0,(⟨[],0⟩),(⟨[],0⟩),0,(⟨[],0⟩),false⟩),[]⟩),(⟨(⟨0,0,0,0,0,0,0,0,(⟨[],0⟩),(⟨[],0⟩),0,(⟨[],0⟩),false⟩),[]⟩),(⟨(⟨0,0,0,0,0,0,0,0,(⟨[],0⟩),(⟨[],0⟩),0,(⟨[],0⟩),false⟩),[]⟩)⟩),false):bM×Bool)) (call (Z247.R (x1,x0)) fun v4=>(cond v4 (ret (((⟨(⟨(⟨0,0,0,0,0,0,0,0,(⟨[],0⟩),(⟨[],0⟩),0,(⟨[],0⟩),false⟩),[]⟩),(⟨(⟨0,0,0,0,0,0,0,0,(⟨[],0⟩),(⟨[],0⟩),0,(⟨[],0⟩),false⟩),[]⟩),(⟨(⟨0,0,0,0,0,0,0,0,(⟨[],0⟩),(⟨[],0⟩),0,(⟨[],0⟩),false⟩),[]⟩)⟩),false):bM×Bool)) (J (.p0 x0 x1 0 0 0 0 0 0 0 0 0 0 0 0 0 false 0 0 0 0 0 0 0 0 0 0 0 0 false 0 0 0 0 0 0 0 0 0 0 0 0 false)))))))))))))
def live:Nat->Live:=fL [(4,gA [0,1,4,6])]
def pt (a b:aD)(c:Int):Pt:=Pt.p0 a b c 0 0 0 0 0 0 0 0 0 0 0 0 false 0 0 0 0 0 0 0 0 0 0 0 0 false 0 0 0 0 0 0 0 0 0 0 0 0 false
def md (a0 a1:List aa):aF×Bool:=(cond (!(Z195.md a0)) (aF.zero,false) (cond (!(Z195.md a1)) (aF.zero,false) (cond (((a0.getD 0 aa.zero).an).bw != ((a1.getD 0 aa.zero).an).bw) (aF.zero,false) (cond (Z247.md a0 a1) (aF.zero,false) (cond (Z247.md a1 a0) (aF.zero,false) (Z109.wC a0 a1 (Z109.fk a0 a1),true))))))
def gd (a0 a1:List aa):Prop:=bO (2^21) (fun y:aa=>aa.Sm (2^21) y) a0/\bO (2^21) (fun y:aa=>aa.Sm (2^21) y) a1
def R:=RR (p2 gd) (u2 md)
def aj {a0 a1}(h:gd a0 a1):R ((a0.map aa.row),(a1.map aa.row))=some ((aF.r (md a0 a1).1),(md a0 a1).2):=cB h
def aU:=CN [pL 178,pL 178] (.iL [(true,f180),(false,[fB])]) RT.dec R
def bh (a0)(a1)(hg:gd a0 a1):∃n,start (iter step n) (a0.map aa.row) (a1.map aa.row)=ret ((aF.r (md a0 a1).1),(md a0 a1).2):=by
 obtain ⟨H0,H1⟩:=hg
 have hl1:=H1.1
 have key:Z109.fk a0 a1<a0.length->Z109.fk a0 a1<a1.length->Z106.md (a0.getD (Z109.fk a0 a1) aa.zero).an (a1.getD (Z109.fk a0 a1) aa.zero).an=false->∀d k,k+d=Z109.fk a0 a1->∃n,iter step n (pt (a0.map aa.row) (a1.map aa.row) (k:Int))=ret ((aF.r (Z109.wC a0 a1 (Z109.fk a0 a1)),true):bM×Bool):=by
  intro hn0 hn1 hne d
  have hR:∀k,k<a0.length->k<a1.length->Z246.R (aE.r (a0.getD k aa.zero).an,aE.r (a1.getD k aa.zero).an)=some (Z106.md (a0.getD k aa.zero).an (a1.getD k aa.zero).an):=by
   intro k h0 h1
   rw [Z246.aj ⟨(bO.getD H0 h0).1,(bO.getD H1 h1).1⟩,Z246.md_eq,Z106.md_eq]
  induction d with
  | zero=>
   intro k hk
   obtain rfl:k=Z109.fk a0 a1:=by omega
   generalize hkk:Z109.fk a0 a1=k at hn0 hn1 hne ⊢
   refine ⟨1,?_⟩
   show step (iter step 0) _=_
   have q1:(0:Int)<=(k:Int):=by omega
   have q2:(k:Int)<(a0.length:Int):=by omega
   have q3:(k:Int)<(a1.length:Int):=by omega
   simp only [pt,step,MM,S0,aa.rs,aE.rs,q1,q2,q3,decide_true,aZ]
   rw [call_eq (hR k hn0 hn1),hne,bg,call_eq (Z136.aj (bO.getD H0 hn0)),call_eq (Z136.aj (bO.getD H1 hn1))]
   cases k with
   | zero=>rfl
   | succ k=>
    have q4:((k+1:Nat):Int)>0:=by omega
    have q5:i64.wrap (((k+1:Nat):Int) - 1)=(k:Int):=by rw [wi _ (by omega)];omega
    have q6:(0:Int)<=(k:Int):=by omega
    have q7:(k:Int)<(a0.length:Int):=by omega
    simp only [q4,q5,q6,q7,decide_true,aZ,S0,aa.rs]
    rw [call_eq (Z136.aj (bO.getD H0 (by omega)))]
    rfl
  | succ d ih=>
   intro k hk
   obtain ⟨n,hn⟩:=ih (k+1) (by omega)
   refine ⟨n+1,?_⟩
   show step (iter step n) _=_
   have q1:(0:Int)<=(k:Int):=by omega
   have q2:(k:Int)<(a0.length:Int):=by omega
   have q3:(k:Int)<(a1.length:Int):=by omega
   simp only [pt,step,MM,S0,aa.rs,aE.rs,q1,q2,q3,decide_true,aZ]
   rw [call_eq (hR k (by omega) (by omega)),(Z109.qT a0 a1).1 k (by omega),aZ,wi _ (by omega)]
   exact hn
 unfold start md
 simp only [S0,aa.rs,aE.rs]
 refine fC _ (Z195.aj H0) ?_
 cases hc0:Z195.md a0
 ·exact ⟨0,rfl⟩
 simp only [Bool.not_true,bg]
 refine fC _ (Z195.aj H1) ?_
 cases hc1:Z195.md a1
 ·exact ⟨0,rfl⟩
 have t0:=Z195.tr hc0
 have t1:=Z195.tr hc1
 simp only [Bool.not_true,bg]
 refine dQ (decide_eq_true (by omega)) (dQ (decide_eq_true (by omega)) ?_)
 cases ((a0.getD 0 aa.zero).an.bw != (a1.getD 0 aa.zero).an.bw)
 case true=>exact ⟨0,rfl⟩
 simp only [bg]
 refine fC _ (Z247.aj ⟨H0,H1⟩) ?_
 cases hp0:Z247.md a0 a1
 case true=>exact ⟨0,rfl⟩
 simp only [bg]
 refine fC _ (Z247.aj ⟨H1,H0⟩) ?_
 cases hp1:Z247.md a1 a0
 case true=>exact ⟨0,rfl⟩
 simp only [bg]
 rw [Z247.br] at hp0 hp1
 obtain ⟨h1,h2,h3⟩:=Z109.mM hp0 hp1
 exact key h1 h2 h3 (Z109.fk a0 a1) 0 (by omega)
def af:cC 253 aU:=L2 74 (fun _=>4) cG cX live step start mix aB bh (kP Z195.af Z247.af Z246.af Z136.af) Tryz.func253
def iF {a0 a1:List aa}(hg:gd a0 a1):aF.Sm (2^21) ((md a0 a1).1):=by
 unfold gd at hg;unfold md
 have z:aF.Sm (2^21) aF.zero:=⟨⟨⟨bO.nil,bO.nil,bO.nil⟩,bO.nil⟩,⟨⟨bO.nil,bO.nil,bO.nil⟩,bO.nil⟩,⟨⟨bO.nil,bO.nil,bO.nil⟩,bO.nil⟩⟩
 cases Z195.md a0
 ·exact z
 cases Z195.md a1
 ·exact z
 cases ((a0.getD 0 aa.zero).an.bw != (a1.getD 0 aa.zero).an.bw)
 case true=>exact z
 cases h1:Z247.md a0 a1
 case true=>exact z
 cases h2:Z247.md a1 a0
 case true=>exact z
 rw [Z247.br] at h1 h2
 obtain ⟨h3,h4,_⟩:=Z109.mM h1 h2
 exact Z109.xW hg.1 hg.2 h3 h4
def br (a0 a1:List aa):md a0 a1=Z109.md a0 a1:=by
 unfold md Z109.md
 simp only [Z195.br,Z247.br,Z246.md_eq,Z106.md_eq]
end Z249
namespace Z250
def F (x0:bu)(x1:aD):aI:=(call (Z146.R x0) fun v1=>(call (Z248.R (x0,x1)) fun v2=>(cond (v2==1) (cond ((x0.aL.length:Int)>=8) (ret ((v1,6):bu×Int)) (call (Z137.R x1) fun v3=>(cg (eX ((v1.aL.length+1)*24)) (ret (((⟨(v1.aL++[[L.sl v3]]),v1.bp⟩),v2):bu×Int))))) (cond (v2==3) (cg ((0:Int)<x1.length) (call (Z245.R (x0,(aY.at x1 0).an.bw)) fun v4=>(call (Z137.R x1) fun v5=>(m2 v4 v1.aL.length (ret (((⟨(List.set v1.aL (toNat v4) [L.sl v5]),v1.bp⟩),v2):bu×Int)))))) (cond (v2==5) (cg ((0:Int)<x1.length) (call (Z245.R (x0,(aY.at x1 0).an.bw)) fun v6=>(m2 v6 x0.aL.length (call (Z249.R ((qd x0.aL (toNat v6)),x1)) fun v7=>(cond v7.2 (cond ((x0.bp.length:Int)<8) (cg (eX ((v1.bp.length+1)*600)) (ret (((⟨v1.aL,(v1.bp++[(bM.enc v7.1)])⟩),v2):bu×Int))) (ret ((v1,v2):bu×Int))) (ret ((v1,v2):bu×Int))))))) (ret ((v1,v2):bu×Int)))))))
def md (a0:av)(a1:List aa):av×Int:=(cond ((Z248.md a0 a1)==1) (cond ((a0.aL.length:Int)>=8) (a0,6) ((⟨(a0.aL++[a1]),a0.bp⟩),(Z248.md a0 a1))) (cond ((Z248.md a0 a1)==3) ((⟨(List.set a0.aL (toNat (Z245.md a0 (((a1.getD 0 aa.zero).an).bw))) a1),a0.bp⟩),(Z248.md a0 a1)) (cond ((Z248.md a0 a1)==5) (cond ((Z249.md (a0.aL.getD (toNat (Z245.md a0 (((a1.getD 0 aa.zero).an).bw))) []) a1).2) (cond ((a0.bp.length:Int)<8) ((⟨a0.aL,(a0.bp++[(Z249.md (a0.aL.getD (toNat (Z245.md a0 (((a1.getD 0 aa.zero).an).bw))) []) a1).1])⟩),(Z248.md a0 a1)) (a0,(Z248.md a0 a1))) (a0,(Z248.md a0 a1))) (a0,(Z248.md a0 a1)))))
def gd (a0:av)(a1:List aa):Prop:=(av.Sm (2^21) a0)/\(bO (2^21) (fun y:aa=>aa.Sm (2^21) y) a1)
def R:=RR (p2 gd) (u2 md)
def aj {a0 a1}(h:gd a0 a1):R ((av.r a0),(a1.map aa.row))=some ((av.r (md a0 a1).1),(md a0 a1).2):=cB h
def aU:=CN [.agg uY,pL 178] (.iL [(true,f36),(false,[fI])]) RT.dec R
def bh (a0)(a1)(hg:gd a0 a1):F (av.r a0) (a1.map aa.row)=ret ((av.r (md a0 a1).1),(md a0 a1).2):=by
 obtain ⟨H0,H1⟩:=hg
 refine ct (Z146.aj H0) ?_
 simp only [SS]
 refine ct (Z248.aj ⟨H0,H1⟩) ?_
 have fv2_:=Z248.fa a0 a1
 refine bt (fun b:av×Int=>ret (((av.r b.1),b.2):bu×Int)) (fun c1=>?_) (fun c1=>?_)
 ·refine bt (fun b:av×Int=>ret (((av.r b.1),b.2):bu×Int)) (fun c2=>fz) (fun c2=>?_)
  refine ct (Z137.aj H1) (ak (have:=(H0.1).1;lm) ?_)
  exact fz
 ·refine bt (fun b:av×Int=>ret (((av.r b.1),b.2):bu×Int)) (fun c3=>?_) (fun c3=>?_)
  ·have dc3:=c3
   simp only [DC] at dc3
   refine ak dt (ct (Z245.aj H0) ?_)
   have fv4_:=Z245.fa a0 (((a1.getD 0 aa.zero).an).bw)
   refine ct (Z137.aj H1) (ak dt ?_)
   exact ak (have:=(H0.1).1;dt) fz
  ·refine bt (fun b:av×Int=>ret (((av.r b.1),b.2):bu×Int)) (fun c4=>?_) (fun c4=>fz)
   have dc4:=c4
   simp only [DC] at dc4
   refine ak dt (ct (Z245.aj H0) ?_)
   have fv6_:=Z245.fa a0 (((a1.getD 0 aa.zero).an).bw)
   refine ak dt (ak (have:=(H0.1).1;dt) ?_)
   refine ct (Z249.aj ⟨(bO.getD H0.1 (by omega)),H1⟩) (bt (fun b:av×Int=>ret (((av.r b.1),b.2):bu×Int)) (fun c5=>?_) (fun c5=>fz))
   exact bt (fun b:av×Int=>ret (((av.r b.1),b.2):bu×Int)) (fun c6=>ak (have:=(H0.2).1;lm) fz) (fun c6=>fz)
def af:cC 196 aU:=W2 77 F mix aB bh (xF Z146.af Z248.af Z137.af Z245.af Z249.af) Tryz.func196
def iF {a0:av}{a1:List aa}(hg:gd a0 a1):av.Sm (2^21) ((md a0 a1).1):=by
 unfold gd at hg;unfold md
 obtain ⟨⟨h1,h2⟩,h3⟩:=hg
 simp only [Bool.cond_eq_ite]
 repeat' split
 all_goals (try simp only [decide_eq_true_eq,ge_iff_le] at *)
 all_goals first
  | exact ⟨h1,h2⟩
  | exact ⟨bO.app (a:=7) (b:=1) ⟨by omega,h1.2⟩ (bO.one h3) (by decide),h2⟩
  | exact ⟨bO.set h1 h3,h2⟩
  | exact ⟨h1,bO.app (a:=7) (b:=1) ⟨by omega,h2.2⟩ (bO.one (Z249.iF ⟨bO.sZ h1 bO.nil,h3⟩)) (by decide)⟩
def br (a0:av)(a1:List aa):md a0 a1=Z110.md a0 a1:=by
 unfold md Z110.md
 simp only [Z248.br,Z245.br,Z249.br]
end Z250
namespace Z251
inductive Pt where
 | p0 (a b:aD) (c d:Int)
def cG:Pt->List V
 | .p0 a b c d=>[.sl none 227 a,.sl none 227 b,.int .i64 c,.int .i64 d]
def step (J:Pt->aI):Pt->aI
 | .p0 a b c d=>(cond (d<c) (m2 d (a.length:Int) (m2 d (b.length:Int) (cond (!((((bn.at a (toNat d)).iu:Int)==(bn.at b (toNat d)).iu)&&((((bn.at a (toNat d)).jM:Int)==(bn.at b (toNat d)).jM)&&true))) bT (J (.p0 a b c (i64.wrap (d+1))))))) gf)
def start (J:Pt->aI)(x0 x1:aD):aI:=(cond ((x0.length:Int) != (x1.length:Int)) bT (J (.p0 x0 x1 (x0.length:Int) 0)))
def live:Nat->Live:=fL [(4,gA [0,1,12,13])]
def md (a0 a1:List bn):Bool:=(bif ((a0.length:Int) != (a1.length:Int)) then (false:Bool) else (eL (S:=Unit) (β:=Bool) (fun (i2:Nat) (s4:Unit)=>(cond (!((((a0.getD i2 bn.zero).iu:Int)==(a1.getD i2 bn.zero).iu)&&((((a0.getD i2 bn.zero).jM:Int)==(a1.getD i2 bn.zero).jM)&&true))) (.inr (false:Bool)) (.inl ()))) (fun (s4:Unit)=>(true:Bool)) a0.length 0 ()))
def gd (a0 a1:List bn):Prop:=(bO (2^21) (fun y:bn=>bn.Sm (2^21) y) a0)/\(bO (2^21) (fun y:bn=>bn.Sm (2^21) y) a1)
def R:=RR (p2 gd) (u2 md)
def aj {a0 a1}(h:gd a0 a1):R ((a0.map bn.row),(a1.map bn.row))=some (md a0 a1):=cB h
def aU:=CN [pL 227,pL 227] oB RT.dec R
def bh (a0)(a1)(hg:gd a0 a1):∃n,start (iter step n) (a0.map bn.row) (a1.map bn.row)=ret (md a0 a1):=by
 obtain ⟨H0,H1⟩:=hg
 unfold start md
 try simp only [SS]
 refine iy ret (fun _=>⟨0,rfl⟩) (fun c1=>?_)
 have dc1:=c1
 try simp only [DC] at dc1
 have Bh3:a0.length<=maxLen:=(by
   have:=(H0).1
   try simp only [maxLen] at *
   omega)
 refine dW (p:=Pt.p0 (a0.map bn.row) (a1.map bn.row) (a0.length:Int) 0) fz ?_
 refine cq (pt:=fun (i2:Nat) (s4:Unit)=>Pt.p0 (a0.map bn.row) (a1.map bn.row) (a0.length:Int) (i2:Int)) (s:=(():Unit)) (out:=ret) (fun _ _=>True) (fun J i2 s4 h3 hih3=>?_) (fun s4 hih3=>?_) trivial
 ·simp only [step,SS]
  have bb_:=Bh3
  simp only [maxLen] at bb_
  have:=(H0).1
  refine bq.yes (by apply decide_eq_true;omega) ?_
  refine bq.yes aK ?_
  refine bq.yes (aP h3) ?_
  refine bq.yes aK ?_
  refine bq.yes (have:=(H1).1;dt) ?_
  refine bq.bif (fun _=>bq.inr rfl) (fun c5=>?_)
  refine bq.inl trivial ?_
  rw [aJ h3 Bh3]
  all_goals exact fz
 ·simp only [step,SS]
  have:=(H0).1
  refine dH (by apply decide_eq_false;omega) ?_
  refine ⟨0,?_⟩
  all_goals exact fz
def af:cC 372 aU:=L2 26 (fun _=>4) cG (fun _=>[]) live step start mix aB bh .nil Tryz.func372
def md_eq (a0 a1:List bn):md a0 a1=eD a0 a1:=by
 unfold md
 refine kX (bn.zero) (fun i s h h2=>?_) (fun s=>rfl)
 simp only [bne,fV,bool_beq,fD,bn.eqc]
 cases eD _ _<;>rfl
end Z251
namespace Z252
def F (x0 x1:aY):aI:=(call (Z246.R (x0.an,x1.an)) fun v1=>(cond v1 (call (Z251.R (x0.cI,x1.cI)) fun v2=>ret v2) (ret false)))
def md (a0 a1:aa):Bool:=(cond (Z246.md a0.an a1.an) ((Z251.md a0.cI a1.cI)) false)
def gd (a0 a1:aa):Prop:=(aa.Sm (2^21) a0)/\(aa.Sm (2^21) a1)
def R:=RR (p2 gd) (u2 md)
def aj {a0 a1}(h:gd a0 a1):R ((aa.r a0),(aa.r a1))=some (md a0 a1):=cB h
def aU:=CN [.agg lB,.agg lB] oB RT.dec R
def bh (a0)(a1)(hg:gd a0 a1):F (aa.r a0) (aa.r a1)=ret (md a0 a1):=by
 obtain ⟨H0,H1⟩:=hg
 refine ct (Z246.aj ⟨H0.1,H1.1⟩) (bs (fun c1=>?_) (fun _=>rfl))
 exact ct (Z251.aj ⟨H0.2,H1.2⟩) fz
def af:cC 341 aU:=W2 17 F mix aB bh (eM Z246.af Z251.af) Tryz.func341
def md_eq (a0 a1:aa):md a0 a1=eD a0 a1:=by
 unfold md
 cases a0;cases a1
 rw [Bool.eq_iff_iff]
 simp [dz,fD,aa.mk.injEq,Z246.md_eq,Z251.md_eq]
end Z252
namespace Z253
def F (x0:bM):aI:=(call (Z246.R (x0.fA.an,x0.fB.an)) fun v1=>(cond v1 bT (call (Z252.R (x0.aM,(⟨(⟨0,0,0,0,0,0,0,0,(⟨[],0⟩:cN),(⟨[],0⟩:cN),0,(⟨[],0⟩:cN),false⟩:dm),[]⟩:aY))) fun v2=>(cond v2 (call (Z183.R x0.fA) fun v3=>(cond v3 (call (Z183.R x0.fB) fun v4=>(cond v4 (ret ((x0.fA.an.bw==x0.fB.an.bw):Bool)) bT)) bT)) (call (Z193.R (x0.aM.an,x0.fA)) fun v5=>(cond v5 (call (Z193.R (x0.aM.an,x0.fB)) fun v6=>ret (v6:Bool)) bT))))))
def md (a0:aF):Bool:=(cond (Z246.md a0.fA.an a0.fB.an) (false:Bool) (cond (Z252.md a0.aM (⟨(⟨0,0,0,0,0,0,0,0,(⟨[],0⟩:aO),(⟨[],0⟩:aO),0,(⟨[],0⟩:aO),false⟩:aE),[]⟩:aa)) (cond (Z183.md a0.fA) (cond (Z183.md a0.fB) ((a0.fA.an.bw==a0.fB.an.bw):Bool) (false:Bool)) (false:Bool)) (cond (Z193.md a0.aM.an a0.fA) ((Z193.md a0.aM.an a0.fB):Bool) (false:Bool))))
def gd (a0:aF):Prop:=(aF.Sm (2^21) a0)
def R:=RR gd md
def aj {a0}(h:gd a0):R (aF.r a0)=some (md a0):=cT h
def aU:=CN [.agg uA] oB RT.dec R
def bh (a0)(hg:gd a0):F (aF.r a0)=ret (md a0):=by
 unfold gd at hg
 have H0:=hg
 unfold F md
 try simp only [SS]
 refine ct (Z246.aj ⟨H0.2.1.1,H0.2.2.1⟩) ?_
 refine bt ret (fun _=>rfl) (fun c1=>?_)
 refine ct (Z252.aj (a1:=(⟨(⟨0,0,0,0,0,0,0,0,(⟨[],0⟩:aO),(⟨[],0⟩:aO),0,(⟨[],0⟩:aO),false⟩:aE),[]⟩:aa)) ⟨H0.1,⟨⟨bO.nil,bO.nil,bO.nil⟩,bO.nil⟩⟩) ?_
 refine bt ret (fun c2=>?_) (fun c2=>?_)
 ·refine ct (Z183.aj H0.2.1) ?_
  refine bt ret (fun c3=>?_) (fun _=>rfl)
  refine ct (Z183.aj H0.2.2) ?_
  refine bt ret (fun c4=>?_) (fun _=>rfl)
  all_goals exact fz
 ·refine ct (Z193.aj ⟨H0.1.1,H0.2.1⟩) ?_
  refine bt ret (fun c5=>?_) (fun _=>rfl)
  refine ct (Z193.aj ⟨H0.1.1,H0.2.2⟩) ?_
  all_goals exact fz
def af:cC 309 aU:=W1 49 F mix aB bh (kP Z246.af Z252.af Z183.af Z193.af) Tryz.func309
def br (a0:aF):md a0=Z123.md a0:=by
 unfold md Z123.md
 first
 | (simp only [Z183.br,Z193.br,Z246.md_eq,Z252.md_eq,Z106.md_eq,Z122.md_eq];done)
 | (simp only [Z183.br,Z193.br,Z246.md_eq,Z252.md_eq,Z106.md_eq,Z122.md_eq];rfl)
 | rfl
end Z253
namespace Z254
def F (x0:bM):aI:=(call (Z253.R x0) fun v1=>(cond (!v1) (ret ((-1):Int)) (ret x0.fA.an.bw)))
def md (a0:aF):Int:=(cond (!(Z253.md a0)) ((-1):Int) a0.fA.an.bw)
def gd (a0:aF):Prop:=(aF.Sm (2^21) a0)
def R:=RR gd md
def aj {a0}(h:gd a0):R (aF.r a0)=some (md a0):=cT h
def aU:=CN [.agg uA] oI RT.dec R
def bh (a0)(H0:gd a0):F (aF.r a0)=ret (md a0):=by
 refine ct (Z253.aj H0) (bs (fun _=>rfl) (fun c1=>?_))
 exact fz
def af:cC 256 aU:=W1 10 F mix aB bh (cJ Z253.af) Tryz.func256
def br (a0:aF):md a0=Z124.md a0:=by
 unfold md Z124.md
 simp only [Z253.br]
end Z254
namespace Z255
def F (x0:bM)(x1:List L):aI:=(call (Z254.R x0) fun v1=>ret ((v1==(fU x1)):Bool))
def pats:List gN:=[.agg [au,au,au,au,au,au,au,au,.sl 3,au,.sl 3,au,au,.sl 3,au,.bool,.sl 227,au,au,au,au,au,au,au,au,.sl 3,au,.sl 3,au,au,.sl 3,au,.bool,.sl 227,au,au,au,au,au,au,au,au,.sl 3,au,.sl 3,au,au,.sl 3,au,.bool,.sl 227],.ptr [au]]
def res:RP:=.one (.rd (.bool))
def md (a0:aF)(a1:Int):Bool:=(((Z254.md a0)==a1):Bool)
def gd (a0:aF)(a1:Int):Prop:=(aF.Sm (2^21) a0)
def acc (ls:List L):bM×Int:=((bM.dec ls),(fU (cE 1 (ay 51 ls))))
def R:(bM×Int)->Option Bool:=RR (p2 gd) (u2 md)
def aj {a0 a1}(h:gd a0 a1):R ((aF.r a0),a1)=some (md a0 a1):=cB h
def aU:fY:=CN pats res acc R
def bh (a0:aF)(a1:Int)(p1:List L)(e1:a1=(fU p1))(hg:gd a0 a1):F (aF.r a0) p1=ret ((md a0 a1):Bool):=by
 unfold gd at hg
 have H0:=hg
 unfold F md
 try simp only [SS,<-e1]
 refine ct (Z254.aj H0) ?_
 all_goals exact fz
def oF (ls:List L)(a:aF×Int)(e:acc ls=Im.im a)(hg:(p2 gd) a):∃n:Nat,F (bM.dec ls) (cE 1 (ay 51 ls))=ret (Im.im ((u2 md) a)):=by
 have e0:(aF.r a.1)=(bM.dec ls):=(congrArg (fun x=>x.1) e.symm)
 have hn:=bh a.1 a.2 (cE 1 (ay 51 ls)) (congrArg (fun x=>x.2) e.symm) hg
 refine ⟨0,?_⟩
 rw [<-e0]
 exact hn
def af:cC 255 aU:=VP (live:=fun _=>[]) (nt:=8) (accr:=fun ls=>((bM.dec ls),(cE 1 (ay 51 ls)))) (run:=fun _ x=>F x.1 x.2) mix aB (cJ Z254.af) Tryz.func255 (by kernel_rfl) (fun _ _=>by kernel_rfl) (fun ls a _ e hg=>oF ls a e hg)
end Z255
namespace Z256
inductive Pt where
 | p0 (a:aD) (b:List L) (c d:Int)
def pid:Pt->Nat
 | .p0 ..=>2
def cG:Pt->List V
 | .p0 a b c d=>[.sl none 180 a,.fn 255 [.dL none [au] b 0],.int .i64 c,.int .i64 d]
def cX:Pt->List aW
 | .p0 a b c d=>[]
def step (J:Pt->aI):Pt->aI
 | .p0 a b c d=>(cond (d<c) (m2 d (a.length:Int) (call (Z255.R ((bM.at a (toNat d)),(fU b))) fun v1=>(cond v1 (ret (d:Int)) (J (.p0 a b c (i64.wrap (d+1))))))) (ret ((-1):Int)))
def start (J:Pt->aI)(x0:aD)(x1:List L):aI:=J (.p0 x0 x1 x0.length 0)
def live:Nat->Live:=fL [(2,gA [0,1,7,8])]
def pats:List gN:=[.rd (.sl 180),.fn 255 [[au]]]
def res:RP:=.one (.rd (.int .i64))
abbrev E:Env:={ T:=assoc mq,G:=dM [(255,Z255.aU)],nt:=19 }
def step_eq (I:cR)(p:Pt):dF E live I (pid p) (bP Tryz.f308) (gp (live (pid p)) (cG p) (cX p)) (cP E Tryz.f308 res)=step (fun q=>I (pid q) (cG q) (cX q)) p:=by
 cases p<;>kernel_rfl
def start_eq (I:cR)(ls:List L):fG E live I (bP Tryz.f308) (dJ pats ls) (cP E Tryz.f308 res)=start (fun q=>I (pid q) (cG q) (cX q)) (ls.headD .hole).aS (cE 1 (ay 1 ls)):=by kernel_rfl
def run_eq (n:Nat)(ls:List L):fc E live Tryz.f308 res n (dJ pats ls)=start (iter step n) (ls.headD .hole).aS (cE 1 (ay 1 ls)):=cO (id:=pid) (vs:=cG) (hs:=cX) (step:=step) (start:=fun J=>start J (ls.headD .hole).aS (cE 1 (ay 1 ls))) step_eq (fun I=>start_eq I ls) n
def md (a0:List aF)(a1:Int):Int:=(dV (S:=Unit) (β:=Int) (fun i1 y1 s3=>(cond (Z255.md y1 a1) (.inr (i1)) (.inl ()))) (fun s3=>((-1):Int)) 0 a0 ())
def gd (a0:List aF)(a1:Int):Prop:=(bO (2^21) (fun y:aF=>aF.Sm (2^21) y) a0)
def acc (ls:List L):aD×Int:=((ls.headD .hole).aS,(fU (cE 1 (ay 1 ls))))
def R:(aD×Int)->Option Int:=RR (p2 gd) (u2 md)
def aj {a0 a1}(h:gd a0 a1):R ((a0.map aF.row),a1)=some (md a0 a1):=cB h
def aU:fY:=CN pats res acc R
def bh (a0:List aF)(a1:Int)(p1:List L)(e1:a1=(fU p1))(H0:gd a0 a1):∃n,start (iter step n) (a0.map aF.row) p1=ret ((md a0 a1):Int):=by
 have Bh2:=bl H0
 refine ex_eq (cW (z:=aF.zero)) (dW (p:=Pt.p0 (a0.map aF.row) p1 (a0.length:Int) 0) fz ?_)
 refine cq (pt:=fun (i1:Nat) (s3:Unit)=>Pt.p0 (a0.map aF.row) p1 (a0.length:Int) (i1:Int)) (fun _ _=>True) (fun J i1 s3 h2 hih2=>?_) (fun s3 hih2=>?_) trivial
 ·simp only [step,SS,<-e1]
  refine bq.yes dt (bq.yes aK ?_)
  refine bq.yes (aP h2) (cr (Z255.aj (bO.getD H0 h2)) ?_)
  refine bq.bif (fun c4=>bq.inr fz) (fun c4=>?_)
  refine bq.inl trivial ?_
  rw [aJ h2 Bh2]
 ·simp only [step,SS,<-e1]
  refine dH dn (⟨0,?_⟩)
  exact fz
def oF (ls:List L)(a:List aF×Int)(e:acc ls=Im.im a)(hg:(p2 gd) a):∃n:Nat,start (iter step n) ((ls.headD .hole).aS) (cE 1 (ay 1 ls))=ret (Im.im ((u2 md) a)):=by
 have e0:(a.1.map aF.row)=(ls.headD .hole).aS:=(congrArg (fun x=>x.1) e.symm)
 obtain ⟨n,hn⟩:=bh a.1 a.2 (cE 1 (ay 1 ls)) (congrArg (fun x=>x.2) e.symm) hg
 refine ⟨n,?_⟩
 rw [<-e0]
 exact hn
def af:cC 308 aU:=VP (accr:=fun ls=>((ls.headD .hole).aS,(cE 1 (ay 1 ls)))) (run:=fun n x=>start (iter step n) x.1 x.2) mix aB (cJ Z255.af) Tryz.func308 (by kernel_rfl) run_eq (fun ls a _ e hg=>oF ls a e hg)
def fa (a0:List aF)(a1:Int):-1<=md a0 a1/\md a0 a1<(a0.length:Int):=by
 refine gG ?_ _ _
 all_goals
  intro i x s b h
  revert h
  simp only [Bool.cond_eq_ite]
  repeat' split
  all_goals (intro h;first | (cases h;rfl) | cases h)
def idx_eq (a0:List aF)(a1:Int):md a0 a1=jl (fun y=>Z255.md y a1) 0 a0:=iB
end Z256
namespace Z257
def F (x0:aD)(x1:List L):aI:=(call (Z256.R (x0,(fU x1))) fun v1=>ret ((decide (v1>=0)):Bool))
def pats:List gN:=[.rd (.sl 180),.fn 255 [[au]]]
def res:RP:=.one (.rd (.bool))
def md (a0:List aF)(a1:Int):Bool:=((decide ((Z256.md a0 a1)>=0)):Bool)
def gd (a0:List aF)(a1:Int):Prop:=(bO (2^21) (fun y:aF=>aF.Sm (2^21) y) a0)
def acc (ls:List L):aD×Int:=((ls.headD .hole).aS,(fU (cE 1 (ay 1 ls))))
def R:(aD×Int)->Option Bool:=RR (p2 gd) (u2 md)
def aj {a0 a1}(h:gd a0 a1):R ((a0.map aF.row),a1)=some (md a0 a1):=cB h
def aU:fY:=CN pats res acc R
def bh (a0:List aF)(a1:Int)(p1:List L)(e1:a1=(fU p1))(hg:gd a0 a1):F (a0.map aF.row) p1=ret ((md a0 a1):Bool):=by
 unfold gd at hg
 have H0:=hg
 unfold F md
 try simp only [SS,<-e1]
 refine ct (Z256.aj H0) ?_
 have fv1_:=Z256.fa a0 a1
 all_goals exact fz
def oF (ls:List L)(a:List aF×Int)(e:acc ls=Im.im a)(hg:(p2 gd) a):∃n:Nat,F ((ls.headD .hole).aS) (cE 1 (ay 1 ls))=ret (Im.im ((u2 md) a)):=by
 have e0:(a.1.map aF.row)=(ls.headD .hole).aS:=(congrArg (fun x=>x.1) e.symm)
 have hn:=bh a.1 a.2 (cE 1 (ay 1 ls)) (congrArg (fun x=>x.2) e.symm) hg
 refine ⟨0,?_⟩
 rw [<-e0]
 exact hn
def af:cC 254 aU:=VP (live:=fun _=>[]) (nt:=9) (accr:=fun ls=>((ls.headD .hole).aS,(cE 1 (ay 1 ls)))) (run:=fun _ x=>F x.1 x.2) mix aB (cJ Z256.af) Tryz.func254 (by kernel_rfl) (fun _ _=>by kernel_rfl) (fun ls a _ e hg=>oF ls a e hg)
def any_eq (a0:List aF)(a1:Int):md a0 a1=a0.any (fun y=>Z255.md y a1):=by
 unfold md
 rw [Z256.idx_eq]
 exact rD
end Z257
namespace Z258
def F (x0:bu)(x1:Int):aI:=(cond (x1>=0) (call (Z257.R (x0.bp,x1)) fun v1=>ret v1) (ret false))
def md (a0:av)(a1:Int):Bool:=(cond (a1>=0) ((Z257.md a0.bp a1)) false)
def gd (a0:av)(a1:Int):Prop:=(av.Sm (2^21) a0)
def R:=RR (p2 gd) (u2 md)
def aj {a0 a1}(h:gd a0 a1):R ((av.r a0),a1)=some (md a0 a1):=cB h
def aU:=CN [.agg uY,pI] oB RT.dec R
def bh (a0)(a1)(H0:gd a0 a1):F (av.r a0) a1=ret (md a0 a1):=by
 refine bs (fun c1=>?_) (fun _=>rfl)
 exact ct (Z257.aj H0.2) fz
def af:cC 197 aU:=W2 13 F mix aB bh (cJ Z257.af) Tryz.func197
def br (a0:av)(a1:Int):md a0 a1=Z125.md a0 a1:=by
 unfold md Z125.md
 rw [Z257.any_eq]
 rw [nX (p:=fun y=>(Z124.md y==a1)&&decide (a1>=0)) (fun x s=>by
  cases (Z124.md x==a1)<;>cases decide (a1>=0)<;>rfl) a0.bp ()]
 have e:(fun y=>Z255.md y a1)=fun y=>Z124.md y==a1:=by
  funext y
  unfold Z255.md
  rw [Z254.br]
 rw [e]
 cases decide (a1>=0)
 ·simp
 ·simp
end Z258
namespace Z259
abbrev E (n:Nat):Env:={ T:=assoc mq,G:=dM [(106,Z242.aU),(195,Z195.aU),(196,Z250.aU),(167,Z147.aU),(197,Z258.aU)],nt:=74,M:=gj [],np:=n,I:=lS [] }
def ic (n:Nat):jU:=inl (E n) Tryz.f149
def lP (n:Nat):gC Tryz.prog Ev n 149 (ic n):=zq (mt:=false) mix aB (xF Z242.af Z195.af Z250.af Z147.af Z258.af) .nil .nil Tryz.func149 (by kernel_rfl)
end Z259
namespace Z260
inductive Pt where
 | p0 (a:Int) (b:aC) (c:Int) (d:aD) (e f:Int) (g:Bool) (h:aC) (i j:Int) (k l:Bool) (m:aC) (n o:Int) (p:Bool) (q s t:aD)
def pid:Pt->Nat
 | .p0 ..=>3
def cG:Pt->List V
 | .p0 a b c d e f g h i j k l m n o p q s t=>[.int .i64 a,.str b,.int .i64 c,.cD 0 0,.cD 1 0,.sl none 126 d,.int .i64 e,.int .i64 f,.cD 1 0]
def cX:Pt->List aW
 | .p0 a b c d e f g h i j k l m n o p q s t=>[.box [.nil,.nil,.bool g,.str h,.int .i64 i,.int .i64 j,.nil,.bool k,.nil],.box [.own 2,.own 3,.bool l,.str m,.int .i64 n,.int .i64 o,.nil,.bool p,.own 4],.row 120 q,.row 180 s,.row 3 t]
def step (J:Pt->aI):Pt->aI
 | .p0 a b c d e f g h i j k l m n o p q s t=>(cond (f<e) (m2 f (d.length:Int) (call (Z242.R (a,b,(bf.at d (toNat f)),c)) fun v1=>(call (Z195.R ((bf.at d (toNat f)).aT)) fun v2=>(cond v2 (cg ((0:Int)<((bf.at d (toNat f)).aT.length:Int)) (cond ((aY.at ((bf.at d (toNat f)).aT) 0).an.bw==a) (call (Z250.R ((⟨q,s⟩:bu),(bf.at d (toNat f)).aT)) fun v3=>(call (Z147.R (v3.2,1,3)) fun v4=>(cond v4 (call (Z258.R (v3.1,a)) fun v5=>(cond (v1==1) (cond (!(!v5)) (cg (eX (((t.length:Int)+1)*8)) (J (.p0 a b c d e (i64.wrap (f+1)) g h i j k l m n o p v3.1.aL v3.1.bp (t++[[L.int 3]])))) (cg (eX (((t.length:Int)+1)*8)) (cond (v1==1) (call (Z139.R ((bf.at d (toNat f)).aQ)) fun v6=>ret (((⟨v3.1,(bf.at d (toNat f)).bY,v6,true,(t++[[L.int v1]])⟩:dG),f):dG×Int)) (J (.p0 a b c d e (i64.wrap (f+1)) g h i j k l m n o p v3.1.aL v3.1.bp (t++[[L.int v1]])))))) (cg (eX (((t.length:Int)+1)*8)) (cond (v1==1) (call (Z139.R ((bf.at d (toNat f)).aQ)) fun v7=>ret (((⟨v3.1,(bf.at d (toNat f)).bY,v7,true,(t++[[L.int v1]])⟩:dG),f):dG×Int)) (J (.p0 a b c d e (i64.wrap (f+1)) g h i j k l m n o p v3.1.aL v3.1.bp (t++[[L.int v1]]))))))) (cond (v1==1) (cg (eX (((t.length:Int)+1)*8)) (J (.p0 a b c d e (i64.wrap (f+1)) g h i j k l m n o p v3.1.aL v3.1.bp (t++[[L.int 3]])))) (cg (eX (((t.length:Int)+1)*8)) (cond (v1==1) (call (Z139.R ((bf.at d (toNat f)).aQ)) fun v8=>ret (((⟨v3.1,(bf.at d (toNat f)).bY,v8,true,(t++[[L.int v1]])⟩:dG),f):dG×Int)) (J (.p0 a b c d e (i64.wrap (f+1)) g h i j k l m n o p v3.1.aL v3.1.bp (t++[[L.int v1]]))))))))) (call (Z147.R (6,1,3)) fun v9=>(cond v9 (call (Z258.R ((⟨q,s⟩:bu),a)) fun v10=>(cond (v1==1) (cond (!(!v10)) (cg (eX (((t.length:Int)+1)*8)) (J (.p0 a b c d e (i64.wrap (f+1)) g h i j k l m n o p q s (t++[[L.int 3]])))) (cg (eX (((t.length:Int)+1)*8)) (cond (v1==1) (call (Z139.R ((bf.at d (toNat f)).aQ)) fun v11=>ret (((⟨(⟨q,s⟩:bu),(bf.at d (toNat f)).bY,v11,true,(t++[[L.int v1]])⟩:dG),f):dG×Int)) (J (.p0 a b c d e (i64.wrap (f+1)) g h i j k l m n o p q s (t++[[L.int v1]])))))) (cg (eX (((t.length:Int)+1)*8)) (cond (v1==1) (call (Z139.R ((bf.at d (toNat f)).aQ)) fun v12=>ret (((⟨(⟨q,s⟩:bu),(bf.at d (toNat f)).bY,v12,true,(t++[[L.int v1]])⟩:dG),f):dG×Int)) (J (.p0 a b c d e (i64.wrap (f+1)) g h i j k l m n o p q s (t++[[L.int v1]]))))))) (cond (v1==1) (cg (eX (((t.length:Int)+1)*8)) (J (.p0 a b c d e (i64.wrap (f+1)) g h i j k l m n o p q s (t++[[L.int 3]])))) (cg (eX (((t.length:Int)+1)*8)) (cond (v1==1) (call (Z139.R ((bf.at d (toNat f)).aQ)) fun v13=>ret (((⟨(⟨q,s⟩:bu),(bf.at d (toNat f)).bY,v13,true,(t++[[L.int v1]])⟩:dG),f):dG×Int)) (J (.p0 a b c d e (i64.wrap (f+1)) g h i j k l m n o p q s (t++[[L.int v1]])))))))))) (call (Z147.R (6,1,3)) fun v14=>(cond v14 (call (Z258.R ((⟨q,s⟩:bu),a)) fun v15=>(cond (v1==1) (cond (!(!v15)) (cg (eX (((t.length:Int)+1)*8)) (J (.p0 a b c d e (i64.wrap (f+1)) g h i j k l m n o p q s (t++[[L.int 3]])))) (cg (eX (((t.length:Int)+1)*8)) (cond (v1==1) (call (Z139.R ((bf.at d (toNat f)).aQ)) fun v16=>ret (((⟨(⟨q,s⟩:bu),(bf.at d (toNat f)).bY,v16,true,(t++[[L.int v1]])⟩:dG),f):dG×Int)) (J (.p0 a b c d e (i64.wrap (f+1)) g h i j k l m n o p q s (t++[[L.int v1]])))))) (cg (eX (((t.length:Int)+1)*8)) (cond (v1==1) (call (Z139.R ((bf.at d (toNat f)).aQ)) fun v17=>ret (((⟨(⟨q,s⟩:bu),(bf.at d (toNat f)).bY,v17,true,(t++[[L.int v1]])⟩:dG),f):dG×Int)) (J (.p0 a b c d e (i64.wrap (f+1)) g h i j k l m n o p q s (t++[[L.int v1]]))))))) (cond (v1==1) (cg (eX (((t.length:Int)+1)*8)) (J (.p0 a b c d e (i64.wrap (f+1)) g h i j k l m n o p q s (t++[[L.int 3]])))) (cg (eX (((t.length:Int)+1)*8)) (cond (v1==1) (call (Z139.R ((bf.at d (toNat f)).aQ)) fun v18=>ret (((⟨(⟨q,s⟩:bu),(bf.at d (toNat f)).bY,v18,true,(t++[[L.int v1]])⟩:dG),f):dG×Int)) (J (.p0 a b c d e (i64.wrap (f+1)) g h i j k l m n o p q s (t++[[L.int v1]])))))))))))) (ret (((⟨(⟨q,s⟩:bu),l,(⟨m,n,o,[]⟩:bH),p,t⟩:dG),(-1)):dG×Int)))
def start (J:Pt->aI)(x0:bu)(x1:aD)(x2:Int)(x3:aC)(x4:Int):aI:=(call (Z146.R x0) fun v1=>J (.p0 x2 x3 x4 x1 x1.length 0 false ⟨#[]⟩ 0 0 false false ⟨#[]⟩ 0 0 false v1.aL v1.bp []))
def live:Nat->Live:=fL [(3,[(2,none),(3,none),(4,none),(10,none),(12,none),(18,none),(19,none),(20,none),(12,some 8388611)])]
def pats:List gN:=[.agg [.sl 120,.sl 180],.rd (.sl 126),.rd (.int .i64),.rd (.str),.rd (.int .i64)]
def res:RP:=.iL [(true,[.fr 120,.fr 180,.rd (.bool),.rd (.str),.rd (.int .i64),.rd (.int .i64),.fr 9,.rd (.bool),.fr 3]),(false,[.rd (.int .i64)])]
abbrev E:Env:={ T:=assoc mq,G:=dM [(143,Z146.aU),(150,Z139.aU)],nt:=42,M:=gj [],I:=lS [(149,Z259.ic 0)] }
def step_eq (I:cR)(p:Pt):dF E live I (pid p) (bP Tryz.f99) (gp (live (pid p)) (cG p) (cX p)) (cP E Tryz.f99 res)=step (fun q=>I (pid q) (cG q) (cX q)) p:=by
 cases p<;>kernel_rfl
def start_eq (I:cR)(ls:List L):fG E live I (bP Tryz.f99) (dJ pats ls) (cP E Tryz.f99 res)=start (fun q=>I (pid q) (cG q) (cX q)) (bu.dec ls) ((ay 2 ls).headD .hole).aS ((ay 3 ls).headD .hole).toInt ((ay 4 ls).headD .hole).toStr ((ay 5 ls).headD .hole).toInt:=by kernel_rfl
def run_eq (n:Nat)(ls:List L):fc E live Tryz.f99 res n (dJ pats ls)=start (iter step n) (bu.dec ls) ((ay 2 ls).headD .hole).aS ((ay 3 ls).headD .hole).toInt ((ay 4 ls).headD .hole).toStr ((ay 5 ls).headD .hole).toInt:=cO (id:=pid) (vs:=cG) (hs:=cX) (step:=step) (start:=fun J=>start J (bu.dec ls) ((ay 2 ls).headD .hole).aS ((ay 3 ls).headD .hole).toInt ((ay 4 ls).headD .hole).toStr ((ay 5 ls).headD .hole).toInt) step_eq (fun I=>start_eq I ls) n
def md (a0:av)(a1:List aq)(a2:Int)(a3:aC)(a4:Int):cm×Int:=(dV (S:=List (List aa)×List aF×List Int) (β:=cm×Int) (fun i1 y1 (s3:List (List aa)×List aF×List Int)=>(cond (Z195.md (y1.aT)) (cond (((y1.aT.getD 0 aa.zero).an).bw==a2) (cond (Z147.md ((Z250.md (⟨s3.1,s3.2.1⟩) (y1.aT)).2) 1 3) (cond ((Z242.md a2 a3 y1 a4)==1) (cond (!(!(Z258.md ((Z250.md (⟨s3.1,s3.2.1⟩) (y1.aT)).1) a2))) (.inl ((Z250.md (⟨s3.1,s3.2.1⟩) (y1.aT)).1.aL,(Z250.md (⟨s3.1,s3.2.1⟩) (y1.aT)).1.bp,(s3.2.2++[3]))) (cond ((Z242.md a2 a3 y1 a4)==1) (.inr ((⟨(Z250.md (⟨s3.1,s3.2.1⟩) (y1.aT)).1,y1.bY,(y1.aQ),true,(s3.2.2++[(Z242.md a2 a3 y1 a4)])⟩),i1)) (.inl ((Z250.md (⟨s3.1,s3.2.1⟩) (y1.aT)).1.aL,(Z250.md (⟨s3.1,s3.2.1⟩) (y1.aT)).1.bp,(s3.2.2++[(Z242.md a2 a3 y1 a4)]))))) (cond ((Z242.md a2 a3 y1 a4)==1) (.inr ((⟨(Z250.md (⟨s3.1,s3.2.1⟩) (y1.aT)).1,y1.bY,(y1.aQ),true,(s3.2.2++[(Z242.md a2 a3 y1 a4)])⟩),i1)) (.inl ((Z250.md (⟨s3.1,s3.2.1⟩) (y1.aT)).1.aL,(Z250.md (⟨s3.1,s3.2.1⟩) (y1.aT)).1.bp,(s3.2.2++[(Z242.md a2 a3 y1 a4)]))))) (cond ((Z242.md a2 a3 y1 a4)==1) (.inl ((Z250.md (⟨s3.1,s3.2.1⟩) (y1.aT)).1.aL,(Z250.md (⟨s3.1,s3.2.1⟩) (y1.aT)).1.bp,(s3.2.2++[3]))) (cond ((Z242.md a2 a3 y1 a4)==1) (.inr ((⟨(Z250.md (⟨s3.1,s3.2.1⟩) (y1.aT)).1,y1.bY,(y1.aQ),true,(s3.2.2++[(Z242.md a2 a3 y1 a4)])⟩),i1)) (.inl ((Z250.md (⟨s3.1,s3.2.1⟩) (y1.aT)).1.aL,(Z250.md (⟨s3.1,s3.2.1⟩) (y1.aT)).1.bp,(s3.2.2++[(Z242.md a2 a3 y1 a4)])))))) (cond (Z147.md 6 1 3) (cond ((Z242.md a2 a3 y1 a4)==1) (cond (!(!(Z258.md (⟨s3.1,s3.2.1⟩) a2))) (.inl (s3.1,s3.2.1,(s3.2.2++[3]))) (cond ((Z242.md a2 a3 y1 a4)==1) (.inr ((⟨(⟨s3.1,s3.2.1⟩),y1.bY,(y1.aQ),true,(s3.2.2++[(Z242.md a2 a3 y1 a4)])⟩),i1)) (.inl (s3.1,s3.2.1,(s3.2.2++[(Z242.md a2 a3 y1 a4)]))))) (cond ((Z242.md a2 a3 y1 a4)==1) (.inr ((⟨(⟨s3.1,s3.2.1⟩),y1.bY,(y1.aQ),true,(s3.2.2++[(Z242.md a2 a3 y1 a4)])⟩),i1)) (.inl (s3.1,s3.2.1,(s3.2.2++[(Z242.md a2 a3 y1 a4)]))))) (cond ((Z242.md a2 a3 y1 a4)==1) (.inl (s3.1,s3.2.1,(s3.2.2++[3]))) (cond ((Z242.md a2 a3 y1 a4)==1) (.inr ((⟨(⟨s3.1,s3.2.1⟩),y1.bY,(y1.aQ),true,(s3.2.2++[(Z242.md a2 a3 y1 a4)])⟩),i1)) (.inl (s3.1,s3.2.1,(s3.2.2++[(Z242.md a2 a3 y1 a4)]))))))) (cond (Z147.md 6 1 3) (cond ((Z242.md a2 a3 y1 a4)==1) (cond (!(!(Z258.md (⟨s3.1,s3.2.1⟩) a2))) (.inl (s3.1,s3.2.1,(s3.2.2++[3]))) (cond ((Z242.md a2 a3 y1 a4)==1) (.inr ((⟨(⟨s3.1,s3.2.1⟩),y1.bY,(y1.aQ),true,(s3.2.2++[(Z242.md a2 a3 y1 a4)])⟩),i1)) (.inl (s3.1,s3.2.1,(s3.2.2++[(Z242.md a2 a3 y1 a4)]))))) (cond ((Z242.md a2 a3 y1 a4)==1) (.inr ((⟨(⟨s3.1,s3.2.1⟩),y1.bY,(y1.aQ),true,(s3.2.2++[(Z242.md a2 a3 y1 a4)])⟩),i1)) (.inl (s3.1,s3.2.1,(s3.2.2++[(Z242.md a2 a3 y1 a4)]))))) (cond ((Z242.md a2 a3 y1 a4)==1) (.inl (s3.1,s3.2.1,(s3.2.2++[3]))) (cond ((Z242.md a2 a3 y1 a4)==1) (.inr ((⟨(⟨s3.1,s3.2.1⟩),y1.bY,(y1.aQ),true,(s3.2.2++[(Z242.md a2 a3 y1 a4)])⟩),i1)) (.inl (s3.1,s3.2.1,(s3.2.2++[(Z242.md a2 a3 y1 a4)])))))))) (fun (s3:List (List aa)×List aF×List Int)=>((⟨(⟨s3.1,s3.2.1⟩),false,(⟨(⟨#[]⟩:aC),0,0,[]⟩),false,s3.2.2⟩),(-1))) 0 a1 (a0.aL,a0.bp,[]))
def gd (a0:av)(a1:List aq)(a2:Int)(a3:aC)(a4:Int):Prop:=(av.Sm (2^21) a0)/\(bO (2^21) (fun y:aq=>aq.Sm (2^21) y) a1)/\(a3.size<=(2^21))
def acc (ls:List L):bu×aD×Int×aC×Int:=((bu.dec ls),((ay 2 ls).headD .hole).aS,((ay 3 ls).headD .hole).toInt,((ay 4 ls).headD .hole).toStr,((ay 5 ls).headD .hole).toInt)
def R:(bu×aD×Int×aC×Int)->Option (dG×Int):=RR (p5 gd) (u5 md)
def aj {a0 a1 a2 a3 a4}(h:gd a0 a1 a2 a3 a4):R ((av.r a0),(a1.map aq.row),a2,a3,a4)=some ((cm.r (md a0 a1 a2 a3 a4).1),(md a0 a1 a2 a3 a4).2):=wz h
def aU:fY:=CN pats res acc R
def bh (a0:av)(a1:List aq)(a2:Int)(a3:aC)(a4:Int)(hg:gd a0 a1 a2 a3 a4):∃n,start (iter step n) (av.r a0) (a1.map aq.row) a2 a3 a4=ret (((cm.r (md a0 a1 a2 a3 a4).1),(md a0 a1 a2 a3 a4).2):dG×Int):=by
 obtain ⟨H0,H1,H3⟩:=hg
 refine cx (Z146.aj H0) ?_
 have Bh2:=bl H1
 refine ex_eq (out:=(fun b:cm×Int=>ret (((cm.r b.1),b.2):dG×Int))) (cW (z:=aq.zero)) (dW (p:=Pt.p0 a2 a3 a4 (a1.map aq.row) (a1.length:Int) 0 false (⟨#[]⟩:aC) 0 0 false false (⟨#[]⟩:aC) 0 0 false (a0.aL.map (eg aa.row)) (a0.bp.map aF.row) ([].map bk)) fz ?_)
 refine cq (pt:=fun (i1:Nat) (s3:List (List aa)×List aF×List Int)=>Pt.p0 a2 a3 a4 (a1.map aq.row) (a1.length:Int) (i1:Int) false (⟨#[]⟩:aC) 0 0 false false (⟨#[]⟩:aC) 0 0 false (s3.1.map (eg aa.row)) (s3.2.1.map aF.row) (s3.2.2.map bk)) (s:=((a0.aL,a0.bp,[]):List (List aa)×List aF×List Int)) (out:=(fun b:cm×Int=>ret (((cm.r b.1),b.2):dG×Int))) (fun (i1:Nat) (s3:List (List aa)×List aF×List Int)=>av.Sm (2^21) (⟨s3.1,s3.2.1⟩:av)/\s3.2.2.length<=i1) (fun J i1 s3 h2 hih2=>?_) (fun s3 hih2=>?_) ⟨H0,zero_le _⟩
 ·simp only [step,SS]
  have:=(H1).1
  refine bq.yes dt (bq.yes aK ?_)
  refine bq.yes (aP h2) (cr (Z242.aj ⟨H3,(bO.getD H1 h2)⟩) ?_)
  refine cr (Z195.aj (bO.getD H1 h2).1) (bq.bif (fun c4=>?_) (fun c4=>?_))
  ·have tc4:=Z195.tr (by simpa using c4)
   refine bq.yes (have:=((bO.getD (z:=aq.zero) H1 h2).1).1;dt) (bq.bif (fun c5=>?_) (fun c5=>?_))
   ·refine cr (Z250.aj ⟨⟨hih2.1.1,hih2.1.2⟩,(bO.getD H1 h2).1⟩) (cr (Z147.aj trivial) ?_)
    refine bq.bif (fun c6=>?_) (fun c6=>?_)
    ·refine cr (Z258.aj (Z250.iF ⟨⟨hih2.1.1,hih2.1.2⟩,(bO.getD H1 h2).1⟩)) (bq.bif (fun c7=>?_) (fun c7=>?_))
     ·refine bq.bif (fun c8=>?_) (fun c8=>?_)
      ·refine bq.yes lm (bq.inl (⟨Z250.iF ⟨hih2.1,(bO.getD H1 h2).1⟩,oM hih2.2⟩) ?_)
       rw [aJ h2 Bh2]
       exact fz
      ·refine bq.yes lm (bq.bif (fun c9=>?_) (fun c9=>?_))
       ·refine cr (Z139.aj (bO.getD H1 h2).2.1) (bq.inr ?_)
        exact fz
       ·refine bq.inl (⟨Z250.iF ⟨hih2.1,(bO.getD H1 h2).1⟩,oM hih2.2⟩) ?_
        rw [aJ h2 Bh2]
        exact fz
     ·refine bq.yes lm (bq.bif (fun c10=>?_) (fun c10=>?_))
      ·refine cr (Z139.aj (bO.getD H1 h2).2.1) (bq.inr ?_)
       exact fz
      ·refine bq.inl (⟨Z250.iF ⟨hih2.1,(bO.getD H1 h2).1⟩,oM hih2.2⟩) ?_
       rw [aJ h2 Bh2]
       exact fz
    ·refine bq.bif (fun c11=>?_) (fun c11=>?_)
     ·refine bq.yes lm (bq.inl (⟨Z250.iF ⟨hih2.1,(bO.getD H1 h2).1⟩,oM hih2.2⟩) ?_)
      rw [aJ h2 Bh2]
      exact fz
     ·refine bq.yes lm (bq.bif (fun c12=>?_) (fun c12=>?_))
      ·refine cr (Z139.aj (bO.getD H1 h2).2.1) (bq.inr ?_)
       exact fz
      ·refine bq.inl (⟨Z250.iF ⟨hih2.1,(bO.getD H1 h2).1⟩,oM hih2.2⟩) ?_
       rw [aJ h2 Bh2]
       exact fz
   ·refine cr (Z147.aj trivial) (bq.bif (fun c13=>?_) (fun c13=>?_))
    ·refine cr (Z258.aj ⟨hih2.1.1,hih2.1.2⟩) (bq.bif (fun c14=>?_) (fun c14=>?_))
     ·refine bq.bif (fun c15=>?_) (fun c15=>?_)
      ·refine bq.yes lm (bq.inl (⟨hih2.1,oM hih2.2⟩) ?_)
       rw [aJ h2 Bh2]
       exact fz
      ·refine bq.yes lm (bq.bif (fun c16=>?_) (fun c16=>?_))
       ·refine cr (Z139.aj (bO.getD H1 h2).2.1) (bq.inr ?_)
        exact fz
       ·refine bq.inl (⟨hih2.1,oM hih2.2⟩) ?_
        rw [aJ h2 Bh2]
        exact fz
     ·refine bq.yes lm (bq.bif (fun c17=>?_) (fun c17=>?_))
      ·refine cr (Z139.aj (bO.getD H1 h2).2.1) (bq.inr ?_)
       exact fz
      ·refine bq.inl (⟨hih2.1,oM hih2.2⟩) ?_
       rw [aJ h2 Bh2]
       exact fz
    ·refine bq.bif (fun c18=>?_) (fun c18=>?_)
     ·refine bq.yes lm (bq.inl (⟨hih2.1,oM hih2.2⟩) ?_)
      rw [aJ h2 Bh2]
      exact fz
     ·refine bq.yes lm (bq.bif (fun c19=>?_) (fun c19=>?_))
      ·refine cr (Z139.aj (bO.getD H1 h2).2.1) (bq.inr ?_)
       exact fz
      ·refine bq.inl (⟨hih2.1,oM hih2.2⟩) ?_
       rw [aJ h2 Bh2]
       exact fz
  ·refine cr (Z147.aj trivial) (bq.bif (fun c20=>?_) (fun c20=>?_))
   ·refine cr (Z258.aj ⟨hih2.1.1,hih2.1.2⟩) (bq.bif (fun c21=>?_) (fun c21=>?_))
    ·refine bq.bif (fun c22=>?_) (fun c22=>?_)
     ·refine bq.yes lm (bq.inl (⟨hih2.1,oM hih2.2⟩) ?_)
      rw [aJ h2 Bh2]
      exact fz
     ·refine bq.yes lm (bq.bif (fun c23=>?_) (fun c23=>?_))
      ·refine cr (Z139.aj (bO.getD H1 h2).2.1) (bq.inr ?_)
       exact fz
      ·refine bq.inl (⟨hih2.1,oM hih2.2⟩) ?_
       rw [aJ h2 Bh2]
       exact fz
    ·refine bq.yes lm (bq.bif (fun c24=>?_) (fun c24=>?_))
     ·refine cr (Z139.aj (bO.getD H1 h2).2.1) (bq.inr ?_)
      exact fz
     ·refine bq.inl (⟨hih2.1,oM hih2.2⟩) ?_
      rw [aJ h2 Bh2]
      exact fz
   ·refine bq.bif (fun c25=>?_) (fun c25=>?_)
    ·refine bq.yes lm (bq.inl (⟨hih2.1,oM hih2.2⟩) ?_)
     rw [aJ h2 Bh2]
     exact fz
    ·refine bq.yes lm (bq.bif (fun c26=>?_) (fun c26=>?_))
     ·refine cr (Z139.aj (bO.getD H1 h2).2.1) (bq.inr ?_)
      exact fz
     ·refine bq.inl (⟨hih2.1,oM hih2.2⟩) ?_
      rw [aJ h2 Bh2]
      exact fz
 ·simp only [step,SS]
  refine dH dn (⟨0,?_⟩)
  exact fz
def af:cC 99 aU:=VI (mt:=false) (run:=fun n x=>start (iter step n) x.1 x.2.1 x.2.2.1 x.2.2.2.1 x.2.2.2.2) mix aB (eM Z146.af Z139.af) .nil (.cons (Z259.lP 0) .nil) Tryz.func99 (by kernel_rfl) run_eq (fun _ a _ _ hg=>bh a.1 a.2.1 a.2.2.1 a.2.2.2.1 a.2.2.2.2 hg)
def nR (a0:av)(a1:List aq)(a2:Int)(a3:aC)(a4:Int):md a0 a1 a2 a3 a4=dV (fun i y s=>(Z126.pW a2 a3 a4 y s).map id (fun b=>(b,(i:Int)))) (fun s=>(Z126.fin s,-1)) 0 a1 (a0.aL,a0.bp,[]):=by
 refine mH (fun i y _ s=>?_) (fun s=>rfl)
 have h31:((3:Int)==1)=false:=rfl
 have h61:((6:Int)==1)=false:=rfl
 have h62:((6:Int)==2)=false:=rfl
 have h63:((6:Int)==3)=false:=rfl
 have hin:∀n:Int,Z147.md n 1 3=(n==1||(n==2||n==3)):=fun n=>by
  unfold Z147.md
  rw [Bool.eq_iff_iff];simp;omega
 simp only [Z242.br,Z195.br,Z250.br,Z258.br,hin]
 unfold Z126.pW Z126.nH
 cases g1:Z78.md y.aT
 ·have e:(Z79.md y.aT).2=false:=by unfold Z79.md;rw [g1];rfl
  cases g2:(Z121.md a2 a3 y a4==1)<;>simp [e,g2,h31,h61,h62,h63,Sum.map]
 have hl:=Z78.tr g1
 have e:(Z79.md y.aT).2=true:=by unfold Z79.md;rw [g1];rfl
 have e2:(Z79.md y.aT).1.bw=(y.aT.getD 0 aa.zero).an.bw:=by
  have hi:toNat (i64.wrap ((y.aT.length:Int) - 1))=y.aT.length - 1:=by simp (disch:=omega) only [wi];omega
  have:=Z78.Ck g1 (y.aT.length - 1) (by omega)
  unfold Z79.md
  rw [g1,hi]
  exact this
 rw [e2,e]
 cases g3:((y.aT.getD 0 aa.zero).an.bw==a2)
 ·cases g2:(Z121.md a2 a3 y a4==1)<;>simp [g2,h31,h61,h62,h63,Sum.map]
 generalize Z110.md (⟨s.1,s.2.1⟩:av) y.aT=r
 cases g2:(Z121.md a2 a3 y a4==1)<;>cases g4:(r.2==1)<;>cases g5:(r.2==2)<;>cases g6:(r.2==3)<;>cases g7:Z125.md r.1 a2<;>simp [g2,g4,g5,g6,g7,h31,Sum.map]
def Dy (a0:av)(a1:List aq)(a2:Int)(a3:aC)(a4:Int):(md a0 a1 a2 a3 a4).1=Z126.md a0 a1 a2 a3 a4:=by
 rw [nR,Z126.nR]
 exact rJ (fun i y s=>by cases Z126.pW a2 a3 a4 y s<;>rfl) (fun s=>rfl) a1 0 _
end Z260
namespace Z261
def F (x0:cu)(x1:Int)(x2:aC)(x3:bf)(x4:Int):aI:=(call (Z144.R x0) fun v1=>(call (Z242.R (x1,x2,x3,x4)) fun v2=>(cond (v2 != 1) (ret v1) (call (Z142.R x3) fun v3=>(call (Z155.R (x0,x1,x2)) fun v4=>(cond (v4>=0) (m2 v4 v1.aN.length (ret ((⟨(List.set v1.aN (toNat v4) (bZ.enc (⟨x1,x2,v3⟩)))⟩):cu))) (cond ((x0.aN.length:Int)<16) (cg (eX ((v1.aN.length+1)*328)) (ret ((⟨(v1.aN++[(bZ.enc (⟨x1,x2,v3⟩))])⟩):cu))) (ret v1))))))))
def md (a0:aG)(a1:Int)(a2:aC)(a3:aq)(a4:Int):aG:=(cond ((Z242.md a1 a2 a3 a4) != 1) a0 (cond ((Z155.md a0 a1 a2)>=0) (⟨(List.set a0.aN (toNat (Z155.md a0 a1 a2)) (⟨a1,a2,a3⟩))⟩) (cond ((a0.aN.length:Int)<16) (⟨(a0.aN++[(⟨a1,a2,a3⟩)])⟩) a0)))
def gd (a0:aG)(a1:Int)(a2:aC)(a3:aq)(a4:Int):Prop:=(aG.Sm (2^21) a0)/\(a2.size<=(2^21))/\(aq.Sm (2^21) a3)
def R:=RR (p5 gd) (u5 md)
def aj {a0 a1 a2 a3 a4}(h:gd a0 a1 a2 a3 a4):R ((aG.r a0),a1,a2,(aq.r a3),a4)=some (aG.r (md a0 a1 a2 a3 a4)):=wz h
def aU:=CN [.agg xV,pI,pS,.agg sJ,pI] (.agg f46) RT.dec R
def bh (a0)(a1)(a2)(a3)(a4)(hg:gd a0 a1 a2 a3 a4):F (aG.r a0) a1 a2 (aq.r a3) a4=ret (aG.r (md a0 a1 a2 a3 a4)):=by
 obtain ⟨H0,H2,H3⟩:=hg
 refine ct (Z144.aj H0) (ct (Z242.aj ⟨H2,H3⟩) ?_)
 refine bo (fun c1=>fz) (fun c1=>?_)
 refine ct (Z142.aj H3) ?_
 simp only [SS]
 refine ct (Z155.aj H0) ?_
 have fv4_:=Z155.fa a0 a1 a2
 refine bo (fun c2=>?_) (fun c2=>?_)
 ·have dc2:=c2
  simp only [DC] at dc2
  refine ak dt (ak dt ?_)
  exact fz
 ·refine bo (fun c3=>?_) (fun c3=>fz)
  have dc3:=c3
  simp only [DC] at dc3
  exact ak lm fz
def af:cC 100 aU:=W5 50 F mix aB bh (kP Z144.af Z242.af Z142.af Z155.af) Tryz.func100
def br (a0:aG)(a1:Int)(a2:aC)(a3:aq)(a4:Int):md a0 a1 a2 a3 a4=Z127.md a0 a1 a2 a3 a4:=by
 unfold md Z127.md
 simp only [Z242.br,Z155.br]
end Z261
namespace Z262
def F (x0:aD)(x1:bu)(x2:Int)(x3:aC)(x4 x5:List L):aI:=(call (Z156.R ((⟨x0⟩),x2,x3)) fun v1=>(call (Z228.R ((nC x4),x2,x3)) fun v2=>(cg (eX (((1:Int)+v2.length)*304)) (call (Z260.R (x1,([(bf.enc v1)]++v2),x2,x3,(fU x5))) fun v3=>(cond (v3.2>=0) (cg ((0:Int)<=v3.2) (cg (v3.2<(([(bf.enc v1)]++v2).length)) (call (Z261.R ((⟨x0⟩),x2,x3,(bf.at ([(bf.enc v1)]++v2) (toNat v3.2)),(fU x5))) fun v4=>ret ((v4.aN,v3.1):aD×dG)))) (ret ((x0,v3.1):aD×dG)))))))
def pats:List lT:=[.rd (.agg [.sl 120,.sl 180]),.rd (.rd (.int .i64)),.rd (.rd (.str)),.box,.rd (.ptr [.sl 138]),.rd (.ptr [au])]
def res:RP:=.agg [.fr 120,.fr 180,.rd (.bool),.rd (.str),.rd (.int .i64),.rd (.int .i64),.fr 9,.rd (.bool),.fr 3]
abbrev E:Env:={ T:=assoc mq,G:=dM [(97,Z156.aU),(98,Z228.aU),(99,Z260.aU),(100,Z261.aU)],nt:=44,M:=gj [],np:=1,I:=lS [] }
def run_eq (n:Nat)(ls:List L):fc E (fun _=>[]) Tryz.f96 (.sQ 148 res.parts) n (tC 148 pats ls)=F (ls.headD .hole).aS (bu.dec (ay 1 ls)) ((ay 3 ls).headD .hole).toInt ((ay 4 ls).headD .hole).toStr (cE 1 (ay 5 ls)) (cE 1 (ay 6 ls)):=by kernel_rfl
def ix (z:Int)(l:aC)(now:Int):∀(xs:List aq) (i:Nat) (s:List (List aa)×List aF×List Int),s.2.2.length=i->
  (dV (fun i y s=>(Z126.pW z l now y s).map id (fun b=>(b,(i:Int)))) (fun s=>(Z126.fin s,-1)) i xs s).2=bif (dV (fun i y s=>(Z126.pW z l now y s).map id (fun b=>(b,(i:Int)))) (fun s=>(Z126.fin s,-1)) i xs s).1.gU then (((dV (fun i y s=>(Z126.pW z l now y s).map id (fun b=>(b,(i:Int)))) (fun s=>(Z126.fin s,-1)) i xs s).1.fK.length - 1:Nat):Int) else -1
 | [],i,s,h=>by unfold dV Z126.fin;rfl
 | y::xs,i,s,h=>by
  unfold dV
  cases hb:Z126.pW z l now y s with
  | inl s'=>
   refine ix z l now xs (i+1) s' ?_
   unfold Z126.pW at hb
   revert hb
   cases ((Z126.nH z l now y ⟨s.1,s.2.1⟩).2==1)
   ·intro hb
    injection hb with hb
    subst hb
    simp [h]
   ·intro hb;cases hb
  | inr b=>
   unfold Z126.pW at hb
   revert hb
   cases ((Z126.nH z l now y ⟨s.1,s.2.1⟩).2==1)
   ·intro hb;cases hb
   ·intro hb
    injection hb with hb
    subst hb
    simp [Sum.map,h]
def DE (k:av)(xs:List aq)(z:Int)(l:aC)(now:Int):(Z260.md k xs z l now).2=bif (Z126.md k xs z l now).gU then (((Z126.md k xs z l now).fK.length - 1:Nat):Int) else -1:=by
 rw [<-Z260.Dy,Z260.nR]
 exact ix z l now xs 0 _ rfl
def md (a0:List aA)(a1:av)(a2:Int)(a3:aC)(a4:List aR)(a5:Int):List aA×cm:=((Z130.lk a4 a5 ⟨a0⟩ a1 a2 a3).2.aN,(Z130.lk a4 a5 ⟨a0⟩ a1 a2 a3).1)
def gd (a0:List aA)(a1:av)(a2:Int)(a3:aC)(a4:List aR)(a5:Int):Prop:=(aG.Sm (2^21) ⟨a0⟩)/\(av.Sm (2^21) a1)/\(a3.size<=(2^21))/\(bO (2^21) (fun y:aR=>aR.Sm (2^21) y) a4)
def acc (ls:List L):aD×bu×Int×aC×aD×Int:=((ls.headD .hole).aS,(bu.dec (ay 1 ls)),((ay 3 ls).headD .hole).toInt,((ay 4 ls).headD .hole).toStr,(nC (cE 1 (ay 5 ls))),(fU (cE 1 (ay 6 ls))))
def R:(aD×bu×Int×aC×aD×Int)->Option (aD×dG):=RR (p6 gd) (u6 md)
def aj {a0 a1 a2 a3 a4 a5}(h:gd a0 a1 a2 a3 a4 a5):R ((a0.map aA.row),(av.r a1),a2,a3,(a4.map aR.row),a5)=some (((md a0 a1 a2 a3 a4 a5).1.map aA.row),(cm.r (md a0 a1 a2 a3 a4 a5).2)):=AL h
def aU:pY:=ON pats 148 res acc R
def bh (a0:List aA)(a1:av)(a2:Int)(a3:aC)(a4:List aR)(a5:Int)(p4 p5:List L)(e4:(a4.map aR.row)=(nC p4))(e5:a5=(fU p5))(hg:gd a0 a1 a2 a3 a4 a5):F (a0.map aA.row) (av.r a1) a2 a3 p4 p5=ret ((((md a0 a1 a2 a3 a4 a5).1.map aA.row),(cm.r (md a0 a1 a2 a3 a4 a5).2)):aD×dG):=by
 obtain ⟨HC,HK,HL,HS⟩:=hg
 have hans:=Z130.xE (z:=a2) HC HS HL
 have h4:=Z104.A4 a4 a2 a3
 have hrow:[bf.enc (aq.r (Z53.md ⟨a0⟩ a2 a3))]++(Z104.md a4 a2 a3).map aq.row=(Z130.bN a4 ⟨a0⟩ a2 a3).map aq.row:=rfl
 have r1:=Z156.aj (a1:=a2) (a2:=a3) HC
 rw [Z156.br] at r1
 have r2:=Z228.aj (a1:=a2) ⟨HS,HL⟩
 rw [Z228.br] at r2
 have r3:=Z260.aj (a2:=a2) (a4:=a5) ⟨HK,hans,HL⟩
 rw [Z260.Dy,DE] at r3
 unfold F md
 rw [<-e4,<-e5]
 refine aX _ r1 (aX _ r2 ?_)
 rw [hrow]
 simp only [List.length_map]
 refine ak (iJ (by omega)) (aX _ r3 ?_)
 unfold Z130.lk
 have hd2:=Z130.Dx (k:=a1) (xs:=Z130.bN a4 ⟨a0⟩ a2 a3) (z:=a2) (l:=a3) (now:=a5)
 generalize Z126.md a1 (Z130.bN a4 ⟨a0⟩ a2 a3) a2 a3 a5=l at hd2 ⊢
 cases hd:l.gU
 ·refine cY (by apply decide_eq_false;simp) ?_
  rfl
 ·obtain ⟨d1,d2⟩:=hd2 hd
  simp only [aZ]
  refine ak dt (ak dt (ak dt ?_))
  have hat2:bf.at ((Z130.bN a4 ⟨a0⟩ a2 a3).map aq.row) (toNat ((l.fK.length - 1:Nat):Int))=((Z130.bN a4 ⟨a0⟩ a2 a3).getD (l.fK.length - 1) aq.zero).r:=aq.dN
  have hke:=Z261.aj (a1:=a2) (a3:=(Z130.bN a4 ⟨a0⟩ a2 a3).getD (l.fK.length - 1) aq.zero) (a4:=a5) ⟨HC,HL,bO.sZ hans Z130.az⟩
  rw [Z261.br,<-hat2] at hke
  refine aX _ hke ?_
  rfl
def oF (ls:List L)(a:List aA×av×Int×aC×List aR×Int)(e:acc ls=Im.im a)(hg:(p6 gd) a):∃n:Nat,F ((ls.headD .hole).aS) (bu.dec (ay 1 ls)) (((ay 3 ls).headD .hole).toInt) (((ay 4 ls).headD .hole).toStr) (cE 1 (ay 5 ls)) (cE 1 (ay 6 ls))=ret (Im.im ((u6 md) a)):=by
 have e0:(a.1.map aA.row)=(ls.headD .hole).aS:=(congrArg (fun x=>x.1) e.symm)
 have e1:(av.r a.2.1)=(bu.dec (ay 1 ls)):=(congrArg (fun x=>x.2.1) e.symm)
 have e2:a.2.2.1=((ay 3 ls).headD .hole).toInt:=(congrArg (fun x=>x.2.2.1) e.symm)
 have e3:a.2.2.2.1=((ay 4 ls).headD .hole).toStr:=(congrArg (fun x=>x.2.2.2.1) e.symm)
 have hn:=bh a.1 a.2.1 a.2.2.1 a.2.2.2.1 a.2.2.2.2.1 a.2.2.2.2.2 (cE 1 (ay 5 ls)) (cE 1 (ay 6 ls)) (congrArg (fun x=>x.2.2.2.2.1) e.symm) (congrArg (fun x=>x.2.2.2.2.2) e.symm) hg
 refine ⟨0,?_⟩
 rw [<-e0,<-e1,<-e2,<-e3]
 exact hn
def af:ot Tryz.prog Ev 96 aU:=VO (mt:=false) (accr:=fun ls=>((ls.headD .hole).aS,(bu.dec (ay 1 ls)),((ay 3 ls).headD .hole).toInt,((ay 4 ls).headD .hole).toStr,(cE 1 (ay 5 ls)),(cE 1 (ay 6 ls)))) (run:=fun _ x=>F x.1 x.2.1 x.2.2.1 x.2.2.2.1 x.2.2.2.2.1 x.2.2.2.2.2) mix aB (kP Z156.af Z228.af Z260.af Z261.af) .nil .nil Tryz.func96 (by kernel_rfl) run_eq (fun ls a e hg=>oF ls a e hg)
def ic (_:Nat):jU:=uI Ev aU
def lP (n:Nat):gC Tryz.prog Ev n 96 (ic n):=rZ af
end Z262
namespace Z263
abbrev E (n:Nat):Env:={ T:=assoc mq,G:=dM [(189,Z138.aU),(144,Z152.aU),(150,Z139.aU)],nt:=83,M:=gj [],np:=n,I:=lS [] }
def ic (n:Nat):jU:=inl (E n) Tryz.f145
def lP (n:Nat):gC Tryz.prog Ev n 145 (ic n):=zq (mt:=false) mix aB (jS Z138.af Z152.af Z139.af) .nil .nil Tryz.func145 (by kernel_rfl)
end Z263
namespace Z264
inductive Pt where
 | p0 (a:aD) (b c:List L) (d e:Int) (f:aC) (g h i j:Int) (k:aC) (l m n:Int) (o p q s t:aD)
def pid:Pt->Nat
 | .p0 ..=>6
def cG:Pt->List V
 | .p0 a b c d e f g h i j k l m n o p q s t=>[.sl none 9 a,.fn 96 [.cD 0 0,.dL none [.sl 138] b 0,.dL none [au] c 0],.cD 1 0,.cD 2 0,.int .i64 d,.cD 2 0,.cD 2 0]
def cX:Pt->List aW
 | .p0 a b c d e f g h i j k l m n o p q s t=>[.box [.own 3],.box [.nil,.nil,.int .i64 e,.str f,.int .i64 g,.int .i64 h,.nil,.nil,.int .i64 i],.box [.own 4,.own 5,.int .i64 j,.str k,.int .i64 l,.int .i64 m,.own 6,.own 7,.int .i64 n],.row 148 o,.row 120 p,.row 180 q,.row 9 s,.row 3 t]
def step (J:Pt->aI):Pt->aI
 | .p0 a b c d e f g h i j k l m n o p q s t=>(cond (j==0) (cg ((0:Int)<(a.length:Int)) (call (Z262.R (o,(⟨p,q⟩:bu),d,(qA a 0),(nC b),(fU c))) fun v1=>(cg (eX (((t.length:Int)+1)*8)) (cg ((1:Int)<=(a.length:Int)) (cg ((a.length:Int)<=(a.length:Int)) (cond (!v1.2.gU) (J (.p0 [] b c 0 e f g h i 3 k l m n v1.1 v1.2.bV.aL v1.2.bV.bp s (t++[[L.int d]]))) (cond (!v1.2.bY) (J (.p0 [] b c 0 e f g h i 2 k l m n v1.1 v1.2.bV.aL v1.2.bV.bp s (t++[[L.int d]]))) (cond (v1.2.aQ.bI==3) (call (Z138.R v1.2.aQ.bz) fun v2=>(cg (eX (((v2.length:Int)+((List.take (toNat ((a.length:Int) - 1)) (List.drop 1 a)).length:Int))*16)) (cond (n>=3) (J (.p0 [] b c 0 e f g h i 5 k l m n v1.1 v1.2.bV.aL v1.2.bV.bp s (t++[[L.int d]]))) (call (Z152.R (v2++(List.take (toNat ((a.length:Int) - 1)) (List.drop 1 a)))) fun v3=>(cond (!v3) (J (.p0 [] b c 0 e f g h i 5 k l m n v1.1 v1.2.bV.aL v1.2.bV.bp s (t++[[L.int d]]))) (J (.p0 (v2++(List.take (toNat ((a.length:Int) - 1)) (List.drop 1 a))) b c v1.2.aQ.bX e f g h i j k l m (i64.wrap (n+1)) v1.1 v1.2.bV.aL v1.2.bV.bp s (t++[[L.int d]])))))))) (cond (((List.take (toNat ((a.length:Int) - 1)) (List.drop 1 a)).length:Int)==0) (call (Z139.R v1.2.aQ) fun v4=>J (.p0 [] b c 0 e f g h i 1 v4.aV v4.bI v4.bX n v1.1 v1.2.bV.aL v1.2.bV.bp v4.bz (t++[[L.int d]]))) (cond (v1.2.aQ.bI==2) (J (.p0 (List.take (toNat ((a.length:Int) - 1)) (List.drop 1 a)) b c v1.2.aQ.bX e f g h i j k l m n v1.1 v1.2.bV.aL v1.2.bV.bp s (t++[[L.int d]]))) (J (.p0 [] b c 0 e f g h i 4 k l m n v1.1 v1.2.bV.aL v1.2.bV.bp s (t++[[L.int d]]))))))))))))) (ret ((o,(⟨(⟨p,q⟩:bu),j,(⟨k,l,m,s⟩:bH),t,n⟩:dD)):aD×dD)))
def start (J:Pt->aI)(x0:aD)(x1:bu)(x2:Int)(x3:aD)(x4 x5:List L):aI:=(call (Z146.R x1) fun v1=>(call (Z152.R x3) fun v2=>(cond (!v2) (ret ((x0,(⟨v1,6,(⟨(⟨#[]⟩:aC),0,0,[]⟩),[],0⟩)):aD×dD)) (J (.p0 x3 x4 x5 x2 0 ⟨#[]⟩ 0 0 0 0 ⟨#[]⟩ 0 0 0 x0 v1.aL v1.bp [] [])))))
def live:Nat->Live:=fL [(6,[(2,some 1099511627785),(3,none),(8,none),(9,none),(10,none),(9,some 6291465),(9,some 7340035)])]
def pats:List lT:=[.rd (.agg [.sl 120,.sl 180]),.rd (.rd (.int .i64)),.rd (.rd (.sl 9)),.fn 96 [none,some [.sl 138],some [au]]]
def res:RP:=.agg [.fr 120,.fr 180,.rd (.int .i64),.rd (.str),.rd (.int .i64),.rd (.int .i64),.fr 9,.fr 3,.rd (.int .i64)]
abbrev E:Env:={ T:=assoc mq,G:=dM [(143,Z146.aU),(144,Z152.aU)],nt:=48,M:=gj [],np:=1,I:=lS [(96,Z262.ic 1),(145,Z263.ic 1)],J:=[24] }
def step_eq (I:cR)(p:Pt):dF E live I (pid p) (bP Tryz.f95) (gp (live (pid p)) (cG p) (cX p)) (cP E Tryz.f95 (.sQ 148 res.parts))=step (fun q=>I (pid q) (cG q) (cX q)) p:=by
 cases p<;>kernel_rfl
def start_eq (I:cR)(ls:List L):fG E live I (bP Tryz.f95) (tC 148 pats ls) (cP E Tryz.f95 (.sQ 148 res.parts))=start (fun q=>I (pid q) (cG q) (cX q)) (ls.headD .hole).aS (bu.dec (ay 1 ls)) ((ay 3 ls).headD .hole).toInt ((ay 4 ls).headD .hole).aS (cE 1 (ay 5 ls)) (cE 1 (ay 6 ls)):=by kernel_rfl
def run_eq (n:Nat)(ls:List L):fc E live Tryz.f95 (.sQ 148 res.parts) n (tC 148 pats ls)=start (iter step n) (ls.headD .hole).aS (bu.dec (ay 1 ls)) ((ay 3 ls).headD .hole).toInt ((ay 4 ls).headD .hole).aS (cE 1 (ay 5 ls)) (cE 1 (ay 6 ls)):=cO (id:=pid) (vs:=cG) (hs:=cX) (step:=step) (start:=fun J=>start J (ls.headD .hole).aS (bu.dec (ay 1 ls)) ((ay 3 ls).headD .hole).toInt ((ay 4 ls).headD .hole).aS (cE 1 (ay 5 ls)) (cE 1 (ay 6 ls))) step_eq (fun I=>start_eq I ls) n
def md (a0:List aA)(a1:av)(a2:Int)(a3:List aC)(a4:List aR)(a5:Int):List aA×bF:=(cond (!Z152.md a3) (a0,⟨a1,6,⟨⟨#[]⟩,0,0,[]⟩,[],0⟩) ((Z130.rs (Z130.lk a4 a5) 17 ⟨a0⟩ a1 [] 0 a2 a3).2.aN,(Z130.rs (Z130.lk a4 a5) 17 ⟨a0⟩ a1 [] 0 a2 a3).1))
def gd (a0:List aA)(a1:av)(a2:Int)(a3:List aC)(a4:List aR)(a5:Int):Prop:=(aG.Sm (2^21) ⟨a0⟩)/\(av.Sm (2^21) a1)/\(bO (2^21) (fun y:aC=>y.size<=(2^21)) a3)/\(bO (2^21) (fun y:aR=>aR.Sm (2^21) y) a4)
def acc (ls:List L):aD×bu×Int×aD×aD×Int:=((ls.headD .hole).aS,(bu.dec (ay 1 ls)),((ay 3 ls).headD .hole).toInt,((ay 4 ls).headD .hole).aS,(nC (cE 1 (ay 5 ls))),(fU (cE 1 (ay 6 ls))))
def R:(aD×bu×Int×aD×aD×Int)->Option (aD×dD):=RR (p6 gd) (u6 md)
def aj {a0 a1 a2 a3 a4 a5}(h:gd a0 a1 a2 a3 a4 a5):R ((a0.map aA.row),(av.r a1),a2,(a3.map cK),(a4.map aR.row),a5)=some (((md a0 a1 a2 a3 a4 a5).1.map aA.row),(bF.r (md a0 a1 a2 a3 a4 a5).2)):=AL h
def aU:pY:=ON pats 148 res acc R
def bh (a0:List aA)(a1:av)(a2:Int)(a3:List aC)(a4:List aR)(a5:Int)(p4 p5:List L)(e4:(a4.map aR.row)=(nC p4))(e5:a5=(fU p5))(hg:gd a0 a1 a2 a3 a4 a5):∃n,start (iter step n) (a0.map aA.row) (av.r a1) a2 (a3.map cK) p4 p5=ret ((((md a0 a1 a2 a3 a4 a5).1.map aA.row),(bF.r (md a0 a1 a2 a3 a4 a5).2)):aD×dD):=by
 obtain ⟨HC,H0,H2,H3⟩:=hg
 have fin:∀(J:Pt->aI) (code:Int) (x z:Int) (xs:aD) (lab:aC) (kd vl mv:Int) (c o p q s:aD),¬code=0->step J (Pt.p0 xs p4 p5 z 0 ⟨#[]⟩ 0 0 0 code lab kd vl mv c o p q s)=ret ((c,(⟨⟨o,p⟩,code,⟨lab,kd,vl,q⟩,s,mv⟩:dD)):aD×dD):=by
  intro J code x z xs lab kd vl mv c o p q s h
  simp only [step]
  exact cY (beq_eq_false_iff_ne.2 h) rfl
 have key:∀(n:Nat) (c:aG) (k:av) (zs:List Int) (mv z:Int) (p:List aC),aG.Sm (2^21) c->av.Sm (2^21) k->Z51.md p=true->0<=mv->mv<=3->(3 - mv)*4+(p.length:Int)<=n->zs.length+n<=100->
   ∃m,iter step m (Pt.p0 (p.map cK) p4 p5 z 0 ⟨#[]⟩ 0 0 0 0 ⟨#[]⟩ 0 0 mv (c.aN.map aA.row) (k.aL.map (eg aa.row)) (k.bp.map aF.row) [] (zs.map bk))=ret ((((Z130.rs (Z130.lk a4 a5) n c k zs mv z p).2.aN.map aA.row),(bF.r (Z130.rs (Z130.lk a4 a5) n c k zs mv z p).1)):aD×dD):=by
  intro n
  induction n with
  | zero=>intro c k zs mv z p _ _ hp _ _ hm _;have:=(Z51.tr hp).1;omega
  | succ n ih=>
   intro c k zs mv z p hc hk hp h0 h3 hm hz
   obtain ⟨⟨p1,p4'⟩,p8⟩:=Z51.tr hp
   obtain ⟨x,xs,rfl⟩:∃x xs,p=x::xs:=by
    cases p with
    | nil=>simp at p1
    | cons x xs=>exact ⟨x,xs,rfl⟩
   have hx:x.size<=2^21:=le_trans (p8 x (by simp)) (by decide)
   have hxs:∀y∈xs,y.size<=2^22:=fun y hy=>le_trans (p8 y (by simp [hy])) (by decide)
   have hlk:=Z130.Br (now:=a5) (z:=z) H3 hc hk hx
   have hat:qA ((x::xs).map cK) 0=x:=rfl
   have ht:List.take (toNat (((xs.length+1:Nat):Int) - 1)) (List.drop 1 ((x::xs).map cK))=xs.map cK:=by
    simp only [List.map_cons,List.drop_succ_cons,List.drop_zero]
    exact List.take_of_length_le (by simp)
   simp only [List.length_cons] at p4' hm
   refine Z130.yj ?_
   simp only [step,hat,List.length_map,List.length_cons,ht,<-e4,<-e5]
   refine dQ rfl (dQ dt ?_)
   have hR:Z262.R (c.aN.map aA.row,av.r k,z,x,a4.map aR.row,a5)=some ((Z130.lk a4 a5 c k z x).2.aN.map aA.row,cm.r (Z130.lk a4 a5 c k z x).1):=Z262.aj ⟨hc,hk,hx,H3⟩
   refine cx hR ?_
   have hcase:∀q,Z130.nx (Z130.lk a4 a5 c k z x).1 mv (x::xs)=.inl q->Z130.rs (Z130.lk a4 a5) (n+1) c k zs mv z (x::xs)=(⟨(Z130.lk a4 a5 c k z x).1.bV,q.1,q.2,zs++[z],mv⟩,(Z130.lk a4 a5 c k z x).2):=fun q hq=>Z130.xG hq
   have hcase2:∀q,Z130.nx (Z130.lk a4 a5 c k z x).1 mv (x::xs)=.inr q->Z130.rs (Z130.lk a4 a5) (n+1) c k zs mv z (x::xs)=Z130.rs (Z130.lk a4 a5) n (Z130.lk a4 a5 c k z x).2 (Z130.lk a4 a5 c k z x).1.bV (zs++[z]) q.1 q.2.1 q.2.2:=fun q hq=>Z130.xe hq
   generalize Z130.lk a4 a5 c k z x=w at hlk hcase hcase2 ⊢
   refine dQ lm (dQ dt (dQ dt ?_))
   obtain ⟨l,c2⟩:=w
   obtain ⟨hl1,hl2⟩:=hlk
   obtain ⟨lk0,lf,le,ld,lc⟩:=l
   simp only at hl1 hl2
   unfold Z130.nx at hcase hcase2
   have hzz:zs.map bk++[[L.int z]]=(zs++[z]).map bk:=by simp [bk]
   cases ld
   ·exact dQ rfl ⟨1,(fin _ 3 0 _ _ _ _ _ _ _ _ _ _ _ (by decide)).trans (by rw [hcase _ rfl];exact fz)⟩
   cases lf
   ·exact dH rfl (dQ rfl ⟨1,(fin _ 2 0 _ _ _ _ _ _ _ _ _ _ _ (by decide)).trans (by rw [hcase _ rfl];exact fz)⟩)
   simp only [Bool.not_true,bg,aZ,List.tail_cons] at hcase hcase2 ⊢
   have hpl:bO (2^21) (fun y:aC=>y.size<=(2^21)) le.bz:=hl1.2.1.2
   have hpl1:le.bz.length<=2^21:=hpl.1
   refine dH rfl (dH rfl ?_)
   simp only [SS]
   cases hk3:(le.bI==3)
   ·simp only [hk3,bg] at hcase hcase2 ⊢
    by_cases hx0:xs.length=0
    ·have e0:((xs.length:Int)==0)=true:=by simp [hx0]
     rw [e0] at hcase
     refine dQ (beq_iff_eq.2 (by omega)) (cx (Z139.aj hl1.2.1) ?_)
     exact ⟨1,(fin _ 1 0 _ _ _ _ _ _ _ _ _ _ _ (by decide)).trans (by rw [hcase _ rfl];exact fz)⟩
    ·have e0:((xs.length:Int)==0)=false:=by simpa using hx0
     rw [e0] at hcase hcase2
     refine dH (beq_eq_false_iff_ne.2 (by omega)) ?_
     cases hk2:(le.bI==2)
     ·simp only [hk2,bg] at hcase
      exact dH rfl ⟨1,(fin _ 4 0 _ _ _ _ _ _ _ _ _ _ _ (by decide)).trans (by rw [hcase _ rfl];exact fz)⟩
     ·simp only [hk2,bg,aZ] at hcase2
      refine dQ rfl ?_
      have hip:Z51.md xs=true:=Z51.tl hp hx0
      rw [hcase2 _ rfl,hzz]
      exact ih c2 lk0 (zs++[z]) mv le.bX xs hl2 hl1.1 hip h0 h3 (by omega) (by simp;omega)
   ·simp only [hk3,aZ] at hcase hcase2 ⊢
    refine cx (Z138.aj hpl) (dQ (by have :(le.bz.map cK).length=le.bz.length:=List.length_map ..;have :(xs.map cK).length=xs.length:=List.length_map ..;exact iJ (by omega)) ?_)
    by_cases hmv:mv>=3
    ·rw [decide_eq_true hmv] at hcase ⊢
     exact dQ rfl ⟨1,(fin _ 5 0 _ _ _ _ _ _ _ _ _ _ _ (by decide)).trans (by rw [hcase _ rfl];exact fz)⟩
    ·rw [decide_eq_false hmv] at hcase hcase2 ⊢
     simp only [bg] at hcase hcase2 ⊢
     have e:le.bz.map cK++xs.map cK=(le.bz++xs).map cK:=by simp
     rw [e]
     have hq:=Z152.aj ⟨by rw [List.length_append];omega,fun y hy=>(List.mem_append.1 hy).elim (fun h=>le_trans (hpl.2 y h) (by decide)) (hxs y)⟩
     rw [Z152.br] at hq
     refine cx hq ?_
     cases hip:Z51.md (le.bz++xs)
     ·rw [hip] at hcase
      exact dQ rfl ⟨1,(fin _ 5 0 _ _ _ _ _ _ _ _ _ _ _ (by decide)).trans (by rw [hcase _ rfl];exact fz)⟩
     ·rw [hip] at hcase2
      have ht:=Z51.tr hip
      rw [hcase2 _ rfl,hzz,wi _ (by omega)]
      exact ih c2 lk0 (zs++[z]) (mv+1) le.bX (le.bz++xs) hl2 hl1.1 hip (by omega) (by omega) (by omega) (by simp;omega)
 unfold start md
 refine cx (Z146.aj H0) (cx (Z152.aj (bO.mono H2 (by decide) (fun y hy=>le_trans hy (by decide)))) ?_)
 cases hp:Z152.md a3
 ·exact ⟨0,rfl⟩
 ·simp only [Bool.not_true,bg]
  rw [Z152.br] at hp
  exact key 17 ⟨a0⟩ a1 [] 0 a2 a3 HC H0 hp (by decide) (by decide) (by have:=(Z51.tr hp).1;omega) (by simp)
def oF (ls:List L)(a:List aA×av×Int×List aC×List aR×Int)(e:acc ls=Im.im a)(hg:(p6 gd) a):∃n:Nat,start (iter step n) ((ls.headD .hole).aS) (bu.dec (ay 1 ls)) (((ay 3 ls).headD .hole).toInt) (((ay 4 ls).headD .hole).aS) (cE 1 (ay 5 ls)) (cE 1 (ay 6 ls))=ret (Im.im ((u6 md) a)):=by
 have e0:(a.1.map aA.row)=(ls.headD .hole).aS:=(congrArg (fun x=>x.1) e.symm)
 have e1:(av.r a.2.1)=(bu.dec (ay 1 ls)):=(congrArg (fun x=>x.2.1) e.symm)
 have e2:a.2.2.1=((ay 3 ls).headD .hole).toInt:=(congrArg (fun x=>x.2.2.1) e.symm)
 have e3:(a.2.2.2.1.map cK)=((ay 4 ls).headD .hole).aS:=(congrArg (fun x=>x.2.2.2.1) e.symm)
 obtain ⟨n,hn⟩:=bh a.1 a.2.1 a.2.2.1 a.2.2.2.1 a.2.2.2.2.1 a.2.2.2.2.2 (cE 1 (ay 5 ls)) (cE 1 (ay 6 ls)) (congrArg (fun x=>x.2.2.2.2.1) e.symm) (congrArg (fun x=>x.2.2.2.2.2) e.symm) hg
 refine ⟨n,?_⟩
 rw [<-e0,<-e1,<-e2,<-e3]
 exact hn
def af:ot Tryz.prog Ev 95 aU:=VO (mt:=false) (accr:=fun ls=>((ls.headD .hole).aS,(bu.dec (ay 1 ls)),((ay 3 ls).headD .hole).toInt,((ay 4 ls).headD .hole).aS,(cE 1 (ay 5 ls)),(cE 1 (ay 6 ls)))) (run:=fun n x=>start (iter step n) x.1 x.2.1 x.2.2.1 x.2.2.2.1 x.2.2.2.2.1 x.2.2.2.2.2) mix aB (eM Z146.af Z152.af) .nil (.cons (Z262.lP 1) (.cons (Z263.lP 1) .nil)) Tryz.func95 (by kernel_rfl) run_eq (fun ls a e hg=>oF ls a e hg)
def ic (_:Nat):jU:=uI Ev aU
def lP (n:Nat):gC Tryz.prog Ev n 95 (ic n):=rZ af
end Z264
namespace Z265
def F (x0:bu)(x1:cu)(x2:aD)(x3:Int)(x4:aD)(x5:Int):aI:=(call (Z144.R x1) fun v1=>(call (Z264.R (v1.aN,x0,x3,x4,x2,x5)) fun v2=>ret ((⟨v2.2,(⟨v2.1⟩:cu)⟩:eG):eG)))
def pats:List gN:=[.agg [.sl 120,.sl 180],.agg [.sl 148],.rd (.sl 138),.rd (.int .i64),.rd (.sl 9),.rd (.int .i64)]
def res:RP:=.agg [.fr 120,.fr 180,.rd (.int .i64),.rd (.str),.rd (.int .i64),.rd (.int .i64),.fr 9,.fr 3,.rd (.int .i64),.fr 148]
abbrev E:Env:={ T:=assoc mq,G:=dM [(94,Z144.aU)],nt:=25,M:=gj [],I:=lS [(95,Z264.ic 0)] }
def run_eq (n:Nat)(ls:List L):fc E (fun _=>[]) Tryz.f35 res n (dJ pats ls)=F (bu.dec ls) (cu.dec (ay 2 ls)) ((ay 3 ls).headD .hole).aS ((ay 4 ls).headD .hole).toInt ((ay 5 ls).headD .hole).aS ((ay 6 ls).headD .hole).toInt:=by kernel_rfl
def md (a0:av)(a1:aG)(a2:List aR)(a3:Int)(a4:List aC)(a5:Int):dK:=(⟨(Z264.md a1.aN a0 a3 a4 a2 a5).2,(⟨(Z264.md a1.aN a0 a3 a4 a2 a5).1⟩:aG)⟩:dK)
def gd (a0:av)(a1:aG)(a2:List aR)(a3:Int)(a4:List aC)(a5:Int):Prop:=(av.Sm (2^21) a0)/\(aG.Sm (2^21) a1)/\(bO (2^21) (fun y:aR=>aR.Sm (2^21) y) a2)/\(bO (2^21) (fun y:aC=>y.size<=(2^21)) a4)
def acc (ls:List L):bu×cu×aD×Int×aD×Int:=((bu.dec ls),(cu.dec (ay 2 ls)),((ay 3 ls).headD .hole).aS,((ay 4 ls).headD .hole).toInt,((ay 5 ls).headD .hole).aS,((ay 6 ls).headD .hole).toInt)
def R:(bu×cu×aD×Int×aD×Int)->Option eG:=RR (p6 gd) (u6 md)
def aj {a0 a1 a2 a3 a4 a5}(h:gd a0 a1 a2 a3 a4 a5):R ((av.r a0),(aG.r a1),(a2.map aR.row),a3,(a4.map cK),a5)=some (dK.r (md a0 a1 a2 a3 a4 a5)):=AL h
def aU:fY:=CN pats res acc R
def bh (a0:av)(a1:aG)(a2:List aR)(a3:Int)(a4:List aC)(a5:Int)(hg:gd a0 a1 a2 a3 a4 a5):F (av.r a0) (aG.r a1) (a2.map aR.row) a3 (a4.map cK) a5=ret ((dK.r (md a0 a1 a2 a3 a4 a5)):eG):=by
 obtain ⟨H0,H1,H2,H4⟩:=hg
 unfold F md
 try simp only [SS]
 refine ct (Z144.aj H1) ?_
 try simp only [SS]
 refine ct (Z264.aj ⟨H1,H0,H4,H2⟩) ?_
 try simp only [SS]
 all_goals exact fz
def af:cC 35 aU:=VI (mt:=false) (run:=fun _ x=>F x.1 x.2.1 x.2.2.1 x.2.2.2.1 x.2.2.2.2.1 x.2.2.2.2.2) mix aB (cJ Z144.af) .nil (.cons (Z264.lP 0) .nil) Tryz.func35 (by kernel_rfl) run_eq (fun _ a _ _ hg=>⟨0,bh a.1 a.2.1 a.2.2.1 a.2.2.2.1 a.2.2.2.2.1 a.2.2.2.2.2 hg⟩)
def br (a0:av)(a1:aG)(a2:List aR)(a3:Int)(a4:List aC)(a5:Int):md a0 a1 a2 a3 a4 a5=Z130.md a0 a1 a2 a3 a4 a5:=by
 unfold md Z264.md Z130.md
 rw [Z152.br]
 cases Z51.md a4<;>rfl
end Z265
namespace Z266
def F (x0:bu)(x1:cu)(x2:Int)(x3:aD)(x4:Int):aI:=(call (Z265.R (x0,x1,[],x2,x3,x4)) fun v1=>ret (v1.gq:dD))
def md (a0:av)(a1:aG)(a2:Int)(a3:List aC)(a4:Int):bF:=(Z265.md a0 a1 [] a2 a3 a4).gq
def gd (a0:av)(a1:aG)(a2:Int)(a3:List aC)(a4:Int):Prop:=(av.Sm (2^21) a0)/\(aG.Sm (2^21) a1)/\(bO (2^21) (fun y:aC=>y.size<=(2^21)) a3)
def R:=RR (p5 gd) (u5 md)
def aj {a0 a1 a2 a3 a4}(h:gd a0 a1 a2 a3 a4):R ((av.r a0),(aG.r a1),a2,(a3.map cK),a4)=some (bF.r (md a0 a1 a2 a3 a4)):=wz h
def aU:=CN [.agg uY,.agg xV,pI,pL 9,pI] (.agg f41) RT.dec R
def bh (a0)(a1)(a2)(a3)(a4)(hg:gd a0 a1 a2 a3 a4):F (av.r a0) (aG.r a1) a2 (a3.map cK) a4=ret (bF.r (md a0 a1 a2 a3 a4)):=by
 obtain ⟨H0,H1,H3⟩:=hg
 unfold F md
 try simp only [SS]
 refine aX (dK.r (Z265.md a0 a1 [] a2 a3 a4)) (rq (Z265.aj (a0:=a0) (a1:=a1) (a2:=[]) (a3:=a2) (a4:=a3) (a5:=a4) ⟨H0,H1,bO.nil,H3⟩)) ?_
 try simp only [SS]
 all_goals exact fz
def af:cC 15 aU:=W5 18 F mix aB bh (cJ Z265.af) Tryz.func15
def br (a0:av)(a1:aG)(a2:Int)(a3:List aC)(a4:Int):md a0 a1 a2 a3 a4=Z131.md a0 a1 a2 a3 a4:=by
 unfold md Z131.md
 first
 | (simp only [Z265.br];done)
 | (simp only [Z265.br];rfl)
 | rfl
end Z266
namespace Z267
inductive Pt where
 | p0 (a b:aD) (c:Int)
def pid:Pt->Nat
 | .p0 ..=>4
def cG:Pt->List V
 | .p0 a b c=>[.sl none 3 a,.sl none 3 b,.int .i64 c]
def cX:Pt->List aW
 | .p0 a b c=>[]
def step (J:Pt->aI):Pt->aI
 | .p0 a b c=>(cond (c<(a.length:Int)) (m2 c (a.length:Int) (m2 c (b.length:Int) (cond ((jG a (toNat c)) != (jG b (toNat c))) bT (J (.p0 a b (i64.wrap (c+1))))))) gf)
def start (J:Pt->aI)(x0 x1:aD):aI:=(cond ((x0.length:Int) != (x1.length:Int)) bT (J (.p0 x0 x1 0)))
def live:Nat->Live:=fL [(4,gA [0,1,5])]
def pats:List gN:=[.rd (.sl 3),.rd (.sl 3)]
def res:RP:=.one (.rd (.bool))
abbrev E:Env:={ T:=assoc mq,G:=dM [],nt:=26 }
def step_eq (I:cR)(p:Pt):dF E live I (pid p) (bP Tryz.f53) (gp (live (pid p)) (cG p) (cX p)) (cP E Tryz.f53 res)=step (fun q=>I (pid q) (cG q) (cX q)) p:=by
 cases p<;>kernel_rfl
def start_eq (I:cR)(ls:List L):fG E live I (bP Tryz.f53) (dJ pats ls) (cP E Tryz.f53 res)=start (fun q=>I (pid q) (cG q) (cX q)) (ls.headD .hole).aS ((ay 1 ls).headD .hole).aS:=by kernel_rfl
def run_eq (n:Nat)(ls:List L):fc E live Tryz.f53 res n (dJ pats ls)=start (iter step n) (ls.headD .hole).aS ((ay 1 ls).headD .hole).aS:=cO (id:=pid) (vs:=cG) (hs:=cX) (step:=step) (start:=fun J=>start J (ls.headD .hole).aS ((ay 1 ls).headD .hole).aS) step_eq (fun I=>start_eq I ls) n
def md (a0 a1:List Int):Bool:=eD a0 a1
def gd (a0 a1:List Int):Prop:=True
def acc (ls:List L):aD×aD:=((ls.headD .hole).aS,((ay 1 ls).headD .hole).aS)
def R:(aD×aD)->Option Bool:=RR (p2 gd) (u2 md)
def aj {a0 a1}(h:gd a0 a1):R ((a0.map bk),(a1.map bk))=some (md a0 a1):=cB h
def aU:fY:=CN pats res acc R
def bh (a0 a1:List Int)(hg:gd a0 a1)(h0:a0.length<=maxLen)(h1:a1.length<=maxLen):∃n,start (iter step n) (a0.map bk) (a1.map bk)=ret ((md a0 a1):Bool):=by
 unfold start md
 simp only [List.length_map]
 refine lq (pt:=fun i=>Pt.p0 (a0.map bk) (a1.map bk) (i:Int)) (fun hl J i h h2=>?_) (fun J=>?_)
 ·simp only [step,MM,List.length_map,aP h,aP h2,aK,aZ,dw,uB h,uB h2]
  rw [aJ h h0]
  simp only [bne,fV,bool_beq,fD]
  cases eD a0[i] a1[i]<;>rfl
 ·simp only [step,List.length_map,fH,bg]
def af:cC 53 aU:=VV (run:=fun n x=>start (iter step n) x.1 x.2) mix aB .nil Tryz.func53 (by kernel_rfl) run_eq (fun ls a hl e hg=>bh a.1 a.2 hg (by have h:(ls.headD .hole).aS.length<=maxLen:=hl.1.len;have e:a.1.map bk=(ls.headD .hole).aS:=(congrArg (fun x=>x.1) e.symm);rw [<-e] at h;simpa using h) (by have h:((ay 1 ls).headD .hole).aS.length<=maxLen:=hl.2.1.len;have e:a.2.map bk=((ay 1 ls).headD .hole).aS:=(congrArg (fun x=>x.2) e.symm);rw [<-e] at h;simpa using h))
end Z267
namespace Z268
def F (x0 x1:cN):aI:=(call (Z267.R (x0.aN,x1.aN)) fun v1=>(cond (!v1) (ret false) (cond (x0.cH != x1.cH) (ret false) (ret true))))
def md (a0 a1:aO):Bool:=eD a0 a1
def gd (a0 a1:aO):Prop:=True
def R:=RR (p2 gd) (u2 md)
def aj {a0 a1}(h:gd a0 a1):R ((aO.r a0),(aO.r a1))=some (md a0 a1):=cB h
def aU:=CN [.agg jw,.agg jw] oB RT.dec R
def bh (a0)(a1)(hg:gd a0 a1):F (aO.r a0) (aO.r a1)=ret (md a0 a1):=by
 unfold md
 show (call (Z267.R ((a0.aN.map bk),(a1.aN.map bk))) fun v1=>(cond (!v1) bT (cond (a0.cH != a1.cH) bT gf)))=_
 simp only [call_eq (Z267.aj trivial),Z267.md]
 simp only [bne,fV,bool_beq,fD]
 have e:eD a0 a1=(eD a0.aN a1.aN&&(eD a0.cH a1.cH&&true)):=by
  cases a0;cases a1
  rw [Bool.eq_iff_iff]
  simp only [dz,Bool.and_eq_true,aO.mk.injEq,and_true]
 rw [e]
 refine cy fun _=>(cy fun _=>?_)
 rfl
def af:cC 279 aU:=W2 16 F mix aB bh (cJ Z267.af) Tryz.func279
end Z268
namespace Z269
def F (x0 x1:dm):aI:=(cond (x0.bw != x1.bw) bT (cond (x0.cM != x1.cM) bT (cond (x0.bI != x1.bI) bT (cond (x0.cL != x1.cL) bT (cond (x0.cF != x1.cF) bT (cond (x0.cA != x1.cA) bT (cond (x0.dy != x1.dy) bT (cond (x0.dR != x1.dR) bT (call (Z268.R (x0.bR,x1.bR)) fun v1=>(cond (!v1) bT (call (Z268.R (x0.bE,x1.bE)) fun v2=>(cond (!v2) bT (cond (x0.dB != x1.dB) bT (call (Z268.R (x0.bB,x1.bB)) fun v3=>(cond (!v3) bT (cond (!(x0.bC==x1.bC)) bT gf))))))))))))))))
def md (a0 a1:aE):Bool:=eD a0 a1
def gd (a0 a1:aE):Prop:=True
def R:=RR (p2 gd) (u2 md)
def aj {a0 a1}(h:gd a0 a1):R ((aE.r a0),(aE.r a1))=some (md a0 a1):=cB h
def aU:=CN [.agg gB,.agg gB] oB RT.dec R
def bh (a0)(a1)(hg:gd a0 a1):F (aE.r a0) (aE.r a1)=ret (md a0 a1):=by
 unfold md
 show (bif (a0.bw != a1.bw) then bT else (bif (a0.cM != a1.cM) then bT else (bif (a0.bI != a1.bI) then bT else (bif (a0.cL != a1.cL) then bT else (bif (a0.cF != a1.cF) then bT else (bif (a0.cA != a1.cA) then bT else (bif (a0.dy != a1.dy) then bT else (bif (a0.dR != a1.dR) then bT else (call (Z268.R ((aO.r a0.bR),(aO.r a1.bR))) fun v1=>(bif (!v1) then bT else (call (Z268.R ((aO.r a0.bE),(aO.r a1.bE))) fun v2=>(bif (!v2) then bT else (bif (a0.dB != a1.dB) then bT else (call (Z268.R ((aO.r a0.bB),(aO.r a1.bB))) fun v3=>(cond (!v3) bT (cond (!(a0.bC==a1.bC)) bT gf))))))))))))))))=_
 simp only [call_eq (Z268.aj (a0:=a0.bR) (a1:=a1.bR) trivial),Z268.md]
 simp only [call_eq (Z268.aj (a0:=a0.bE) (a1:=a1.bE) trivial),Z268.md]
 simp only [call_eq (Z268.aj (a0:=a0.bB) (a1:=a1.bB) trivial),Z268.md]
 try simp only [bne,fV,bool_beq,fD]
 have e:eD a0 a1=(eD a0.bw a1.bw&&(eD a0.cM a1.cM&&(eD a0.bI a1.bI&&(eD a0.cL a1.cL&&(eD a0.cF a1.cF&&(eD a0.cA a1.cA&&(eD a0.dy a1.dy&&(eD a0.dR a1.dR&&(eD a0.bR a1.bR&&(eD a0.bE a1.bE&&(eD a0.dB a1.dB&&(eD a0.bB a1.bB&&(eD a0.bC a1.bC&&true))))))))))))):=by
  cases a0;cases a1
  rw [Bool.eq_iff_iff]
  simp only [dz,Bool.and_eq_true,aE.mk.injEq,and_true]
 rw [e]
 refine cy fun _=>?_
 refine cy fun _=>?_
 refine cy fun _=>?_
 refine cy fun _=>?_
 refine cy fun _=>?_
 refine cy fun _=>?_
 refine cy fun _=>?_
 refine cy fun _=>?_
 refine cy fun _=>?_
 refine cy fun _=>?_
 refine cy fun _=>?_
 refine cy fun _=>?_
 refine cy fun _=>?_
 rfl
def af:cC 220 aU:=W2 73 F mix aB bh (cJ Z268.af) Tryz.func220
end Z269
namespace Z270
def F (x0 x1:bn):aI:=(cond (x0.iu != x1.iu) (ret false) (cond (x0.jM != x1.jM) (ret false) (ret true)))
def md (a0 a1:bn):Bool:=eD a0 a1
def gd (a0 a1:bn):Prop:=True
def R:=RR (p2 gd) (u2 md)
def aj {a0 a1}(h:gd a0 a1):R (a0,a1)=some (md a0 a1):=cB h
def aU:=CN [.agg Ap,.agg Ap] oB RT.dec R
def bh (a0)(a1)(hg:gd a0 a1):F a0 a1=ret (md a0 a1):=by
 unfold md
 show (cond (a0.iu != a1.iu) bT (cond (a0.jM != a1.jM) bT gf))=_
 simp only [bne,fV,bool_beq,fD]
 have e:eD a0 a1=(eD a0.iu a1.iu&&(eD a0.jM a1.jM&&true)):=by
  cases a0;cases a1
  rw [Bool.eq_iff_iff]
  simp only [dz,Bool.and_eq_true,bn.mk.injEq,and_true]
 rw [e]
 refine cy fun _=>(cy fun _=>?_)
 rfl
def af:cC 280 aU:=W2 15 F mix aB bh .nil Tryz.func280
end Z270
namespace Z271
inductive Pt where
 | p0 (a b:aD) (c:Int)
def pid:Pt->Nat
 | .p0 ..=>4
def cG:Pt->List V
 | .p0 a b c=>[.sl none 227 a,.sl none 227 b,.int .i64 c]
def cX:Pt->List aW
 | .p0 a b c=>[]
def step (J:Pt->aI):Pt->aI
 | .p0 a b c=>(cond (c<(a.length:Int)) (m2 c (a.length:Int) (m2 c (b.length:Int) (call (Z270.R ((bn.at a (toNat c)),(bn.at b (toNat c)))) fun v1=>(cond (!v1) bT (J (.p0 a b (i64.wrap (c+1)))))))) gf)
def start (J:Pt->aI)(x0 x1:aD):aI:=(cond ((x0.length:Int) != (x1.length:Int)) bT (J (.p0 x0 x1 0)))
def live:Nat->Live:=fL [(4,gA [0,1,5])]
def pats:List gN:=[.rd (.sl 227),.rd (.sl 227)]
def res:RP:=.one (.rd (.bool))
abbrev E:Env:={ T:=assoc mq,G:=dM [(280,Z270.aU)],nt:=27 }
def step_eq (I:cR)(p:Pt):dF E live I (pid p) (bP Tryz.f221) (gp (live (pid p)) (cG p) (cX p)) (cP E Tryz.f221 res)=step (fun q=>I (pid q) (cG q) (cX q)) p:=by
 cases p<;>kernel_rfl
def start_eq (I:cR)(ls:List L):fG E live I (bP Tryz.f221) (dJ pats ls) (cP E Tryz.f221 res)=start (fun q=>I (pid q) (cG q) (cX q)) (ls.headD .hole).aS ((ay 1 ls).headD .hole).aS:=by kernel_rfl
def run_eq (n:Nat)(ls:List L):fc E live Tryz.f221 res n (dJ pats ls)=start (iter step n) (ls.headD .hole).aS ((ay 1 ls).headD .hole).aS:=cO (id:=pid) (vs:=cG) (hs:=cX) (step:=step) (start:=fun J=>start J (ls.headD .hole).aS ((ay 1 ls).headD .hole).aS) step_eq (fun I=>start_eq I ls) n
def md (a0 a1:List bn):Bool:=eD a0 a1
def gd (a0 a1:List bn):Prop:=True
def acc (ls:List L):aD×aD:=((ls.headD .hole).aS,((ay 1 ls).headD .hole).aS)
def R:(aD×aD)->Option Bool:=RR (p2 gd) (u2 md)
def aj {a0 a1}(h:gd a0 a1):R ((a0.map bn.row),(a1.map bn.row))=some (md a0 a1):=cB h
def aU:fY:=CN pats res acc R
def bh (a0 a1:List bn)(hg:gd a0 a1)(h0:a0.length<=maxLen)(h1:a1.length<=maxLen):∃n,start (iter step n) (a0.map bn.row) (a1.map bn.row)=ret ((md a0 a1):Bool):=by
 unfold start md
 simp only [List.length_map]
 refine lq (pt:=fun i=>Pt.p0 (a0.map bn.row) (a1.map bn.row) (i:Int)) (fun hl J i h h2=>?_) (fun J=>?_)
 ·simp only [step,MM,List.length_map,aP h,aP h2,aK,aZ,dw,bn.gJ h,bn.gJ h2]
  rw [aJ h h0]
  rw [call_eq (Z270.aj (a0:=a0[i]) (a1:=a1[i]) trivial),Z270.md]
  cases eD a0[i] a1[i]<;>rfl
 ·simp only [step,List.length_map,fH,bg]
def af:cC 221 aU:=VV (run:=fun n x=>start (iter step n) x.1 x.2) mix aB (cJ Z270.af) Tryz.func221 (by kernel_rfl) run_eq (fun ls a hl e hg=>bh a.1 a.2 hg (by have h:(ls.headD .hole).aS.length<=maxLen:=hl.1.len;have e:a.1.map bn.row=(ls.headD .hole).aS:=(congrArg (fun x=>x.1) e.symm);rw [<-e] at h;simpa using h) (by have h:((ay 1 ls).headD .hole).aS.length<=maxLen:=hl.2.1.len;have e:a.2.map bn.row=((ay 1 ls).headD .hole).aS:=(congrArg (fun x=>x.2) e.symm);rw [<-e] at h;simpa using h))
end Z271
namespace Z272
def F (x0 x1:aY):aI:=(call (Z269.R (x0.an,x1.an)) fun v1=>(cond (!v1) (ret false) (call (Z271.R (x0.cI,x1.cI)) fun v2=>(cond (!v2) (ret false) (ret true)))))
def md (a0 a1:aa):Bool:=eD a0 a1
def gd (a0 a1:aa):Prop:=True
def R:=RR (p2 gd) (u2 md)
def aj {a0 a1}(h:gd a0 a1):R ((aa.r a0),(aa.r a1))=some (md a0 a1):=cB h
def aU:=CN [.agg lB,.agg lB] oB RT.dec R
def bh (a0)(a1)(hg:gd a0 a1):F (aa.r a0) (aa.r a1)=ret (md a0 a1):=by
 unfold md
 show (call (Z269.R ((aE.r a0.an),(aE.r a1.an))) fun v1=>(bif (!v1) then bT else (call (Z271.R ((a0.cI.map bn.row),(a1.cI.map bn.row))) fun v2=>(cond (!v2) bT gf))))=_
 simp only [call_eq (Z269.aj trivial),Z269.md]
 simp only [call_eq (Z271.aj trivial),Z271.md]
 have e:eD a0 a1=(eD a0.an a1.an&&(eD a0.cI a1.cI&&true)):=by
  cases a0;cases a1
  rw [Bool.eq_iff_iff]
  simp only [dz,Bool.and_eq_true,aa.mk.injEq,and_true]
 rw [e]
 refine cy fun _=>(cy fun _=>?_)
 rfl
def af:cC 164 aU:=W2 17 F mix aB bh (eM Z269.af Z271.af) Tryz.func164
end Z272
namespace Z273
inductive Pt where
 | p0 (a b:aD) (c:Int)
def pid:Pt->Nat
 | .p0 ..=>4
def cG:Pt->List V
 | .p0 a b c=>[.sl none 178 a,.sl none 178 b,.int .i64 c]
def cX:Pt->List aW
 | .p0 a b c=>[]
def step (J:Pt->aI):Pt->aI
 | .p0 a b c=>(cond (c<(a.length:Int)) (m2 c (a.length:Int) (m2 c (b.length:Int) (call (Z272.R ((aY.at a (toNat c)),(aY.at b (toNat c)))) fun v1=>(cond (!v1) bT (J (.p0 a b (i64.wrap (c+1)))))))) gf)
def start (J:Pt->aI)(x0 x1:aD):aI:=(cond ((x0.length:Int) != (x1.length:Int)) bT (J (.p0 x0 x1 0)))
def live:Nat->Live:=fL [(4,gA [0,1,5])]
def pats:List gN:=[.rd (.sl 178),.rd (.sl 178)]
def res:RP:=.one (.rd (.bool))
abbrev E:Env:={ T:=assoc mq,G:=dM [(164,Z272.aU)],nt:=27 }
def step_eq (I:cR)(p:Pt):dF E live I (pid p) (bP Tryz.f114) (gp (live (pid p)) (cG p) (cX p)) (cP E Tryz.f114 res)=step (fun q=>I (pid q) (cG q) (cX q)) p:=by
 cases p<;>kernel_rfl
def start_eq (I:cR)(ls:List L):fG E live I (bP Tryz.f114) (dJ pats ls) (cP E Tryz.f114 res)=start (fun q=>I (pid q) (cG q) (cX q)) (ls.headD .hole).aS ((ay 1 ls).headD .hole).aS:=by kernel_rfl
def run_eq (n:Nat)(ls:List L):fc E live Tryz.f114 res n (dJ pats ls)=start (iter step n) (ls.headD .hole).aS ((ay 1 ls).headD .hole).aS:=cO (id:=pid) (vs:=cG) (hs:=cX) (step:=step) (start:=fun J=>start J (ls.headD .hole).aS ((ay 1 ls).headD .hole).aS) step_eq (fun I=>start_eq I ls) n
def md (a0 a1:List aa):Bool:=eD a0 a1
def gd (a0 a1:List aa):Prop:=True
def acc (ls:List L):aD×aD:=((ls.headD .hole).aS,((ay 1 ls).headD .hole).aS)
def R:(aD×aD)->Option Bool:=RR (p2 gd) (u2 md)
def aj {a0 a1}(h:gd a0 a1):R ((a0.map aa.row),(a1.map aa.row))=some (md a0 a1):=cB h
def aU:fY:=CN pats res acc R
def bh (a0 a1:List aa)(hg:gd a0 a1)(h0:a0.length<=maxLen)(h1:a1.length<=maxLen):∃n,start (iter step n) (a0.map aa.row) (a1.map aa.row)=ret ((md a0 a1):Bool):=by
 unfold start md
 simp only [List.length_map]
 refine lq (pt:=fun i=>Pt.p0 (a0.map aa.row) (a1.map aa.row) (i:Int)) (fun hl J i h h2=>?_) (fun J=>?_)
 ·simp only [step,MM,List.length_map,aP h,aP h2,aK,aZ,dw,aa.gJ h,aa.gJ h2]
  rw [aJ h h0]
  rw [call_eq (Z272.aj (a0:=a0[i]) (a1:=a1[i]) trivial),Z272.md]
  cases eD a0[i] a1[i]<;>rfl
 ·simp only [step,List.length_map,fH,bg]
def af:cC 114 aU:=VV (run:=fun n x=>start (iter step n) x.1 x.2) mix aB (cJ Z272.af) Tryz.func114 (by kernel_rfl) run_eq (fun ls a hl e hg=>bh a.1 a.2 hg (by have h:(ls.headD .hole).aS.length<=maxLen:=hl.1.len;have e:a.1.map aa.row=(ls.headD .hole).aS:=(congrArg (fun x=>x.1) e.symm);rw [<-e] at h;simpa using h) (by have h:((ay 1 ls).headD .hole).aS.length<=maxLen:=hl.2.1.len;have e:a.2.map aa.row=((ay 1 ls).headD .hole).aS:=(congrArg (fun x=>x.2) e.symm);rw [<-e] at h;simpa using h))
end Z273
namespace Z274
inductive Pt where
 | p0 (a b:aD) (c:Int)
def pid:Pt->Nat
 | .p0 ..=>4
def cG:Pt->List V
 | .p0 a b c=>[.sl none 120 a,.sl none 120 b,.int .i64 c]
def cX:Pt->List aW
 | .p0 a b c=>[]
def step (J:Pt->aI):Pt->aI
 | .p0 a b c=>(cond (c<(a.length:Int)) (m2 c (a.length:Int) (m2 c (b.length:Int) (call (Z273.R ((qd a (toNat c)),(qd b (toNat c)))) fun v1=>(cond (!v1) bT (J (.p0 a b (i64.wrap (c+1)))))))) gf)
def start (J:Pt->aI)(x0 x1:aD):aI:=(cond ((x0.length:Int) != (x1.length:Int)) bT (J (.p0 x0 x1 0)))
def live:Nat->Live:=fL [(4,gA [0,1,5])]
def pats:List gN:=[.rd (.sl 120),.rd (.sl 120)]
def res:RP:=.one (.rd (.bool))
abbrev E:Env:={ T:=assoc mq,G:=dM [(114,Z273.aU)],nt:=27 }
def step_eq (I:cR)(p:Pt):dF E live I (pid p) (bP Tryz.f54) (gp (live (pid p)) (cG p) (cX p)) (cP E Tryz.f54 res)=step (fun q=>I (pid q) (cG q) (cX q)) p:=by
 cases p<;>kernel_rfl
def start_eq (I:cR)(ls:List L):fG E live I (bP Tryz.f54) (dJ pats ls) (cP E Tryz.f54 res)=start (fun q=>I (pid q) (cG q) (cX q)) (ls.headD .hole).aS ((ay 1 ls).headD .hole).aS:=by kernel_rfl
def run_eq (n:Nat)(ls:List L):fc E live Tryz.f54 res n (dJ pats ls)=start (iter step n) (ls.headD .hole).aS ((ay 1 ls).headD .hole).aS:=cO (id:=pid) (vs:=cG) (hs:=cX) (step:=step) (start:=fun J=>start J (ls.headD .hole).aS ((ay 1 ls).headD .hole).aS) step_eq (fun I=>start_eq I ls) n
def md (a0 a1:List (List aa)):Bool:=eD a0 a1
def gd (a0 a1:List (List aa)):Prop:=True
def acc (ls:List L):aD×aD:=((ls.headD .hole).aS,((ay 1 ls).headD .hole).aS)
def R:(aD×aD)->Option Bool:=RR (p2 gd) (u2 md)
def aj {a0 a1}(h:gd a0 a1):R ((a0.map (eg aa.row)),(a1.map (eg aa.row)))=some (md a0 a1):=cB h
def aU:fY:=CN pats res acc R
def bh (a0 a1:List (List aa))(hg:gd a0 a1)(h0:a0.length<=maxLen)(h1:a1.length<=maxLen):∃n,start (iter step n) (a0.map (eg aa.row)) (a1.map (eg aa.row))=ret ((md a0 a1):Bool):=by
 unfold start md
 simp only [List.length_map]
 refine lq (pt:=fun i=>Pt.p0 (a0.map (eg aa.row)) (a1.map (eg aa.row)) (i:Int)) (fun hl J i h h2=>?_) (fun J=>?_)
 ·simp only [step,MM,List.length_map,aP h,aP h2,aK,aZ,dw,qR h,qR h2]
  rw [aJ h h0]
  rw [call_eq (Z273.aj (a0:=a0[i]) (a1:=a1[i]) trivial),Z273.md]
  cases eD a0[i] a1[i]<;>rfl
 ·simp only [step,List.length_map,fH,bg]
def af:cC 54 aU:=VV (run:=fun n x=>start (iter step n) x.1 x.2) mix aB (cJ Z273.af) Tryz.func54 (by kernel_rfl) run_eq (fun ls a hl e hg=>bh a.1 a.2 hg (by have h:(ls.headD .hole).aS.length<=maxLen:=hl.1.len;have e:a.1.map (eg aa.row)=(ls.headD .hole).aS:=(congrArg (fun x=>x.1) e.symm);rw [<-e] at h;simpa using h) (by have h:((ay 1 ls).headD .hole).aS.length<=maxLen:=hl.2.1.len;have e:a.2.map (eg aa.row)=((ay 1 ls).headD .hole).aS:=(congrArg (fun x=>x.2) e.symm);rw [<-e] at h;simpa using h))
end Z274
namespace Z275
def F (x0 x1:bM):aI:=(call (Z272.R (x0.aM,x1.aM)) fun v1=>(cond (!v1) (ret false) (call (Z272.R (x0.fA,x1.fA)) fun v2=>(cond (!v2) (ret false) (call (Z272.R (x0.fB,x1.fB)) fun v3=>(cond (!v3) (ret false) (ret true)))))))
def md (a0 a1:aF):Bool:=eD a0 a1
def gd (a0 a1:aF):Prop:=True
def R:=RR (p2 gd) (u2 md)
def aj {a0 a1}(h:gd a0 a1):R ((aF.r a0),(aF.r a1))=some (md a0 a1):=cB h
def aU:=CN [.agg uA,.agg uA] oB RT.dec R
def bh (a0)(a1)(hg:gd a0 a1):F (aF.r a0) (aF.r a1)=ret (md a0 a1):=by
 unfold md
 show (call (Z272.R ((aa.r a0.aM),(aa.r a1.aM))) fun v1=>(bif (!v1) then bT else (call (Z272.R ((aa.r a0.fA),(aa.r a1.fA))) fun v2=>(bif (!v2) then bT else (call (Z272.R ((aa.r a0.fB),(aa.r a1.fB))) fun v3=>(cond (!v3) bT gf))))))=_
 simp only [call_eq (Z272.aj (a1:=a1.aM) trivial),Z272.md]
 simp only [call_eq (Z272.aj (a1:=a1.fA) trivial),Z272.md]
 simp only [call_eq (Z272.aj trivial),Z272.md]
 have e:eD a0 a1=(eD a0.aM a1.aM&&(eD a0.fA a1.fA&&(eD a0.fB a1.fB&&true))):=by
  cases a0;cases a1
  rw [Bool.eq_iff_iff]
  simp only [dz,Bool.and_eq_true,aF.mk.injEq,and_true]
 rw [e]
 refine cy fun _=>(cy fun _=>?_)
 refine cy fun _=>?_
 rfl
def af:cC 115 aU:=W2 23 F mix aB bh (cJ Z272.af) Tryz.func115
end Z275
namespace Z276
inductive Pt where
 | p0 (a b:aD) (c:Int)
def pid:Pt->Nat
 | .p0 ..=>4
def cG:Pt->List V
 | .p0 a b c=>[.sl none 180 a,.sl none 180 b,.int .i64 c]
def cX:Pt->List aW
 | .p0 a b c=>[]
def step (J:Pt->aI):Pt->aI
 | .p0 a b c=>(cond (c<(a.length:Int)) (m2 c (a.length:Int) (m2 c (b.length:Int) (call (Z275.R ((bM.at a (toNat c)),(bM.at b (toNat c)))) fun v1=>(cond (!v1) bT (J (.p0 a b (i64.wrap (c+1)))))))) gf)
def start (J:Pt->aI)(x0 x1:aD):aI:=(cond ((x0.length:Int) != (x1.length:Int)) bT (J (.p0 x0 x1 0)))
def live:Nat->Live:=fL [(4,gA [0,1,5])]
def pats:List gN:=[.rd (.sl 180),.rd (.sl 180)]
def res:RP:=.one (.rd (.bool))
abbrev E:Env:={ T:=assoc mq,G:=dM [(115,Z275.aU)],nt:=27 }
def step_eq (I:cR)(p:Pt):dF E live I (pid p) (bP Tryz.f55) (gp (live (pid p)) (cG p) (cX p)) (cP E Tryz.f55 res)=step (fun q=>I (pid q) (cG q) (cX q)) p:=by
 cases p<;>kernel_rfl
def start_eq (I:cR)(ls:List L):fG E live I (bP Tryz.f55) (dJ pats ls) (cP E Tryz.f55 res)=start (fun q=>I (pid q) (cG q) (cX q)) (ls.headD .hole).aS ((ay 1 ls).headD .hole).aS:=by kernel_rfl
def run_eq (n:Nat)(ls:List L):fc E live Tryz.f55 res n (dJ pats ls)=start (iter step n) (ls.headD .hole).aS ((ay 1 ls).headD .hole).aS:=cO (id:=pid) (vs:=cG) (hs:=cX) (step:=step) (start:=fun J=>start J (ls.headD .hole).aS ((ay 1 ls).headD .hole).aS) step_eq (fun I=>start_eq I ls) n
def md (a0 a1:List aF):Bool:=eD a0 a1
def gd (a0 a1:List aF):Prop:=True
def acc (ls:List L):aD×aD:=((ls.headD .hole).aS,((ay 1 ls).headD .hole).aS)
def R:(aD×aD)->Option Bool:=RR (p2 gd) (u2 md)
def aj {a0 a1}(h:gd a0 a1):R ((a0.map aF.row),(a1.map aF.row))=some (md a0 a1):=cB h
def aU:fY:=CN pats res acc R
def bh (a0 a1:List aF)(hg:gd a0 a1)(h0:a0.length<=maxLen)(h1:a1.length<=maxLen):∃n,start (iter step n) (a0.map aF.row) (a1.map aF.row)=ret ((md a0 a1):Bool):=by
 unfold start md
 simp only [List.length_map]
 refine lq (pt:=fun i=>Pt.p0 (a0.map aF.row) (a1.map aF.row) (i:Int)) (fun hl J i h h2=>?_) (fun J=>?_)
 ·simp only [step,MM,List.length_map,aP h,aP h2,aK,aZ,dw,aF.gJ h,aF.gJ h2]
  rw [aJ h h0]
  rw [call_eq (Z275.aj (a0:=a0[i]) (a1:=a1[i]) trivial),Z275.md]
  cases eD a0[i] a1[i]<;>rfl
 ·simp only [step,List.length_map,fH,bg]
def af:cC 55 aU:=VV (run:=fun n x=>start (iter step n) x.1 x.2) mix aB (cJ Z275.af) Tryz.func55 (by kernel_rfl) run_eq (fun ls a hl e hg=>bh a.1 a.2 hg (by have h:(ls.headD .hole).aS.length<=maxLen:=hl.1.len;have e:a.1.map aF.row=(ls.headD .hole).aS:=(congrArg (fun x=>x.1) e.symm);rw [<-e] at h;simpa using h) (by have h:((ay 1 ls).headD .hole).aS.length<=maxLen:=hl.2.1.len;have e:a.2.map aF.row=((ay 1 ls).headD .hole).aS:=(congrArg (fun x=>x.2) e.symm);rw [<-e] at h;simpa using h))
end Z276
namespace Z277
def F (x0 x1:bu):aI:=(call (Z274.R (x0.aL,x1.aL)) fun v1=>(cond (!v1) (ret false) (call (Z276.R (x0.bp,x1.bp)) fun v2=>(cond (!v2) (ret false) (ret true)))))
def md (a0 a1:av):Bool:=eD a0 a1
def gd (a0 a1:av):Prop:=True
def R:=RR (p2 gd) (u2 md)
def aj {a0 a1}(h:gd a0 a1):R ((av.r a0),(av.r a1))=some (md a0 a1):=cB h
def aU:=CN [.agg uY,.agg uY] oB RT.dec R
def bh (a0)(a1)(hg:gd a0 a1):F (av.r a0) (av.r a1)=ret (md a0 a1):=by
 unfold md
 show (call (Z274.R ((a0.aL.map (eg aa.row)),(a1.aL.map (eg aa.row)))) fun v1=>(bif (!v1) then bT else (call (Z276.R ((a0.bp.map aF.row),(a1.bp.map aF.row))) fun v2=>(cond (!v2) bT gf))))=_
 simp only [call_eq (Z274.aj trivial),Z274.md]
 simp only [call_eq (Z276.aj trivial),Z276.md]
 have e:eD a0 a1=(eD a0.aL a1.aL&&(eD a0.bp a1.bp&&true)):=by
  cases a0;cases a1
  rw [Bool.eq_iff_iff]
  simp only [dz,Bool.and_eq_true,av.mk.injEq,and_true]
 rw [e]
 refine cy fun _=>(cy fun _=>?_)
 rfl
def af:cC 17 aU:=W2 17 F mix aB bh (eM Z274.af Z276.af) Tryz.func17
end Z277
namespace Z278
inductive Pt where
 | p0 (a b:aD) (c:Int)
def pid:Pt->Nat
 | .p0 ..=>4
def cG:Pt->List V
 | .p0 a b c=>[.sl none 9 a,.sl none 9 b,.int .i64 c]
def cX:Pt->List aW
 | .p0 a b c=>[]
def step (J:Pt->aI):Pt->aI
 | .p0 a b c=>(cond (c<(a.length:Int)) (m2 c (a.length:Int) (m2 c (b.length:Int) (cond (!((qA a (toNat c))==(qA b (toNat c)))) bT (J (.p0 a b (i64.wrap (c+1))))))) gf)
def start (J:Pt->aI)(x0 x1:aD):aI:=(cond ((x0.length:Int) != (x1.length:Int)) bT (J (.p0 x0 x1 0)))
def live:Nat->Live:=fL [(4,gA [0,1,5])]
def pats:List gN:=[.rd (.sl 9),.rd (.sl 9)]
def res:RP:=.one (.rd (.bool))
abbrev E:Env:={ T:=assoc mq,G:=dM [],nt:=26 }
def step_eq (I:cR)(p:Pt):dF E live I (pid p) (bP Tryz.f19) (gp (live (pid p)) (cG p) (cX p)) (cP E Tryz.f19 res)=step (fun q=>I (pid q) (cG q) (cX q)) p:=by
 cases p<;>kernel_rfl
def start_eq (I:cR)(ls:List L):fG E live I (bP Tryz.f19) (dJ pats ls) (cP E Tryz.f19 res)=start (fun q=>I (pid q) (cG q) (cX q)) (ls.headD .hole).aS ((ay 1 ls).headD .hole).aS:=by kernel_rfl
def run_eq (n:Nat)(ls:List L):fc E live Tryz.f19 res n (dJ pats ls)=start (iter step n) (ls.headD .hole).aS ((ay 1 ls).headD .hole).aS:=cO (id:=pid) (vs:=cG) (hs:=cX) (step:=step) (start:=fun J=>start J (ls.headD .hole).aS ((ay 1 ls).headD .hole).aS) step_eq (fun I=>start_eq I ls) n
def md (a0 a1:List aC):Bool:=eD a0 a1
def gd (a0 a1:List aC):Prop:=True
def acc (ls:List L):aD×aD:=((ls.headD .hole).aS,((ay 1 ls).headD .hole).aS)
def R:(aD×aD)->Option Bool:=RR (p2 gd) (u2 md)
def aj {a0 a1}(h:gd a0 a1):R ((a0.map cK),(a1.map cK))=some (md a0 a1):=cB h
def aU:fY:=CN pats res acc R
def bh (a0 a1:List aC)(hg:gd a0 a1)(h0:a0.length<=maxLen)(h1:a1.length<=maxLen):∃n,start (iter step n) (a0.map cK) (a1.map cK)=ret ((md a0 a1):Bool):=by
 unfold start md
 simp only [List.length_map]
 refine lq (pt:=fun i=>Pt.p0 (a0.map cK) (a1.map cK) (i:Int)) (fun hl J i h h2=>?_) (fun J=>?_)
 ·simp only [step,MM,List.length_map,aP h,aP h2,aK,aZ,dw,qW h,qW h2]
  rw [aJ h h0]
  simp only [bne,fV,bool_beq,fD]
  cases eD a0[i] a1[i]<;>rfl
 ·simp only [step,List.length_map,fH,bg]
def af:cC 19 aU:=VV (run:=fun n x=>start (iter step n) x.1 x.2) mix aB .nil Tryz.func19 (by kernel_rfl) run_eq (fun ls a hl e hg=>bh a.1 a.2 hg (by have h:(ls.headD .hole).aS.length<=maxLen:=hl.1.len;have e:a.1.map cK=(ls.headD .hole).aS:=(congrArg (fun x=>x.1) e.symm);rw [<-e] at h;simpa using h) (by have h:((ay 1 ls).headD .hole).aS.length<=maxLen:=hl.2.1.len;have e:a.2.map cK=((ay 1 ls).headD .hole).aS:=(congrArg (fun x=>x.2) e.symm);rw [<-e] at h;simpa using h))
end Z278
namespace Z279
def F (x0 x1:bH):aI:=(cond (!(x0.aV==x1.aV)) (ret false) (cond (x0.bI != x1.bI) (ret false) (cond (x0.bX != x1.bX) (ret false) (call (Z278.R (x0.bz,x1.bz)) fun v1=>(cond (!v1) (ret false) (ret true))))))
def md (a0 a1:ah):Bool:=eD a0 a1
def gd (a0 a1:ah):Prop:=True
def R:=RR (p2 gd) (u2 md)
def aj {a0 a1}(h:gd a0 a1):R ((ah.r a0),(ah.r a1))=some (md a0 a1):=cB h
def aU:=CN [.agg sX,.agg sX] oB RT.dec R
def bh (a0)(a1)(hg:gd a0 a1):F (ah.r a0) (ah.r a1)=ret (md a0 a1):=by
 unfold md
 show (bif (!(a0.aV==a1.aV)) then bT else (bif (a0.bI != a1.bI) then bT else (bif (a0.bX != a1.bX) then bT else (call (Z278.R ((a0.bz.map cK),(a1.bz.map cK))) fun v1=>(cond (!v1) bT gf)))))=_
 simp only [call_eq (Z278.aj trivial),Z278.md]
 simp only [bne,fV,bool_beq,fD]
 have e:eD a0 a1=(eD a0.aV a1.aV&&(eD a0.bI a1.bI&&(eD a0.bX a1.bX&&(eD a0.bz a1.bz&&true)))):=by
  cases a0;cases a1
  rw [Bool.eq_iff_iff]
  simp only [dz,Bool.and_eq_true,ah.mk.injEq,and_true]
 rw [e]
 refine cy fun _=>(cy fun _=>?_)
 refine cy fun _=>(cy fun _=>?_)
 rfl
def af:cC 52 aU:=W2 26 F mix aB bh (cJ Z278.af) Tryz.func52
end Z279
namespace Z280
def F (x0 x1:dD):aI:=(call (Z277.R (x0.bV,x1.bV)) fun v1=>(cond (!v1) bT (cond (x0.gD != x1.gD) bT (call (Z279.R (x0.aQ,x1.aQ)) fun v2=>(cond (!v2) bT (call (Z267.R (x0.bQ,x1.bQ)) fun v3=>(cond (!v3) bT (cond (x0.fu != x1.fu) bT gf))))))))
def md (a0 a1:bF):Bool:=eD a0 a1
def gd (a0 a1:bF):Prop:=True
def R:=RR (p2 gd) (u2 md)
def aj {a0 a1}(h:gd a0 a1):R ((bF.r a0),(bF.r a1))=some (md a0 a1):=cB h
def aU:=CN [.agg CQ,.agg CQ] oB RT.dec R
def bh (a0)(a1)(hg:gd a0 a1):F (bF.r a0) (bF.r a1)=ret (md a0 a1):=by
 unfold md
 show (call (Z277.R ((av.r a0.bV),(av.r a1.bV))) fun v1=>(bif (!v1) then bT else (bif (a0.gD != a1.gD) then bT else (call (Z279.R ((ah.r a0.aQ),(ah.r a1.aQ))) fun v2=>(bif (!v2) then bT else (call (Z267.R ((a0.bQ.map bk),(a1.bQ.map bk))) fun v3=>(cond (!v3) bT (cond (a0.fu != a1.fu) bT gf))))))))=_
 simp only [call_eq (Z277.aj (a0:=a0.bV) (a1:=a1.bV) trivial),Z277.md]
 simp only [call_eq (Z279.aj (a0:=a0.aQ) (a1:=a1.aQ) trivial),Z279.md]
 simp only [call_eq (Z267.aj (a0:=a0.bQ) (a1:=a1.bQ) trivial),Z267.md]
 try simp only [bne,fV,bool_beq,fD]
 have e:eD a0 a1=(eD a0.bV a1.bV&&(eD a0.gD a1.gD&&(eD a0.aQ a1.aQ&&(eD a0.bQ a1.bQ&&(eD a0.fu a1.fu&&true))))):=by
  cases a0;cases a1
  rw [Bool.eq_iff_iff]
  simp only [dz,Bool.and_eq_true,bF.mk.injEq,and_true]
 rw [e]
 refine cy fun _=>?_
 refine cy fun _=>?_
 refine cy fun _=>?_
 refine cy fun _=>?_
 refine cy fun _=>?_
 rfl
def af:cC 16 aU:=W2 33 F mix aB bh (jS Z277.af Z279.af Z267.af) Tryz.func16
end Z280
namespace Z281
def F (x0 x1:cS):aI:=(cond (x0.eE != x1.eE) (ret false) (call (Z267.R (x0.bz,x1.bz)) fun v1=>(cond (!v1) (ret false) (ret true))))
def md (a0 a1:aH):Bool:=eD a0 a1
def gd (a0 a1:aH):Prop:=True
def R:=RR (p2 gd) (u2 md)
def aj {a0 a1}(h:gd a0 a1):R ((aH.r a0),(aH.r a1))=some (md a0 a1):=cB h
def aU:=CN [.agg oT,.agg oT] oB RT.dec R
def bh (a0)(a1)(hg:gd a0 a1):F (aH.r a0) (aH.r a1)=ret (md a0 a1):=by
 unfold md
 show (bif (a0.eE != a1.eE) then bT else (call (Z267.R ((a0.bz.map bk),(a1.bz.map bk))) fun v1=>(cond (!v1) bT gf)))=_
 simp only [call_eq (Z267.aj trivial),Z267.md]
 simp only [bne,fV,bool_beq,fD]
 have e:eD a0 a1=(eD a0.eE a1.eE&&(eD a0.bz a1.bz&&true)):=by
  cases a0;cases a1
  rw [Bool.eq_iff_iff]
  simp only [dz,Bool.and_eq_true,aH.mk.injEq,and_true]
 rw [e]
 refine cy fun _=>(cy fun _=>?_)
 rfl
def af:cC 222 aU:=W2 16 F mix aB bh (cJ Z267.af) Tryz.func222
end Z281
namespace Z282
def F (x0 x1:eN):aI:=(cond (x0.eE != x1.eE) bT (call (Z279.R (x0.aM,x1.aM)) fun v1=>(cond (!v1) bT (call (Z279.R (x0.bU,x1.bU)) fun v2=>(cond (!v2) bT (call (Z281.R (x0.dI,x1.dI)) fun v3=>(cond (!v3) bT (call (Z281.R (x0.cz,x1.cz)) fun v4=>(cond (!v4) bT gf)))))))))
def md (a0 a1:bK):Bool:=eD a0 a1
def gd (a0 a1:bK):Prop:=True
def R:=RR (p2 gd) (u2 md)
def aj {a0 a1}(h:gd a0 a1):R ((bK.r a0),(bK.r a1))=some (md a0 a1):=cB h
def aU:=CN [.agg rP,.agg rP] oB RT.dec R
def bh (a0)(a1)(hg:gd a0 a1):F (bK.r a0) (bK.r a1)=ret (md a0 a1):=by
 unfold md
 show (bif (a0.eE != a1.eE) then bT else (call (Z279.R ((ah.r a0.aM),(ah.r a1.aM))) fun v1=>(bif (!v1) then bT else (call (Z279.R ((ah.r a0.bU),(ah.r a1.bU))) fun v2=>(bif (!v2) then bT else (call (Z281.R ((aH.r a0.dI),(aH.r a1.dI))) fun v3=>(bif (!v3) then bT else (call (Z281.R ((aH.r a0.cz),(aH.r a1.cz))) fun v4=>(cond (!v4) bT gf)))))))))=_
 simp only [call_eq (Z279.aj (a0:=a0.aM) (a1:=a1.aM) trivial),Z279.md]
 simp only [call_eq (Z279.aj (a0:=a0.bU) (a1:=a1.bU) trivial),Z279.md]
 simp only [call_eq (Z281.aj (a0:=a0.dI) (a1:=a1.dI) trivial),Z281.md]
 simp only [call_eq (Z281.aj (a0:=a0.cz) (a1:=a1.cz) trivial),Z281.md]
 try simp only [bne,fV,bool_beq,fD]
 have e:eD a0 a1=(eD a0.eE a1.eE&&(eD a0.aM a1.aM&&(eD a0.bU a1.bU&&(eD a0.dI a1.dI&&(eD a0.cz a1.cz&&true))))):=by
  cases a0;cases a1
  rw [Bool.eq_iff_iff]
  simp only [dz,Bool.and_eq_true,bK.mk.injEq,and_true]
 rw [e]
 refine cy fun _=>?_
 refine cy fun _=>?_
 refine cy fun _=>?_
 refine cy fun _=>?_
 refine cy fun _=>?_
 rfl
def af:cC 223 aU:=W2 34 F mix aB bh (eM Z279.af Z281.af) Tryz.func223
end Z282
namespace Z283
def F (x0 x1:bf):aI:=(call (Z273.R (x0.aT,x1.aT)) fun v1=>(cond (!v1) bT (cond (!(x0.bY==x1.bY)) bT (call (Z279.R (x0.aQ,x1.aQ)) fun v2=>(cond (!v2) bT (call (Z281.R (x0.cZ,x1.cZ)) fun v3=>(cond (!v3) bT (call (Z282.R (x0.dS,x1.dS)) fun v4=>(cond (!v4) bT gf)))))))))
def md (a0 a1:aq):Bool:=eD a0 a1
def gd (a0 a1:aq):Prop:=True
def R:=RR (p2 gd) (u2 md)
def aj {a0 a1}(h:gd a0 a1):R ((aq.r a0),(aq.r a1))=some (md a0 a1):=cB h
def aU:=CN [.agg sJ,.agg sJ] oB RT.dec R
def bh (a0)(a1)(hg:gd a0 a1):F (aq.r a0) (aq.r a1)=ret (md a0 a1):=by
 unfold md
 show (call (Z273.R ((a0.aT.map aa.row),(a1.aT.map aa.row))) fun v1=>(bif (!v1) then bT else (bif (!(a0.bY==a1.bY)) then bT else (call (Z279.R ((ah.r a0.aQ),(ah.r a1.aQ))) fun v2=>(bif (!v2) then bT else (call (Z281.R ((aH.r a0.cZ),(aH.r a1.cZ))) fun v3=>(bif (!v3) then bT else (call (Z282.R ((bK.r a0.dS),(bK.r a1.dS))) fun v4=>(cond (!v4) bT gf)))))))))=_
 simp only [call_eq (Z273.aj (a0:=a0.aT) (a1:=a1.aT) trivial),Z273.md]
 simp only [call_eq (Z279.aj (a0:=a0.aQ) (a1:=a1.aQ) trivial),Z279.md]
 simp only [call_eq (Z281.aj (a0:=a0.cZ) (a1:=a1.cZ) trivial),Z281.md]
 simp only [call_eq (Z282.aj (a0:=a0.dS) (a1:=a1.dS) trivial),Z282.md]
 try simp only [bne,fV,bool_beq,fD]
 have e:eD a0 a1=(eD a0.aT a1.aT&&(eD a0.bY a1.bY&&(eD a0.aQ a1.aQ&&(eD a0.cZ a1.cZ&&(eD a0.dS a1.dS&&true))))):=by
  cases a0;cases a1
  rw [Bool.eq_iff_iff]
  simp only [dz,Bool.and_eq_true,aq.mk.injEq,and_true]
 rw [e]
 refine cy fun _=>?_
 refine cy fun _=>?_
 refine cy fun _=>?_
 refine cy fun _=>?_
 refine cy fun _=>?_
 rfl
def af:cC 165 aU:=W2 34 F mix aB bh (kP Z273.af Z279.af Z281.af Z282.af) Tryz.func165
end Z283
namespace Z284
def F (x0 x1:bZ):aI:=(cond (x0.bw != x1.bw) (ret false) (cond (!(x0.aV==x1.aV)) (ret false) (call (Z283.R (x0.bS,x1.bS)) fun v1=>(cond (!v1) (ret false) (ret true)))))
def md (a0 a1:aA):Bool:=eD a0 a1
def gd (a0 a1:aA):Prop:=True
def R:=RR (p2 gd) (u2 md)
def aj {a0 a1}(h:gd a0 a1):R ((aA.r a0),(aA.r a1))=some (md a0 a1):=cB h
def aU:=CN [.agg Ay,.agg Ay] oB RT.dec R
def bh (a0)(a1)(hg:gd a0 a1):F (aA.r a0) (aA.r a1)=ret (md a0 a1):=by
 unfold md
 show (bif (a0.bw != a1.bw) then bT else (bif (!(a0.aV==a1.aV)) then bT else (call (Z283.R ((aq.r a0.bS),(aq.r a1.bS))) fun v1=>(cond (!v1) bT gf))))=_
 simp only [call_eq (Z283.aj trivial),Z283.md]
 simp only [bne,fV,bool_beq,fD]
 have e:eD a0 a1=(eD a0.bw a1.bw&&(eD a0.aV a1.aV&&(eD a0.bS a1.bS&&true))):=by
  cases a0;cases a1
  rw [Bool.eq_iff_iff]
  simp only [dz,Bool.and_eq_true,aA.mk.injEq,and_true]
 rw [e]
 refine cy fun _=>(cy fun _=>?_)
 refine cy fun _=>?_
 rfl
def af:cC 116 aU:=W2 21 F mix aB bh (cJ Z283.af) Tryz.func116
end Z284
namespace Z285
inductive Pt where
 | p0 (a b:aD) (c:Int)
def pid:Pt->Nat
 | .p0 ..=>4
def cG:Pt->List V
 | .p0 a b c=>[.sl none 148 a,.sl none 148 b,.int .i64 c]
def cX:Pt->List aW
 | .p0 a b c=>[]
def step (J:Pt->aI):Pt->aI
 | .p0 a b c=>(cond (c<(a.length:Int)) (m2 c (a.length:Int) (m2 c (b.length:Int) (call (Z284.R ((bZ.at a (toNat c)),(bZ.at b (toNat c)))) fun v1=>(cond (!v1) bT (J (.p0 a b (i64.wrap (c+1)))))))) gf)
def start (J:Pt->aI)(x0 x1:aD):aI:=(cond ((x0.length:Int) != (x1.length:Int)) bT (J (.p0 x0 x1 0)))
def live:Nat->Live:=fL [(4,gA [0,1,5])]
def pats:List gN:=[.rd (.sl 148),.rd (.sl 148)]
def res:RP:=.one (.rd (.bool))
abbrev E:Env:={ T:=assoc mq,G:=dM [(116,Z284.aU)],nt:=27 }
def step_eq (I:cR)(p:Pt):dF E live I (pid p) (bP Tryz.f56) (gp (live (pid p)) (cG p) (cX p)) (cP E Tryz.f56 res)=step (fun q=>I (pid q) (cG q) (cX q)) p:=by
 cases p<;>kernel_rfl
def start_eq (I:cR)(ls:List L):fG E live I (bP Tryz.f56) (dJ pats ls) (cP E Tryz.f56 res)=start (fun q=>I (pid q) (cG q) (cX q)) (ls.headD .hole).aS ((ay 1 ls).headD .hole).aS:=by kernel_rfl
def run_eq (n:Nat)(ls:List L):fc E live Tryz.f56 res n (dJ pats ls)=start (iter step n) (ls.headD .hole).aS ((ay 1 ls).headD .hole).aS:=cO (id:=pid) (vs:=cG) (hs:=cX) (step:=step) (start:=fun J=>start J (ls.headD .hole).aS ((ay 1 ls).headD .hole).aS) step_eq (fun I=>start_eq I ls) n
def md (a0 a1:List aA):Bool:=eD a0 a1
def gd (a0 a1:List aA):Prop:=True
def acc (ls:List L):aD×aD:=((ls.headD .hole).aS,((ay 1 ls).headD .hole).aS)
def R:(aD×aD)->Option Bool:=RR (p2 gd) (u2 md)
def aj {a0 a1}(h:gd a0 a1):R ((a0.map aA.row),(a1.map aA.row))=some (md a0 a1):=cB h
def aU:fY:=CN pats res acc R
def bh (a0 a1:List aA)(hg:gd a0 a1)(h0:a0.length<=maxLen)(h1:a1.length<=maxLen):∃n,start (iter step n) (a0.map aA.row) (a1.map aA.row)=ret ((md a0 a1):Bool):=by
 unfold start md
 simp only [List.length_map]
 refine lq (pt:=fun i=>Pt.p0 (a0.map aA.row) (a1.map aA.row) (i:Int)) (fun hl J i h h2=>?_) (fun J=>?_)
 ·simp only [step,MM,List.length_map,aP h,aP h2,aK,aZ,dw,aA.gJ h,aA.gJ h2]
  rw [aJ h h0]
  rw [call_eq (Z284.aj (a0:=a0[i]) (a1:=a1[i]) trivial),Z284.md]
  cases eD a0[i] a1[i]<;>rfl
 ·simp only [step,List.length_map,fH,bg]
def af:cC 56 aU:=VV (run:=fun n x=>start (iter step n) x.1 x.2) mix aB (cJ Z284.af) Tryz.func56 (by kernel_rfl) run_eq (fun ls a hl e hg=>bh a.1 a.2 hg (by have h:(ls.headD .hole).aS.length<=maxLen:=hl.1.len;have e:a.1.map aA.row=(ls.headD .hole).aS:=(congrArg (fun x=>x.1) e.symm);rw [<-e] at h;simpa using h) (by have h:((ay 1 ls).headD .hole).aS.length<=maxLen:=hl.2.1.len;have e:a.2.map aA.row=((ay 1 ls).headD .hole).aS:=(congrArg (fun x=>x.2) e.symm);rw [<-e] at h;simpa using h))
end Z285
namespace Z286
def F (x0 x1:cu):aI:=(call (Z285.R (x0.aN,x1.aN)) fun v1=>(cond (!v1) (ret false) (ret true)))
def md (a0 a1:aG):Bool:=eD a0 a1
def gd (a0 a1:aG):Prop:=True
def R:=RR (p2 gd) (u2 md)
def aj {a0 a1}(h:gd a0 a1):R ((aG.r a0),(aG.r a1))=some (md a0 a1):=cB h
def aU:=CN [.agg xV,.agg xV] oB RT.dec R
def bh (a0)(a1)(hg:gd a0 a1):F (aG.r a0) (aG.r a1)=ret (md a0 a1):=by
 unfold md
 show (call (Z285.R ((a0.aN.map aA.row),(a1.aN.map aA.row))) fun v1=>(cond (!v1) bT gf))=_
 simp only [call_eq (Z285.aj trivial),Z285.md]
 have e:eD a0 a1=(eD a0.aN a1.aN&&true):=by
  cases a0;cases a1
  rw [Bool.eq_iff_iff]
  simp only [dz,Bool.and_eq_true,aG.mk.injEq,and_true]
 rw [e]
 refine cy fun _=>?_
 rfl
def af:cC 18 aU:=W2 11 F mix aB bh (cJ Z285.af) Tryz.func18
end Z286
namespace Z287
set_option maxHeartbeats 8000000
inductive Pt where
 | p0 (a b:Int) (c:aD)
def pid:Pt->Nat
 | .p0 ..=>2
def cG:Pt->List V
 | .p0 a b c=>[.own 0,.int .i64 a,.int .i64 b]
def cX:Pt->List aW
 | .p0 a b c=>[.row 3 c]
def step (J:Pt->aI):Pt->aI
 | .p0 a b c=>(cond (b<(c.length:Int)) (m2 b (c.length:Int) (J (.p0 (i64.wrap (a+1)) (i64.wrap (b+1)) (List.set c (toNat b) [L.int a])))) (ret ((a,c):Int×aD)))
def start (J:Pt->aI)(x0:aD)(x1:Int):aI:=J (.p0 x1 0 x0)
def live:Nat->Live:=fL [(2,gA [0,1,5])]
def pats:List (Bool×List K):=[(false,[.sl 3]),(false,[au])]
def res:RP:=.pX [3]
abbrev E:Env:={ T:=assoc mq,G:=dM [],nt:=19,M:=gj [],np:=1,mt:=true }
def step_eq (I:cR)(p:Pt):dF E live I (pid p) (bP Tryz.f62) (gp (live (pid p)) (cG p) (cX p)) (cP E Tryz.f62 res)=step (fun q=>I (pid q) (cG q) (cX q)) p:=by
 cases p<;>kernel_rfl
def start_eq (I:cR)(ls:List L):fG E live I (bP Tryz.f62) (jd pats ls) (cP E Tryz.f62 res)=start (fun q=>I (pid q) (cG q) (cX q)) (ls.headD .hole).aS ((ay 1 ls).headD .hole).toInt:=by kernel_rfl
def run_eq (n:Nat)(ls:List L):fc E live Tryz.f62 res n (jd pats ls)=start (iter step n) (ls.headD .hole).aS ((ay 1 ls).headD .hole).toInt:=cO (id:=pid) (vs:=cG) (hs:=cX) (step:=step) (start:=fun J=>start J (ls.headD .hole).aS ((ay 1 ls).headD .hole).toInt) step_eq (fun I=>start_eq I ls) n
def el (x k:Int):Int×Int:=((i64.wrap (k+1)),(k))
def lg (x k:Int)(hk:fo k):fo (el x k).1:=(cj _)
def cnt (x:Int):Nat:=1
def sum (a:List Int):Nat:=(a.map cnt).sum
def md (a0:List Int)(a1:Int):Int×List Int:=kI el a0 a1
def gd (a0:List Int)(a1:Int):Prop:=fo a1
def acc (ls:List L):aD×Int:=((ls.headD .hole).aS,((ay 1 ls).headD .hole).toInt)
def R:(aD×Int)->Option (Int×aD):=RR (p2 gd) (u2 md)
def aj {a0 a1}(h:gd a0 a1):R ((a0.map bk),a1)=some ((md a0 a1).1,((md a0 a1).2.map bk)):=cB h
def aU:ia:=MN pats acc R
def bh (a0:List Int)(a1:Int)(hg:gd a0 a1)(h0:a0.length<=maxLen):∃n,start (iter step n) (a0.map bk) a1=ret (((md a0 a1).1,((md a0 a1).2.map bk)):Int×aD):=by
 show ∃n,iter step n (Pt.p0 a1 0 (a0.map bk))=_
 refine iO (el:=el) (xs:=a0) 0 fo lg (pt:=fun i k c=>Pt.p0 k (i:Int) (c.map bk)) (out:=fun b=>ret (b.1,b.2.map bk)) (fun J i k c hi hc hk=>?_) (fun J k c hc=>?_) hg
 ·have hm:c.length<=maxLen:=hc ▸ h0
  simp only [step,SS]
  refine ak (aP hi) (ak aK ?_)
  refine ak (aP hi) ?_
  rw [aJ hi hm]
  exact congrArg (fun q=>J (Pt.p0 (el (c.getD i 0) k).1 ((i+1:Nat):Int) q)) (List.map_set (f:=bk) (l:=c) (i:=i) (a:=(el (c.getD i 0) k).2)).symm
 ·simp only [step,SS]
  refine cY dn ?_
  rfl
def af:fJ Tryz.prog Ev 62 aU:=MV (run:=fun n x=>start (iter step n) x.1 x.2) mix aB .nil .nil Tryz.func62 (by kernel_rfl) run_eq (fun ls a hl e hg=>bh a.1 a.2 hg (by have h:(ls.headD .hole).aS.length<=maxLen:=(hl _ _ (.head _)).len;have e:a.1.map bk=(ls.headD .hole).aS:=(congrArg (fun x=>x.1) e.symm);rw [<-e] at h;simpa using h))
def iq {a0:List Int}{a1:Int}(h:fo a1):fo (md a0 a1).1:=mQ lg h
def uK (x k:Int)(h0:0<=k)(hb:k+(cnt x:Int)<=4611686018427387904):(el x k).1=k+cnt x:=by
 simp only [cnt,Int.natCast_add] at hb ⊢
 simp (disch:=omega) only [el,wi]
 all_goals first | done | omega
def kk (a0:List Int)(a1:Int)(h0:0<=a1)(hb:a1+(sum a0:Int)<=4611686018427387904):(md a0 a1).1=a1+sum a0:=iX uK a0 a1 h0 hb
def sz (a:List Int):sum a<=60*(eC (fun y:Int=>0) a):=lV (fun x=>by
 try simp only [cnt] at *
 omega) a
end Z287
namespace Z288
set_option maxHeartbeats 8000000
inductive Pt where
 | p0 (a b:Int) (c:aD)
def pid:Pt->Nat
 | .p0 ..=>2
def cG:Pt->List V
 | .p0 a b c=>[.own 0,.int .i64 a,.int .i64 b]
def cX:Pt->List aW
 | .p0 a b c=>[.row 227 c]
def step (J:Pt->aI):Pt->aI
 | .p0 a b c=>(cond (b<(c.length:Int)) (m2 b (c.length:Int) (m2 b (c.length:Int) (cg (eY b) (J (.p0 (i64.wrap ((i64.wrap (a+1))+1)) (i64.wrap (b+1)) (List.set c (toNat b) (bn.enc (⟨a,(i64.wrap (a+1))⟩:bn)))))))) (ret ((a,c):Int×aD)))
def start (J:Pt->aI)(x0:aD)(x1:Int):aI:=J (.p0 x1 0 x0)
def live:Nat->Live:=fL [(2,gA [0,1,5])]
def pats:List (Bool×List K):=[(false,[.sl 227]),(false,[au])]
def res:RP:=.pX [227]
abbrev E:Env:={ T:=assoc mq,G:=dM [],nt:=27,M:=gj [],np:=1,mt:=true }
def step_eq (I:cR)(p:Pt):dF E live I (pid p) (bP Tryz.f118) (gp (live (pid p)) (cG p) (cX p)) (cP E Tryz.f118 res)=step (fun q=>I (pid q) (cG q) (cX q)) p:=by
 cases p<;>kernel_rfl
def start_eq (I:cR)(ls:List L):fG E live I (bP Tryz.f118) (jd pats ls) (cP E Tryz.f118 res)=start (fun q=>I (pid q) (cG q) (cX q)) (ls.headD .hole).aS ((ay 1 ls).headD .hole).toInt:=by kernel_rfl
def run_eq (n:Nat)(ls:List L):fc E live Tryz.f118 res n (jd pats ls)=start (iter step n) (ls.headD .hole).aS ((ay 1 ls).headD .hole).toInt:=cO (id:=pid) (vs:=cG) (hs:=cX) (step:=step) (start:=fun J=>start J (ls.headD .hole).aS ((ay 1 ls).headD .hole).toInt) step_eq (fun I=>start_eq I ls) n
def el (x:bn)(k:Int):Int×bn:=((i64.wrap ((i64.wrap (k+1))+1)),(⟨k,(i64.wrap (k+1))⟩:bn))
def lg (x:bn)(k:Int)(hk:fo k):fo (el x k).1:=(cj _)
def cnt (x:bn):Nat:=2
def sum (a:List bn):Nat:=(a.map cnt).sum
def md (a0:List bn)(a1:Int):Int×List bn:=kI el a0 a1
def gd (a0:List bn)(a1:Int):Prop:=fo a1
def acc (ls:List L):aD×Int:=((ls.headD .hole).aS,((ay 1 ls).headD .hole).toInt)
def R:(aD×Int)->Option (Int×aD):=RR (p2 gd) (u2 md)
def aj {a0 a1}(h:gd a0 a1):R ((a0.map bn.row),a1)=some ((md a0 a1).1,((md a0 a1).2.map bn.row)):=cB h
def aU:ia:=MN pats acc R
def bh (a0:List bn)(a1:Int)(hg:gd a0 a1)(h0:a0.length<=maxLen):∃n,start (iter step n) (a0.map bn.row) a1=ret (((md a0 a1).1,((md a0 a1).2.map bn.row)):Int×aD):=by
 show ∃n,iter step n (Pt.p0 a1 0 (a0.map bn.row))=_
 refine iO (el:=el) (xs:=a0) bn.zero fo lg (pt:=fun i k c=>Pt.p0 k (i:Int) (c.map bn.row)) (out:=fun b=>ret (b.1,b.2.map bn.row)) (fun J i k c hi hc hk=>?_) (fun J k c hc=>?_) hg
 ·have hm:c.length<=maxLen:=hc ▸ h0
  simp only [step,SS]
  refine ak (aP hi) ?_
  repeat first | refine ak aK ?_ | refine ak (aP hi) ?_ | refine ak (gx _) ?_
  rw [aJ hi hm]
  exact congrArg (fun q=>J (Pt.p0 (el (c.getD i bn.zero) k).1 ((i+1:Nat):Int) q)) (List.map_set (f:=bn.row) (l:=c) (i:=i) (a:=(el (c.getD i bn.zero) k).2)).symm
 ·simp only [step,SS]
  refine cY dn ?_
  rfl
def af:fJ Tryz.prog Ev 118 aU:=MV (run:=fun n x=>start (iter step n) x.1 x.2) mix aB .nil .nil Tryz.func118 (by kernel_rfl) run_eq (fun ls a hl e hg=>bh a.1 a.2 hg (by have h:(ls.headD .hole).aS.length<=maxLen:=(hl _ _ (.head _)).len;have e:a.1.map bn.row=(ls.headD .hole).aS:=(congrArg (fun x=>x.1) e.symm);rw [<-e] at h;simpa using h))
def iq {a0:List bn}{a1:Int}(h:fo a1):fo (md a0 a1).1:=mQ lg h
def uK (x:bn)(k:Int)(h0:0<=k)(hb:k+(cnt x:Int)<=4611686018427387904):(el x k).1=k+cnt x:=by
 simp only [cnt,Int.natCast_add] at hb ⊢
 simp (disch:=omega) only [el,wi]
 all_goals first | done | omega
def kk (a0:List bn)(a1:Int)(h0:0<=a1)(hb:a1+(sum a0:Int)<=4611686018427387904):(md a0 a1).1=a1+sum a0:=iX uK a0 a1 h0 hb
def sz (a:List bn):sum a<=60*(eC (fun y:bn=>bn.size y) a):=lV (fun x=>by
 try simp only [cnt,bn.size] at *
 omega) a
end Z288
namespace Z289
set_option maxHeartbeats 8000000
inductive Pt where
 | p0 (a b:Int) (c:aD)
def pid:Pt->Nat
 | .p0 ..=>2
def cG:Pt->List V
 | .p0 a b c=>[.own 0,.int .i64 a,.int .i64 b]
def cX:Pt->List aW
 | .p0 a b c=>[.row 178 c]
def step (J:Pt->aI):Pt->aI
 | .p0 a b c=>(cond (b<(c.length:Int)) (m2 b (c.length:Int) (m2 b (c.length:Int) (cg (eY b) (m2 b (c.length:Int) (cg (eY b) (m2 b (c.length:Int) (cg (eY b) (m2 b (c.length:Int) (cg (eY b) (m2 b (c.length:Int) (cg (eY b) (m2 b (c.length:Int) (cg (eY b) (m2 b (c.length:Int) (cg (eY b) (m2 b (c.length:Int) (cg (eY b) (cg (eY b) (call (Z287.R ((aY.at c (toNat b)).an.bR.aN,(i64.wrap ((i64.wrap ((i64.wrap ((i64.wrap ((i64.wrap ((i64.wrap ((i64.wrap ((i64.wrap (a+1))+1))+1))+1))+1))+1))+1))+1)))) fun v1=>(m2 b (c.length:Int) (cg (eY b) (m2 b (c.length:Int) (cg (eY b) (cg (eY b) (call (Z287.R ((aY.at c (toNat b)).an.bE.aN,(i64.wrap (v1.1+1)))) fun v2=>(m2 b (c.length:Int) (cg (eY b) (m2 b (c.length:Int) (cg (eY b) (m2 b (c.length:Int) (cg (eY b) (cg (eY b) (call (Z287.R ((aY.at c (toNat b)).an.bB.aN,(i64.wrap ((i64.wrap (v2.1+1))+1)))) fun v3=>(m2 b (c.length:Int) (cg (eY b) (m2 b (c.length:Int) (cg (eY b) (m2 b (c.length:Int) (cg (eY b) (cg (eY b) (call (Z288.R ((aY.at c (toNat b)).cI,(i64.wrap ((i64.wrap (v3.1+1))+1)))) fun v4=>J (.p0 v4.1 (i64.wrap (b+1)) (List.set c (toNat b) (aY.enc (⟨(⟨a,(i64.wrap (a+1)),(i64.wrap ((i64.wrap (a+1))+1)),(i64.wrap ((i64.wrap ((i64.wrap (a+1))+1))+1)),(i64.wrap ((i64.wrap ((i64.wrap ((i64.wrap (a+1))+1))+1))+1)),(i64.wrap ((i64.wrap ((i64.wrap ((i64.wrap ((i64.wrap (a+1))+1))+1))+1))+1)),(i64.wrap ((i64.wrap ((i64.wrap ((i64.wrap ((i64.wrap ((i64.wrap (a+1))+1))+1))+1))+1))+1)),(i64.wrap ((i64.wrap ((i64.wrap ((i64.wrap ((i64.wrap ((i64.wrap ((i64.wrap (a+1))+1))+1))+1))+1))+1))+1)),(⟨v1.2,v1.1⟩:cN),(⟨v2.2,v2.1⟩:cN),(i64.wrap (v2.1+1)),(⟨v3.2,v3.1⟩:cN),((Int.tmod (i64.wrap (v3.1+1)) 3)==0)⟩:dm),v4.2⟩:aY))))))))))))))))))))))))))))))))))))))))))))) (ret ((a,c):Int×aD)))
def start (J:Pt->aI)(x0:aD)(x1:Int):aI:=J (.p0 x1 0 x0)
def live:Nat->Live:=fL [(2,gA [0,1,5])]
def pats:List (Bool×List K):=[(false,[.sl 178]),(false,[au])]
def res:RP:=.pX [178]
abbrev E:Env:={ T:=assoc mq,G:=dM [],nt:=156,M:=gj [(62,Z287.aU),(118,Z288.aU)],np:=1,mt:=true }
def step_eq (I:cR)(p:Pt):dF E live I (pid p) (bP Tryz.f117) (gp (live (pid p)) (cG p) (cX p)) (cP E Tryz.f117 res)=step (fun q=>I (pid q) (cG q) (cX q)) p:=by
 cases p<;>kernel_rfl
def start_eq (I:cR)(ls:List L):fG E live I (bP Tryz.f117) (jd pats ls) (cP E Tryz.f117 res)=start (fun q=>I (pid q) (cG q) (cX q)) (ls.headD .hole).aS ((ay 1 ls).headD .hole).toInt:=by kernel_rfl
def run_eq (n:Nat)(ls:List L):fc E live Tryz.f117 res n (jd pats ls)=start (iter step n) (ls.headD .hole).aS ((ay 1 ls).headD .hole).toInt:=cO (id:=pid) (vs:=cG) (hs:=cX) (step:=step) (start:=fun J=>start J (ls.headD .hole).aS ((ay 1 ls).headD .hole).toInt) step_eq (fun I=>start_eq I ls) n
def e1 (x:aa)(k:Int):=Z287.md (((x.an).bR).aN) (i64.wrap ((i64.wrap ((i64.wrap ((i64.wrap ((i64.wrap ((i64.wrap ((i64.wrap ((i64.wrap (k+1))+1))+1))+1))+1))+1))+1))+1))
def e2 (x:aa)(k:Int):=Z287.md (((x.an).bE).aN) (i64.wrap ((e1 x k).1+1))
def e3 (x:aa)(k:Int):=Z287.md (((x.an).bB).aN) (i64.wrap ((i64.wrap ((e2 x k).1+1))+1))
def e4 (x:aa)(k:Int):=Z288.md x.cI (i64.wrap ((i64.wrap ((e3 x k).1+1))+1))
def el (x:aa)(k:Int):Int×aa:=((e4 x k).1,(⟨(⟨k,(i64.wrap (k+1)),(i64.wrap ((i64.wrap (k+1))+1)),(i64.wrap ((i64.wrap ((i64.wrap (k+1))+1))+1)),(i64.wrap ((i64.wrap ((i64.wrap ((i64.wrap (k+1))+1))+1))+1)),(i64.wrap ((i64.wrap ((i64.wrap ((i64.wrap ((i64.wrap (k+1))+1))+1))+1))+1)),(i64.wrap ((i64.wrap ((i64.wrap ((i64.wrap ((i64.wrap ((i64.wrap (k+1))+1))+1))+1))+1))+1)),(i64.wrap ((i64.wrap ((i64.wrap ((i64.wrap ((i64.wrap ((i64.wrap ((i64.wrap (k+1))+1))+1))+1))+1))+1))+1)),(⟨(e1 x k).2,(e1 x k).1⟩:aO),(⟨(e2 x k).2,(e2 x k).1⟩:aO),(i64.wrap ((e2 x k).1+1)),(⟨(e3 x k).2,(e3 x k).1⟩:aO),((Int.tmod (i64.wrap ((e3 x k).1+1)) 3)==0)⟩:aE),(e4 x k).2⟩:aa))
def lg (x:aa)(k:Int)(hk:fo k):fo (el x k).1:=(Z288.iq (cj _))
def cnt (x:aa):Nat:=13+Z287.sum (((x.an).bR).aN)+Z287.sum (((x.an).bE).aN)+Z287.sum (((x.an).bB).aN)+Z288.sum x.cI
def sum (a:List aa):Nat:=(a.map cnt).sum
def md (a0:List aa)(a1:Int):Int×List aa:=kI el a0 a1
def gd (a0:List aa)(a1:Int):Prop:=fo a1
def acc (ls:List L):aD×Int:=((ls.headD .hole).aS,((ay 1 ls).headD .hole).toInt)
def R:(aD×Int)->Option (Int×aD):=RR (p2 gd) (u2 md)
def aj {a0 a1}(h:gd a0 a1):R ((a0.map aa.row),a1)=some ((md a0 a1).1,((md a0 a1).2.map aa.row)):=cB h
def aU:ia:=MN pats acc R
def bh (a0:List aa)(a1:Int)(hg:gd a0 a1)(h0:a0.length<=maxLen):∃n,start (iter step n) (a0.map aa.row) a1=ret (((md a0 a1).1,((md a0 a1).2.map aa.row)):Int×aD):=by
 show ∃n,iter step n (Pt.p0 a1 0 (a0.map aa.row))=_
 refine iO (el:=el) (xs:=a0) aa.zero fo lg (pt:=fun i k c=>Pt.p0 k (i:Int) (c.map aa.row)) (out:=fun b=>ret (b.1,b.2.map aa.row)) (fun J i k c hi hc hk=>?_) (fun J k c hc=>?_) hg
 ·have hm:c.length<=maxLen:=hc ▸ h0
  simp only [step,SS]
  refine ak (aP hi) ?_
  repeat first | refine ak aK ?_ | refine ak (aP hi) ?_ | refine ak (gx _) ?_
  refine aX _ (Z287.aj (cj _)) ?_
  repeat first | refine ak aK ?_ | refine ak (aP hi) ?_ | refine ak (gx _) ?_
  refine aX _ (Z287.aj (cj _)) ?_
  repeat first | refine ak aK ?_ | refine ak (aP hi) ?_ | refine ak (gx _) ?_
  refine aX _ (Z287.aj (cj _)) ?_
  repeat first | refine ak aK ?_ | refine ak (aP hi) ?_ | refine ak (gx _) ?_
  refine aX _ (Z288.aj (cj _)) ?_
  rw [aJ hi hm]
  exact congrArg (fun q=>J (Pt.p0 (el (c.getD i aa.zero) k).1 ((i+1:Nat):Int) q)) (List.map_set (f:=aa.row) (l:=c) (i:=i) (a:=(el (c.getD i aa.zero) k).2)).symm
 ·simp only [step,SS]
  refine cY dn ?_
  rfl
def af:fJ Tryz.prog Ev 117 aU:=MV (run:=fun n x=>start (iter step n) x.1 x.2) mix aB .nil (.cons Z287.af (.cons Z288.af .nil)) Tryz.func117 (by kernel_rfl) run_eq (fun ls a hl e hg=>bh a.1 a.2 hg (by have h:(ls.headD .hole).aS.length<=maxLen:=(hl _ _ (.head _)).len;have e:a.1.map aa.row=(ls.headD .hole).aS:=(congrArg (fun x=>x.1) e.symm);rw [<-e] at h;simpa using h))
def iq {a0:List aa}{a1:Int}(h:fo a1):fo (md a0 a1).1:=mQ lg h
def uK (x:aa)(k:Int)(h0:0<=k)(hb:k+(cnt x:Int)<=4611686018427387904):(el x k).1=k+cnt x:=by
 simp only [cnt,Int.natCast_add] at hb ⊢
 simp (disch:=omega) only [el,e1,e2,e3,e4,wi,Z287.kk,Z288.kk]
 all_goals first | done | omega
def kk (a0:List aa)(a1:Int)(h0:0<=a1)(hb:a1+(sum a0:Int)<=4611686018427387904):(md a0 a1).1=a1+sum a0:=iX uK a0 a1 h0 hb
def sz (a:List aa):sum a<=60*(eC (fun y:aa=>aa.size y) a):=lV (fun x=>by
 have:=Z287.sz (((x.an).bR).aN)
 have:=Z287.sz (((x.an).bE).aN)
 have:=Z287.sz (((x.an).bB).aN)
 have:=Z288.sz x.cI
 try simp only [cnt,aa.size,aE.size,aO.size] at *
 omega) a
end Z289
namespace Z290
set_option maxHeartbeats 8000000
inductive Pt where
 | p0 (a b:Int) (c:aD)
def pid:Pt->Nat
 | .p0 ..=>2
def cG:Pt->List V
 | .p0 a b c=>[.own 0,.int .i64 a,.int .i64 b]
def cX:Pt->List aW
 | .p0 a b c=>[.row 120 c]
def step (J:Pt->aI):Pt->aI
 | .p0 a b c=>(cond (b<(c.length:Int)) (m2 b (c.length:Int) (call (Z289.R ((qd c (toNat b)),a)) fun v1=>J (.p0 v1.1 (i64.wrap (b+1)) (List.set c (toNat b) [L.sl v1.2])))) (ret ((a,c):Int×aD)))
def start (J:Pt->aI)(x0:aD)(x1:Int):aI:=J (.p0 x1 0 x0)
def live:Nat->Live:=fL [(2,gA [0,1,5])]
def pats:List (Bool×List K):=[(false,[.sl 120]),(false,[au])]
def res:RP:=.pX [120]
abbrev E:Env:={ T:=assoc mq,G:=dM [],nt:=19,M:=gj [(117,Z289.aU)],np:=1,mt:=true }
def step_eq (I:cR)(p:Pt):dF E live I (pid p) (bP Tryz.f57) (gp (live (pid p)) (cG p) (cX p)) (cP E Tryz.f57 res)=step (fun q=>I (pid q) (cG q) (cX q)) p:=by
 cases p<;>kernel_rfl
def start_eq (I:cR)(ls:List L):fG E live I (bP Tryz.f57) (jd pats ls) (cP E Tryz.f57 res)=start (fun q=>I (pid q) (cG q) (cX q)) (ls.headD .hole).aS ((ay 1 ls).headD .hole).toInt:=by kernel_rfl
def run_eq (n:Nat)(ls:List L):fc E live Tryz.f57 res n (jd pats ls)=start (iter step n) (ls.headD .hole).aS ((ay 1 ls).headD .hole).toInt:=cO (id:=pid) (vs:=cG) (hs:=cX) (step:=step) (start:=fun J=>start J (ls.headD .hole).aS ((ay 1 ls).headD .hole).toInt) step_eq (fun I=>start_eq I ls) n
def e1 (x:List aa)(k:Int):=Z289.md x k
def el (x:List aa)(k:Int):Int×(List aa):=((e1 x k).1,((e1 x k).2))
def lg (x:List aa)(k:Int)(hk:fo k):fo (el x k).1:=(Z289.iq hk)
def cnt (x:List aa):Nat:=0+Z289.sum x
def sum (a:List (List aa)):Nat:=(a.map cnt).sum
def md (a0:List (List aa))(a1:Int):Int×List (List aa):=kI el a0 a1
def gd (a0:List (List aa))(a1:Int):Prop:=fo a1
def acc (ls:List L):aD×Int:=((ls.headD .hole).aS,((ay 1 ls).headD .hole).toInt)
def R:(aD×Int)->Option (Int×aD):=RR (p2 gd) (u2 md)
def aj {a0 a1}(h:gd a0 a1):R ((a0.map (eg aa.row)),a1)=some ((md a0 a1).1,((md a0 a1).2.map (eg aa.row))):=cB h
def aU:ia:=MN pats acc R
def bh (a0:List (List aa))(a1:Int)(hg:gd a0 a1)(h0:a0.length<=maxLen):∃n,start (iter step n) (a0.map (eg aa.row)) a1=ret (((md a0 a1).1,((md a0 a1).2.map (eg aa.row))):Int×aD):=by
 show ∃n,iter step n (Pt.p0 a1 0 (a0.map (eg aa.row)))=_
 refine iO (el:=el) (xs:=a0) [] fo lg (pt:=fun i k c=>Pt.p0 k (i:Int) (c.map (eg aa.row))) (out:=fun b=>ret (b.1,b.2.map (eg aa.row))) (fun J i k c hi hc hk=>?_) (fun J k c hc=>?_) hg
 ·have hm:c.length<=maxLen:=hc ▸ h0
  simp only [step,SS]
  refine ak (aP hi) (ak aK ?_)
  refine ak (aP hi) (aX _ (Z289.aj hk) ?_)
  rw [aJ hi hm]
  exact congrArg (fun q=>J (Pt.p0 (el (c.getD i []) k).1 ((i+1:Nat):Int) q)) (List.map_set (f:=(eg aa.row)) (l:=c) (i:=i) (a:=(el (c.getD i []) k).2)).symm
 ·simp only [step,SS]
  refine cY dn ?_
  rfl
def af:fJ Tryz.prog Ev 57 aU:=MV (run:=fun n x=>start (iter step n) x.1 x.2) mix aB .nil (.cons Z289.af .nil) Tryz.func57 (by kernel_rfl) run_eq (fun ls a hl e hg=>bh a.1 a.2 hg (by have h:(ls.headD .hole).aS.length<=maxLen:=(hl _ _ (.head _)).len;have e:a.1.map (eg aa.row)=(ls.headD .hole).aS:=(congrArg (fun x=>x.1) e.symm);rw [<-e] at h;simpa using h))
def iq {a0:List (List aa)}{a1:Int}(h:fo a1):fo (md a0 a1).1:=mQ lg h
def uK (x:List aa)(k:Int)(h0:0<=k)(hb:k+(cnt x:Int)<=4611686018427387904):(el x k).1=k+cnt x:=by
 simp only [cnt,Int.natCast_add] at hb ⊢
 simp (disch:=omega) only [el,e1,wi,Z289.kk]
 all_goals first | done | omega
def kk (a0:List (List aa))(a1:Int)(h0:0<=a1)(hb:a1+(sum a0:Int)<=4611686018427387904):(md a0 a1).1=a1+sum a0:=iX uK a0 a1 h0 hb
def sz (a:List (List aa)):sum a<=60*(eC (fun y:List aa=>eC (fun y:aa=>aa.size y) y) a):=lV (fun x=>by
 have:=Z289.sz x
 try simp only [cnt] at *
 omega) a
end Z290
namespace Z291
set_option maxHeartbeats 8000000
inductive Pt where
 | p0 (a b:Int) (c:aD)
def pid:Pt->Nat
 | .p0 ..=>2
def cG:Pt->List V
 | .p0 a b c=>[.own 0,.int .i64 a,.int .i64 b]
def cX:Pt->List aW
 | .p0 a b c=>[.row 180 c]
def step (J:Pt->aI):Pt->aI
 | .p0 a b c=>(cond (b<(c.length:Int)) (m2 b (c.length:Int) (m2 b (c.length:Int) (cg (eY b) (m2 b (c.length:Int) (cg (eY b) (m2 b (c.length:Int) (cg (eY b) (m2 b (c.length:Int) (cg (eY b) (m2 b (c.length:Int) (cg (eY b) (m2 b (c.length:Int) (cg (eY b) (m2 b (c.length:Int) (cg (eY b) (m2 b (c.length:Int) (cg (eY b) (cg (eY b) (call (Z287.R ((bM.at c (toNat b)).aM.an.bR.aN,(i64.wrap ((i64.wrap ((i64.wrap ((i64.wrap ((i64.wrap ((i64.wrap ((i64.wrap ((i64.wrap (a+1))+1))+1))+1))+1))+1))+1))+1)))) fun v1=>(m2 b (c.length:Int) (cg (eY b) (m2 b (c.length:Int) (cg (eY b) (cg (eY b) (call (Z287.R ((bM.at c (toNat b)).aM.an.bE.aN,(i64.wrap (v1.1+1)))) fun v2=>(m2 b (c.length:Int) (cg (eY b) (m2 b (c.length:Int) (cg (eY b) (m2 b (c.length:Int) (cg (eY b) (cg (eY b) (call (Z287.R ((bM.at c (toNat b)).aM.an.bB.aN,(i64.wrap ((i64.wrap (v2.1+1))+1)))) fun v3=>(m2 b (c.length:Int) (cg (eY b) (m2 b (c.length:Int) (cg (eY b) (m2 b (c.length:Int) (cg (eY b) (cg (eY b) (call (Z288.R ((bM.at c (toNat b)).aM.cI,(i64.wrap ((i64.wrap (v3.1+1))+1)))) fun v4=>(m2 b (c.length:Int) (cg (eY b) (m2 b (c.length:Int) (cg (eY b) (m2 b (c.length:Int) (cg (eY b) (m2 b (c.length:Int) (cg (eY b) (m2 b (c.length:Int) (cg (eY b) (m2 b (c.length:Int) (cg (eY b) (m2 b (c.length:Int) (cg (eY b) (m2 b (c.length:Int) (cg (eY b) (m2 b (c.length:Int) (cg (eY b) (cg (eY b) (call (Z287.R ((bM.at c (toNat b)).fA.an.bR.aN,(i64.wrap ((i64.wrap ((i64.wrap ((i64.wrap ((i64.wrap ((i64.wrap ((i64.wrap ((i64.wrap (v4.1+1))+1))+1))+1))+1))+1))+1))+1)))) fun v5=>(m2 b (c.length:Int) (cg (eY b) (m2 b (c.length:Int) (cg (eY b) (cg (eY b) (call (Z287.R ((bM.at c (toNat b)).fA.an.bE.aN,(i64.wrap (v5.1+1)))) fun v6=>(m2 b (c.length:Int) (cg (eY b) (m2 b (c.length:Int) (cg (eY b) (m2 b (c.length:Int) (cg (eY b) (cg (eY b) (call (Z287.R ((bM.at c (toNat b)).fA.an.bB.aN,(i64.wrap ((i64.wrap (v6.1+1))+1)))) fun v7=>(m2 b (c.length:Int) (cg (eY b) (m2 b (c.length:Int) (cg (eY b) (m2 b (c.length:Int) (cg (eY b) (cg (eY b) (call (Z288.R ((bM.at c (toNat b)).fA.cI,(i64.wrap ((i64.wrap (v7.1+1))+1)))) fun v8=>(m2 b (c.length:Int) (cg (eY b) (m2 b (c.length:Int) (cg (eY b) (m2 b (c.length:Int) (cg (eY b) (m2 b (c.length:Int) (cg (eY b) (m2 b (c.length:Int) (cg (eY b) (m2 b (c.length:Int) (cg (eY b) (m2 b (c.length:Int) (cg (eY b) (m2 b (c.length:Int) (cg (eY b) (m2 b (c.length:Int) (cg (eY b) (cg (eY b) (call (Z287.R ((bM.at c (toNat b)).fB.an.bR.aN,(i64.wrap ((i64.wrap ((i64.wrap ((i64.wrap ((i64.wrap ((i64.wrap ((i64.wrap ((i64.wrap (v8.1+1))+1))+1))+1))+1))+1))+1))+1)))) fun v9=>(m2 b (c.length:Int) (cg (eY b) (m2 b (c.length:Int) (cg (eY b) (cg (eY b) (call (Z287.R ((bM.at c (toNat b)).fB.an.bE.aN,(i64.wrap (v9.1+1)))) fun v10=>(m2 b (c.length:Int) (cg (eY b) (m2 b (c.length:Int) (cg (eY b) (m2 b (c.length:Int) (cg (eY b) (cg (eY b) (call (Z287.R ((bM.at c (toNat b)).fB.an.bB.aN,(i64.wrap ((i64.wrap (v10.1+1))+1)))) fun v11=>(m2 b (c.length:Int) (cg (eY b) (m2 b (c.length:Int) (cg (eY b) (m2 b (c.length:Int) (cg (eY b) (cg (eY b) (call (Z288.R ((bM.at c (toNat b)).fB.cI,(i64.wrap ((i64.wrap (v11.1+1))+1)))) fun v12=>J (.p0 v12.1 (i64.wrap (b+1)) (List.set c (toNat b) (bM.enc (⟨(⟨(⟨a,(i64.wrap (a+1)),(i64.wrap ((i64.wrap (a+1))+1)),(i64.wrap ((i64.wrap ((i64.wrap (a+1))+1))+1)),(i64.wrap ((i64.wrap ((i64.wrap ((i64.wrap (a+1))+1))+1))+1)),(i64.wrap ((i64.wrap ((i64.wrap ((i64.wrap ((i64.wrap (a+1))+1))+1))+1))+1)),(i64.wrap ((i64.wrap ((i64.wrap ((i64.wrap ((i64.wrap ((i64.wrap (a+1))+1))+1))+1))+1))+1)),(i64.wrap ((i64.wrap ((i64.wrap ((i64.wrap ((i64.wrap ((i64.wrap ((i64.wrap (a+1))+1))+1))+1))+1))+1))+1)),(⟨v1.2,v1.1⟩:cN),(⟨v2.2,v2.1⟩:cN),(i64.wrap (v2.1+1)),(⟨v3.2,v3.1⟩:cN),((Int.tmod (i64.wrap (v3.1+1)) 3)==0)⟩:dm),v4.2⟩:aY),(⟨(⟨v4.1,(i64.wrap (v4.1+1)),(i64.wrap ((i64.wrap (v4.1+1))+1)),(i64.wrap ((i64.wrap ((i64.wrap (v4.1+1))+1))+1)),(i64.wrap ((i64.wrap ((i64.wrap ((i64.wrap (v4.1+1))+1))+1))+1)),(i64.wrap ((i64.wrap ((i64.wrap ((i64.wrap ((i64.wrap (v4.1+1))+1))+1))+1))+1)),(i64.wrap ((i64.wrap ((i64.wrap ((i64.wrap ((i64.wrap ((i64.wrap (v4.1+1))+1))+1))+1))+1))+1)),(i64.wrap ((i64.wrap ((i64.wrap ((i64.wrap ((i64.wrap ((i64.wrap ((i64.wrap (v4.1+1))+1))+1))+1))+1))+1))+1)),(⟨v5.2,v5.1⟩:cN),(⟨v6.2,v6.1⟩:cN),(i64.wrap (v6.1+1)),(⟨v7.2,v7.1⟩:cN),((Int.tmod (i64.wrap (v7.1+1)) 3)==0)⟩:dm),v8.2⟩:aY),(⟨(⟨v8.1,(i64.wrap (v8.1+1)),(i64.wrap ((i64.wrap (v8.1+1))+1)),(i64.wrap ((i64.wrap ((i64.wrap (v8.1+1))+1))+1)),(i64.wrap ((i64.wrap ((i64.wrap ((i64.wrap (v8.1+1))+1))+1))+1)),(i64.wrap ((i64.wrap ((i64.wrap ((i64.wrap ((i64.wrap (v8.1+1))+1))+1))+1))+1)),(i64.wrap ((i64.wrap ((i64.wrap ((i64.wrap ((i64.wrap ((i64.wrap (v8.1+1))+1))+1))+1))+1))+1)),(i64.wrap ((i64.wrap ((i64.wrap ((i64.wrap ((i64.wrap ((i64.wrap ((i64.wrap (v8.1+1))+1))+1))+1))+1))+1))+1)),(⟨v9.2,v9.1⟩:cN),(⟨v10.2,v10.1⟩:cN),(i64.wrap (v10.1+1)),(⟨v11.2,v11.1⟩:cN),((Int.tmod (i64.wrap (v11.1+1)) 3)==0)⟩:dm),v12.2⟩:aY)⟩:bM))))))))))))))))))))))))))))))))))))))))))))))))))))))))))))))))))))))))))))))))))))))))))))))))))))))))))))))))))))))))))))))))) (ret ((a,c):Int×aD)))
def start (J:Pt->aI)(x0:aD)(x1:Int):aI:=J (.p0 x1 0 x0)
def live:Nat->Live:=fL [(2,gA [0,1,5])]
def pats:List (Bool×List K):=[(false,[.sl 180]),(false,[au])]
def res:RP:=.pX [180]
abbrev E:Env:={ T:=assoc mq,G:=dM [],nt:=493,M:=gj [(62,Z287.aU),(118,Z288.aU)],np:=1,mt:=true }
def step_eq (I:cR)(p:Pt):dF E live I (pid p) (bP Tryz.f58) (gp (live (pid p)) (cG p) (cX p)) (cP E Tryz.f58 res)=step (fun q=>I (pid q) (cG q) (cX q)) p:=by
 cases p<;>kernel_rfl
def start_eq (I:cR)(ls:List L):fG E live I (bP Tryz.f58) (jd pats ls) (cP E Tryz.f58 res)=start (fun q=>I (pid q) (cG q) (cX q)) (ls.headD .hole).aS ((ay 1 ls).headD .hole).toInt:=by kernel_rfl
def run_eq (n:Nat)(ls:List L):fc E live Tryz.f58 res n (jd pats ls)=start (iter step n) (ls.headD .hole).aS ((ay 1 ls).headD .hole).toInt:=cO (id:=pid) (vs:=cG) (hs:=cX) (step:=step) (start:=fun J=>start J (ls.headD .hole).aS ((ay 1 ls).headD .hole).toInt) step_eq (fun I=>start_eq I ls) n
def e1 (x:aF)(k:Int):=Z287.md ((((x.aM).an).bR).aN) (i64.wrap ((i64.wrap ((i64.wrap ((i64.wrap ((i64.wrap ((i64.wrap ((i64.wrap ((i64.wrap (k+1))+1))+1))+1))+1))+1))+1))+1))
def e2 (x:aF)(k:Int):=Z287.md ((((x.aM).an).bE).aN) (i64.wrap ((e1 x k).1+1))
def e3 (x:aF)(k:Int):=Z287.md ((((x.aM).an).bB).aN) (i64.wrap ((i64.wrap ((e2 x k).1+1))+1))
def e4 (x:aF)(k:Int):=Z288.md ((x.aM).cI) (i64.wrap ((i64.wrap ((e3 x k).1+1))+1))
def e5 (x:aF)(k:Int):=Z287.md ((((x.fA).an).bR).aN) (i64.wrap ((i64.wrap ((i64.wrap ((i64.wrap ((i64.wrap ((i64.wrap ((i64.wrap ((i64.wrap ((e4 x k).1+1))+1))+1))+1))+1))+1))+1))+1))
def e6 (x:aF)(k:Int):=Z287.md ((((x.fA).an).bE).aN) (i64.wrap ((e5 x k).1+1))
def e7 (x:aF)(k:Int):=Z287.md ((((x.fA).an).bB).aN) (i64.wrap ((i64.wrap ((e6 x k).1+1))+1))
def e8 (x:aF)(k:Int):=Z288.md ((x.fA).cI) (i64.wrap ((i64.wrap ((e7 x k).1+1))+1))
def e9 (x:aF)(k:Int):=Z287.md ((((x.fB).an).bR).aN) (i64.wrap ((i64.wrap ((i64.wrap ((i64.wrap ((i64.wrap ((i64.wrap ((i64.wrap ((i64.wrap ((e8 x k).1+1))+1))+1))+1))+1))+1))+1))+1))
def za (x:aF)(k:Int):=Z287.md ((((x.fB).an).bE).aN) (i64.wrap ((e9 x k).1+1))
def yZ (x:aF)(k:Int):=Z287.md ((((x.fB).an).bB).aN) (i64.wrap ((i64.wrap ((za x k).1+1))+1))
def Bx (x:aF)(k:Int):=Z288.md ((x.fB).cI) (i64.wrap ((i64.wrap ((yZ x k).1+1))+1))
def el (x:aF)(k:Int):Int×aF:=((Bx x k).1,(⟨(⟨(⟨k,(i64.wrap (k+1)),(i64.wrap ((i64.wrap (k+1))+1)),(i64.wrap ((i64.wrap ((i64.wrap (k+1))+1))+1)),(i64.wrap ((i64.wrap ((i64.wrap ((i64.wrap (k+1))+1))+1))+1)),(i64.wrap ((i64.wrap ((i64.wrap ((i64.wrap ((i64.wrap (k+1))+1))+1))+1))+1)),(i64.wrap ((i64.wrap ((i64.wrap ((i64.wrap ((i64.wrap ((i64.wrap (k+1))+1))+1))+1))+1))+1)),(i64.wrap ((i64.wrap ((i64.wrap ((i64.wrap ((i64.wrap ((i64.wrap ((i64.wrap (k+1))+1))+1))+1))+1))+1))+1)),(⟨(e1 x k).2,(e1 x k).1⟩:aO),(⟨(e2 x k).2,(e2 x k).1⟩:aO),(i64.wrap ((e2 x k).1+1)),(⟨(e3 x k).2,(e3 x k).1⟩:aO),((Int.tmod (i64.wrap ((e3 x k).1+1)) 3)==0)⟩:aE),(e4 x k).2⟩:aa),(⟨(⟨(e4 x k).1,(i64.wrap ((e4 x k).1+1)),(i64.wrap ((i64.wrap ((e4 x k).1+1))+1)),(i64.wrap ((i64.wrap ((i64.wrap ((e4 x k).1+1))+1))+1)),(i64.wrap ((i64.wrap ((i64.wrap ((i64.wrap ((e4 x k).1+1))+1))+1))+1)),(i64.wrap ((i64.wrap ((i64.wrap ((i64.wrap ((i64.wrap ((e4 x k).1+1))+1))+1))+1))+1)),(i64.wrap ((i64.wrap ((i64.wrap ((i64.wrap ((i64.wrap ((i64.wrap ((e4 x k).1+1))+1))+1))+1))+1))+1)),(i64.wrap ((i64.wrap ((i64.wrap ((i64.wrap ((i64.wrap ((i64.wrap ((i64.wrap ((e4 x k).1+1))+1))+1))+1))+1))+1))+1)),(⟨(e5 x k).2,(e5 x k).1⟩:aO),(⟨(e6 x k).2,(e6 x k).1⟩:aO),(i64.wrap ((e6 x k).1+1)),(⟨(e7 x k).2,(e7 x k).1⟩:aO),((Int.tmod (i64.wrap ((e7 x k).1+1)) 3)==0)⟩:aE),(e8 x k).2⟩:aa),(⟨(⟨(e8 x k).1,(i64.wrap ((e8 x k).1+1)),(i64.wrap ((i64.wrap ((e8 x k).1+1))+1)),(i64.wrap ((i64.wrap ((i64.wrap ((e8 x k).1+1))+1))+1)),(i64.wrap ((i64.wrap ((i64.wrap ((i64.wrap ((e8 x k).1+1))+1))+1))+1)),(i64.wrap ((i64.wrap ((i64.wrap ((i64.wrap ((i64.wrap ((e8 x k).1+1))+1))+1))+1))+1)),(i64.wrap ((i64.wrap ((i64.wrap ((i64.wrap ((i64.wrap ((i64.wrap ((e8 x k).1+1))+1))+1))+1))+1))+1)),(i64.wrap ((i64.wrap ((i64.wrap ((i64.wrap ((i64.wrap ((i64.wrap ((i64.wrap ((e8 x k).1+1))+1))+1))+1))+1))+1))+1)),(⟨(e9 x k).2,(e9 x k).1⟩:aO),(⟨(za x k).2,(za x k).1⟩:aO),(i64.wrap ((za x k).1+1)),(⟨(yZ x k).2,(yZ x k).1⟩:aO),((Int.tmod (i64.wrap ((yZ x k).1+1)) 3)==0)⟩:aE),(Bx x k).2⟩:aa)⟩:aF))
def lg (x:aF)(k:Int)(hk:fo k):fo (el x k).1:=(Z288.iq (cj _))
def cnt (x:aF):Nat:=39+Z287.sum ((((x.aM).an).bR).aN)+Z287.sum ((((x.aM).an).bE).aN)+Z287.sum ((((x.aM).an).bB).aN)+Z288.sum ((x.aM).cI)+Z287.sum ((((x.fA).an).bR).aN)+Z287.sum ((((x.fA).an).bE).aN)+Z287.sum ((((x.fA).an).bB).aN)+Z288.sum ((x.fA).cI)+Z287.sum ((((x.fB).an).bR).aN)+Z287.sum ((((x.fB).an).bE).aN)+Z287.sum ((((x.fB).an).bB).aN)+Z288.sum ((x.fB).cI)
def sum (a:List aF):Nat:=(a.map cnt).sum
def md (a0:List aF)(a1:Int):Int×List aF:=kI el a0 a1
def gd (a0:List aF)(a1:Int):Prop:=fo a1
def acc (ls:List L):aD×Int:=((ls.headD .hole).aS,((ay 1 ls).headD .hole).toInt)
def R:(aD×Int)->Option (Int×aD):=RR (p2 gd) (u2 md)
def aj {a0 a1}(h:gd a0 a1):R ((a0.map aF.row),a1)=some ((md a0 a1).1,((md a0 a1).2.map aF.row)):=cB h
def aU:ia:=MN pats acc R
def bh (a0:List aF)(a1:Int)(hg:gd a0 a1)(h0:a0.length<=maxLen):∃n,start (iter step n) (a0.map aF.row) a1=ret (((md a0 a1).1,((md a0 a1).2.map aF.row)):Int×aD):=by
 show ∃n,iter step n (Pt.p0 a1 0 (a0.map aF.row))=_
 refine iO (el:=el) (xs:=a0) aF.zero fo lg (pt:=fun i k c=>Pt.p0 k (i:Int) (c.map aF.row)) (out:=fun b=>ret (b.1,b.2.map aF.row)) (fun J i k c hi hc hk=>?_) (fun J k c hc=>?_) hg
 ·have hm:c.length<=maxLen:=hc ▸ h0
  simp only [step,SS]
  refine ak (aP hi) ?_
  repeat first | refine ak aK ?_ | refine ak (aP hi) ?_ | refine ak (gx _) ?_
  refine aX _ (Z287.aj (cj _)) ?_
  repeat first | refine ak aK ?_ | refine ak (aP hi) ?_ | refine ak (gx _) ?_
  refine aX _ (Z287.aj (cj _)) ?_
  repeat first | refine ak aK ?_ | refine ak (aP hi) ?_ | refine ak (gx _) ?_
  refine aX _ (Z287.aj (cj _)) ?_
  repeat first | refine ak aK ?_ | refine ak (aP hi) ?_ | refine ak (gx _) ?_
  refine aX _ (Z288.aj (cj _)) ?_
  repeat first | refine ak aK ?_ | refine ak (aP hi) ?_ | refine ak (gx _) ?_
  refine aX _ (Z287.aj (cj _)) ?_
  repeat first | refine ak aK ?_ | refine ak (aP hi) ?_ | refine ak (gx _) ?_
  refine aX _ (Z287.aj (cj _)) ?_
  repeat first | refine ak aK ?_ | refine ak (aP hi) ?_ | refine ak (gx _) ?_
  refine aX _ (Z287.aj (cj _)) ?_
  repeat first | refine ak aK ?_ | refine ak (aP hi) ?_ | refine ak (gx _) ?_
  refine aX _ (Z288.aj (cj _)) ?_
  repeat first | refine ak aK ?_ | refine ak (aP hi) ?_ | refine ak (gx _) ?_
  refine aX _ (Z287.aj (cj _)) ?_
  repeat first | refine ak aK ?_ | refine ak (aP hi) ?_ | refine ak (gx _) ?_
  refine aX _ (Z287.aj (cj _)) ?_
  repeat first | refine ak aK ?_ | refine ak (aP hi) ?_ | refine ak (gx _) ?_
  refine aX _ (Z287.aj (cj _)) ?_
  repeat first | refine ak aK ?_ | refine ak (aP hi) ?_ | refine ak (gx _) ?_
  refine aX _ (Z288.aj (cj _)) ?_
  rw [aJ hi hm]
  exact congrArg (fun q=>J (Pt.p0 (el (c.getD i aF.zero) k).1 ((i+1:Nat):Int) q)) (List.map_set (f:=aF.row) (l:=c) (i:=i) (a:=(el (c.getD i aF.zero) k).2)).symm
 ·simp only [step,SS]
  refine cY dn ?_
  rfl
def af:fJ Tryz.prog Ev 58 aU:=MV (run:=fun n x=>start (iter step n) x.1 x.2) mix aB .nil (.cons Z287.af (.cons Z288.af .nil)) Tryz.func58 (by kernel_rfl) run_eq (fun ls a hl e hg=>bh a.1 a.2 hg (by have h:(ls.headD .hole).aS.length<=maxLen:=(hl _ _ (.head _)).len;have e:a.1.map aF.row=(ls.headD .hole).aS:=(congrArg (fun x=>x.1) e.symm);rw [<-e] at h;simpa using h))
def iq {a0:List aF}{a1:Int}(h:fo a1):fo (md a0 a1).1:=mQ lg h
def uK (x:aF)(k:Int)(h0:0<=k)(hb:k+(cnt x:Int)<=4611686018427387904):(el x k).1=k+cnt x:=by
 simp only [cnt,Int.natCast_add] at hb ⊢
 simp (disch:=omega) only [el,e1,e2,e3,e4,e5,e6,e7,e8,e9,za,yZ,Bx,wi,Z287.kk,Z288.kk]
 all_goals first | done | omega
def kk (a0:List aF)(a1:Int)(h0:0<=a1)(hb:a1+(sum a0:Int)<=4611686018427387904):(md a0 a1).1=a1+sum a0:=iX uK a0 a1 h0 hb
def sz (a:List aF):sum a<=60*(eC (fun y:aF=>aF.size y) a):=lV (fun x=>by
 have:=Z287.sz ((((x.aM).an).bR).aN)
 have:=Z287.sz ((((x.aM).an).bE).aN)
 have:=Z287.sz ((((x.aM).an).bB).aN)
 have:=Z288.sz ((x.aM).cI)
 have:=Z287.sz ((((x.fA).an).bR).aN)
 have:=Z287.sz ((((x.fA).an).bE).aN)
 have:=Z287.sz ((((x.fA).an).bB).aN)
 have:=Z288.sz ((x.fA).cI)
 have:=Z287.sz ((((x.fB).an).bR).aN)
 have:=Z287.sz ((((x.fB).an).bE).aN)
 have:=Z287.sz ((((x.fB).an).bB).aN)
 have:=Z288.sz ((x.fB).cI)
 try simp only [cnt,aF.size,aa.size,aE.size,aO.size] at *
 omega) a
end Z291
namespace Z292
set_option maxHeartbeats 8000000
def F (x0:bu)(x1:Int):aI:=(call (Z290.R (x0.aL,x1)) fun v1=>(call (Z291.R (x0.bp,v1.1)) fun v2=>ret ((v2.1,v1.2,v2.2):Int×aD×aD)))
def pats:List (Bool×List K):=[(true,[.sl 120,.sl 180]),(false,[au])]
def res:RP:=.pX [120,180]
def e1 (x:av)(k:Int):=Z290.md x.aL k
def e2 (x:av)(k:Int):=Z291.md x.bp ((e1 x k).1)
def sum (x:av):Nat:=0+Z290.sum x.aL+Z291.sum x.bp
def md (a0:av)(a1:Int):Int×List (List aa)×List aF:=((e2 a0 a1).1,(e1 a0 a1).2,(e2 a0 a1).2)
def gd (a0:av)(a1:Int):Prop:=fo a1
def acc (ls:List L):bu×Int:=((bu.dec ls),((ay 2 ls).headD .hole).toInt)
def R:(bu×Int)->Option (Int×aD×aD):=RR (p2 gd) (u2 md)
def aj {a0 a1}(h:gd a0 a1):R ((av.r a0),a1)=some ((md a0 a1).1,((md a0 a1).2.1.map (eg aa.row)),((md a0 a1).2.2.map aF.row)):=cB h
def aU:ia:=MN pats acc R
def bh (a0:av)(a1:Int)(hg:gd a0 a1):F (av.r a0) a1=ret (((md a0 a1).1,((md a0 a1).2.1.map (eg aa.row)),((md a0 a1).2.2.map aF.row)):Int×aD×aD):=by
 unfold gd at hg
 simp only [F,SS]
 unfold md
 refine aX ((e1 a0 a1).1,((e1 a0 a1).2.map (eg aa.row))) (Z290.aj (a0:=a0.aL) (a1:=a1) hg) ?_
 refine aX ((e2 a0 a1).1,((e2 a0 a1).2.map aF.row)) (Z291.aj (a0:=a0.bp) (a1:=(e1 a0 a1).1) (Z290.iq hg)) ?_
 first | rfl | (simp only [SS];rfl)
def af:fJ Tryz.prog Ev 20 aU:=MV (live:=fun _=>[]) (nt:=14) (run:=fun _ x=>F x.1 x.2) mix aB .nil (.cons Z290.af (.cons Z291.af .nil)) Tryz.func20 (by kernel_rfl) (fun _ _=>by kernel_rfl) (fun _ a _ _ hg=>⟨0,bh a.1 a.2 hg⟩)
def iq {a0:av}{a1:Int}(hk:fo a1):fo (md a0 a1).1:=(Z291.iq (Z290.iq hk))
def kk (x:av)(k:Int)(h0:0<=k)(hb:k+(sum x:Int)<=4611686018427387904):(md x k).1=k+sum x:=by
 simp only [sum,Int.natCast_add] at hb ⊢
 simp (disch:=omega) only [md,e1,e2,wi,Z290.kk,Z291.kk]
 all_goals first | done | omega
def sz (x:av):sum x<=60*av.size x:=by
 have:=Z290.sz x.aL
 have:=Z291.sz x.bp
 try simp only [sum,av.size] at *
 omega
def upd (x:av)(k:Int):av:=(⟨(md x k).2.1,(md x k).2.2⟩:av)
end Z292
namespace Z293
inductive Pt where
 | p0 (a:Int) (b:aC)
def cG:Pt->List V
 | .p0 a b=>[.int .i64 a,.str b]
def step (J:Pt->aI):Pt->aI
 | .p0 a b=>(cond (a>0) (cond ((((wE [[L.int (IntKind.u8.wrap (i64.wrap (48+(Int.tmod a 10))))]]).size+b.size:Nat):Int)>9223372036854775807) none (J (.p0 (i64.wrap (Int.tdiv a 10)) ((wE [[L.int (IntKind.u8.wrap (i64.wrap (48+(Int.tmod a 10))))]])++b)))) (cond ((((⟨#[109]⟩:aC).size+b.size:Nat):Int)>9223372036854775807) none (ret (((⟨#[109]⟩:aC)++b):aC))))
def start (J:Pt->aI)(x0:Int):aI:=(cond (x0<=0) (ret ((⟨#[109,48]⟩:aC):aC)) (J (.p0 x0 ⟨#[]⟩)))
def live:Nat->Live:=fL [(4,gA [0,3])]
def dg (a:Int):aC:=wE [[L.int (IntKind.u8.wrap (i64.wrap (48+(Int.tmod a 10))))]]
def txt:Nat->Int->aC->aC
 | 0,_,b=>b
 | n+1,a,b=>bif decide (a>0) then txt n (i64.wrap (Int.tdiv a 10)) (dg a++b) else b
def AW (a:Int):(wE [[L.int (IntKind.u8.wrap (i64.wrap (48+(Int.tmod a 10))))]]).size=1:=rfl
def run:∀(n:Nat) (a:Int) (b:aC),n<=64->a<2^n->fo a->b.size+n<=1000->∃m,iter step m (.p0 a b)=ret ((⟨#[109]⟩:aC)++txt n a b)
 | 0,a,b,_,h1,_,h3=>by
  refine ⟨1,?_⟩
  show step _ (.p0 a b)=_
  have e1:decide (a>0)=false:=decide_eq_false (by simp at h1;omega)
  have e2:decide ((((⟨#[109]⟩:aC).size+b.size:Nat):Int)>9223372036854775807)=false:=decide_eq_false (by have :(⟨#[109]⟩:aC).size=1:=rfl;omega)
  simp only [step,e1,e2,bg]
  rfl
 | n+1,a,b,hn,h1,h2,h3=>by
  by_cases hp:a>0
  ·have e1:decide (a>0)=true:=decide_eq_true hp
   have hq:Int.tdiv a 10=a / 10:=Int.tdiv_eq_ediv_of_nonneg (by omega)
   unfold fo at h2
   have hw:i64.wrap (Int.tdiv a 10)=a / 10:=by rw [hq];exact wi _ (by omega)
   have hlt:a / 10<2^n:=by
    have :(2:Int)^(n+1)=2^n*2:=Int.pow_succ 2 n
    omega
   have hs:(dg a++b).size=1+b.size:=by rw [ByteArray.size_append];rfl
   obtain ⟨m,hm⟩:=run n (a / 10) (dg a++b) (by omega) hlt ⟨by omega,by omega⟩ (by rw [hs];omega)
   refine ⟨m+1,?_⟩
   show step _ (.p0 a b)=_
   have e2:decide ((((wE [[L.int (IntKind.u8.wrap (i64.wrap (48+(Int.tmod a 10))))]]).size+b.size:Nat):Int)>9223372036854775807)=false:=decide_eq_false (by rw [AW];omega)
   simp only [step,txt,e1,e2,aZ,bg,hw]
   exact hm
  ·refine ⟨1,?_⟩
   show step _ (.p0 a b)=_
   have e1:decide (a>0)=false:=decide_eq_false hp
   have e2:decide ((((⟨#[109]⟩:aC).size+b.size:Nat):Int)>9223372036854775807)=false:=decide_eq_false (by have :(⟨#[109]⟩:aC).size=1:=rfl;omega)
   simp only [step,txt,e1,e2,bg]
def md (a0:Int):aC:=(cond (a0<=0) (⟨#[109,48]⟩:aC) ((⟨#[109]⟩:aC)++txt 64 a0 ⟨#[]⟩))
def gd (a0:Int):Prop:=fo a0
def R:=RR gd md
def aj {a0}(h:gd a0):R a0=some (md a0):=cT h
def aU:=CN [pI] oS RT.dec R
def bh (a0)(hg:gd a0):∃n,start (iter step n) a0=ret (md a0):=by
 unfold gd at hg
 unfold start md
 cases h:decide (a0<=0)
 ·have h2:=hg.2
  have h3:(2:Int)^64=18446744073709551616:=by decide
  obtain ⟨m,hm⟩:=run 64 a0 ⟨#[]⟩ (Nat.le_refl _) (by rw [h3];omega) hg (by show 0+64<=1000;omega)
  exact ⟨m,hm⟩
 ·exact ⟨0,rfl⟩
def af:cC 60 aU:=L1 20 (fun _=>4) cG (fun _=>[]) live step start mix aB bh .nil Tryz.func60
end Z293
namespace Z294
set_option maxHeartbeats 8000000
inductive Pt where
 | p0 (a b:Int) (c:aD)
def pid:Pt->Nat
 | .p0 ..=>2
def cG:Pt->List V
 | .p0 a b c=>[.own 0,.int .i64 a,.int .i64 b]
def cX:Pt->List aW
 | .p0 a b c=>[.row 9 c]
def step (J:Pt->aI):Pt->aI
 | .p0 a b c=>(cond (b<(c.length:Int)) (call (Z293.R a) fun v1=>(m2 b (c.length:Int) (J (.p0 (i64.wrap (a+1)) (i64.wrap (b+1)) (List.set c (toNat b) [L.str v1]))))) (ret ((a,c):Int×aD)))
def start (J:Pt->aI)(x0:aD)(x1:Int):aI:=J (.p0 x1 0 x0)
def live:Nat->Live:=fL [(2,gA [0,1,5])]
def pats:List (Bool×List K):=[(false,[.sl 9]),(false,[au])]
def res:RP:=.pX [9]
abbrev E:Env:={ T:=assoc mq,G:=dM [(60,Z293.aU)],nt:=20,M:=gj [],np:=1,mt:=true }
def step_eq (I:cR)(p:Pt):dF E live I (pid p) (bP Tryz.f22) (gp (live (pid p)) (cG p) (cX p)) (cP E Tryz.f22 res)=step (fun q=>I (pid q) (cG q) (cX q)) p:=by
 cases p<;>kernel_rfl
def start_eq (I:cR)(ls:List L):fG E live I (bP Tryz.f22) (jd pats ls) (cP E Tryz.f22 res)=start (fun q=>I (pid q) (cG q) (cX q)) (ls.headD .hole).aS ((ay 1 ls).headD .hole).toInt:=by kernel_rfl
def run_eq (n:Nat)(ls:List L):fc E live Tryz.f22 res n (jd pats ls)=start (iter step n) (ls.headD .hole).aS ((ay 1 ls).headD .hole).toInt:=cO (id:=pid) (vs:=cG) (hs:=cX) (step:=step) (start:=fun J=>start J (ls.headD .hole).aS ((ay 1 ls).headD .hole).toInt) step_eq (fun I=>start_eq I ls) n
def el (x:aC)(k:Int):Int×aC:=((i64.wrap (k+1)),(Z293.md k))
def lg (x:aC)(k:Int)(hk:fo k):fo (el x k).1:=(cj _)
def cnt (x:aC):Nat:=1
def sum (a:List aC):Nat:=(a.map cnt).sum
def md (a0:List aC)(a1:Int):Int×List aC:=kI el a0 a1
def gd (a0:List aC)(a1:Int):Prop:=fo a1
def acc (ls:List L):aD×Int:=((ls.headD .hole).aS,((ay 1 ls).headD .hole).toInt)
def R:(aD×Int)->Option (Int×aD):=RR (p2 gd) (u2 md)
def aj {a0 a1}(h:gd a0 a1):R ((a0.map cK),a1)=some ((md a0 a1).1,((md a0 a1).2.map cK)):=cB h
def aU:ia:=MN pats acc R
def bh (a0:List aC)(a1:Int)(hg:gd a0 a1)(h0:a0.length<=maxLen):∃n,start (iter step n) (a0.map cK) a1=ret (((md a0 a1).1,((md a0 a1).2.map cK)):Int×aD):=by
 show ∃n,iter step n (Pt.p0 a1 0 (a0.map cK))=_
 refine iO (el:=el) (xs:=a0) ⟨#[]⟩ fo lg (pt:=fun i k c=>Pt.p0 k (i:Int) (c.map cK)) (out:=fun b=>ret (b.1,b.2.map cK)) (fun J i k c hi hc hk=>?_) (fun J k c hc=>?_) hg
 ·have hm:c.length<=maxLen:=hc ▸ h0
  simp only [step,SS]
  refine ak (aP hi) (aX _ (Z293.aj hk) ?_)
  refine ak aK (ak (aP hi) ?_)
  rw [aJ hi hm]
  exact congrArg (fun q=>J (Pt.p0 (el (c.getD i ⟨#[]⟩) k).1 ((i+1:Nat):Int) q)) (List.map_set (f:=cK) (l:=c) (i:=i) (a:=(el (c.getD i ⟨#[]⟩) k).2)).symm
 ·simp only [step,SS]
  refine cY dn ?_
  rfl
def af:fJ Tryz.prog Ev 22 aU:=MV (run:=fun n x=>start (iter step n) x.1 x.2) mix aB (cJ Z293.af) .nil Tryz.func22 (by kernel_rfl) run_eq (fun ls a hl e hg=>bh a.1 a.2 hg (by have h:(ls.headD .hole).aS.length<=maxLen:=(hl _ _ (.head _)).len;have e:a.1.map cK=(ls.headD .hole).aS:=(congrArg (fun x=>x.1) e.symm);rw [<-e] at h;simpa using h))
def iq {a0:List aC}{a1:Int}(h:fo a1):fo (md a0 a1).1:=mQ lg h
def uK (x:aC)(k:Int)(h0:0<=k)(hb:k+(cnt x:Int)<=4611686018427387904):(el x k).1=k+cnt x:=by
 simp only [cnt,Int.natCast_add] at hb ⊢
 simp (disch:=omega) only [el,wi]
 all_goals first | done | omega
def kk (a0:List aC)(a1:Int)(h0:0<=a1)(hb:a1+(sum a0:Int)<=4611686018427387904):(md a0 a1).1=a1+sum a0:=iX uK a0 a1 h0 hb
def sz (a:List aC):sum a<=60*(eC (fun y:aC=>y.size) a):=lV (fun x=>by
 try simp only [cnt] at *
 omega) a
end Z294
namespace Z295
set_option maxHeartbeats 8000000
inductive Pt where
 | p0 (a b:Int) (c:aD)
def pid:Pt->Nat
 | .p0 ..=>2
def cG:Pt->List V
 | .p0 a b c=>[.own 0,.int .i64 a,.int .i64 b]
def cX:Pt->List aW
 | .p0 a b c=>[.row 148 c]
def step (J:Pt->aI):Pt->aI
 | .p0 a b c=>(cond (b<(c.length:Int)) (m2 b (c.length:Int) (call (Z293.R (i64.wrap (a+1))) fun v1=>(m2 b (c.length:Int) (cg (eY b) (m2 b (c.length:Int) (cg (eY b) (cg (eY b) (call (Z289.R ((bZ.at c (toNat b)).bS.aT,(i64.wrap ((i64.wrap (a+1))+1)))) fun v2=>(m2 b (c.length:Int) (cg (eY b) (call (Z293.R (i64.wrap (v2.1+1))) fun v3=>(m2 b (c.length:Int) (cg (eY b) (m2 b (c.length:Int) (cg (eY b) (m2 b (c.length:Int) (cg (eY b) (m2 b (c.length:Int) (cg (eY b) (cg (eY b) (call (Z294.R ((bZ.at c (toNat b)).bS.aQ.bz,(i64.wrap ((i64.wrap ((i64.wrap ((i64.wrap (v2.1+1))+1))+1))+1)))) fun v4=>(m2 b (c.length:Int) (cg (eY b) (m2 b (c.length:Int) (cg (eY b) (cg (eY b) (call (Z287.R ((bZ.at c (toNat b)).bS.cZ.bz,(i64.wrap (v4.1+1)))) fun v5=>(m2 b (c.length:Int) (cg (eY b) (call (Z293.R (i64.wrap (v5.1+1))) fun v6=>(m2 b (c.length:Int) (cg (eY b) (m2 b (c.length:Int) (cg (eY b) (m2 b (c.length:Int) (cg (eY b) (m2 b (c.length:Int) (cg (eY b) (cg (eY b) (call (Z294.R ((bZ.at c (toNat b)).bS.dS.aM.bz,(i64.wrap ((i64.wrap ((i64.wrap ((i64.wrap (v5.1+1))+1))+1))+1)))) fun v7=>(call (Z293.R v7.1) fun v8=>(m2 b (c.length:Int) (cg (eY b) (m2 b (c.length:Int) (cg (eY b) (m2 b (c.length:Int) (cg (eY b) (m2 b (c.length:Int) (cg (eY b) (cg (eY b) (call (Z294.R ((bZ.at c (toNat b)).bS.dS.bU.bz,(i64.wrap ((i64.wrap ((i64.wrap (v7.1+1))+1))+1)))) fun v9=>(m2 b (c.length:Int) (cg (eY b) (m2 b (c.length:Int) (cg (eY b) (cg (eY b) (call (Z287.R ((bZ.at c (toNat b)).bS.dS.dI.bz,(i64.wrap (v9.1+1)))) fun v10=>(m2 b (c.length:Int) (cg (eY b) (m2 b (c.length:Int) (cg (eY b) (cg (eY b) (call (Z287.R ((bZ.at c (toNat b)).bS.dS.cz.bz,(i64.wrap (v10.1+1)))) fun v11=>J (.p0 v11.1 (i64.wrap (b+1)) (List.set c (toNat b) (bZ.enc (⟨a,v1,(⟨v2.2,((Int.tmod v2.1 3)==0),(⟨v3,(i64.wrap ((i64.wrap (v2.1+1))+1)),(i64.wrap ((i64.wrap ((i64.wrap (v2.1+1))+1))+1)),v4.2⟩:bH),(⟨v4.1,v5.2⟩:cS),(⟨v5.1,(⟨v6,(i64.wrap ((i64.wrap (v5.1+1))+1)),(i64.wrap ((i64.wrap ((i64.wrap (v5.1+1))+1))+1)),v7.2⟩:bH),(⟨v8,(i64.wrap (v7.1+1)),(i64.wrap ((i64.wrap (v7.1+1))+1)),v9.2⟩:bH),(⟨v9.1,v10.2⟩:cS),(⟨v10.1,v11.2⟩:cS)⟩:eN)⟩:bf)⟩:bZ))))))))))))))))))))))))))))))))))))))))))))))))))))))))))))))))))) (ret ((a,c):Int×aD)))
def start (J:Pt->aI)(x0:aD)(x1:Int):aI:=J (.p0 x1 0 x0)
def live:Nat->Live:=fL [(2,gA [0,1,5])]
def pats:List (Bool×List K):=[(false,[.sl 148]),(false,[au])]
def res:RP:=.pX [148]
abbrev E:Env:={ T:=assoc mq,G:=dM [(60,Z293.aU)],nt:=232,M:=gj [(117,Z289.aU),(22,Z294.aU),(62,Z287.aU)],np:=1,mt:=true }
def step_eq (I:cR)(p:Pt):dF E live I (pid p) (bP Tryz.f59) (gp (live (pid p)) (cG p) (cX p)) (cP E Tryz.f59 res)=step (fun q=>I (pid q) (cG q) (cX q)) p:=by
 cases p<;>kernel_rfl
def start_eq (I:cR)(ls:List L):fG E live I (bP Tryz.f59) (jd pats ls) (cP E Tryz.f59 res)=start (fun q=>I (pid q) (cG q) (cX q)) (ls.headD .hole).aS ((ay 1 ls).headD .hole).toInt:=by kernel_rfl
def run_eq (n:Nat)(ls:List L):fc E live Tryz.f59 res n (jd pats ls)=start (iter step n) (ls.headD .hole).aS ((ay 1 ls).headD .hole).toInt:=cO (id:=pid) (vs:=cG) (hs:=cX) (step:=step) (start:=fun J=>start J (ls.headD .hole).aS ((ay 1 ls).headD .hole).toInt) step_eq (fun I=>start_eq I ls) n
def e1 (x:aA)(k:Int):=Z289.md ((x.bS).aT) (i64.wrap ((i64.wrap (k+1))+1))
def e2 (x:aA)(k:Int):=Z294.md (((x.bS).aQ).bz) (i64.wrap ((i64.wrap ((i64.wrap ((i64.wrap ((e1 x k).1+1))+1))+1))+1))
def e3 (x:aA)(k:Int):=Z287.md (((x.bS).cZ).bz) (i64.wrap ((e2 x k).1+1))
def e4 (x:aA)(k:Int):=Z294.md ((((x.bS).dS).aM).bz) (i64.wrap ((i64.wrap ((i64.wrap ((i64.wrap ((e3 x k).1+1))+1))+1))+1))
def e5 (x:aA)(k:Int):=Z294.md ((((x.bS).dS).bU).bz) (i64.wrap ((i64.wrap ((i64.wrap ((e4 x k).1+1))+1))+1))
def e6 (x:aA)(k:Int):=Z287.md ((((x.bS).dS).dI).bz) (i64.wrap ((e5 x k).1+1))
def e7 (x:aA)(k:Int):=Z287.md ((((x.bS).dS).cz).bz) (i64.wrap ((e6 x k).1+1))
def el (x:aA)(k:Int):Int×aA:=((e7 x k).1,(⟨k,(Z293.md (i64.wrap (k+1))),(⟨(e1 x k).2,((Int.tmod (e1 x k).1 3)==0),(⟨(Z293.md (i64.wrap ((e1 x k).1+1))),(i64.wrap ((i64.wrap ((e1 x k).1+1))+1)),(i64.wrap ((i64.wrap ((i64.wrap ((e1 x k).1+1))+1))+1)),(e2 x k).2⟩:ah),(⟨(e2 x k).1,(e3 x k).2⟩:aH),(⟨(e3 x k).1,(⟨(Z293.md (i64.wrap ((e3 x k).1+1))),(i64.wrap ((i64.wrap ((e3 x k).1+1))+1)),(i64.wrap ((i64.wrap ((i64.wrap ((e3 x k).1+1))+1))+1)),(e4 x k).2⟩:ah),(⟨(Z293.md ((e4 x k).1)),(i64.wrap ((e4 x k).1+1)),(i64.wrap ((i64.wrap ((e4 x k).1+1))+1)),(e5 x k).2⟩:ah),(⟨(e5 x k).1,(e6 x k).2⟩:aH),(⟨(e6 x k).1,(e7 x k).2⟩:aH)⟩:bK)⟩:aq)⟩:aA))
def lg (x:aA)(k:Int)(hk:fo k):fo (el x k).1:=(Z287.iq (cj _))
def cnt (x:aA):Nat:=16+Z289.sum ((x.bS).aT)+Z294.sum (((x.bS).aQ).bz)+Z287.sum (((x.bS).cZ).bz)+Z294.sum ((((x.bS).dS).aM).bz)+Z294.sum ((((x.bS).dS).bU).bz)+Z287.sum ((((x.bS).dS).dI).bz)+Z287.sum ((((x.bS).dS).cz).bz)
def sum (a:List aA):Nat:=(a.map cnt).sum
def md (a0:List aA)(a1:Int):Int×List aA:=kI el a0 a1
def gd (a0:List aA)(a1:Int):Prop:=fo a1
def acc (ls:List L):aD×Int:=((ls.headD .hole).aS,((ay 1 ls).headD .hole).toInt)
def R:(aD×Int)->Option (Int×aD):=RR (p2 gd) (u2 md)
def aj {a0 a1}(h:gd a0 a1):R ((a0.map aA.row),a1)=some ((md a0 a1).1,((md a0 a1).2.map aA.row)):=cB h
def aU:ia:=MN pats acc R
def bh (a0:List aA)(a1:Int)(hg:gd a0 a1)(h0:a0.length<=maxLen):∃n,start (iter step n) (a0.map aA.row) a1=ret (((md a0 a1).1,((md a0 a1).2.map aA.row)):Int×aD):=by
 show ∃n,iter step n (Pt.p0 a1 0 (a0.map aA.row))=_
 refine iO (el:=el) (xs:=a0) aA.zero fo lg (pt:=fun i k c=>Pt.p0 k (i:Int) (c.map aA.row)) (out:=fun b=>ret (b.1,b.2.map aA.row)) (fun J i k c hi hc hk=>?_) (fun J k c hc=>?_) hg
 ·have hm:c.length<=maxLen:=hc ▸ h0
  simp only [step,SS]
  refine ak (aP hi) (ak aK ?_)
  refine ak (aP hi) (aX _ (Z293.aj (cj _)) ?_)
  repeat first | refine ak aK ?_ | refine ak (aP hi) ?_ | refine ak (gx _) ?_
  refine aX _ (Z289.aj (cj _)) (ak aK ?_)
  refine ak (aP hi) (ak (gx _) ?_)
  refine aX _ (Z293.aj (cj _)) ?_
  repeat first | refine ak aK ?_ | refine ak (aP hi) ?_ | refine ak (gx _) ?_
  refine aX _ (Z294.aj (cj _)) ?_
  repeat first | refine ak aK ?_ | refine ak (aP hi) ?_ | refine ak (gx _) ?_
  refine aX _ (Z287.aj (cj _)) (ak aK ?_)
  refine ak (aP hi) (ak (gx _) ?_)
  refine aX _ (Z293.aj (cj _)) ?_
  repeat first | refine ak aK ?_ | refine ak (aP hi) ?_ | refine ak (gx _) ?_
  refine aX _ (Z294.aj (cj _)) (aX _ (Z293.aj (Z294.iq (cj _))) ?_)
  repeat first | refine ak aK ?_ | refine ak (aP hi) ?_ | refine ak (gx _) ?_
  refine aX _ (Z294.aj (cj _)) ?_
  repeat first | refine ak aK ?_ | refine ak (aP hi) ?_ | refine ak (gx _) ?_
  refine aX _ (Z287.aj (cj _)) ?_
  repeat first | refine ak aK ?_ | refine ak (aP hi) ?_ | refine ak (gx _) ?_
  refine aX _ (Z287.aj (cj _)) ?_
  rw [aJ hi hm]
  exact congrArg (fun q=>J (Pt.p0 (el (c.getD i aA.zero) k).1 ((i+1:Nat):Int) q)) (List.map_set (f:=aA.row) (l:=c) (i:=i) (a:=(el (c.getD i aA.zero) k).2)).symm
 ·simp only [step,SS]
  refine cY dn ?_
  rfl
def af:fJ Tryz.prog Ev 59 aU:=MV (run:=fun n x=>start (iter step n) x.1 x.2) mix aB (cJ Z293.af) (.cons Z289.af (.cons Z294.af (.cons Z287.af .nil))) Tryz.func59 (by kernel_rfl) run_eq (fun ls a hl e hg=>bh a.1 a.2 hg (by have h:(ls.headD .hole).aS.length<=maxLen:=(hl _ _ (.head _)).len;have e:a.1.map aA.row=(ls.headD .hole).aS:=(congrArg (fun x=>x.1) e.symm);rw [<-e] at h;simpa using h))
def iq {a0:List aA}{a1:Int}(h:fo a1):fo (md a0 a1).1:=mQ lg h
def uK (x:aA)(k:Int)(h0:0<=k)(hb:k+(cnt x:Int)<=4611686018427387904):(el x k).1=k+cnt x:=by
 simp only [cnt,Int.natCast_add] at hb ⊢
 simp (disch:=omega) only [el,e1,e2,e3,e4,e5,e6,e7,wi,Z289.kk,Z294.kk,Z287.kk]
 all_goals first | done | omega
def kk (a0:List aA)(a1:Int)(h0:0<=a1)(hb:a1+(sum a0:Int)<=4611686018427387904):(md a0 a1).1=a1+sum a0:=iX uK a0 a1 h0 hb
def sz (a:List aA):sum a<=60*(eC (fun y:aA=>aA.size y) a):=lV (fun x=>by
 have:=Z289.sz ((x.bS).aT)
 have:=Z294.sz (((x.bS).aQ).bz)
 have:=Z287.sz (((x.bS).cZ).bz)
 have:=Z294.sz ((((x.bS).dS).aM).bz)
 have:=Z294.sz ((((x.bS).dS).bU).bz)
 have:=Z287.sz ((((x.bS).dS).dI).bz)
 have:=Z287.sz ((((x.bS).dS).cz).bz)
 try simp only [cnt,aA.size,aq.size,ah.size,aH.size,bK.size] at *
 omega) a
end Z295
namespace Z296
set_option maxHeartbeats 8000000
def F (x0:cu)(x1:Int):aI:=(call (Z295.R (x0.aN,x1)) fun v1=>ret ((v1.1,v1.2):Int×aD))
def pats:List (Bool×List K):=[(true,[.sl 148]),(false,[au])]
def res:RP:=.pX [148]
def e1 (x:aG)(k:Int):=Z295.md x.aN k
def sum (x:aG):Nat:=0+Z295.sum x.aN
def md (a0:aG)(a1:Int):Int×List aA:=((e1 a0 a1).1,(e1 a0 a1).2)
def gd (a0:aG)(a1:Int):Prop:=fo a1
def acc (ls:List L):cu×Int:=((cu.dec ls),((ay 1 ls).headD .hole).toInt)
def R:(cu×Int)->Option (Int×aD):=RR (p2 gd) (u2 md)
def aj {a0 a1}(h:gd a0 a1):R ((aG.r a0),a1)=some ((md a0 a1).1,((md a0 a1).2.map aA.row)):=cB h
def aU:ia:=MN pats acc R
def bh (a0:aG)(a1:Int)(hg:gd a0 a1):F (aG.r a0) a1=ret (((md a0 a1).1,((md a0 a1).2.map aA.row)):Int×aD):=by
 unfold gd at hg
 simp only [F,SS]
 unfold md
 refine aX ((e1 a0 a1).1,((e1 a0 a1).2.map aA.row)) (Z295.aj (a0:=a0.aN) (a1:=a1) hg) ?_
 first | rfl | (simp only [SS];rfl)
def af:fJ Tryz.prog Ev 21 aU:=MV (live:=fun _=>[]) (nt:=10) (run:=fun _ x=>F x.1 x.2) mix aB .nil (.cons Z295.af .nil) Tryz.func21 (by kernel_rfl) (fun _ _=>by kernel_rfl) (fun _ a _ _ hg=>⟨0,bh a.1 a.2 hg⟩)
def iq {a0:aG}{a1:Int}(hk:fo a1):fo (md a0 a1).1:=(Z295.iq hk)
def kk (x:aG)(k:Int)(h0:0<=k)(hb:k+(sum x:Int)<=4611686018427387904):(md x k).1=k+sum x:=by
 simp only [sum,Int.natCast_add] at hb ⊢
 simp (disch:=omega) only [md,e1,wi,Z295.kk]
 all_goals first | done | omega
def sz (x:aG):sum x<=60*aG.size x:=by
 have:=Z295.sz x.aN
 try simp only [sum,aG.size] at *
 omega
end Z296
namespace Z297
set_option maxHeartbeats 8000000
def F (x0:bH)(x1:Int):aI:=(call (Z294.R (x0.bz,x1)) fun v1=>ret ((v1.1,v1.2):Int×aD))
def pats:List (Bool×List K):=[(true,[.str,au,au,.sl 9]),(false,[au])]
def res:RP:=.pX [9]
def e1 (x:ah)(k:Int):=Z294.md x.bz k
def sum (x:ah):Nat:=0+Z294.sum x.bz
def md (a0:ah)(a1:Int):Int×List aC:=((e1 a0 a1).1,(e1 a0 a1).2)
def gd (a0:ah)(a1:Int):Prop:=fo a1
def acc (ls:List L):bH×Int:=((bH.dec ls),((ay 4 ls).headD .hole).toInt)
def R:(bH×Int)->Option (Int×aD):=RR (p2 gd) (u2 md)
def aj {a0 a1}(h:gd a0 a1):R ((ah.r a0),a1)=some ((md a0 a1).1,((md a0 a1).2.map cK)):=cB h
def aU:ia:=MN pats acc R
def bh (a0:ah)(a1:Int)(hg:gd a0 a1):F (ah.r a0) a1=ret (((md a0 a1).1,((md a0 a1).2.map cK)):Int×aD):=by
 unfold gd at hg
 simp only [F,SS]
 unfold md
 refine aX ((e1 a0 a1).1,((e1 a0 a1).2.map cK)) (Z294.aj (a0:=a0.bz) (a1:=a1) hg) ?_
 first | rfl | (simp only [SS];rfl)
def af:fJ Tryz.prog Ev 61 aU:=MV (live:=fun _=>[]) (nt:=10) (run:=fun _ x=>F x.1 x.2) mix aB .nil (.cons Z294.af .nil) Tryz.func61 (by kernel_rfl) (fun _ _=>by kernel_rfl) (fun _ a _ _ hg=>⟨0,bh a.1 a.2 hg⟩)
def iq {a0:ah}{a1:Int}(hk:fo a1):fo (md a0 a1).1:=(Z294.iq hk)
def kk (x:ah)(k:Int)(h0:0<=k)(hb:k+(sum x:Int)<=4611686018427387904):(md x k).1=k+sum x:=by
 simp only [sum,Int.natCast_add] at hb ⊢
 simp (disch:=omega) only [md,e1,wi,Z294.kk]
 all_goals first | done | omega
def sz (x:ah):sum x<=60*ah.size x:=by
 have:=Z294.sz x.bz
 try simp only [sum,ah.size] at *
 omega
def upd (x:ah)(k:Int):ah:=(⟨x.aV,x.bI,x.bX,(md x k).2⟩:ah)
end Z297
end Go.DM
end
