/- What the functions compute that the law reaches, and that the law returns true. Conditions: none. -/
import Derived.Test.YtcepeleohipibaaGreatLRootsTy
import Derived.Test.YtcepeleohipibaaGreatLRootsFnB
set_option linter.all false
set_option maxRecDepth 100000
noncomputable section
namespace Go.DM
open Go.Proofs
open Go.IntKind (i64)
open Int (toNat)
open Nat (le_trans zero_le)
namespace Z207
inductive Pt where
 | p0 (a:an) (b:Int) (c:an)
 | p1 (a:Int) (b c:an)
def cF:Pt->List V
 | .p0 a b c=>[.sl none 3 a,.int .i64 b,.own 0]
 | .p1 a b c=>[.own 0,.int .i64 a,.own 1]
def dN:Pt->List aL
 | .p0 a b c=>[.row 3 c]
 | .p1 a b c=>[.row 3 b,.row 3 c]
def step (J:Pt->aC):Pt->aC
 | .p0 a b c=>(cond ((a.length:Int)>1) (cond ((nu .i64 b 1)<(a.length:Int)) (ck ((0:Int)<=(nu .i64 b 1)) (ck ((nu .i64 b 1)<(a.length:Int)) (ck (eG (((c.length:Int)+1)*8)) (call (Z192.R a) fun v1=>J (.p1 (i64.wrap (Int.tdiv b 2)) v1 (c++[[L.int (gR a (toNat (nu .i64 b 1)))]])))))) (call (Z192.R a) fun v2=>J (.p1 (i64.wrap (Int.tdiv b 2)) v2 c))) (ret (c:an)))
 | .p1 a b c=>(cond ((b.length:Int)>1) (cond ((nu .i64 a 1)<(b.length:Int)) (ck ((0:Int)<=(nu .i64 a 1)) (ck ((nu .i64 a 1)<(b.length:Int)) (ck (eG (((c.length:Int)+1)*8)) (call (Z192.R b) fun v1=>J (.p1 (i64.wrap (Int.tdiv a 2)) v1 (c++[[L.int (gR b (toNat (nu .i64 a 1)))]])))))) (call (Z192.R b) fun v2=>J (.p1 (i64.wrap (Int.tdiv a 2)) v2 c))) (ret (c:an)))
def start (J:Pt->aC)(x0:an)(x1:Int):aC:=(call (Z134.R (x1,0,(i64.wrap (x0.length - 1)))) fun v1=>(cond (!v1) (ret ([]:an)) (J (.p0 x0 x1 []))))
def live:Nat->Live:=gx [(4,[(0,none),(1,none),(5,some 3)])]
def EL (b:Nat)(h:b<2^40):nu .i64 (b:Int) 1=((Z99.xT b:Nat):Int):=by
 have e1:(BitVec.ofInt 64 (b:Int)).toNat=b:=by simp [BitVec.toNat_ofInt];omega
 have e2:(BitVec.ofInt 64 (1:Int)).toNat=1:=by decide
 have e3:(b ^^^ 1)=Z99.xT b:=by
  have a1:(b ^^^ 1) % 2=(b+1) % 2:=by
   have h:=Nat.xor_mod_two_pow (a:=b) (b:=1) (n:=1)
   rw [Nat.pow_one,show (1:Nat) % 2=1 from rfl] at h
   rcases Nat.mod_two_eq_zero_or_one b with e | e
   ·rw [e,show (0:Nat) ^^^ 1=1 from rfl] at h;omega
   ·rw [e,show (1:Nat) ^^^ 1=0 from rfl] at h;omega
  have a2:(b ^^^ 1) / 2=b / 2:=by rw [Nat.xor_div_two];simp
  unfold Z99.xT;split<;>omega
 show i64.wrap (((BitVec.ofInt 64 (b:Int) ^^^ BitVec.ofInt 64 1).toNat:Nat):Int)=_
 rw [BitVec.toNat_xor,e1,e2,e3,wi _ (by unfold Z99.xT;split<;>omega)]
def md (a0:List Int)(a1:Int):List Int:=Z99.md a0 a1
def gd (a0:List Int)(a1:Int):Prop:=bf (2^38) (fun y:Int=>True) a0
def R:=cL gd md
def aj {a0 a1}(h:gd a0 a1):R ((a0.map aQ),a1)=some ((md a0 a1).map aQ):=cK h
def aK:=CN [pL 3,pI] (oL 3) RT.dec R
def bn (a0)(a1)(hg:gd a0 a1):∃n,start (iter step n) (a0.map aQ) a1=ret ((md a0 a1).map aQ):=by
 have one:∀(i:Nat) (l c r:List Int) (n:Nat),bf (2^38) (fun y:Int=>True) l->i<2^40->c.length<2^40->(if l.length>1 then iter step n (Pt.p1 ((i / 2:Nat):Int) ((Z29.up l).map aQ) ((Z99.xS i l c).map aQ))=ret (r.map aQ) else c=r)->
   step (iter step n) (Pt.p0 (l.map aQ) (i:Int) (c.map aQ))=ret (r.map aQ)/\step (iter step n) (Pt.p1 (i:Int) (l.map aQ) (c.map aQ))=ret (r.map aQ):=by
  intro i l c r n hl hi hc h
  have hs:=EL i hi
  have hd:=Z99.half i hi
  refine ⟨?_,?_⟩
  all_goals
   simp only [step,MM,List.length_map,ig,hs,hd,gm]
   by_cases h1:l.length>1
   ·rw [if_pos h1] at h
    rw [decide_eq_true (show (l.length:Int)>1 by omega),aO]
    by_cases h2:Z99.xT i<l.length
    ·rw [Z99.xS,if_pos h2,List.map_append] at h
     rw [decide_eq_true (show ((Z99.xT i:Nat):Int)<(l.length:Int) by omega),aO,decide_eq_true (show (0:Int)<=((Z99.xT i:Nat):Int) by omega),aO,aO,fQ (by omega),aO]
     exact cG _ (Z192.aj hl) h
    ·rw [Z99.xS,if_neg h2] at h
     rw [decide_eq_false (show ¬((Z99.xT i:Nat):Int)<(l.length:Int) by omega),aU]
     exact cG _ (Z192.aj hl) h
   ·rw [if_neg h1] at h
    rw [decide_eq_false (show ¬(l.length:Int)>1 by omega),aU,h]
 have key:∀(k i:Nat) (l c:List Int),bf (2^38) (fun y:Int=>True) l->l.length<=k->i<2^40->c.length+k<2^40->
   ∃n,step (iter step n) (Pt.p0 (l.map aQ) (i:Int) (c.map aQ))=ret ((Z99.BW k i l c).map aQ)/\step (iter step n) (Pt.p1 (i:Int) (l.map aQ) (c.map aQ))=ret ((Z99.BW k i l c).map aQ):=by
  intro k
  induction k with
  | zero=>intro i l c hl hk hi hc;exact ⟨0,one i l c _ 0 hl hi (by omega) (by rw [if_neg (by omega)];rfl)⟩
  | succ k ih=>
   intro i l c hl hk hi hc
   unfold Z99.BW
   by_cases h1:l.length>1
   ·have hu:=Z29.lB l
    have hl1:=hl.1
    have h2:(Z99.xS i l c).length<=c.length+1:=by unfold Z99.xS;split<;>simp
    obtain ⟨n,_,hn⟩:=ih (i / 2) (Z29.up l) (Z99.xS i l c) ⟨by omega,fun _ _=>trivial⟩ (by omega) (by omega) (by omega)
    rw [if_pos h1]
    exact ⟨n+1,one i l c _ (n+1) hl hi (by omega) (by rw [if_pos h1];exact hn)⟩
   ·rw [if_neg h1]
    exact ⟨0,one i l c _ 0 hl hi (by omega) (by rw [if_neg h1])⟩
 unfold start md Z99.md
 simp only [List.length_map]
 have hlen:=hg.1
 cases h:Z11.md a1 0 (i64.wrap ((a0.length:Int) - 1))
 ·exact ⟨0,cG false (by rw [<-h,<-Z134.br];exact Z134.aj trivial) rfl⟩
 ·have hh:=h
  rw [wi _ (by omega)] at hh
  simp [Z11.md] at hh
  obtain ⟨i,rfl⟩:=Int.eq_ofNat_of_zero_le hh.1
  obtain ⟨n,hn,_⟩:=key a0.length i a0 [] hg (Nat.le_refl _) (by omega) (by simp only [List.length_nil];omega)
  exact ⟨n+1,cG true (by rw [<-h,<-Z134.br];exact Z134.aj trivial) hn⟩
def af:bZ 446 aK:=L2 36 (fun _=>4) cF dN live step start mix aA bn (eS Z134.af Z192.af) Tryz.func446
def len (a0:List Int)(a1:Int):(md a0 a1).length<=a0.length:=by
 intros;unfold md Z99.md
 cases Z11.md _ 0 _
 ·exact zero_le _
 ·exact le_trans (Z99.vB _ _ _ _) (by simp)
def br (a0:List Int)(a1:Int):md a0 a1=Z99.md a0 a1:=by
 unfold md Z99.md
 simp only [Z134.br,Z192.br]
end Z207
namespace Z208
def F (x0:an)(x1:az):aC:=(call (Z204.R (x0,x1)) fun v1=>(cond (v1<0) (ret (((⟨0,[]⟩),false):eB×Bool)) (call (Z189.R x0) fun v2=>(call (Z207.R (v2,v1)) fun v3=>ret (((⟨v1,v3⟩),true):eB×Bool)))))
def md (a0:List ah)(a1:az):aV×Bool:=(cond ((Z204.md a0 a1)<0) ((⟨0,[]⟩),false) ((⟨(Z204.md a0 a1),(Z207.md (Z189.md a0) (Z204.md a0 a1))⟩),true))
def gd (a0:List ah)(a1:az):Prop:=(bf (2^21) (fun y:ah=>ah.Sm (2^21) y) a0)
def R:=cL gd md
def aj {a0 a1}(h:gd a0 a1):R ((a0.map ah.row),a1)=some ((aV.r (md a0 a1).1),(md a0 a1).2):=cK h
def aK:=CN [pL 62,pS] (.gS [(true,f64),(false,[fB])]) RT.dec R
def bn (a0)(a1)(H0:gd a0 a1):F (a0.map ah.row) a1=ret ((aV.r (md a0 a1).1),(md a0 a1).2):=by
 refine ct (Z204.aj H0) (bP (fun b:aV×Bool=>ret (((aV.r b.1),b.2):eB×Bool)) (fun c1=>fz) (fun c1=>?_))
 refine ct (Z189.aj H0) (ct (Z207.aj ⟨(have:=Z189.len a0;have:=(H0).1;om),fun _ _=>trivial⟩) ?_)
 exact fz
def af:bZ 408 aK:=W2 19 F mix aA bn (jw Z204.af Z189.af Z207.af) Tryz.func408
def fc {a0:List ah}{a1:az}(hg:gd a0 a1):aV.Sm (2^21) ((md a0 a1).1):=by
 unfold gd at hg;unfold md
 cases decide (Z204.md a0 a1<0)
 ·refine ⟨?_,fun _ _=>trivial⟩
  have h:=Z207.len (Z189.md a0) (Z204.md a0 a1)
  rw [Z189.len] at h
  exact le_trans h hg.1
 ·exact bf.nil
def br (a0:List ah)(a1:az):md a0 a1=Z100.md a0 a1:=by
 unfold md Z100.md
 simp only [Z204.br,Z189.br,Z207.br]
end Z208
namespace Z209
inductive Pt where
 | p0 (a:az) (b:Int) (c:an) (d e:Int)
def cF:Pt->List V
 | .p0 a b c d e=>[.str a,.int .i64 b,.sl none 62 c,.int .i64 d,.int .i64 e]
def step (J:Pt->aC):Pt->aC
 | .p0 a b c d e=>(cond (e<d) (m2 e (c.length:Int) (call (Z183.R ((bp.at c (toNat e)).aZ,a)) fun v1=>(cond (v1<0) (J (.p0 a (i64.wrap (b+1)) c d (i64.wrap (e+1)))) (J (.p0 a b c d (i64.wrap (e+1))))))) (ret (b:Int)))
def start (J:Pt->aC)(x0:an)(x1:az):aC:=J (.p0 x1 0 x0 x0.length 0)
def live:Nat->Live:=gx [(3,iR [1,5,8,9,10])]
def md (a0:List ah)(a1:az):Int:=(dQ (S:=Int) (β:=Int) (fun y1 s3=>(cond ((Z183.md (y1.aZ) a1)<0) (.inl (i64.wrap (s3+1))) (.inl s3))) (fun s3=>s3) a0 0)
def gd (a0:List ah)(a1:az):Prop:=(bf (2^21) (fun y:ah=>ah.Sm (2^21) y) a0)
def R:=cL gd md
def aj {a0 a1}(h:gd a0 a1):R ((a0.map ah.row),a1)=some (md a0 a1):=cK h
def aK:=CN [pL 62,pS] oI RT.dec R
def bn (a0)(a1)(H0:gd a0 a1):∃n,start (iter step n) (a0.map ah.row) a1=ret (md a0 a1):=by
 have Bh2:=bl H0
 refine ex_eq (dV (z:=ah.zero)) (dc (p:=Pt.p0 a1 0 (a0.map ah.row) (a0.length:Int) 0) fz ?_)
 refine bH (pt:=fun (i1:Nat) (s3:Int)=>Pt.p0 a1 s3 (a0.map ah.row) (a0.length:Int) (i1:Int)) (fun _ _=>True) (fun J i1 s3 h2 hih2=>?_) (fun s3 hih2=>?_) trivial
 ·simp only [step,SS]
  refine aP.yes dt (aP.yes bu ?_)
  refine aP.yes (bK h2) (cr (Z183.aj trivial) ?_)
  refine aP.bif (fun c4=>?_) (fun c4=>?_)
  ·refine aP.inl trivial ?_
   rw [aF h2 Bh2]
  ·refine aP.inl trivial ?_
   rw [aF h2 Bh2]
 ·simp only [step,SS]
  refine cH dn (⟨0,?_⟩)
  exact fz
def af:bZ 448 aK:=L2 23 (fun _=>3) cF (fun _=>[]) live step start mix aA bn (cM Z183.af) Tryz.func448
def fa (a0:List ah)(a1:az):a0.length<=2^21->0<=md a0 a1/\md a0 a1<=(a0.length:Int):=fun hl=>by
 have key:∀(xs:List ah) (s:Int),0<=s->s+xs.length<=2^22->0<=dQ (S:=Int) (β:=Int) (fun (y1:ah) (s3:Int)=>(cond ((Z183.md (y1.aZ) a1)<0) (.inl (i64.wrap (s3+1))) (.inl s3))) (fun (s3:Int)=>(s3:Int)) xs s/\dQ (S:=Int) (β:=Int) (fun (y1:ah) (s3:Int)=>(cond ((Z183.md (y1.aZ) a1)<0) (.inl (i64.wrap (s3+1))) (.inl s3))) (fun (s3:Int)=>(s3:Int)) xs s<=s+xs.length:=by
  intro xs
  induction xs with
  | nil=>intro s h0 h1;exact ⟨h0,by simp [dQ]⟩
  | cons x xs ih=>
   intro s h0 h1
   simp only [List.length_cons] at h1 ⊢
   unfold dQ
   cases decide (Z183.md x.aZ a1<0)
   ·have:=ih s h0 (by omega)
    simp only [aU]
    omega
   ·have:=ih (s+1) (by omega) (by omega)
    simp only [aO]
    rw [wi _ (by omega)]
    omega
 have:=key a0 0 (Int.le_refl _) (by omega)
 unfold md
 omega
def br (a0:List ah)(a1:az):md a0 a1=Z101.md a0 a1:=by
 unfold md Z101.md
 simp only [Z183.br]
end Z209
namespace Z210
def F (x0:an)(x1:az):aC:=(call (Z184.R x0) fun v1=>(cond (!v1) (ret (((⟨0,(⟨(⟨#[]⟩:az),0,0,[]⟩),(⟨(⟨#[]⟩:az),0,0,[]⟩),(⟨0,[]⟩),(⟨0,[]⟩)⟩),false):fG×Bool)) (call (Z135.R x1) fun v2=>(cond (!v2) (ret (((⟨0,(⟨(⟨#[]⟩:az),0,0,[]⟩),(⟨(⟨#[]⟩:az),0,0,[]⟩),(⟨0,[]⟩),(⟨0,[]⟩)⟩),false):fG×Bool)) (call (Z204.R (x0,x1)) fun v3=>(cond (v3>=0) (ret (((⟨0,(⟨(⟨#[]⟩:az),0,0,[]⟩),(⟨(⟨#[]⟩:az),0,0,[]⟩),(⟨0,[]⟩),(⟨0,[]⟩)⟩),false):fG×Bool)) (call (Z209.R (x0,x1)) fun v4=>(cond (v4>0) (ck ((0:Int)<=(i64.wrap (v4 - 1))) (ck ((i64.wrap (v4 - 1))<x0.length) (call (Z206.R (bp.at x0 (toNat (i64.wrap (v4 - 1))))) fun v5=>(call (Z208.R (x0,v5.aZ)) fun v6=>(cond (v4<x0.length) (m2 v4 x0.length (call (Z206.R (bp.at x0 (toNat v4))) fun v7=>(call (Z208.R (x0,v7.aZ)) fun v8=>ret (((⟨v4,v5,v7,v6.1,v8.1⟩),true):fG×Bool)))) (ret (((⟨v4,v5,(⟨(⟨#[]⟩:az),0,0,[]⟩),v6.1,(⟨0,[]⟩)⟩),true):fG×Bool))))))) (cond (v4<x0.length) (m2 v4 x0.length (call (Z206.R (bp.at x0 (toNat v4))) fun v9=>(call (Z208.R (x0,v9.aZ)) fun v10=>ret (((⟨v4,(⟨(⟨#[]⟩:az),0,0,[]⟩),v9,(⟨0,[]⟩),v10.1⟩),true):fG×Bool)))) (ret (((⟨v4,(⟨(⟨#[]⟩:az),0,0,[]⟩),(⟨(⟨#[]⟩:az),0,0,[]⟩),(⟨0,[]⟩),(⟨0,[]⟩)⟩),true):fG×Bool)))))))))))
def md (a0:List ah)(a1:az):bQ×Bool:=(cond (!(Z184.md a0)) ((⟨0,(⟨((⟨#[]⟩:az)),0,0,[]⟩),(⟨((⟨#[]⟩:az)),0,0,[]⟩),(⟨0,[]⟩),(⟨0,[]⟩)⟩),false) (cond (!(Z135.md a1)) ((⟨0,(⟨((⟨#[]⟩:az)),0,0,[]⟩),(⟨((⟨#[]⟩:az)),0,0,[]⟩),(⟨0,[]⟩),(⟨0,[]⟩)⟩),false) (cond ((Z204.md a0 a1)>=0) ((⟨0,(⟨((⟨#[]⟩:az)),0,0,[]⟩),(⟨((⟨#[]⟩:az)),0,0,[]⟩),(⟨0,[]⟩),(⟨0,[]⟩)⟩),false) (cond ((Z209.md a0 a1)>0) (cond ((Z209.md a0 a1)<a0.length) ((⟨(Z209.md a0 a1),(a0.getD (toNat (i64.wrap ((Z209.md a0 a1) - 1))) ah.zero),(a0.getD (toNat (Z209.md a0 a1)) ah.zero),(Z208.md a0 ((a0.getD (toNat (i64.wrap ((Z209.md a0 a1) - 1))) ah.zero).aZ)).1,(Z208.md a0 ((a0.getD (toNat (Z209.md a0 a1)) ah.zero).aZ)).1⟩),true) ((⟨(Z209.md a0 a1),(a0.getD (toNat (i64.wrap ((Z209.md a0 a1) - 1))) ah.zero),(⟨((⟨#[]⟩:az)),0,0,[]⟩),(Z208.md a0 ((a0.getD (toNat (i64.wrap ((Z209.md a0 a1) - 1))) ah.zero).aZ)).1,(⟨0,[]⟩)⟩),true)) (cond ((Z209.md a0 a1)<a0.length) ((⟨(Z209.md a0 a1),(⟨((⟨#[]⟩:az)),0,0,[]⟩),(a0.getD (toNat (Z209.md a0 a1)) ah.zero),(⟨0,[]⟩),(Z208.md a0 ((a0.getD (toNat (Z209.md a0 a1)) ah.zero).aZ)).1⟩),true) ((⟨(Z209.md a0 a1),(⟨((⟨#[]⟩:az)),0,0,[]⟩),(⟨((⟨#[]⟩:az)),0,0,[]⟩),(⟨0,[]⟩),(⟨0,[]⟩)⟩),true))))))
def gd (a0:List ah)(a1:az):Prop:=(bf (2^21) (fun y:ah=>ah.Sm (2^21) y) a0)/\(a1.size<=(2^21))
def R:=cL gd md
def aj {a0 a1}(h:gd a0 a1):R ((a0.map ah.row),a1)=some ((bQ.r (md a0 a1).1),(md a0 a1).2):=cK h
def aK:=CN [pL 62,pS] (.gS [(true,f66),(false,[fB])]) RT.dec R
def bn (a0)(a1)(hg:gd a0 a1):F (a0.map ah.row) a1=ret ((bQ.r (md a0 a1).1),(md a0 a1).2):=by
 obtain ⟨H0,H1⟩:=hg
 unfold F md
 simp only [SS]
 refine ct (Z184.aj H0) (bP (fun b:bQ×Bool=>ret (((bQ.r b.1),b.2):fG×Bool)) (fun c1=>fz) (fun c1=>?_))
 refine ct (Z135.aj (le_trans H1 (by decide))) (bP (fun b:bQ×Bool=>ret (((bQ.r b.1),b.2):fG×Bool)) (fun c2=>fz) (fun c2=>?_))
 refine ct (Z204.aj H0) (bP (fun b:bQ×Bool=>ret (((bQ.r b.1),b.2):fG×Bool)) (fun c3=>fz) (fun c3=>?_))
 refine ct (Z209.aj H0) ?_
 have fv4_:=Z209.fa a0 a1
 refine bP (fun b:bQ×Bool=>ret (((bQ.r b.1),b.2):fG×Bool)) (fun c4=>?_) (fun c4=>?_)
 ·have dc4:=c4
  simp only [DC] at dc4
  refine aG (have:=(H0).1;dt) (aG (have:=(H0).1;have:=(H0).1;dt) ?_)
  refine ct (Z206.aj (bf.getD H0 (by have:=(H0).1;first | assumption | omega | (simp (disch:=omega) only [wi];omega) | (simp;omega)))) (ct (Z208.aj H0) ?_)
  refine bP (fun b:bQ×Bool=>ret (((bQ.r b.1),b.2):fG×Bool)) (fun c5=>?_) (fun c5=>fz)
  have dc5:=c5
  simp only [DC] at dc5
  refine aG dt (aG (have:=(H0).1;have:=(H0).1;dt) ?_)
  refine ct (Z206.aj (bf.getD H0 (by have:=(H0).1;first | assumption | omega | (simp (disch:=omega) only [wi];omega) | (simp;omega)))) (ct (Z208.aj H0) ?_)
  exact fz
 ·refine bP (fun b:bQ×Bool=>ret (((bQ.r b.1),b.2):fG×Bool)) (fun c6=>?_) (fun c6=>fz)
  have dc6:=c6
  simp only [DC] at dc6
  refine aG (have:=(H0).1;dt) (aG (have:=(H0).1;have:=(H0).1;dt) ?_)
  refine ct (Z206.aj (bf.getD H0 (by have:=(H0).1;first | assumption | omega | (simp (disch:=omega) only [wi];omega) | (simp;omega)))) (ct (Z208.aj H0) ?_)
  exact fz
def af:bZ 409 aK:=W2 68 F mix aA bn (vp Z184.af Z135.af Z204.af Z209.af Z206.af Z208.af) Tryz.func409
def fc {a0:List ah}{a1:az}(hg:gd a0 a1):bQ.Sm (2^21) ((md a0 a1).1):=by
 unfold gd at hg;unfold md
 have ez:ah.Sm (2^21) ⟨⟨#[]⟩,0,0,[]⟩:=⟨zero_le _,bf.nil⟩
 have pz:aV.Sm (2^21) ⟨0,[]⟩:=bf.nil
 have he:∀i,ah.Sm (2^21) (a0.getD i ah.zero):=fun i=>bf.yO hg.1 ez
 have hp:∀x,aV.Sm (2^21) (Z208.md a0 x).1:=fun x=>Z208.fc hg.1
 simp only [Bool.cond_eq_ite]
 repeat' split
 all_goals (refine ⟨?_,?_,?_,?_⟩<;>first | exact he _ | exact hp _ | exact ez | exact pz)
def br (a0:List ah)(a1:az):md a0 a1=Z102.md a0 a1:=by
 unfold md Z102.md
 simp only [Z184.br,Z135.br,Z204.br,Z209.br,Z208.br]
end Z210
namespace Z211
def F (x0:bT)(x1:az):aC:=(call (Z197.R x0) fun v1=>(cond (!v1) (ret ((⟨[],false,(⟨(⟨#[]⟩:az),0,0,[]⟩),(⟨0,[]⟩),(⟨0,(⟨(⟨#[]⟩:az),0,0,[]⟩),(⟨(⟨#[]⟩:az),0,0,[]⟩),(⟨0,[]⟩),(⟨0,[]⟩)⟩)⟩):bt)) (call (Z135.R x1) fun v2=>(cond (!v2) (ret ((⟨[],false,(⟨(⟨#[]⟩:az),0,0,[]⟩),(⟨0,[]⟩),(⟨0,(⟨(⟨#[]⟩:az),0,0,[]⟩),(⟨(⟨#[]⟩:az),0,0,[]⟩),(⟨0,[]⟩),(⟨0,[]⟩)⟩)⟩):bt)) (call (Z131.R x0.aD) fun v3=>(call (Z204.R (x0.bI,x1)) fun v4=>(cond (v4>=0) (m2 v4 x0.bI.length (call (Z206.R (bp.at x0.bI (toNat v4))) fun v5=>(call (Z208.R (x0.bI,x1)) fun v6=>ret ((⟨v3,true,v5,v6.1,(⟨0,(⟨(⟨#[]⟩:az),0,0,[]⟩),(⟨(⟨#[]⟩:az),0,0,[]⟩),(⟨0,[]⟩),(⟨0,[]⟩)⟩)⟩):bt)))) (call (Z210.R (x0.bI,x1)) fun v7=>ret ((⟨v3,false,(⟨(⟨#[]⟩:az),0,0,[]⟩),(⟨0,[]⟩),v7.1⟩):bt)))))))))
def md (a0:aI)(a1:az):aB:=(cond (!(Z197.md a0)) (⟨[],false,(⟨((⟨#[]⟩:az)),0,0,[]⟩),(⟨0,[]⟩),(⟨0,(⟨((⟨#[]⟩:az)),0,0,[]⟩),(⟨((⟨#[]⟩:az)),0,0,[]⟩),(⟨0,[]⟩),(⟨0,[]⟩)⟩)⟩) (cond (!(Z135.md a1)) (⟨[],false,(⟨((⟨#[]⟩:az)),0,0,[]⟩),(⟨0,[]⟩),(⟨0,(⟨((⟨#[]⟩:az)),0,0,[]⟩),(⟨((⟨#[]⟩:az)),0,0,[]⟩),(⟨0,[]⟩),(⟨0,[]⟩)⟩)⟩) (cond ((Z204.md a0.bI a1)>=0) (⟨a0.aD,true,(a0.bI.getD (toNat (Z204.md a0.bI a1)) ah.zero),(Z208.md a0.bI a1).1,(⟨0,(⟨((⟨#[]⟩:az)),0,0,[]⟩),(⟨((⟨#[]⟩:az)),0,0,[]⟩),(⟨0,[]⟩),(⟨0,[]⟩)⟩)⟩) (⟨a0.aD,false,(⟨((⟨#[]⟩:az)),0,0,[]⟩),(⟨0,[]⟩),(Z210.md a0.bI a1).1⟩))))
def gd (a0:aI)(a1:az):Prop:=(aI.Sm (2^21) a0)/\(a1.size<=(2^21))
def R:=cL gd md
def aj {a0 a1}(h:gd a0 a1):R ((aI.r a0),a1)=some (aB.r (md a0 a1)):=cK h
def aK:=CN [.agg sj,pS] (.agg f68) RT.dec R
def bn (a0)(a1)(hg:gd a0 a1):F (aI.r a0) a1=ret (aB.r (md a0 a1)):=by
 obtain ⟨H0,H1⟩:=hg
 refine ct (Z197.aj H0) (bo (fun c1=>fz) (fun c1=>?_))
 refine ct (Z135.aj (le_trans H1 (by decide))) (bo (fun c2=>fz) (fun c2=>?_))
 refine ct (Z131.aj H0.1) ?_
 simp only [SS]
 refine ct (Z204.aj H0.2) ?_
 have fv4_:=Z204.fa a0.bI a1
 refine bo (fun c3=>?_) (fun c3=>ct (Z210.aj ⟨H0.2,H1⟩) fz)
 have dc3:=c3
 simp only [DC] at dc3
 refine aG dt (aG (have:=(H0.2).1;dt) ?_)
 refine ct (Z206.aj (bf.getD H0.2 (by omega))) (ct (Z208.aj H0.2) ?_)
 exact fz
def af:bZ 345 aK:=W2 51 F mix aA bn (Ad Z197.af Z135.af Z131.af Z204.af Z206.af Z208.af Z210.af) Tryz.func345
def fc {a0:aI}{a1:az}(hg:gd a0 a1):aB.Sm (2^21) (md a0 a1):=by
 unfold gd at hg;unfold md
 obtain ⟨⟨hc,hl⟩,_⟩:=hg
 have ez:ah.Sm (2^21) ⟨⟨#[]⟩,0,0,[]⟩:=⟨zero_le _,bf.nil⟩
 have pz:aV.Sm (2^21) ⟨0,[]⟩:=bf.nil
 have gz:bQ.Sm (2^21) ⟨0,⟨⟨#[]⟩,0,0,[]⟩,⟨⟨#[]⟩,0,0,[]⟩,⟨0,[]⟩,⟨0,[]⟩⟩:=⟨ez,ez,pz,pz⟩
 have he:∀i,ah.Sm (2^21) (a0.bI.getD i ah.zero):=fun i=>bf.yO hl ez
 have hp:∀x,aV.Sm (2^21) (Z208.md a0.bI x).1:=fun x=>Z208.fc hl
 have hga:bQ.Sm (2^21) (Z210.md a0.bI a1).1:=Z210.fc ⟨hl,by assumption⟩
 simp only [Bool.cond_eq_ite]
 repeat' split
 all_goals (refine ⟨?_,?_,?_,?_⟩<;>first | exact hc | exact bf.nil | exact he _ | exact hp _ | exact hga | exact ez | exact pz | exact gz)
def br (a0:aI)(a1:az):md a0 a1=Z103.md a0 a1:=by
 unfold md Z103.md
 simp only [Z197.br,Z135.br,Z204.br,Z208.br,Z210.br]
end Z211
namespace Z212
def F (x0:bV)(x1:Int)(x2:az):aC:=(call (Z201.R (x0,x1)) fun v1=>(cond (v1<0) (ret ((⟨[],false,(⟨(⟨#[]⟩:az),0,0,[]⟩),(⟨0,[]⟩),(⟨0,(⟨(⟨#[]⟩:az),0,0,[]⟩),(⟨(⟨#[]⟩:az),0,0,[]⟩),(⟨0,[]⟩),(⟨0,[]⟩)⟩)⟩):bt)) (cond (x0.gF==4) (ret ((⟨[],false,(⟨(⟨#[]⟩:az),0,0,[]⟩),(⟨0,[]⟩),(⟨0,(⟨(⟨#[]⟩:az),0,0,[]⟩),(⟨(⟨#[]⟩:az),0,0,[]⟩),(⟨0,[]⟩),(⟨0,[]⟩)⟩)⟩):bt)) (m2 v1 x0.bw.length (call (Z211.R ((bT.at x0.bw (toNat v1)),x2)) fun v2=>(cond (x0.gF==1) (ret ((⟨v2.aD,v2.bO,(⟨v2.aR.aZ,v2.aR.bE,(i64.wrap (v2.aR.bY+1)),v2.aR.bD⟩),v2.eN,v2.fC⟩):bt)) (cond (x0.gF==2) (ck ((0:Int)<=(cond ((0:Int)<(i64.wrap (v2.aD.length - 1))) (i64.wrap (v2.aD.length - 1)) 0)) (ck ((cond ((0:Int)<(i64.wrap (v2.aD.length - 1))) (i64.wrap (v2.aD.length - 1)) 0)<=v2.aD.length) (ret ((⟨(List.take (toNat (cond ((0:Int)<(i64.wrap (v2.aD.length - 1))) (i64.wrap (v2.aD.length - 1)) 0)) v2.aD),v2.bO,v2.aR,v2.eN,v2.fC⟩):bt)))) (cond (x0.gF==3) (ret ((⟨v2.aD,false,(⟨(⟨#[]⟩:az),0,0,[]⟩),(⟨0,[]⟩),(⟨0,(⟨(⟨#[]⟩:az),0,0,[]⟩),(⟨(⟨#[]⟩:az),0,0,[]⟩),(⟨0,[]⟩),(⟨0,[]⟩)⟩)⟩):bt)) (ret v2)))))))))
def pats:List fE:=[.agg [.sl 188,aE],.rd (.int .i64),.rd (.str)]
def res:RP:=.agg [.fr 53,.rd (.bool),.rd (.str),.rd (.int .i64),.rd (.int .i64),.fr 9,.rd (.int .i64),.fr 3,.rd (.int .i64),.rd (.str),.rd (.int .i64),.rd (.int .i64),.fr 9,.rd (.str),.rd (.int .i64),.rd (.int .i64),.fr 9,.rd (.int .i64),.fr 3,.rd (.int .i64),.fr 3]
def md (a0:ay)(a1:Int)(a2:az):aB:=(cond ((Z201.md a0 a1)<0) (⟨[],false,(⟨((⟨#[]⟩:az)),0,0,[]⟩),(⟨0,[]⟩),(⟨0,(⟨((⟨#[]⟩:az)),0,0,[]⟩),(⟨((⟨#[]⟩:az)),0,0,[]⟩),(⟨0,[]⟩),(⟨0,[]⟩)⟩)⟩) (cond (a0.gF==4) (⟨[],false,(⟨((⟨#[]⟩:az)),0,0,[]⟩),(⟨0,[]⟩),(⟨0,(⟨((⟨#[]⟩:az)),0,0,[]⟩),(⟨((⟨#[]⟩:az)),0,0,[]⟩),(⟨0,[]⟩),(⟨0,[]⟩)⟩)⟩) (cond (a0.gF==1) (⟨(Z211.md (a0.bw.getD (toNat (Z201.md a0 a1)) aI.zero) a2).aD,(Z211.md (a0.bw.getD (toNat (Z201.md a0 a1)) aI.zero) a2).bO,(⟨(Z211.md (a0.bw.getD (toNat (Z201.md a0 a1)) aI.zero) a2).aR.aZ,(Z211.md (a0.bw.getD (toNat (Z201.md a0 a1)) aI.zero) a2).aR.bE,(i64.wrap ((Z211.md (a0.bw.getD (toNat (Z201.md a0 a1)) aI.zero) a2).aR.bY+1)),(Z211.md (a0.bw.getD (toNat (Z201.md a0 a1)) aI.zero) a2).aR.bD⟩),(Z211.md (a0.bw.getD (toNat (Z201.md a0 a1)) aI.zero) a2).eN,(Z211.md (a0.bw.getD (toNat (Z201.md a0 a1)) aI.zero) a2).fC⟩) (cond (a0.gF==2) (⟨(List.take (toNat (cond ((0:Int)<(i64.wrap (((Z211.md (a0.bw.getD (toNat (Z201.md a0 a1)) aI.zero) a2).aD.length) - 1))) (i64.wrap (((Z211.md (a0.bw.getD (toNat (Z201.md a0 a1)) aI.zero) a2).aD.length) - 1)) 0)) (Z211.md (a0.bw.getD (toNat (Z201.md a0 a1)) aI.zero) a2).aD),(Z211.md (a0.bw.getD (toNat (Z201.md a0 a1)) aI.zero) a2).bO,(Z211.md (a0.bw.getD (toNat (Z201.md a0 a1)) aI.zero) a2).aR,(Z211.md (a0.bw.getD (toNat (Z201.md a0 a1)) aI.zero) a2).eN,(Z211.md (a0.bw.getD (toNat (Z201.md a0 a1)) aI.zero) a2).fC⟩) (cond (a0.gF==3) (⟨(Z211.md (a0.bw.getD (toNat (Z201.md a0 a1)) aI.zero) a2).aD,false,(⟨((⟨#[]⟩:az)),0,0,[]⟩),(⟨0,[]⟩),(⟨0,(⟨((⟨#[]⟩:az)),0,0,[]⟩),(⟨((⟨#[]⟩:az)),0,0,[]⟩),(⟨0,[]⟩),(⟨0,[]⟩)⟩)⟩) (Z211.md (a0.bw.getD (toNat (Z201.md a0 a1)) aI.zero) a2))))))
def gd (a0:ay)(a1:Int)(a2:az):Prop:=(ay.Sm (2^21) a0)/\(a2.size<=(2^21))
def acc (ls:List L):bV×Int×az:=((bV.dec ls),(cI 2 ls),(rI 3 ls))
def R:(bV×Int×az)->Option bt:=lY gd md
def aj {a0 a1 a2}(h:gd a0 a1 a2):R ((ay.r a0),a1,a2)=some (aB.r (md a0 a1 a2)):=lV h
def aK:gu:=CN pats res acc R
def bn (a0:ay)(a1:Int)(a2:az)(hg:gd a0 a1 a2):F (ay.r a0) a1 a2=ret ((aB.r (md a0 a1 a2)):bt):=by
 obtain ⟨H0,H2⟩:=hg
 unfold F md
 simp only [SS]
 refine ct (Z201.aj H0) ?_
 have fv1_:=Z201.fa a0 a1
 refine bo (fun c1=>fz) (fun c1=>?_)
 have dc1:=c1
 simp only [DC] at dc1
 refine bo (fun c2=>fz) (fun c2=>?_)
 refine aG dt (aG (have:=(H0).1;have:=(H0).1;dt) ?_)
 refine ct (Z211.aj ⟨(bf.getD H0 (by have:=(H0).1;first | assumption | omega | (simp (disch:=omega) only [wi];omega) | (simp;omega))),H2⟩) ?_
 simp only [SS]
 refine bo (fun c3=>fz) (fun c3=>?_)
 refine bo (fun c4=>?_) (fun c4=>?_)
 ·refine aG (have:=((Z211.fc (a0:=a0.bw.getD (toNat (Z201.md a0 a1)) aI.zero) ⟨(bf.getD H0 (by have:=(H0).1;first | assumption | omega | (simp (disch:=omega) only [wi];omega) | (simp;omega))),H2⟩).1).1;have:=(H0).1;dt) (aG (have:=((Z211.fc (a0:=a0.bw.getD (toNat (Z201.md a0 a1)) aI.zero) ⟨(bf.getD H0 (by have:=(H0).1;first | assumption | omega | (simp (disch:=omega) only [wi];omega) | (simp;omega))),H2⟩).1).1;have:=(H0).1;dt) ?_)
  exact fz
 ·exact bo (fun c5=>fz) (fun c5=>fz)
def af:bZ 280 aK:=VT (live:=fun _=>[]) (nt:=54) (run:=fun _ x=>F x.1 x.2.1 x.2.2) mix aA (eS Z201.af Z211.af) .nil Tryz.func280 (by kernel_rfl) (fun _ _=>by kernel_rfl) (fun _ a _ _ hg=>⟨0,bn a.1 a.2.1 a.2.2 hg⟩)
def br (a0:ay)(a1:Int)(a2:az):md a0 a1 a2=Z104.md a0 a1 a2:=by
 unfold md Z104.md
 simp only [Z201.br,Z211.br]
 generalize Z103.md (a0.bw.getD (toNat (Z82.md a0 a1)) aI.zero) a2=A
 have mx:∀n:Int,toNat (cond ((0:Int)<n) n 0)=toNat n:=by
  intro n
  by_cases h:(0:Int)<n
  ·rw [decide_eq_true h];rfl
  ·rw [decide_eq_false h];simp only [aU];omega
 have e:∀k:Nat,(⟨List.take k A.aD,A.bO,A.aR,A.eN,A.fC⟩:aB)=bif decide ((A.aD.length:Int)>0) then (⟨List.take k A.aD,A.bO,A.aR,A.eN,A.fC⟩:aB) else A:=by
  intro k
  obtain ⟨ch,f,e,p,g⟩:=A
  cases ch with
  | nil=>simp
  | cons x xs=>simp only [List.length_cons];rw [decide_eq_true (by omega)];rfl
 simp only [mx,<-e]
end Z212
namespace Z213
inductive Pt where
 | p0 (a:Int) (b:az) (c:an) (d e:Int) (f:an)
def cF:Pt->List V
 | .p0 a b c d e f=>[.int .i64 a,.str b,.own 0,.sl none 280 c,.int .i64 d,.int .i64 e]
def dN:Pt->List aL
 | .p0 a b c d e f=>[.row 68 f]
def step (J:Pt->aC):Pt->aC
 | .p0 a b c d e f=>(cond (e<d) (m2 e (c.length:Int) (call (Z212.R ((bV.at c (toNat e)),a,b)) fun v1=>(ck (eG (((f.length:Int)+1)*304)) (J (.p0 a b c d (i64.wrap (e+1)) (f++[(bt.enc v1)])))))) (ret (f:an)))
def start (J:Pt->aC)(x0:an)(x1:Int)(x2:az):aC:=(ck ((0:Int)<=(cond ((x0.length:Int)<4) (x0.length:Int) 4)) (ck ((cond ((x0.length:Int)<4) (x0.length:Int) 4)<=x0.length) (J (.p0 x1 x2 (List.take (toNat ((cond ((x0.length:Int)<4) (x0.length:Int) 4) - 0)) (List.drop 0 x0)) ((List.take (toNat ((cond ((x0.length:Int)<4) (x0.length:Int) 4) - 0)) (List.drop 0 x0)).length) 0 []))))
def live:Nat->Live:=gx [(3,[(1,none),(2,none),(7,some 68),(15,none),(16,none),(17,none)])]
def md (a0:List ay)(a1:Int)(a2:az):List aB:=((List.take (toNat ((cond ((a0.length:Int)<4) (a0.length:Int) 4) - 0)) (List.drop 0 a0)).map (fun y1=>(Z212.md y1 a1 a2)))
def gd (a0:List ay)(a1:Int)(a2:az):Prop:=(bf (2^21) (fun y:ay=>ay.Sm (2^21) y) a0)/\(a2.size<=(2^21))
def R:=lY gd md
def aj {a0 a1 a2}(h:gd a0 a1 a2):R ((a0.map ay.row),a1,a2)=some ((md a0 a1 a2).map aB.row):=lV h
def aK:=CN [pL 280,pI,pS] (oL 68) RT.dec R
def bn (a0)(a1)(a2)(hg:gd a0 a1 a2):∃n,start (iter step n) (a0.map ay.row) a1 a2=ret ((md a0 a1 a2).map aB.row):=by
 obtain ⟨H0,H2⟩:=hg
 refine dJ dt (dJ dt ?_)
 have Bh2:(List.take (toNat ((cond ((a0.length:Int)<4) (a0.length:Int) 4) - 0)) (List.drop 0 a0)).length<=maxLen:=(by
   have:=((bf.take (k:=(toNat ((cond ((a0.length:Int)<4) (a0.length:Int) 4) - 0))) (bf.drop (k:=0) H0))).1
   simp only [maxLen] at *
   omega)
 refine ex_eq (out:=(fun b:List aB=>ret ((b.map aB.row):an))) (oW (g:=fun (y1:ay)=>(Z212.md y1 a1 a2)) (z:=ay.zero) (t:=fun (s3:List aB)=>s3)) (dc (p:=Pt.p0 a1 a2 ((List.take (toNat ((cond ((a0.length:Int)<4) (a0.length:Int) 4) - 0)) (List.drop 0 a0)).map ay.row) ((List.take (toNat ((cond ((a0.length:Int)<4) (a0.length:Int) 4) - 0)) (List.drop 0 a0)).length:Int) 0 ([].map aB.row)) fz ?_)
 refine bH (pt:=fun (i1:Nat) (s3:List aB)=>Pt.p0 a1 a2 ((List.take (toNat ((cond ((a0.length:Int)<4) (a0.length:Int) 4) - 0)) (List.drop 0 a0)).map ay.row) ((List.take (toNat ((cond ((a0.length:Int)<4) (a0.length:Int) 4) - 0)) (List.drop 0 a0)).length:Int) (i1:Int) (s3.map aB.row)) (out:=(fun b:List aB=>ret ((b.map aB.row):an))) (fun (i1:Nat) (s3:List aB)=>s3.length<=([]:List Int).length+1*i1) (fun J i1 s3 h2 hih2=>?_) (fun s3 hih2=>?_) (by simp)
 ·simp only [step,SS]
  have gr_:=hih2
  simp only [LN] at gr_
  have:=((bf.take (k:=(toNat ((cond ((a0.length:Int)<4) (a0.length:Int) 4) - 0))) (bf.drop (k:=0) H0))).1
  refine aP.yes (by apply decide_eq_true;omega) (aP.yes bu ?_)
  refine aP.yes (bK h2) (cr (Z212.aj ⟨(bf.getD (bf.take (k:=(toNat ((cond ((a0.length:Int)<4) (a0.length:Int) 4) - 0))) (bf.drop (k:=0) H0)) h2),H2⟩) ?_)
  refine aP.yes lm ?_
  refine aP.inl (by
    (simp;omega)) ?_
  rw [aF h2 Bh2]
  exact fz
 ·simp only [step,SS]
  refine cH dn (⟨0,?_⟩)
  exact fz
def af:bZ 184 aK:=L3 30 (fun _=>3) cF dN live step start mix aA bn (cM Z212.af) Tryz.func184
def br (a0:List ay)(a1:Int)(a2:az):md a0 a1 a2=Z105.md a0 a1 a2:=by
 rw [Z105.yY]
 unfold md
 simp only [Z212.br,Int.sub_zero,List.drop_zero]
 congr 1
 by_cases h:(a0.length:Int)<4
 ·rw [decide_eq_true h,aO,List.take_of_length_le (by omega),List.take_of_length_le (by omega)]
 ·rw [decide_eq_false h];rfl
def fc {a0:List ay}{a1:Int}{a2:az}(hg:gd a0 a1 a2):bf (2^21) (fun y:aB=>aB.Sm (2^21) y) (md a0 a1 a2):=by
 rw [br]
 exact Z105.fc hg
end Z213
namespace Z214
def F (x0:an):aC:=(call (Z178.R x0) fun v1=>(cond (!v1) (ret (((⟨0,0,0,0,0,0,0,0,(⟨[],0⟩),(⟨[],0⟩),0,(⟨[],0⟩),false⟩),false):bL×Bool)) (call (Z179.R x0) fun v2=>(call (Z128.R v2) fun v3=>ret ((v3,true):bL×Bool)))))
def md (a0:List aa):au×Bool:=(cond (!(Z178.md a0)) ((⟨0,0,0,0,0,0,0,0,(⟨[],0⟩),(⟨[],0⟩),0,(⟨[],0⟩),false⟩),false) ((Z179.md a0),true))
def gd (a0:List aa):Prop:=(bf (2^21) (fun y:aa=>aa.Sm (2^21) y) a0)
def R:=RR gd md
def aj {a0}(h:gd a0):R (a0.map aa.row)=some ((au.r (md a0).1),(md a0).2):=cO h
def aK:=CN [pL 53] (.gS [(true,f50),(false,[fB])]) RT.dec R
def bn (a0)(H0:gd a0):F (a0.map aa.row)=ret ((au.r (md a0).1),(md a0).2):=by
 refine ct (Z178.aj H0) (bP (fun b:au×Bool=>ret (((au.r b.1),b.2):bL×Bool)) (fun c1=>fz) (fun c1=>?_))
 have tc1:=Z178.tr (by simpa using c1)
 refine ct (Z179.aj ⟨H0,om⟩) (ct (Z128.aj (Z179.fc ⟨H0,om⟩)) ?_)
 exact fz
def af:bZ 160 aK:=W1 11 F mix aA bn (jw Z178.af Z179.af Z128.af) Tryz.func160
def br (a0:List aa):md a0=Z61.md a0:=by
 unfold md Z61.md
 (simp only [Z178.br];rfl)
end Z214
namespace Z215
def F (x0:bL)(x1:Int):aC:=(call (Z134.R (x1,x0.cg,x0.cq)) fun v1=>ret v1)
def md (a0:au)(a1:Int):Bool:=((Z134.md a1 a0.cg a0.cq))
def gd (a0:au)(a1:Int):Prop:=True
def R:=cL gd md
def aj {a0 a1}(h:gd a0 a1):R ((au.r a0),a1)=some (md a0 a1):=cK h
def aK:=CN [.agg lC,pI] oB RT.dec R
def bn (a0)(a1)(hg:gd a0 a1):F (au.r a0) a1=ret (md a0 a1):=ct (Z134.aj trivial) fz
def af:bZ 239 aK:=W2 11 F mix aA bn (cM Z134.af) Tryz.func239
def br (a0:au)(a1:Int):md a0 a1=Z106.md a0 a1:=by
 unfold md Z106.md
 simp only [Z134.br]
end Z215
namespace Z216
inductive Pt where
 | p0 (a b c:Int) (d:an)
def cF:Pt->List V
 | .p0 a b c d=>[.int .i64 a,.int .i64 b,.int .i64 c,.sl none 3 d]
def step (J:Pt->aC):Pt->aC
 | .p0 a b c d=>(cond (c>1) (cond ((nu .i64 b 1)>=c) (J (.p0 a (i64.wrap (Int.tdiv b 2)) (i64.wrap (Int.tdiv (i64.wrap (c+1)) 2)) d)) (cond ((d.length:Int)==0) (ret ((0,false):Int×Bool)) (cond ((Int.tmod b 2)==0) (ck ((0:Int)<(d.length:Int)) (call (Z191.R (a,(gR d 0))) fun v1=>(ck ((1:Int)<=(d.length:Int)) (ck ((d.length:Int)<=(d.length:Int)) (J (.p0 v1 (i64.wrap (Int.tdiv b 2)) (i64.wrap (Int.tdiv (i64.wrap (c+1)) 2)) (List.take (toNat ((d.length:Int) - 1)) (List.drop 1 d)))))))) (ck ((0:Int)<(d.length:Int)) (call (Z191.R ((gR d 0),a)) fun v2=>(ck ((1:Int)<=(d.length:Int)) (ck ((d.length:Int)<=(d.length:Int)) (J (.p0 v2 (i64.wrap (Int.tdiv b 2)) (i64.wrap (Int.tdiv (i64.wrap (c+1)) 2)) (List.take (toNat ((d.length:Int) - 1)) (List.drop 1 d))))))))))) (cond ((d.length:Int)>0) (ret ((0,false):Int×Bool)) (ret ((a,true):Int×Bool))))
def start (J:Pt->aC)(x0 x1 x2:Int)(x3:an):aC:=(cond (x2<1) (ret ((0,false):Int×Bool)) (cond (x2>12) (ret ((0,false):Int×Bool)) (call (Z134.R (x1,0,(i64.wrap (x2 - 1)))) fun v1=>(cond (!v1) (ret ((0,false):Int×Bool)) (J (.p0 x0 x1 x2 x3))))))
def live:Nat->Live:=gx [(3,iR [0,1,2,3])]
def md (a0 a1 a2:Int)(a3:List Int):Int×Bool:=Z107.md a0 a1 a2 a3
def gd (a0 a1 a2:Int)(a3:List Int):Prop:=bf (2^38) (fun y:Int=>True) a3
def R:=tI gd md
def aj {a0 a1 a2 a3}(h:gd a0 a1 a2 a3):R (a0,a1,a2,(a3.map aQ))=some ((md a0 a1 a2 a3).1,(md a0 a1 a2 a3).2):=sH h
def aK:=CN [pI,pI,pI,pL 3] (.gS [(false,[fI]),(false,[fB])]) RT.dec R
def bn (a0)(a1)(a2)(a3)(hg:gd a0 a1 a2 a3):∃n,start (iter step n) a0 a1 a2 (a3.map aQ)=ret ((md a0 a1 a2 a3).1,(md a0 a1 a2 a3).2):=by
 have tm:∀b:Int,0<=b->b<=11->Int.tmod b 2=b % 2:=fun b h1 h2=>Int.tmod_eq_emod_of_nonneg h1
 have td:∀b:Int,0<=b->b<=13->i64.wrap (Int.tdiv b 2)=b / 2:=fun b h1 h2=>by
  rw [Int.tdiv_eq_ediv_of_nonneg h1,Go.IntWalk.i64_in _ (by omega)]
 have t1:∀b:Int,0<=b->b<=13->i64.wrap (b+1)=b+1:=fun b h1 h2=>Go.IntWalk.i64_in _ (by omega)
 have xr:∀b:Int,0<=b->b<=11->nu .i64 b 1=if b % 2=0 then b+1 else b - 1:=by
  intro b h1 h2
  have :b=0∨b=1∨b=2∨b=3∨b=4∨b=5∨b=6∨b=7∨b=8∨b=9∨b=10∨b=11:=by omega
  rcases this with h | h | h | h | h | h | h | h | h | h | h | h<;>subst h<;>decide
 have key:∀(k:Nat) (leaf i n:Int) (p:List Int),p.length<=2^38->0<=i->i<n->n<=12->n<=2^k->∃m,iter step m (Pt.p0 leaf i n (p.map aQ))=ret ((Z107.tf (k+1) leaf i n p).1,(Z107.tf (k+1) leaf i n p).2):=by
  have fin:∀(leaf:Int) (p:List Int) (J:Pt->aC),step J (Pt.p0 leaf 0 1 (p.map aQ))=ret ((if p.isEmpty then (leaf,true) else (0,false)).1,(if p.isEmpty then (leaf,true) else (0,false)).2):=by
   intro leaf p J
   simp only [step,List.length_map]
   refine dZ (by decide) ?_
   cases p with
   | nil=>rfl
   | cons x xs=>exact aG (decide_eq_true (by simp only [List.length_cons];omega)) rfl
  intro k
  induction k with
  | zero=>
   intro leaf i n p hp h1 h2 h3 h4
   have hn:n=1:=by omega
   subst hn
   have hi:i=0:=by omega
   subst hi
   exact ⟨1,(fin leaf p _).trans rfl⟩
  | succ k ih=>
   intro leaf i n p hp h1 h2 h3 h4
   unfold Z107.tf
   by_cases hn:n>1
   ·have e1:=tm i h1 (by omega)
    have e2:=td i h1 (by omega)
    have e3:=t1 n (by omega) (by omega)
    have e4:=td (n+1) (by omega) (by omega)
    have e6:=xr i h1 (by omega)
    rw [if_pos hn]
    by_cases hc:i % 2=1∨i+1<n
    ·have hx:decide (nu .i64 i 1>=n)=false:=by
      rw [e6]
      split
      ·exact decide_eq_false (by omega)
      ·exact decide_eq_false (by omega)
     rw [if_pos hc]
     cases p with
     | nil=>
      refine ⟨1,?_⟩
      show step (iter step 0) (Pt.p0 _ _ _ _)=_
      simp only [step,hx]
      exact aG (decide_eq_true (by omega)) (dZ rfl (aG rfl rfl))
     | cons x xs=>
      simp only [List.length_cons] at hp
      obtain ⟨m,hm⟩:=ih (if i % 2=1 then Z28.md x leaf else Z28.md leaf x) (i / 2) ((n+1) / 2) xs (by omega) (by omega) (by omega) (by omega) (by omega)
      refine ⟨m+1,?_⟩
      show step (iter step m) (Pt.p0 _ _ _ _)=_
      have ht:List.take (toNat ((xs.length:Int)+1 - 1)) (List.drop 1 ((x::xs).map aQ))=xs.map aQ:=by
       simp only [List.map_cons,List.drop_succ_cons,List.drop_zero]
       exact List.take_of_length_le (by simp)
      have hl:(((x::xs).map aQ).length:Int)=(xs.length:Int)+1:=by simp
      simp only [step,hx,e1,e2,e3,e4,ht,hl]
      refine aG (decide_eq_true (by omega)) (dZ rfl (dZ (beq_eq_false_iff_ne.2 (by omega)) ?_))
      have hat:gR ((x::xs).map aQ) 0=x:=rfl
      rw [hat]
      by_cases hp:i % 2=1
      ·rw [if_pos hp] at hm
       rw [hp]
       refine dZ rfl (aG (decide_eq_true (by omega)) (cG _ (by have:=Z191.aj (a0:=x) (a1:=leaf) trivial;rw [Z191.br] at this;exact this) (aG (decide_eq_true (by omega)) (aG (decide_eq_true (by omega)) ?_))))
       rw [if_pos rfl]
       exact hm
      ·rw [if_neg hp] at hm
       have h0:i % 2=0:=by omega
       rw [h0]
       refine aG rfl (aG (decide_eq_true (by omega)) (cG _ (by have:=Z191.aj (a0:=leaf) (a1:=x) trivial;rw [Z191.br] at this;exact this) (aG (decide_eq_true (by omega)) (aG (decide_eq_true (by omega)) ?_))))
       rw [if_neg (by omega)]
       exact hm
    ·have hx:decide (nu .i64 i 1>=n)=true:=by
      rw [e6,if_pos (by omega)]
      exact decide_eq_true (by omega)
     rw [if_neg hc]
     obtain ⟨m,hm⟩:=ih leaf (i / 2) ((n+1) / 2) p hp (by omega) (by omega) (by omega) (by omega)
     refine ⟨m+1,?_⟩
     show step (iter step m) (Pt.p0 _ _ _ _)=_
     simp only [step,hx,e2,e3,e4]
     exact aG (decide_eq_true (by omega)) (aG rfl hm)
   ·have hn1:n=1:=by omega
    subst hn1
    have hi:i=0:=by omega
    subst hi
    refine ⟨1,(fin leaf p _).trans ?_⟩
    rw [if_neg (show ¬(1:Int)>1 by omega)]
 unfold start md Z107.md
 obtain ⟨H3,_⟩:=hg
 by_cases c1:a2<1
 ·refine ⟨0,aG (decide_eq_true c1) ?_⟩
  rw [show Z11.md a2 1 12=false from by simp [Z11.md];omega];rfl
 refine cH (decide_eq_false c1) ?_
 by_cases c2:a2>12
 ·refine ⟨0,aG (decide_eq_true c2) ?_⟩
  rw [show Z11.md a2 1 12=false from by simp [Z11.md];omega];rfl
 refine cH (decide_eq_false c2) ?_
 rw [show Z11.md a2 1 12=true from by simp [Z11.md];omega]
 simp only [Bool.not_true,aU]
 refine eX _ (by have:=Z134.aj (a0:=a1) (a1:=0) (a2:=i64.wrap (a2 - 1)) trivial;rw [Z134.br] at this;exact this) ?_
 cases hd:Z11.md a1 0 (i64.wrap (a2 - 1))
 ·exact ⟨0,rfl⟩
 rw [Go.IntWalk.i64_in _ (by omega)] at hd
 have i2:0<=a1/\a1<=a2 - 1:=by simpa [Z11.md] using hd
 exact key 4 a0 a1 a2 a3 H3 (by omega) (by omega) (by omega) (by omega)
def af:bZ 375 aK:=L4 56 (fun _=>3) cF (fun _=>[]) live step start mix aA bn (eS Z134.af Z191.af) Tryz.func375
def br (a0 a1 a2:Int)(a3:List Int):md a0 a1 a2 a3=Z107.md a0 a1 a2 a3:=by
 unfold md Z107.md
 simp only [Z134.br,Z191.br]
end Z216
namespace Z217
def F (x0 x1:Int)(x2:bp)(x3:eB):aC:=(call (Z188.R x2) fun v1=>(call (Z216.R (v1,x3.eJ,x1,x3.bD)) fun v2=>(cond v2.2 (call (Z180.R x2) fun v3=>(cond v3 (call (Z194.R (x1,v2.1)) fun v4=>ret ((v4==x0))) (ret false))) (ret false))))
def md (a0 a1:Int)(a2:ah)(a3:aV):Bool:=(cond ((Z216.md (Z188.md a2) a3.eJ a1 a3.bD).2) (cond (Z180.md a2) (((Z194.md a1 ((Z216.md (Z188.md a2) a3.eJ a1 a3.bD).1))==a0)) false) false)
def gd (a0 a1:Int)(a2:ah)(a3:aV):Prop:=(ah.Sm (2^21) a2)/\(aV.Sm (2^21) a3)
def R:=tI gd md
def aj {a0 a1 a2 a3}(h:gd a0 a1 a2 a3):R (a0,a1,(ah.r a2),(aV.r a3))=some (md a0 a1 a2 a3):=sH h
def aK:=CN [pI,pI,.agg vY,.agg BS] oB RT.dec R
def bn (a0)(a1)(a2)(a3)(hg:gd a0 a1 a2 a3):F a0 a1 (ah.r a2) (aV.r a3)=ret (md a0 a1 a2 a3):=by
 obtain ⟨H2,H3⟩:=hg
 refine ct (Z188.aj H2) (ct (Z216.aj (H3.mono (by decide) (fun x hx=>trivial))) ?_)
 refine bs (fun c1=>?_) (fun _=>rfl)
 refine ct (Z180.aj H2) (bs (fun c2=>?_) (fun _=>rfl))
 exact ct (Z194.aj trivial) fz
def af:bZ 309 aK:=W4 34 F mix aA bn (nQ Z188.af Z216.af Z180.af Z194.af) Tryz.func309
def br (a0 a1:Int)(a2:ah)(a3:aV):md a0 a1 a2 a3=Z108.md a0 a1 a2 a3:=by
 unfold md Z108.md
 simp only [Z216.br,Z188.br,Z180.br,Z194.br]
 cases Z14.md a2<;>cases (Z107.md (Z26.md a2) a3.eJ a1 a3.bD).2<;>rfl
end Z217
namespace Z218
inductive Pt where
 | p0 (a b:an) (c d:Int)
def cF:Pt->List V
 | .p0 a b c d=>[.sl none 9 a,.sl none 9 b,.int .i64 c,.int .i64 d]
def step (J:Pt->aC):Pt->aC
 | .p0 a b c d=>(cond (d<c) (m2 d (a.length:Int) (m2 d (b.length:Int) (cond (!((rV a (toNat d))==(rV b (toNat d)))) fq (J (.p0 a b c (i64.wrap (d+1))))))) nN)
def start (J:Pt->aC)(x0 x1:an):aC:=(cond (x0.length != (x1.length:Int)) (ret false) (J (.p0 x0 x1 x0.length 0)))
def live:Nat->Live:=gx [(4,iR [0,1,12,13])]
def md (a0 a1:List az):Bool:=(bif (a0.length != (a1.length:Int)) then false else (eu (S:=Unit) (β:=Bool) (fun i2 s4=>(cond (!((a0.getD i2 ⟨#[]⟩)==(a1.getD i2 ⟨#[]⟩))) (.inr false) (.inl ()))) (fun s4=>true) a0.length 0 ()))
def gd (a0 a1:List az):Prop:=(bf (2^21) (fun y:az=>y.size<=(2^21)) a0)/\(bf (2^21) (fun y:az=>y.size<=(2^21)) a1)
def R:=cL gd md
def aj {a0 a1}(h:gd a0 a1):R ((a0.map dO),(a1.map dO))=some (md a0 a1):=cK h
def aK:=CN [pL 9,pL 9] oB RT.dec R
def bn (a0)(a1)(hg:gd a0 a1):∃n,start (iter step n) (a0.map dO) (a1.map dO)=ret (md a0 a1):=by
 obtain ⟨H0,H1⟩:=hg
 unfold start md
 simp only [SS]
 refine gB ret (fun _=>⟨0,rfl⟩) (fun c1=>?_)
 have dc1:=c1
 simp only [DC] at dc1
 have Bh3:=bl H0
 refine dc fz (bH (pt:=fun (i2:Nat) (s4:Unit)=>Pt.p0 (a0.map dO) (a1.map dO) (a0.length:Int) (i2:Int)) (fun _ _=>True) (fun J i2 s4 h3 hih3=>?_) (fun s4 hih3=>?_) trivial)
 ·simp only [step,SS]
  refine aP.yes dt (aP.yes bu ?_)
  refine aP.yes (bK h3) (aP.yes bu ?_)
  refine aP.yes dt (aP.bif (fun _=>aP.inr rfl) (fun c5=>?_))
  refine aP.inl trivial ?_
  rw [aF h3 Bh3]
 ·simp only [step,SS]
  refine cH dn (⟨0,?_⟩)
  exact fz
def af:bZ 172 aK:=L2 26 (fun _=>4) cF (fun _=>[]) live step start mix aA bn .nil Tryz.func172
def md_eq (a0 a1:List az):md a0 a1=iM a0 a1:=by
 refine iL (⟨#[]⟩) (fun i s h h2=>?_) (fun s=>rfl)
 simp only [bne,jC,bool_beq,fY]
 cases iM _ _<;>rfl
end Z218
namespace Z219
def F (x0 x1:bp):aC:=(cond (x0.aZ==x1.aZ) (cond (x0.bE==x1.bE) (cond (x0.bY==x1.bY) (call (Z218.R (x0.bD,x1.bD)) fun v1=>ret v1) (ret false)) (ret false)) (ret false))
def md (a0 a1:ah):Bool:=(cond (a0.aZ==a1.aZ) (cond (a0.bE==a1.bE) (cond (a0.bY==a1.bY) ((Z218.md a0.bD a1.bD)) false) false) false)
def gd (a0 a1:ah):Prop:=(ah.Sm (2^21) a0)/\(ah.Sm (2^21) a1)
def R:=cL gd md
def aj {a0 a1}(h:gd a0 a1):R ((ah.r a0),(ah.r a1))=some (md a0 a1):=cK h
def aK:=CN [.agg vY,.agg vY] oB RT.dec R
def bn (a0)(a1)(hg:gd a0 a1):F (ah.r a0) (ah.r a1)=ret (md a0 a1):=by
 obtain ⟨H0,H1⟩:=hg
 refine bs (fun c1=>?_) (fun _=>rfl)
 refine bs (fun c2=>?_) (fun _=>rfl)
 refine bs (fun c3=>?_) (fun _=>rfl)
 exact ct (Z218.aj ⟨H0.2,H1.2⟩) fz
def af:bZ 53 aK:=W2 31 F mix aA bn (cM Z218.af) Tryz.func53
def md_eq (a0 a1:ah):md a0 a1=iM a0 a1:=by
 unfold md
 cases a0;cases a1
 rw [Bool.eq_iff_iff]
 simp [dM,fY,ah.mk.injEq,Z218.md_eq]
end Z219
namespace Z220
def F (x0 x1:eB):aC:=(cond (x0.eJ==x1.eJ) (call (Z170.R (x0.bD,x1.bD)) fun v1=>ret v1) (ret false))
def md (a0 a1:aV):Bool:=(cond (a0.eJ==a1.eJ) ((Z170.md a0.bD a1.bD)) false)
def gd (a0 a1:aV):Prop:=(aV.Sm (2^21) a0)/\(aV.Sm (2^21) a1)
def R:=cL gd md
def aj {a0 a1}(h:gd a0 a1):R ((aV.r a0),(aV.r a1))=some (md a0 a1):=cK h
def aK:=CN [.agg BS,.agg BS] oB RT.dec R
def bn (a0)(a1)(hg:gd a0 a1):F (aV.r a0) (aV.r a1)=ret (md a0 a1):=by
 obtain ⟨H0,H1⟩:=hg
 refine bs (fun c1=>?_) (fun _=>rfl)
 exact ct (Z170.aj ⟨(H0.mono (by decide) (fun x hx=>trivial)),(H1.mono (by decide) (fun x hx=>trivial))⟩) fz
def af:bZ 158 aK:=W2 17 F mix aA bn (cM Z170.af) Tryz.func158
def md_eq (a0 a1:aV):md a0 a1=iM a0 a1:=by
 unfold md
 cases a0;cases a1
 rw [Bool.eq_iff_iff]
 simp [dM,fY,aV.mk.injEq,Z170.md_eq]
end Z220
namespace Z221
def F (x0 x1:fG):aC:=(cond (x0.eJ==x1.eJ) (call (Z219.R (x0.bq,x1.bq)) fun v1=>(cond v1 (call (Z219.R (x0.bX,x1.bX)) fun v2=>(cond v2 (call (Z220.R (x0.eK,x1.eK)) fun v3=>(cond v3 (call (Z220.R (x0.cE,x1.cE)) fun v4=>ret v4) (ret false))) (ret false))) (ret false))) (ret false))
def md (a0 a1:bQ):Bool:=(cond (a0.eJ==a1.eJ) (cond (Z219.md a0.bq a1.bq) (cond (Z219.md a0.bX a1.bX) (cond (Z220.md a0.eK a1.eK) ((Z220.md a0.cE a1.cE)) false) false) false) false)
def gd (a0 a1:bQ):Prop:=(bQ.Sm (2^21) a0)/\(bQ.Sm (2^21) a1)
def R:=cL gd md
def aj {a0 a1}(h:gd a0 a1):R ((bQ.r a0),(bQ.r a1))=some (md a0 a1):=cK h
def aK:=CN [.agg Dp,.agg Dp] oB RT.dec R
def bn (a0)(a1)(hg:gd a0 a1):F (bQ.r a0) (bQ.r a1)=ret (md a0 a1):=by
 obtain ⟨H0,H1⟩:=hg
 refine bs (fun c1=>?_) (fun _=>rfl)
 refine ct (Z219.aj ⟨H0.1,H1.1⟩) (bs (fun c2=>?_) (fun _=>rfl))
 refine ct (Z219.aj ⟨H0.2.1,H1.2.1⟩) (bs (fun c3=>?_) (fun _=>rfl))
 refine ct (Z220.aj ⟨H0.2.2.1,H1.2.2.1⟩) (bs (fun c4=>?_) (fun _=>rfl))
 exact ct (Z220.aj ⟨H0.2.2.2,H1.2.2.2⟩) fz
def af:bZ 159 aK:=W2 38 F mix aA bn (eS Z219.af Z220.af) Tryz.func159
def md_eq (a0 a1:bQ):md a0 a1=iM a0 a1:=by
 unfold md
 cases a0;cases a1
 rw [Bool.eq_iff_iff]
 simp [dM,fY,bQ.mk.injEq,Z219.md_eq,Z220.md_eq]
end Z221
namespace Z222
def F (x0:bp):aC:=(call (Z219.R (x0,(⟨(⟨#[]⟩:az),0,0,[]⟩))) fun v1=>ret v1)
def md (a0:ah):Bool:=((Z219.md a0 (⟨((⟨#[]⟩:az)),0,0,[]⟩)))
def gd (a0:ah):Prop:=(ah.Sm (2^21) a0)
def R:=RR gd md
def aj {a0}(h:gd a0):R (ah.r a0)=some (md a0):=cO h
def aK:=CN [.agg vY] oB RT.dec R
def bn (a0)(H0:gd a0):F (ah.r a0)=ret (md a0):=ct (Z219.aj (a1:=(⟨((⟨#[]⟩:az):az),0,0,[]⟩:ah)) ⟨H0,⟨(by decide),bf.nil⟩⟩) fz
def af:bZ 311 aK:=W1 6 F mix aA bn (cM Z219.af) Tryz.func311
end Z222
namespace Z223
def F (x0:eB):aC:=(call (Z220.R (x0,(⟨0,[]⟩))) fun v1=>ret v1)
def md (a0:aV):Bool:=((Z220.md a0 (⟨0,[]⟩)))
def gd (a0:aV):Prop:=(aV.Sm (2^21) a0)
def R:=RR gd md
def aj {a0}(h:gd a0):R (aV.r a0)=some (md a0):=cO h
def aK:=CN [.agg BS] oB RT.dec R
def bn (a0)(H0:gd a0):F (aV.r a0)=ret (md a0):=ct (Z220.aj (a1:=(⟨0,[]⟩:aV)) ⟨H0,bf.nil⟩) fz
def af:bZ 312 aK:=W1 6 F mix aA bn (cM Z220.af) Tryz.func312
end Z223
namespace Z224
def F (x0 x1:Int)(x2:bp)(x3:eB)(x4:Int):aC:=(call (Z134.R (x4,0,(i64.wrap (x1 - 1)))) fun v1=>(cond (!v1) (call (Z222.R x2) fun v2=>(cond v2 (call (Z223.R x3) fun v3=>ret v3) (ret false))) (call (Z217.R (x0,x1,x2,x3)) fun v4=>(cond v4 (ret ((x3.eJ==x4))) (ret false)))))
def md (a0 a1:Int)(a2:ah)(a3:aV)(a4:Int):Bool:=(cond (!(Z134.md a4 0 (i64.wrap (a1 - 1)))) (cond (Z222.md a2) ((Z223.md a3)) false) (cond (Z217.md a0 a1 a2 a3) ((a3.eJ==a4)) false))
def gd (a0 a1:Int)(a2:ah)(a3:aV)(a4:Int):Prop:=(ah.Sm (2^21) a2)/\(aV.Sm (2^21) a3)
def R:=qL gd md
def aj {a0 a1 a2 a3 a4}(h:gd a0 a1 a2 a3 a4):R (a0,a1,(ah.r a2),(aV.r a3),a4)=some (md a0 a1 a2 a3 a4):=qA h
def aK:=CN [pI,pI,.agg vY,.agg BS,pI] oB RT.dec R
def bn (a0)(a1)(a2)(a3)(a4)(hg:gd a0 a1 a2 a3 a4):F a0 a1 (ah.r a2) (aV.r a3) a4=ret (md a0 a1 a2 a3 a4):=by
 obtain ⟨H2,H3⟩:=hg
 refine ct (Z134.aj trivial) (bs (fun c1=>?_) (fun c1=>?_))
 ·refine ct (Z222.aj H2) (bs (fun c2=>?_) (fun _=>rfl))
  exact ct (Z223.aj H3) fz
 ·refine ct (Z217.aj ⟨H2,H3⟩) (bs (fun c3=>?_) (fun _=>rfl))
  exact fz
def af:bZ 380 aK:=W5 33 F mix aA bn (nQ Z134.af Z222.af Z223.af Z217.af) Tryz.func380
end Z224
namespace Z225
def F (x0 x1:Int)(x2:az)(x3:fG):aC:=(call (Z135.R x2) fun v1=>(cond (!v1) (ret false) (call (Z134.R (x3.eJ,0,x1)) fun v2=>(cond (!v2) (ret false) (cond (x1==0) (call (Z195.R []) fun v3=>(cond (x0 != v3) (ret false) (call (Z224.R (x0,x1,x3.bq,x3.eK,(i64.wrap (x3.eJ - 1)))) fun v4=>(cond (!v4) (ret false) (call (Z224.R (x0,x1,x3.bX,x3.cE,x3.eJ)) fun v5=>(cond (!v5) (ret false) (cond (x3.eJ==0) (cond (x3.eJ==x1) (ret true) (call (Z183.R (x3.bX.aZ,x2)) fun v6=>ret ((decide (v6>0))))) (call (Z183.R (x3.bq.aZ,x2)) fun v7=>(cond (v7<0) (cond (x3.eJ==x1) (ret true) (call (Z183.R (x3.bX.aZ,x2)) fun v8=>ret ((decide (v8>0))))) (ret false)))))))))) (call (Z224.R (x0,x1,x3.bq,x3.eK,(i64.wrap (x3.eJ - 1)))) fun v9=>(cond (!v9) (ret false) (call (Z224.R (x0,x1,x3.bX,x3.cE,x3.eJ)) fun v10=>(cond (!v10) (ret false) (cond (x3.eJ==0) (cond (x3.eJ==x1) (ret true) (call (Z183.R (x3.bX.aZ,x2)) fun v11=>ret ((decide (v11>0))))) (call (Z183.R (x3.bq.aZ,x2)) fun v12=>(cond (v12<0) (cond (x3.eJ==x1) (ret true) (call (Z183.R (x3.bX.aZ,x2)) fun v13=>ret ((decide (v13>0))))) (ret false)))))))))))))
def md (a0 a1:Int)(a2:az)(a3:bQ):Bool:=(cond (!(Z135.md a2)) false (cond (!(Z134.md a3.eJ 0 a1)) false (cond (a1==0) (cond (a0 != (Z195.md [])) false (cond (!(Z224.md a0 a1 a3.bq a3.eK (i64.wrap (a3.eJ - 1)))) false (cond (!(Z224.md a0 a1 a3.bX a3.cE a3.eJ)) false (cond (a3.eJ==0) (cond (a3.eJ==a1) true ((decide ((Z183.md a3.bX.aZ a2)>0)))) (cond ((Z183.md a3.bq.aZ a2)<0) (cond (a3.eJ==a1) true ((decide ((Z183.md a3.bX.aZ a2)>0)))) false))))) (cond (!(Z224.md a0 a1 a3.bq a3.eK (i64.wrap (a3.eJ - 1)))) false (cond (!(Z224.md a0 a1 a3.bX a3.cE a3.eJ)) false (cond (a3.eJ==0) (cond (a3.eJ==a1) true ((decide ((Z183.md a3.bX.aZ a2)>0)))) (cond ((Z183.md a3.bq.aZ a2)<0) (cond (a3.eJ==a1) true ((decide ((Z183.md a3.bX.aZ a2)>0)))) false)))))))
def gd (a0 a1:Int)(a2:az)(a3:bQ):Prop:=(a2.size<=(2^21))/\(bQ.Sm (2^21) a3)
def R:=tI gd md
def aj {a0 a1 a2 a3}(h:gd a0 a1 a2 a3):R (a0,a1,a2,(bQ.r a3))=some (md a0 a1 a2 a3):=sH h
def aK:=CN [pI,pI,pS,.agg Dp] oB RT.dec R
def bn (a0)(a1)(a2)(a3)(hg:gd a0 a1 a2 a3):F a0 a1 a2 (bQ.r a3)=ret (md a0 a1 a2 a3):=by
 obtain ⟨H2,H3⟩:=hg
 refine ct (Z135.aj (le_trans H2 (by decide))) (bs (fun _=>rfl) (fun c1=>?_))
 refine ct (Z134.aj trivial) (bs (fun _=>rfl) (fun c2=>?_))
 refine bs (fun c3=>?_) (fun c3=>?_)
 ·refine cG _ (rq (Z195.aj bf.nil)) (bs (fun _=>rfl) (fun c4=>?_))
  refine ct (Z224.aj ⟨H3.1,H3.2.2.1⟩) (bs (fun _=>rfl) (fun c5=>?_))
  refine ct (Z224.aj ⟨H3.2.1,H3.2.2.2⟩) (bs (fun _=>rfl) (fun c6=>?_))
  refine bs (fun c7=>?_) (fun c7=>?_)
  ·refine bs (fun _=>rfl) (fun c8=>?_)
   exact ct (Z183.aj trivial) fz
  ·refine ct (Z183.aj trivial) (bs (fun c9=>?_) (fun _=>rfl))
   refine bs (fun _=>rfl) (fun c10=>?_)
   exact ct (Z183.aj trivial) fz
 ·refine ct (Z224.aj ⟨H3.1,H3.2.2.1⟩) (bs (fun _=>rfl) (fun c11=>?_))
  refine ct (Z224.aj ⟨H3.2.1,H3.2.2.2⟩) (bs (fun _=>rfl) (fun c12=>?_))
  refine bs (fun c13=>?_) (fun c13=>?_)
  ·refine bs (fun _=>rfl) (fun c14=>?_)
   exact ct (Z183.aj trivial) fz
  ·refine ct (Z183.aj trivial) (bs (fun c15=>?_) (fun _=>rfl))
   refine bs (fun _=>rfl) (fun c16=>?_)
   exact ct (Z183.aj trivial) fz
def af:bZ 310 aK:=W4 76 F mix aA bn (wP Z135.af Z134.af Z195.af Z224.af Z183.af) Tryz.func310
def Fa (a0 a1:Int)(a2:az)(a3:bQ)(hc:a1<=1000):md a0 a1 a2 a3=Z114.md a0 a1 a2 a3:=by
 unfold md Z114.md Z224.md Z113.md Z222.md Z223.md
 simp only [Z135.br,Z134.br,Z195.br,Z217.br,Z219.md_eq,Z110.md_eq,Z220.md_eq,Z111.md_eq,Z183.br,Z8.lt,Z8.gt]
 cases Z12.md a2
 ·rfl
 cases hr:Z11.md a3.eJ 0 a1
 ·rfl
 have hi:0<=a3.eJ/\a3.eJ<=a1:=by simpa [Z11.md] using hr
 have w1:i64.wrap (a1 - 1)=a1 - 1:=Go.IntWalk.i64_in _ (by omega)
 have w2:i64.wrap (a3.eJ - 1)=a3.eJ - 1:=Go.IntWalk.i64_in _ (by omega)
 have e1:Z11.md (a3.eJ - 1) 0 (a1 - 1)=!(a3.eJ==0):=by
  rw [Bool.eq_iff_iff];simp [Z11.md];omega
 have e2:Z11.md a3.eJ 0 (a1 - 1)=!(a3.eJ==a1):=by
  rw [Bool.eq_iff_iff];simp [Z11.md];omega
 simp only [w1,w2,e1,e2,bne]
 generalize (a3.eJ==0)=z
 generalize (a3.eJ==a1)=e
 generalize (a1==0)=c0
 generalize (a0==Z32.md [])=rt
 generalize iM a3.bq _=x1
 generalize iM a3.eK _=x2
 generalize iM a3.bX _=x3
 generalize iM a3.cE _=x4
 generalize Z108.md a0 a1 a3.bq a3.eK=k1
 generalize Z108.md a0 a1 a3.bX a3.cE=k2
 generalize (a3.eK.eJ==a3.eJ - 1)=p1
 generalize (a3.cE.eJ==a3.eJ)=p2
 generalize (Z8.md a3.bq.aZ a2 == -1)=m1
 generalize (Z8.md a3.bX.aZ a2==1)=m2
 cases c0<;>cases rt<;>cases z<;>cases e<;>cases x1<;>cases x2<;>cases k1<;>cases p1<;>cases m1<;>first | rfl | (cases x3<;>cases x4<;>rfl) | (cases k2<;>cases p2<;>cases m2<;>rfl)
end Z225
namespace Z226
def F (x0:bL)(x1:az)(x2:bt):aC:=(cond x2.bO (cond (x2.aR.aZ==x1) (call (Z217.R (x0.dx,x0.cj,x2.aR,x2.eN)) fun v1=>(cond v1 (call (Z221.R (x2.fC,(⟨0,(⟨(⟨#[]⟩:az),0,0,[]⟩),(⟨(⟨#[]⟩:az),0,0,[]⟩),(⟨0,[]⟩),(⟨0,[]⟩)⟩))) fun v2=>ret v2) (ret false))) (ret false)) (call (Z225.R (x0.dx,x0.cj,x1,x2.fC)) fun v3=>(cond v3 (call (Z222.R x2.aR) fun v4=>(cond v4 (call (Z223.R x2.eN) fun v5=>ret v5) (ret false))) (ret false))))
def md (a0:au)(a1:az)(a2:aB):Bool:=(cond a2.bO (cond (a2.aR.aZ==a1) (cond (Z217.md a0.dx a0.cj a2.aR a2.eN) ((Z221.md a2.fC (⟨0,(⟨((⟨#[]⟩:az)),0,0,[]⟩),(⟨((⟨#[]⟩:az)),0,0,[]⟩),(⟨0,[]⟩),(⟨0,[]⟩)⟩))) false) false) (cond (Z225.md a0.dx a0.cj a1 a2.fC) (cond (Z222.md a2.aR) ((Z223.md a2.eN)) false) false))
def gd (a0:au)(a1:az)(a2:aB):Prop:=(a1.size<=(2^21))/\(aB.Sm (2^21) a2)
def R:=lY gd md
def aj {a0 a1 a2}(h:gd a0 a1 a2):R ((au.r a0),a1,(aB.r a2))=some (md a0 a1 a2):=lV h
def aK:=CN [.agg lC,pS,.agg Ec] oB RT.dec R
def bn (a0)(a1)(a2)(hg:gd a0 a1 a2):F (au.r a0) a1 (aB.r a2)=ret (md a0 a1 a2):=by
 obtain ⟨H1,H2⟩:=hg
 refine bs (fun c1=>?_) (fun c1=>?_)
 ·refine bs (fun c2=>?_) (fun _=>rfl)
  refine ct (Z217.aj ⟨H2.2.1,H2.2.2.1⟩) (bs (fun c3=>?_) (fun _=>rfl))
  exact ct (Z221.aj (a1:=(⟨0,(⟨((⟨#[]⟩:az):az),0,0,[]⟩:ah),(⟨((⟨#[]⟩:az):az),0,0,[]⟩:ah),(⟨0,[]⟩:aV),(⟨0,[]⟩:aV)⟩:bQ)) ⟨H2.2.2.2,⟨⟨(by decide),bf.nil⟩,⟨(by decide),bf.nil⟩,bf.nil,bf.nil⟩⟩) fz
 ·refine ct (Z225.aj ⟨H1,H2.2.2.2⟩) (bs (fun c4=>?_) (fun _=>rfl))
  refine ct (Z222.aj H2.2.1) (bs (fun c5=>?_) (fun _=>rfl))
  exact ct (Z223.aj H2.2.2.1) fz
def af:bZ 240 aK:=W3 49 F mix aA bn (wP Z217.af Z221.af Z225.af Z222.af Z223.af) Tryz.func240
def Fa (a0:au)(a1:az)(a2:aB)(hc:a0.cj<=1000):md a0 a1 a2=Z115.md a0 a1 a2:=by
 unfold md Z115.md Z113.md Z222.md Z223.md
 simp only [Z225.Fa _ _ _ _ hc,Z217.br,Z219.md_eq,Z110.md_eq,Z220.md_eq,Z111.md_eq,Z221.md_eq,Z112.md_eq]
end Z226
namespace Z227
def F (x0:Int)(x1:az)(x2:bt)(x3:Int):aC:=(call (Z214.R x2.aD) fun v1=>(cond (!v1.2) (ret (3:Int)) (cond (v1.1.aS != x0) (ret (2:Int)) (call (Z215.R (v1.1,x3)) fun v2=>(cond (!v2) (ret (4:Int)) (cond v1.1.bk (ret (5:Int)) (call (Z226.R (v1.1,x1,x2)) fun v3=>(cond (!v3) (ret (6:Int)) (ret (1:Int))))))))))
def md (a0:Int)(a1:az)(a2:aB)(a3:Int):Int:=(cond (!(Z214.md a2.aD).2) (3:Int) (cond ((Z214.md a2.aD).1.aS != a0) (2:Int) (cond (!(Z215.md ((Z214.md a2.aD).1) a3)) (4:Int) (cond ((Z214.md a2.aD).1.bk) (5:Int) (cond (!(Z226.md ((Z214.md a2.aD).1) a1 a2)) (6:Int) (1:Int))))))
def gd (a0:Int)(a1:az)(a2:aB)(a3:Int):Prop:=(a1.size<=(2^21))/\(aB.Sm (2^21) a2)
def R:=tI gd md
def aj {a0 a1 a2 a3}(h:gd a0 a1 a2 a3):R (a0,a1,(aB.r a2),a3)=some (md a0 a1 a2 a3):=sH h
def aK:=CN [pI,pS,.agg Ec,pI] oI RT.dec R
def bn (a0)(a1)(a2)(a3)(hg:gd a0 a1 a2 a3):F a0 a1 (aB.r a2) a3=ret (md a0 a1 a2 a3):=by
 obtain ⟨H1,H2⟩:=hg
 refine ct (Z214.aj H2.1) (bs (fun _=>rfl) (fun c1=>?_))
 refine bs (fun _=>rfl) (fun c2=>?_)
 refine ct (Z215.aj trivial) (bs (fun _=>rfl) (fun c3=>?_))
 refine bs (fun _=>rfl) (fun c4=>?_)
 refine ct (Z226.aj ⟨H1,H2⟩) (bs (fun _=>rfl) (fun _=>rfl))
def af:bZ 147 aK:=W4 39 F mix aA bn (jw Z214.af Z215.af Z226.af) Tryz.func147
def br (a0:Int)(a1:az)(a2:aB)(a3:Int):md a0 a1 a2 a3=Z116.md a0 a1 a2 a3:=by
 unfold md Z116.md
 simp only [Z214.br,Z215.br]
 cases hok:(Z61.md a2.aD).2
 ·rfl
 ·have:=Z36.tr (Z61.head hok).2.2
  rw [Z226.Fa _ _ _ (by omega)]
end Z227
namespace Z228
def F (x0:an)(x1:List L):aC:=(cond ((x0.length:Int)>0) (ck ((0:Int)<x0.length) (ret (((aY.at x0 0).aq.aS==(gP x1))))) (ret false))
def pats:List fE:=[.rd (.sl 53),.ptr [aE]]
def res:RP:=.one (.rd (.bool))
def md (a0:List aa)(a1:Int):Bool:=(cond ((a0.length:Int)>0) ((((a0.getD 0 aa.zero).aq).aS==a1)) false)
def gd (a0:List aa)(a1:Int):Prop:=(bf (2^21) (fun y:aa=>aa.Sm (2^21) y) a0)
def acc (ls:List L):an×Int:=((eM ls),(gP (cm 1 (bA 1 ls))))
def R:(an×Int)->Option Bool:=cL gd md
def aj {a0 a1}(h:gd a0 a1):R ((a0.map aa.row),a1)=some (md a0 a1):=cK h
def aK:gu:=CN pats res acc R
def bn (a0:List aa)(a1:Int)(p1:List L)(e1:a1=(gP p1))(hg:gd a0 a1):F (a0.map aa.row) p1=ret ((md a0 a1):Bool):=by
 unfold F md
 simp only [SS,<-e1]
 refine bs (fun c1=>?_) (fun _=>rfl)
 have dc1:=c1
 simp only [DC] at dc1
 exact aG dt fz
def qK (ls:List L)(a:List aa×Int)(e:acc ls=Im.im a)(hg:(p2 gd) a):∃n:Nat,F ((eM ls)) (cm 1 (bA 1 ls))=ret (Im.im ((u2 md) a)):=by
 have e0:(a.1.map aa.row)=(eM ls):=(congrArg (fun x=>x.1) e.symm)
 have hn:=bn a.1 a.2 (cm 1 (bA 1 ls)) (congrArg (fun x=>x.2) e.symm) hg
 refine ⟨0,?_⟩
 rw [<-e0]
 exact hn
def af:bZ 213 aK:=VP (live:=fun _=>[]) (nt:=16) (accr:=fun ls=>((eM ls),(cm 1 (bA 1 ls)))) (run:=fun _ x=>F x.1 x.2) mix aA .nil Tryz.func213 (by kernel_rfl) (fun _ _=>by kernel_rfl) (fun ls a _ e hg=>qK ls a e hg)
end Z228
namespace Z229
inductive Pt where
 | p0 (a:an) (b:List L) (c d:Int)
def pid:Pt->Nat
 | .p0 ..=>2
def cF:Pt->List V
 | .p0 a b c d=>[.sl none 37 a,.fn 213 [.cQ none [aE] b 0],.int .i64 c,.int .i64 d]
def dN:Pt->List aL
 | .p0 a b c d=>[]
def step (J:Pt->aC):Pt->aC
 | .p0 a b c d=>(cond (d<c) (m2 d (a.length:Int) (call (Z228.R ((jo a (toNat d)),(gP b))) fun v1=>(cond v1 (ret (d:Int)) (J (.p0 a b c (i64.wrap (d+1))))))) mG)
def start (J:Pt->aC)(x0:an)(x1:List L):aC:=J (.p0 x0 x1 x0.length 0)
def live:Nat->Live:=gx [(2,iR [0,1,7,8])]
def pats:List fE:=[.rd (.sl 37),.fn 213 [[aE]]]
def res:RP:=.one (.rd (.int .i64))
abbrev E:Env:={ T:=assoc mq,G:=cW [(213,Z228.aK)],nt:=19 }
def step_eq (I:dB)(p:Pt):dU E live I (pid p) (bJ Tryz.f212) (iN (live (pid p)) (cF p) (dN p)) (dz E Tryz.f212 res)=step (fun q=>I (pid q) (cF q) (dN q)) p:=by
 cases p<;>kernel_rfl
def start_eq (I:dB)(ls:List L):gJ E live I (bJ Tryz.f212) (dy pats ls) (dz E Tryz.f212 res)=start (fun q=>I (pid q) (cF q) (dN q)) (eM ls) (cm 1 (bA 1 ls)):=by kernel_rfl
def run_eq (n:Nat)(ls:List L):eV E live Tryz.f212 res n (dy pats ls)=start (iter step n) (eM ls) (cm 1 (bA 1 ls)):=dK (id:=pid) (vs:=cF) (hs:=dN) (step:=step) (start:=fun J=>start J (eM ls) (cm 1 (bA 1 ls))) step_eq (fun I=>start_eq I ls) n
def md (a0:List (List aa))(a1:Int):Int:=(dD (S:=Unit) (β:=Int) (fun i1 (y1:List aa) s3=>(cond (Z228.md y1 a1) (.inr (i1)) (.inl ()))) (fun s3=>((-1):Int)) 0 a0 ())
def gd (a0:List (List aa))(a1:Int):Prop:=(bf (2^21) (fun y:List aa=>bf (2^21) (fun y:aa=>aa.Sm (2^21) y) y) a0)
def acc (ls:List L):an×Int:=((eM ls),(gP (cm 1 (bA 1 ls))))
def R:(an×Int)->Option Int:=cL gd md
def aj {a0 a1}(h:gd a0 a1):R ((a0.map (eF aa.row)),a1)=some (md a0 a1):=cK h
def aK:gu:=CN pats res acc R
def bn (a0:List (List aa))(a1:Int)(p1:List L)(e1:a1=(gP p1))(H0:gd a0 a1):∃n,start (iter step n) (a0.map (eF aa.row)) p1=ret ((md a0 a1):Int):=by
 have Bh2:=bl H0
 refine ex_eq (cC (z:=[])) (dc (p:=Pt.p0 (a0.map (eF aa.row)) p1 (a0.length:Int) 0) fz ?_)
 refine bH (pt:=fun (i1:Nat) (s3:Unit)=>Pt.p0 (a0.map (eF aa.row)) p1 (a0.length:Int) (i1:Int)) (fun _ _=>True) (fun J i1 s3 h2 hih2=>?_) (fun s3 hih2=>?_) trivial
 ·simp only [step,SS,<-e1]
  refine aP.yes dt (aP.yes bu ?_)
  refine aP.yes (bK h2) (cr (Z228.aj (bf.getD H0 h2)) ?_)
  refine aP.bif (fun c4=>aP.inr fz) (fun c4=>?_)
  refine aP.inl trivial ?_
  rw [aF h2 Bh2]
 ·simp only [step,SS,<-e1]
  refine cH dn (⟨0,?_⟩)
  exact fz
def qK (ls:List L)(a:List (List aa)×Int)(e:acc ls=Im.im a)(hg:(p2 gd) a):∃n:Nat,start (iter step n) ((eM ls)) (cm 1 (bA 1 ls))=ret (Im.im ((u2 md) a)):=by
 have e0:(a.1.map (eF aa.row))=(eM ls):=(congrArg (fun x=>x.1) e.symm)
 obtain ⟨n,hn⟩:=bn a.1 a.2 (cm 1 (bA 1 ls)) (congrArg (fun x=>x.2) e.symm) hg
 refine ⟨n,?_⟩
 rw [<-e0]
 exact hn
def af:bZ 212 aK:=VP (accr:=fun ls=>((eM ls),(cm 1 (bA 1 ls)))) (run:=fun n x=>start (iter step n) x.1 x.2) mix aA (cM Z228.af) Tryz.func212 (by kernel_rfl) run_eq (fun ls a _ e hg=>qK ls a e hg)
def fa (a0:List (List aa))(a1:Int):-1<=md a0 a1/\md a0 a1<(a0.length:Int):=by
 refine jN ?_ _ _
 all_goals
  intro i x s b h
  revert h
  simp only [Bool.cond_eq_ite]
  repeat' split
  all_goals (intro h;first | (cases h;rfl) | cases h)
def idx_eq (a0:List (List aa))(a1:Int):md a0 a1=jR (fun y=>Z228.md y a1) 0 a0:=iZ
end Z229
namespace Z230
def F (x0:aW)(x1:Int):aC:=(call (Z229.R (x0.aH,x1)) fun v1=>ret v1)
def md (a0:ak)(a1:Int):Int:=((Z229.md a0.aH a1))
def gd (a0:ak)(a1:Int):Prop:=(ak.Sm (2^21) a0)
def R:=cL gd md
def aj {a0 a1}(h:gd a0 a1):R ((ak.r a0),a1)=some (md a0 a1):=cK h
def aK:=CN [.agg vF,pI] oI RT.dec R
def bn (a0)(a1)(H0:gd a0 a1):F (ak.r a0) a1=ret (md a0 a1):=ct (Z229.aj H0.1) fz
def af:bZ 118 aK:=W2 9 F mix aA bn (cM Z229.af) Tryz.func118
def fa (a0:ak)(a1:Int):-1<=md a0 a1/\md a0 a1<(a0.aH.length:Int):=by unfold md;exact Z229.fa _ _
def br (a0:ak)(a1:Int):md a0 a1=Z88.md a0 a1:=by
 unfold md Z88.md
 rw [Z229.idx_eq]
 symm
 refine mM (fun i x s=>?_) _ _ _
 unfold Z228.md
 cases decide ((x.length:Int)>0)<;>first | rfl | (cases ((x.getD 0 aa.zero).aq).aS==a1<;>rfl)
end Z230
namespace Z231
def F (x0 x1:bL):aC:=(call (Z171.R (x0.bU,x1.bU)) fun v1=>(cond v1 (call (Z171.R (x0.bF,x1.bF)) fun v2=>(cond v2 (call (Z171.R (x0.bB,x1.bB)) fun v3=>(cond v3 (call (Z156.R x0) fun v4=>(call (Z156.R x1) fun v5=>(call (Z170.R (v4,v5)) fun v6=>ret v6))) (ret false))) (ret false))) (ret false)))
def md (a0 a1:au):Bool:=(cond (Z171.md a0.bU a1.bU) (cond (Z171.md a0.bF a1.bF) (cond (Z171.md a0.bB a1.bB) ((Z170.md (Z156.md a0) (Z156.md a1))) false) false) false)
def gd (a0 a1:au):Prop:=(au.Sm (2^21) a0)/\(au.Sm (2^21) a1)
def R:=cL gd md
def aj {a0 a1}(h:gd a0 a1):R ((au.r a0),(au.r a1))=some (md a0 a1):=cK h
def aK:=CN [.agg lC,.agg lC] oB RT.dec R
def bn (a0)(a1)(hg:gd a0 a1):F (au.r a0) (au.r a1)=ret (md a0 a1):=by
 obtain ⟨H0,H1⟩:=hg
 refine ct (Z171.aj ⟨H0.1,H1.1⟩) (bs (fun c1=>?_) (fun _=>rfl))
 refine ct (Z171.aj ⟨H0.2.1,H1.2.1⟩) (bs (fun c2=>?_) (fun _=>rfl))
 refine ct (Z171.aj ⟨H0.2.2,H1.2.2⟩) (bs (fun c3=>?_) (fun _=>rfl))
 refine ct (Z156.aj H0) (ct (Z156.aj H1) ?_)
 exact ct (Z170.aj ⟨⟨(have:=Z156.len a0;have:=(H0.1).1;have:=(H0.2.1).1;have:=(H0.2.2).1;om),fun _ _=>trivial⟩,⟨(have:=Z156.len a1;have:=(H1.1).1;have:=(H1.2.1).1;have:=(H1.2.2).1;om),fun _ _=>trivial⟩⟩) fz
def af:bZ 134 aK:=W2 31 F mix aA bn (jw Z171.af Z156.af Z170.af) Tryz.func134
def md_eq (a0 a1:au):md a0 a1=iM a0 a1:=by
 unfold md
 simp only [Z170.md_eq,Z171.md_eq,Z156.br]
 rw [Bool.eq_iff_iff]
 constructor
 ·intro h
  simp only [CY,Bool.and_eq_true] at h
  exact dM.2 (Z39.inj (dM.1 h.2.2.2))
 ·intro h
  rw [dM] at h
  rw [h]
  simp only [qd];rfl
end Z231
namespace Z232
inductive Pt where
 | p0 (a b:an) (c d:Int)
def cF:Pt->List V
 | .p0 a b c d=>[.sl none 53 a,.sl none 53 b,.int .i64 c,.int .i64 d]
def step (J:Pt->aC):Pt->aC
 | .p0 a b c d=>(cond (d<c) (m2 d (b.length:Int) (m2 d (a.length:Int) (call (Z231.R ((aY.at b (toNat d)).aq,(aY.at a (toNat d)).aq)) fun v1=>(cond (!v1) fq (J (.p0 a b c (i64.wrap (d+1)))))))) nN)
def start (J:Pt->aC)(x0 x1:an):aC:=(cond (x0.length>(x1.length:Int)) (ret false) (J (.p0 x1 x0 x0.length 0)))
def live:Nat->Live:=gx [(4,iR [1,12,13,14])]
def md (a0 a1:List aa):Bool:=(bif (decide (a0.length>(a1.length:Int))) then false else (eu (S:=Unit) (β:=Bool) (fun i2 s4=>(cond (!(Z231.md ((a0.getD i2 aa.zero).aq) ((a1.getD i2 aa.zero).aq))) (.inr false) (.inl ()))) (fun s4=>true) a0.length 0 ()))
def gd (a0 a1:List aa):Prop:=(bf (2^21) (fun y:aa=>aa.Sm (2^21) y) a0)/\(bf (2^21) (fun y:aa=>aa.Sm (2^21) y) a1)
def R:=cL gd md
def aj {a0 a1}(h:gd a0 a1):R ((a0.map aa.row),(a1.map aa.row))=some (md a0 a1):=cK h
def aK:=CN [pL 53,pL 53] oB RT.dec R
def bn (a0)(a1)(hg:gd a0 a1):∃n,start (iter step n) (a0.map aa.row) (a1.map aa.row)=ret (md a0 a1):=by
 obtain ⟨H0,H1⟩:=hg
 unfold start md
 simp only [SS]
 refine gB ret (fun _=>⟨0,rfl⟩) (fun c1=>?_)
 have dc1:=c1
 simp only [DC] at dc1
 have Bh3:=bl H0
 refine dc fz (bH (pt:=fun (i2:Nat) (s4:Unit)=>Pt.p0 (a1.map aa.row) (a0.map aa.row) (a0.length:Int) (i2:Int)) (fun _ _=>True) (fun J i2 s4 h3 hih3=>?_) (fun s4 hih3=>?_) trivial)
 ·simp only [step,SS]
  refine aP.yes dt (aP.yes bu ?_)
  refine aP.yes (bK h3) (aP.yes bu ?_)
  refine aP.yes dt (cr (Z231.aj ⟨(bf.getD H0 h3).1,(bf.getD H1 (by omega)).1⟩) ?_)
  refine aP.bif (fun _=>aP.inr rfl) (fun c5=>?_)
  refine aP.inl trivial ?_
  rw [aF h3 Bh3]
 ·simp only [step,SS]
  refine cH dn (⟨0,?_⟩)
  exact fz
def af:bZ 28 aK:=L2 29 (fun _=>4) cF (fun _=>[]) live step start mix aA bn (cM Z231.af) Tryz.func28
def br (a0 a1:List aa):md a0 a1=Z90.md a0 a1:=by
 unfold md Z90.md
 simp only [Z231.md_eq,Z89.md_eq]
end Z232
namespace Z233
def F (x0:aW)(x1:an):aC:=(call (Z178.R x1) fun v1=>(cond (!v1) (ret (6:Int)) (ck ((0:Int)<x1.length) (call (Z230.R (x0,(aY.at x1 0).aq.aS)) fun v2=>(cond (v2<0) (ret (1:Int)) (m2 v2 x0.aH.length (call (Z232.R ((jo x0.aH (toNat v2)),x1)) fun v3=>(m2 v2 x0.aH.length (call (Z232.R (x1,(jo x0.aH (toNat v2)))) fun v4=>(cond v3 (cond v4 (ret (2:Int)) (cond v3 (ret (3:Int)) (cond v4 (ret (4:Int)) (ret (5:Int))))) (cond v3 (ret (3:Int)) (cond v4 (ret (4:Int)) (ret (5:Int))))))))))))))
def md (a0:ak)(a1:List aa):Int:=(cond (!(Z178.md a1)) (6:Int) (cond ((Z230.md a0 (((a1.getD 0 aa.zero).aq).aS))<0) (1:Int) (cond (Z232.md (a0.aH.getD (toNat (Z230.md a0 (((a1.getD 0 aa.zero).aq).aS))) []) a1) (cond (Z232.md a1 (a0.aH.getD (toNat (Z230.md a0 (((a1.getD 0 aa.zero).aq).aS))) [])) (2:Int) (cond (Z232.md (a0.aH.getD (toNat (Z230.md a0 (((a1.getD 0 aa.zero).aq).aS))) []) a1) (3:Int) (cond (Z232.md a1 (a0.aH.getD (toNat (Z230.md a0 (((a1.getD 0 aa.zero).aq).aS))) [])) (4:Int) (5:Int)))) (cond (Z232.md (a0.aH.getD (toNat (Z230.md a0 (((a1.getD 0 aa.zero).aq).aS))) []) a1) (3:Int) (cond (Z232.md a1 (a0.aH.getD (toNat (Z230.md a0 (((a1.getD 0 aa.zero).aq).aS))) [])) (4:Int) (5:Int))))))
def gd (a0:ak)(a1:List aa):Prop:=(ak.Sm (2^21) a0)/\(bf (2^21) (fun y:aa=>aa.Sm (2^21) y) a1)
def R:=cL gd md
def aj {a0 a1}(h:gd a0 a1):R ((ak.r a0),(a1.map aa.row))=some (md a0 a1):=cK h
def aK:=CN [.agg vF,pL 53] oI RT.dec R
def bn (a0)(a1)(hg:gd a0 a1):F (ak.r a0) (a1.map aa.row)=ret (md a0 a1):=by
 obtain ⟨H0,H1⟩:=hg
 unfold F md
 simp only [SS]
 refine ct (Z178.aj H1) (bs (fun _=>rfl) (fun c1=>?_))
 have tc1:=Z178.tr (by simpa using c1)
 refine aG dt (ct (Z230.aj H0) ?_)
 have fv2_:=Z230.fa a0 (((a1.getD 0 aa.zero).aq).aS)
 refine bs (fun _=>rfl) (fun c2=>?_)
 have dc2:=c2
 simp only [DC] at dc2
 refine aG dt (aG (have:=(H0.1).1;dt) ?_)
 refine ct (Z232.aj ⟨(bf.getD H0.1 (by omega)),H1⟩) (aG dt ?_)
 refine aG (have:=(H0.1).1;dt) (ct (Z232.aj ⟨H1,(bf.getD H0.1 (by omega))⟩) ?_)
 refine bs (fun c3=>?_) (fun c3=>?_)
 ·refine bs (fun _=>rfl) (fun c4=>?_)
  refine bs (fun _=>rfl) (fun c5=>?_)
  refine bs (fun _=>rfl) (fun _=>rfl)
 ·refine bs (fun _=>rfl) (fun c7=>?_)
  refine bs (fun _=>rfl) (fun _=>rfl)
def af:bZ 30 aK:=W2 43 F mix aA bn (jw Z178.af Z230.af Z232.af) Tryz.func30
def fa (a0:ak)(a1:List aa):(md a0 a1=3->1<=a1.length/\0<=Z230.md a0 (a1.getD 0 aa.zero).aq.aS)/\(md a0 a1=5->1<=a1.length/\0<=Z230.md a0 (a1.getD 0 aa.zero).aq.aS):=by
 unfold md
 cases h:Z178.md a1
 ·exact ⟨fun h=>by simp at h,fun h=>by simp at h⟩
 ·have t:=Z178.tr h
  cases hf:decide (Z230.md a0 ((a1.getD 0 aa.zero).aq.aS)<0)
  ·have:=of_decide_eq_false hf
   exact ⟨fun _=>⟨t.1,by omega⟩,fun _=>⟨t.1,by omega⟩⟩
  ·exact ⟨fun h=>by simp at h,fun h=>by simp at h⟩
def br (a0:ak)(a1:List aa):md a0 a1=Z91.md a0 a1:=by
 unfold md Z91.md
 simp only [Z178.br,Z230.br,Z232.br]
end Z233
namespace Z234
inductive Pt where
 | p0 (a b:an) (c d e f g h i j k l m n o:Int) (p:Bool) (q s t u v w y z w24 w25 w26 w27:Int) (w28:Bool) (w29 w30 w31 w32 w33 w34 w35 w36 w37 w38 w39 w40:Int) (w41:Bool)
def cF:Pt->List V
 | .p0 a b c d e f g h i j k l m n o p q s t u v w y z w24 w25 w26 w27 w28 w29 w30 w31 w32 w33 w34 w35 w36 w37 w38 w39 w40 w41=>[.sl none 53 a,.sl none 53 b,.bN 0 0,.int .i64 c]
def dN:Pt->List aL
 | .p0 a b c d e f g h i j k l m n o p q s t u v w y z w24 w25 w26 w27 w28 w29 w30 w31 w32 w33 w34 w35 w36 w37 w38 w39 w40 w41=>[.box [.int .i64 d,.int .i64 e,.int .i64 f,.int .i64 g,.int .i64 h,.int .i64 i,.int .i64 j,.int .i64 k,.nil,.int .i64 l,.nil,.int .i64 m,.int .i64 n,.nil,.int .i64 o,.bool p,.nil,.int .i64 q,.int .i64 s,.int .i64 t,.int .i64 u,.int .i64 v,.int .i64 w,.int .i64 y,.int .i64 z,.nil,.int .i64 w24,.nil,.int .i64 w25,.int .i64 w26,.nil,.int .i64 w27,.bool w28,.nil,.int .i64 w29,.int .i64 w30,.int .i64 w31,.int .i64 w32,.int .i64 w33,.int .i64 w34,.int .i64 w35,.int .i64 w36,.nil,.int .i64 w37,.nil,.int .i64 w38,.int .i64 w39,.nil,.int .i64 w40,.bool w41,.nil]]
def step (J:Pt->aC):Pt->aC
 | .p0 a b c d e f g h i j k l m n o p q s t u v w y z w24 w25 w26 w27 w28 w29 w30 w31 w32 w33 w34 w35 w36 w37 w38 w39 w40 w41=>(m2 c (a.length:Int) (m2 c (b.length:Int) (call (Z231.R ((aY.at a (toNat c)).aq,(aY.at b (toNat c)).aq)) fun v1=>(cond v1 (J (.p0 a b (i64.wrap (c+1)) d e f g h i j k l m n o p q s t u v w y z w24 w25 w26 w27 w28 w29 w30 w31 w32 w33 w34 w35 w36 w37 w38 w39 w40 w41)) (m2 c (a.length:Int) (call (Z130.R (aY.at a (toNat c))) fun v2=>(m2 c (b.length:Int) (call (Z130.R (aY.at b (toNat c))) fun v3=>(cond (c>0) (ck ((0:Int)<=(i64.wrap (c - 1))) (ck ((i64.wrap (c - 1))<(a.length:Int)) (call (Z130.R (aY.at a (toNat (i64.wrap (c - 1))))) fun v4=>ret (((⟨v4,v2,v3⟩:cB),true):cB×Bool)))) (ret (((⟨(⟨(⟨0,0,0,0,0,0,0,0,(⟨[],0⟩:cV),(⟨[],0⟩:cV),0,(⟨[],0⟩:cV),false⟩:bL),[]⟩:aY),v2,v3⟩:cB),true):cB×Bool)))))))))))
def start (J:Pt->aC)(x0 x1:an):aC:=(call (Z178.R x0) fun v1=>(cond (!v1) (ret (((⟨(⟨(⟨0,0,0,0,0,0,0,0,(⟨[],0⟩),(⟨[],0⟩),0,(⟨[],0⟩),false⟩),[]⟩),(⟨(⟨0,0,0,0,0,0,0,0,(⟨[],0⟩),(⟨[],0⟩),0,(⟨[],0⟩),false⟩),[]⟩),(⟨(⟨0,0,0,0,0,0,0,0,(⟨[],0⟩),(⟨[],0⟩),0,(⟨[],0⟩),false⟩),[]⟩)⟩),false):cB×Bool)) (call (Z178.R x1) fun v2=>(cond (!v2) (ret (((⟨(⟨(⟨0,0,0,0,0,0,0,0,(⟨[],0⟩),(⟨[],0⟩),0,(⟨[],0⟩),false⟩),[]⟩),(⟨(⟨0,0,0,0,0,0,0,0,(⟨[],0⟩),(⟨[],0⟩),0,(⟨[],0⟩),false⟩),[]⟩),(⟨(⟨0,0,0,0,0,0,0,0,(⟨[],0⟩),(⟨[],0⟩),0,(⟨[],0⟩),false⟩),[]⟩)⟩),false):cB×Bool)) (ck ((0:Int)<x0.length) (ck ((0:Int)<x1.length) (cond ((aY.at x0 0).aq.aS != (aY.at x1 0).aq.aS) (ret (((⟨(⟨(⟨0,0,0,0,0,0,0,0,(⟨[],0⟩),(⟨[],0⟩),0,(⟨[],0⟩),false⟩),[]⟩),(⟨(⟨0,0,0,0,0,0,0,0,(⟨[],0⟩),(⟨[],0⟩),0,(⟨[],0⟩),false⟩),[]⟩),(⟨(⟨0,0,0,0,0,0,0,0,(⟨[],0⟩),(⟨[],0⟩),0,(⟨[],0⟩),false⟩),[]⟩)⟩),false):cB×Bool)) (call (Z232.R (x0,x1)) fun v3=>(cond v3 (ret (((⟨(⟨(⟨0,0,0,0,0,0,0,0,(⟨[],0⟩),(⟨[],0⟩),0,(⟨[],0⟩),false⟩),[]⟩),(⟨(⟨0,0,0,0,0,0,0,0,(⟨[],0⟩),(⟨[],0⟩),0,(⟨[],0⟩),false⟩),[]⟩),(⟨(⟨0,0,0,0,0,0,0,0,(⟨[],0⟩),(⟨[],0⟩),0,(⟨[],0⟩),false⟩),[]⟩)⟩),false):cB×Bool)) (call (Z232.R (x1,x0)) fun v4=>(cond v4 (ret (((⟨(⟨(⟨0,0,0,0,0,0,0,0,(⟨[],0⟩),(⟨[],0⟩),0,(⟨[],0⟩),false⟩),[]⟩),(⟨(⟨0,0,0,0,0,0,0,0,(⟨[],0⟩),(⟨[],0⟩),0,(⟨[],0⟩),false⟩),[]⟩),(⟨(⟨0,0,0,0,0,0,0,0,(⟨[],0⟩),(⟨[],0⟩),0,(⟨[],0⟩),false⟩),[]⟩)⟩),false):cB×Bool)) (J (.p0 x0 x1 0 0 0 0 0 0 0 0 0 0 0 0 0 false 0 0 0 0 0 0 0 0 0 0 0 0 false 0 0 0 0 0 0 0 0 0 0 0 0 false)))))))))))))
def live:Nat->Live:=gx [(4,iR [0,1,4,6])]
def pt (a b:an)(c:Int):Pt:=Pt.p0 a b c 0 0 0 0 0 0 0 0 0 0 0 0 false 0 0 0 0 0 0 0 0 0 0 0 0 false 0 0 0 0 0 0 0 0 0 0 0 0 false
def md (a0 a1:List aa):aM×Bool:=(cond (!(Z178.md a0)) (aM.zero,false) (cond (!(Z178.md a1)) (aM.zero,false) (cond (((a0.getD 0 aa.zero).aq).aS != ((a1.getD 0 aa.zero).aq).aS) (aM.zero,false) (cond (Z232.md a0 a1) (aM.zero,false) (cond (Z232.md a1 a0) (aM.zero,false) (Z92.BR a0 a1 (Z92.fk a0 a1),true))))))
def gd (a0 a1:List aa):Prop:=bf (2^21) (fun y:aa=>aa.Sm (2^21) y) a0/\bf (2^21) (fun y:aa=>aa.Sm (2^21) y) a1
def R:=cL gd md
def aj {a0 a1}(h:gd a0 a1):R ((a0.map aa.row),(a1.map aa.row))=some ((aM.r (md a0 a1).1),(md a0 a1).2):=cK h
def aK:=CN [pL 53,pL 53] (.gS [(true,f170),(false,[fB])]) RT.dec R
def bn (a0)(a1)(hg:gd a0 a1):∃n,start (iter step n) (a0.map aa.row) (a1.map aa.row)=ret ((aM.r (md a0 a1).1),(md a0 a1).2):=by
 obtain ⟨H0,H1⟩:=hg
 have hl1:=H1.1
 have key:Z92.fk a0 a1<a0.length->Z92.fk a0 a1<a1.length->Z89.md (a0.getD (Z92.fk a0 a1) aa.zero).aq (a1.getD (Z92.fk a0 a1) aa.zero).aq=false->∀d k,k+d=Z92.fk a0 a1->∃n,iter step n (pt (a0.map aa.row) (a1.map aa.row) (k:Int))=ret ((aM.r (Z92.BR a0 a1 (Z92.fk a0 a1)),true):cB×Bool):=by
  intro hn0 hn1 hne d
  have hR:∀k,k<a0.length->k<a1.length->Z231.R (au.r (a0.getD k aa.zero).aq,au.r (a1.getD k aa.zero).aq)=some (Z89.md (a0.getD k aa.zero).aq (a1.getD k aa.zero).aq):=by
   intro k h0 h1
   rw [Z231.aj ⟨(bf.getD H0 h0).1,(bf.getD H1 h1).1⟩,Z231.md_eq,Z89.md_eq]
  induction d with
  | zero=>
   intro k hk
   obtain rfl:k=Z92.fk a0 a1:=by omega
   generalize hkk:Z92.fk a0 a1=k at hn0 hn1 hne ⊢
   refine ⟨1,?_⟩
   show step (iter step 0) _=_
   have q1:(0:Int)<=(k:Int):=by omega
   have q2:(k:Int)<(a0.length:Int):=by omega
   have q3:(k:Int)<(a1.length:Int):=by omega
   simp only [pt,step,MM,S0,aa.rs,au.rs,q1,q2,q3,decide_true,aO]
   rw [call_eq (hR k hn0 hn1),hne,aU,call_eq (Z130.aj (bf.getD H0 hn0)),call_eq (Z130.aj (bf.getD H1 hn1))]
   cases k with
   | zero=>rfl
   | succ k=>
    have q4:((k+1:Nat):Int)>0:=by omega
    have q5:i64.wrap (((k+1:Nat):Int) - 1)=(k:Int):=by rw [wi _ (by omega)];omega
    have q6:(0:Int)<=(k:Int):=by omega
    have q7:(k:Int)<(a0.length:Int):=by omega
    simp only [q4,q5,q6,q7,decide_true,aO,S0,aa.rs]
    rw [call_eq (Z130.aj (bf.getD H0 (by omega)))]
    rfl
  | succ d ih=>
   intro k hk
   obtain ⟨n,hn⟩:=ih (k+1) (by omega)
   refine ⟨n+1,?_⟩
   show step (iter step n) _=_
   have q1:(0:Int)<=(k:Int):=by omega
   have q2:(k:Int)<(a0.length:Int):=by omega
   have q3:(k:Int)<(a1.length:Int):=by omega
   simp only [pt,step,MM,S0,aa.rs,au.rs,q1,q2,q3,decide_true,aO]
   rw [call_eq (hR k (by omega) (by omega)),(Z92.rS a0 a1).1 k (by omega),aO,wi _ (by omega)]
   exact hn
 unfold start md
 simp only [S0,aa.rs,au.rs]
 refine eX _ (Z178.aj H0) ?_
 cases hc0:Z178.md a0
 ·exact ⟨0,rfl⟩
 simp only [Bool.not_true,aU]
 refine eX _ (Z178.aj H1) ?_
 cases hc1:Z178.md a1
 ·exact ⟨0,rfl⟩
 have t0:=Z178.tr hc0
 have t1:=Z178.tr hc1
 simp only [Bool.not_true,aU]
 refine dJ (decide_eq_true (by omega)) (dJ (decide_eq_true (by omega)) ?_)
 cases ((a0.getD 0 aa.zero).aq.aS != (a1.getD 0 aa.zero).aq.aS)
 case true=>exact ⟨0,rfl⟩
 simp only [aU]
 refine eX _ (Z232.aj ⟨H0,H1⟩) ?_
 cases hp0:Z232.md a0 a1
 case true=>exact ⟨0,rfl⟩
 simp only [aU]
 refine eX _ (Z232.aj ⟨H1,H0⟩) ?_
 cases hp1:Z232.md a1 a0
 case true=>exact ⟨0,rfl⟩
 simp only [aU]
 rw [Z232.br] at hp0 hp1
 obtain ⟨h1,h2,h3⟩:=Z92.qe hp0 hp1
 exact key h1 h2 h3 (Z92.fk a0 a1) 0 (by omega)
def af:bZ 119 aK:=L2 74 (fun _=>4) cF dN live step start mix aA bn (nQ Z178.af Z232.af Z231.af Z130.af) Tryz.func119
def fc {a0 a1:List aa}(hg:gd a0 a1):aM.Sm (2^21) ((md a0 a1).1):=by
 unfold gd at hg;unfold md
 have z:aM.Sm (2^21) aM.zero:=⟨⟨⟨bf.nil,bf.nil,bf.nil⟩,bf.nil⟩,⟨⟨bf.nil,bf.nil,bf.nil⟩,bf.nil⟩,⟨⟨bf.nil,bf.nil,bf.nil⟩,bf.nil⟩⟩
 cases Z178.md a0
 ·exact z
 cases Z178.md a1
 ·exact z
 cases ((a0.getD 0 aa.zero).aq.aS != (a1.getD 0 aa.zero).aq.aS)
 case true=>exact z
 cases h1:Z232.md a0 a1
 case true=>exact z
 cases h2:Z232.md a1 a0
 case true=>exact z
 rw [Z232.br] at h1 h2
 obtain ⟨h3,h4,_⟩:=Z92.qe h1 h2
 exact Z92.yZ hg.1 hg.2 h3 h4
def br (a0 a1:List aa):md a0 a1=Z92.md a0 a1:=by
 unfold md Z92.md
 simp only [Z178.br,Z232.br,Z231.md_eq,Z89.md_eq]
end Z234
namespace Z235
def F (x0:aW)(x1:an):aC:=(call (Z133.R x0) fun v1=>(call (Z233.R (x0,x1)) fun v2=>(cond (v2==1) (cond ((x0.aH.length:Int)>=8) (ret ((v1,6):aW×Int)) (call (Z131.R x1) fun v3=>(ck (eG ((v1.aH.length+1)*24)) (ret (((⟨(v1.aH++[[L.sl v3]]),v1.bg⟩),v2):aW×Int))))) (cond (v2==3) (ck ((0:Int)<x1.length) (call (Z230.R (x0,(aY.at x1 0).aq.aS)) fun v4=>(call (Z131.R x1) fun v5=>(m2 v4 v1.aH.length (ret (((⟨(List.set v1.aH (toNat v4) [L.sl v5]),v1.bg⟩),v2):aW×Int)))))) (cond (v2==5) (ck ((0:Int)<x1.length) (call (Z230.R (x0,(aY.at x1 0).aq.aS)) fun v6=>(m2 v6 x0.aH.length (call (Z234.R ((jo x0.aH (toNat v6)),x1)) fun v7=>(cond v7.2 (cond ((x0.bg.length:Int)<8) (ck (eG ((v1.bg.length+1)*600)) (ret (((⟨v1.aH,(v1.bg++[(cB.enc v7.1)])⟩),v2):aW×Int))) (ret ((v1,v2):aW×Int))) (ret ((v1,v2):aW×Int))))))) (ret ((v1,v2):aW×Int)))))))
def md (a0:ak)(a1:List aa):ak×Int:=(cond ((Z233.md a0 a1)==1) (cond ((a0.aH.length:Int)>=8) (a0,6) ((⟨(a0.aH++[a1]),a0.bg⟩),(Z233.md a0 a1))) (cond ((Z233.md a0 a1)==3) ((⟨(List.set a0.aH (toNat (Z230.md a0 (((a1.getD 0 aa.zero).aq).aS))) a1),a0.bg⟩),(Z233.md a0 a1)) (cond ((Z233.md a0 a1)==5) (cond ((Z234.md (a0.aH.getD (toNat (Z230.md a0 (((a1.getD 0 aa.zero).aq).aS))) []) a1).2) (cond ((a0.bg.length:Int)<8) ((⟨a0.aH,(a0.bg++[(Z234.md (a0.aH.getD (toNat (Z230.md a0 (((a1.getD 0 aa.zero).aq).aS))) []) a1).1])⟩),(Z233.md a0 a1)) (a0,(Z233.md a0 a1))) (a0,(Z233.md a0 a1))) (a0,(Z233.md a0 a1)))))
def gd (a0:ak)(a1:List aa):Prop:=(ak.Sm (2^21) a0)/\(bf (2^21) (fun y:aa=>aa.Sm (2^21) y) a1)
def R:=cL gd md
def aj {a0 a1}(h:gd a0 a1):R ((ak.r a0),(a1.map aa.row))=some ((ak.r (md a0 a1).1),(md a0 a1).2):=cK h
def aK:=CN [.agg vF,pL 53] (.gS [(true,f36),(false,[fI])]) RT.dec R
def bn (a0)(a1)(hg:gd a0 a1):F (ak.r a0) (a1.map aa.row)=ret ((ak.r (md a0 a1).1),(md a0 a1).2):=by
 obtain ⟨H0,H1⟩:=hg
 refine ct (Z133.aj H0) ?_
 simp only [SS]
 refine ct (Z233.aj ⟨H0,H1⟩) ?_
 have fv2_:=Z233.fa a0 a1
 refine bP (fun b:ak×Int=>ret (((ak.r b.1),b.2):aW×Int)) (fun c1=>?_) (fun c1=>?_)
 ·refine bP (fun b:ak×Int=>ret (((ak.r b.1),b.2):aW×Int)) (fun c2=>fz) (fun c2=>?_)
  refine ct (Z131.aj H1) (aG (have:=(H0.1).1;lm) ?_)
  exact fz
 ·refine bP (fun b:ak×Int=>ret (((ak.r b.1),b.2):aW×Int)) (fun c3=>?_) (fun c3=>?_)
  ·have dc3:=c3
   simp only [DC] at dc3
   refine aG dt (ct (Z230.aj H0) ?_)
   have fv4_:=Z230.fa a0 (((a1.getD 0 aa.zero).aq).aS)
   refine ct (Z131.aj H1) (aG dt ?_)
   exact aG (have:=(H0.1).1;dt) fz
  ·refine bP (fun b:ak×Int=>ret (((ak.r b.1),b.2):aW×Int)) (fun c4=>?_) (fun c4=>fz)
   have dc4:=c4
   simp only [DC] at dc4
   refine aG dt (ct (Z230.aj H0) ?_)
   have fv6_:=Z230.fa a0 (((a1.getD 0 aa.zero).aq).aS)
   refine aG dt (aG (have:=(H0.1).1;dt) ?_)
   refine ct (Z234.aj ⟨(bf.getD H0.1 (by omega)),H1⟩) (bP (fun b:ak×Int=>ret (((ak.r b.1),b.2):aW×Int)) (fun c5=>?_) (fun c5=>fz))
   exact bP (fun b:ak×Int=>ret (((ak.r b.1),b.2):aW×Int)) (fun c6=>aG (have:=(H0.2).1;lm) fz) (fun c6=>fz)
def af:bZ 22 aK:=W2 77 F mix aA bn (wP Z133.af Z233.af Z131.af Z230.af Z234.af) Tryz.func22
def fc {a0:ak}{a1:List aa}(hg:gd a0 a1):ak.Sm (2^21) ((md a0 a1).1):=by
 unfold gd at hg;unfold md
 obtain ⟨⟨h1,h2⟩,h3⟩:=hg
 simp only [Bool.cond_eq_ite]
 repeat' split
 all_goals (try simp only [decide_eq_true_eq,ge_iff_le] at *)
 all_goals first
  | exact ⟨h1,h2⟩
  | exact ⟨bf.app (a:=7) (b:=1) ⟨by omega,h1.2⟩ (bf.one h3) (by decide),h2⟩
  | exact ⟨bf.set h1 h3,h2⟩
  | exact ⟨h1,bf.app (a:=7) (b:=1) ⟨by omega,h2.2⟩ (bf.one (Z234.fc ⟨bf.yO h1 bf.nil,h3⟩)) (by decide)⟩
def br (a0:ak)(a1:List aa):md a0 a1=Z93.md a0 a1:=by
 unfold md Z93.md
 simp only [Z233.br,Z230.br,Z234.br]
end Z235
namespace Z236
inductive Pt where
 | p0 (a b:an) (c d:Int)
def cF:Pt->List V
 | .p0 a b c d=>[.sl none 315 a,.sl none 315 b,.int .i64 c,.int .i64 d]
def step (J:Pt->aC):Pt->aC
 | .p0 a b c d=>(cond (d<c) (m2 d (a.length:Int) (m2 d (b.length:Int) (cond (!((((bC.at a (toNat d)).jI:Int)==(bC.at b (toNat d)).jI)&&((((bC.at a (toNat d)).ox:Int)==(bC.at b (toNat d)).ox)&&true))) fq (J (.p0 a b c (i64.wrap (d+1))))))) nN)
def start (J:Pt->aC)(x0 x1:an):aC:=(cond (x0.length != (x1.length:Int)) (ret false) (J (.p0 x0 x1 x0.length 0)))
def live:Nat->Live:=gx [(4,iR [0,1,12,13])]
def md (a0 a1:List bC):Bool:=(bif (a0.length != (a1.length:Int)) then false else (eu (S:=Unit) (β:=Bool) (fun i2 s4=>(cond (!((((a0.getD i2 bC.zero).jI)==(a1.getD i2 bC.zero).jI)&&((((a0.getD i2 bC.zero).ox)==(a1.getD i2 bC.zero).ox)&&true))) (.inr false) (.inl ()))) (fun s4=>true) a0.length 0 ()))
def gd (a0 a1:List bC):Prop:=(bf (2^21) (fun y:bC=>bC.Sm (2^21) y) a0)/\(bf (2^21) (fun y:bC=>bC.Sm (2^21) y) a1)
def R:=cL gd md
def aj {a0 a1}(h:gd a0 a1):R ((a0.map bC.row),(a1.map bC.row))=some (md a0 a1):=cK h
def aK:=CN [pL 315,pL 315] oB RT.dec R
def bn (a0)(a1)(hg:gd a0 a1):∃n,start (iter step n) (a0.map bC.row) (a1.map bC.row)=ret (md a0 a1):=by
 obtain ⟨H0,H1⟩:=hg
 unfold start md
 simp only [SS]
 refine gB ret (fun _=>⟨0,rfl⟩) (fun c1=>?_)
 have dc1:=c1
 simp only [DC] at dc1
 have Bh3:=bl H0
 refine dc fz (bH (pt:=fun (i2:Nat) (s4:Unit)=>Pt.p0 (a0.map bC.row) (a1.map bC.row) (a0.length:Int) (i2:Int)) (fun _ _=>True) (fun J i2 s4 h3 hih3=>?_) (fun s4 hih3=>?_) trivial)
 ·simp only [step,SS]
  refine aP.yes dt (aP.yes bu ?_)
  refine aP.yes (bK h3) (aP.yes bu ?_)
  refine aP.yes dt (aP.bif (fun _=>aP.inr rfl) (fun c5=>?_))
  refine aP.inl trivial ?_
  rw [aF h3 Bh3]
 ·simp only [step,SS]
  refine cH dn (⟨0,?_⟩)
  exact fz
def af:bZ 293 aK:=L2 26 (fun _=>4) cF (fun _=>[]) live step start mix aA bn .nil Tryz.func293
def md_eq (a0 a1:List bC):md a0 a1=iM a0 a1:=by
 refine iL (bC.zero) (fun i s h h2=>?_) (fun s=>rfl)
 simp only [bne,jC,bool_beq,fY,bC.eqc]
 cases iM _ _<;>rfl
end Z236
namespace Z237
def F (x0 x1:aY):aC:=(call (Z231.R (x0.aq,x1.aq)) fun v1=>(cond v1 (call (Z236.R (x0.dR,x1.dR)) fun v2=>ret v2) (ret false)))
def md (a0 a1:aa):Bool:=(cond (Z231.md a0.aq a1.aq) ((Z236.md a0.dR a1.dR)) false)
def gd (a0 a1:aa):Prop:=(aa.Sm (2^21) a0)/\(aa.Sm (2^21) a1)
def R:=cL gd md
def aj {a0 a1}(h:gd a0 a1):R ((aa.r a0),(aa.r a1))=some (md a0 a1):=cK h
def aK:=CN [.agg we,.agg we] oB RT.dec R
def bn (a0)(a1)(hg:gd a0 a1):F (aa.r a0) (aa.r a1)=ret (md a0 a1):=by
 obtain ⟨H0,H1⟩:=hg
 refine ct (Z231.aj ⟨H0.1,H1.1⟩) (bs (fun c1=>?_) (fun _=>rfl))
 exact ct (Z236.aj ⟨H0.2,H1.2⟩) fz
def af:bZ 218 aK:=W2 17 F mix aA bn (eS Z231.af Z236.af) Tryz.func218
def md_eq (a0 a1:aa):md a0 a1=iM a0 a1:=by
 unfold md
 cases a0;cases a1
 rw [Bool.eq_iff_iff]
 simp [dM,fY,aa.mk.injEq,Z231.md_eq,Z236.md_eq]
end Z237
namespace Z238
def F (x0:cB):aC:=(call (Z231.R (x0.fA.aq,x0.fB.aq)) fun v1=>(cond v1 (ret false) (call (Z237.R (x0.bq,(⟨(⟨0,0,0,0,0,0,0,0,(⟨[],0⟩),(⟨[],0⟩),0,(⟨[],0⟩),false⟩),[]⟩))) fun v2=>(cond v2 (call (Z166.R x0.fA) fun v3=>(cond v3 (call (Z166.R x0.fB) fun v4=>(cond v4 (ret ((x0.fA.aq.aS==x0.fB.aq.aS))) (ret false))) (ret false))) (call (Z176.R (x0.bq.aq,x0.fA)) fun v5=>(cond v5 (call (Z176.R (x0.bq.aq,x0.fB)) fun v6=>ret v6) (ret false)))))))
def md (a0:aM):Bool:=(cond (Z231.md a0.fA.aq a0.fB.aq) false (cond (Z237.md a0.bq (⟨(⟨0,0,0,0,0,0,0,0,(⟨[],0⟩),(⟨[],0⟩),0,(⟨[],0⟩),false⟩),[]⟩)) (cond (Z166.md a0.fA) (cond (Z166.md a0.fB) ((a0.fA.aq.aS==a0.fB.aq.aS)) false) false) (cond (Z176.md a0.bq.aq a0.fA) ((Z176.md a0.bq.aq a0.fB)) false)))
def gd (a0:aM):Prop:=(aM.Sm (2^21) a0)
def R:=RR gd md
def aj {a0}(h:gd a0):R (aM.r a0)=some (md a0):=cO h
def aK:=CN [.agg vO] oB RT.dec R
def bn (a0)(H0:gd a0):F (aM.r a0)=ret (md a0):=by
 refine ct (Z231.aj ⟨H0.2.1.1,H0.2.2.1⟩) (bs (fun _=>rfl) (fun c1=>?_))
 refine ct (Z237.aj (a1:=(⟨(⟨0,0,0,0,0,0,0,0,(⟨[],0⟩:aN),(⟨[],0⟩:aN),0,(⟨[],0⟩:aN),false⟩:au),[]⟩:aa)) ⟨H0.1,⟨⟨bf.nil,bf.nil,bf.nil⟩,bf.nil⟩⟩) (bs (fun c2=>?_) (fun c2=>?_))
 ·refine ct (Z166.aj H0.2.1) (bs (fun c3=>?_) (fun _=>rfl))
  refine ct (Z166.aj H0.2.2) (bs (fun c4=>?_) (fun _=>rfl))
  exact fz
 ·refine ct (Z176.aj ⟨H0.1.1,H0.2.1⟩) (bs (fun c5=>?_) (fun _=>rfl))
  exact ct (Z176.aj ⟨H0.1.1,H0.2.2⟩) fz
def af:bZ 131 aK:=W1 49 F mix aA bn (nQ Z231.af Z237.af Z166.af Z176.af) Tryz.func131
def br (a0:aM):md a0=Z118.md a0:=by
 unfold md Z118.md
 simp only [Z166.br,Z176.br,Z231.md_eq,Z237.md_eq,Z89.md_eq,Z117.md_eq]
end Z238
namespace Z239
def F (x0:cB):aC:=(call (Z238.R x0) fun v1=>(cond (!v1) mG (ret x0.fA.aq.aS)))
def md (a0:aM):Int:=(cond (!(Z238.md a0)) ((-1):Int) a0.fA.aq.aS)
def gd (a0:aM):Prop:=(aM.Sm (2^21) a0)
def R:=RR gd md
def aj {a0}(h:gd a0):R (aM.r a0)=some (md a0):=cO h
def aK:=CN [.agg vO] oI RT.dec R
def bn (a0)(H0:gd a0):F (aM.r a0)=ret (md a0):=by
 refine ct (Z238.aj H0) (bs (fun _=>rfl) (fun c1=>?_))
 exact fz
def af:bZ 136 aK:=W1 10 F mix aA bn (cM Z238.af) Tryz.func136
def br (a0:aM):md a0=Z119.md a0:=by
 unfold md Z119.md
 simp only [Z238.br]
end Z239
namespace Z240
def F (x0:cB)(x1:List L):aC:=(call (Z239.R x0) fun v1=>ret ((v1==(gP x1))))
def pats:List fE:=[.agg [aE,aE,aE,aE,aE,aE,aE,aE,.sl 3,aE,.sl 3,aE,aE,.sl 3,aE,.bool,.sl 315,aE,aE,aE,aE,aE,aE,aE,aE,.sl 3,aE,.sl 3,aE,aE,.sl 3,aE,.bool,.sl 315,aE,aE,aE,aE,aE,aE,aE,aE,.sl 3,aE,.sl 3,aE,aE,.sl 3,aE,.bool,.sl 315],.ptr [aE]]
def res:RP:=.one (.rd (.bool))
def md (a0:aM)(a1:Int):Bool:=(((Z239.md a0)==a1))
def gd (a0:aM)(a1:Int):Prop:=(aM.Sm (2^21) a0)
def acc (ls:List L):cB×Int:=((cB.dec ls),(gP (cm 1 (bA 51 ls))))
def R:(cB×Int)->Option Bool:=cL gd md
def aj {a0 a1}(h:gd a0 a1):R ((aM.r a0),a1)=some (md a0 a1):=cK h
def aK:gu:=CN pats res acc R
def bn (a0:aM)(a1:Int)(p1:List L)(e1:a1=(gP p1))(H0:gd a0 a1):F (aM.r a0) p1=ret ((md a0 a1):Bool):=by
 unfold F md
 simp only [SS,<-e1]
 exact ct (Z239.aj H0) fz
def qK (ls:List L)(a:aM×Int)(e:acc ls=Im.im a)(hg:(p2 gd) a):∃n:Nat,F (cB.dec ls) (cm 1 (bA 51 ls))=ret (Im.im ((u2 md) a)):=by
 have e0:(aM.r a.1)=(cB.dec ls):=(congrArg (fun x=>x.1) e.symm)
 have hn:=bn a.1 a.2 (cm 1 (bA 51 ls)) (congrArg (fun x=>x.2) e.symm) hg
 refine ⟨0,?_⟩
 rw [<-e0]
 exact hn
def af:bZ 135 aK:=VP (live:=fun _=>[]) (nt:=8) (accr:=fun ls=>((cB.dec ls),(cm 1 (bA 51 ls)))) (run:=fun _ x=>F x.1 x.2) mix aA (cM Z239.af) Tryz.func135 (by kernel_rfl) (fun _ _=>by kernel_rfl) (fun ls a _ e hg=>qK ls a e hg)
end Z240
namespace Z241
inductive Pt where
 | p0 (a:an) (b:List L) (c d:Int)
def pid:Pt->Nat
 | .p0 ..=>2
def cF:Pt->List V
 | .p0 a b c d=>[.sl none 170 a,.fn 135 [.cQ none [aE] b 0],.int .i64 c,.int .i64 d]
def dN:Pt->List aL
 | .p0 a b c d=>[]
def step (J:Pt->aC):Pt->aC
 | .p0 a b c d=>(cond (d<c) (m2 d (a.length:Int) (call (Z240.R ((cB.at a (toNat d)),(gP b))) fun v1=>(cond v1 (ret (d:Int)) (J (.p0 a b c (i64.wrap (d+1))))))) mG)
def start (J:Pt->aC)(x0:an)(x1:List L):aC:=J (.p0 x0 x1 x0.length 0)
def live:Nat->Live:=gx [(2,iR [0,1,7,8])]
def pats:List fE:=[.rd (.sl 170),.fn 135 [[aE]]]
def res:RP:=.one (.rd (.int .i64))
abbrev E:Env:={ T:=assoc mq,G:=cW [(135,Z240.aK)],nt:=19 }
def step_eq (I:dB)(p:Pt):dU E live I (pid p) (bJ Tryz.f221) (iN (live (pid p)) (cF p) (dN p)) (dz E Tryz.f221 res)=step (fun q=>I (pid q) (cF q) (dN q)) p:=by
 cases p<;>kernel_rfl
def start_eq (I:dB)(ls:List L):gJ E live I (bJ Tryz.f221) (dy pats ls) (dz E Tryz.f221 res)=start (fun q=>I (pid q) (cF q) (dN q)) (eM ls) (cm 1 (bA 1 ls)):=by kernel_rfl
def run_eq (n:Nat)(ls:List L):eV E live Tryz.f221 res n (dy pats ls)=start (iter step n) (eM ls) (cm 1 (bA 1 ls)):=dK (id:=pid) (vs:=cF) (hs:=dN) (step:=step) (start:=fun J=>start J (eM ls) (cm 1 (bA 1 ls))) step_eq (fun I=>start_eq I ls) n
def md (a0:List aM)(a1:Int):Int:=(dD (S:=Unit) (β:=Int) (fun i1 y1 s3=>(cond (Z240.md y1 a1) (.inr (i1)) (.inl ()))) (fun s3=>((-1):Int)) 0 a0 ())
def gd (a0:List aM)(a1:Int):Prop:=(bf (2^21) (fun y:aM=>aM.Sm (2^21) y) a0)
def acc (ls:List L):an×Int:=((eM ls),(gP (cm 1 (bA 1 ls))))
def R:(an×Int)->Option Int:=cL gd md
def aj {a0 a1}(h:gd a0 a1):R ((a0.map aM.row),a1)=some (md a0 a1):=cK h
def aK:gu:=CN pats res acc R
def bn (a0:List aM)(a1:Int)(p1:List L)(e1:a1=(gP p1))(H0:gd a0 a1):∃n,start (iter step n) (a0.map aM.row) p1=ret ((md a0 a1):Int):=by
 have Bh2:=bl H0
 refine ex_eq (cC (z:=aM.zero)) (dc (p:=Pt.p0 (a0.map aM.row) p1 (a0.length:Int) 0) fz ?_)
 refine bH (pt:=fun (i1:Nat) (s3:Unit)=>Pt.p0 (a0.map aM.row) p1 (a0.length:Int) (i1:Int)) (fun _ _=>True) (fun J i1 s3 h2 hih2=>?_) (fun s3 hih2=>?_) trivial
 ·simp only [step,SS,<-e1]
  refine aP.yes dt (aP.yes bu ?_)
  refine aP.yes (bK h2) (cr (Z240.aj (bf.getD H0 h2)) ?_)
  refine aP.bif (fun c4=>aP.inr fz) (fun c4=>?_)
  refine aP.inl trivial ?_
  rw [aF h2 Bh2]
 ·simp only [step,SS,<-e1]
  refine cH dn (⟨0,?_⟩)
  exact fz
def qK (ls:List L)(a:List aM×Int)(e:acc ls=Im.im a)(hg:(p2 gd) a):∃n:Nat,start (iter step n) ((eM ls)) (cm 1 (bA 1 ls))=ret (Im.im ((u2 md) a)):=by
 have e0:(a.1.map aM.row)=(eM ls):=(congrArg (fun x=>x.1) e.symm)
 obtain ⟨n,hn⟩:=bn a.1 a.2 (cm 1 (bA 1 ls)) (congrArg (fun x=>x.2) e.symm) hg
 refine ⟨n,?_⟩
 rw [<-e0]
 exact hn
def af:bZ 221 aK:=VP (accr:=fun ls=>((eM ls),(cm 1 (bA 1 ls)))) (run:=fun n x=>start (iter step n) x.1 x.2) mix aA (cM Z240.af) Tryz.func221 (by kernel_rfl) run_eq (fun ls a _ e hg=>qK ls a e hg)
def idx_eq (a0:List aM)(a1:Int):md a0 a1=jR (fun y=>Z240.md y a1) 0 a0:=iZ
end Z241
namespace Z242
def F (x0:an)(x1:List L):aC:=(call (Z241.R (x0,(gP x1))) fun v1=>ret ((decide (v1>=0))))
def pats:List fE:=[.rd (.sl 170),.fn 135 [[aE]]]
def res:RP:=.one (.rd (.bool))
def md (a0:List aM)(a1:Int):Bool:=((decide ((Z241.md a0 a1)>=0)))
def gd (a0:List aM)(a1:Int):Prop:=(bf (2^21) (fun y:aM=>aM.Sm (2^21) y) a0)
def acc (ls:List L):an×Int:=((eM ls),(gP (cm 1 (bA 1 ls))))
def R:(an×Int)->Option Bool:=cL gd md
def aj {a0 a1}(h:gd a0 a1):R ((a0.map aM.row),a1)=some (md a0 a1):=cK h
def aK:gu:=CN pats res acc R
def bn (a0:List aM)(a1:Int)(p1:List L)(e1:a1=(gP p1))(H0:gd a0 a1):F (a0.map aM.row) p1=ret ((md a0 a1):Bool):=by
 unfold F md
 simp only [SS,<-e1]
 exact ct (Z241.aj H0) fz
def qK (ls:List L)(a:List aM×Int)(e:acc ls=Im.im a)(hg:(p2 gd) a):∃n:Nat,F ((eM ls)) (cm 1 (bA 1 ls))=ret (Im.im ((u2 md) a)):=by
 have e0:(a.1.map aM.row)=(eM ls):=(congrArg (fun x=>x.1) e.symm)
 have hn:=bn a.1 a.2 (cm 1 (bA 1 ls)) (congrArg (fun x=>x.2) e.symm) hg
 refine ⟨0,?_⟩
 rw [<-e0]
 exact hn
def af:bZ 129 aK:=VP (live:=fun _=>[]) (nt:=9) (accr:=fun ls=>((eM ls),(cm 1 (bA 1 ls)))) (run:=fun _ x=>F x.1 x.2) mix aA (cM Z241.af) Tryz.func129 (by kernel_rfl) (fun _ _=>by kernel_rfl) (fun ls a _ e hg=>qK ls a e hg)
def any_eq (a0:List aM)(a1:Int):md a0 a1=a0.any (fun y=>Z240.md y a1):=by
 unfold md
 rw [Z241.idx_eq]
 exact rY
end Z242
namespace Z243
def F (x0:aW)(x1:Int):aC:=(cond (x1>=0) (call (Z242.R (x0.bg,x1)) fun v1=>ret v1) (ret false))
def md (a0:ak)(a1:Int):Bool:=(cond (a1>=0) ((Z242.md a0.bg a1)) false)
def gd (a0:ak)(a1:Int):Prop:=(ak.Sm (2^21) a0)
def R:=cL gd md
def aj {a0 a1}(h:gd a0 a1):R ((ak.r a0),a1)=some (md a0 a1):=cK h
def aK:=CN [.agg vF,pI] oB RT.dec R
def bn (a0)(a1)(H0:gd a0 a1):F (ak.r a0) a1=ret (md a0 a1):=by
 refine bs (fun c1=>?_) (fun _=>rfl)
 exact ct (Z242.aj H0.2) fz
def af:bZ 29 aK:=W2 13 F mix aA bn (cM Z242.af) Tryz.func29
def br (a0:ak)(a1:Int):md a0 a1=Z120.md a0 a1:=by
 unfold md Z120.md
 rw [Z242.any_eq]
 rw [oC (p:=fun y=>(Z119.md y==a1)&&decide (a1>=0)) (fun x s=>by
  cases (Z119.md x==a1)<;>cases decide (a1>=0)<;>rfl) a0.bg ()]
 have e:(fun y=>Z240.md y a1)=fun y=>Z119.md y==a1:=by
  funext y
  unfold Z240.md
  rw [Z239.br]
 rw [e]
 cases decide (a1>=0)
 ·simp
 ·simp
end Z243
namespace Z244
abbrev E (n:Nat):Env:={ T:=assoc mq,G:=cW [(147,Z227.aK),(128,Z178.aK),(22,Z235.aK),(219,Z134.aK),(29,Z243.aK)],nt:=74,M:=eW [],np:=n,I:=gp [] }
def ic (n:Nat):gy:=inl (E n) Tryz.f260
def bM (n:Nat):dY Tryz.prog Ev n 260 (ic n):=yp (mt:=false) mix aA (wP Z227.af Z178.af Z235.af Z134.af Z243.af) .nil .nil Tryz.func260 (by kernel_rfl)
end Z244
namespace Z245
inductive Pt where
 | p0 (a:Int) (b:az) (c:Int) (d:an) (e f:Int) (g:Bool) (h:az) (i j:Int) (k l:Bool) (m:az) (n o:Int) (p:Bool) (q s t:an)
def pid:Pt->Nat
 | .p0 ..=>3
def cF:Pt->List V
 | .p0 a b c d e f g h i j k l m n o p q s t=>[.int .i64 a,.str b,.int .i64 c,.bN 0 0,.bN 1 0,.sl none 68 d,.int .i64 e,.int .i64 f,.bN 1 0]
def dN:Pt->List aL
 | .p0 a b c d e f g h i j k l m n o p q s t=>[.box [.nil,.nil,.bool g,.str h,.int .i64 i,.int .i64 j,.nil,.bool k,.nil],.box [.own 2,.own 3,.bool l,.str m,.int .i64 n,.int .i64 o,.nil,.bool p,.own 4],.row 37 q,.row 170 s,.row 3 t]
def step (J:Pt->aC):Pt->aC
 | .p0 a b c d e f g h i j k l m n o p q s t=>(cond (f<e) (m2 f (d.length:Int) (call (Z227.R (a,b,(bt.at d (toNat f)),c)) fun v1=>(call (Z178.R ((bt.at d (toNat f)).aD)) fun v2=>(cond v2 (ck ((0:Int)<((bt.at d (toNat f)).aD.length:Int)) (cond ((aY.at ((bt.at d (toNat f)).aD) 0).aq.aS==a) (call (Z235.R ((⟨q,s⟩:aW),(bt.at d (toNat f)).aD)) fun v3=>(call (Z134.R (v3.2,1,3)) fun v4=>(cond v4 (call (Z243.R (v3.1,a)) fun v5=>(cond (v1==1) (cond (!(!v5)) (ck (eG (((t.length:Int)+1)*8)) (J (.p0 a b c d e (i64.wrap (f+1)) g h i j k l m n o p v3.1.aH v3.1.bg (t++[[L.int 3]])))) (ck (eG (((t.length:Int)+1)*8)) (cond (v1==1) (call (Z206.R ((bt.at d (toNat f)).aR)) fun v6=>ret (((⟨v3.1,(bt.at d (toNat f)).bO,v6,true,(t++[[L.int v1]])⟩:cP),f):cP×Int)) (J (.p0 a b c d e (i64.wrap (f+1)) g h i j k l m n o p v3.1.aH v3.1.bg (t++[[L.int v1]])))))) (ck (eG (((t.length:Int)+1)*8)) (cond (v1==1) (call (Z206.R ((bt.at d (toNat f)).aR)) fun v7=>ret (((⟨v3.1,(bt.at d (toNat f)).bO,v7,true,(t++[[L.int v1]])⟩:cP),f):cP×Int)) (J (.p0 a b c d e (i64.wrap (f+1)) g h i j k l m n o p v3.1.aH v3.1.bg (t++[[L.int v1]]))))))) (cond (v1==1) (ck (eG (((t.length:Int)+1)*8)) (J (.p0 a b c d e (i64.wrap (f+1)) g h i j k l m n o p v3.1.aH v3.1.bg (t++[[L.int 3]])))) (ck (eG (((t.length:Int)+1)*8)) (cond (v1==1) (call (Z206.R ((bt.at d (toNat f)).aR)) fun v8=>ret (((⟨v3.1,(bt.at d (toNat f)).bO,v8,true,(t++[[L.int v1]])⟩:cP),f):cP×Int)) (J (.p0 a b c d e (i64.wrap (f+1)) g h i j k l m n o p v3.1.aH v3.1.bg (t++[[L.int v1]]))))))))) (call (Z134.R (6,1,3)) fun v9=>(cond v9 (call (Z243.R ((⟨q,s⟩:aW),a)) fun v10=>(cond (v1==1) (cond (!(!v10)) (ck (eG (((t.length:Int)+1)*8)) (J (.p0 a b c d e (i64.wrap (f+1)) g h i j k l m n o p q s (t++[[L.int 3]])))) (ck (eG (((t.length:Int)+1)*8)) (cond (v1==1) (call (Z206.R ((bt.at d (toNat f)).aR)) fun v11=>ret (((⟨(⟨q,s⟩:aW),(bt.at d (toNat f)).bO,v11,true,(t++[[L.int v1]])⟩:cP),f):cP×Int)) (J (.p0 a b c d e (i64.wrap (f+1)) g h i j k l m n o p q s (t++[[L.int v1]])))))) (ck (eG (((t.length:Int)+1)*8)) (cond (v1==1) (call (Z206.R ((bt.at d (toNat f)).aR)) fun v12=>ret (((⟨(⟨q,s⟩:aW),(bt.at d (toNat f)).bO,v12,true,(t++[[L.int v1]])⟩:cP),f):cP×Int)) (J (.p0 a b c d e (i64.wrap (f+1)) g h i j k l m n o p q s (t++[[L.int v1]]))))))) (cond (v1==1) (ck (eG (((t.length:Int)+1)*8)) (J (.p0 a b c d e (i64.wrap (f+1)) g h i j k l m n o p q s (t++[[L.int 3]])))) (ck (eG (((t.length:Int)+1)*8)) (cond (v1==1) (call (Z206.R ((bt.at d (toNat f)).aR)) fun v13=>ret (((⟨(⟨q,s⟩:aW),(bt.at d (toNat f)).bO,v13,true,(t++[[L.int v1]])⟩:cP),f):cP×Int)) (J (.p0 a b c d e (i64.wrap (f+1)) g h i j k l m n o p q s (t++[[L.int v1]])))))))))) (call (Z134.R (6,1,3)) fun v14=>(cond v14 (call (Z243.R ((⟨q,s⟩:aW),a)) fun v15=>(cond (v1==1) (cond (!(!v15)) (ck (eG (((t.length:Int)+1)*8)) (J (.p0 a b c d e (i64.wrap (f+1)) g h i j k l m n o p q s (t++[[L.int 3]])))) (ck (eG (((t.length:Int)+1)*8)) (cond (v1==1) (call (Z206.R ((bt.at d (toNat f)).aR)) fun v16=>ret (((⟨(⟨q,s⟩:aW),(bt.at d (toNat f)).bO,v16,true,(t++[[L.int v1]])⟩:cP),f):cP×Int)) (J (.p0 a b c d e (i64.wrap (f+1)) g h i j k l m n o p q s (t++[[L.int v1]])))))) (ck (eG (((t.length:Int)+1)*8)) (cond (v1==1) (call (Z206.R ((bt.at d (toNat f)).aR)) fun v17=>ret (((⟨(⟨q,s⟩:aW),(bt.at d (toNat f)).bO,v17,true,(t++[[L.int v1]])⟩:cP),f):cP×Int)) (J (.p0 a b c d e (i64.wrap (f+1)) g h i j k l m n o p q s (t++[[L.int v1]]))))))) (cond (v1==1) (ck (eG (((t.length:Int)+1)*8)) (J (.p0 a b c d e (i64.wrap (f+1)) g h i j k l m n o p q s (t++[[L.int 3]])))) (ck (eG (((t.length:Int)+1)*8)) (cond (v1==1) (call (Z206.R ((bt.at d (toNat f)).aR)) fun v18=>ret (((⟨(⟨q,s⟩:aW),(bt.at d (toNat f)).bO,v18,true,(t++[[L.int v1]])⟩:cP),f):cP×Int)) (J (.p0 a b c d e (i64.wrap (f+1)) g h i j k l m n o p q s (t++[[L.int v1]])))))))))))) (ret (((⟨(⟨q,s⟩:aW),l,(⟨m,n,o,[]⟩:bp),p,t⟩:cP),(-1)):cP×Int)))
def start (J:Pt->aC)(x0:aW)(x1:an)(x2:Int)(x3:az)(x4:Int):aC:=(call (Z133.R x0) fun v1=>J (.p0 x2 x3 x4 x1 x1.length 0 false ⟨#[]⟩ 0 0 false false ⟨#[]⟩ 0 0 false v1.aH v1.bg []))
def live:Nat->Live:=gx [(3,[(2,none),(3,none),(4,none),(10,none),(12,none),(18,none),(19,none),(20,none),(12,some 8388611)])]
def pats:List fE:=[.agg [.sl 37,.sl 170],.rd (.sl 68),.rd (.int .i64),.rd (.str),.rd (.int .i64)]
def res:RP:=.gS [(true,[.fr 37,.fr 170,.rd (.bool),.rd (.str),.rd (.int .i64),.rd (.int .i64),.fr 9,.rd (.bool),.fr 3]),(false,[.rd (.int .i64)])]
abbrev E:Env:={ T:=assoc mq,G:=cW [(116,Z133.aK),(170,Z206.aK)],nt:=42,M:=eW [],I:=gp [(260,Z244.ic 0)] }
def step_eq (I:dB)(p:Pt):dU E live I (pid p) (bJ Tryz.f165) (iN (live (pid p)) (cF p) (dN p)) (dz E Tryz.f165 res)=step (fun q=>I (pid q) (cF q) (dN q)) p:=by
 cases p<;>kernel_rfl
def start_eq (I:dB)(ls:List L):gJ E live I (bJ Tryz.f165) (dy pats ls) (dz E Tryz.f165 res)=start (fun q=>I (pid q) (cF q) (dN q)) (aW.dec ls) (fJ 2 ls) (cI 3 ls) (rI 4 ls) (cI 5 ls):=by kernel_rfl
def run_eq (n:Nat)(ls:List L):eV E live Tryz.f165 res n (dy pats ls)=start (iter step n) (aW.dec ls) (fJ 2 ls) (cI 3 ls) (rI 4 ls) (cI 5 ls):=dK (id:=pid) (vs:=cF) (hs:=dN) (step:=step) (start:=fun J=>start J (aW.dec ls) (fJ 2 ls) (cI 3 ls) (rI 4 ls) (cI 5 ls)) step_eq (fun I=>start_eq I ls) n
def md (a0:ak)(a1:List aB)(a2:Int)(a3:az)(a4:Int):bG×Int:=(dD (S:=List (List aa)×List aM×List Int) (β:=bG×Int) (fun i1 y1 (s3:List (List aa)×List aM×List Int)=>(cond (Z178.md (y1.aD)) (cond (((y1.aD.getD 0 aa.zero).aq).aS==a2) (cond (Z134.md ((Z235.md (⟨s3.1,s3.2.1⟩) (y1.aD)).2) 1 3) (cond ((Z227.md a2 a3 y1 a4)==1) (cond (!(!(Z243.md ((Z235.md (⟨s3.1,s3.2.1⟩) (y1.aD)).1) a2))) (.inl ((Z235.md (⟨s3.1,s3.2.1⟩) (y1.aD)).1.aH,(Z235.md (⟨s3.1,s3.2.1⟩) (y1.aD)).1.bg,(s3.2.2++[3]))) (cond ((Z227.md a2 a3 y1 a4)==1) (.inr ((⟨(Z235.md (⟨s3.1,s3.2.1⟩) (y1.aD)).1,y1.bO,(y1.aR),true,(s3.2.2++[(Z227.md a2 a3 y1 a4)])⟩),i1)) (.inl ((Z235.md (⟨s3.1,s3.2.1⟩) (y1.aD)).1.aH,(Z235.md (⟨s3.1,s3.2.1⟩) (y1.aD)).1.bg,(s3.2.2++[(Z227.md a2 a3 y1 a4)]))))) (cond ((Z227.md a2 a3 y1 a4)==1) (.inr ((⟨(Z235.md (⟨s3.1,s3.2.1⟩) (y1.aD)).1,y1.bO,(y1.aR),true,(s3.2.2++[(Z227.md a2 a3 y1 a4)])⟩),i1)) (.inl ((Z235.md (⟨s3.1,s3.2.1⟩) (y1.aD)).1.aH,(Z235.md (⟨s3.1,s3.2.1⟩) (y1.aD)).1.bg,(s3.2.2++[(Z227.md a2 a3 y1 a4)]))))) (cond ((Z227.md a2 a3 y1 a4)==1) (.inl ((Z235.md (⟨s3.1,s3.2.1⟩) (y1.aD)).1.aH,(Z235.md (⟨s3.1,s3.2.1⟩) (y1.aD)).1.bg,(s3.2.2++[3]))) (cond ((Z227.md a2 a3 y1 a4)==1) (.inr ((⟨(Z235.md (⟨s3.1,s3.2.1⟩) (y1.aD)).1,y1.bO,(y1.aR),true,(s3.2.2++[(Z227.md a2 a3 y1 a4)])⟩),i1)) (.inl ((Z235.md (⟨s3.1,s3.2.1⟩) (y1.aD)).1.aH,(Z235.md (⟨s3.1,s3.2.1⟩) (y1.aD)).1.bg,(s3.2.2++[(Z227.md a2 a3 y1 a4)])))))) (cond (Z134.md 6 1 3) (cond ((Z227.md a2 a3 y1 a4)==1) (cond (!(!(Z243.md (⟨s3.1,s3.2.1⟩) a2))) (.inl (s3.1,s3.2.1,(s3.2.2++[3]))) (cond ((Z227.md a2 a3 y1 a4)==1) (.inr ((⟨(⟨s3.1,s3.2.1⟩),y1.bO,(y1.aR),true,(s3.2.2++[(Z227.md a2 a3 y1 a4)])⟩),i1)) (.inl (s3.1,s3.2.1,(s3.2.2++[(Z227.md a2 a3 y1 a4)]))))) (cond ((Z227.md a2 a3 y1 a4)==1) (.inr ((⟨(⟨s3.1,s3.2.1⟩),y1.bO,(y1.aR),true,(s3.2.2++[(Z227.md a2 a3 y1 a4)])⟩),i1)) (.inl (s3.1,s3.2.1,(s3.2.2++[(Z227.md a2 a3 y1 a4)]))))) (cond ((Z227.md a2 a3 y1 a4)==1) (.inl (s3.1,s3.2.1,(s3.2.2++[3]))) (cond ((Z227.md a2 a3 y1 a4)==1) (.inr ((⟨(⟨s3.1,s3.2.1⟩),y1.bO,(y1.aR),true,(s3.2.2++[(Z227.md a2 a3 y1 a4)])⟩),i1)) (.inl (s3.1,s3.2.1,(s3.2.2++[(Z227.md a2 a3 y1 a4)]))))))) (cond (Z134.md 6 1 3) (cond ((Z227.md a2 a3 y1 a4)==1) (cond (!(!(Z243.md (⟨s3.1,s3.2.1⟩) a2))) (.inl (s3.1,s3.2.1,(s3.2.2++[3]))) (cond ((Z227.md a2 a3 y1 a4)==1) (.inr ((⟨(⟨s3.1,s3.2.1⟩),y1.bO,(y1.aR),true,(s3.2.2++[(Z227.md a2 a3 y1 a4)])⟩),i1)) (.inl (s3.1,s3.2.1,(s3.2.2++[(Z227.md a2 a3 y1 a4)]))))) (cond ((Z227.md a2 a3 y1 a4)==1) (.inr ((⟨(⟨s3.1,s3.2.1⟩),y1.bO,(y1.aR),true,(s3.2.2++[(Z227.md a2 a3 y1 a4)])⟩),i1)) (.inl (s3.1,s3.2.1,(s3.2.2++[(Z227.md a2 a3 y1 a4)]))))) (cond ((Z227.md a2 a3 y1 a4)==1) (.inl (s3.1,s3.2.1,(s3.2.2++[3]))) (cond ((Z227.md a2 a3 y1 a4)==1) (.inr ((⟨(⟨s3.1,s3.2.1⟩),y1.bO,(y1.aR),true,(s3.2.2++[(Z227.md a2 a3 y1 a4)])⟩),i1)) (.inl (s3.1,s3.2.1,(s3.2.2++[(Z227.md a2 a3 y1 a4)])))))))) (fun (s3:List (List aa)×List aM×List Int)=>((⟨(⟨s3.1,s3.2.1⟩),false,(⟨(⟨#[]⟩:az),0,0,[]⟩),false,s3.2.2⟩),(-1))) 0 a1 (a0.aH,a0.bg,[]))
def gd (a0:ak)(a1:List aB)(a2:Int)(a3:az)(a4:Int):Prop:=(ak.Sm (2^21) a0)/\(bf (2^21) (fun y:aB=>aB.Sm (2^21) y) a1)/\(a3.size<=(2^21))
def acc (ls:List L):aW×an×Int×az×Int:=((aW.dec ls),(fJ 2 ls),(cI 3 ls),(rI 4 ls),(cI 5 ls))
def R:(aW×an×Int×az×Int)->Option (cP×Int):=qL gd md
def aj {a0 a1 a2 a3 a4}(h:gd a0 a1 a2 a3 a4):R ((ak.r a0),(a1.map aB.row),a2,a3,a4)=some ((bG.r (md a0 a1 a2 a3 a4).1),(md a0 a1 a2 a3 a4).2):=qA h
def aK:gu:=CN pats res acc R
def bn (a0:ak)(a1:List aB)(a2:Int)(a3:az)(a4:Int)(hg:gd a0 a1 a2 a3 a4):∃n,start (iter step n) (ak.r a0) (a1.map aB.row) a2 a3 a4=ret (((bG.r (md a0 a1 a2 a3 a4).1),(md a0 a1 a2 a3 a4).2):cP×Int):=by
 obtain ⟨H0,H1,H3⟩:=hg
 refine cx (Z133.aj H0) ?_
 have Bh2:=bl H1
 refine ex_eq (out:=(fun b:bG×Int=>ret (((bG.r b.1),b.2):cP×Int))) (cC (z:=aB.zero)) (dc (p:=Pt.p0 a2 a3 a4 (a1.map aB.row) (a1.length:Int) 0 false (⟨#[]⟩:az) 0 0 false false (⟨#[]⟩:az) 0 0 false (a0.aH.map (eF aa.row)) (a0.bg.map aM.row) ([].map aQ)) fz ?_)
 refine bH (pt:=fun (i1:Nat) (s3:List (List aa)×List aM×List Int)=>Pt.p0 a2 a3 a4 (a1.map aB.row) (a1.length:Int) (i1:Int) false (⟨#[]⟩:az) 0 0 false false (⟨#[]⟩:az) 0 0 false (s3.1.map (eF aa.row)) (s3.2.1.map aM.row) (s3.2.2.map aQ)) (s:=((a0.aH,a0.bg,[]):List (List aa)×List aM×List Int)) (out:=(fun b:bG×Int=>ret (((bG.r b.1),b.2):cP×Int))) (fun (i1:Nat) (s3:List (List aa)×List aM×List Int)=>ak.Sm (2^21) (⟨s3.1,s3.2.1⟩:ak)/\s3.2.2.length<=i1) (fun J i1 s3 h2 hih2=>?_) (fun s3 hih2=>?_) ⟨H0,zero_le _⟩
 ·simp only [step,SS]
  have:=(H1).1
  refine aP.yes dt (aP.yes bu ?_)
  refine aP.yes (bK h2) (cr (Z227.aj ⟨H3,(bf.getD H1 h2)⟩) ?_)
  refine cr (Z178.aj (bf.getD H1 h2).1) (aP.bif (fun c4=>?_) (fun c4=>?_))
  ·have tc4:=Z178.tr (by simpa using c4)
   refine aP.yes (have:=((bf.getD (z:=aB.zero) H1 h2).1).1;dt) (aP.bif (fun c5=>?_) (fun c5=>?_))
   ·refine cr (Z235.aj ⟨⟨hih2.1.1,hih2.1.2⟩,(bf.getD H1 h2).1⟩) (cr (Z134.aj trivial) ?_)
    refine aP.bif (fun c6=>?_) (fun c6=>?_)
    ·refine cr (Z243.aj (Z235.fc ⟨⟨hih2.1.1,hih2.1.2⟩,(bf.getD H1 h2).1⟩)) (aP.bif (fun c7=>?_) (fun c7=>?_))
     ·refine aP.bif (fun c8=>?_) (fun c8=>?_)
      ·refine aP.yes lm (aP.inl (⟨Z235.fc ⟨hih2.1,(bf.getD H1 h2).1⟩,ke hih2.2⟩) ?_)
       rw [aF h2 Bh2]
       exact fz
      ·refine aP.yes lm (aP.bif (fun c9=>?_) (fun c9=>?_))
       ·refine cr (Z206.aj (bf.getD H1 h2).2.1) (aP.inr ?_)
        exact fz
       ·refine aP.inl (⟨Z235.fc ⟨hih2.1,(bf.getD H1 h2).1⟩,ke hih2.2⟩) ?_
        rw [aF h2 Bh2]
        exact fz
     ·refine aP.yes lm (aP.bif (fun c10=>?_) (fun c10=>?_))
      ·refine cr (Z206.aj (bf.getD H1 h2).2.1) (aP.inr ?_)
       exact fz
      ·refine aP.inl (⟨Z235.fc ⟨hih2.1,(bf.getD H1 h2).1⟩,ke hih2.2⟩) ?_
       rw [aF h2 Bh2]
       exact fz
    ·refine aP.bif (fun c11=>?_) (fun c11=>?_)
     ·refine aP.yes lm (aP.inl (⟨Z235.fc ⟨hih2.1,(bf.getD H1 h2).1⟩,ke hih2.2⟩) ?_)
      rw [aF h2 Bh2]
      exact fz
     ·refine aP.yes lm (aP.bif (fun c12=>?_) (fun c12=>?_))
      ·refine cr (Z206.aj (bf.getD H1 h2).2.1) (aP.inr ?_)
       exact fz
      ·refine aP.inl (⟨Z235.fc ⟨hih2.1,(bf.getD H1 h2).1⟩,ke hih2.2⟩) ?_
       rw [aF h2 Bh2]
       exact fz
   ·refine cr (Z134.aj trivial) (aP.bif (fun c13=>?_) (fun c13=>?_))
    ·refine cr (Z243.aj ⟨hih2.1.1,hih2.1.2⟩) (aP.bif (fun c14=>?_) (fun c14=>?_))
     ·refine aP.bif (fun c15=>?_) (fun c15=>?_)
      ·refine aP.yes lm (aP.inl (⟨hih2.1,ke hih2.2⟩) ?_)
       rw [aF h2 Bh2]
       exact fz
      ·refine aP.yes lm (aP.bif (fun c16=>?_) (fun c16=>?_))
       ·refine cr (Z206.aj (bf.getD H1 h2).2.1) (aP.inr ?_)
        exact fz
       ·refine aP.inl (⟨hih2.1,ke hih2.2⟩) ?_
        rw [aF h2 Bh2]
        exact fz
     ·refine aP.yes lm (aP.bif (fun c17=>?_) (fun c17=>?_))
      ·refine cr (Z206.aj (bf.getD H1 h2).2.1) (aP.inr ?_)
       exact fz
      ·refine aP.inl (⟨hih2.1,ke hih2.2⟩) ?_
       rw [aF h2 Bh2]
       exact fz
    ·refine aP.bif (fun c18=>?_) (fun c18=>?_)
     ·refine aP.yes lm (aP.inl (⟨hih2.1,ke hih2.2⟩) ?_)
      rw [aF h2 Bh2]
      exact fz
     ·refine aP.yes lm (aP.bif (fun c19=>?_) (fun c19=>?_))
      ·refine cr (Z206.aj (bf.getD H1 h2).2.1) (aP.inr ?_)
       exact fz
      ·refine aP.inl (⟨hih2.1,ke hih2.2⟩) ?_
       rw [aF h2 Bh2]
       exact fz
  ·refine cr (Z134.aj trivial) (aP.bif (fun c20=>?_) (fun c20=>?_))
   ·refine cr (Z243.aj ⟨hih2.1.1,hih2.1.2⟩) (aP.bif (fun c21=>?_) (fun c21=>?_))
    ·refine aP.bif (fun c22=>?_) (fun c22=>?_)
     ·refine aP.yes lm (aP.inl (⟨hih2.1,ke hih2.2⟩) ?_)
      rw [aF h2 Bh2]
      exact fz
     ·refine aP.yes lm (aP.bif (fun c23=>?_) (fun c23=>?_))
      ·refine cr (Z206.aj (bf.getD H1 h2).2.1) (aP.inr ?_)
       exact fz
      ·refine aP.inl (⟨hih2.1,ke hih2.2⟩) ?_
       rw [aF h2 Bh2]
       exact fz
    ·refine aP.yes lm (aP.bif (fun c24=>?_) (fun c24=>?_))
     ·refine cr (Z206.aj (bf.getD H1 h2).2.1) (aP.inr ?_)
      exact fz
     ·refine aP.inl (⟨hih2.1,ke hih2.2⟩) ?_
      rw [aF h2 Bh2]
      exact fz
   ·refine aP.bif (fun c25=>?_) (fun c25=>?_)
    ·refine aP.yes lm (aP.inl (⟨hih2.1,ke hih2.2⟩) ?_)
     rw [aF h2 Bh2]
     exact fz
    ·refine aP.yes lm (aP.bif (fun c26=>?_) (fun c26=>?_))
     ·refine cr (Z206.aj (bf.getD H1 h2).2.1) (aP.inr ?_)
      exact fz
     ·refine aP.inl (⟨hih2.1,ke hih2.2⟩) ?_
      rw [aF h2 Bh2]
      exact fz
 ·simp only [step,SS]
  refine cH dn (⟨0,?_⟩)
  exact fz
def af:bZ 165 aK:=VI (mt:=false) (run:=fun n x=>start (iter step n) x.1 x.2.1 x.2.2.1 x.2.2.2.1 x.2.2.2.2) mix aA (eS Z133.af Z206.af) .nil (.cons (Z244.bM 0) .nil) Tryz.func165 (by kernel_rfl) run_eq (fun _ a _ _ hg=>bn a.1 a.2.1 a.2.2.1 a.2.2.2.1 a.2.2.2.2 hg)
def vT (a0:ak)(a1:List aB)(a2:Int)(a3:az)(a4:Int):md a0 a1 a2 a3 a4=dD (fun i y s=>(Z121.zu a2 a3 a4 y s).map id (fun b=>(b,(i:Int)))) (fun s=>(Z121.fin s,-1)) 0 a1 (a0.aH,a0.bg,[]):=by
 refine mD (fun i y _ s=>?_) (fun s=>rfl)
 have h31:((3:Int)==1)=false:=rfl
 have h61:((6:Int)==1)=false:=rfl
 have h62:((6:Int)==2)=false:=rfl
 have h63:((6:Int)==3)=false:=rfl
 have hin:∀n:Int,Z134.md n 1 3=(n==1||(n==2||n==3)):=fun n=>by
  unfold Z134.md
  rw [Bool.eq_iff_iff];simp;omega
 simp only [Z227.br,Z178.br,Z235.br,Z243.br,hin]
 unfold Z121.zu Z121.xV
 cases g1:Z60.md y.aD
 ·have e:(Z61.md y.aD).2=false:=by unfold Z61.md;rw [g1];rfl
  cases g2:(Z116.md a2 a3 y a4==1)<;>simp [e,g2,h31,h61,h62,h63,Sum.map]
 have hl:=Z60.tr g1
 have e:(Z61.md y.aD).2=true:=by unfold Z61.md;rw [g1];rfl
 have e2:(Z61.md y.aD).1.aS=(y.aD.getD 0 aa.zero).aq.aS:=by
  have hi:toNat (i64.wrap ((y.aD.length:Int) - 1))=y.aD.length - 1:=by simp (disch:=omega) only [wi];omega
  have:=Z60.Ek g1 (y.aD.length - 1) (by omega)
  unfold Z61.md
  rw [g1,hi]
  exact this
 rw [e2,e]
 cases g3:((y.aD.getD 0 aa.zero).aq.aS==a2)
 ·cases g2:(Z116.md a2 a3 y a4==1)<;>simp [g2,h31,h61,h62,h63,Sum.map]
 generalize Z93.md (⟨s.1,s.2.1⟩:ak) y.aD=r
 cases g2:(Z116.md a2 a3 y a4==1)<;>cases g4:(r.2==1)<;>cases g5:(r.2==2)<;>cases g6:(r.2==3)<;>cases g7:Z120.md r.1 a2<;>simp [g2,g4,g5,g6,g7,h31,Sum.map]
def FI (a0:ak)(a1:List aB)(a2:Int)(a3:az)(a4:Int):(md a0 a1 a2 a3 a4).1=Z121.md a0 a1 a2 a3 a4:=by
 rw [vT,Z121.vT]
 exact rZ (fun i y s=>by cases Z121.zu a2 a3 a4 y s<;>rfl) (fun s=>rfl) a1 0 _
end Z245
namespace Z246
def F (x0:aW)(x1:an)(x2:Int)(x3:az)(x4:Int):aC:=(call (Z245.R (x0,x1,x2,x3,x4)) fun v1=>ret v1.1)
def md (a0:ak)(a1:List aB)(a2:Int)(a3:az)(a4:Int):bG:=(Z245.md a0 a1 a2 a3 a4).1
def gd (a0:ak)(a1:List aB)(a2:Int)(a3:az)(a4:Int):Prop:=(ak.Sm (2^21) a0)/\(bf (2^21) (fun y:aB=>aB.Sm (2^21) y) a1)/\(a3.size<=(2^21))
def R:=qL gd md
def aj {a0 a1 a2 a3 a4}(h:gd a0 a1 a2 a3 a4):R ((ak.r a0),(a1.map aB.row),a2,a3,a4)=some (bG.r (md a0 a1 a2 a3 a4)):=qA h
def aK:=CN [.agg vF,pL 68,pI,pS,pI] (.agg f89) RT.dec R
def bn (a0)(a1)(a2)(a3)(a4)(hg:gd a0 a1 a2 a3 a4):F (ak.r a0) (a1.map aB.row) a2 a3 a4=ret (bG.r (md a0 a1 a2 a3 a4)):=by
 obtain ⟨H0,H1,H3⟩:=hg
 exact ct (Z245.aj ⟨H0,H1,H3⟩) fz
def af:bZ 46 aK:=W5 23 F mix aA bn (cM Z245.af) Tryz.func46
def br (a0:ak)(a1:List aB)(a2:Int)(a3:az)(a4:Int):md a0 a1 a2 a3 a4=Z121.md a0 a1 a2 a3 a4:=Z245.FI a0 a1 a2 a3 a4
end Z246
namespace Z247
def F (x0:aW)(x1:Int)(x2:az)(x3 x4:List L):aC:=(call (Z213.R ((nO x3),x1,x2)) fun v1=>(call (Z246.R (x0,v1,x1,x2,(gP x4))) fun v2=>ret v2))
def pats:List fE:=[.agg [.sl 37,.sl 170],.rd (.int .i64),.rd (.str),.ptr [.sl 280],.ptr [aE]]
def res:RP:=.agg [.fr 37,.fr 170,.rd (.bool),.rd (.str),.rd (.int .i64),.rd (.int .i64),.fr 9,.rd (.bool),.fr 3]
def md (a0:ak)(a1:Int)(a2:az)(a3:List ay)(a4:Int):bG:=(Z246.md a0 (Z213.md a3 a1 a2) a1 a2 a4)
def gd (a0:ak)(a1:Int)(a2:az)(a3:List ay)(a4:Int):Prop:=(ak.Sm (2^21) a0)/\(a2.size<=(2^21))/\(bf (2^21) (fun y:ay=>ay.Sm (2^21) y) a3)
def acc (ls:List L):aW×Int×az×an×Int:=((aW.dec ls),(cI 2 ls),(rI 3 ls),(nO (cm 1 (bA 4 ls))),(gP (cm 1 (bA 5 ls))))
def R:(aW×Int×az×an×Int)->Option cP:=qL gd md
def aj {a0 a1 a2 a3 a4}(h:gd a0 a1 a2 a3 a4):R ((ak.r a0),a1,a2,(a3.map ay.row),a4)=some (bG.r (md a0 a1 a2 a3 a4)):=qA h
def aK:gu:=CN pats res acc R
def bn (a0:ak)(a1:Int)(a2:az)(a3:List ay)(a4:Int)(p3 p4:List L)(e3:(a3.map ay.row)=(nO p3))(e4:a4=(gP p4))(hg:gd a0 a1 a2 a3 a4):F (ak.r a0) a1 a2 p3 p4=ret ((bG.r (md a0 a1 a2 a3 a4)):cP):=by
 obtain ⟨H0,H2,H3⟩:=hg
 unfold F md
 simp only [SS,<-e3,<-e4]
 refine ct (Z213.aj ⟨H3,H2⟩) (ct (Z246.aj ⟨H0,(Z213.fc ⟨H3,H2⟩),H2⟩) ?_)
 exact fz
def qK (ls:List L)(a:ak×Int×az×List ay×Int)(e:acc ls=Im.im a)(hg:(p5 gd) a):∃n:Nat,F (aW.dec ls) ((cI 2 ls)) ((rI 3 ls)) (cm 1 (bA 4 ls)) (cm 1 (bA 5 ls))=ret (Im.im ((u5 md) a)):=by
 have e0:(ak.r a.1)=(aW.dec ls):=(congrArg (fun x=>x.1) e.symm)
 have e1:a.2.1=(cI 2 ls):=(congrArg (fun x=>x.2.1) e.symm)
 have e2:a.2.2.1=(rI 3 ls):=(congrArg (fun x=>x.2.2.1) e.symm)
 have hn:=bn a.1 a.2.1 a.2.2.1 a.2.2.2.1 a.2.2.2.2 (cm 1 (bA 4 ls)) (cm 1 (bA 5 ls)) (congrArg (fun x=>x.2.2.2.1) e.symm) (congrArg (fun x=>x.2.2.2.2) e.symm) hg
 refine ⟨0,?_⟩
 rw [<-e0,<-e1,<-e2]
 exact hn
def af:bZ 183 aK:=VP (live:=fun _=>[]) (nt:=18) (accr:=fun ls=>((aW.dec ls),(cI 2 ls),(rI 3 ls),(cm 1 (bA 4 ls)),(cm 1 (bA 5 ls)))) (run:=fun _ x=>F x.1 x.2.1 x.2.2.1 x.2.2.2.1 x.2.2.2.2) mix aA (eS Z213.af Z246.af) Tryz.func183 (by kernel_rfl) (fun _ _=>by kernel_rfl) (fun ls a _ e hg=>qK ls a e hg)
def lk (a0:ak)(a1:Int)(a2:az)(a3:List ay)(a4:Int):md a0 a1 a2 a3 a4=Z121.md a0 (Z105.md a3 a1 a2) a1 a2 a4:=by
 unfold md
 rw [Z246.br,Z213.br]
end Z247
namespace Z248
abbrev E (n:Nat):Env:={ T:=assoc mq,G:=cW [(262,Z205.aK),(278,Z139.aK),(170,Z206.aK)],nt:=83,M:=eW [],np:=n,I:=gp [] }
def ic (n:Nat):gy:=inl (E n) Tryz.f279
def bM (n:Nat):dY Tryz.prog Ev n 279 (ic n):=yp (mt:=false) mix aA (jw Z205.af Z139.af Z206.af) .nil .nil Tryz.func279 (by kernel_rfl)
end Z248
namespace Z249
inductive Pt where
 | p0 (a:an) (b c:List L) (d e:Int) (f:az) (g h i j:Int) (k:az) (l m n:Int) (o p q s:an)
def pid:Pt->Nat
 | .p0 ..=>6
def cF:Pt->List V
 | .p0 a b c d e f g h i j k l m n o p q s=>[.sl none 9 a,.fn 183 [.cQ none [.sl 280] b 0,.cQ none [aE] c 0],.bN 0 0,.bN 1 0,.int .i64 d,.bN 1 0,.bN 1 0]
def dN:Pt->List aL
 | .p0 a b c d e f g h i j k l m n o p q s=>[.box [.nil,.nil,.int .i64 e,.str f,.int .i64 g,.int .i64 h,.nil,.nil,.int .i64 i],.box [.own 2,.own 3,.int .i64 j,.str k,.int .i64 l,.int .i64 m,.own 4,.own 5,.int .i64 n],.row 37 o,.row 170 p,.row 9 q,.row 3 s]
def step (J:Pt->aC):Pt->aC
 | .p0 a b c d e f g h i j k l m n o p q s=>(cond (j==0) (ck ((0:Int)<(a.length:Int)) (call (Z247.R ((⟨o,p⟩:aW),d,(rV a 0),(nO b),(gP c))) fun v1=>(ck (eG (((s.length:Int)+1)*8)) (ck ((1:Int)<=(a.length:Int)) (ck ((a.length:Int)<=(a.length:Int)) (cond (!v1.kZ) (J (.p0 [] b c 0 e f g h i 3 k l m n v1.bS.aH v1.bS.bg q (s++[[L.int d]]))) (cond (!v1.bO) (J (.p0 [] b c 0 e f g h i 2 k l m n v1.bS.aH v1.bS.bg q (s++[[L.int d]]))) (cond (v1.aR.bE==3) (call (Z205.R v1.aR.bD) fun v2=>(ck (eG (((v2.length:Int)+((List.take (toNat ((a.length:Int) - 1)) (List.drop 1 a)).length:Int))*16)) (cond (n>=3) (J (.p0 [] b c 0 e f g h i 5 k l m n v1.bS.aH v1.bS.bg q (s++[[L.int d]]))) (call (Z139.R (v2++(List.take (toNat ((a.length:Int) - 1)) (List.drop 1 a)))) fun v3=>(cond (!v3) (J (.p0 [] b c 0 e f g h i 5 k l m n v1.bS.aH v1.bS.bg q (s++[[L.int d]]))) (J (.p0 (v2++(List.take (toNat ((a.length:Int) - 1)) (List.drop 1 a))) b c v1.aR.bY e f g h i j k l m (i64.wrap (n+1)) v1.bS.aH v1.bS.bg q (s++[[L.int d]])))))))) (cond (((List.take (toNat ((a.length:Int) - 1)) (List.drop 1 a)).length:Int)==0) (call (Z206.R v1.aR) fun v4=>J (.p0 [] b c 0 e f g h i 1 v4.aZ v4.bE v4.bY n v1.bS.aH v1.bS.bg v4.bD (s++[[L.int d]]))) (cond (v1.aR.bE==2) (J (.p0 (List.take (toNat ((a.length:Int) - 1)) (List.drop 1 a)) b c v1.aR.bY e f g h i j k l m n v1.bS.aH v1.bS.bg q (s++[[L.int d]]))) (J (.p0 [] b c 0 e f g h i 4 k l m n v1.bS.aH v1.bS.bg q (s++[[L.int d]]))))))))))))) (ret ((⟨(⟨o,p⟩:aW),j,(⟨k,l,m,q⟩:bp),s,n⟩:cw):cw)))
def start (J:Pt->aC)(x0:aW)(x1:Int)(x2:an)(x3 x4:List L):aC:=(call (Z133.R x0) fun v1=>(call (Z139.R x2) fun v2=>(cond (!v2) (ret ((⟨v1,6,(⟨(⟨#[]⟩:az),0,0,[]⟩),[],0⟩):cw)) (J (.p0 x2 x3 x4 x1 0 ⟨#[]⟩ 0 0 0 0 ⟨#[]⟩ 0 0 0 v1.aH v1.bg [] [])))))
def live:Nat->Live:=gx [(6,[(2,some 1099511627785),(3,none),(8,none),(9,none),(10,none),(9,some 6291465),(9,some 7340035)])]
def pats:List fE:=[.agg [.sl 37,.sl 170],.rd (.int .i64),.rd (.sl 9),.fn 183 [[.sl 280],[aE]]]
def res:RP:=.agg [.fr 37,.fr 170,.rd (.int .i64),.rd (.str),.rd (.int .i64),.rd (.int .i64),.fr 9,.fr 3,.rd (.int .i64)]
abbrev E:Env:={ T:=assoc mq,G:=cW [(116,Z133.aK),(278,Z139.aK),(183,Z247.aK)],nt:=48,M:=eW [],I:=gp [(279,Z248.ic 0)] }
def step_eq (I:dB)(p:Pt):dU E live I (pid p) (bJ Tryz.f182) (iN (live (pid p)) (cF p) (dN p)) (dz E Tryz.f182 res)=step (fun q=>I (pid q) (cF q) (dN q)) p:=by
 cases p<;>kernel_rfl
def start_eq (I:dB)(ls:List L):gJ E live I (bJ Tryz.f182) (dy pats ls) (dz E Tryz.f182 res)=start (fun q=>I (pid q) (cF q) (dN q)) (aW.dec ls) (cI 2 ls) (fJ 3 ls) (cm 1 (bA 4 ls)) (cm 1 (bA 5 ls)):=by kernel_rfl
def run_eq (n:Nat)(ls:List L):eV E live Tryz.f182 res n (dy pats ls)=start (iter step n) (aW.dec ls) (cI 2 ls) (fJ 3 ls) (cm 1 (bA 4 ls)) (cm 1 (bA 5 ls)):=dK (id:=pid) (vs:=cF) (hs:=dN) (step:=step) (start:=fun J=>start J (aW.dec ls) (cI 2 ls) (fJ 3 ls) (cm 1 (bA 4 ls)) (cm 1 (bA 5 ls))) step_eq (fun I=>start_eq I ls) n
def md (a0:ak)(a1:Int)(a2:List az)(a3:List ay)(a4:Int):av:=(cond (!Z139.md a2) ⟨a0,6,⟨⟨#[]⟩,0,0,[]⟩,[],0⟩ ((Z124.rs (Z124.lk a3 a4) 17 () a0 [] 0 a1 a2).1))
def gd (a0:ak)(a1:Int)(a2:List az)(a3:List ay)(a4:Int):Prop:=(ak.Sm (2^21) a0)/\(bf (2^21) (fun y:az=>y.size<=(2^21)) a2)/\(bf (2^21) (fun y:ay=>ay.Sm (2^21) y) a3)
def acc (ls:List L):aW×Int×an×an×Int:=((aW.dec ls),(cI 2 ls),(fJ 3 ls),(nO (cm 1 (bA 4 ls))),(gP (cm 1 (bA 5 ls))))
def R:(aW×Int×an×an×Int)->Option cw:=qL gd md
def aj {a0 a1 a2 a3 a4}(h:gd a0 a1 a2 a3 a4):R ((ak.r a0),a1,(a2.map dO),(a3.map ay.row),a4)=some (av.r (md a0 a1 a2 a3 a4)):=qA h
def aK:gu:=CN pats res acc R
def bn (a0:ak)(a1:Int)(a2:List az)(a3:List ay)(a4:Int)(p3 p4:List L)(e3:(a3.map ay.row)=(nO p3))(e4:a4=(gP p4))(hg:gd a0 a1 a2 a3 a4):∃n,start (iter step n) (ak.r a0) a1 (a2.map dO) p3 p4=ret ((av.r (md a0 a1 a2 a3 a4)):cw):=by
 obtain ⟨H0,H2,H3⟩:=hg
 have fin:∀(J:Pt->aC) (code:Int) (x z:Int) (xs:an) (lab:az) (kd vl mv:Int) (o p q s:an),¬code=0->step J (Pt.p0 xs p3 p4 z 0 ⟨#[]⟩ 0 0 0 code lab kd vl mv o p q s)=ret (⟨⟨o,p⟩,code,⟨lab,kd,vl,q⟩,s,mv⟩:cw):=by
  intro J code x z xs lab kd vl mv o p q s h
  simp only [step]
  exact dZ (beq_eq_false_iff_ne.2 h) rfl
 have key:∀(n:Nat) (k:ak) (zs:List Int) (mv z:Int) (p:List az),ak.Sm (2^21) k->Z13.md p=true->0<=mv->mv<=3->(3 - mv)*4+(p.length:Int)<=n->zs.length+n<=100->
   ∃m,iter step m (Pt.p0 (p.map dO) p3 p4 z 0 ⟨#[]⟩ 0 0 0 0 ⟨#[]⟩ 0 0 mv (k.aH.map (eF aa.row)) (k.bg.map aM.row) [] (zs.map aQ))=ret (av.r (Z124.rs (Z124.lk a3 a4) n () k zs mv z p).1):=by
  intro n
  induction n with
  | zero=>intro k zs mv z p _ hp _ _ hm _;have:=(Z13.tr hp).1;omega
  | succ n ih=>
   intro k zs mv z p hk hp h0 h3 hm hz
   obtain ⟨⟨p1,p4'⟩,p8⟩:=Z13.tr hp
   obtain ⟨x,xs,rfl⟩:∃x xs,p=x::xs:=by
    cases p with
    | nil=>simp at p1
    | cons x xs=>exact ⟨x,xs,rfl⟩
   have hx:x.size<=2^21:=le_trans (p8 x (by simp)) (by decide)
   have hxs:∀y∈xs,y.size<=2^22:=fun y hy=>le_trans (p8 y (by simp [hy])) (by decide)
   have hask:=Z105.fc (a1:=z) ⟨H3,hx⟩
   have hlk:=Z121.fc (a2:=z) (a4:=a4) ⟨hk,hask,hx⟩
   have hat:rV ((x::xs).map dO) 0=x:=rfl
   have ht:List.take (toNat (((xs.length+1:Nat):Int) - 1)) (List.drop 1 ((x::xs).map dO))=xs.map dO:=by
    simp only [List.map_cons,List.drop_succ_cons,List.drop_zero]
    exact List.take_of_length_le (by simp)
   simp only [List.length_cons] at p4' hm
   refine Z124.zw ?_
   simp only [step,hat,List.length_map,List.length_cons,ht,<-e3,<-e4]
   refine dJ rfl (dJ dt ?_)
   have hR:=Z247.aj (a1:=z) (a4:=a4) ⟨hk,hx,H3⟩
   rw [Z247.lk] at hR
   refine cx hR ?_
   have hcase:∀q,Z124.nx (Z121.md k (Z105.md a3 z x) z x a4) mv (x::xs)=.inl q->Z124.rs (Z124.lk a3 a4) (n+1) () k zs mv z (x::xs)=(⟨(Z121.md k (Z105.md a3 z x) z x a4).bS,q.1,q.2,zs++[z],mv⟩,()):=fun q hq=>Z124.yg hq
   have hcase2:∀q,Z124.nx (Z121.md k (Z105.md a3 z x) z x a4) mv (x::xs)=.inr q->Z124.rs (Z124.lk a3 a4) (n+1) () k zs mv z (x::xs)=Z124.rs (Z124.lk a3 a4) n () (Z121.md k (Z105.md a3 z x) z x a4).bS (zs++[z]) q.1 q.2.1 q.2.2:=fun q hq=>Z124.yc hq
   revert hcase hcase2 hlk
   generalize Z121.md k (Z105.md a3 z x) z x a4=l
   intro hlk hcase hcase2
   refine dJ lm (dJ dt (dJ dt ?_))
   obtain ⟨lk0,lf,le,ld,lc⟩:=l
   unfold Z124.nx at hcase hcase2
   have hzz:zs.map aQ++[[L.int z]]=(zs++[z]).map aQ:=by simp [aQ]
   cases ld
   ·exact dJ rfl ⟨1,(fin _ 3 0 _ _ _ _ _ _ _ _ _ _ (by decide)).trans (by rw [hcase _ rfl];exact fz)⟩
   cases lf
   ·exact cH rfl (dJ rfl ⟨1,(fin _ 2 0 _ _ _ _ _ _ _ _ _ _ (by decide)).trans (by rw [hcase _ rfl];exact fz)⟩)
   simp only [Bool.not_true,aU,aO,List.tail_cons] at hcase hcase2 ⊢
   have hpl:bf (2^21) (fun y:az=>y.size<=(2^21)) le.bD:=hlk.2.1.2
   have hpl1:le.bD.length<=2^21:=hpl.1
   refine cH rfl (cH rfl ?_)
   simp only [SS]
   cases hk3:(le.bE==3)
   ·simp only [hk3,aU] at hcase hcase2 ⊢
    by_cases hx0:xs.length=0
    ·have e0:((xs.length:Int)==0)=true:=by simp [hx0]
     rw [e0] at hcase
     refine dJ (beq_iff_eq.2 (by omega)) (cx (Z206.aj hlk.2.1) ?_)
     exact ⟨1,(fin _ 1 0 _ _ _ _ _ _ _ _ _ _ (by decide)).trans (by rw [hcase _ rfl];exact fz)⟩
    ·have e0:((xs.length:Int)==0)=false:=by simpa using hx0
     rw [e0] at hcase hcase2
     refine cH (beq_eq_false_iff_ne.2 (by omega)) ?_
     cases hk2:(le.bE==2)
     ·simp only [hk2,aU] at hcase
      exact cH rfl ⟨1,(fin _ 4 0 _ _ _ _ _ _ _ _ _ _ (by decide)).trans (by rw [hcase _ rfl];exact fz)⟩
     ·simp only [hk2,aU,aO] at hcase2
      refine dJ rfl ?_
      have hip:Z13.md xs=true:=Z13.tl hp hx0
      rw [hcase2 _ rfl,hzz]
      exact ih lk0 (zs++[z]) mv le.bY xs hlk.1 hip h0 h3 (by omega) (by simp;omega)
   ·simp only [hk3,aO] at hcase hcase2 ⊢
    refine cx (Z205.aj hpl) (dJ (by have :(le.bD.map dO).length=le.bD.length:=List.length_map ..;have :(xs.map dO).length=xs.length:=List.length_map ..;exact fQ (by omega)) ?_)
    by_cases hmv:mv>=3
    ·rw [decide_eq_true hmv] at hcase ⊢
     exact dJ rfl ⟨1,(fin _ 5 0 _ _ _ _ _ _ _ _ _ _ (by decide)).trans (by rw [hcase _ rfl];exact fz)⟩
    ·rw [decide_eq_false hmv] at hcase hcase2 ⊢
     simp only [aU] at hcase hcase2 ⊢
     have e:le.bD.map dO++xs.map dO=(le.bD++xs).map dO:=by simp
     rw [e]
     have hq:=Z139.aj ⟨by rw [List.length_append];omega,fun y hy=>(List.mem_append.1 hy).elim (fun h=>le_trans (hpl.2 y h) (by decide)) (hxs y)⟩
     rw [Z139.br] at hq
     refine cx hq ?_
     cases hip:Z13.md (le.bD++xs)
     ·rw [hip] at hcase
      exact dJ rfl ⟨1,(fin _ 5 0 _ _ _ _ _ _ _ _ _ _ (by decide)).trans (by rw [hcase _ rfl];exact fz)⟩
     ·rw [hip] at hcase2
      have ht:=Z13.tr hip
      rw [hcase2 _ rfl,hzz,wi _ (by omega)]
      exact ih lk0 (zs++[z]) (mv+1) le.bY (le.bD++xs) hlk.1 hip (by omega) (by omega) (by omega) (by simp;omega)
 unfold start md
 refine cx (Z133.aj H0) (cx (Z139.aj (bf.mono H2 (by decide) (fun y hy=>le_trans hy (by decide)))) ?_)
 cases hp:Z139.md a2
 ·exact ⟨0,rfl⟩
 ·simp only [Bool.not_true,aU]
  rw [Z139.br] at hp
  exact key 17 a0 [] 0 a1 a2 H0 hp (by decide) (by decide) (by have:=(Z13.tr hp).1;omega) (by simp)
def qK (ls:List L)(a:ak×Int×List az×List ay×Int)(e:acc ls=Im.im a)(hg:(p5 gd) a):∃n:Nat,start (iter step n) (aW.dec ls) ((cI 2 ls)) ((fJ 3 ls)) (cm 1 (bA 4 ls)) (cm 1 (bA 5 ls))=ret (Im.im ((u5 md) a)):=by
 have e0:(ak.r a.1)=(aW.dec ls):=(congrArg (fun x=>x.1) e.symm)
 have e1:a.2.1=(cI 2 ls):=(congrArg (fun x=>x.2.1) e.symm)
 have e2:(a.2.2.1.map dO)=(fJ 3 ls):=(congrArg (fun x=>x.2.2.1) e.symm)
 obtain ⟨n,hn⟩:=bn a.1 a.2.1 a.2.2.1 a.2.2.2.1 a.2.2.2.2 (cm 1 (bA 4 ls)) (cm 1 (bA 5 ls)) (congrArg (fun x=>x.2.2.2.1) e.symm) (congrArg (fun x=>x.2.2.2.2) e.symm) hg
 refine ⟨n,?_⟩
 rw [<-e0,<-e1,<-e2]
 exact hn
def af:bZ 182 aK:=VJ (mt:=false) (accr:=fun ls=>((aW.dec ls),(cI 2 ls),(fJ 3 ls),(cm 1 (bA 4 ls)),(cm 1 (bA 5 ls)))) (run:=fun n x=>start (iter step n) x.1 x.2.1 x.2.2.1 x.2.2.2.1 x.2.2.2.2) mix aA (jw Z133.af Z139.af Z247.af) .nil (.cons (Z248.bM 0) .nil) Tryz.func182 (by kernel_rfl) run_eq (fun ls a _ e hg=>qK ls a e hg)
end Z249
namespace Z250
def F (x0:aW)(x1:an)(x2:Int)(x3:an)(x4:Int):aC:=(call (Z249.R (x0,x2,x3,x1,x4)) fun v1=>ret v1)
def md (a0:ak)(a1:List ay)(a2:Int)(a3:List az)(a4:Int):av:=(Z249.md a0 a2 a3 a1 a4)
def gd (a0:ak)(a1:List ay)(a2:Int)(a3:List az)(a4:Int):Prop:=(ak.Sm (2^21) a0)/\(bf (2^21) (fun y:ay=>ay.Sm (2^21) y) a1)/\(bf (2^21) (fun y:az=>y.size<=(2^21)) a3)
def R:=qL gd md
def aj {a0 a1 a2 a3 a4}(h:gd a0 a1 a2 a3 a4):R ((ak.r a0),(a1.map ay.row),a2,(a3.map dO),a4)=some (av.r (md a0 a1 a2 a3 a4)):=qA h
def aK:=CN [.agg vF,pL 280,pI,pL 9,pI] (.agg f108) RT.dec R
def bn (a0)(a1)(a2)(a3)(a4)(hg:gd a0 a1 a2 a3 a4):F (ak.r a0) (a1.map ay.row) a2 (a3.map dO) a4=ret (av.r (md a0 a1 a2 a3 a4)):=by
 obtain ⟨H0,H1,H3⟩:=hg
 exact ct (Z249.aj ⟨H0,H3,H1⟩) fz
def af:bZ 60 aK:=W5 16 F mix aA bn (cM Z249.af) Tryz.func60
def br (a0:ak)(a1:List ay)(a2:Int)(a3:List az)(a4:Int):md a0 a1 a2 a3 a4=Z124.md a0 a1 a2 a3 a4:=by
 unfold md Z249.md Z124.md
 rw [Z139.br]
def fc {a0:ak}{a1:List ay}{a2:Int}{a3:List az}{a4:Int}(hg:gd a0 a1 a2 a3 a4):av.Sm (2^21) (md a0 a1 a2 a3 a4):=by
 rw [br]
 exact Z124.fc hg
end Z250
namespace Z251
inductive Pt where
 | p0 (a b:an) (c:Int) (d:an) (e f:Int) (g h i:an)
def cF:Pt->List V
 | .p0 a b c d e f g h i=>[.sl none 280 a,.sl none 9 b,.int .i64 c,.bN 0 0,.own 1,.bN 2 0,.sl none 232 d,.int .i64 e,.int .i64 f]
def dN:Pt->List aL
 | .p0 a b c d e f g h i=>[.box [.nil,.nil],.row 108 g,.box [.own 3,.own 4],.row 37 h,.row 170 i]
def step (J:Pt->aC):Pt->aC
 | .p0 a b c d e f g h i=>(cond (f<e) (m2 f (d.length:Int) (call (Z250.R ((⟨h,i⟩:aW),a,(aX.at d (toNat f)).aS,b,c)) fun v1=>(ck (eG (((g.length:Int)+1)*144)) (call (Z133.R v1.bS) fun v2=>J (.p0 a b c d e (i64.wrap (f+1)) (g++[(cw.enc v1)]) v2.aH v2.bg))))) (ret ((g,(⟨h,i⟩:aW)):an×aW)))
def start (J:Pt->aC)(x0:aW)(x1 x2 x3:an)(x4:Int):aC:=(call (Z133.R x0) fun v1=>(ck ((0:Int)<=(cond ((x2.length:Int)<3) (x2.length:Int) 3)) (ck ((cond ((x2.length:Int)<3) (x2.length:Int) 3)<=x2.length) (J (.p0 x1 x3 x4 (List.take (toNat ((cond ((x2.length:Int)<3) (x2.length:Int) 3) - 0)) (List.drop 0 x2)) ((List.take (toNat ((cond ((x2.length:Int)<3) (x2.length:Int) 3) - 0)) (List.drop 0 x2)).length) 0 [] v1.aH v1.bg)))))
def live:Nat->Live:=gx [(4,[(1,none),(3,none),(4,none),(11,none),(12,some 108),(13,none),(24,none),(25,none),(26,none)])]
def md (a0:ak)(a1:List ay)(a2:List aX)(a3:List az)(a4:Int):List av×ak:=(dQ (S:=List av×List (List aa)×List aM) (β:=List av×ak) (fun y1 (s3:List av×List (List aa)×List aM)=>(.inl ((s3.1++[(Z250.md (⟨s3.2.1,s3.2.2⟩) a1 (y1.aS) a3 a4)]),((Z250.md (⟨s3.2.1,s3.2.2⟩) a1 (y1.aS) a3 a4).bS).aH,((Z250.md (⟨s3.2.1,s3.2.2⟩) a1 (y1.aS) a3 a4).bS).bg))) (fun (s3:List av×List (List aa)×List aM)=>(s3.1,(⟨s3.2.1,s3.2.2⟩))) (List.take (toNat ((cond ((a2.length:Int)<3) (a2.length:Int) 3) - 0)) (List.drop 0 a2)) ([],a0.aH,a0.bg))
def gd (a0:ak)(a1:List ay)(a2:List aX)(a3:List az)(a4:Int):Prop:=(ak.Sm (2^21) a0)/\(bf (2^21) (fun y:ay=>ay.Sm (2^21) y) a1)/\(bf (2^21) (fun y:aX=>aX.Sm (2^21) y) a2)/\(bf (2^21) (fun y:az=>y.size<=(2^21)) a3)
def R:=qL gd md
def aj {a0 a1 a2 a3 a4}(h:gd a0 a1 a2 a3 a4):R ((ak.r a0),(a1.map ay.row),(a2.map aX.row),(a3.map dO),a4)=some (((md a0 a1 a2 a3 a4).1.map av.row),(ak.r (md a0 a1 a2 a3 a4).2)):=qA h
def aK:=CN [.agg vF,pL 280,pL 232,pL 9,pI] (.gS [(false,[.fr 108]),(true,f36)]) RT.dec R
def bn (a0)(a1)(a2)(a3)(a4)(hg:gd a0 a1 a2 a3 a4):∃n,start (iter step n) (ak.r a0) (a1.map ay.row) (a2.map aX.row) (a3.map dO) a4=ret (((md a0 a1 a2 a3 a4).1.map av.row),(ak.r (md a0 a1 a2 a3 a4).2)):=by
 obtain ⟨H0,H1,H2,H3⟩:=hg
 refine cx (Z133.aj H0) (dJ dt ?_)
 refine dJ dt ?_
 have Bh2:(List.take (toNat ((cond ((a2.length:Int)<3) (a2.length:Int) 3) - 0)) (List.drop 0 a2)).length<=maxLen:=(by
   have:=((bf.take (k:=(toNat ((cond ((a2.length:Int)<3) (a2.length:Int) 3) - 0))) (bf.drop (k:=0) H2))).1
   simp only [maxLen] at *
   omega)
 refine ex_eq (out:=(fun b:List av×ak=>ret (((b.1.map av.row),(ak.r b.2)):an×aW))) (dV (z:=aX.zero)) (dc (p:=Pt.p0 (a1.map ay.row) (a3.map dO) a4 ((List.take (toNat ((cond ((a2.length:Int)<3) (a2.length:Int) 3) - 0)) (List.drop 0 a2)).map aX.row) ((List.take (toNat ((cond ((a2.length:Int)<3) (a2.length:Int) 3) - 0)) (List.drop 0 a2)).length:Int) 0 ([].map av.row) (a0.aH.map (eF aa.row)) (a0.bg.map aM.row)) fz ?_)
 refine bH (pt:=fun (i1:Nat) (s3:List av×List (List aa)×List aM)=>Pt.p0 (a1.map ay.row) (a3.map dO) a4 ((List.take (toNat ((cond ((a2.length:Int)<3) (a2.length:Int) 3) - 0)) (List.drop 0 a2)).map aX.row) ((List.take (toNat ((cond ((a2.length:Int)<3) (a2.length:Int) 3) - 0)) (List.drop 0 a2)).length:Int) (i1:Int) (s3.1.map av.row) (s3.2.1.map (eF aa.row)) (s3.2.2.map aM.row)) (s:=(([],a0.aH,a0.bg):List av×List (List aa)×List aM)) (out:=(fun b:List av×ak=>ret (((b.1.map av.row),(ak.r b.2)):an×aW))) (fun (i1:Nat) (s3:List av×List (List aa)×List aM)=>ak.Sm (2^21) (⟨s3.2.1,s3.2.2⟩:ak)/\s3.1.length<=i1) (fun J i1 s3 h2 hih2=>?_) (fun s3 hih2=>?_) ⟨H0,zero_le _⟩
 ·simp only [step,SS]
  have:=((bf.take (k:=(toNat ((cond ((a2.length:Int)<3) (a2.length:Int) 3) - 0))) (bf.drop (k:=0) H2))).1
  refine aP.yes (by apply decide_eq_true;omega) (aP.yes bu ?_)
  refine aP.yes (bK h2) (cr (Z250.aj ⟨⟨hih2.1.1,hih2.1.2⟩,H1,H3⟩) ?_)
  refine aP.yes lm (cr (Z133.aj (Z250.fc ⟨⟨hih2.1.1,hih2.1.2⟩,H1,H3⟩).1) ?_)
  refine aP.inl (by exact ⟨(Z250.fc ⟨hih2.1,H1,H3⟩).1,ke hih2.2⟩) ?_
  rw [aF h2 Bh2]
  exact fz
 ·simp only [step,SS]
  refine cH dn (⟨0,?_⟩)
  exact fz
def af:bZ 69 aK:=L5 47 (fun _=>4) cF dN live step start mix aA bn (eS Z133.af Z250.af) Tryz.func69
def tk {α S β:Type}{g:α->S->S}{t:S->β}:∀(xs:List α) (i:Nat) (s:S),dQ (fun y s=>.inl (g y s)) t (xs.take (3 - i)) s=dD (fun i y s=>bif decide ((i:Int)<3) then .inl (g y s) else .inr (t s)) t i xs s
 | [],i,s=>by simp [dQ,dD]
 | y::xs,i,s=>by
  by_cases h:i<3
  ·rw [show 3 - i=(3 - (i+1))+1 by omega,List.take_succ_cons]
   unfold dQ dD
   rw [decide_eq_true (show (i:Int)<3 by omega)]
   exact tk xs (i+1) (g y s)
  ·rw [show 3 - i=0 by omega,List.take_zero]
   unfold dQ dD
   rw [decide_eq_false (show ¬(i:Int)<3 by omega)]
   rfl
def br (a0:ak)(a1:List ay)(a2:List aX)(a3:List az)(a4:Int):md a0 a1 a2 a3 a4=Z125.md a0 a1 a2 a3 a4:=by
 unfold md Z125.md
 simp only [Z250.br]
 have e:List.take (toNat ((cond ((a2.length:Int)<3) (a2.length:Int) 3) - 0)) (List.drop 0 a2)=a2.take (3 - 0):=by
  rw [List.drop_zero]
  by_cases h:(a2.length:Int)<3
  ·rw [decide_eq_true h,aO,List.take_of_length_le (by omega),List.take_of_length_le (by omega)]
  ·rw [decide_eq_false h,aU]
   rfl
 rw [e]
 exact tk a2 0 _
end Z251
namespace Z252
inductive Pt where
 | p0 (a b:an) (c d:Int)
def pid:Pt->Nat
 | .p0 ..=>4
def cF:Pt->List V
 | .p0 a b c d=>[.sl none 53 a,.fn 218 [],.sl none 53 b,.int .i64 c,.int .i64 d]
def dN:Pt->List aL
 | .p0 a b c d=>[]
def step (J:Pt->aC):Pt->aC
 | .p0 a b c d=>(cond (d<c) (m2 d (b.length:Int) (m2 d (a.length:Int) (call (Z237.R ((aY.at b (toNat d)),(aY.at a (toNat d)))) fun v1=>(cond (!v1) fq (J (.p0 a b c (i64.wrap (d+1)))))))) nN)
def start (J:Pt->aC)(x0 x1:an):aC:=(cond (x0.length != (x1.length:Int)) (ret false) (J (.p0 x1 x0 x0.length 0)))
def live:Nat->Live:=gx [(4,iR [1,2,15,16,17])]
def pats:List fE:=[.rd (.sl 53),.rd (.sl 53),.fn 218 []]
def res:RP:=.one (.rd (.bool))
abbrev E:Env:={ T:=assoc mq,G:=cW [(218,Z237.aK)],nt:=32 }
def step_eq (I:dB)(p:Pt):dU E live I (pid p) (bJ Tryz.f217) (iN (live (pid p)) (cF p) (dN p)) (dz E Tryz.f217 res)=step (fun q=>I (pid q) (cF q) (dN q)) p:=by
 cases p<;>kernel_rfl
def start_eq (I:dB)(ls:List L):gJ E live I (bJ Tryz.f217) (dy pats ls) (dz E Tryz.f217 res)=start (fun q=>I (pid q) (cF q) (dN q)) (eM ls) (fJ 1 ls):=by kernel_rfl
def run_eq (n:Nat)(ls:List L):eV E live Tryz.f217 res n (dy pats ls)=start (iter step n) (eM ls) (fJ 1 ls):=dK (id:=pid) (vs:=cF) (hs:=dN) (step:=step) (start:=fun J=>start J (eM ls) (fJ 1 ls)) step_eq (fun I=>start_eq I ls) n
def md (a0 a1:List aa):Bool:=(bif (a0.length != (a1.length:Int)) then false else (eu (S:=Unit) (β:=Bool) (fun i2 s4=>(cond (!(Z237.md (a0.getD i2 aa.zero) (a1.getD i2 aa.zero))) (.inr false) (.inl ()))) (fun s4=>true) a0.length 0 ()))
def gd (a0 a1:List aa):Prop:=(bf (2^21) (fun y:aa=>aa.Sm (2^21) y) a0)/\(bf (2^21) (fun y:aa=>aa.Sm (2^21) y) a1)
def acc (ls:List L):an×an:=((eM ls),(fJ 1 ls))
def R:(an×an)->Option Bool:=cL gd md
def aj {a0 a1}(h:gd a0 a1):R ((a0.map aa.row),(a1.map aa.row))=some (md a0 a1):=cK h
def aK:gu:=CN pats res acc R
def bn (a0 a1:List aa)(hg:gd a0 a1):∃n,start (iter step n) (a0.map aa.row) (a1.map aa.row)=ret ((md a0 a1):Bool):=by
 obtain ⟨H0,H1⟩:=hg
 unfold start md
 simp only [SS]
 refine gB ret (fun _=>⟨0,rfl⟩) (fun c1=>?_)
 have dc1:=c1
 simp only [DC] at dc1
 have Bh3:=bl H0
 refine dc fz (bH (pt:=fun (i2:Nat) (s4:Unit)=>Pt.p0 (a1.map aa.row) (a0.map aa.row) (a0.length:Int) (i2:Int)) (fun _ _=>True) (fun J i2 s4 h3 hih3=>?_) (fun s4 hih3=>?_) trivial)
 ·simp only [step,SS]
  refine aP.yes dt (aP.yes bu ?_)
  refine aP.yes (bK h3) (aP.yes bu ?_)
  refine aP.yes dt (cr (Z237.aj ⟨(bf.getD H0 h3),(bf.getD H1 (by omega))⟩) ?_)
  refine aP.bif (fun _=>aP.inr rfl) (fun c5=>?_)
  refine aP.inl trivial ?_
  rw [aF h3 Bh3]
 ·simp only [step,SS]
  refine cH dn (⟨0,?_⟩)
  exact fz
def af:bZ 217 aK:=VV (run:=fun n x=>start (iter step n) x.1 x.2) mix aA (cM Z237.af) Tryz.func217 (by kernel_rfl) run_eq (fun _ a _ _ hg=>bn a.1 a.2 hg)
def md_eq (a0 a1:List aa):md a0 a1=iM a0 a1:=by
 refine iL (aa.zero) (fun i s h h2=>?_) (fun s=>rfl)
 simp only [bne,jC,bool_beq,fY,Z237.md_eq]
 cases iM _ _<;>rfl
end Z252
namespace Z253
def F (x0 x1:an):aC:=(call (Z252.R (x0,x1)) fun v1=>ret v1)
def md (a0 a1:List aa):Bool:=((Z252.md a0 a1))
def gd (a0 a1:List aa):Prop:=(bf (2^21) (fun y:aa=>aa.Sm (2^21) y) a0)/\(bf (2^21) (fun y:aa=>aa.Sm (2^21) y) a1)
def R:=cL gd md
def aj {a0 a1}(h:gd a0 a1):R ((a0.map aa.row),(a1.map aa.row))=some (md a0 a1):=cK h
def aK:=CN [pL 53,pL 53] oB RT.dec R
def bn (a0)(a1)(hg:gd a0 a1):F (a0.map aa.row) (a1.map aa.row)=ret (md a0 a1):=by
 obtain ⟨H0,H1⟩:=hg
 exact ct (Z252.aj ⟨H0,H1⟩) fz
def af:bZ 125 aK:=W2 8 F mix aA bn (cM Z252.af) Tryz.func125
def md_eq (a0 a1:List aa):md a0 a1=iM a0 a1:=by
 unfold md
 rw [Z252.md_eq]
end Z253
namespace Z254
inductive Pt where
 | p0 (a b:an) (c d:Int)
def pid:Pt->Nat
 | .p0 ..=>4
def cF:Pt->List V
 | .p0 a b c d=>[.sl none 37 a,.fn 125 [],.sl none 37 b,.int .i64 c,.int .i64 d]
def dN:Pt->List aL
 | .p0 a b c d=>[]
def step (J:Pt->aC):Pt->aC
 | .p0 a b c d=>(cond (d<c) (m2 d (b.length:Int) (m2 d (a.length:Int) (call (Z253.R ((jo b (toNat d)),(jo a (toNat d)))) fun v1=>(cond (!v1) fq (J (.p0 a b c (i64.wrap (d+1)))))))) nN)
def start (J:Pt->aC)(x0 x1:an):aC:=(cond (x0.length != (x1.length:Int)) (ret false) (J (.p0 x1 x0 x0.length 0)))
def live:Nat->Live:=gx [(4,iR [1,2,15,16,17])]
def pats:List fE:=[.rd (.sl 37),.rd (.sl 37),.fn 125 []]
def res:RP:=.one (.rd (.bool))
abbrev E:Env:={ T:=assoc mq,G:=cW [(125,Z253.aK)],nt:=32 }
def step_eq (I:dB)(p:Pt):dU E live I (pid p) (bJ Tryz.f124) (iN (live (pid p)) (cF p) (dN p)) (dz E Tryz.f124 res)=step (fun q=>I (pid q) (cF q) (dN q)) p:=by
 cases p<;>kernel_rfl
def start_eq (I:dB)(ls:List L):gJ E live I (bJ Tryz.f124) (dy pats ls) (dz E Tryz.f124 res)=start (fun q=>I (pid q) (cF q) (dN q)) (eM ls) (fJ 1 ls):=by kernel_rfl
def run_eq (n:Nat)(ls:List L):eV E live Tryz.f124 res n (dy pats ls)=start (iter step n) (eM ls) (fJ 1 ls):=dK (id:=pid) (vs:=cF) (hs:=dN) (step:=step) (start:=fun J=>start J (eM ls) (fJ 1 ls)) step_eq (fun I=>start_eq I ls) n
def md (a0 a1:List (List aa)):Bool:=(bif (a0.length != (a1.length:Int)) then false else (eu (S:=Unit) (β:=Bool) (fun i2 s4=>(cond (!(Z253.md (a0.getD i2 []) (a1.getD i2 []))) (.inr false) (.inl ()))) (fun s4=>true) a0.length 0 ()))
def gd (a0 a1:List (List aa)):Prop:=(bf (2^21) (fun y:List aa=>bf (2^21) (fun y:aa=>aa.Sm (2^21) y) y) a0)/\(bf (2^21) (fun y:List aa=>bf (2^21) (fun y:aa=>aa.Sm (2^21) y) y) a1)
def acc (ls:List L):an×an:=((eM ls),(fJ 1 ls))
def R:(an×an)->Option Bool:=cL gd md
def aj {a0 a1}(h:gd a0 a1):R ((a0.map (eF aa.row)),(a1.map (eF aa.row)))=some (md a0 a1):=cK h
def aK:gu:=CN pats res acc R
def bn (a0 a1:List (List aa))(hg:gd a0 a1):∃n,start (iter step n) (a0.map (eF aa.row)) (a1.map (eF aa.row))=ret ((md a0 a1):Bool):=by
 obtain ⟨H0,H1⟩:=hg
 unfold start md
 simp only [SS]
 refine gB ret (fun _=>⟨0,rfl⟩) (fun c1=>?_)
 have dc1:=c1
 simp only [DC] at dc1
 have Bh3:=bl H0
 refine dc fz (bH (pt:=fun (i2:Nat) (s4:Unit)=>Pt.p0 (a1.map (eF aa.row)) (a0.map (eF aa.row)) (a0.length:Int) (i2:Int)) (fun _ _=>True) (fun J i2 s4 h3 hih3=>?_) (fun s4 hih3=>?_) trivial)
 ·simp only [step,SS]
  refine aP.yes dt (aP.yes bu ?_)
  refine aP.yes (bK h3) (aP.yes bu ?_)
  refine aP.yes dt (cr (Z253.aj ⟨(bf.getD H0 h3),(bf.getD H1 (by omega))⟩) ?_)
  refine aP.bif (fun _=>aP.inr rfl) (fun c5=>?_)
  refine aP.inl trivial ?_
  rw [aF h3 Bh3]
 ·simp only [step,SS]
  refine cH dn (⟨0,?_⟩)
  exact fz
def af:bZ 124 aK:=VV (run:=fun n x=>start (iter step n) x.1 x.2) mix aA (cM Z253.af) Tryz.func124 (by kernel_rfl) run_eq (fun _ a _ _ hg=>bn a.1 a.2 hg)
def md_eq (a0 a1:List (List aa)):md a0 a1=iM a0 a1:=by
 refine iL ([]) (fun i s h h2=>?_) (fun s=>rfl)
 simp only [bne,jC,bool_beq,fY,Z253.md_eq]
 cases iM _ _<;>rfl
end Z254
namespace Z255
def F (x0 x1:cB):aC:=(call (Z237.R (x0.bq,x1.bq)) fun v1=>(cond v1 (call (Z237.R (x0.fA,x1.fA)) fun v2=>(cond v2 (call (Z237.R (x0.fB,x1.fB)) fun v3=>ret v3) (ret false))) (ret false)))
def md (a0 a1:aM):Bool:=(cond (Z237.md a0.bq a1.bq) (cond (Z237.md a0.fA a1.fA) ((Z237.md a0.fB a1.fB)) false) false)
def gd (a0 a1:aM):Prop:=(aM.Sm (2^21) a0)/\(aM.Sm (2^21) a1)
def R:=cL gd md
def aj {a0 a1}(h:gd a0 a1):R ((aM.r a0),(aM.r a1))=some (md a0 a1):=cK h
def aK:=CN [.agg vO,.agg vO] oB RT.dec R
def bn (a0)(a1)(hg:gd a0 a1):F (aM.r a0) (aM.r a1)=ret (md a0 a1):=by
 obtain ⟨H0,H1⟩:=hg
 refine ct (Z237.aj ⟨H0.1,H1.1⟩) (bs (fun c1=>?_) (fun _=>rfl))
 refine ct (Z237.aj ⟨H0.2.1,H1.2.1⟩) (bs (fun c2=>?_) (fun _=>rfl))
 exact ct (Z237.aj ⟨H0.2.2,H1.2.2⟩) fz
def af:bZ 127 aK:=W2 24 F mix aA bn (cM Z237.af) Tryz.func127
def md_eq (a0 a1:aM):md a0 a1=iM a0 a1:=by
 unfold md
 cases a0;cases a1
 rw [Bool.eq_iff_iff]
 simp [dM,fY,aM.mk.injEq,Z237.md_eq]
end Z255
namespace Z256
inductive Pt where
 | p0 (a b:an) (c d:Int)
def pid:Pt->Nat
 | .p0 ..=>4
def cF:Pt->List V
 | .p0 a b c d=>[.sl none 170 a,.fn 127 [],.sl none 170 b,.int .i64 c,.int .i64 d]
def dN:Pt->List aL
 | .p0 a b c d=>[]
def step (J:Pt->aC):Pt->aC
 | .p0 a b c d=>(cond (d<c) (m2 d (b.length:Int) (m2 d (a.length:Int) (call (Z255.R ((cB.at b (toNat d)),(cB.at a (toNat d)))) fun v1=>(cond (!v1) fq (J (.p0 a b c (i64.wrap (d+1)))))))) nN)
def start (J:Pt->aC)(x0 x1:an):aC:=(cond (x0.length != (x1.length:Int)) (ret false) (J (.p0 x1 x0 x0.length 0)))
def live:Nat->Live:=gx [(4,iR [1,2,15,16,17])]
def pats:List fE:=[.rd (.sl 170),.rd (.sl 170),.fn 127 []]
def res:RP:=.one (.rd (.bool))
abbrev E:Env:={ T:=assoc mq,G:=cW [(127,Z255.aK)],nt:=32 }
def step_eq (I:dB)(p:Pt):dU E live I (pid p) (bJ Tryz.f126) (iN (live (pid p)) (cF p) (dN p)) (dz E Tryz.f126 res)=step (fun q=>I (pid q) (cF q) (dN q)) p:=by
 cases p<;>kernel_rfl
def start_eq (I:dB)(ls:List L):gJ E live I (bJ Tryz.f126) (dy pats ls) (dz E Tryz.f126 res)=start (fun q=>I (pid q) (cF q) (dN q)) (eM ls) (fJ 1 ls):=by kernel_rfl
def run_eq (n:Nat)(ls:List L):eV E live Tryz.f126 res n (dy pats ls)=start (iter step n) (eM ls) (fJ 1 ls):=dK (id:=pid) (vs:=cF) (hs:=dN) (step:=step) (start:=fun J=>start J (eM ls) (fJ 1 ls)) step_eq (fun I=>start_eq I ls) n
def md (a0 a1:List aM):Bool:=(bif (a0.length != (a1.length:Int)) then false else (eu (S:=Unit) (β:=Bool) (fun i2 s4=>(cond (!(Z255.md (a0.getD i2 aM.zero) (a1.getD i2 aM.zero))) (.inr false) (.inl ()))) (fun s4=>true) a0.length 0 ()))
def gd (a0 a1:List aM):Prop:=(bf (2^21) (fun y:aM=>aM.Sm (2^21) y) a0)/\(bf (2^21) (fun y:aM=>aM.Sm (2^21) y) a1)
def acc (ls:List L):an×an:=((eM ls),(fJ 1 ls))
def R:(an×an)->Option Bool:=cL gd md
def aj {a0 a1}(h:gd a0 a1):R ((a0.map aM.row),(a1.map aM.row))=some (md a0 a1):=cK h
def aK:gu:=CN pats res acc R
def bn (a0 a1:List aM)(hg:gd a0 a1):∃n,start (iter step n) (a0.map aM.row) (a1.map aM.row)=ret ((md a0 a1):Bool):=by
 obtain ⟨H0,H1⟩:=hg
 unfold start md
 simp only [SS]
 refine gB ret (fun _=>⟨0,rfl⟩) (fun c1=>?_)
 have dc1:=c1
 simp only [DC] at dc1
 have Bh3:=bl H0
 refine dc fz (bH (pt:=fun (i2:Nat) (s4:Unit)=>Pt.p0 (a1.map aM.row) (a0.map aM.row) (a0.length:Int) (i2:Int)) (fun _ _=>True) (fun J i2 s4 h3 hih3=>?_) (fun s4 hih3=>?_) trivial)
 ·simp only [step,SS]
  refine aP.yes dt (aP.yes bu ?_)
  refine aP.yes (bK h3) (aP.yes bu ?_)
  refine aP.yes dt (cr (Z255.aj ⟨(bf.getD H0 h3),(bf.getD H1 (by omega))⟩) ?_)
  refine aP.bif (fun _=>aP.inr rfl) (fun c5=>?_)
  refine aP.inl trivial ?_
  rw [aF h3 Bh3]
 ·simp only [step,SS]
  refine cH dn (⟨0,?_⟩)
  exact fz
def af:bZ 126 aK:=VV (run:=fun n x=>start (iter step n) x.1 x.2) mix aA (cM Z255.af) Tryz.func126 (by kernel_rfl) run_eq (fun _ a _ _ hg=>bn a.1 a.2 hg)
def md_eq (a0 a1:List aM):md a0 a1=iM a0 a1:=by
 refine iL (aM.zero) (fun i s h h2=>?_) (fun s=>rfl)
 simp only [bne,jC,bool_beq,fY,Z255.md_eq]
 cases iM _ _<;>rfl
end Z256
namespace Z257
def F (x0 x1:aW):aC:=(call (Z254.R (x0.aH,x1.aH)) fun v1=>(cond v1 (call (Z256.R (x0.bg,x1.bg)) fun v2=>ret v2) (ret false)))
def md (a0 a1:ak):Bool:=(cond (Z254.md a0.aH a1.aH) ((Z256.md a0.bg a1.bg)) false)
def gd (a0 a1:ak):Prop:=(ak.Sm (2^21) a0)/\(ak.Sm (2^21) a1)
def R:=cL gd md
def aj {a0 a1}(h:gd a0 a1):R ((ak.r a0),(ak.r a1))=some (md a0 a1):=cK h
def aK:=CN [.agg vF,.agg vF] oB RT.dec R
def bn (a0)(a1)(hg:gd a0 a1):F (ak.r a0) (ak.r a1)=ret (md a0 a1):=by
 obtain ⟨H0,H1⟩:=hg
 refine ct (Z254.aj ⟨H0.1,H1.1⟩) (bs (fun c1=>?_) (fun _=>rfl))
 exact ct (Z256.aj ⟨H0.2,H1.2⟩) fz
def af:bZ 24 aK:=W2 17 F mix aA bn (eS Z254.af Z256.af) Tryz.func24
def md_eq (a0 a1:ak):md a0 a1=iM a0 a1:=by
 unfold md
 cases a0;cases a1
 rw [Bool.eq_iff_iff]
 simp [dM,fY,ak.mk.injEq,Z254.md_eq,Z256.md_eq]
end Z257
namespace Z258
def F (x0 x1:cw):aC:=(call (Z257.R (x0.bS,x1.bS)) fun v1=>(cond v1 (cond (x0.fo==x1.fo) (call (Z219.R (x0.aR,x1.aR)) fun v2=>(cond v2 (call (Z170.R (x0.bw,x1.bw)) fun v3=>(cond v3 (ret ((x0.iU==x1.iU))) (ret false))) (ret false))) (ret false)) (ret false)))
def md (a0 a1:av):Bool:=(cond (Z257.md a0.bS a1.bS) (cond (a0.fo==a1.fo) (cond (Z219.md a0.aR a1.aR) (cond (Z170.md a0.bw a1.bw) ((a0.iU==a1.iU)) false) false) false) false)
def gd (a0 a1:av):Prop:=(av.Sm (2^21) a0)/\(av.Sm (2^21) a1)
def R:=cL gd md
def aj {a0 a1}(h:gd a0 a1):R ((av.r a0),(av.r a1))=some (md a0 a1):=cK h
def aK:=CN [.agg zZ,.agg zZ] oB RT.dec R
def bn (a0)(a1)(hg:gd a0 a1):F (av.r a0) (av.r a1)=ret (md a0 a1):=by
 obtain ⟨H0,H1⟩:=hg
 refine ct (Z257.aj ⟨H0.1,H1.1⟩) (bs (fun c1=>?_) (fun _=>rfl))
 refine bs (fun c2=>?_) (fun _=>rfl)
 refine ct (Z219.aj ⟨H0.2.1,H1.2.1⟩) (bs (fun c3=>?_) (fun _=>rfl))
 refine ct (Z170.aj ⟨(H0.2.2.mono (by decide) (fun x hx=>trivial)),(H1.2.2.mono (by decide) (fun x hx=>trivial))⟩) (bs (fun c4=>?_) (fun _=>rfl))
 exact fz
def af:bZ 61 aK:=W2 38 F mix aA bn (jw Z257.af Z219.af Z170.af) Tryz.func61
def md_eq (a0 a1:av):md a0 a1=iM a0 a1:=by
 unfold md
 cases a0;cases a1
 rw [Bool.eq_iff_iff]
 simp [dM,fY,av.mk.injEq,Z257.md_eq,Z219.md_eq,Z170.md_eq]
end Z258
namespace Z259
def F (x0:cw):aC:=(cond (x0.fo==3) (ret true) (cond (x0.fo==5) (ret true) (ret ((x0.fo==6)))))
def md (a0:av):Bool:=(cond (a0.fo==3) true (cond (a0.fo==5) true ((a0.fo==6))))
def gd (a0:av):Prop:=True
def R:=RR gd md
def aj {a0}(h:gd a0):R (av.r a0)=some (md a0):=cO h
def aK:=CN [.agg zZ] oB RT.dec R
def bn (a0)(hg:gd a0):F (av.r a0)=ret (md a0):=by
 refine bs (fun _=>rfl) (fun c1=>?_)
 refine bs (fun _=>rfl) (fun c2=>?_)
 exact fz
def af:bZ 67 aK:=W1 16 F mix aA bn .nil Tryz.func67
end Z259
namespace Z260
def F (x0 x1:cw):aC:=(cond (x0.fo==x1.fo) (call (Z219.R (x0.aR,x1.aR)) fun v1=>ret v1) (ret false))
def md (a0 a1:av):Bool:=(cond (a0.fo==a1.fo) ((Z219.md a0.aR a1.aR)) false)
def gd (a0 a1:av):Prop:=(av.Sm (2^21) a0)/\(av.Sm (2^21) a1)
def R:=cL gd md
def aj {a0 a1}(h:gd a0 a1):R ((av.r a0),(av.r a1))=some (md a0 a1):=cK h
def aK:=CN [.agg zZ,.agg zZ] oB RT.dec R
def bn (a0)(a1)(hg:gd a0 a1):F (av.r a0) (av.r a1)=ret (md a0 a1):=by
 obtain ⟨H0,H1⟩:=hg
 refine bs (fun c1=>?_) (fun _=>rfl)
 exact ct (Z219.aj ⟨H0.2.1,H1.2.1⟩) fz
def af:bZ 72 aK:=W2 17 F mix aA bn (cM Z219.af) Tryz.func72
end Z260
namespace Z261
inductive Pt where
 | p0 (a b:an) (c d:Int) (e:an)
 | p1 (a:an) (b:Int) (c:an) (d e f g:Int) (h:an) (i:cw)
def pid:Pt->Nat
 | .p0 ..=>3
 | .p1 ..=>7
def cF:Pt->List V
 | .p0 a b c d e=>[.sl none 108 a,.own 0,.sl none 108 b,.int .i64 c,.int .i64 d]
 | .p1 a b c d e f g h i=>[.sl none 108 a,.own 0,.int .i64 b,.bN 1 0,.sl none 108 c,.int .i64 d,.int .i64 e,.int .i64 f,.int .i64 g]
def dN:Pt->List aL
 | .p0 a b c d e=>[.row 46 e]
 | .p1 a b c d e f g h i=>[.row 46 h,.box [.sl none 37 i.bS.aH,.sl none 170 i.bS.bg,.int .i64 i.fo,.str i.aR.aZ,.int .i64 i.aR.bE,.int .i64 i.aR.bY,.sl none 9 i.aR.bD,.sl none 3 i.bw,.int .i64 i.iU]]
def step (J:Pt->aC):Pt->aC
 | .p0 a b c d e=>(cond (d<c) (m2 d (b.length:Int) (call (Z259.R (cw.at b (toNat d))) fun v1=>(cond v1 (J (.p0 a b c (i64.wrap (d+1)) e)) (J (.p1 a d b c d (e.length:Int) 0 e (cw.at b (toNat d))))))) (ret (e:an)))
 | .p1 a b c d e f g h i=>(cond (g<f) (m2 g (h.length:Int) (ck ((0:Int)<((jo h (toNat g)).length:Int)) (ck ((0:Int)<=(gR (jo h (toNat g)) 0)) (ck ((gR (jo h (toNat g)) 0)<(a.length:Int)) (call (Z260.R ((cw.at a (toNat (gR (jo h (toNat g)) 0))),i)) fun v1=>(cond v1 (m2 g (h.length:Int) (ck (eG ((((jo h (toNat g)).length:Int)+1)*8)) (m2 g (h.length:Int) (ck (FF g) (J (.p0 a c d (i64.wrap (e+1)) (List.set h (toNat g) [L.sl ((jo h (toNat g))++[[L.int b]])]))))))) (J (.p1 a b c d e f (i64.wrap (g+1)) h i)))))))) (ck (eG (((h.length:Int)+1)*24)) (J (.p0 a c d (i64.wrap (e+1)) (h++[[L.sl [[L.int b]]]])))))
def start (J:Pt->aC)(x0:an):aC:=J (.p0 x0 x0 x0.length 0 [])
def live:Nat->Live:=gx [(3,[(0,none),(3,some 46),(8,none),(9,none),(10,none)]),(7,[(0,none),(3,some 46),(4,none),(5,none),(8,none),(9,none),(10,none),(18,none),(19,none)])]
def pats:List fE:=[.rd (.sl 108)]
def res:RP:=.one (.fr 46)
abbrev E:Env:={ T:=assoc mq,G:=cW [(67,Z259.aK),(72,Z260.aK)],nt:=51,M:=eW [],mt:=true }
def step_eq (I:dB)(p:Pt):dU E live I (pid p) (bJ Tryz.f71) (iN (live (pid p)) (cF p) (dN p)) (dz E Tryz.f71 res)=step (fun q=>I (pid q) (cF q) (dN q)) p:=by
 cases p<;>kernel_rfl
def start_eq (I:dB)(ls:List L):gJ E live I (bJ Tryz.f71) (dy pats ls) (dz E Tryz.f71 res)=start (fun q=>I (pid q) (cF q) (dN q)) (eM ls):=by kernel_rfl
def run_eq (n:Nat)(ls:List L):eV E live Tryz.f71 res n (dy pats ls)=start (iter step n) (eM ls):=dK (id:=pid) (vs:=cF) (hs:=dN) (step:=step) (start:=fun J=>start J (eM ls)) step_eq (fun I=>start_eq I ls) n
def hd (xs:List av)(g:List Int):av:=xs.getD (toNat (g.getD 0 0)) av.zero
def put (xs:List av)(i:Nat)(t:av):List (List Int)->List (List Int)
 | []=>[[(i:Int)]]
 | g::gs=>bif Z260.md (hd xs g) t then (g++[(i:Int)])::gs else g::put xs i t gs
def vR (xs:List av):Nat->List (List Int)
 | 0=>[]
 | k+1=>bif Z259.md (xs.getD k av.zero) then vR xs k else put xs k (xs.getD k av.zero) (vR xs k)
def kW {a b:av}:Z260.md a b=true↔a.fo=b.fo/\a.aR=b.aR:=by
 unfold Z260.md
 rw [Z219.md_eq]
 by_cases h:a.fo=b.fo
 ·rw [show (a.fo==b.fo)=true from beq_iff_eq.2 h,aO,dM]
  exact ⟨fun h2=>⟨h,h2⟩,fun h2=>h2.2⟩
 ·rw [show (a.fo==b.fo)=false from beq_eq_false_iff_ne.2 h,aU]
  exact ⟨fun h2=>(nomatch h2),fun h2=>(h h2.1).elim⟩
def yH (xs:List av)(i:Nat)(t:av):∀out:List (List Int),∃n,n<=out.length/\(∀j,j<n->Z260.md (hd xs (out.getD j [])) t=false)/\
  ((n<out.length/\Z260.md (hd xs (out.getD n [])) t=true/\put xs i t out=out.set n (out.getD n []++[(i:Int)]))∨(n=out.length/\put xs i t out=out++[[(i:Int)]]))
 | []=>⟨0,Nat.le_refl _,fun j hj=>by omega,.inr ⟨rfl,rfl⟩⟩
 | g::gs=>by
  cases h:Z260.md (hd xs g) t
  ·obtain ⟨n,h1,h2,h3⟩:=yH xs i t gs
   refine ⟨n+1,by simpa using h1,fun j hj=>?_,?_⟩
   ·cases j with
    | zero=>exact h
    | succ j=>exact h2 j (by omega)
   ·rcases h3 with ⟨a,b,c⟩ | ⟨a,c⟩
    ·exact .inl ⟨by simpa using a,b,by simp [put,h,c]⟩
    ·exact .inr ⟨by simpa using a,by simp [put,h,c]⟩
  ·exact ⟨0,zero_le _,fun j hj=>by omega,.inl ⟨by simp,h,by simp [put,h]⟩⟩
def Inv (xs:List av)(k:Nat)(out:List (List Int)):Prop:=
 out.length<=k/\(∀g∈out,1<=g.length/\g.length<=k/\0<=g.getD 0 0/\g.getD 0 0<(xs.length:Int))/\
 ∀i j,i<j->j<out.length->Z260.md (hd xs (out.getD i [])) (hd xs (out.getD j []))=false
def sZ {g:List Int}{v:Int}(h:1<=g.length):(g++[v]).getD 0 0=g.getD 0 0:=by
 cases g with
 | nil=>simp at h
 | cons a g=>rfl
def Cw {xs:List av}{k:Nat}{out:List (List Int)}(h:Inv xs k out)(hk:k<xs.length):Inv xs (k+1) (put xs k (xs.getD k av.zero) out):=by
 obtain ⟨h1,h2,h3⟩:=h
 obtain ⟨n,hn,hlt,hcase⟩:=yH xs k (xs.getD k av.zero) out
 rcases hcase with ⟨hnl,hsame,hput⟩ | ⟨rfl,hput⟩
 ·rw [hput]
  obtain ⟨p1,p2,p3,p4⟩:=h2 (out.getD n []) (by rw [eD hnl];exact List.getElem_mem _)
  have hset:∀i,i<out.length->hd xs ((out.set n (out.getD n []++[(k:Int)])).getD i [])=hd xs (out.getD i []):=by
   intro i hi
   by_cases hin:n=i
   ·subst hin
    have :(out.set n (out.getD n []++[(k:Int)])).getD n []=out.getD n []++[(k:Int)]:=by simp [List.getD_eq_getElem?_getD,hi]
    rw [this];unfold hd;rw [sZ p1]
   ·have :(out.set n (out.getD n []++[(k:Int)])).getD i []=out.getD i []:=by simp [List.getD_eq_getElem?_getD,List.getElem?_set,hin]
    rw [this]
  refine ⟨by rw [List.length_set];omega,fun g hg=>?_,fun i j hij hj=>?_⟩
  ·rcases List.mem_or_eq_of_mem_set hg with hg | rfl
   ·obtain ⟨q1,q2,q3,q4⟩:=h2 g hg
    exact ⟨q1,by omega,q3,q4⟩
   ·rw [sZ p1,List.length_append]
    exact ⟨by omega,by simp only [List.length_singleton];omega,p3,p4⟩
  ·rw [List.length_set] at hj
   rw [hset i (by omega),hset j hj]
   exact h3 i j hij hj
 ·rw [hput]
  refine ⟨by simp;omega,fun g hg=>?_,fun i j hij hj=>?_⟩
  ·rcases List.mem_append.1 hg with hg | hg
   ·obtain ⟨q1,q2,q3,q4⟩:=h2 g hg
    exact ⟨q1,by omega,q3,q4⟩
   ·rw [List.mem_singleton.1 hg]
    exact ⟨by simp,by simp,by simp,by simp;omega⟩
  ·rw [List.length_append,List.length_singleton] at hj
   have hi:(out++[[(k:Int)]]).getD i []=out.getD i []:=by
    simp only [List.getD_eq_getElem?_getD];rw [List.getElem?_append_left (by omega)]
   rw [hi]
   by_cases hjl:j<out.length
   ·have hj2:(out++[[(k:Int)]]).getD j []=out.getD j []:=by
     simp only [List.getD_eq_getElem?_getD];rw [List.getElem?_append_left hjl]
    rw [hj2];exact h3 i j hij hjl
   ·obtain rfl:j=out.length:=by omega
    have hj2:(out++[[(k:Int)]]).getD out.length []=[(k:Int)]:=by simp [List.getD_eq_getElem?_getD]
    rw [hj2]
    exact hlt i hij
def Inv.mono {xs:List av}{k l:Nat}{out:List (List Int)}(h:Inv xs k out)(hk:k<=l):Inv xs l out:=
 ⟨le_trans h.1 hk,fun g hg=>let ⟨a,b,c⟩:=h.2.1 g hg;⟨a,le_trans b hk,c⟩,h.2.2⟩
def rN (xs:List av):∀k:Nat,k<=xs.length->Inv xs k (vR xs k)
 | 0,_=>⟨Nat.le_refl _,fun _ h=>(nomatch h),fun i j _ h=>by simp [vR] at h⟩
 | k+1,hk=>by
  have ih:=rN xs k (by omega)
  unfold vR
  cases Z259.md (xs.getD k av.zero)
  ·exact Cw ih (by omega)
  ·exact ih.mono (Nat.le_succ k)
def md (a0:List av):List (List Int):=vR a0 a0.length
def gd (a0:List av):Prop:=bf (2^21) (fun y:av=>av.Sm (2^21) y) a0
def acc (ls:List L):an:=(eM ls)
def R:(an)->Option (an):=RR gd md
def aj {a0}(h:gd a0):R (a0.map av.row)=some ((md a0).map (eF aQ)):=cO h
def aK:gu:=CN pats res acc R
def bn (a0:List av)(hg:gd a0):∃n,start (iter step n) (a0.map av.row)=ret (((md a0).map (eF aQ)):an):=by
 have hl:=hg.1
 have inner:∀(k:Nat) (out:List (List Int)) (X:aC),k<a0.length->Inv a0 k out->(∃m,iter step m (Pt.p0 (a0.map av.row) (a0.map av.row) (a0.length:Int) ((k+1:Nat):Int) ((put a0 k (a0.getD k av.zero) out).map (eF aQ)))=X)->
   ∃m,iter step m (Pt.p1 (a0.map av.row) (k:Int) (a0.map av.row) (a0.length:Int) (k:Int) (out.length:Int) 0 (out.map (eF aQ)) (av.r (a0.getD k av.zero)))=X:=by
  intro k out X hk hI hX
  have wB:=hI.1
  have hs:∀(J:Pt->aC) (j:Nat),j<out.length->step J (Pt.p1 (a0.map av.row) (k:Int) (a0.map av.row) (a0.length:Int) (k:Int) (out.length:Int) (j:Int) (out.map (eF aQ)) (av.r (a0.getD k av.zero))) =
    (cond (Z260.md (hd a0 (out.getD j [])) (a0.getD k av.zero)) (J (Pt.p0 (a0.map av.row) (a0.map av.row) (a0.length:Int) ((k+1:Nat):Int) ((out.set j (out.getD j []++[(k:Int)])).map (eF aQ)))) (J (Pt.p1 (a0.map av.row) (k:Int) (a0.map av.row) (a0.length:Int) (k:Int) (out.length:Int) ((j+1:Nat):Int) (out.map (eF aQ)) (av.r (a0.getD k av.zero))))):=by
   intro J j hj
   obtain ⟨p1,p2,p3,p4⟩:=hI.2.1 (out.getD j []) (by rw [eD hj];exact List.getElem_mem _)
   have q1:(j:Int)<(out.length:Int):=by omega
   have q2:(0:Int)<=(j:Int):=by omega
   have q3:(0:Int)<((out.getD j []).length:Int):=by omega
   have q8:eG ((((out.getD j []).length:Int)+1)*8)=true:=fQ (by omega)
   have hr:Z260.R (av.r (hd a0 (out.getD j [])),av.r (a0.getD k av.zero))=some (Z260.md (hd a0 (out.getD j [])) (a0.getD k av.zero)):=by
    unfold hd
    rw [Z260.aj ⟨bf.getD hg (by omega),bf.getD hg (by omega)⟩]
   unfold hd at hr ⊢
   simp only [step,MM,S0,av.rs,q1,q2,q3,p3,p4,q8,Eb,decide_true,aO]
   rw [call_eq hr,wi _ (by omega),wi _ (by omega)]
   simp only [MP]
   rfl
  obtain ⟨n,hn,hlt,hcase⟩:=yH a0 k (a0.getD k av.zero) out
  have hend:∀(J:Pt->aC),step J (Pt.p1 (a0.map av.row) (k:Int) (a0.map av.row) (a0.length:Int) (k:Int) (out.length:Int) (out.length:Int) (out.map (eF aQ)) (av.r (a0.getD k av.zero))) =
    J (Pt.p0 (a0.map av.row) (a0.map av.row) (a0.length:Int) ((k+1:Nat):Int) ((out++[[(k:Int)]]).map (eF aQ))):=by
   intro J
   simp only [step,MM,S0,av.rs]
   rw [decide_eq_false (show ¬(out.length:Int)<(out.length:Int) by omega),aU,fQ (by omega),aO,wi _ (by omega)]
   simp only [MP]
   rfl
  obtain ⟨m,hm⟩:=hX
  have early:∀d j,j+d=n->∃m,iter step m (Pt.p1 (a0.map av.row) (k:Int) (a0.map av.row) (a0.length:Int) (k:Int) (out.length:Int) (j:Int) (out.map (eF aQ)) (av.r (a0.getD k av.zero)))=X:=by
   intro d
   induction d with
   | zero=>
    intro j hj
    obtain rfl:j=n:=by omega
    rcases hcase with ⟨hnl,hsame,hput⟩ | ⟨rfl,hput⟩
    ·refine ⟨m+1,(hs _ j hnl).trans ?_⟩
     rw [hsame,aO,<-hput]
     exact hm
    ·refine ⟨m+1,(hend _).trans ?_⟩
     rw [<-hput]
     exact hm
   | succ d ih=>
    intro j hj
    obtain ⟨m2,hm2⟩:=ih (j+1) (by omega)
    refine ⟨m2+1,(hs _ j (by omega)).trans ?_⟩
    rw [hlt j (by omega),aU]
    exact hm2
  exact early n 0 (by omega)
 have outer:∀d k,k+d=a0.length->∃m,iter step m (Pt.p0 (a0.map av.row) (a0.map av.row) (a0.length:Int) (k:Int) ((vR a0 k).map (eF aQ)))=ret ((vR a0 a0.length).map (eF aQ):an):=by
  intro d
  induction d with
  | zero=>
   intro k hk
   obtain rfl:k=a0.length:=by omega
   refine ⟨1,?_⟩
   show step (iter step 0) _=_
   simp only [step,S0]
   exact dZ (decide_eq_false (by omega)) rfl
  | succ d ih=>
   intro k hk
   have hX:=ih (k+1) (by omega)
   have hI:=rN a0 k (by omega)
   have hst:∀J:Pt->aC,step J (Pt.p0 (a0.map av.row) (a0.map av.row) (a0.length:Int) (k:Int) ((vR a0 k).map (eF aQ)))=(cond (Z259.md (a0.getD k av.zero)) (J (Pt.p0 (a0.map av.row) (a0.map av.row) (a0.length:Int) ((k+1:Nat):Int) ((vR a0 k).map (eF aQ)))) (J (Pt.p1 (a0.map av.row) (k:Int) (a0.map av.row) (a0.length:Int) (k:Int) ((vR a0 k).length:Int) 0 ((vR a0 k).map (eF aQ)) (av.r (a0.getD k av.zero))))):=by
    intro J
    have q6:(0:Int)<=(k:Int):=by omega
    have q7:(k:Int)<(a0.length:Int):=by omega
    have hr:Z259.R (av.r (a0.getD k av.zero))=some (Z259.md (a0.getD k av.zero)):=by
     rw [Z259.aj trivial]
    simp only [step,MM,S0,av.rs,q6,q7,decide_true,aO]
    rw [call_eq hr,wi _ (by omega)]
    rfl
   have eg:vR a0 (k+1)=(cond (Z259.md (a0.getD k av.zero)) (vR a0 k) (put a0 k (a0.getD k av.zero) (vR a0 k))):=rfl
   rw [eg] at hX
   cases hs:Z259.md (a0.getD k av.zero)
   ·rw [hs,aU] at hX
    obtain ⟨m,hm⟩:=inner k (vR a0 k) _ (by omega) hI hX
    refine ⟨m+1,(hst _).trans ?_⟩
    rw [hs,aU];exact hm
   ·rw [hs,aO] at hX
    obtain ⟨m,hm⟩:=hX
    refine ⟨m+1,(hst _).trans ?_⟩
    rw [hs,aO];exact hm
 unfold start md
 simp only [S0]
 exact outer a0.length 0 (by omega)
def af:bZ 71 aK:=VT (run:=fun n x=>start (iter step n) x) mix aA (eS Z259.af Z260.af) .nil Tryz.func71 (by kernel_rfl) run_eq (fun _ a _ _ hg=>bn a hg)
end Z261
namespace Z262
def F (x0:an):aC:=(call (Z1.R x0) fun v1=>(call (Z78.R (v1.1,v1.2.1,v1.2.2)) fun v2=>(call (Z94.R (v1.1,v2.2.1,v2.2.2.1,v2.2.2.2)) fun v3=>(call (Z4.R (v1.1,v3.2.1,v3.2.2.1,5)) fun v4=>(cond (v4.2.2.2==0) (call (Z5.R (v1.1,v4.2.1,v4.2.2.1,[[L.str (⟨#[109,97,105,110]⟩:az)],[L.str (⟨#[65]⟩:az)],[L.str (⟨#[120]⟩:az)]])) fun v5=>(ck (eG (((v3.2.2.2.length:Int)+1)*24)) (ret ((v3.2.2.2++[(aX.enc (⟨v5.2.2.2,5⟩:aX))]):an)))) (cond (v4.2.2.2==1) (call (Z84.R (v1.1,v4.2.1,v4.2.2.1,[[L.int (-1)],[L.int 2147483646],[L.int 2147483647]])) fun v6=>(ck (eG (((v3.2.2.2.length:Int)+1)*24)) (ret ((v3.2.2.2++[(aX.enc (⟨(⟨#[120]⟩:az),v6.2.2.2⟩:aX))]):an)))) (ret (v3.2.2.2:an))))))))
def pats:List fE:=[.rd (.sl 5)]
def res:RP:=.one (.fr 232)
abbrev E:Env:={ T:=assoc mq,G:=cW [],nt:=32,M:=eW [],np:=0,mt:=false,I:=gp [(137,Z1.ic 0),(178,Z78.ic 0),(191,Z94.ic 0),(139,Z4.ic 0),(192,Z5.ic 0),(145,Z84.ic 0)] }
def run_eq (n:Nat)(ls:List L):eV E (fun _=>[]) Tryz.f73 res n (dy pats ls)=F (eM ls):=by kernel_rfl
def gd (x0:an):Prop:=x0.length<=1048576
def post (x0 y:an):Prop:=∃m:List aX,y=m.map aX.row/\bf 4 (fun z:aX=>aX.Sm 64 z) m
def wp (x0:an)(hg:gd x0):Wp (F x0) (post x0):=by
 unfold F
 refine Z1.ep hg (fun v1 ⟨e1,c1⟩=>Z78.ep (by rw [e1];exact c1) (fun v2 ⟨c2,zs,e2,l2,o2⟩=>Z94.ep ⟨c2,zs,e2,l2,o2⟩ (fun v3 ⟨c3,rs,e3,s3⟩=>Z4.ep c3 (fun v4 ⟨c4,_⟩=>?_))))
 rw [e3]
 have hl:=s3.1
 have lm:eG ((((rs.map aX.row).length:Int)+1)*24)=true:=fQ (by rw [List.length_map];omega)
 refine wp_cond (fun _=>?_) (fun _=>wp_cond (fun _=>?_) (fun _=>wp_ret ⟨rs,rfl,s3.mono (by decide) fun _ h=>h⟩))
 ·refine Z5.ep ⟨c4,by show 0<3;decide⟩ (fun v5 ⟨c5,i,hi,e5⟩=>fO lm ?_)
  have s5:v5.2.2.2.size<=64:=by rw [e5];exact lq rfl hi
  exact wp_ret ⟨rs++[⟨v5.2.2.2,5⟩],by rw [List.map_append];rfl,bf.Eh s3 (by decide) (show aX.Sm 64 ⟨v5.2.2.2,5⟩ from s5)⟩
 ·refine Z84.ep ⟨c4,by show 0<3;decide⟩ (fun v6 _=>fO lm ?_)
  exact wp_ret ⟨rs++[⟨⟨#[120]⟩,v6.2.2.2⟩],by rw [List.map_append];rfl,bf.Eh s3 (by decide) (show aX.Sm 64 ⟨⟨#[120]⟩,v6.2.2.2⟩ from (show (1:Nat)<=64 by decide))⟩
def R:(an)->Option (an):=RQ (fun _ x=>F x) (fun x=>post x)
def mS {x0:an}(hg:gd x0):∃y,R x0=some y/\post x0 y:=pJ ⟨0,wp x0 hg⟩
def acc (ls:List L):an:=(eM ls)
def aK:gu:=CN pats res acc R
def af:bZ 73 aK:=VQ (live:=(fun _=>[])) (mt:=false) mix aA .nil .nil (.cons (Z1.bM 0) (.cons (Z78.bM 0) (.cons (Z94.bM 0) (.cons (Z4.bM 0) (.cons (Z5.bM 0) (.cons (Z84.bM 0) .nil)))))) Tryz.func73 (by kernel_rfl) run_eq
end Z262
namespace Z263
inductive Pt where
 | p0 (a:an) (b c:Int) (d e:an)
def cF:Pt->List V
 | .p0 a b c d e=>[.sl none 108 a,.own 0,.own 1,.int .i64 b,.int .i64 c]
def dN:Pt->List aL
 | .p0 a b c d e=>[.row 62 d,.row 46 e]
def step (J:Pt->aC):Pt->aC
 | .p0 a b c d e=>(cond (c<b) (m2 c (e.length:Int) (ck ((0:Int)<((jo e (toNat c)).length:Int)) (ck ((0:Int)<=(gR (jo e (toNat c)) 0)) (ck ((gR (jo e (toNat c)) 0)<(a.length:Int)) (cond ((cw.at a (toNat (gR (jo e (toNat c)) 0))).fo==1) (call (Z206.R ((cw.at a (toNat (gR (jo e (toNat c)) 0))).aR)) fun v1=>(ck (eG (((d.length:Int)+1)*56)) (J (.p0 a b (i64.wrap (c+1)) (d++[(bp.enc v1)]) e)))) (J (.p0 a b (i64.wrap (c+1)) d e))))))) (ret (d:an)))
def start (J:Pt->aC)(x0:an):aC:=(call (Z261.R x0) fun v1=>(cond ((v1.length:Int)<2) (ret ([]:an)) (J (.p0 x0 (v1.length:Int) 0 [] v1))))
def live:Nat->Live:=gx [(6,[(0,none),(4,some 62),(15,none),(16,none),(17,none)])]
def BV (xs:List av)(g:List Int):List ah:=bif (Z261.hd xs g).fo==1 then [(Z261.hd xs g).aR] else []
def CF (xs:List av)(g:List Int):(BV xs g).length<=1:=by
 unfold BV
 cases ((Z261.hd xs g).fo==1)
 ·exact zero_le _
 ·exact Nat.le_refl _
def md (a0:List av):List ah:=(cond ((Z261.md a0).length>1) ((Z261.md a0).flatMap (BV a0)) [])
def gd (a0:List av):Prop:=bf (2^21) (fun y:av=>av.Sm (2^21) y) a0
def R:=RR gd md
def aj {a0}(h:gd a0):R (a0.map av.row)=some ((md a0).map ah.row):=cO h
def aK:=CN [pL 108] (oL 62) RT.dec R
def bn (a0)(hg:gd a0):∃n,start (iter step n) (a0.map av.row)=ret ((md a0).map ah.row):=by
 unfold gd at hg
 have hl:=hg.1
 have hI:=Z261.rN a0 a0.length (Nat.le_refl _)
 have key:∀(G:List (List Int)),Z261.Inv a0 a0.length G->1<G.length->∀d k (c:List ah),k+d=G.length->c.length<=k->∃m,iter step m (Pt.p0 (a0.map av.row) (G.length:Int) (k:Int) (c.map ah.row) (G.map (eF aQ)))=ret ((c++(G.drop k).flatMap (BV a0)).map ah.row:an):=by
  intro G hG h1 d
  have hGl:=hG.1
  induction d with
  | zero=>
   intro k c hk hc
   obtain rfl:k=G.length:=by omega
   refine ⟨1,?_⟩
   show step (iter step 0) _=_
   simp only [step,S0]
   refine dZ (decide_eq_false (by omega)) ?_
   rw [List.drop_eq_nil_of_le (Nat.le_refl _),List.flatMap_nil,List.append_nil]
  | succ d ih=>
   intro k c hk hc
   have hlt:k<G.length:=by omega
   obtain ⟨p1,p2,p3,p4⟩:=hG.2.1 (G.getD k []) (by rw [eD hlt];exact List.getElem_mem _)
   have q1:(k:Int)<(G.length:Int):=by omega
   have q2:(0:Int)<=(k:Int):=by omega
   have q3:(0:Int)<((G.getD k []).length:Int):=by omega
   have q5:eG (((c.length:Int)+1)*56)=true:=fQ (by omega)
   have hdr:(G.drop k).flatMap (BV a0)=BV a0 (G.getD k [])++(G.drop (k+1)).flatMap (BV a0):=by
    rw [List.drop_eq_getElem_cons hlt,List.flatMap_cons,eD hlt]
   have hst:∀J:Pt->aC,step J (Pt.p0 (a0.map av.row) (G.length:Int) (k:Int) (c.map ah.row) (G.map (eF aQ)))=J (Pt.p0 (a0.map av.row) (G.length:Int) ((k+1:Nat):Int) ((c++BV a0 (G.getD k [])).map ah.row) (G.map (eF aQ))):=by
    intro J
    unfold BV Z261.hd
    simp only [step,MM,S0,av.rs,q1,q2,q3,q5,p3,p4,decide_true,aO]
    rw [wi _ (by omega)]
    cases ((a0.getD (toNat ((G.getD k []).getD 0 0)) av.zero).fo==1)
    ·simp only [aU,List.append_nil]
     rfl
    ·simp only [aO]
     rw [call_eq (Z206.aj (a0:=(a0.getD (toNat ((G.getD k []).getD 0 0)) av.zero).aR) (bf.getD (z:=av.zero) hg (by omega)).2.1)]
     simp only [MP]
     rfl
   obtain ⟨m,hm⟩:=ih (k+1) (c++BV a0 (G.getD k [])) (by omega) (by have:=CF a0 (G.getD k []);rw [List.length_append];omega)
   refine ⟨m+1,(hst _).trans ?_⟩
   rw [hdr,<-List.append_assoc]
   exact hm
 have hr:=Z261.aj (a0:=a0) hg
 unfold start md
 refine eX ((Z261.md a0).map (eF aQ)) hr ?_
 by_cases h1:(Z261.md a0).length>1
 ·obtain ⟨m,hm⟩:=key (Z261.md a0) hI h1 (Z261.md a0).length 0 [] (by omega) (Nat.le_refl _)
  refine ⟨m,?_⟩
  rw [decide_eq_true h1,aO]
  simp only [S0]
  rw [decide_eq_false (by omega),aU]
  exact hm
 ·refine ⟨0,?_⟩
  rw [decide_eq_false h1,aU]
  simp only [S0]
  rw [decide_eq_true (by omega),aO]
  rfl
def af:bZ 74 aK:=L1 38 (fun _=>6) cF dN live step start mix aA bn (eS Z261.af Z206.af) Tryz.func74
end Z263
namespace Z264
def F (x0:an):aC:=(call (Z261.R x0) fun v1=>ret (((v1.length:Int)==1)))
def md (a0:List av):Bool:=((((Z261.md a0).length:Int)==1))
def gd (a0:List av):Prop:=(bf (2^21) (fun y:av=>av.Sm (2^21) y) a0)
def R:=RR gd md
def aj {a0}(h:gd a0):R (a0.map av.row)=some (md a0):=cO h
def aK:=CN [pL 108] oB RT.dec R
def bn (a0)(H0:gd a0):F (a0.map av.row)=ret (md a0):=ct (Z261.aj H0) fz
def af:bZ 75 aK:=W1 7 F mix aA bn (cM Z261.af) Tryz.func75
end Z264
namespace Z265
inductive Pt where
 | p0 (a:an) (b:Int)
 | p1 (a:an) (b c:Int)
def pid:Pt->Nat
 | .p0 ..=>2
 | .p1 ..=>7
def cF:Pt->List V
 | .p0 a b=>[.sl none 232 a,.int .i64 b]
 | .p1 a b c=>[.sl none 232 a,.int .i64 b,.int .i64 c]
def step (J:Pt->aC):Pt->aC
 | .p0 a b=>(cond (b<(a.length:Int)) (m2 b (a.length:Int) (call (Z12.R ((aX.at a (toNat b)).fName)) fun v1=>(cond (!v1) fq (m2 b (a.length:Int) (call (Z11.R ((aX.at a (toNat b)).aS,0,2147483646)) fun v2=>(cond (!v2) fq (J (.p1 a b 0)))))))) (ret ((decide ((a.length:Int)<=3)):Bool)))
 | .p1 a b c=>(cond (c<b) (m2 c (a.length:Int) (m2 b (a.length:Int) (cond ((aX.at a (toNat c)).fName==(aX.at a (toNat b)).fName) fq (J (.p1 a b (i64.wrap (c+1))))))) (J (.p0 a (i64.wrap (b+1)))))
def start (J:Pt->aC)(x0:an):aC:=J (.p0 x0 0)
def live:Nat->Live:=gx [(2,iR [0,3]),(7,iR [0,3,4])]
def wN (a:List aX)(b c m:Nat):Bool:=(List.range' c m).any fun k=>(a.getD k aX.zero).fName==(a.getD b aX.zero).fName
def tP (p q:aX->Bool)(a:List aX)(c m:Nat):Bool:=(List.range' c m).all fun b=>p (a.getD b aX.zero)&&(q (a.getD b aX.zero)&&!(wN a b 0 b))
def Ak (a:List aX)(b c m:Nat):wN a b c (m+1)=((a.getD c aX.zero).fName==(a.getD b aX.zero).fName||wN a b (c+1) m):=by simp [wN,List.range'_succ]
def uA (p q:aX->Bool)(a:List aX)(c m:Nat):tP p q a c (m+1)=((p (a.getD c aX.zero)&&(q (a.getD c aX.zero)&&!(wN a c 0 c)))&&tP p q a (c+1) m):=by simp [tP,List.range'_succ]
def md (a0:List aX):Bool:=tP (fun y=>Z12.md y.fName) (fun y=>Z11.md y.aS 0 2147483646) a0 0 a0.length&&decide ((a0.length:Int)<=3)
def gd (a0:List aX):Prop:=bf (2^21) (fun y:aX=>aX.Sm (2^21) y) a0
def R:=RR gd md
def aj {a0}(h:gd a0):R (a0.map aX.row)=some (md a0):=cO h
def aK:=CN [pL 232] oB RT.dec R
def bn (a0)(hg:gd a0):∃n,start (iter step n) (a0.map aX.row)=ret (md a0):=by
 unfold gd at hg
 have hl:=hg.1
 have inner:∀(m b c:Nat) (r:Bool),c+m=b->b<a0.length->(∃n,iter step n (Pt.p0 (a0.map aX.row) ((b+1:Nat):Int))=ret r)->∃n,iter step n (Pt.p1 (a0.map aX.row) (b:Int) (c:Int))=ret (cond (wN a0 b c m) false r):=by
  intro m
  induction m with
  | zero=>
   intro b c r hcm hb ⟨n,hn⟩
   refine ⟨n+1,?_⟩
   show step (iter step n) _=_
   simp only [step,SS]
   refine dZ (decide_eq_false (by omega)) ?_
   rw [show i64.wrap ((b:Int)+1)=((b+1:Nat):Int) by rw [wi _ (by omega)];omega]
   rw [hn];rfl
  | succ m ih=>
   intro b c r hcm hb hk
   obtain ⟨n,hn⟩:=ih b (c+1) r (by omega) hb hk
   refine ⟨n+1,?_⟩
   show step (iter step n) _=_
   simp only [step,SS]
   refine aG (decide_eq_true (by omega)) (aG (decide_eq_true (by omega)) (aG (decide_eq_true (by omega)) (aG (decide_eq_true (by omega)) (aG (decide_eq_true (by omega)) ?_))))
   rw [Ak]
   try simp only [Int.toNat_natCast]
   cases (a0.getD c aX.zero).fName==(a0.getD b aX.zero).fName
   ·simp only [aU,Bool.false_or]
    rw [show i64.wrap ((c:Int)+1)=((c+1:Nat):Int) by rw [wi _ (by omega)];omega]
    exact hn
   ·rfl
 have outer:∀(m b:Nat),b+m=a0.length->∃n,iter step n (Pt.p0 (a0.map aX.row) (b:Int))=ret (tP (fun y=>Z12.md y.fName) (fun y=>Z11.md y.aS 0 2147483646) a0 b m&&decide ((a0.length:Int)<=3)):=by
  intro m
  induction m with
  | zero=>
   intro b hb
   refine ⟨1,?_⟩
   show step (iter step 0) _=_
   simp only [step,SS]
   refine dZ (decide_eq_false (by simp;omega)) ?_
   simp [tP]
  | succ m ih=>
   intro b hb
   obtain ⟨n,hn⟩:=inner b b 0 _ (by omega) (by omega) (ih (b+1) (by omega))
   refine ⟨n+1,?_⟩
   show step (iter step n) _=_
   simp only [step,SS]
   refine aG (decide_eq_true (by simp;omega)) (aG (decide_eq_true (by omega)) (aG (decide_eq_true (by simp;omega)) ?_))
   rw [uA]
   try simp only [Int.toNat_natCast]
   refine ct (Z12.aj (le_trans (bf.getD (z:=aX.zero) hg (show b<a0.length by omega)) (by decide))) ?_
   cases Z12.md (a0.getD b aX.zero).fName
   ·rfl
   ·simp only [Bool.not_true,aU,Bool.true_and]
    refine aG (decide_eq_true (by omega)) (aG (decide_eq_true (by simp;omega)) ?_)
    refine ct (Z11.aj trivial) ?_
    cases Z11.md (a0.getD b aX.zero).aS 0 2147483646
    ·rfl
    ·simp only [Bool.not_true,aU,Bool.true_and]
     have hn':=hn
     rw [show ((0:Nat):Int)=0 from rfl] at hn'
     rw [hn']
     cases wN a0 b 0 b
     ·simp
     ·simp
 obtain ⟨n,hn⟩:=outer a0.length 0 (by omega)
 exact ⟨n,hn⟩
def af:bZ 77 aK:=L1 46 pid cF (fun _=>[]) live step start mix aA bn (eS Z12.af Z11.af) Tryz.func77
end Z265
namespace Z266
open Go.RowKit Go.Maps Go.WideMaps
def u9:Tryz.prog.underlying 9=some .string:=by kernel_rfl
def u4:Tryz.prog.underlying 4=some .bool:=by kernel_rfl
def Fo:Tryz.prog.underlying 234=some (.map 9 4):=by kernel_rfl
def DV:Keyed Tryz.prog 9:=string_keyed u9
def D5 (w:World):(zeroValue 4).run Tryz.prog w=.ok (.bool false) w:=by kernel_rfl
def vc {w w':World}(h:Fr w w' (fun _=>False)){a:Addr}{v:Value}(hc:w.cell? a=some v):w'.cell? a=some v:=by
 have hlt:a.block<w.heap.size:=block_lt_of_cell hc
 rw [World.cell?_of_block (h.block _ hlt (fun h=>h))];exact hc
def qc {w w':World}(h:Fr w w' (fun _=>False)):w.grownBy w' none:=⟨h.os,h.tape,h.output,h.size,fun b hb _=>h.block b hb (fun h=>h)⟩
def label (s:az)(hs:s.size<=2^22)(w:World):Calls Tryz.prog 193 #[.string s] w fun e w'=>e=.returned (.bool (Z135.md s))/\Fr w w' (fun _=>False):=by
 refine (Z135.af.2.2 [.str s] [.bool (Z135.md s)] w [.string s] (fun _=>False) ?_ (.cons rfl .nil)).mono fun e w' ⟨rv,A',h1,h2,_,_,_,h3⟩=>?_
 ·show (Z135.R s).map RT.enc=_
  rw [Z135.aj hs];rfl
 ·have h4:rv=.bool (Z135.md s):=h3
  rw [h1,h4];exact ⟨rfl,h2⟩
def DA (n:Int)(w:World):Calls Tryz.prog 194 #[.int .i64 n] w fun e w'=>e=.returned (.bool (Z140.md n))/\Fr w w' (fun _=>False):=by
 refine (Z140.af.2.2 [.int n] [.bool (Z140.md n)] w [.int .i64 n] (fun _=>False) ?_ (.cons rfl .nil)).mono fun e w' ⟨rv,A',h1,h2,_,_,_,h3⟩=>?_
 ·show (Z140.R n).map RT.enc=_
  rw [Z140.aj trivial];rfl
 ·have h4:rv=.bool (Z140.md n):=h3
  rw [h1,h4];exact ⟨rfl,h2⟩
def Sn (a:List aX):Nat->DataW Unit
 | 0=>.map []
 | k+1=>(Sn a k).put (.string (a.getD k aX.zero).fName.data.toList) (.lit (.bool true))
def Be (a:List aX):∀k,IsMap (Sn a k)
 | 0=>isMap_empty
 | k+1=>(Be a k).put _ _
def CX (a:List aX)(s:az):∀k,(Sn a k).atKey (.string s.data.toList) (.lit (.bool false))=.lit (.bool ((List.range k).any fun j=>(a.getD j aX.zero).fName==s))
 | 0=>rfl
 | k+1=>by
  unfold Sn
  by_cases h:(a.getD k aX.zero).fName=s
  ·subst h
   rw [atKey_put_same (Be a k) (k:=.string _) (by unfold WideAt.IsKeyLit;trivial)]
   simp [List.range_succ]
  ·rw [atKey_put_other (fun e=>h (by injection e with e;exact (ByteArray.ext (Array.ext' e)).symm)),CX a s k]
   have h':((a.getD k aX.zero).fName==s)=false:=by
    cases hb:((a.getD k aX.zero).fName==s) with
    | false=>rfl
    | true=>exact (h (dM.1 (fY ▸ hb))).elim
   rw [List.range_succ,List.any_append,List.any_cons,List.any_nil,h',Bool.or_false,Bool.or_false]
def B8 {v:Value}{z:DataW Unit×List MemPlace}(h:plainElem Tryz.prog 4 v=some z):∃x,v=.bool x/\z=(.lit (.bool x),[]):=by
 unfold plainElem at h
 rw [u4] at h
 split at h
 ·cases h;exact ⟨_,rfl,rfl⟩
 ·rename_i h1;cases h1
 ·rename_i h1;cases h1
 ·cases h
def key (s:az)(h:s.size<=maxLen):keyOf Tryz.prog 9 (.string s)=some (.string s.data.toList):=keyOf_string_mk u9 h
set_option maxRecDepth 1000000 in
def look {W:World}{b n:Nat}{D:DataW Unit}{s:az}{x:Bool}(h:W.ownsMap Tryz.prog 9 (plainElem Tryz.prog 4) b n D)(hs:s.size<=maxLen)(hat:D.atKey (.string s.data.toList) (.lit (.bool false))=.lit (.bool x)):(Instr.lookup 234 (.map (some b)) (.string s) false).run Tryz.prog W=.ok (.bool x) W:=by
 obtain ⟨v,ps,hrun,hv⟩:=h.lookup DV Fo (D5 W) (plainElem_bool u4 false) (key s hs)
 obtain ⟨y,rfl,hy⟩:=B8 hv
 rw [hat] at hy
 injection hy with hy
 injection hy with hy
 injection hy with hy
 rw [hrun,hy]
def md (a0:List aX):Bool:=Z265.tP (fun y=>Z135.md y.fName) (fun y=>Z140.md y.aS) a0 0 a0.length&&decide ((a0.length:Int)<=3)
set_option maxHeartbeats 4000000 in
set_option maxRecDepth 1000000 in
def zQ (A:Option Addr)(c:Nat)(w:World):Calls Tryz.prog 76 #[.slice A 0 c] w fun e w'=>e=.returned (.bool true)/\Fr w w' (fun _=>False):=by
 have hmm:=@run_makeMap Tryz.prog
 go_enter Tryz.func76,Tryz.ntmps76
 go_wp2
 refine wp_loop_rounds 1 ?_
 rw [rounds_succ]
 go_wp2
 go_ret
 exact ⟨rfl,(Fr.refl _ _).alloc _⟩
set_option maxHeartbeats 4000000 in
set_option maxRecDepth 1000000 in
def AL (b off n c:Nat)(xs:List aX)(w:World)(hn:xs.length=n)(h0:0<n)(hnc:n<=c)(hb:b<w.heap.size)(hsm:bf (2^21) (fun y:aX=>aX.Sm (2^21) y) xs)
  (hc:∀k,k<n->w.cell? ⟨b,off+k*2,none⟩=some (.string (xs.getD k aX.zero).fName)/\w.cell? ⟨b,off+k*2+1,none⟩=some (.int .i64 (xs.getD k aX.zero).aS)) :
  Calls Tryz.prog 76 #[.slice (some ⟨b,off,none⟩) n c] w fun e w'=>e=.returned (.bool (md xs))/\Fr w w' (fun _=>False):=by
 have hmm:=@run_makeMap Tryz.prog
 have hl:=hsm.1
 go_enter Tryz.func76,Tryz.ntmps76
 go_wp2
 go_loopw [9] (fun i wr=>∃k:Nat,k<=n/\i=.int .i64 k/\wr.ownsMap Tryz.prog 9 (plainElem Tryz.prog 4) w.heap.size k (Sn xs k)/\Fr w wr (fun _=>False)/\w.heap.size<wr.heap.size/\
   md xs=(Z265.tP (fun y=>Z135.md y.fName) (fun y=>Z140.md y.aS) xs k (n - k)&&decide ((n:Int)<=3)))
  (fun i _=>n - (intOf i).toNat)
 case atStart=>
  refine ⟨0,zero_le _,rfl,World.ownsMap_made _ _ _ _,(Fr.refl _ _).alloc _,by simp,?_⟩
  unfold md
  rw [hn,Nat.sub_zero]
 case round=>
  obtain ⟨k,hk,rfl,hown,hF,hsz,hmd⟩:=hrel
  by_cases hkn:k<n
  ·have hc1:wr.cell? ⟨b,off+k*2,none⟩=some (.string (xs.getD k aX.zero).fName):=vc hF (hc k hkn).1
   have hc2:wr.cell? ⟨b,off+k*2+1,none⟩=some (.int .i64 (xs.getD k aX.zero).aS):=vc hF (hc k hkn).2
   have hs:(xs.getD k aX.zero).fName.size<=2^21:=bf.getD (z:=aX.zero) hsm (by omega)
   have hall:Z265.tP (fun y=>Z135.md y.fName) (fun y=>Z140.md y.aS) xs k (n - k)=((Z135.md (xs.getD k aX.zero).fName&&(Z140.md (xs.getD k aX.zero).aS&&!((List.range k).any fun j=>(xs.getD j aX.zero).fName==(xs.getD k aX.zero).fName)))&&Z265.tP (fun y=>Z135.md y.fName) (fun y=>Z140.md y.aS) xs (k+1) (n - (k+1))):=by
    rw [show n - k=(n - (k+1))+1 by omega,Z265.uA]
    unfold Z265.wN
    rw [List.range_eq_range']
   have hat:=CX xs (xs.getD k aX.zero).fName k
   have hSn:Sn xs (k+1)=(Sn xs k).put (.string (xs.getD k aX.zero).fName.data.toList) (.lit (.bool true)):=rfl
   have hsm2:(xs.getD k aX.zero).fName.size<=maxLen:=by simp only [maxLen];omega
   have hlab:=label (xs.getD k aX.zero).fName (by omega)
   have hdig:=DA (xs.getD k aX.zero).aS
   have hkey:=key _ hsm2
   rw [hall] at hmd
   clear hall hc hsm
   generalize (List.range k).any (fun j=>(xs.getD j aX.zero).fName==(xs.getD k aX.zero).fName)=sn at *
   generalize Z135.md (xs.getD k aX.zero).fName=L at *
   generalize Z140.md (xs.getD k aX.zero).aS=G at *
   generalize (xs.getD k aX.zero).fName=s at *
   generalize (xs.getD k aX.zero).aS=z at *
   have hnew:=heap_alloc_new wr (.cells #[.string s,.int .i64 z] 232)
   have hB:∀W,Fr (wr.alloc (.cells #[.string s,.int .i64 z] 232)) W (fun _=>False)->W.cell? ⟨wr.heap.size,0,none⟩=some (.string s)/\W.cell? ⟨wr.heap.size,1,none⟩=some (.int .i64 z):=fun W hW=>
    ⟨vc hW (by rw [cell_of_row _ _ _ _ 232 (0,0) hnew];rfl),vc hW (by rw [cell_of_row _ _ _ _ 232 (0,0) hnew];rfl)⟩
   have hF1:Fr w (wr.alloc (.cells #[.string s,.int .i64 z] 232)) (fun _=>False):=hF.alloc _
   cases L with
   | false=>
    go_wp2_with (first
     | (go_at_call 193;refine (hlab _).mono ?_;rintro e w2 ⟨rfl,hF2⟩)
     | go_in)
    go_ret
    exact ⟨by rw [hmd];rfl,hF1.trans hF2 (fun _ h=>h.elim)⟩
   | true=>
    cases sn with
    | true=>
     go_wp2_with (first
      | (go_at_call 193;refine (hlab _).mono ?_;rintro e w2 ⟨rfl,hF2⟩;have hb2:=hB w2 hF2;have hc0:=hb2.1;have hlk:=look ((hown.alloc _).kept (qc hF2) (by simp)) hsm2 hat)
      | go_in)
     go_ret
     exact ⟨by rw [hmd];simp,hF1.trans hF2 (fun _ h=>h.elim)⟩
    | false=>
     cases G with
     | false=>
      go_wp2_with (first
       | (go_at_call 193;refine (hlab _).mono ?_;rintro e w2 ⟨rfl,hF2⟩;have hb2:=hB w2 hF2;have hc0:=hb2.1;have hc9:=hb2.2;have hlk:=look ((hown.alloc _).kept (qc hF2) (by simp)) hsm2 hat)
       | (go_at_call 194;refine (hdig _).mono ?_;rintro e w3 ⟨rfl,hF3⟩)
       | go_in)
      go_ret
      exact ⟨by rw [hmd];simp,(hF1.trans hF2 (fun _ h=>h.elim)).trans hF3 (fun _ h=>h.elim)⟩
     | true=>
      go_wp2_with (first
       | (go_at_call 193;refine (hlab _).mono ?_;rintro e w2 ⟨rfl,hF2⟩;have hb2:=hB w2 hF2;have hc0:=hb2.1;have hc9:=hb2.2;have hlk:=look ((hown.alloc _).kept (qc hF2) (by simp)) hsm2 hat)
       | (go_at_call 194;refine (hdig _).mono ?_;rintro e w3 ⟨rfl,hF3⟩;have hb3:=hB w3 (hF2.trans hF3 (fun _ h=>h.elim));have hc5:=hb3.1)
       | (at_mapUpdate;refine wpList_mapUpdate_own _ rfl _ _ _ 234 rfl 9 4 DV Fo (plainElem (H:=Unit) Tryz.prog 4) w.heap.size k _ rfl (((hown.alloc _).kept (qc hF2) (by simp)).kept (qc hF3) (by simp)) (by unfold maxLen;omega) _ _ _ rfl rfl hkey _ [] (plainElem_bool u4 true) ?_;intro w4 hown4 hgrow4)
       | go_in)
      have hF13:=(hF1.trans hF2 (fun _ h=>h.elim)).trans hF3 (fun _ h=>h.elim)
      go_roundw
      case rel=>
       refine ⟨k+1,by omega,by go_num,by rw [hSn];exact hown4,⟨hgrow4.os.trans hF13.os,hgrow4.tape.trans hF13.tape,hgrow4.output.trans hF13.output,le_trans hF13.size hgrow4.size,fun b hb hn=>(hgrow4.block b (Nat.lt_of_lt_of_le hb hF13.size) (fun e=>by injection e with e;omega)).trans (hF13.block b hb hn)⟩,?_,by rw [hmd];simp⟩
       have:=hF2.size
       have:=hF3.size
       have:=hgrow4.size
       simp at *
       omega
      case measure=>simp [intOf];omega
  ·have hkk:k=n:=by omega
   subst hkk
   go_wp2
   go_ret
   refine ⟨?_,hF⟩
   rw [hmd,Nat.sub_self]
   rfl
def gd (a0:List aX):Prop:=bf (2^21) (fun y:aX=>aX.Sm (2^21) y) a0
def R:an->Option Bool:=RR gd md
def aj {a0:List aX}(h:gd a0):R (a0.map aX.row)=some (md a0):=cO h
def aK:gu:=CN [pL 232] oB RT.dec R
def rdStr {T:Nat->List K}{w:World}{Z:Nat->Prop}{v:Value}{l:L}(h:Rd T w Z .str v l):v=.string l.toStr:=by cases h;rfl
def D8 {T:Nat->List K}{w:World}{Z:Nat->Prop}{k:IntKind}{v:Value}{l:L}(h:Rd T w Z (.int k) v l):v=.int k l.toInt:=by cases h;rfl
def Dm:Ev.cells 232=[.str,aE]:=by kernel_rfl
def af:bZ 76 aK:=by
 refine ⟨⟨Tryz.f76,Tryz.func76,by kernel_rfl,by kernel_rfl⟩,rfl,fun ls r w vs Z hs hf=>?_⟩
 obtain ⟨v,hv,hq⟩:=map_some (show (R (RT.dec ls)).map RT.enc=some r from hs)
 obtain ⟨a,hg,e,hm⟩:=lz (show ofM Im.im gd (fun a=>Im.im (md a)) (RT.dec ls)=some v from hv)
 subst hq
 have hg':bf (2^21) (fun y:aX=>aX.Sm (2^21) y) a:=hg
 have e':a.map aX.row=(eM ls):=e
 cases hf with
 | @cons _ x _ _ hx ht=>
 cases ht
 have hx':Rd Ev.cells w (fu w (A0 Z w) none) (.sl 232) x (.sl (eM ls)):=(show V0 Ev.cells w (A0 Z w) (.sl none 232 (eM ls)) x from hx).2
 rw [<-e'] at hx'
 obtain ⟨A,n,c,rfl,h1,h2,h3⟩:=hx'.inv
 have hn:a.length=n:=by rw [<-h1];exact (List.length_map ..).symm
 have key:Calls Tryz.prog 76 #[.slice A n c] w fun e w'=>e=.returned (.bool (md a))/\Fr w w' (fun _=>False):=by
  by_cases h0:0<n
  ·obtain ⟨b,o,vv,rfl,hz,h4,h5⟩:=h3 h0
   rw [Dm] at h4 h5
   refine AL b o n c a w hn h0 h2 hz.2.1 hg' fun k hk=>?_
   have hrow:(L.sl (a.map aX.row)).dw.getD k []=aX.row (a.getD k aX.zero):=by
    show (a.map aX.row).getD k []=_
    rw [List.getD_eq_getElem?_getD,List.getElem?_map,List.getElem?_eq_getElem (show k<a.length by omega),List.getD_eq_getElem?_getD,List.getElem?_eq_getElem (show k<a.length by omega)];rfl
   have r0:=h5 k 0 .str hk rfl
   have r1:=h5 k 1 (.int .i64) hk rfl
   rw [hrow] at r0 r1
   have c0:=h4 k 0 .str hk rfl
   have c1:=h4 k 1 (.int .i64) hk rfl
   have e0:vv k 0=.string (a.getD k aX.zero).fName:=rdStr r0
   have e1:vv k 1=.int .i64 (a.getD k aX.zero).aS:=D8 r1
   rw [e0] at c0
   rw [e1] at c1
   exact ⟨c0,c1⟩
  ·have hn0:n=0:=by omega
   subst hn0
   have ha:a=[]:=List.length_eq_zero_iff.1 hn
   subst ha
   refine (zQ A c w).mono fun e w' ⟨q1,q2⟩=>⟨by rw [q1];rfl,q2⟩
 refine key.mono fun e2 w' ⟨q1,q2⟩=>?_
 refine ⟨_,{ v:=fun _=>Go.undef,N:=fun _ _=>False,al:=fun _=>False,Z:=(A0 Z w).Z },q1,q2,rfl,fun i=>⟨fun h=>h.elim,fun h=>by simp [aK,CN,RP.R,vK] at h⟩,⟨fun _ _ h=>h.elim,fun _ _ _ h=>h.elim,fun _ _=>rfl,fun _ _ h=>h,q2,fun _ _ h=>h.elim,fun b hb=>hb.elim (fun h=>h.elim) fun h=>.inr h,fun j hj=>absurd hj (Nat.not_lt_zero j)⟩,?_⟩
 rw [<-hm]
 exact V0.v2 (v:=.bool (md a)) rfl
def br (a0:List aX):md a0=Z265.md a0:=by
 unfold md Z265.md
 have e1:(fun y:aX=>Z135.md y.fName)=fun y=>Z12.md y.fName:=by funext y;exact Z135.br _
 have e2:(fun y:aX=>Z140.md y.aS)=fun y=>Z11.md y.aS 0 2147483646:=by
  funext y
  unfold Z140.md
  exact Z134.br _ _ _
 rw [e1,e2]
end Z266
namespace Z267
inductive Pt where
 | p0 (a:an) (b:Int) (c d:an)
 | p1 (a:an) (b c:Int) (d e:an)
 | p2 (a:an) (b c d:Int) (e f:an)
 | p3 (a:an) (b c:Int) (d e:an)
def pid:Pt->Nat
 | .p0 ..=>9
 | .p1 ..=>16
 | .p2 ..=>19
 | .p3 ..=>25
def cF:Pt->List V
 | .p0 a b c d=>[.sl none 5 a,.own 0,.own 1,.int .i64 b]
 | .p1 a b c d e=>[.sl none 5 a,.own 0,.own 1,.int .i64 b,.int .i64 c]
 | .p2 a b c d e f=>[.sl none 5 a,.own 0,.own 1,.int .i64 b,.int .i64 c,.int .i64 d]
 | .p3 a b c d e=>[.sl none 5 a,.own 0,.own 1,.int .i64 b,.int .i64 c]
def dN:Pt->List aL
 | .p0 a b c d=>[.row 108 c,.row 108 d]
 | .p1 a b c d e=>[.row 108 d,.row 46 e]
 | .p2 a b c d e f=>[.row 108 e,.row 46 f]
 | .p3 a b c d e=>[.row 108 d,.row 46 e]
def step (J:Pt->aC):Pt->aC
 | .p0 a b c d=>(cond (b<(c.length:Int)) (m2 b (c.length:Int) (m2 b (d.length:Int) (call (Z258.R ((cw.at c (toNat b)),(cw.at d (toNat b)))) fun v1=>(cond (!v1) fq (J (.p0 a (i64.wrap (b+1)) c d)))))) (call (Z261.R c) fun v2=>J (.p1 a 0 0 c v2)))
 | .p1 a b c d e=>(cond (c<(e.length:Int)) (J (.p2 a b c 0 d e)) (J (.p3 a b 0 d e)))
 | .p2 a b c d e f=>(m2 c (f.length:Int) (cond (d<((jo f (toNat c)).length:Int)) (m2 c (f.length:Int) (m2 d ((jo f (toNat c)).length:Int) (ck ((0:Int)<=(gR (jo f (toNat c)) (toNat d))) (ck ((gR (jo f (toNat c)) (toNat d))<(e.length:Int)) (call (Z259.R (cw.at e (toNat (gR (jo f (toNat c)) (toNat d))))) fun v1=>(cond v1 fq (m2 c (f.length:Int) (m2 d ((jo f (toNat c)).length:Int) (ck ((0:Int)<=(gR (jo f (toNat c)) (toNat d))) (ck ((gR (jo f (toNat c)) (toNat d))<(e.length:Int)) (m2 c (f.length:Int) (ck ((0:Int)<((jo f (toNat c)).length:Int)) (ck ((0:Int)<=(gR (jo f (toNat c)) 0)) (ck ((gR (jo f (toNat c)) 0)<(e.length:Int)) (call (Z260.R ((cw.at e (toNat (gR (jo f (toNat c)) (toNat d)))),(cw.at e (toNat (gR (jo f (toNat c)) 0))))) fun v2=>(cond (!v2) fq (cond (c>0) (m2 c (f.length:Int) (m2 d ((jo f (toNat c)).length:Int) (ck ((0:Int)<=(gR (jo f (toNat c)) (toNat d))) (ck ((gR (jo f (toNat c)) (toNat d))<(e.length:Int)) (ck ((0:Int)<(f.length:Int)) (ck ((0:Int)<((jo f 0).length:Int)) (ck ((0:Int)<=(gR (jo f 0) 0)) (ck ((gR (jo f 0) 0)<(e.length:Int)) (call (Z260.R ((cw.at e (toNat (gR (jo f (toNat c)) (toNat d)))),(cw.at e (toNat (gR (jo f 0) 0))))) fun v3=>(cond v3 fq (J (.p2 a (i64.wrap (b+1)) c (i64.wrap (d+1)) e f)))))))))))) (J (.p2 a (i64.wrap (b+1)) c (i64.wrap (d+1)) e f))))))))))))))))))) (J (.p1 a b (i64.wrap (c+1)) e f))))
 | .p3 a b c d e=>(cond (c<(d.length:Int)) (m2 c (d.length:Int) (call (Z259.R (cw.at d (toNat c))) fun v1=>(cond v1 (J (.p3 a (i64.wrap (b+1)) (i64.wrap (c+1)) d e)) (J (.p3 a b (i64.wrap (c+1)) d e))))) (call (Z262.R a) fun v2=>(call (Z263.R d) fun v3=>(cond (b==(d.length:Int)) (call (Z264.R d) fun v4=>(cond (v4==((e.length:Int)==1)) (cond ((v3.length:Int)==0) (call (Z266.R v2) fun v5=>(call (Z265.R v2) fun v6=>ret ((v5==v6):Bool))) (cond ((e.length:Int)>1) (call (Z266.R v2) fun v7=>(call (Z265.R v2) fun v8=>ret ((v7==v8):Bool))) fq)) fq)) fq))))
def start (J:Pt->aC)(x0:an):aC:=(call (Z0.R x0) fun v1=>(cond v1 nN (call (Z97.R x0) fun v2=>(call (Z251.R (v2.1,v2.2.1,v2.2.2.1,v2.2.2.2.1,v2.2.2.2.2)) fun v3=>(call (Z125.R (v2.1,v2.2.1,v2.2.2.1,v2.2.2.2.1,v2.2.2.2.2)) fun v4=>(cond ((v3.1.length:Int) != (v4.1.length:Int)) fq (call (Z257.R (v3.2,v4.2)) fun v5=>(cond (!v5) fq (J (.p0 x0 0 v3.1 v4.1))))))))))
def live:Nat->Live:=gx [(9,iR [0,8,10,12]),(16,iR [0,8,13,14,15]),(19,iR [0,8,13,14,15,16]),(25,iR [0,8,13,14,17])]
def pats:List fE:=[.rd (.sl 5)]
def res:RP:=.one (.rd (.bool))
abbrev E:Env:={ T:=assoc mq,G:=cW [(20,Z0.aK),(68,Z97.aK),(69,Z251.aK),(70,Z125.aK),(24,Z257.aK),(61,Z258.aK),(71,Z261.aK),(67,Z259.aK),(72,Z260.aK),(73,Z262.aK),(74,Z263.aK),(75,Z264.aK),(76,Z266.aK),(77,Z265.aK)],nt:=199,M:=eW [],np:=0,mt:=false,I:=gp [] }
def step_eq (I:dB)(p:Pt):dU E live I (pid p) (bJ Tryz.f9) (iN (live (pid p)) (cF p) (dN p)) (dz E Tryz.f9 res)=step (fun q=>I (pid q) (cF q) (dN q)) p:=by
 cases p<;>kernel_rfl
def start_eq (I:dB)(ls:List L):gJ E live I (bJ Tryz.f9) (dy pats ls) (dz E Tryz.f9 res)=start (fun q=>I (pid q) (cF q) (dN q)) (eM ls):=by kernel_rfl
def run_eq (n:Nat)(ls:List L):eV E live Tryz.f9 res n (dy pats ls)=start (iter step n) (eM ls):=dK (id:=pid) (vs:=cF) (hs:=dN) (step:=step) (start:=fun J=>start J (eM ls)) step_eq (fun I=>start_eq I ls) n
def En {k:ak}{s:List ay}{r:List aX}{p:List az}{now:Int}(h1:ak.Sm (2^21) k)(h2:bf (2^21) (fun y:ay=>ay.Sm (2^21) y) s)(h4:bf (2^21) (fun y:az=>y.size<=(2^21)) p):bf 3 (fun z:av=>av.Sm (2^21) z) (Z125.md k s r p now).1/\ak.Sm (2^21) (Z125.md k s r p now).2:=by
 have key:∀(xs:List aX) (i:Nat) (q:List av×List (List aa)×List aM),i<=3->(∀t∈q.1,av.Sm (2^21) t)->q.1.length<=i->ak.Sm (2^21) ⟨q.2.1,q.2.2⟩->bf 3 (fun z:av=>av.Sm (2^21) z) (dD (Z125.zu s p now) (fun s=>(s.1,(⟨s.2.1,s.2.2⟩:ak))) i xs q).1/\ak.Sm (2^21) (dD (Z125.zu s p now) (fun s=>(s.1,(⟨s.2.1,s.2.2⟩:ak))) i xs q).2:=by
  intro xs
  induction xs with
  | nil=>intro i q hi ha hl hk;exact ⟨⟨le_trans hl hi,ha⟩,hk⟩
  | cons y xs ih=>
   intro i q hi ha hl hk
   unfold dD Z125.zu
   by_cases hc:i<3
   ·rw [decide_eq_true (show (i:Int)<3 by omega)]
    have hr:=Z124.fc (a2:=y.aS) (a4:=now) (show Z124.gd ⟨q.2.1,q.2.2⟩ s y.aS p now from ⟨hk,h2,h4⟩)
    refine ih (i+1) _ (by omega) (fun t ht=>?_) (by simp;omega) hr.1
    rcases List.mem_append.1 ht with h | h
    ·exact ha t h
    ·rw [List.mem_singleton.1 h];exact hr
   ·rw [decide_eq_false (show ¬(i:Int)<3 by omega)]
    exact ⟨⟨le_trans hl hi,ha⟩,hk⟩
 exact key r 0 ([],k.aH,k.bg) (by decide) (fun _ h=>(nomatch h)) (Nat.le_refl _) h1
def Q (xs:List av)(k:Nat)(g:List Int):Prop:=1<=g.length/\∀v∈g,0<=v/\v<(k:Int)/\Z259.md (xs.getD v.toNat av.zero)=false/\Z260.md (xs.getD v.toNat av.zero) (Z261.hd xs g)=true
def C1 {xs:List av}{k:Nat}(hs:Z259.md (xs.getD k av.zero)=false):∀G:List (List Int),(∀g∈G,Q xs k g)->∀g∈Z261.put xs k (xs.getD k av.zero) G,Q xs (k+1) g
 | [],_,g,hg=>by
  rw [List.mem_singleton.1 hg]
  refine ⟨Nat.le_refl _,fun v hv=>?_⟩
  rw [List.mem_singleton.1 hv]
  exact ⟨by omega,by omega,hs,Z261.kW.2 ⟨rfl,rfl⟩⟩
 | c::G,h,g,hg=>by
  have up:∀{g:List Int},Q xs k g->Q xs (k+1) g:=fun h=>⟨h.1,fun v hv=>by obtain ⟨a,b,c,d⟩:=h.2 v hv;exact ⟨a,by omega,c,d⟩⟩
  unfold Z261.put at hg
  cases e:Z260.md (Z261.hd xs c) (xs.getD k av.zero)<;>rw [e] at hg
  ·rcases List.mem_cons.1 hg with h1 | h1
   ·rw [h1];exact up (h c (by simp))
   ·exact C1 hs G (fun g hg=>h g (by simp [hg])) g h1
  ·rcases List.mem_cons.1 hg with h1 | h1
   ·rw [h1]
    have hc:=h c (by simp)
    refine ⟨by simp,fun v hv=>?_⟩
    have hh:Z261.hd xs (c++[(k:Int)])=Z261.hd xs c:=by unfold Z261.hd;rw [Z261.sZ hc.1]
    rw [hh]
    rcases List.mem_append.1 hv with h2 | h2
    ·obtain ⟨a,b,c,d⟩:=hc.2 v h2;exact ⟨a,by omega,c,d⟩
    ·rw [List.mem_singleton.1 h2]
     have e2:=Z261.kW.1 e
     exact ⟨by omega,by omega,hs,Z261.kW.2 ⟨e2.1.symm,e2.2.symm⟩⟩
   ·exact up (h g (by simp [h1]))
def yW {xs:List av}{k:Nat}{t:av}:∀G:List (List Int),((Z261.put xs k t G).map List.length).sum=(G.map List.length).sum+1
 | []=>rfl
 | c::G=>by
  unfold Z261.put
  cases Z260.md (Z261.hd xs c) t
  ·simp only [aU,List.map_cons,List.sum_cons,yW G];omega
  ·simp only [aO,List.map_cons,List.sum_cons,List.length_append,List.length_singleton];omega
def BU (xs:List av):Nat->Nat
 | 0=>0
 | k+1=>BU xs k+(cond (Z259.md (xs.getD k av.zero)) 1 0)
def Bm (xs:List av):∀k:Nat,(∀g∈Z261.vR xs k,Q xs k g)/\((Z261.vR xs k).map List.length).sum+BU xs k=k
 | 0=>⟨fun g h=>(nomatch h),rfl⟩
 | k+1=>by
  obtain ⟨h1,h2⟩:=Bm xs k
  unfold Z261.vR BU
  cases e:Z259.md (xs.getD k av.zero)
  ·simp only [aU]
   exact ⟨C1 e _ h1,by rw [yW];omega⟩
  ·simp only [aO]
   exact ⟨fun g hg=>⟨(h1 g hg).1,fun v hv=>by obtain ⟨a,b,c,d⟩:=(h1 g hg).2 v hv;exact ⟨a,by omega,c,d⟩⟩,by omega⟩
def wC (G:List (List Int))(n:Nat)(h:n<G.length):((G.take (n+1)).map List.length).sum=((G.take n).map List.length).sum+(G.getD n []).length:=by
 rw [List.take_succ,List.getElem?_eq_getElem h,List.map_append,List.sum_append,List.getD_eq_getElem?_getD,List.getElem?_eq_getElem h];simp
def BL (G:List (List Int))(n:Nat)(h:n<G.length):((G.drop n).map (fun g=>g.length+2)).sum=(G.getD n []).length+2+((G.drop (n+1)).map (fun g=>g.length+2)).sum:=by
 rw [List.drop_eq_getElem_cons h,List.map_cons,List.sum_cons,List.getD_eq_getElem?_getD,List.getElem?_eq_getElem h];rfl
def gd (x0:an):Prop:=∃a:List Int,x0=a.map aQ
def post (x0:an)(y:Bool):Prop:=y=true
def wp (x0:an)(hg:gd x0):∃n,Wp (start (iter step n) x0) (post x0):=by
 obtain ⟨a,rfl⟩:=hg
 by_cases hbig:((a.map aQ).length:Int)>1048576
 ·refine ⟨0,?_⟩
  unfold start
  refine bW (Z0.aj (a0:=a) trivial) (wp_cond (fun _=>wp_ret rfl) (fun c=>?_))
  have :Z0.md a=true:=decide_eq_true (by rw [List.length_map] at hbig;exact hbig)
  rw [this] at c;cases c
 have ha:(a.map aQ).length<=1048576:=by omega
 obtain ⟨v2,hv2,k,s,r,p,e2,k1,k2,k3,k4,_⟩:=Z97.mS (x0:=a.map aQ) ha
 obtain ⟨w,hw,q,eq_,hq⟩:=Z262.mS (x0:=a.map aQ) ha
 generalize v2.2.2.2.2=now at e2
 subst e2
 subst eq_
 have k4':bf (2^21) (fun y:az=>y.size<=2^21) p:=k4.mono (by decide) fun _ h=>le_trans h (by decide)
 have k2':bf (2^21) (fun y:ay=>ay.Sm (2^21) y) s:=k2.mono (by decide) fun _ h=>ay.dL (by decide) h
 have k3':bf (2^21) (fun y:aX=>aX.Sm (2^21) y) r:=k3.mono (by decide) fun _ h=>aX.dL (by decide) h
 have hsm:=En (r:=r) (now:=now) k1 k2' k4'
 obtain ⟨T,hT⟩:∃T,T=Z125.md k s r p now:=⟨_,rfl⟩
 rw [<-hT] at hsm
 obtain ⟨t,ht⟩:∃t,t=T.1:=⟨_,rfl⟩
 rw [<-ht] at hsm
 obtain ⟨hts,hks⟩:=hsm
 have hts':bf (2^21) (fun z:av=>av.Sm (2^21) z) t:=hts.mono (by decide) fun _ h=>h
 obtain ⟨G,hG⟩:∃G,G=Z261.md t:=⟨_,rfl⟩
 have hI:Z261.Inv t t.length G:=by rw [hG];exact Z261.rN t t.length (Nat.le_refl _)
 have hQ:(∀g∈G,Q t t.length g)/\(G.map List.length).sum+BU t t.length=t.length:=by rw [hG];exact Bm t t.length
 have htl:=hts.1
 have hGl:=hI.1
 have loop:∃n,Wp (iter step n (.p0 (a.map aQ) 0 (t.map av.row) (t.map av.row))) (fun y:Bool=>y=true):=by
  refine ⟨40+((G.drop 0).map (fun g=>g.length+2)).sum,lM (fun z=>match z with
   | .p0 a' b c d=>a'=a.map aQ/\(∃n:Nat,b=(n:Int)/\n<=t.length)/\c=t.map av.row/\d=t.map av.row
   | .p1 a' b c d e=>a'=a.map aQ/\(∃n:Nat,c=(n:Int)/\n<=G.length/\b=(((G.take n).map List.length).sum:Nat))/\d=t.map av.row/\e=G.map (eF aQ)
   | .p2 a' b c d e f=>a'=a.map aQ/\(∃n m:Nat,c=(n:Int)/\n<G.length/\d=(m:Int)/\m<=(G.getD n []).length/\b=((((G.take n).map List.length).sum+m:Nat):Int))/\e=t.map av.row/\f=G.map (eF aQ)
   | .p3 a' b c d e=>a'=a.map aQ/\(∃n:Nat,c=(n:Int)/\n<=t.length/\b=(((G.map List.length).sum+BU t n:Nat):Int))/\d=t.map av.row/\e=G.map (eF aQ))
   (fun z=>match z with
   | .p0 a' b c d=>20+((G.drop 0).map (fun g=>g.length+2)).sum+(4 - b).toNat
   | .p1 a' b c d e=>10+((G.drop c.toNat).map (fun g=>g.length+2)).sum
   | .p2 a' b c d e f=>10+((G.drop (c.toNat+1)).map (fun g=>g.length+2)).sum+((G.getD c.toNat []).length - d.toNat)+1
   | .p3 a' b c d e=>(4 - c).toNat)
   (fun J z hI2 hJ=>?_) _ _ ⟨rfl,⟨0,rfl,zero_le _⟩,rfl,rfl⟩ (by show 20+((G.drop 0).map (fun g=>g.length+2)).sum+(4 - (0:Int)).toNat<_;omega)⟩
  cases z with
  | p0 a' b c d=>
   obtain ⟨rfl,⟨n,rfl,hn⟩,rfl,rfl⟩:=hI2
   by_cases hc:n<t.length
   ·have q1:(n:Int)<(t.length:Int):=by omega
    have q2:(0:Int)<=(n:Int):=by omega
    have hm:av.Sm (2^21) (t.getD n av.zero):=bf.getD hts hc
    simp only [step,MM,S0,av.rs,q1,q2,decide_true,aO]
    refine bW (Z258.aj (a0:=t.getD n av.zero) (a1:=t.getD n av.zero) ⟨hm,hm⟩) ?_
    rw [Z258.md_eq,dM.2 rfl,wi _ (by omega)]
    refine wp_cond (fun h=>by cases h) (fun _=>hJ _ ⟨rfl,⟨n+1,by omega,by omega⟩,rfl,rfl⟩ ?_)
    show 20+((G.drop 0).map (fun g=>g.length+2)).sum+(4 - ((n:Int)+1)).toNat<20+((G.drop 0).map (fun g=>g.length+2)).sum+(4 - (n:Int)).toNat
    omega
   ·have q1:¬(n:Int)<(t.length:Int):=by omega
    simp only [step,S0,q1,decide_false,aU]
    refine bW (Z261.aj (a0:=t) hts') ?_
    rw [<-hG]
    refine hJ _ ⟨rfl,⟨0,rfl,zero_le _,rfl⟩,rfl,rfl⟩ ?_
    show 10+((G.drop 0).map (fun g=>g.length+2)).sum<20+((G.drop 0).map (fun g=>g.length+2)).sum+(4 - (n:Int)).toNat
    omega
  | p1 a' b c d e=>
   obtain ⟨rfl,⟨n,rfl,hn,rfl⟩,rfl,rfl⟩:=hI2
   by_cases hc:n<G.length
   ·have q1:(n:Int)<(G.length:Int):=by omega
    simp only [step,S0,q1,decide_true,aO]
    refine hJ _ ⟨rfl,⟨n,0,rfl,hc,rfl,zero_le _,rfl⟩,rfl,rfl⟩ ?_
    show 10+((G.drop (n+1)).map (fun g=>g.length+2)).sum+((G.getD n []).length - 0)+1<10+((G.drop n).map (fun g=>g.length+2)).sum
    rw [BL G n hc]
    omega
   ·have q1:¬(n:Int)<(G.length:Int):=by omega
    simp only [step,S0,q1,decide_false,aU]
    refine hJ _ ⟨rfl,⟨0,rfl,zero_le _,by rw [List.take_of_length_le (by omega)];rfl⟩,rfl,rfl⟩ ?_
    show (4 - (0:Int)).toNat<10+((G.drop n).map (fun g=>g.length+2)).sum
    omega
  | p2 a' b c d e f=>
   obtain ⟨rfl,⟨n,m,rfl,hn,rfl,hm,rfl⟩,rfl,rfl⟩:=hI2
   have hmem:G.getD n []∈G:=by rw [eD hn];exact List.getElem_mem _
   have hmem0:G.getD 0 []∈G:=by rw [eD (show 0<G.length by omega)];exact List.getElem_mem _
   obtain ⟨g1,g2,g3,g4⟩:=hI.2.1 _ hmem
   obtain ⟨f1,f2,f3,f4⟩:=hI.2.1 _ hmem0
   have hq2:=(hQ.1 _ hmem).2
   have hsum:((G.take n).map List.length).sum+(G.getD n []).length<=t.length:=by
    have h1:=hQ.2
    have h2:((G.take (n+1)).map List.length).sum<=(G.map List.length).sum:=by
     conv=>rhs;rw [<-List.take_append_drop (n+1) G,List.map_append,List.sum_append]
     omega
    rw [wC G n hn] at h2
    omega
   have q1:(n:Int)<(G.length:Int):=by omega
   have q2:(0:Int)<=(n:Int):=by omega
   by_cases hc:m<(G.getD n []).length
   ·have r1:(m:Int)<((G.getD n []).length:Int):=by omega
    have r2:(0:Int)<=(m:Int):=by omega
    obtain ⟨v1,v2,v3,v4⟩:=hq2 ((G.getD n []).getD m 0) (by rw [eD hc];exact List.getElem_mem _)
    have w1:(0:Int)<((G.getD n []).length:Int):=by omega
    have z1:(0:Int)<(G.length:Int):=by omega
    have z2:(0:Int)<((G.getD 0 []).length:Int):=by omega
    have sv:av.Sm (2^21) (t.getD (toNat ((G.getD n []).getD m 0)) av.zero):=bf.getD hts (by omega)
    have sh:av.Sm (2^21) (t.getD (toNat ((G.getD n []).getD 0 0)) av.zero):=bf.getD hts (by omega)
    have s0:av.Sm (2^21) (t.getD (toNat ((G.getD 0 []).getD 0 0)) av.zero):=bf.getD hts (by omega)
    have hd0:0<n->Z260.md (t.getD (toNat ((G.getD n []).getD m 0)) av.zero) (t.getD (toNat ((G.getD 0 []).getD 0 0)) av.zero)=false:=by
     intro h0
     have hdf:=hI.2.2 0 n h0 hn
     cases e:Z260.md (t.getD (toNat ((G.getD n []).getD m 0)) av.zero) (t.getD (toNat ((G.getD 0 []).getD 0 0)) av.zero)
     ·rfl
     ·have a1:=Z261.kW.1 e
      have a2:=Z261.kW.1 v4
      have a3:Z260.md (Z261.hd t (G.getD 0 [])) (Z261.hd t (G.getD n []))=true:=Z261.kW.2 ⟨a1.1.symm.trans a2.1,a1.2.symm.trans a2.2⟩
      rw [a3] at hdf;cases hdf
    have go:Wp (J (.p2 (a.map aQ) (((((G.take n).map List.length).sum+m:Nat):Int)+1) (n:Int) ((m:Int)+1) (t.map av.row) (G.map (eF aQ)))) (fun y:Bool=>y=true):=by
     refine hJ _ ⟨rfl,⟨n,m+1,rfl,hn,by omega,by omega,by omega⟩,rfl,rfl⟩ ?_
     show 10+((G.drop (n+1)).map (fun g=>g.length+2)).sum+((G.getD n []).length - ((m:Int)+1).toNat)+1<10+((G.drop (n+1)).map (fun g=>g.length+2)).sum+((G.getD n []).length - m)+1
     omega
    simp only [step,MM,S0,av.rs,q1,q2,r1,r2,v1,v2,w1,g3,g4,z1,z2,f3,f4,decide_true,aO]
    refine bW (Z259.aj (a0:=t.getD (toNat ((G.getD n []).getD m 0)) av.zero) trivial) ?_
    rw [v3]
    refine wp_cond (fun h=>by cases h) (fun _=>bW (Z260.aj (a0:=t.getD (toNat ((G.getD n []).getD m 0)) av.zero) (a1:=t.getD (toNat ((G.getD n []).getD 0 0)) av.zero) ⟨sv,sh⟩) ?_)
    unfold Z261.hd at v4
    rw [v4,wi ((((G.take n).map List.length).sum+m:Nat)+1:Int) (by omega),wi ((m:Int)+1) (by omega)]
    refine wp_cond (fun h=>by cases h) (fun _=>wp_cond (fun h0=>?_) (fun _=>go))
    have h0:=of_decide_eq_true h0
    refine bW (Z260.aj (a0:=t.getD (toNat ((G.getD n []).getD m 0)) av.zero) (a1:=t.getD (toNat ((G.getD 0 []).getD 0 0)) av.zero) ⟨sv,s0⟩) ?_
    rw [hd0 (by omega)]
    exact wp_cond (fun h=>by cases h) (fun _=>go)
   ·have r1:¬(m:Int)<((G.getD n []).length:Int):=by omega
    simp only [step,MM,S0,q1,q2,r1,decide_true,decide_false,aO,aU]
    rw [wi _ (by omega)]
    refine hJ _ ⟨rfl,⟨n+1,rfl,by omega,by rw [wC G n hn];omega⟩,rfl,rfl⟩ ?_
    show 10+((G.drop ((n:Int)+1).toNat).map (fun g=>g.length+2)).sum<10+((G.drop (n+1)).map (fun g=>g.length+2)).sum+((G.getD n []).length - m)+1
    rw [show ((n:Int)+1).toNat=n+1 by omega]
    omega
  | p3 a' b c d e=>
   obtain ⟨rfl,⟨n,rfl,hn,rfl⟩,rfl,rfl⟩:=hI2
   have hb:=hQ.2
   by_cases hc:n<t.length
   ·have q1:(n:Int)<(t.length:Int):=by omega
    have q2:(0:Int)<=(n:Int):=by omega
    have hsl:BU t (n+1)=BU t n+(cond (Z259.md (t.getD n av.zero)) 1 0):=rfl
    have hle:BU t n<=n:=by have:=(Bm t n).2;omega
    have hkm:(4 - ((n:Int)+1)).toNat<(4 - (n:Int)).toNat:=by omega
    simp only [step,MM,S0,av.rs,q1,q2,decide_true,aO]
    refine bW (Z259.aj (a0:=t.getD n av.zero) trivial) ?_
    rw [wi ((n:Int)+1) (by omega),wi ((((G.map List.length).sum+BU t n:Nat):Int)+1) (by omega)]
    refine wp_cond (fun h=>hJ _ ⟨rfl,⟨n+1,by omega,by omega,?_⟩,rfl,rfl⟩ hkm) (fun h=>hJ _ ⟨rfl,⟨n+1,by omega,by omega,?_⟩,rfl,rfl⟩ hkm)
    ·rw [hsl,h];simp only [aO];omega
    ·rw [hsl,h];simp only [aU];omega
   ·have q1:¬(n:Int)<(t.length:Int):=by omega
    have hnn:n=t.length:=by omega
    simp only [step,S0,q1,decide_false,aU]
    refine bW hw (bW (Z263.aj (a0:=t) hts') ?_)
    rw [hnn,show ((((G.map List.length).sum+BU t t.length:Nat):Int)==(t.length:Int))=true from beq_iff_eq.2 (by omega)]
    have hda:Z264.md t=((G.length:Int)==1):=by unfold Z264.md;rw [<-hG]
    refine wp_cond (fun _=>bW (Z264.aj (a0:=t) hts') ?_) (fun h=>by cases h)
    rw [hda,show ((((G.length:Int)==1)==((G.length:Int)==1)))=true from beq_self_eq_true _]
    have fin:Wp (call (Z266.R (q.map aX.row)) fun v5=>(call (Z265.R (q.map aX.row)) fun v6=>ret ((v5==v6):Bool))) (fun y:Bool=>y=true):=by
     have hq':bf (2^21) (fun y:aX=>aX.Sm (2^21) y) q:=hq.mono (by decide) fun _ h=>aX.dL (by decide) h
     refine bW (Z266.aj (a0:=q) hq') (bW (Z265.aj (a0:=q) hq') (wp_ret ?_))
     rw [Z266.br];exact beq_self_eq_true _
    refine wp_cond (fun _=>wp_cond (fun _=>fin) (fun h=>wp_cond (fun _=>fin) (fun h2=>?_))) (fun h=>by cases h)
    have h2:=of_decide_eq_false h2
    have hdl:Z263.md t=[]:=by
     unfold Z263.md
     rw [<-hG,decide_eq_false (by omega)];rfl
    rw [hdl] at h
    cases h
 obtain ⟨n,hn⟩:=loop
 refine ⟨n,?_⟩
 unfold start
 refine bW (Z0.aj (a0:=a) trivial) ?_
 rw [show Z0.md a=false from decide_eq_false (by rw [List.length_map] at hbig;exact hbig)]
 refine wp_cond (fun c=>by cases c) (fun _=>bW hv2 ?_)
 refine bW (Z251.aj (a0:=k) (a1:=s) (a2:=r) (a3:=p) (a4:=now) ⟨k1,k2',k3',k4'⟩) (bW (Z125.aj (a0:=k) (a1:=s) (a2:=r) (a3:=p) (a4:=now) ⟨k1,k2',k3',k4'⟩) ?_)
 rw [Z251.br,<-hT]
 refine wp_cond (fun h=>?_) (fun _=>bW (Z257.aj (a0:=T.2) (a1:=T.2) ⟨hks,hks⟩) ?_)
 ·rw [bne_self_eq_false] at h;cases h
 rw [Z257.md_eq,dM.2 rfl]
 refine wp_cond (fun h=>by cases h) (fun _=>?_)
 rw [<-ht]
 exact hn
def R:(an)->Option (Bool):=RQ (fun n x=>start (iter step n) x) (fun x=>post x)
def mS {x0:an}(hg:gd x0):∃y,R x0=some y/\post x0 y:=pJ (wp x0 hg)
def acc (ls:List L):an:=(eM ls)
def aK:gu:=CN pats res acc R
def af:bZ 9 aK:=VQ (live:=live) (mt:=false) mix aA (.cons Z0.af (.cons Z97.af (.cons Z251.af (.cons Z125.af (.cons Z257.af (.cons Z258.af (.cons Z261.af (.cons Z259.af (.cons Z260.af (.cons Z262.af (.cons Z263.af (.cons Z264.af (.cons Z266.af (.cons Z265.af .nil)))))))))))))) .nil .nil Tryz.func9 (by kernel_rfl) run_eq
def holds (ls:List L)(h:kI Ev.cells ([31].flatMap Ev.cells) ls):aK.sem ls=some [.bool true]:=by
 have hk:[31].flatMap Ev.cells=[.sl 5]:=by kernel_rfl
 rw [hk] at h
 obtain ⟨l0,t0,rfl,g0,h1⟩:=h.BB
 obtain ⟨x0,rfl,s0⟩:=Cl (show Ev.cells 5=[.int .u8] from by kernel_rfl) Cz g0
 obtain rfl:=h1.CR
 show (R (x0.map aQ)).map RT.enc=_
 obtain ⟨y,hy,py⟩:=mS (x0:=(x0.map aQ)) ⟨x0,rfl⟩
 have py:y=true:=py
 rw [hy,py]
 rfl
end Z267
end Go.DM
end
