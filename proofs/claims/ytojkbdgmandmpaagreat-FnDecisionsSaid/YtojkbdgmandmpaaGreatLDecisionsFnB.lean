/- What the functions compute that the law reaches, and that the law returns true. Conditions: none. -/
import Derived.Test.YtojkbdgmandmpaaGreatLDecisionsTy
import Derived.Test.YtojkbdgmandmpaaGreatLDecisionsFnA
set_option linter.all false
set_option maxRecDepth 100000
noncomputable section
namespace Go.DM
open Go.Proofs
open Go.IntKind (i64)
open Int (toNat)
open Nat (le_trans zero_le)
namespace Z92
inductive Pt where
 | p0 (a b:an) (c d e f g h i j k l m n o:Int) (p:Bool) (q s t u v w y z w24 w25 w26 w27:Int) (w28:Bool) (w29 w30 w31 w32 w33 w34 w35 w36 w37 w38 w39 w40:Int) (w41:Bool)
def cZ:Pt->List V
 | .p0 a b c d e f g h i j k l m n o p q s t u v w y z w24 w25 w26 w27 w28 w29 w30 w31 w32 w33 w34 w35 w36 w37 w38 w39 w40 w41=>[.sl none 78 a,.sl none 78 b,.bK 0 0,.int .i64 c]
def eD:Pt->List aK
 | .p0 a b c d e f g h i j k l m n o p q s t u v w y z w24 w25 w26 w27 w28 w29 w30 w31 w32 w33 w34 w35 w36 w37 w38 w39 w40 w41=>[.box [.int .i64 d,.int .i64 e,.int .i64 f,.int .i64 g,.int .i64 h,.int .i64 i,.int .i64 j,.int .i64 k,.nil,.int .i64 l,.nil,.int .i64 m,.int .i64 n,.nil,.int .i64 o,.bool p,.nil,.int .i64 q,.int .i64 s,.int .i64 t,.int .i64 u,.int .i64 v,.int .i64 w,.int .i64 y,.int .i64 z,.nil,.int .i64 w24,.nil,.int .i64 w25,.int .i64 w26,.nil,.int .i64 w27,.bool w28,.nil,.int .i64 w29,.int .i64 w30,.int .i64 w31,.int .i64 w32,.int .i64 w33,.int .i64 w34,.int .i64 w35,.int .i64 w36,.nil,.int .i64 w37,.nil,.int .i64 w38,.int .i64 w39,.nil,.int .i64 w40,.bool w41,.nil]]
def step (J:Pt->aD):Pt->aD
 | .p0 a b c d e f g h i j k l m n o p q s t u v w y z w24 w25 w26 w27 w28 w29 w30 w31 w32 w33 w34 w35 w36 w37 w38 w39 w40 w41=>(cond (c<(a.length:Int)) (cond (c<(b.length:Int)) (m2 c (a.length:Int) (m2 c (b.length:Int) (call (Z89.R ((aY.at a (toNat c)).aG,(aY.at b (toNat c)).aG)) fun v1=>(cond v1 (J (.p0 a b (i64.wrap (c+1)) d e f g h i j k l m n o p q s t u v w y z w24 w25 w26 w27 w28 w29 w30 w31 w32 w33 w34 w35 w36 w37 w38 w39 w40 w41)) (m2 c (a.length:Int) (call (Z71.R (aY.at a (toNat c))) fun v2=>(m2 c (b.length:Int) (call (Z71.R (aY.at b (toNat c))) fun v3=>(cond (c>0) (cX ((0:Int)<=(i64.wrap (c - 1))) (cX ((i64.wrap (c - 1))<(a.length:Int)) (call (Z71.R (aY.at a (toNat (i64.wrap (c - 1))))) fun v4=>ret (((⟨v4,v2,v3⟩:dI),true):dI×Bool)))) (ret (((⟨(⟨(⟨0,0,0,0,0,0,0,0,(⟨[],0⟩:bl),(⟨[],0⟩:bl),0,(⟨[],0⟩:bl),false⟩:bz),[]⟩:aY),v2,v3⟩:dI),true):dI×Bool))))))))))) (m2 c (a.length:Int) (call (Z71.R (aY.at a (toNat c))) fun v5=>(m2 c (b.length:Int) (call (Z71.R (aY.at b (toNat c))) fun v6=>(cond (c>0) (cX ((0:Int)<=(i64.wrap (c - 1))) (cX ((i64.wrap (c - 1))<(a.length:Int)) (call (Z71.R (aY.at a (toNat (i64.wrap (c - 1))))) fun v7=>ret (((⟨v7,v5,v6⟩:dI),true):dI×Bool)))) (ret (((⟨(⟨(⟨0,0,0,0,0,0,0,0,(⟨[],0⟩:bl),(⟨[],0⟩:bl),0,(⟨[],0⟩:bl),false⟩:bz),[]⟩:aY),v5,v6⟩:dI),true):dI×Bool)))))))) (m2 c (a.length:Int) (call (Z71.R (aY.at a (toNat c))) fun v8=>(m2 c (b.length:Int) (call (Z71.R (aY.at b (toNat c))) fun v9=>(cond (c>0) (cX ((0:Int)<=(i64.wrap (c - 1))) (cX ((i64.wrap (c - 1))<(a.length:Int)) (call (Z71.R (aY.at a (toNat (i64.wrap (c - 1))))) fun v10=>ret (((⟨v10,v8,v9⟩:dI),true):dI×Bool)))) (ret (((⟨(⟨(⟨0,0,0,0,0,0,0,0,(⟨[],0⟩:bl),(⟨[],0⟩:bl),0,(⟨[],0⟩:bl),false⟩:bz),[]⟩:aY),v8,v9⟩:dI),true):dI×Bool))))))))
def start (J:Pt->aD)(x0 x1:an):aD:=(call (Z60.R x0) fun v1=>(cond (!v1) (ret (((⟨(⟨(⟨0,0,0,0,0,0,0,0,(⟨[],0⟩:bl),(⟨[],0⟩:bl),0,(⟨[],0⟩:bl),false⟩:bz),[]⟩:aY),(⟨(⟨0,0,0,0,0,0,0,0,(⟨[],0⟩:bl),(⟨[],0⟩:bl),0,(⟨[],0⟩:bl),false⟩:bz),[]⟩:aY),(⟨(⟨0,0,0,0,0,0,0,0,(⟨[],0⟩:bl),(⟨[],0⟩:bl),0,(⟨[],0⟩:bl),false⟩:bz),[]⟩:aY)⟩:dI),false):dI×Bool)) (call (Z60.R x1) fun v2=>(cond (!v2) (ret (((⟨(⟨(⟨0,0,0,0,0,0,0,0,(⟨[],0⟩:bl),(⟨[],0⟩:bl),0,(⟨[],0⟩:bl),false⟩:bz),[]⟩:aY),(⟨(⟨0,0,0,0,0,0,0,0,(⟨[],0⟩:bl),(⟨[],0⟩:bl),0,(⟨[],0⟩:bl),false⟩:bz),[]⟩:aY),(⟨(⟨0,0,0,0,0,0,0,0,(⟨[],0⟩:bl),(⟨[],0⟩:bl),0,(⟨[],0⟩:bl),false⟩:bz),[]⟩:aY)⟩:dI),false):dI×Bool)) (cX ((0:Int)<(x0.length:Int)) (cX ((0:Int)<(x1.length:Int)) (cond ((aY.at x0 0).aG.bM != (aY.at x1 0).aG.bM) (ret (((⟨(⟨(⟨0,0,0,0,0,0,0,0,(⟨[],0⟩:bl),(⟨[],0⟩:bl),0,(⟨[],0⟩:bl),false⟩:bz),[]⟩:aY),(⟨(⟨0,0,0,0,0,0,0,0,(⟨[],0⟩:bl),(⟨[],0⟩:bl),0,(⟨[],0⟩:bl),false⟩:bz),[]⟩:aY),(⟨(⟨0,0,0,0,0,0,0,0,(⟨[],0⟩:bl),(⟨[],0⟩:bl),0,(⟨[],0⟩:bl),false⟩:bz),[]⟩:aY)⟩:dI),false):dI×Bool)) (call (Z90.R (x0,x1)) fun v3=>(cond v3 (ret (((⟨(⟨(⟨0,0,0,0,0,0,0,0,(⟨[],0⟩:bl),(⟨[],0⟩:bl),0,(⟨[],0⟩:bl),false⟩:bz),[]⟩:aY),(⟨(⟨0,0,0,0,0,0,0,0,(⟨[],0⟩:bl),(⟨[],0⟩:bl),0,(⟨[],0⟩:bl),false⟩:bz),[]⟩:aY),(⟨(⟨0,0,0,0,0,0,0,0,(⟨[],0⟩:bl),(⟨[],0⟩:bl),0,(⟨[],0⟩:bl),false⟩:bz),[]⟩:aY)⟩:dI),false):dI×Bool)) (call (Z90.R (x1,x0)) fun v4=>(cond v4 (ret (((⟨(⟨(⟨0,0,0,0,0,0,0,0,(⟨[],0⟩:bl),(⟨[],0⟩:bl),0,(⟨[],0⟩:bl),false⟩:bz),[]⟩:aY),(⟨(⟨0,0,0,0,0,0,0,0,(⟨[],0⟩:bl),(⟨[],0⟩:bl),0,(⟨[],0⟩:bl),false⟩:bz),[]⟩:aY),(⟨(⟨0,0,0,0,0,0,0,0,(⟨[],0⟩:bl),(⟨[],0⟩:bl),0,(⟨[],0⟩:bl),false⟩:bz),[]⟩:aY)⟩:dI),false):dI×Bool)) (J (.p0 x0 x1 0 0 0 0 0 0 0 0 0 0 0 0 0 false 0 0 0 0 0 0 0 0 0 0 0 0 false 0 0 0 0 0 0 0 0 0 0 0 0 false)))))))))))))
def live:Nat->Live:=iD [(4,mN [0,1,4,6])]
def pt (a b:an)(c:Int):Pt:=Pt.p0 a b c 0 0 0 0 0 0 0 0 0 0 0 0 false 0 0 0 0 0 0 0 0 0 0 0 0 false 0 0 0 0 0 0 0 0 0 0 0 0 false
def fk:List af->List af->Nat
 | x::xs,y::ys=>bif Z89.md x.aG y.aG then fk xs ys+1 else 0
 | _,_=>0
def uM:∀a b:List af,(∀i,i<fk a b->Z89.md (a.getD i af.zero).aG (b.getD i af.zero).aG=true)/\
    ((fk a b<a.length/\fk a b<b.length/\Z89.md (a.getD (fk a b) af.zero).aG (b.getD (fk a b) af.zero).aG=false)∨
     (a.length<=b.length/\∀i,i<a.length->Z89.md (a.getD i af.zero).aG (b.getD i af.zero).aG=true)∨
     (b.length<=a.length/\∀i,i<b.length->Z89.md (a.getD i af.zero).aG (b.getD i af.zero).aG=true))
  | [],b=>⟨fun i hi=>by simp [fk] at hi,.inr (.inl ⟨zero_le _,fun i hi=>by simp at hi⟩)⟩
  | x::xs,[]=>⟨fun i hi=>by simp [fk] at hi,.inr (.inr ⟨zero_le _,fun i hi=>by simp at hi⟩)⟩
  | x::xs,y::ys=>by
    obtain ⟨h1,h2⟩:=uM xs ys
    cases h:Z89.md x.aG y.aG
    · have e:fk (x::xs) (y::ys)=0:=by simp [fk,h]
      rw [e]
      exact ⟨fun i hi=>by omega,.inl ⟨by simp,by simp,h⟩⟩
    · have e:fk (x::xs) (y::ys)=fk xs ys+1:=by simp [fk,h]
      rw [e]
      have up:∀{m:Nat},(∀i,i<m->Z89.md (xs.getD i af.zero).aG (ys.getD i af.zero).aG=true)->∀i,i<m+1->Z89.md ((x::xs).getD i af.zero).aG ((y::ys).getD i af.zero).aG=true:=by
        intro m hm i hi
        cases i with
        | zero=>exact h
        | succ i=>exact hm i (by omega)
      refine ⟨up h1,?_⟩
      rcases h2 with ⟨a,b,c⟩ | ⟨a,b⟩ | ⟨a,b⟩
      · exact .inl ⟨by simpa using a,by simpa using b,c⟩
      · exact .inr (.inl ⟨by simpa using a,up b⟩)
      · exact .inr (.inr ⟨by simpa using a,up b⟩)
def AW {a b:List af}(hl:a.length<=b.length)(h:∀i,i<a.length->Z89.md (a.getD i af.zero).aG (b.getD i af.zero).aG=true):Z90.md a b=true:=by
 unfold Z90.md
 rw [decide_eq_false (by omega),aT]
 refine (lC (fun i=>Z89.md (a.getD i af.zero).aG (b.getD i af.zero).aG=true) (fun i _ hi=>?_) (fun i _ hi=>?_)).2 ⟨h,rfl⟩
 ·simp only [hi,Bool.not_true,aT]
 ·rw [Bool.not_eq_true] at hi
  simp only [hi,Bool.not_false,aL]
def eq_comm {a b:ay}(h:Z89.md a b=true):Z89.md b a=true:=by
 rw [Z89.md_eq,fm] at h ⊢
 exact h.symm
def wD {a b:List af}(h1:Z90.md a b=false)(h2:Z90.md b a=false):fk a b<a.length/\fk a b<b.length/\Z89.md (a.getD (fk a b) af.zero).aG (b.getD (fk a b) af.zero).aG=false:=by
 rcases (uM a b).2 with h | ⟨h3,h4⟩ | ⟨h3,h4⟩
 ·exact h
 ·rw [AW h3 h4] at h1;cases h1
 ·rw [AW h3 fun i hi=>eq_comm (h4 i hi)] at h2;cases h2
def Dp (a b:List af):Nat->bt
 | 0=>⟨af.zero,a.getD 0 af.zero,b.getD 0 af.zero⟩
 | k+1=>⟨a.getD k af.zero,a.getD (k+1) af.zero,b.getD (k+1) af.zero⟩
def B2 {a b:List af}(h0:bn (2^21) (fun y:af=>af.Sm (2^21) y) a)(h1:bn (2^21) (fun y:af=>af.Sm (2^21) y) b){k:Nat}(hk:k<a.length)(hk2:k<b.length):bt.Sm (2^21) (Dp a b k):=by
 cases k with
 | zero=>exact ⟨⟨⟨bn.nil,bn.nil,bn.nil⟩,bn.nil⟩,bn.getD h0 hk,bn.getD h1 hk2⟩
 | succ k=>exact ⟨bn.getD h0 (by omega),bn.getD h0 hk,bn.getD h1 hk2⟩
def md (a0 a1:List af):bt×Bool:=(cond (!(Z60.md a0)) (bt.zero,false) (cond (!(Z60.md a1)) (bt.zero,false) (cond (((a0.getD 0 af.zero).aG).bM != ((a1.getD 0 af.zero).aG).bM) (bt.zero,false) (cond (Z90.md a0 a1) (bt.zero,false) (cond (Z90.md a1 a0) (bt.zero,false) (Dp a0 a1 (fk a0 a1),true))))))
def gd (a0 a1:List af):Prop:=bn (2^21) (fun y:af=>af.Sm (2^21) y) a0/\bn (2^21) (fun y:af=>af.Sm (2^21) y) a1
def R:=eA gd md
def aq {a0 a1}(h:gd a0 a1):R ((a0.map af.row),(a1.map af.row))=some ((bt.r (md a0 a1).1),(md a0 a1).2):=eB h
def aV:=CN [pL 78,pL 78] (.gK [(true,f185),(false,[fB])]) RT.dec R
def bH (a0)(a1)(hg:gd a0 a1):∃n,start (iter step n) (a0.map af.row) (a1.map af.row)=ret ((bt.r (md a0 a1).1),(md a0 a1).2):=by
 unfold gd at hg
 obtain ⟨H0,H1⟩:=hg
 have hl0:=H0.1
 have hl1:=H1.1
 have key:fk a0 a1<a0.length->fk a0 a1<a1.length->Z89.md (a0.getD (fk a0 a1) af.zero).aG (a1.getD (fk a0 a1) af.zero).aG=false->∀d k,k+d=fk a0 a1->∃n,iter step n (pt (a0.map af.row) (a1.map af.row) (k:Int))=ret ((bt.r (Dp a0 a1 (fk a0 a1)),true):dI×Bool):=by
  intro hn0 hn1 hne d
  have hR:∀k,k<a0.length->k<a1.length->Z89.R (ay.r (a0.getD k af.zero).aG,ay.r (a1.getD k af.zero).aG)=some (Z89.md (a0.getD k af.zero).aG (a1.getD k af.zero).aG):=by
   intro k h0 h1
   rw [Z89.aq ⟨(bn.getD (z:=af.zero) H0 h0).1,(bn.getD (z:=af.zero) H1 h1).1⟩]
  induction d with
  | zero=>
   intro k hk
   obtain rfl:k=fk a0 a1:=by omega
   generalize hkk:fk a0 a1=k at hn0 hn1 hne ⊢
   refine ⟨1,?_⟩
   show step (iter step 0) _=_
   have q1:(0:Int)<=(k:Int):=by omega
   have q2:(k:Int)<(a0.length:Int):=by omega
   have q3:(k:Int)<(a1.length:Int):=by omega
   simp only [pt,step,MM,S0,af.rs,ay.rs,q1,q2,q3,decide_true,aL]
   rw [call_eq (hR k hn0 hn1),hne,aT,call_eq (Z71.aq (a0:=a0.getD k af.zero) (bn.getD (z:=af.zero) H0 hn0)),call_eq (Z71.aq (a0:=a1.getD k af.zero) (bn.getD (z:=af.zero) H1 hn1))]
   cases k with
   | zero=>rfl
   | succ k=>
    have q4:((k+1:Nat):Int)>0:=by omega
    have q5:i64.wrap (((k+1:Nat):Int) - 1)=(k:Int):=by rw [wi _ (by omega)];omega
    have q6:(0:Int)<=(k:Int):=by omega
    have q7:(k:Int)<(a0.length:Int):=by omega
    simp only [q4,q5,q6,q7,decide_true,aL,S0,af.rs]
    rw [call_eq (Z71.aq (a0:=a0.getD k af.zero) (bn.getD (z:=af.zero) H0 (by omega)))]
    rfl
  | succ d ih=>
   intro k hk
   obtain ⟨n,hn⟩:=ih (k+1) (by omega)
   refine ⟨n+1,?_⟩
   show step (iter step n) _=_
   have q1:(0:Int)<=(k:Int):=by omega
   have q2:(k:Int)<(a0.length:Int):=by omega
   have q3:(k:Int)<(a1.length:Int):=by omega
   simp only [pt,step,MM,S0,af.rs,ay.rs,q1,q2,q3,decide_true,aL]
   rw [call_eq (hR k (by omega) (by omega)),(uM a0 a1).1 k (by omega),aL,wi _ (by omega)]
   exact hn
 unfold start md
 simp only [S0,af.rs,ay.rs]
 refine gv (Z60.md a0) (Z60.aq H0) ?_
 cases hc0:Z60.md a0
 ·exact ⟨0,rfl⟩
 simp only [Bool.not_true,aT]
 refine gv (Z60.md a1) (Z60.aq H1) ?_
 cases hc1:Z60.md a1
 ·exact ⟨0,rfl⟩
 have t0:=Z60.tr hc0
 have t1:=Z60.tr hc1
 simp only [Bool.not_true,aT]
 refine fJ (decide_eq_true (by omega)) (fJ (decide_eq_true (by omega)) ?_)
 cases ((a0.getD 0 af.zero).aG.bM != (a1.getD 0 af.zero).aG.bM)
 case true=>exact ⟨0,rfl⟩
 simp only [aT]
 refine gv (Z90.md a0 a1) (Z90.aq ⟨H0,H1⟩) ?_
 cases hp0:Z90.md a0 a1
 case true=>exact ⟨0,rfl⟩
 simp only [aT]
 refine gv (Z90.md a1 a0) (Z90.aq ⟨H1,H0⟩) ?_
 cases hp1:Z90.md a1 a0
 case true=>exact ⟨0,rfl⟩
 simp only [aT]
 obtain ⟨h1,h2,h3⟩:=wD hp0 hp1
 exact key h1 h2 h3 (fk a0 a1) 0 (by omega)
def ah:cY 156 aV:=L2 86 (fun _=>4) cZ eD live step start mix aJ bH (tG Z60.ah Z90.ah Z89.ah Z71.ah) Tryz.func156
def fY {a0 a1:List af}(hg:gd a0 a1):bt.Sm (2^21) ((md a0 a1).1):=by
 unfold gd at hg;unfold md
 have z:bt.Sm (2^21) bt.zero:=⟨⟨⟨bn.nil,bn.nil,bn.nil⟩,bn.nil⟩,⟨⟨bn.nil,bn.nil,bn.nil⟩,bn.nil⟩,⟨⟨bn.nil,bn.nil,bn.nil⟩,bn.nil⟩⟩
 cases Z60.md a0
 ·exact z
 cases Z60.md a1
 ·exact z
 cases ((a0.getD 0 af.zero).aG.bM != (a1.getD 0 af.zero).aG.bM)
 case true=>exact z
 cases h1:Z90.md a0 a1
 case true=>exact z
 cases h2:Z90.md a1 a0
 case true=>exact z
 obtain ⟨h3,h4,_⟩:=Z92.wD h1 h2
 exact Z92.B2 hg.1 hg.2 h3 h4
end Z92
namespace Z93
def F (x0:bP)(x1:an):aD:=(call (Z87.R x0) fun v1=>(call (Z91.R (x0,x1)) fun v2=>(cond (v2==1) (cond ((x0.aZ.length:Int)>=8) (ret ((v1,6):bP×Int)) (call (Z72.R x1) fun v3=>(cX (fu (((v1.aZ.length:Int)+1)*24)) (ret (((⟨(v1.aZ++[[L.sl v3]]),v1.bN⟩:bP),v2):bP×Int))))) (cond (v2==3) (cX ((0:Int)<(x1.length:Int)) (call (Z88.R (x0,(aY.at x1 0).aG.bM)) fun v4=>(call (Z72.R x1) fun v5=>(m2 v4 (v1.aZ.length:Int) (ret (((⟨(List.set v1.aZ (toNat v4) [L.sl v5]),v1.bN⟩:bP),v2):bP×Int)))))) (cond (v2==5) (cX ((0:Int)<(x1.length:Int)) (call (Z88.R (x0,(aY.at x1 0).aG.bM)) fun v6=>(m2 v6 (x0.aZ.length:Int) (call (Z92.R ((jT x0.aZ (toNat v6)),x1)) fun v7=>(cond v7.2 (cond ((x0.bN.length:Int)<8) (cX (fu (((v1.bN.length:Int)+1)*600)) (ret (((⟨v1.aZ,(v1.bN++[(dI.enc v7.1)])⟩:bP),v2):bP×Int))) (ret ((v1,v2):bP×Int))) (ret ((v1,v2):bP×Int))))))) (ret ((v1,v2):bP×Int)))))))
def md (a0:az)(a1:List af):az×Int:=(cond ((Z91.md a0 a1)==1) (cond ((a0.aZ.length:Int)>=8) (a0,6) ((⟨(a0.aZ++[a1]),a0.bN⟩:az),(Z91.md a0 a1))) (cond ((Z91.md a0 a1)==3) ((⟨(List.set a0.aZ (toNat (Z88.md a0 (((a1.getD 0 af.zero).aG).bM))) a1),a0.bN⟩:az),(Z91.md a0 a1)) (cond ((Z91.md a0 a1)==5) (cond ((Z92.md (a0.aZ.getD (toNat (Z88.md a0 (((a1.getD 0 af.zero).aG).bM))) []) a1).2) (cond ((a0.bN.length:Int)<8) ((⟨a0.aZ,(a0.bN++[(Z92.md (a0.aZ.getD (toNat (Z88.md a0 (((a1.getD 0 af.zero).aG).bM))) []) a1).1])⟩:az),(Z91.md a0 a1)) (a0,(Z91.md a0 a1))) (a0,(Z91.md a0 a1))) (a0,(Z91.md a0 a1)))))
def gd (a0:az)(a1:List af):Prop:=(az.Sm (2^21) a0)/\(bn (2^21) (fun y:af=>af.Sm (2^21) y) a1)
def R:=eA gd md
def aq {a0 a1}(h:gd a0 a1):R ((az.r a0),(a1.map af.row))=some ((az.r (md a0 a1).1),(md a0 a1).2):=eB h
def aV:=CN [.agg BU,pL 78] (.gK [(true,f65),(false,[fI])]) RT.dec R
def bH (a0)(a1)(hg:gd a0 a1):F (az.r a0) (a1.map af.row)=ret ((az.r (md a0 a1).1),(md a0 a1).2):=by
 obtain ⟨H0,H1⟩:=hg
 unfold F md
 try simp only [SS]
 refine ct (Z87.aq H0) ?_
 try simp only [SS]
 refine ct (Z91.aq ⟨H0,H1⟩) ?_
 have fv2_:=Z91.fa a0 a1
 refine au (fun b:az×Int=>ret (((az.r b.1),b.2):bP×Int)) (fun c1=>?_) (fun c1=>?_)
 ·have dc1:=c1
  try simp only [DC] at dc1
  refine au (fun b:az×Int=>ret (((az.r b.1),b.2):bP×Int)) (fun c2=>?_) (fun c2=>?_)
  ·all_goals exact fz
  ·have dc2:=c2
   try simp only [DC] at dc2
   refine ct (Z72.aq H1) ?_
   try simp only [SS]
   refine aW (have:=(H0.1).1;lm) ?_
   all_goals exact fz
 ·have dc1:=c1
  try simp only [DC] at dc1
  refine au (fun b:az×Int=>ret (((az.r b.1),b.2):bP×Int)) (fun c3=>?_) (fun c3=>?_)
  ·have dc3:=c3
   try simp only [DC] at dc3
   refine aW (have:=(H1).1;dt) ?_
   refine ct (Z88.aq H0) ?_
   have fv4_:=Z88.fa a0 (((a1.getD 0 af.zero).aG).bM)
   refine ct (Z72.aq H1) ?_
   try simp only [SS]
   refine aW dt ?_
   refine aW (have:=(H0.1).1;dt) ?_
   all_goals exact fz
  ·have dc3:=c3
   try simp only [DC] at dc3
   refine au (fun b:az×Int=>ret (((az.r b.1),b.2):bP×Int)) (fun c4=>?_) (fun c4=>?_)
   ·have dc4:=c4
    try simp only [DC] at dc4
    refine aW (have:=(H1).1;dt) ?_
    refine ct (Z88.aq H0) ?_
    have fv6_:=Z88.fa a0 (((a1.getD 0 af.zero).aG).bM)
    refine aW dt ?_
    refine aW (have:=(H0.1).1;dt) ?_
    refine ct (Z92.aq ⟨(bn.getD (z:=[]) H0.1 (by first | assumption | omega | (simp (disch:=omega) only [wi];omega) | (simp;omega))),H1⟩) ?_
    try simp only [SS]
    refine au (fun b:az×Int=>ret (((az.r b.1),b.2):bP×Int)) (fun c5=>?_) (fun c5=>?_)
    ·refine au (fun b:az×Int=>ret (((az.r b.1),b.2):bP×Int)) (fun c6=>?_) (fun c6=>?_)
     ·have dc6:=c6
      try simp only [DC] at dc6
      refine aW (have:=(H0.2).1;lm) ?_
      all_goals exact fz
     ·all_goals exact fz
    ·all_goals exact fz
   ·all_goals exact fz
def ah:cY 103 aV:=W2 77 F mix aJ bH (xY Z87.ah Z91.ah Z72.ah Z88.ah Z92.ah) Tryz.func103
def fY {a0:az}{a1:List af}(hg:gd a0 a1):az.Sm (2^21) ((md a0 a1).1):=by
 unfold gd at hg;unfold md
 obtain ⟨⟨h1,h2⟩,h3⟩:=hg
 simp only [Bool.cond_eq_ite]
 repeat' split
 all_goals (try simp only [decide_eq_true_eq,ge_iff_le] at *)
 all_goals first
  | exact ⟨h1,h2⟩
  | exact ⟨bn.app (a:=7) (b:=1) ⟨by omega,h1.2⟩ (bn.one h3) (by decide),h2⟩
  | exact ⟨bn.set h1 h3,h2⟩
  | exact ⟨h1,bn.app (a:=7) (b:=1) ⟨by omega,h2.2⟩ (bn.one (Z92.fY ⟨bn.BJ h1 bn.nil,h3⟩)) (by decide)⟩
end Z93
namespace Z94
inductive Pt where
 | p0 (a:an) (b c d e:Int) (f g h:an)
def pid:Pt->Nat
 | .p0 ..=>3
def cZ:Pt->List V
 | .p0 a b c d e f g h=>[.bK 0 0,.sl none 139 a,.own 2,.own 3,.int .i64 b,.int .i64 c]
def eD:Pt->List aK
 | .p0 a b c d e f g h=>[.box [.own 1,.int .i64 d,.int .i64 e],.vw 5 f,.row 144 g,.row 9 h]
def step (J:Pt->aD):Pt->aD
 | .p0 a b c d e f g h=>(cond (c<b) (m2 c (h.length:Int) (call (Z67.R (f,d,e,4)) fun v1=>(cond (!v1.2.2.2) (m2 c (a.length:Int) (call (Z64.R (bS.at a (toNat c))) fun v2=>(cX (fu (((g.length:Int)+1)*24)) (J (.p0 a b (i64.wrap (c+1)) v1.2.1 v1.2.2.1 f (g++[(cw.enc (⟨(tw h (toNat c)),v2⟩:cw))]) h))))) (J (.p0 a b (i64.wrap (c+1)) v1.2.1 v1.2.2.1 f g h))))) (ret ((Hl.mk,d,e,g):Hl×Int×Int×an)))
def start (J:Pt->aD)(x0:an)(x1 x2:Int)(x3:an):aD:=J (.p0 x3 3 0 x1 x2 x0 [] [[L.str (⟨#[109,97,105,110]⟩:av)],[L.str (⟨#[111,108,100]⟩:av)],[L.str (⟨#[102,114,101,101]⟩:av)]])
def live:Nat->Live:=iD [(3,[(0,none),(1,none),(5,some 144),(9,none),(10,none),(11,none)])]
abbrev cG:List K:=[.sl 5,aQ,aQ]
def pats:List (Option fH):=[none,some (.rd (.sl 139))]
def res:RP:=.one (.fr 144)
abbrev E:Env:={ T:=assoc mD,G:=cN [(148,Z64.aV)],nt:=31,M:=eL [],np:=(nC cG),mt:=false,I:=fV [(76,Z67.ic (nC cG))] }
def step_eq (I:dK)(p:Pt):dP E live I (pid p) (bQ Tryz.f104) (jr (live (pid p)) (cZ p) (eD p)) (dG E Tryz.f104 (.cur cG res.parts))=step (fun q=>I (pid q) (cZ q) (eD q)) p:=by
 cases p<;>kernel_rfl
def start_eq (I:dK)(ls:List L):gU E live I (bQ Tryz.f104) (gr cG pats ls) (dG E Tryz.f104 (.cur cG res.parts))=start (fun q=>I (pid q) (cZ q) (eD q)) (fc ls) (cA 1 ls) (cA 2 ls) (gS 3 ls):=by kernel_rfl
def run_eq (n:Nat)(ls:List L):eS E live Tryz.f104 (.cur cG res.parts) n (gr cG pats ls)=start (iter step n) (fc ls) (cA 1 ls) (cA 2 ls) (gS 3 ls):=dM (id:=pid) (vs:=cZ) (hs:=eD) (step:=step) (start:=fun J=>start J (fc ls) (cA 1 ls) (cA 2 ls) (gS 3 ls)) step_eq (fun I=>start_eq I ls) n
def gd (x0:an)(x1 x2:Int)(x3:an):Prop:=CI x0 x1/\∃zs:List aN,x3=zs.map aN.row/\zs.length=3/\∀z∈zs,Z45.ok z
def post (x0:an)(x1 x2:Int)(x3:an)(y:Hl×Int×Int×an):Prop:=CI x0 y.2.1/\∃m:List cw,y.2.2.2=m.map cw.row/\bn 3 (fun z:cw=>cw.Sm 64 z) m
def wp (x0:an)(x1 x2:Int)(x3:an)(hg:gd x0 x1 x2 x3):∃n,Wp (start (iter step n) x0 x1 x2 x3) (post x0 x1 x2 x3):=by
 obtain ⟨hc,zs,rfl,h3,hz⟩:=hg
 let N:an:=[[L.str (⟨#[109,97,105,110]⟩:av)],[L.str (⟨#[111,108,100]⟩:av)],[L.str (⟨#[102,114,101,101]⟩:av)]]
 refine ⟨5,jD (fun p=>match p with | .p0 a b c d e f g h=>a=zs.map aN.row/\b=3/\0<=c/\c<=3/\CI f d/\f=x0/\h=N/\∃ms:List cw,g=ms.map cw.row/\(ms.length:Int)<=c/\∀s∈ms,cw.Sm 64 s) (fun p=>match p with | .p0 a b c d e f g h=>(3 - c).toNat) (fun J p hI hJ=>?_) _ _ ⟨rfl,rfl,Int.le_refl _,by decide,hc,rfl,rfl,[],rfl,Int.le_refl _,fun _ h=>(nomatch h)⟩ (by show (3 - (0:Int)).toNat<5;decide)⟩
 obtain ⟨a,b,c,d,e,f,g,h⟩:=p
 obtain ⟨rfl,rfl,h1,h2,h4,rfl,rfl,ms,rfl,h6,h7⟩:=hI
 refine wp_cond (fun c1=>?_) (fun c1=>?_)
 ·have c1:=of_decide_eq_true c1
  have e1:i64.wrap (c+1)=c+1:=wi _ (by omega)
  have k0:0<=i64.wrap (c+1):=by omega
  have k3:i64.wrap (c+1)<=3:=by omega
  have km:(3 - i64.wrap (c+1)).toNat<(3 - c).toNat:=by omega
  have hi:c.toNat<zs.length:=by omega
  refine mS h1 (by show c<3;exact c1) (Z67.cF h4 (fun v1 d1=>wp_cond (fun _=>?_) (fun _=>hJ _ ⟨rfl,rfl,k0,k3,d1,rfl,rfl,ms,rfl,by rw [e1];omega,h7⟩ km)))
  refine mS h1 (by rw [List.length_map];omega) ?_
  rw [aN.kP hi]
  refine bD (Z64.aq (a0:=zs[c.toNat]) (aN.bC (by decide) (Z45.AP (hz _ (List.getElem_mem hi))))) (eX (gq (by rw [List.length_map];omega)) ?_)
  have hs:(tw N c.toNat).size<=64:=mP rfl (by show c.toNat<3;omega)
  refine hJ _ ⟨rfl,rfl,k0,k3,d1,rfl,rfl,ms++[⟨tw N c.toNat,Z64.md zs[c.toNat]⟩],by rw [List.map_append];rfl,by rw [e1];simp;omega,fun s hs2=>?_⟩ km
  rcases List.mem_append.1 hs2 with h | h
  ·exact h7 s h
  ·rw [List.mem_singleton.1 h];exact hs
 ·exact wp_ret ⟨h4,ms,rfl,by omega,h7⟩
def R:(an×Int×Int×an)->Option (Hl×Int×Int×an):=RQ (fun n x=>start (iter step n) x.1 x.2.1 x.2.2.1 x.2.2.2) (fun x=>post x.1 x.2.1 x.2.2.1 x.2.2.2)
def cF {x0:an}{x1 x2:Int}{x3:an}{γ:Type}[RT γ]{k:(Hl×Int×Int×an)->aD}{Q:γ->Prop}(hg:gd x0 x1 x2 x3)(hk:∀y,post x0 x1 x2 x3 y->Wp (k y) Q):Wp (call (R (x0,x1,x2,x3)) k) Q:=dY (wp x0 x1 x2 x3 hg) hk
def acc (ls:List L):an×Int×Int×an:=((fc ls),(cA 1 ls),(cA 2 ls),(gS 3 ls))
def aV:iL:=CC cG pats res acc R
def ah:fG Tryz.prog Ev 104 aV:=VC (live:=live) (mt:=false) mix aJ (dV Z64.ah) .nil (.cons (Z67.bq (nC cG)) .nil) Tryz.func104 (by kernel_rfl) run_eq
def ic (_:Nat):fU:=iQ Ev aV
def bq (n:Nat):dh Tryz.prog Ev n 104 (ic n):=dF ah
end Z94
namespace Z95
def F (x0:an)(x1 x2:Int):aD:=(call (Z67.R (x0,x1,x2,4)) fun v1=>(cond v1.2.2.2 (call (Z5.R (x0,v1.2.1,v1.2.2.1,[[L.str (⟨#[]⟩:av)],[L.str (⟨#[45,97]⟩:av)],[L.str (⟨#[97,45]⟩:av)],[L.str (⟨#[65]⟩:av)],[L.str (⟨#[97,46,98]⟩:av)],[L.str (⟨#[97,98,99,100,101,102,103,104]⟩:av)],[L.str (⟨#[97,98,99,100,101,102,103,104,105]⟩:av)],[L.str (⟨#[49,108]⟩:av)],[L.str (⟨#[108,49]⟩:av)],[L.str (⟨#[48]⟩:av)]])) fun v2=>ret ((Hl.mk,v2.2.1,v2.2.2.1,v2.2.2.2):Hl×Int×Int×av)) (call (Z6.R (x0,v1.2.1,v1.2.2.1)) fun v3=>ret ((Hl.mk,v3.2.1,v3.2.2.1,v3.2.2.2):Hl×Int×Int×av))))
abbrev cG:List K:=[.sl 5,aQ,aQ]
def pats:List (Option fH):=[none]
def res:RP:=.one (.rd (.str))
abbrev E:Env:={ T:=assoc mD,G:=cN [],nt:=10,M:=eL [],np:=(nC cG),mt:=false,I:=fV [(76,Z67.ic (nC cG)),(149,Z5.ic (nC cG)),(108,Z6.ic (nC cG))] }
def run_eq (n:Nat)(ls:List L):eS E (fun _=>[]) Tryz.f123 (.cur cG res.parts) n (gr cG pats ls)=F (fc ls) (cA 1 ls) (cA 2 ls):=by kernel_rfl
def gd (x0:an)(x1 x2:Int):Prop:=CI x0 x1
def post (x0:an)(x1 x2:Int)(y:Hl×Int×Int×av):Prop:=CI x0 y.2.1/\y.2.2.2.size<=16
def wp (x0:an)(x1 x2:Int)(hg:gd x0 x1 x2):Wp (F x0 x1 x2) (post x0 x1 x2):=by
 unfold F
 refine Z67.cF hg (fun v hv=>wp_cond (fun c=>?_) (fun c=>?_))
 ·refine Z5.cF ⟨hv,by show 0<10;decide⟩ (fun w ⟨hw,i,hi,e⟩=>wp_ret ⟨hw,?_⟩)
  show w.2.2.2.size<=16
  rw [e]
  exact mP rfl hi
 ·exact Z6.cF hv (fun w hw=>wp_ret hw)
def R:(an×Int×Int)->Option (Hl×Int×Int×av):=RQ (fun _ x=>F x.1 x.2.1 x.2.2) (fun x=>post x.1 x.2.1 x.2.2)
def cF {x0:an}{x1 x2:Int}{γ:Type}[RT γ]{k:(Hl×Int×Int×av)->aD}{Q:γ->Prop}(hg:gd x0 x1 x2)(hk:∀y,post x0 x1 x2 y->Wp (k y) Q):Wp (call (R (x0,x1,x2)) k) Q:=dY ⟨0,wp x0 x1 x2 hg⟩ hk
def acc (ls:List L):an×Int×Int:=((fc ls),(cA 1 ls),(cA 2 ls))
def aV:iL:=CC cG pats res acc R
def ah:fG Tryz.prog Ev 123 aV:=VC (live:=(fun _=>[])) (mt:=false) mix aJ .nil .nil (.cons (Z67.bq (nC cG)) (.cons (Z5.bq (nC cG)) (.cons (Z6.bq (nC cG)) .nil))) Tryz.func123 (by kernel_rfl) run_eq
def ic (_:Nat):fU:=iQ Ev aV
def bq (n:Nat):dh Tryz.prog Ev n 123 (ic n):=dF ah
end Z95
namespace Z96
def F (x0:an)(x1 x2:Int):aD:=(call (Z5.R (x0,x1,x2,[[L.str (⟨#[115,104,111,112]⟩:av)],[L.str (⟨#[109,97,105,108]⟩:av)],[L.str (⟨#[97,110,110]⟩:av)],[L.str (⟨#[98,111,98]⟩:av)],[L.str (⟨#[115,104,111,112]⟩:av)],[L.str (⟨#[98,97,110,107]⟩:av)]])) fun v1=>(call (Z67.R (x0,v1.2.1,v1.2.2.1,2)) fun v2=>(cond v2.2.2.2 (call (Z6.R (x0,v2.2.1,v2.2.2.1)) fun v3=>(cX (fu (((1:Int)+1)*16)) (call (Z67.R (x0,v3.2.1,v3.2.2.1,8)) fun v4=>(cond v4.2.2.2 (call (Z95.R (x0,v4.2.1,v4.2.2.1)) fun v5=>(cX (fu (((2:Int)+1)*16)) (ret ((Hl.mk,v5.2.1,v5.2.2.1,[[L.str v1.2.2.2],[L.str v3.2.2.2],[L.str v5.2.2.2]]):Hl×Int×Int×an)))) (ret ((Hl.mk,v4.2.1,v4.2.2.1,[[L.str v1.2.2.2],[L.str v3.2.2.2]]):Hl×Int×Int×an)))))) (call (Z67.R (x0,v2.2.1,v2.2.2.1,8)) fun v6=>(cond v6.2.2.2 (call (Z95.R (x0,v6.2.1,v6.2.2.1)) fun v7=>(cX (fu (((1:Int)+1)*16)) (ret ((Hl.mk,v7.2.1,v7.2.2.1,[[L.str v1.2.2.2],[L.str v7.2.2.2]]):Hl×Int×Int×an)))) (ret ((Hl.mk,v6.2.1,v6.2.2.1,[[L.str v1.2.2.2]]):Hl×Int×Int×an)))))))
abbrev cG:List K:=[.sl 5,aQ,aQ]
def pats:List (Option fH):=[none]
def res:RP:=.one (.fr 9)
abbrev E:Env:={ T:=assoc mD,G:=cN [],nt:=23,M:=eL [],np:=(nC cG),mt:=false,I:=fV [(149,Z5.ic (nC cG)),(76,Z67.ic (nC cG)),(108,Z6.ic (nC cG)),(123,Z95.ic (nC cG))] }
def run_eq (n:Nat)(ls:List L):eS E (fun _=>[]) Tryz.f105 (.cur cG res.parts) n (gr cG pats ls)=F (fc ls) (cA 1 ls) (cA 2 ls):=by kernel_rfl
def gd (x0:an)(x1 x2:Int):Prop:=CI x0 x1
def post (x0:an)(x1 x2:Int)(y:Hl×Int×Int×an):Prop:=CI x0 y.2.1/\∃m:List av,y.2.2.2=m.map bY/\bn 8 (fun y:av=>y.size<=16) m
def wp (x0:an)(x1 x2:Int)(hg:gd x0 x1 x2):Wp (F x0 x1 x2) (post x0 x1 x2):=by
 unfold F
 refine Z5.cF ⟨hg,by show 0<6;decide⟩ (fun v ⟨hv,i,hi,e⟩=>?_)
 have hs:v.2.2.2.size<=16:=by rw [e];exact mP rfl hi
 clear e
 have l1:∀{a:av},a.size<=16->bn 8 (fun y:av=>y.size<=16) [a]:=fun h=>⟨by simp,fun y hy=>by simp at hy;subst hy;exact h⟩
 have l2:∀{a b:av},a.size<=16->b.size<=16->bn 8 (fun y:av=>y.size<=16) [a,b]:=fun h k=>⟨by simp,fun y hy=>by simp at hy;rcases hy with rfl | rfl<;>assumption⟩
 have l3:∀{a b c:av},a.size<=16->b.size<=16->c.size<=16->bn 8 (fun y:av=>y.size<=16) [a,b,c]:=fun h k j=>⟨by simp,fun y hy=>by simp at hy;rcases hy with rfl | rfl | rfl<;>assumption⟩
 refine Z67.cF hv (fun w hw=>wp_cond (fun _=>?_) (fun _=>?_))
 ·refine Z6.cF hw (fun z ⟨hz,h1⟩=>eX (gq (by decide)) (Z67.cF hz (fun t ht=>wp_cond (fun _=>?_) (fun _=>?_))))
  ·exact Z95.cF ht (fun q ⟨hq,h2⟩=>eX (gq (by decide)) (wp_ret ⟨hq,[v.2.2.2,z.2.2.2,q.2.2.2],rfl,l3 hs h1 h2⟩))
  ·exact wp_ret ⟨ht,[v.2.2.2,z.2.2.2],rfl,l2 hs h1⟩
 ·refine Z67.cF hw (fun t ht=>wp_cond (fun _=>?_) (fun _=>?_))
  ·exact Z95.cF ht (fun q ⟨hq,h2⟩=>eX (gq (by decide)) (wp_ret ⟨hq,[v.2.2.2,q.2.2.2],rfl,l2 hs h2⟩))
  ·exact wp_ret ⟨ht,[v.2.2.2],rfl,l1 hs⟩
def R:(an×Int×Int)->Option (Hl×Int×Int×an):=RQ (fun _ x=>F x.1 x.2.1 x.2.2) (fun x=>post x.1 x.2.1 x.2.2)
def cF {x0:an}{x1 x2:Int}{γ:Type}[RT γ]{k:(Hl×Int×Int×an)->aD}{Q:γ->Prop}(hg:gd x0 x1 x2)(hk:∀y,post x0 x1 x2 y->Wp (k y) Q):Wp (call (R (x0,x1,x2)) k) Q:=dY ⟨0,wp x0 x1 x2 hg⟩ hk
def acc (ls:List L):an×Int×Int:=((fc ls),(cA 1 ls),(cA 2 ls))
def aV:iL:=CC cG pats res acc R
def ah:fG Tryz.prog Ev 105 aV:=VC (live:=(fun _=>[])) (mt:=false) mix aJ .nil .nil (.cons (Z5.bq (nC cG)) (.cons (Z67.bq (nC cG)) (.cons (Z6.bq (nC cG)) (.cons (Z95.bq (nC cG)) .nil)))) Tryz.func105 (by kernel_rfl) run_eq
def ic (_:Nat):fU:=iQ Ev aV
def bq (n:Nat):dh Tryz.prog Ev n 105 (ic n):=dF ah
end Z96
namespace Z97
def F (x0:an):aD:=(call (Z1.R x0) fun v1=>(call (Z78.R (v1.1,v1.2.1,v1.2.2)) fun v2=>(call (Z85.R (v1.1,v2.2.1,v2.2.2.1,v2.2.2.2)) fun v3=>(call (Z67.R (v1.1,v3.2.1,v3.2.2.1,2)) fun v4=>(cond v4.2.2.2 (call (Z4.R (v1.1,v4.2.1,v4.2.2.1,3)) fun v5=>(cX ((0:Int)<=v5.2.2.2) (cX (v5.2.2.2<(v2.2.2.2.length:Int)) (call (Z93.R ((⟨[],[]⟩:bP),(bS.at v2.2.2.2 (toNat v5.2.2.2)).aI)) fun v6=>(call (Z94.R (v1.1,v5.2.1,v5.2.2.1,v2.2.2.2)) fun v7=>(call (Z96.R (v1.1,v7.2.1,v7.2.2.1)) fun v8=>(call (Z84.R (v1.1,v8.2.1,v8.2.2.1,[[L.int 1],[L.int 20],[L.int 151]])) fun v9=>ret ((v6.1,v3.2.2.2,v7.2.2.2,v8.2.2.2,v9.2.2.2):bP×an×an×an×Int)))))))) (call (Z94.R (v1.1,v4.2.1,v4.2.2.1,v2.2.2.2)) fun v10=>(call (Z96.R (v1.1,v10.2.1,v10.2.2.1)) fun v11=>(call (Z84.R (v1.1,v11.2.1,v11.2.2.1,[[L.int 1],[L.int 20],[L.int 151]])) fun v12=>ret (((⟨[],[]⟩:bP),v3.2.2.2,v10.2.2.2,v11.2.2.2,v12.2.2.2):bP×an×an×an×Int)))))))))
def pats:List fH:=[.rd (.sl 5)]
def res:RP:=.gK [(true,[.fr 24,.fr 185]),(false,[.fr 177]),(false,[.fr 144]),(false,[.fr 9]),(false,[.rd (.int .i64)])]
abbrev E:Env:={ T:=assoc mD,G:=cN [(103,Z93.aV)],nt:=44,M:=eL [],np:=0,mt:=false,I:=fV [(50,Z1.ic 0),(101,Z78.ic 0),(102,Z85.ic 0),(76,Z67.ic 0),(52,Z4.ic 0),(104,Z94.ic 0),(105,Z96.ic 0),(53,Z84.ic 0)] }
def run_eq (n:Nat)(ls:List L):eS E (fun _=>[]) Tryz.f57 res n (dS pats ls)=F (fc ls):=by kernel_rfl
def gd (x0:an):Prop:=x0.length<=1048576
def post (x0:an)(y:bP×an×an×an×Int):Prop:=∃(k:az) (s:List aF) (r:List cw) (p:List av),y=(az.r k,s.map aF.row,r.map cw.row,p.map bY,y.2.2.2.2)/\az.Sm (2^21) k/\bn 3 (fun z:aF=>aF.Sm 64 z) s/\bn 3 (fun z:cw=>cw.Sm 64 z) r/\bn 8 (fun y:av=>y.size<=16) p/\EJ y.2.2.2.2
def wp (x0:an)(hg:gd x0):Wp (F x0) (post x0):=by
 unfold F
 refine Z1.cF hg (fun v1 ⟨e1,c1⟩=>Z78.cF (by rw [e1];exact c1) (fun v2 ⟨c2,zs,e2,l2,o2⟩=>Z85.cF ⟨c2,zs,e2,l2,o2⟩ (fun v3 ⟨c3,ss,e3,s3⟩=>Z67.cF c3 (fun v4 c4=>?_))))
 rw [e2,e3]
 have z0:az.Sm (2^21) ⟨[],[]⟩:=⟨bn.nil,bn.nil⟩
 refine wp_cond (fun _=>?_) (fun _=>?_)
 ·refine Z4.cF c4 (fun v5 ⟨c5,_,b5⟩=>?_)
  obtain ⟨b1,b2⟩:=b5 (by decide)
  have hi:v5.2.2.2.toNat<zs.length:=by omega
  refine eX (decide_eq_true b1) (eX (decide_eq_true (by rw [List.length_map];omega)) ?_)
  rw [aN.kP hi]
  have ho:=o2 _ (List.getElem_mem hi)
  have hg0:Z93.gd ⟨[],[]⟩ zs[v5.2.2.2.toNat].aI:=⟨z0,ho.1.2.mono (by decide) fun _ h=>af.bC (by decide) h⟩
  refine bD (Z93.aq (a0:=⟨[],[]⟩) (a1:=zs[v5.2.2.2.toNat].aI) hg0) ?_
  refine Z94.cF ⟨c5,zs,rfl,l2,o2⟩ (fun v7 ⟨c7,rs,e7,s7⟩=>Z96.cF c7 (fun v8 ⟨c8,ps,e8,s8⟩=>Z84.cF ⟨c8,by show 0<3;decide⟩ (fun v9 ⟨c9,i,hi,e9⟩=>?_)))
  rw [e7,e8,e9]
  exact wp_ret ⟨_,ss,rs,ps,rfl,Z93.fY hg0,s3,s7,s8,yV rfl hi⟩
 ·refine Z94.cF ⟨c4,zs,rfl,l2,o2⟩ (fun v7 ⟨c7,rs,e7,s7⟩=>Z96.cF c7 (fun v8 ⟨c8,ps,e8,s8⟩=>Z84.cF ⟨c8,by show 0<3;decide⟩ (fun v9 ⟨c9,i,hi,e9⟩=>?_)))
  rw [e7,e8,e9]
  exact wp_ret ⟨⟨[],[]⟩,ss,rs,ps,rfl,z0,s3,s7,s8,yV rfl hi⟩
def R:(an)->Option (bP×an×an×an×Int):=RQ (fun _ x=>F x) (fun x=>post x)
def cF {x0:an}{γ:Type}[RT γ]{k:(bP×an×an×an×Int)->aD}{Q:γ->Prop}(hg:gd x0)(hk:∀y,post x0 y->Wp (k y) Q):Wp (call (R x0) k) Q:=dY ⟨0,wp x0 hg⟩ hk
def acc (ls:List L):an:=(fc ls)
def aV:gW:=CN pats res acc R
def ah:cY 57 aV:=VQ (live:=(fun _=>[])) (mt:=false) mix aJ (dV Z93.ah) .nil (.cons (Z1.bq 0) (.cons (Z78.bq 0) (.cons (Z85.bq 0) (.cons (Z67.bq 0) (.cons (Z4.bq 0) (.cons (Z94.bq 0) (.cons (Z96.bq 0) (.cons (Z84.bq 0) .nil)))))))) Tryz.func57 (by kernel_rfl) run_eq
end Z97
namespace Z98
inductive Pt where
 | p0 (a:an) (b:av) (c:Int)
def cZ:Pt->List V
 | .p0 a b c=>[.sl none 53 a,.str b,.int .i64 c]
def step (J:Pt->aD):Pt->aD
 | .p0 a b c=>(cond (c<(a.length:Int)) (m2 c (a.length:Int) (cond ((aC.at a (toNat c)).bk==b) (ret (c:Int)) (J (.p0 a b (i64.wrap (c+1)))))) sP)
def start (J:Pt->aD)(x0:an)(x1:av):aD:=J (.p0 x0 x1 0)
def live:Nat->Live:=iD [(2,mN [0,1,5])]
def md (a0:List aa)(a1:av):Int:=(eP (S:=Unit) (β:=Int) (fun (i1:Nat) (y1:aa) (s3:Unit)=>(cond (y1.bk==a1) (.inr ((i1:Int):Int)) (.inl ()))) (fun (s3:Unit)=>((-1):Int)) 0 a0 ())
def gd (a0:List aa)(a1:av):Prop:=(bn (2^21) (fun y:aa=>aa.Sm (2^21) y) a0)
def R:=eA gd md
def aq {a0 a1}(h:gd a0 a1):R ((a0.map aa.row),a1)=some (md a0 a1):=eB h
def aV:=CN [pL 53,pS] oI RT.dec R
def bH (a0)(a1)(hg:gd a0 a1):∃n,start (iter step n) (a0.map aa.row) a1=ret (md a0 a1):=by
 unfold gd at hg
 have H0:=hg
 unfold start md
 try simp only [SS]
 have Bh2:a0.length<=maxLen:=(by
   have:=(H0).1
   try simp only [maxLen] at *
   omega)
 refine ex_eq (out:=ret) (dD (z:=aa.zero)) ?_
 refine dW (p:=Pt.p0 (a0.map aa.row) a1 0) fz ?_
 refine bV (pt:=fun (i1:Nat) (s3:Unit)=>Pt.p0 (a0.map aa.row) a1 (i1:Int)) (s:=(():Unit)) (out:=ret) (fun _ _=>True) (fun J i1 s3 h2 hih2=>?_) (fun s3 hih2=>?_) trivial
 ·simp only [step,SS]
  have bb_:=Bh2
  simp only [maxLen] at bb_
  have:=(H0).1
  refine bf.yes (by apply decide_eq_true;omega) ?_
  refine bf.yes bA ?_
  refine bf.yes (bU h2) ?_
  refine bf.bif (fun c4=>?_) (fun c4=>?_)
  ·refine bf.inr ?_
   all_goals exact fz
  ·refine bf.inl trivial ?_
   rw [aR h2 Bh2]
   all_goals exact fz
 ·simp only [step,SS]
  have:=(H0).1
  refine dQ (by apply decide_eq_false;omega) ?_
  refine ⟨0,?_⟩
  all_goals exact fz
def ah:cY 243 aV:=L2 20 (fun _=>2) cZ (fun _=>[]) live step start mix aJ bH .nil Tryz.func243
def fa (a0:List aa)(a1:av):-1<=md a0 a1/\md a0 a1<(a0.length:Int):=by
 unfold md
 refine iU ?_ _ _
 all_goals
  intro i x s b h
  revert h
  simp only [Bool.cond_eq_ite]
  repeat' split
  all_goals (intro h;first | (cases h;rfl) | cases h)
end Z98
namespace Z99
inductive Pt where
 | p0 (a:Int) (b c:an)
 | p1 (a:Int) (b c:an)
def cZ:Pt->List V
 | .p0 a b c=>[.int .i64 a,.own 0,.sl none 3 b]
 | .p1 a b c=>[.int .i64 a,.own 0,.own 1]
def eD:Pt->List aK
 | .p0 a b c=>[.row 3 c]
 | .p1 a b c=>[.row 3 b,.row 3 c]
def step (J:Pt->aD):Pt->aD
 | .p0 a b c=>(cond ((b.length:Int)>1) (cond ((i64.wrap ((i64.wrap (a+1)) - (i64.wrap (2*(Int.tmod a 2)))))<(b.length:Int)) (cX ((0:Int)<=(i64.wrap ((i64.wrap (a+1)) - (i64.wrap (2*(Int.tmod a 2)))))) (cX ((i64.wrap ((i64.wrap (a+1)) - (i64.wrap (2*(Int.tmod a 2)))))<(b.length:Int)) (cX (fu (((c.length:Int)+1)*8)) (call (Z29.R b) fun v1=>J (.p1 (i64.wrap (Int.tdiv a 2)) (c++[[L.int (iE b (toNat (i64.wrap ((i64.wrap (a+1)) - (i64.wrap (2*(Int.tmod a 2)))))))]]) v1))))) (call (Z29.R b) fun v2=>J (.p1 (i64.wrap (Int.tdiv a 2)) c v2))) (ret (c:an)))
 | .p1 a b c=>(cond ((c.length:Int)>1) (cond ((i64.wrap ((i64.wrap (a+1)) - (i64.wrap (2*(Int.tmod a 2)))))<(c.length:Int)) (cX ((0:Int)<=(i64.wrap ((i64.wrap (a+1)) - (i64.wrap (2*(Int.tmod a 2)))))) (cX ((i64.wrap ((i64.wrap (a+1)) - (i64.wrap (2*(Int.tmod a 2)))))<(c.length:Int)) (cX (fu (((b.length:Int)+1)*8)) (call (Z29.R c) fun v1=>J (.p1 (i64.wrap (Int.tdiv a 2)) (b++[[L.int (iE c (toNat (i64.wrap ((i64.wrap (a+1)) - (i64.wrap (2*(Int.tmod a 2)))))))]]) v1))))) (call (Z29.R c) fun v2=>J (.p1 (i64.wrap (Int.tdiv a 2)) b v2))) (ret (b:an)))
def start (J:Pt->aD)(x0:an)(x1:Int):aD:=(call (Z11.R (x1,0,(i64.wrap ((x0.length:Int) - 1)))) fun v1=>(cond (!v1) (ret ([]:an)) (J (.p0 x1 x0 []))))
def live:Nat->Live:=iD [(5,[(1,none),(5,some 3),(6,none)])]
def CB (i:Nat):Nat:=if i % 2=0 then i+1 else i - 1
def BB (i:Nat)(l c:List Int):List Int:=if CB i<l.length then c++[l.getD (CB i) 0] else c
def Dl:Nat->Nat->List Int->List Int->List Int
 | 0,_,_,c=>c
 | k+1,i,l,c=>if l.length>1 then Dl k (i / 2) (Z29.up l) (BB i l c) else c
def yM:∀(k i:Nat) (l c:List Int),(Dl k i l c).length<=c.length+k
 | 0,_,_,c=>Nat.le_refl _
 | k+1,i,l,c=>by
  unfold Dl
  by_cases h:l.length>1
  ·rw [if_pos h]
   have:=yM k (i / 2) (Z29.up l) (BB i l c)
   have h2:(BB i l c).length<=c.length+1:=by unfold BB;split<;>simp
   omega
  ·rw [if_neg h];omega
def half (i:Nat)(h:i<2^40):i64.wrap (Int.tdiv (i:Int) 2)=((i / 2:Nat):Int):=by
 rw [show Int.tdiv (i:Int) 2=((i / 2:Nat):Int) from rfl,wi _ (by omega)]
def C9 (i:Nat)(h:i<2^40):i64.wrap (i64.wrap ((i:Int)+1) - i64.wrap (2*Int.tmod (i:Int) 2))=((CB i:Nat):Int):=by
 rw [show Int.tmod (i:Int) 2=((i % 2:Nat):Int) from rfl,wi ((i:Int)+1) (by omega),wi (2*((i % 2:Nat):Int)) (by omega),wi _ (by omega)]
 unfold CB
 split<;>omega
def md (a0:List Int)(a1:Int):List Int:=bif Z11.md a1 0 (i64.wrap ((a0.length:Int) - 1)) then Dl a0.length a1.toNat a0 [] else []
def gd (a0:List Int)(a1:Int):Prop:=bn (2^38) (fun y:Int=>True) a0
def R:=eA gd md
def aq {a0 a1}(h:gd a0 a1):R ((a0.map bh),a1)=some ((md a0 a1).map bh):=eB h
def aV:=CN [pL 3,pI] (oL 3) RT.dec R
def bH (a0)(a1)(hg:gd a0 a1):∃n,start (iter step n) (a0.map bh) a1=ret ((md a0 a1).map bh):=by
 have one:∀(i:Nat) (l c r:List Int) (n:Nat),bn (2^38) (fun y:Int=>True) l->i<2^40->c.length<2^40->(if l.length>1 then iter step n (Pt.p1 ((i / 2:Nat):Int) ((BB i l c).map bh) ((Z29.up l).map bh))=ret (r.map bh) else c=r)->
   step (iter step n) (Pt.p0 (i:Int) (l.map bh) (c.map bh))=ret (r.map bh)/\step (iter step n) (Pt.p1 (i:Int) (c.map bh) (l.map bh))=ret (r.map bh):=by
  intro i l c r n hl hi hc h
  have hs:=C9 i hi
  have hd:=half i hi
  refine ⟨?_,?_⟩
  all_goals
   simp only [step,MM,List.length_map,kV,hs,hd,jI]
   by_cases h1:l.length>1
   ·rw [if_pos h1] at h
    rw [decide_eq_true (show (l.length:Int)>1 by omega),aL]
    by_cases h2:CB i<l.length
    ·rw [BB,if_pos h2,List.map_append] at h
     rw [decide_eq_true (show ((CB i:Nat):Int)<(l.length:Int) by omega),aL,decide_eq_true (show (0:Int)<=((CB i:Nat):Int) by omega),aL,aL,gq (by omega),aL]
     exact ec ((Z29.up l).map bh) (Z29.aq hl) h
    ·rw [BB,if_neg h2] at h
     rw [decide_eq_false (show ¬((CB i:Nat):Int)<(l.length:Int) by omega),aT]
     exact ec ((Z29.up l).map bh) (Z29.aq hl) h
   ·rw [if_neg h1] at h
    rw [decide_eq_false (show ¬(l.length:Int)>1 by omega),aT,h]
 have key:∀(k i:Nat) (l c:List Int),bn (2^38) (fun y:Int=>True) l->l.length<=k->i<2^40->c.length+k<2^40->
   ∃n,step (iter step n) (Pt.p0 (i:Int) (l.map bh) (c.map bh))=ret ((Dl k i l c).map bh)/\step (iter step n) (Pt.p1 (i:Int) (c.map bh) (l.map bh))=ret ((Dl k i l c).map bh):=by
  intro k
  induction k with
  | zero=>intro i l c hl hk hi hc;exact ⟨0,one i l c _ 0 hl hi (by omega) (by rw [if_neg (by omega)];rfl)⟩
  | succ k ih=>
   intro i l c hl hk hi hc
   unfold Dl
   by_cases h1:l.length>1
   ·have hu:=Z29.qB l
    have hl1:=hl.1
    have h2:(BB i l c).length<=c.length+1:=by unfold BB;split<;>simp
    obtain ⟨n,_,hn⟩:=ih (i / 2) (Z29.up l) (BB i l c) ⟨by omega,fun _ _=>trivial⟩ (by omega) (by omega) (by omega)
    rw [if_pos h1]
    exact ⟨n+1,one i l c _ (n+1) hl hi (by omega) (by rw [if_pos h1];exact hn)⟩
   ·rw [if_neg h1]
    exact ⟨0,one i l c _ 0 hl hi (by omega) (by rw [if_neg h1])⟩
 unfold gd at hg
 unfold start md
 simp only [List.length_map]
 have hlen:=hg.1
 cases h:Z11.md a1 0 (i64.wrap ((a0.length:Int) - 1))
 ·exact ⟨0,ec false (by rw [<-h];exact Z11.aq trivial) rfl⟩
 ·have hh:=h
  rw [wi _ (by omega)] at hh
  simp [Z11.md] at hh
  obtain ⟨i,rfl⟩:=Int.eq_ofNat_of_zero_le hh.1
  obtain ⟨n,hn,_⟩:=key a0.length i a0 [] hg (Nat.le_refl _) (by omega) (by simp only [List.length_nil];omega)
  exact ⟨n+1,ec true (by rw [<-h];exact Z11.aq trivial) hn⟩
def ah:cY 255 aV:=L2 42 (fun _=>5) cZ eD live step start mix aJ bH (gH Z11.ah Z29.ah) Tryz.func255
def len (a0:List Int)(a1:Int):(md a0 a1).length<=a0.length:=by
 unfold md
 cases Z11.md _ 0 _
 ·exact zero_le _
 ·exact le_trans (yM _ _ _ _) (by simp)
end Z99
namespace Z100
def F (x0:an)(x1:av):aD:=(call (Z98.R (x0,x1)) fun v1=>(cond (v1<0) (ret (((⟨0,[]⟩:bW),false):bW×Bool)) (call (Z27.R x0) fun v2=>(call (Z99.R (v2,v1)) fun v3=>ret (((⟨v1,v3⟩:bW),true):bW×Bool)))))
def md (a0:List aa)(a1:av):aU×Bool:=(cond ((Z98.md a0 a1)<0) ((⟨0,[]⟩:aU),false) ((⟨(Z98.md a0 a1),(Z99.md (Z27.md a0) (Z98.md a0 a1))⟩:aU),true))
def gd (a0:List aa)(a1:av):Prop:=(bn (2^21) (fun y:aa=>aa.Sm (2^21) y) a0)
def R:=eA gd md
def aq {a0 a1}(h:gd a0 a1):R ((a0.map aa.row),a1)=some ((aU.r (md a0 a1).1),(md a0 a1).2):=eB h
def aV:=CN [pL 53,pS] (.gK [(true,f224),(false,[fB])]) RT.dec R
def bH (a0)(a1)(hg:gd a0 a1):F (a0.map aa.row) a1=ret ((aU.r (md a0 a1).1),(md a0 a1).2):=by
 unfold gd at hg
 have H0:=hg
 unfold F md
 try simp only [SS]
 refine ct (Z98.aq H0) ?_
 have fv1_:=Z98.fa a0 a1
 refine au (fun b:aU×Bool=>ret (((aU.r b.1),b.2):bW×Bool)) (fun c1=>?_) (fun c1=>?_)
 ·all_goals exact fz
 ·have dc1:=c1
  try simp only [DC] at dc1
  refine ct (Z27.aq H0) ?_
  try simp only [SS]
  refine ct (Z99.aq ⟨(have:=Z27.len a0;have:=(H0).1;om),fun _ _=>trivial⟩) ?_
  try simp only [SS]
  all_goals exact fz
def ah:cY 244 aV:=W2 19 F mix aJ bH (nD Z98.ah Z27.ah Z99.ah) Tryz.func244
def fY {a0:List aa}{a1:av}(hg:gd a0 a1):aU.Sm (2^21) ((md a0 a1).1):=by
 unfold gd at hg;unfold md
 cases decide (Z98.md a0 a1<0)
 ·refine ⟨?_,fun _ _=>trivial⟩
  have h:=Z99.len (Z27.md a0) (Z98.md a0 a1)
  rw [Z27.len] at h
  exact le_trans h hg.1
 ·exact bn.nil
end Z100
namespace Z101
inductive Pt where
 | p0 (a:an) (b:av) (c d:Int)
def cZ:Pt->List V
 | .p0 a b c d=>[.sl none 53 a,.str b,.int .i64 c,.int .i64 d]
def step (J:Pt->aD):Pt->aD
 | .p0 a b c d=>(cond (d<(a.length:Int)) (m2 d (a.length:Int) (call (Z8.R ((aC.at a (toNat d)).bk,b)) fun v1=>(cond (v1<0) (J (.p0 a b (i64.wrap (c+1)) (i64.wrap (d+1)))) (J (.p0 a b c (i64.wrap (d+1))))))) (ret (c:Int)))
def start (J:Pt->aD)(x0:an)(x1:av):aD:=J (.p0 x0 x1 0 0)
def live:Nat->Live:=iD [(3,mN [0,1,5,6])]
def md (a0:List aa)(a1:av):Int:=(eI (S:=Int) (β:=Int) (fun (y1:aa) (s3:Int)=>(cond ((Z8.md (y1.bk) a1)<0) (.inl (i64.wrap (s3+1))) (.inl s3))) (fun (s3:Int)=>(s3:Int)) a0 0)
def gd (a0:List aa)(a1:av):Prop:=(bn (2^21) (fun y:aa=>aa.Sm (2^21) y) a0)
def R:=eA gd md
def aq {a0 a1}(h:gd a0 a1):R ((a0.map aa.row),a1)=some (md a0 a1):=eB h
def aV:=CN [pL 53,pS] oI RT.dec R
def bH (a0)(a1)(hg:gd a0 a1):∃n,start (iter step n) (a0.map aa.row) a1=ret (md a0 a1):=by
 unfold gd at hg
 have H0:=hg
 unfold start md
 try simp only [SS]
 have Bh2:a0.length<=maxLen:=(by
   have:=(H0).1
   try simp only [maxLen] at *
   omega)
 refine ex_eq (out:=ret) (eo (z:=aa.zero)) ?_
 refine dW (p:=Pt.p0 (a0.map aa.row) a1 0 0) fz ?_
 refine bV (pt:=fun (i1:Nat) (s3:Int)=>Pt.p0 (a0.map aa.row) a1 s3 (i1:Int)) (s:=(0:Int)) (out:=ret) (fun _ _=>True) (fun J i1 s3 h2 hih2=>?_) (fun s3 hih2=>?_) trivial
 ·simp only [step,SS]
  have bb_:=Bh2
  simp only [maxLen] at bb_
  have:=(H0).1
  refine bf.yes (by apply decide_eq_true;omega) ?_
  refine bf.yes bA ?_
  refine bf.yes (bU h2) ?_
  refine cr (Z8.aq trivial) ?_
  refine bf.bif (fun c4=>?_) (fun c4=>?_)
  ·refine bf.inl trivial ?_
   rw [aR h2 Bh2]
   all_goals exact fz
  ·refine bf.inl trivial ?_
   rw [aR h2 Bh2]
   all_goals exact fz
 ·simp only [step,SS]
  have:=(H0).1
  refine dQ (by apply decide_eq_false;omega) ?_
  refine ⟨0,?_⟩
  all_goals exact fz
def ah:cY 256 aV:=L2 24 (fun _=>3) cZ (fun _=>[]) live step start mix aJ bH (dV Z8.ah) Tryz.func256
def fa (a0:List aa)(a1:av):a0.length<=2^21->0<=md a0 a1/\md a0 a1<=(a0.length:Int):=fun hl=>by
 have key:∀(xs:List aa) (s:Int),0<=s->s+xs.length<=2^22->0<=eI (S:=Int) (β:=Int) (fun (y1:aa) (s3:Int)=>(cond ((Z8.md (y1.bk) a1)<0) (.inl (i64.wrap (s3+1))) (.inl s3))) (fun (s3:Int)=>(s3:Int)) xs s/\eI (S:=Int) (β:=Int) (fun (y1:aa) (s3:Int)=>(cond ((Z8.md (y1.bk) a1)<0) (.inl (i64.wrap (s3+1))) (.inl s3))) (fun (s3:Int)=>(s3:Int)) xs s<=s+xs.length:=by
  intro xs
  induction xs with
  | nil=>intro s h0 h1;exact ⟨h0,by simp [eI]⟩
  | cons x xs ih=>
   intro s h0 h1
   simp only [List.length_cons] at h1 ⊢
   unfold eI
   cases decide (Z8.md x.bk a1<0)
   ·have:=ih s h0 (by omega)
    simp only [aT]
    omega
   ·have:=ih (s+1) (by omega) (by omega)
    simp only [aL]
    rw [wi _ (by omega)]
    omega
 have:=key a0 0 (Int.le_refl _) (by omega)
 unfold md
 omega
end Z101
namespace Z102
def F (x0:an)(x1:av):aD:=(call (Z15.R x0) fun v1=>(cond (!v1) (ret (((⟨0,(⟨(⟨#[]⟩:av),0,0,[]⟩:aC),(⟨(⟨#[]⟩:av),0,0,[]⟩:aC),(⟨0,[]⟩:bW),(⟨0,[]⟩:bW)⟩:fD),false):fD×Bool)) (call (Z12.R x1) fun v2=>(cond (!v2) (ret (((⟨0,(⟨(⟨#[]⟩:av),0,0,[]⟩:aC),(⟨(⟨#[]⟩:av),0,0,[]⟩:aC),(⟨0,[]⟩:bW),(⟨0,[]⟩:bW)⟩:fD),false):fD×Bool)) (call (Z98.R (x0,x1)) fun v3=>(cond (v3>=0) (ret (((⟨0,(⟨(⟨#[]⟩:av),0,0,[]⟩:aC),(⟨(⟨#[]⟩:av),0,0,[]⟩:aC),(⟨0,[]⟩:bW),(⟨0,[]⟩:bW)⟩:fD),false):fD×Bool)) (call (Z101.R (x0,x1)) fun v4=>(cond (v4>0) (cX ((0:Int)<=(i64.wrap (v4 - 1))) (cX ((i64.wrap (v4 - 1))<(x0.length:Int)) (call (Z10.R (aC.at x0 (toNat (i64.wrap (v4 - 1))))) fun v5=>(cX ((0:Int)<=(i64.wrap (v4 - 1))) (cX ((i64.wrap (v4 - 1))<(x0.length:Int)) (call (Z100.R (x0,(aC.at x0 (toNat (i64.wrap (v4 - 1)))).bk)) fun v6=>(cond (v4<(x0.length:Int)) (m2 v4 (x0.length:Int) (call (Z10.R (aC.at x0 (toNat v4))) fun v7=>(m2 v4 (x0.length:Int) (call (Z100.R (x0,(aC.at x0 (toNat v4)).bk)) fun v8=>ret (((⟨v4,v5,v7,v6.1,v8.1⟩:fD),true):fD×Bool))))) (ret (((⟨v4,v5,(⟨(⟨#[]⟩:av),0,0,[]⟩:aC),v6.1,(⟨0,[]⟩:bW)⟩:fD),true):fD×Bool))))))))) (cond (v4<(x0.length:Int)) (m2 v4 (x0.length:Int) (call (Z10.R (aC.at x0 (toNat v4))) fun v9=>(m2 v4 (x0.length:Int) (call (Z100.R (x0,(aC.at x0 (toNat v4)).bk)) fun v10=>ret (((⟨v4,(⟨(⟨#[]⟩:av),0,0,[]⟩:aC),v9,(⟨0,[]⟩:bW),v10.1⟩:fD),true):fD×Bool))))) (ret (((⟨v4,(⟨(⟨#[]⟩:av),0,0,[]⟩:aC),(⟨(⟨#[]⟩:av),0,0,[]⟩:aC),(⟨0,[]⟩:bW),(⟨0,[]⟩:bW)⟩:fD),true):fD×Bool)))))))))))
def md (a0:List aa)(a1:av):bX×Bool:=(cond (!(Z15.md a0)) ((⟨0,(⟨((⟨#[]⟩:av):av),0,0,[]⟩:aa),(⟨((⟨#[]⟩:av):av),0,0,[]⟩:aa),(⟨0,[]⟩:aU),(⟨0,[]⟩:aU)⟩:bX),false) (cond (!(Z12.md a1)) ((⟨0,(⟨((⟨#[]⟩:av):av),0,0,[]⟩:aa),(⟨((⟨#[]⟩:av):av),0,0,[]⟩:aa),(⟨0,[]⟩:aU),(⟨0,[]⟩:aU)⟩:bX),false) (cond ((Z98.md a0 a1)>=0) ((⟨0,(⟨((⟨#[]⟩:av):av),0,0,[]⟩:aa),(⟨((⟨#[]⟩:av):av),0,0,[]⟩:aa),(⟨0,[]⟩:aU),(⟨0,[]⟩:aU)⟩:bX),false) (cond ((Z101.md a0 a1)>0) (cond ((Z101.md a0 a1)<(a0.length:Int)) ((⟨(Z101.md a0 a1),(a0.getD (toNat (i64.wrap ((Z101.md a0 a1) - 1))) aa.zero),(a0.getD (toNat (Z101.md a0 a1)) aa.zero),(Z100.md a0 ((a0.getD (toNat (i64.wrap ((Z101.md a0 a1) - 1))) aa.zero).bk)).1,(Z100.md a0 ((a0.getD (toNat (Z101.md a0 a1)) aa.zero).bk)).1⟩:bX),true) ((⟨(Z101.md a0 a1),(a0.getD (toNat (i64.wrap ((Z101.md a0 a1) - 1))) aa.zero),(⟨((⟨#[]⟩:av):av),0,0,[]⟩:aa),(Z100.md a0 ((a0.getD (toNat (i64.wrap ((Z101.md a0 a1) - 1))) aa.zero).bk)).1,(⟨0,[]⟩:aU)⟩:bX),true)) (cond ((Z101.md a0 a1)<(a0.length:Int)) ((⟨(Z101.md a0 a1),(⟨((⟨#[]⟩:av):av),0,0,[]⟩:aa),(a0.getD (toNat (Z101.md a0 a1)) aa.zero),(⟨0,[]⟩:aU),(Z100.md a0 ((a0.getD (toNat (Z101.md a0 a1)) aa.zero).bk)).1⟩:bX),true) ((⟨(Z101.md a0 a1),(⟨((⟨#[]⟩:av):av),0,0,[]⟩:aa),(⟨((⟨#[]⟩:av):av),0,0,[]⟩:aa),(⟨0,[]⟩:aU),(⟨0,[]⟩:aU)⟩:bX),true))))))
def gd (a0:List aa)(a1:av):Prop:=(bn (2^21) (fun y:aa=>aa.Sm (2^21) y) a0)/\(a1.size<=(2^21))
def R:=eA gd md
def aq {a0 a1}(h:gd a0 a1):R ((a0.map aa.row),a1)=some ((bX.r (md a0 a1).1),(md a0 a1).2):=eB h
def aV:=CN [pL 53,pS] (.gK [(true,f226),(false,[fB])]) RT.dec R
def bH (a0)(a1)(hg:gd a0 a1):F (a0.map aa.row) a1=ret ((bX.r (md a0 a1).1),(md a0 a1).2):=by
 obtain ⟨H0,H1⟩:=hg
 unfold F md
 try simp only [SS]
 refine ct (Z15.aq H0) ?_
 refine au (fun b:bX×Bool=>ret (((bX.r b.1),b.2):fD×Bool)) (fun c1=>?_) (fun c1=>?_)
 ·all_goals exact fz
 ·have dc1:=c1
  try simp only [DC] at dc1
  try have tc1:=Z15.tr (by simpa using c1)
  refine ct (Z12.aq (le_trans H1 (by decide))) ?_
  refine au (fun b:bX×Bool=>ret (((bX.r b.1),b.2):fD×Bool)) (fun c2=>?_) (fun c2=>?_)
  ·all_goals exact fz
  ·have dc2:=c2
   try simp only [DC] at dc2
   try have tc2:=Z12.tr (by simpa using c2)
   refine ct (Z98.aq H0) ?_
   have fv3_:=Z98.fa a0 a1
   refine au (fun b:bX×Bool=>ret (((bX.r b.1),b.2):fD×Bool)) (fun c3=>?_) (fun c3=>?_)
   ·all_goals exact fz
   ·have dc3:=c3
    try simp only [DC] at dc3
    refine ct (Z101.aq H0) ?_
    have fv4_:=Z101.fa a0 a1
    refine au (fun b:bX×Bool=>ret (((bX.r b.1),b.2):fD×Bool)) (fun c4=>?_) (fun c4=>?_)
    ·have dc4:=c4
     try simp only [DC] at dc4
     refine aW (have:=(H0).1;dt) ?_
     refine aW (have:=(H0).1;have:=(H0).1;dt) ?_
     refine ct (Z10.aq (bn.getD (z:=aa.zero) H0 (by have:=(H0).1;first | assumption | omega | (simp (disch:=omega) only [wi];omega) | (simp;omega)))) ?_
     try simp only [SS]
     refine aW (have:=(H0).1;dt) ?_
     refine aW (have:=(H0).1;have:=(H0).1;dt) ?_
     refine ct (Z100.aq H0) ?_
     try simp only [SS]
     refine au (fun b:bX×Bool=>ret (((bX.r b.1),b.2):fD×Bool)) (fun c5=>?_) (fun c5=>?_)
     ·have dc5:=c5
      try simp only [DC] at dc5
      refine aW (have:=(H0).1;dt) ?_
      refine aW (have:=(H0).1;have:=(H0).1;dt) ?_
      refine ct (Z10.aq (bn.getD (z:=aa.zero) H0 (by have:=(H0).1;first | assumption | omega | (simp (disch:=omega) only [wi];omega) | (simp;omega)))) ?_
      try simp only [SS]
      refine aW (have:=(H0).1;dt) ?_
      refine aW (have:=(H0).1;have:=(H0).1;dt) ?_
      refine ct (Z100.aq H0) ?_
      try simp only [SS]
      all_goals exact fz
     ·all_goals exact fz
    ·have dc4:=c4
     try simp only [DC] at dc4
     refine au (fun b:bX×Bool=>ret (((bX.r b.1),b.2):fD×Bool)) (fun c6=>?_) (fun c6=>?_)
     ·have dc6:=c6
      try simp only [DC] at dc6
      refine aW (have:=(H0).1;dt) ?_
      refine aW (have:=(H0).1;have:=(H0).1;dt) ?_
      refine ct (Z10.aq (bn.getD (z:=aa.zero) H0 (by have:=(H0).1;first | assumption | omega | (simp (disch:=omega) only [wi];omega) | (simp;omega)))) ?_
      try simp only [SS]
      refine aW (have:=(H0).1;dt) ?_
      refine aW (have:=(H0).1;have:=(H0).1;dt) ?_
      refine ct (Z100.aq H0) ?_
      try simp only [SS]
      all_goals exact fz
     ·all_goals exact fz
def ah:cY 245 aV:=W2 71 F mix aJ bH (vN Z15.ah Z12.ah Z98.ah Z101.ah Z10.ah Z100.ah) Tryz.func245
def fY {a0:List aa}{a1:av}(hg:gd a0 a1):bX.Sm (2^21) ((md a0 a1).1):=by
 unfold gd at hg;unfold md
 have ez:aa.Sm (2^21) ⟨⟨#[]⟩,0,0,[]⟩:=⟨zero_le _,bn.nil⟩
 have pz:aU.Sm (2^21) ⟨0,[]⟩:=bn.nil
 have he:∀i,aa.Sm (2^21) (a0.getD i aa.zero):=fun i=>bn.BJ hg.1 ez
 have hp:∀x,aU.Sm (2^21) (Z100.md a0 x).1:=fun x=>Z100.fY hg.1
 simp only [Bool.cond_eq_ite]
 repeat' split
 all_goals (refine ⟨?_,?_,?_,?_⟩<;>first | exact he _ | exact hp _ | exact ez | exact pz)
end Z102
namespace Z103
def F (x0:bS)(x1:av):aD:=(call (Z63.R x0) fun v1=>(cond (!v1) (ret ((⟨[],false,(⟨(⟨#[]⟩:av),0,0,[]⟩:aC),(⟨0,[]⟩:bW),(⟨0,(⟨(⟨#[]⟩:av),0,0,[]⟩:aC),(⟨(⟨#[]⟩:av),0,0,[]⟩:aC),(⟨0,[]⟩:bW),(⟨0,[]⟩:bW)⟩:fD)⟩:bu):bu)) (call (Z12.R x1) fun v2=>(cond (!v2) (ret ((⟨[],false,(⟨(⟨#[]⟩:av),0,0,[]⟩:aC),(⟨0,[]⟩:bW),(⟨0,(⟨(⟨#[]⟩:av),0,0,[]⟩:aC),(⟨(⟨#[]⟩:av),0,0,[]⟩:aC),(⟨0,[]⟩:bW),(⟨0,[]⟩:bW)⟩:fD)⟩:bu):bu)) (call (Z72.R x0.aI) fun v3=>(call (Z98.R (x0.ck,x1)) fun v4=>(cond (v4>=0) (m2 v4 (x0.ck.length:Int) (call (Z10.R (aC.at x0.ck (toNat v4))) fun v5=>(call (Z100.R (x0.ck,x1)) fun v6=>ret ((⟨v3,true,v5,v6.1,(⟨0,(⟨(⟨#[]⟩:av),0,0,[]⟩:aC),(⟨(⟨#[]⟩:av),0,0,[]⟩:aC),(⟨0,[]⟩:bW),(⟨0,[]⟩:bW)⟩:fD)⟩:bu):bu)))) (call (Z102.R (x0.ck,x1)) fun v7=>ret ((⟨v3,false,(⟨(⟨#[]⟩:av),0,0,[]⟩:aC),(⟨0,[]⟩:bW),v7.1⟩:bu):bu)))))))))
def md (a0:aN)(a1:av):aB:=(cond (!(Z63.md a0)) (⟨[],false,(⟨((⟨#[]⟩:av):av),0,0,[]⟩:aa),(⟨0,[]⟩:aU),(⟨0,(⟨((⟨#[]⟩:av):av),0,0,[]⟩:aa),(⟨((⟨#[]⟩:av):av),0,0,[]⟩:aa),(⟨0,[]⟩:aU),(⟨0,[]⟩:aU)⟩:bX)⟩:aB) (cond (!(Z12.md a1)) (⟨[],false,(⟨((⟨#[]⟩:av):av),0,0,[]⟩:aa),(⟨0,[]⟩:aU),(⟨0,(⟨((⟨#[]⟩:av):av),0,0,[]⟩:aa),(⟨((⟨#[]⟩:av):av),0,0,[]⟩:aa),(⟨0,[]⟩:aU),(⟨0,[]⟩:aU)⟩:bX)⟩:aB) (cond ((Z98.md a0.ck a1)>=0) (⟨a0.aI,true,(a0.ck.getD (toNat (Z98.md a0.ck a1)) aa.zero),(Z100.md a0.ck a1).1,(⟨0,(⟨((⟨#[]⟩:av):av),0,0,[]⟩:aa),(⟨((⟨#[]⟩:av):av),0,0,[]⟩:aa),(⟨0,[]⟩:aU),(⟨0,[]⟩:aU)⟩:bX)⟩:aB) (⟨a0.aI,false,(⟨((⟨#[]⟩:av):av),0,0,[]⟩:aa),(⟨0,[]⟩:aU),(Z102.md a0.ck a1).1⟩:aB))))
def gd (a0:aN)(a1:av):Prop:=(aN.Sm (2^21) a0)/\(a1.size<=(2^21))
def R:=eA gd md
def aq {a0 a1}(h:gd a0 a1):R ((aN.r a0),a1)=some (aB.r (md a0 a1)):=eB h
def aV:=CN [.agg xd,pS] (.agg f228) RT.dec R
def bH (a0)(a1)(hg:gd a0 a1):F (aN.r a0) a1=ret (aB.r (md a0 a1)):=by
 obtain ⟨H0,H1⟩:=hg
 unfold F md
 try simp only [SS]
 refine ct (Z63.aq H0) ?_
 refine au (fun b:aB=>ret ((aB.r b):bu)) (fun c1=>?_) (fun c1=>?_)
 ·all_goals exact fz
 ·have dc1:=c1
  try simp only [DC] at dc1
  refine ct (Z12.aq (le_trans H1 (by decide))) ?_
  refine au (fun b:aB=>ret ((aB.r b):bu)) (fun c2=>?_) (fun c2=>?_)
  ·all_goals exact fz
  ·have dc2:=c2
   try simp only [DC] at dc2
   try have tc2:=Z12.tr (by simpa using c2)
   refine ct (Z72.aq H0.1) ?_
   try simp only [SS]
   refine ct (Z98.aq H0.2) ?_
   have fv4_:=Z98.fa a0.ck a1
   refine au (fun b:aB=>ret ((aB.r b):bu)) (fun c3=>?_) (fun c3=>?_)
   ·have dc3:=c3
    try simp only [DC] at dc3
    refine aW dt ?_
    refine aW (have:=(H0.2).1;dt) ?_
    refine ct (Z10.aq (bn.getD (z:=aa.zero) H0.2 (by first | assumption | omega | (simp (disch:=omega) only [wi];omega) | (simp;omega)))) ?_
    try simp only [SS]
    refine ct (Z100.aq H0.2) ?_
    try simp only [SS]
    all_goals exact fz
   ·refine ct (Z102.aq ⟨H0.2,H1⟩) ?_
    try simp only [SS]
    all_goals exact fz
def ah:cY 229 aV:=W2 52 F mix aJ bH (Cd Z63.ah Z12.ah Z72.ah Z98.ah Z10.ah Z100.ah Z102.ah) Tryz.func229
def fY {a0:aN}{a1:av}(hg:gd a0 a1):aB.Sm (2^21) (md a0 a1):=by
 unfold gd at hg;unfold md
 obtain ⟨⟨hc,hl⟩,_⟩:=hg
 have ez:aa.Sm (2^21) ⟨⟨#[]⟩,0,0,[]⟩:=⟨zero_le _,bn.nil⟩
 have pz:aU.Sm (2^21) ⟨0,[]⟩:=bn.nil
 have gz:bX.Sm (2^21) ⟨0,⟨⟨#[]⟩,0,0,[]⟩,⟨⟨#[]⟩,0,0,[]⟩,⟨0,[]⟩,⟨0,[]⟩⟩:=⟨ez,ez,pz,pz⟩
 have he:∀i,aa.Sm (2^21) (a0.ck.getD i aa.zero):=fun i=>bn.BJ hl ez
 have hp:∀x,aU.Sm (2^21) (Z100.md a0.ck x).1:=fun x=>Z100.fY hl
 have hga:bX.Sm (2^21) (Z102.md a0.ck a1).1:=Z102.fY ⟨hl,by assumption⟩
 simp only [Bool.cond_eq_ite]
 repeat' split
 all_goals (refine ⟨?_,?_,?_,?_⟩<;>first | exact hc | exact bn.nil | exact he _ | exact hp _ | exact hga | exact ez | exact pz | exact gz)
end Z103
namespace Z104
def F (x0:bT)(x1:Int)(x2:av):aD:=(call (Z82.R (x0,x1)) fun v1=>(cond (v1<0) (ret ((⟨[],false,(⟨(⟨#[]⟩:av),0,0,[]⟩:aC),(⟨0,[]⟩:bW),(⟨0,(⟨(⟨#[]⟩:av),0,0,[]⟩:aC),(⟨(⟨#[]⟩:av),0,0,[]⟩:aC),(⟨0,[]⟩:bW),(⟨0,[]⟩:bW)⟩:fD)⟩:bu):bu)) (cond (x0.ij==4) (ret ((⟨[],false,(⟨(⟨#[]⟩:av),0,0,[]⟩:aC),(⟨0,[]⟩:bW),(⟨0,(⟨(⟨#[]⟩:av),0,0,[]⟩:aC),(⟨(⟨#[]⟩:av),0,0,[]⟩:aC),(⟨0,[]⟩:bW),(⟨0,[]⟩:bW)⟩:fD)⟩:bu):bu)) (m2 v1 (x0.bE.length:Int) (call (Z103.R ((bS.at x0.bE (toNat v1)),x2)) fun v2=>(cond (x0.ij==1) (ret ((⟨v2.aI,v2.cM,(⟨v2.aE.bk,v2.aE.bp,(i64.wrap (v2.aE.bJ+1)),v2.aE.bg⟩:aC),v2.gN,v2.iM⟩:bu):bu)) (cond (x0.ij==2) (cond ((v2.aI.length:Int)>0) (cX ((0:Int)<=(i64.wrap ((v2.aI.length:Int) - 1))) (cX ((i64.wrap ((v2.aI.length:Int) - 1))<=(v2.aI.length:Int)) (ret ((⟨(List.take (toNat (i64.wrap ((v2.aI.length:Int) - 1))) v2.aI),v2.cM,v2.aE,v2.gN,v2.iM⟩:bu):bu)))) (ret (v2:bu))) (cond (x0.ij==3) (ret ((⟨v2.aI,false,(⟨(⟨#[]⟩:av),0,0,[]⟩:aC),(⟨0,[]⟩:bW),(⟨0,(⟨(⟨#[]⟩:av),0,0,[]⟩:aC),(⟨(⟨#[]⟩:av),0,0,[]⟩:aC),(⟨0,[]⟩:bW),(⟨0,[]⟩:bW)⟩:fD)⟩:bu):bu)) (ret (v2:bu))))))))))
def pats:List fH:=[.agg [.sl 139,aQ],.rd (.int .i64),.rd (.str)]
def res:RP:=.agg [.fr 78,.rd (.bool),.rd (.str),.rd (.int .i64),.rd (.int .i64),.fr 9,.rd (.int .i64),.fr 3,.rd (.int .i64),.rd (.str),.rd (.int .i64),.rd (.int .i64),.fr 9,.rd (.str),.rd (.int .i64),.rd (.int .i64),.fr 9,.rd (.int .i64),.fr 3,.rd (.int .i64),.fr 3]
def md (a0:aF)(a1:Int)(a2:av):aB:=(cond ((Z82.md a0 a1)<0) (⟨[],false,(⟨((⟨#[]⟩:av):av),0,0,[]⟩:aa),(⟨0,[]⟩:aU),(⟨0,(⟨((⟨#[]⟩:av):av),0,0,[]⟩:aa),(⟨((⟨#[]⟩:av):av),0,0,[]⟩:aa),(⟨0,[]⟩:aU),(⟨0,[]⟩:aU)⟩:bX)⟩:aB) (cond (a0.ij==4) (⟨[],false,(⟨((⟨#[]⟩:av):av),0,0,[]⟩:aa),(⟨0,[]⟩:aU),(⟨0,(⟨((⟨#[]⟩:av):av),0,0,[]⟩:aa),(⟨((⟨#[]⟩:av):av),0,0,[]⟩:aa),(⟨0,[]⟩:aU),(⟨0,[]⟩:aU)⟩:bX)⟩:aB) (cond (a0.ij==1) (⟨(Z103.md (a0.bE.getD (toNat (Z82.md a0 a1)) aN.zero) a2).aI,(Z103.md (a0.bE.getD (toNat (Z82.md a0 a1)) aN.zero) a2).cM,(⟨(Z103.md (a0.bE.getD (toNat (Z82.md a0 a1)) aN.zero) a2).aE.bk,(Z103.md (a0.bE.getD (toNat (Z82.md a0 a1)) aN.zero) a2).aE.bp,(i64.wrap ((Z103.md (a0.bE.getD (toNat (Z82.md a0 a1)) aN.zero) a2).aE.bJ+1)),(Z103.md (a0.bE.getD (toNat (Z82.md a0 a1)) aN.zero) a2).aE.bg⟩:aa),(Z103.md (a0.bE.getD (toNat (Z82.md a0 a1)) aN.zero) a2).gN,(Z103.md (a0.bE.getD (toNat (Z82.md a0 a1)) aN.zero) a2).iM⟩:aB) (cond (a0.ij==2) (cond (((Z103.md (a0.bE.getD (toNat (Z82.md a0 a1)) aN.zero) a2).aI.length:Int)>0) (⟨(List.take (toNat (i64.wrap (((Z103.md (a0.bE.getD (toNat (Z82.md a0 a1)) aN.zero) a2).aI.length:Int) - 1))) (Z103.md (a0.bE.getD (toNat (Z82.md a0 a1)) aN.zero) a2).aI),(Z103.md (a0.bE.getD (toNat (Z82.md a0 a1)) aN.zero) a2).cM,(Z103.md (a0.bE.getD (toNat (Z82.md a0 a1)) aN.zero) a2).aE,(Z103.md (a0.bE.getD (toNat (Z82.md a0 a1)) aN.zero) a2).gN,(Z103.md (a0.bE.getD (toNat (Z82.md a0 a1)) aN.zero) a2).iM⟩:aB) (Z103.md (a0.bE.getD (toNat (Z82.md a0 a1)) aN.zero) a2)) (cond (a0.ij==3) (⟨(Z103.md (a0.bE.getD (toNat (Z82.md a0 a1)) aN.zero) a2).aI,false,(⟨((⟨#[]⟩:av):av),0,0,[]⟩:aa),(⟨0,[]⟩:aU),(⟨0,(⟨((⟨#[]⟩:av):av),0,0,[]⟩:aa),(⟨((⟨#[]⟩:av):av),0,0,[]⟩:aa),(⟨0,[]⟩:aU),(⟨0,[]⟩:aU)⟩:bX)⟩:aB) (Z103.md (a0.bE.getD (toNat (Z82.md a0 a1)) aN.zero) a2))))))
def gd (a0:aF)(a1:Int)(a2:av):Prop:=(aF.Sm (2^21) a0)/\(a2.size<=(2^21))
def acc (ls:List L):bT×Int×av:=((bT.dec ls),(cA 2 ls),(Ad 3 ls))
def R:(bT×Int×av)->Option bu:=ot gd md
def aq {a0 a1 a2}(h:gd a0 a1 a2):R ((aF.r a0),a1,a2)=some (aB.r (md a0 a1 a2)):=nZ h
def aV:gW:=CN pats res acc R
def bH (a0:aF)(a1:Int)(a2:av)(hg:gd a0 a1 a2):F (aF.r a0) a1 a2=ret ((aB.r (md a0 a1 a2)):bu):=by
 obtain ⟨H0,H2⟩:=hg
 unfold F md
 try simp only [SS]
 refine ct (Z82.aq H0) ?_
 have fv1_:=Z82.fa a0 a1
 refine au (fun b:aB=>ret ((aB.r b):bu)) (fun c1=>?_) (fun c1=>?_)
 ·all_goals exact fz
 ·have dc1:=c1
  try simp only [DC] at dc1
  refine au (fun b:aB=>ret ((aB.r b):bu)) (fun c2=>?_) (fun c2=>?_)
  ·all_goals exact fz
  ·have dc2:=c2
   try simp only [DC] at dc2
   refine aW (have:=(H0).1;dt) ?_
   refine aW (have:=(H0).1;have:=(H0).1;dt) ?_
   refine ct (Z103.aq ⟨(bn.getD (z:=aN.zero) H0 (by have:=(H0).1;first | assumption | omega | (simp (disch:=omega) only [wi];omega) | (simp;omega))),H2⟩) ?_
   try simp only [SS]
   refine au (fun b:aB=>ret ((aB.r b):bu)) (fun c3=>?_) (fun c3=>?_)
   ·all_goals exact fz
   ·have dc3:=c3
    try simp only [DC] at dc3
    refine au (fun b:aB=>ret ((aB.r b):bu)) (fun c4=>?_) (fun c4=>?_)
    ·have dc4:=c4
     try simp only [DC] at dc4
     refine au (fun b:aB=>ret ((aB.r b):bu)) (fun c5=>?_) (fun c5=>?_)
     ·have dc5:=c5
      try simp only [DC] at dc5
      refine aW (have:=((Z103.fY (a0:=a0.bE.getD (toNat (Z82.md a0 a1)) aN.zero) (a1:=a2) ⟨(bn.getD (z:=aN.zero) H0 (by have:=(H0).1;first | assumption | omega | (simp (disch:=omega) only [wi];omega) | (simp;omega))),H2⟩).1).1;have:=(H0).1;dt) ?_
      refine aW (have:=((Z103.fY (a0:=a0.bE.getD (toNat (Z82.md a0 a1)) aN.zero) (a1:=a2) ⟨(bn.getD (z:=aN.zero) H0 (by have:=(H0).1;first | assumption | omega | (simp (disch:=omega) only [wi];omega) | (simp;omega))),H2⟩).1).1;have:=(H0).1;dt) ?_
      all_goals exact fz
     ·all_goals exact fz
    ·refine au (fun b:aB=>ret ((aB.r b):bu)) (fun c6=>?_) (fun c6=>?_)
     ·all_goals exact fz
     ·all_goals exact fz
def ah:cY 201 aV:=VT (live:=fun _=>[]) (nt:=57) (run:=fun _ x=>F x.1 x.2.1 x.2.2) mix aJ (gH Z82.ah Z103.ah) .nil Tryz.func201 (by kernel_rfl) (fun _ _=>by kernel_rfl) (fun _ a _ _ hg=>⟨0,bH a.1 a.2.1 a.2.2 hg⟩)
def fY {a0:aF}{a1:Int}{a2:av}(hg:gd a0 a1 a2):aB.Sm (2^21) (md a0 a1 a2):=by
 unfold gd at hg;unfold md
 obtain ⟨hs,hl⟩:=hg
 have ez:aa.Sm (2^21) ⟨⟨#[]⟩,0,0,[]⟩:=⟨zero_le _,bn.nil⟩
 have pz:aU.Sm (2^21) ⟨0,[]⟩:=bn.nil
 have gz:bX.Sm (2^21) ⟨0,⟨⟨#[]⟩,0,0,[]⟩,⟨⟨#[]⟩,0,0,[]⟩,⟨0,[]⟩,⟨0,[]⟩⟩:=⟨ez,ez,pz,pz⟩
 have zz:aN.Sm (2^21) aN.zero:=⟨bn.nil,bn.nil⟩
 have ha:∀i,aB.Sm (2^21) (Z103.md (a0.bE.getD i aN.zero) a2):=fun i=>Z103.fY ⟨bn.BJ hs zz,hl⟩
 have ht:∀i n,bn (2^21) (fun y:af=>af.Sm (2^21) y) (List.take n (List.drop 0 (Z103.md (a0.bE.getD i aN.zero) a2).aI)):=fun i n=>⟨le_trans (by simp;omega) (ha i).1.1,fun x hx=>(ha i).1.2 x (List.mem_of_mem_take hx)⟩
 have ht2:∀i n,bn (2^21) (fun y:af=>af.Sm (2^21) y) (List.take n (Z103.md (a0.bE.getD i aN.zero) a2).aI):=fun i n=>⟨le_trans (by simp;omega) (ha i).1.1,fun x hx=>(ha i).1.2 x (List.mem_of_mem_take hx)⟩
 simp only [Bool.cond_eq_ite]
 repeat' split
 all_goals first | exact ha _ | (refine ⟨?_,?_,?_,?_⟩<;>first | exact ht _ _ | exact ht2 _ _ | exact bn.nil | exact (ha _).1 | exact (ha _).2.1 | exact (ha _).2.2.1 | exact (ha _).2.2.2 | exact ez | exact pz | exact gz)
end Z104
namespace Z105
inductive Pt where
 | p0 (a:an) (b:Int) (c:av) (d:Int) (e:an)
def cZ:Pt->List V
 | .p0 a b c d e=>[.sl none 177 a,.int .i64 b,.str c,.own 0,.int .i64 d]
def eD:Pt->List aK
 | .p0 a b c d e=>[.row 228 e]
def step (J:Pt->aD):Pt->aD
 | .p0 a b c d e=>(cond (d<(a.length:Int)) (cond (d<4) (m2 d (a.length:Int) (call (Z104.R ((bT.at a (toNat d)),b,c)) fun v1=>(cX (fu (((e.length:Int)+1)*304)) (J (.p0 a b c (i64.wrap (d+1)) (e++[(bu.enc v1)])))))) (ret (e:an))) (ret (e:an)))
def start (J:Pt->aD)(x0:an)(x1:Int)(x2:av):aD:=J (.p0 x0 x1 x2 0 [])
def live:Nat->Live:=iD [(3,[(0,none),(1,none),(2,none),(7,some 228),(8,none)])]
def md (a0:List aF)(a1:Int)(a2:av):List aB:=(eP (S:=List aB) (β:=List aB) (fun (i1:Nat) (y1:aF) (s3:List aB)=>(cond ((i1:Int)<4) (.inl (s3++[(Z104.md y1 a1 a2)])) (.inr s3))) (fun (s3:List aB)=>s3) 0 a0 [])
def gd (a0:List aF)(a1:Int)(a2:av):Prop:=(bn (2^21) (fun y:aF=>aF.Sm (2^21) y) a0)/\(a2.size<=(2^21))
def R:=ot gd md
def aq {a0 a1 a2}(h:gd a0 a1 a2):R ((a0.map aF.row),a1,a2)=some ((md a0 a1 a2).map aB.row):=nZ h
def aV:=CN [pL 177,pI,pS] (oL 228) RT.dec R
def bH (a0)(a1)(a2)(hg:gd a0 a1 a2):∃n,start (iter step n) (a0.map aF.row) a1 a2=ret ((md a0 a1 a2).map aB.row):=by
 obtain ⟨H0,H2⟩:=hg
 unfold start md
 try simp only [SS]
 have Bh2:a0.length<=maxLen:=(by
   have:=(H0).1
   try simp only [maxLen] at *
   omega)
 refine ex_eq (out:=(fun b:List aB=>ret ((b.map aB.row):an))) (dD (z:=aF.zero)) ?_
 refine dW (p:=Pt.p0 (a0.map aF.row) a1 a2 0 ([].map aB.row)) fz ?_
 refine bV (pt:=fun (i1:Nat) (s3:List aB)=>Pt.p0 (a0.map aF.row) a1 a2 (i1:Int) (s3.map aB.row)) (s:=([]:List aB)) (out:=(fun b:List aB=>ret ((b.map aB.row):an))) (fun (i1:Nat) (s3:List aB)=>s3.length<=([]:List Int).length+1*i1) (fun J i1 s3 h2 hih2=>?_) (fun s3 hih2=>?_) (by simp)
 ·simp only [step,SS]
  have gr_:=hih2
  try simp only [LN] at gr_
  have bb_:=Bh2
  simp only [maxLen] at bb_
  have:=(H0).1
  refine bf.yes (by apply decide_eq_true;omega) ?_
  refine bf.bif (fun c4=>?_) (fun c4=>?_)
  ·have dc4:=c4
   try simp only [DC] at dc4
   refine bf.yes bA ?_
   refine bf.yes (bU h2) ?_
   refine cr (Z104.aq ⟨(bn.getD (z:=aF.zero) H0 h2),H2⟩) ?_
   try simp only [SS]
   refine bf.yes lm ?_
   refine bf.inl (by
     have g_:=hih2
     try simp only [LN] at g_ ⊢
     first | omega | (simp;done) | (simp;omega)) ?_
   rw [aR h2 Bh2]
   all_goals exact fz
  ·refine bf.inr ?_
   all_goals exact fz
 ·simp only [step,SS]
  have gr_:=hih2
  try simp only [LN] at gr_
  have:=(H0).1
  refine dQ (by apply decide_eq_false;omega) ?_
  refine ⟨0,?_⟩
  all_goals exact fz
def ah:cY 159 aV:=L3 31 (fun _=>3) cZ eD live step start mix aJ bH (dV Z104.ah) Tryz.func159
def Ca (a0:List aF)(a1:Int)(a2:av):md a0 a1 a2=(a0.take 4).map (fun y=>Z104.md y a1 a2):=by
 have key:∀(xs:List aF) (i:Nat) (s:List aB),i<=4->eP (S:=List aB) (β:=List aB) (fun (i1:Nat) (y1:aF) (s3:List aB)=>(cond ((i1:Int)<4) (.inl (s3++[(Z104.md y1 a1 a2)])) (.inr s3))) (fun (s3:List aB)=>s3) i xs s=s++(xs.take (4 - i)).map (fun y=>Z104.md y a1 a2):=by
  intro xs
  induction xs with
  | nil=>intro i s _;simp [eP]
  | cons x xs ih=>
   intro i s hi
   unfold eP
   by_cases h:i<4
   ·rw [decide_eq_true (by omega)]
    simp only [aL]
    rw [ih (i+1) _ (by omega),show 4 - i=(4 - (i+1))+1 by omega]
    simp
   ·rw [decide_eq_false (by omega),show 4 - i=0 by omega]
    simp
 exact (key a0 0 [] (by omega)).trans (by simp)
def fY {a0:List aF}{a1:Int}{a2:av}(hg:gd a0 a1 a2):bn (2^21) (fun y:aB=>aB.Sm (2^21) y) (md a0 a1 a2):=by
 unfold gd at hg
 rw [Ca]
 exact (bn.take hg.1).map fun x hx=>Z104.fY ⟨hx,hg.2⟩
end Z105
namespace Z106
def F (x0:bz)(x1:Int):aD:=(call (Z11.R (x1,x0.dy,x0.dx)) fun v1=>ret (v1:Bool))
def md (a0:ay)(a1:Int):Bool:=((Z11.md a1 a0.dy a0.dx):Bool)
def gd (a0:ay)(a1:Int):Prop:=True
def R:=eA gd md
def aq {a0 a1}(h:gd a0 a1):R ((ay.r a0),a1)=some (md a0 a1):=eB h
def aV:=CN [.agg sZ,pI] oB RT.dec R
def bH (a0)(a1)(hg:gd a0 a1):F (ay.r a0) a1=ret (md a0 a1):=by
 unfold F md
 try simp only [SS]
 refine ct (Z11.aq trivial) ?_
 all_goals exact fz
def ah:cY 226 aV:=W2 11 F mix aJ bH (dV Z11.ah) Tryz.func226
end Z106
namespace Z107
inductive Pt where
 | p0 (a b c:Int) (d:an) (e:Int)
def cZ:Pt->List V
 | .p0 a b c d e=>[.int .i64 a,.int .i64 b,.int .i64 c,.sl none 3 d,.int .i64 e]
def step (J:Pt->aD):Pt->aD
 | .p0 a b c d e=>(cond (c>1) (cond ((Int.tmod b 2)==1) (cond (e>=(d.length:Int)) (ret ((0,false):Int×Bool)) (cond ((Int.tmod b 2)==1) (m2 e (d.length:Int) (call (Z28.R ((iE d (toNat e)),a)) fun v1=>J (.p0 v1 (i64.wrap (Int.tdiv b 2)) (i64.wrap (Int.tdiv (i64.wrap (c+1)) 2)) d (i64.wrap (e+1))))) (m2 e (d.length:Int) (call (Z28.R (a,(iE d (toNat e)))) fun v2=>J (.p0 v2 (i64.wrap (Int.tdiv b 2)) (i64.wrap (Int.tdiv (i64.wrap (c+1)) 2)) d (i64.wrap (e+1))))))) (cond ((i64.wrap (b+1))<c) (cond (e>=(d.length:Int)) (ret ((0,false):Int×Bool)) (cond ((Int.tmod b 2)==1) (m2 e (d.length:Int) (call (Z28.R ((iE d (toNat e)),a)) fun v3=>J (.p0 v3 (i64.wrap (Int.tdiv b 2)) (i64.wrap (Int.tdiv (i64.wrap (c+1)) 2)) d (i64.wrap (e+1))))) (m2 e (d.length:Int) (call (Z28.R (a,(iE d (toNat e)))) fun v4=>J (.p0 v4 (i64.wrap (Int.tdiv b 2)) (i64.wrap (Int.tdiv (i64.wrap (c+1)) 2)) d (i64.wrap (e+1))))))) (J (.p0 a (i64.wrap (Int.tdiv b 2)) (i64.wrap (Int.tdiv (i64.wrap (c+1)) 2)) d e)))) (cond (e != (d.length:Int)) (ret ((0,false):Int×Bool)) (ret ((a,true):Int×Bool))))
def start (J:Pt->aD)(x0 x1 x2:Int)(x3:an):aD:=(call (Z11.R (x2,1,12)) fun v1=>(cond (!v1) (ret ((0,false):Int×Bool)) (call (Z11.R (x1,0,(i64.wrap (x2 - 1)))) fun v2=>(cond (!v2) (ret ((0,false):Int×Bool)) (J (.p0 x0 x1 x2 x3 0))))))
def live:Nat->Live:=iD [(4,mN [0,1,2,3,10])]
def tf:Nat->Int->Int->Int->List Int->Int×Bool
 | 0,_,_,_,_=>(0,false)
 | k+1,leaf,i,n,path=>
  if n>1 then
   if i % 2=1∨i+1<n then
    match path with
    | []=>(0,false)
    | p::ps=>tf k (if i % 2=1 then Z28.md p leaf else Z28.md leaf p) (i / 2) ((n+1) / 2) ps
   else tf k leaf (i / 2) ((n+1) / 2) path
  else if path.isEmpty then (leaf,true) else (0,false)
def md (a0 a1 a2:Int)(a3:List Int):Int×Bool:=(cond (!(Z11.md a2 1 12)) (0,false) (bif !(Z11.md a1 0 (i64.wrap (a2 - 1))) then (0,false) else tf 5 a0 a1 a2 a3))
def gd (a0 a1 a2:Int)(a3:List Int):Prop:=bn (2^38) (fun y:Int=>True) a3
def R:=xL gd md
def aq {a0 a1 a2 a3}(h:gd a0 a1 a2 a3):R (a0,a1,a2,(a3.map bh))=some ((md a0 a1 a2 a3).1,(md a0 a1 a2 a3).2):=yg h
def aV:=CN [pI,pI,pI,pL 3] (.gK [(false,[fI]),(false,[fB])]) RT.dec R
def bH (a0)(a1)(a2)(a3)(hg:gd a0 a1 a2 a3):∃n,start (iter step n) a0 a1 a2 (a3.map bh)=ret ((md a0 a1 a2 a3).1,(md a0 a1 a2 a3).2):=by
 have tm:∀b:Int,0<=b->b<=11->Int.tmod b 2=b % 2:=fun b h1 h2=>Int.tmod_eq_emod_of_nonneg h1
 have td:∀b:Int,0<=b->b<=13->i64.wrap (Int.tdiv b 2)=b / 2:=fun b h1 h2=>by
  rw [Int.tdiv_eq_ediv_of_nonneg h1,Go.IntWalk.i64_in _ (by omega)]
 have t1:∀b:Int,0<=b->b<=13->i64.wrap (b+1)=b+1:=fun b h1 h2=>Go.IntWalk.i64_in _ (by omega)
 obtain ⟨H3,_⟩:=hg
 have key:∀(k:Nat) (leaf i n:Int) (u:Nat),0<=i->i<n->n<=12->n<=2^k->u<=a3.length->∃m,iter step m (Pt.p0 leaf i n (a3.map bh) (u:Int))=ret ((tf (k+1) leaf i n (a3.drop u)).1,(tf (k+1) leaf i n (a3.drop u)).2):=by
  intro k
  induction k with
  | zero=>
   intro leaf i n u h1 h2 h3 h4 h5
   refine ⟨1,?_⟩
   show step (iter step 0) (Pt.p0 _ _ _ _ _)=_
   have hn:n=1:=by omega
   subst hn
   simp only [step,List.length_map]
   refine gu (by decide) ?_
   unfold tf
   rw [if_neg (by omega)]
   by_cases hu:u=a3.length
   ·rw [List.drop_eq_nil_of_le (by omega),show ((u:Int) != (a3.length:Int))=false from bne_eq_false_iff_eq.2 (by omega)];rfl
   ·have hne:(a3.drop u).isEmpty=false:=by
     rw [List.drop_eq_getElem_cons (by omega)];rfl
    rw [hne,show ((u:Int) != (a3.length:Int))=true from bne_iff_ne.2 (by omega)];rfl
  | succ k ih=>
   intro leaf i n u h1 h2 h3 h4 h5
   have hk:n<=2*2^k:=by rw [Int.pow_succ] at h4;omega
   unfold tf
   by_cases hn:n>1
   ·have e1:=tm i h1 (by omega)
    have e2:=td i h1 (by omega)
    have e3:=t1 n (by omega) (by omega)
    have e4:=td (n+1) (by omega) (by omega)
    have e5:=t1 i h1 (by omega)
    rw [if_pos hn]
    by_cases hc:i % 2=1∨i+1<n
    ·rw [if_pos hc]
     by_cases hu:u=a3.length
     ·refine ⟨1,?_⟩
      show step (iter step 0) (Pt.p0 _ _ _ _ _)=_
      rw [List.drop_eq_nil_of_le (by omega)]
      simp only [step,List.length_map,e1,e5]
      refine aW (decide_eq_true (by omega)) ?_
      by_cases hm:i % 2=1
      ·rw [hm]
       exact aW rfl (aW (decide_eq_true (by omega)) rfl)
      ·refine gu (beq_eq_false_iff_ne.2 hm) (aW (decide_eq_true (by omega)) (aW (decide_eq_true (by omega)) rfl))
     ·have hlt:u<a3.length:=by omega
      rw [List.drop_eq_getElem_cons hlt]
      obtain ⟨m,hm⟩:=ih (if i % 2=1 then Z28.md a3[u] leaf else Z28.md leaf a3[u]) (i / 2) ((n+1) / 2) (u+1) (by omega) (by omega) (by omega) (by omega) (by omega)
      refine ⟨m+1,?_⟩
      show step (iter step m) (Pt.p0 _ _ _ _ _)=_
      have w:i64.wrap ((u:Int)+1)=((u+1:Nat):Int):=by rw [Go.IntWalk.i64_in _ (by omega)];omega
      simp only [step,List.length_map,e1,e2,e3,e4,e5,w,jI,kV,eF hlt]
      refine aW (decide_eq_true (by omega)) ?_
      by_cases hp:i % 2=1
      ·rw [if_pos hp] at hm
       rw [hp]
       refine aW rfl (gu (decide_eq_false (by omega)) (aW rfl (aW (decide_eq_true (by omega)) (aW (decide_eq_true (by omega)) (ec _ (Z28.aq trivial) ?_)))))
       rw [if_pos rfl]
       exact hm
      ·rw [if_neg hp] at hm
       have hb:(i % 2==1)=false:=beq_eq_false_iff_ne.2 hp
       rw [hb]
       refine gu rfl (aW (decide_eq_true (by omega)) (gu (decide_eq_false (by omega)) (gu rfl (aW (decide_eq_true (by omega)) (aW (decide_eq_true (by omega)) (ec _ (Z28.aq trivial) ?_))))))
       rw [if_neg hp]
       exact hm
    ·rw [if_neg hc]
     obtain ⟨m,hm⟩:=ih leaf (i / 2) ((n+1) / 2) u (by omega) (by omega) (by omega) (by omega) h5
     refine ⟨m+1,?_⟩
     show step (iter step m) (Pt.p0 _ _ _ _ _)=_
     simp only [step,List.length_map,e1,e2,e3,e4,e5]
     have hb:(i % 2==1)=false:=beq_eq_false_iff_ne.2 (by omega)
     rw [hb]
     exact aW (decide_eq_true (by omega)) (gu rfl (gu (decide_eq_false (by omega)) hm))
   ·refine ⟨1,?_⟩
    show step (iter step 0) (Pt.p0 _ _ _ _ _)=_
    have hn1:n=1:=by omega
    subst hn1
    simp only [step,List.length_map]
    refine gu (by decide) ?_
    rw [if_neg (by omega)]
    by_cases hu:u=a3.length
    ·rw [List.drop_eq_nil_of_le (by omega),show ((u:Int) != (a3.length:Int))=false from bne_eq_false_iff_eq.2 (by omega)];rfl
    ·have hne:(a3.drop u).isEmpty=false:=by
      rw [List.drop_eq_getElem_cons (by omega)];rfl
     rw [hne,show ((u:Int) != (a3.length:Int))=true from bne_iff_ne.2 (by omega)];rfl
 unfold start md
 refine gv (Z11.md a2 1 12) (Z11.aq trivial) ?_
 cases hc:Z11.md a2 1 12
 ·exact ⟨0,rfl⟩
 simp only [Bool.not_true,aT]
 refine gv (Z11.md a1 0 (i64.wrap (a2 - 1))) (Z11.aq trivial) ?_
 cases hd:Z11.md a1 0 (i64.wrap (a2 - 1))
 ·exact ⟨0,rfl⟩
 have i1:1<=a2/\a2<=12:=by simpa [Z11.md] using hc
 rw [Go.IntWalk.i64_in _ (by omega)] at hd
 have i2:0<=a1/\a1<=a2 - 1:=by simpa [Z11.md] using hd
 exact key 4 a0 a1 a2 0 (by omega) (by omega) (by omega) (by omega) (by omega)
def ah:cY 252 aV:=L4 63 (fun _=>4) cZ (fun _=>[]) live step start mix aJ bH (gH Z11.ah Z28.ah) Tryz.func252
end Z107
namespace Z108
def F (x0 x1:Int)(x2:aC)(x3:bW):aD:=(call (Z26.R x2) fun v1=>(call (Z107.R (v1,x3.gO,x1,x3.bg)) fun v2=>(call (Z14.R x2) fun v3=>(cond v3 (cond v2.2 (call (Z31.R (x1,v2.1)) fun v4=>ret ((v4==x0):Bool)) aS) aS))))
def md (a0 a1:Int)(a2:aa)(a3:aU):Bool:=(cond (Z14.md a2) (cond ((Z107.md (Z26.md a2) a3.gO a1 a3.bg).2) (((Z31.md a1 ((Z107.md (Z26.md a2) a3.gO a1 a3.bg).1))==a0):Bool) (false:Bool)) (false:Bool))
def gd (a0 a1:Int)(a2:aa)(a3:aU):Prop:=(aa.Sm (2^21) a2)/\(aU.Sm (2^21) a3)
def R:=xL gd md
def aq {a0 a1 a2 a3}(h:gd a0 a1 a2 a3):R (a0,a1,(aa.r a2),(aU.r a3))=some (md a0 a1 a2 a3):=yg h
def aV:=CN [pI,pI,.agg xx,.agg AV] oB RT.dec R
def bH (a0)(a1)(a2)(a3)(hg:gd a0 a1 a2 a3):F a0 a1 (aa.r a2) (aU.r a3)=ret (md a0 a1 a2 a3):=by
 obtain ⟨H2,H3⟩:=hg
 unfold F md
 try simp only [SS]
 refine ct (Z26.aq H2) ?_
 refine ct (Z107.aq (H3.mono (by decide) (fun x hx=>trivial))) ?_
 refine ct (Z14.aq H2) ?_
 refine au ret (fun c1=>?_) (fun _=>rfl)
 refine au ret (fun c2=>?_) (fun _=>rfl)
 refine ct (Z31.aq trivial) ?_
 all_goals exact fz
def ah:cY 238 aV:=W4 34 F mix aJ bH (tG Z26.ah Z107.ah Z14.ah Z31.ah) Tryz.func238
end Z108
namespace Z109
inductive Pt where
 | p0 (a b:an) (c:Int)
def cZ:Pt->List V
 | .p0 a b c=>[.sl none 9 a,.sl none 9 b,.int .i64 c]
def step (J:Pt->aD):Pt->aD
 | .p0 a b c=>(cond (c<(a.length:Int)) (m2 c (a.length:Int) (m2 c (b.length:Int) (cond (!((tw a (toNat c))==(tw b (toNat c)))) aS (J (.p0 a b (i64.wrap (c+1))))))) ff)
def start (J:Pt->aD)(x0 x1:an):aD:=(cond ((x0.length:Int) != (x1.length:Int)) aS (J (.p0 x0 x1 0)))
def live:Nat->Live:=iD [(4,mN [0,1,5])]
def md (a0 a1:List av):Bool:=(bif ((a0.length:Int) != (a1.length:Int)) then (false:Bool) else (eW (S:=Unit) (β:=Bool) (fun (i2:Nat) (s4:Unit)=>(cond (!((a0.getD i2 ⟨#[]⟩)==(a1.getD i2 ⟨#[]⟩))) (.inr (false:Bool)) (.inl ()))) (fun (s4:Unit)=>(true:Bool)) a0.length 0 ()))
def gd (a0 a1:List av):Prop:=(bn (2^21) (fun y:av=>y.size<=(2^21)) a0)/\(bn (2^21) (fun y:av=>y.size<=(2^21)) a1)
def R:=eA gd md
def aq {a0 a1}(h:gd a0 a1):R ((a0.map bY),(a1.map bY))=some (md a0 a1):=eB h
def aV:=CN [pL 9,pL 9] oB RT.dec R
def bH (a0)(a1)(hg:gd a0 a1):∃n,start (iter step n) (a0.map bY) (a1.map bY)=ret (md a0 a1):=by
 obtain ⟨H0,H1⟩:=hg
 unfold start md
 try simp only [SS]
 refine iG ret (fun _=>⟨0,rfl⟩) (fun c1=>?_)
 have dc1:=c1
 try simp only [DC] at dc1
 have Bh3:a0.length<=maxLen:=(by
   have:=(H0).1
   try simp only [maxLen] at *
   omega)
 refine dW (p:=Pt.p0 (a0.map bY) (a1.map bY) 0) fz ?_
 refine bV (pt:=fun (i2:Nat) (s4:Unit)=>Pt.p0 (a0.map bY) (a1.map bY) (i2:Int)) (s:=(():Unit)) (out:=ret) (fun _ _=>True) (fun J i2 s4 h3 hih3=>?_) (fun s4 hih3=>?_) trivial
 ·simp only [step,SS]
  have bb_:=Bh3
  simp only [maxLen] at bb_
  have:=(H0).1
  refine bf.yes (by apply decide_eq_true;omega) ?_
  refine bf.yes bA ?_
  refine bf.yes (bU h3) ?_
  refine bf.yes bA ?_
  refine bf.yes (have:=(H1).1;dt) ?_
  refine bf.bif (fun _=>bf.inr rfl) (fun c5=>?_)
  refine bf.inl trivial ?_
  rw [aR h3 Bh3]
  all_goals exact fz
 ·simp only [step,SS]
  have:=(H0).1
  refine dQ (by apply decide_eq_false;omega) ?_
  refine ⟨0,?_⟩
  all_goals exact fz
def ah:cY 124 aV:=L2 26 (fun _=>4) cZ (fun _=>[]) live step start mix aJ bH .nil Tryz.func124
def md_eq (a0 a1:List av):md a0 a1=pY a0 a1:=by
 unfold md
 refine pF (⟨#[]⟩) (fun i s h h2=>?_) (fun s=>rfl)
 simp only [bne,rG,bool_beq,nT]
 cases pY _ _<;>rfl
end Z109
namespace Z110
def F (x0 x1:aC):aD:=(cond (x0.bk==x1.bk) (cond (x0.bp==x1.bp) (cond (x0.bJ==x1.bJ) (call (Z109.R (x0.bg,x1.bg)) fun v1=>ret (v1:Bool)) aS) aS) aS)
def md (a0 a1:aa):Bool:=(cond (a0.bk==a1.bk) (cond (a0.bp==a1.bp) (cond (a0.bJ==a1.bJ) ((Z109.md a0.bg a1.bg):Bool) (false:Bool)) (false:Bool)) (false:Bool))
def gd (a0 a1:aa):Prop:=(aa.Sm (2^21) a0)/\(aa.Sm (2^21) a1)
def R:=eA gd md
def aq {a0 a1}(h:gd a0 a1):R ((aa.r a0),(aa.r a1))=some (md a0 a1):=eB h
def aV:=CN [.agg xx,.agg xx] oB RT.dec R
def bH (a0)(a1)(hg:gd a0 a1):F (aa.r a0) (aa.r a1)=ret (md a0 a1):=by
 obtain ⟨H0,H1⟩:=hg
 unfold F md
 try simp only [SS]
 refine au ret (fun c1=>?_) (fun _=>rfl)
 refine au ret (fun c2=>?_) (fun _=>rfl)
 refine au ret (fun c3=>?_) (fun _=>rfl)
 refine ct (Z109.aq ⟨H0.2,H1.2⟩) ?_
 all_goals exact fz
def ah:cY 119 aV:=W2 31 F mix aJ bH (dV Z109.ah) Tryz.func119
def md_eq (a0 a1:aa):md a0 a1=pY a0 a1:=by
 unfold md
 cases a0;cases a1
 rw [Bool.eq_iff_iff]
 simp [fm,nT,aa.mk.injEq,Z109.md_eq]
 try (constructor<;>(intro h;simp_all))
end Z110
namespace Z111
def F (x0 x1:bW):aD:=(cond (x0.gO==x1.gO) (call (Z52.R (x0.bg,x1.bg)) fun v1=>ret (v1:Bool)) aS)
def md (a0 a1:aU):Bool:=(cond (a0.gO==a1.gO) ((Z52.md a0.bg a1.bg):Bool) (false:Bool))
def gd (a0 a1:aU):Prop:=(aU.Sm (2^21) a0)/\(aU.Sm (2^21) a1)
def R:=eA gd md
def aq {a0 a1}(h:gd a0 a1):R ((aU.r a0),(aU.r a1))=some (md a0 a1):=eB h
def aV:=CN [.agg AV,.agg AV] oB RT.dec R
def bH (a0)(a1)(hg:gd a0 a1):F (aU.r a0) (aU.r a1)=ret (md a0 a1):=by
 obtain ⟨H0,H1⟩:=hg
 unfold F md
 try simp only [SS]
 refine au ret (fun c1=>?_) (fun _=>rfl)
 refine ct (Z52.aq ⟨(H0.mono (by decide) (fun x hx=>trivial)),(H1.mono (by decide) (fun x hx=>trivial))⟩) ?_
 all_goals exact fz
def ah:cY 253 aV:=W2 17 F mix aJ bH (dV Z52.ah) Tryz.func253
end Z111
namespace Z112
def F (x0 x1:fD):aD:=(cond (x0.gO==x1.gO) (call (Z110.R (x0.bF,x1.bF)) fun v1=>(cond v1 (call (Z110.R (x0.cS,x1.cS)) fun v2=>(cond v2 (call (Z111.R (x0.gj,x1.gj)) fun v3=>(cond v3 (call (Z111.R (x0.dn,x1.dn)) fun v4=>ret (v4:Bool)) aS)) aS)) aS)) aS)
def md (a0 a1:bX):Bool:=(cond (a0.gO==a1.gO) (cond (Z110.md a0.bF a1.bF) (cond (Z110.md a0.cS a1.cS) (cond (Z111.md a0.gj a1.gj) ((Z111.md a0.dn a1.dn):Bool) (false:Bool)) (false:Bool)) (false:Bool)) (false:Bool))
def gd (a0 a1:bX):Prop:=(bX.Sm (2^21) a0)/\(bX.Sm (2^21) a1)
def R:=eA gd md
def aq {a0 a1}(h:gd a0 a1):R ((bX.r a0),(bX.r a1))=some (md a0 a1):=eB h
def aV:=CN [.agg Ci,.agg Ci] oB RT.dec R
def bH (a0)(a1)(hg:gd a0 a1):F (bX.r a0) (bX.r a1)=ret (md a0 a1):=by
 obtain ⟨H0,H1⟩:=hg
 unfold F md
 try simp only [SS]
 refine au ret (fun c1=>?_) (fun _=>rfl)
 refine ct (Z110.aq ⟨H0.1,H1.1⟩) ?_
 refine au ret (fun c2=>?_) (fun _=>rfl)
 refine ct (Z110.aq ⟨H0.2.1,H1.2.1⟩) ?_
 refine au ret (fun c3=>?_) (fun _=>rfl)
 refine ct (Z111.aq ⟨H0.2.2.1,H1.2.2.1⟩) ?_
 refine au ret (fun c4=>?_) (fun _=>rfl)
 refine ct (Z111.aq ⟨H0.2.2.2,H1.2.2.2⟩) ?_
 all_goals exact fz
def ah:cY 239 aV:=W2 38 F mix aJ bH (gH Z110.ah Z111.ah) Tryz.func239
end Z112
namespace Z113
def F (x0:aC)(x1:bW):aD:=(call (Z110.R (x0,(⟨(⟨#[]⟩:av),0,0,[]⟩:aC))) fun v1=>(cond v1 (call (Z111.R (x1,(⟨0,[]⟩:bW))) fun v2=>ret (v2:Bool)) aS))
def md (a0:aa)(a1:aU):Bool:=(cond (Z110.md a0 (⟨((⟨#[]⟩:av):av),0,0,[]⟩:aa)) ((Z111.md a1 (⟨0,[]⟩:aU)):Bool) (false:Bool))
def gd (a0:aa)(a1:aU):Prop:=(aa.Sm (2^21) a0)/\(aU.Sm (2^21) a1)
def R:=eA gd md
def aq {a0 a1}(h:gd a0 a1):R ((aa.r a0),(aU.r a1))=some (md a0 a1):=eB h
def aV:=CN [.agg xx,.agg AV] oB RT.dec R
def bH (a0)(a1)(hg:gd a0 a1):F (aa.r a0) (aU.r a1)=ret (md a0 a1):=by
 obtain ⟨H0,H1⟩:=hg
 unfold F md
 try simp only [SS]
 refine ct (Z110.aq (a1:=(⟨((⟨#[]⟩:av):av),0,0,[]⟩:aa)) ⟨H0,⟨(by decide),bn.nil⟩⟩) ?_
 refine au ret (fun c1=>?_) (fun _=>rfl)
 refine ct (Z111.aq (a1:=(⟨0,[]⟩:aU)) ⟨H1,bn.nil⟩) ?_
 all_goals exact fz
def ah:cY 241 aV:=W2 13 F mix aJ bH (gH Z110.ah Z111.ah) Tryz.func241
end Z113
namespace Z114
def F (x0 x1:Int)(x2:av)(x3:fD):aD:=(call (Z12.R x2) fun v1=>(cond (!v1) aS (call (Z11.R (x3.gO,0,x1)) fun v2=>(cond (!v2) aS (cond (x1==0) (call (Z32.R []) fun v3=>(cond (x0 != v3) aS (cond (x3.gO==0) (call (Z113.R (x3.bF,x3.gj)) fun v4=>(cond (!v4) aS (cond (x3.gO==x1) (call (Z113.R (x3.cS,x3.dn)) fun v5=>ret (v5:Bool)) (call (Z108.R (x0,x1,x3.cS,x3.dn)) fun v6=>(cond v6 (cond (x3.dn.gO==x3.gO) (call (Z8.R (x3.cS.bk,x2)) fun v7=>ret ((v7==1):Bool)) aS) aS))))) (call (Z108.R (x0,x1,x3.bF,x3.gj)) fun v8=>(cond (!v8) aS (cond (x3.gj.gO != (i64.wrap (x3.gO - 1))) aS (call (Z8.R (x3.bF.bk,x2)) fun v9=>(cond (v9 != (-1)) aS (cond (x3.gO==x1) (call (Z113.R (x3.cS,x3.dn)) fun v10=>ret (v10:Bool)) (call (Z108.R (x0,x1,x3.cS,x3.dn)) fun v11=>(cond v11 (cond (x3.dn.gO==x3.gO) (call (Z8.R (x3.cS.bk,x2)) fun v12=>ret ((v12==1):Bool)) aS) aS))))))))))) (cond (x3.gO==0) (call (Z113.R (x3.bF,x3.gj)) fun v13=>(cond (!v13) aS (cond (x3.gO==x1) (call (Z113.R (x3.cS,x3.dn)) fun v14=>ret (v14:Bool)) (call (Z108.R (x0,x1,x3.cS,x3.dn)) fun v15=>(cond v15 (cond (x3.dn.gO==x3.gO) (call (Z8.R (x3.cS.bk,x2)) fun v16=>ret ((v16==1):Bool)) aS) aS))))) (call (Z108.R (x0,x1,x3.bF,x3.gj)) fun v17=>(cond (!v17) aS (cond (x3.gj.gO != (i64.wrap (x3.gO - 1))) aS (call (Z8.R (x3.bF.bk,x2)) fun v18=>(cond (v18 != (-1)) aS (cond (x3.gO==x1) (call (Z113.R (x3.cS,x3.dn)) fun v19=>ret (v19:Bool)) (call (Z108.R (x0,x1,x3.cS,x3.dn)) fun v20=>(cond v20 (cond (x3.dn.gO==x3.gO) (call (Z8.R (x3.cS.bk,x2)) fun v21=>ret ((v21==1):Bool)) aS) aS))))))))))))))
def md (a0 a1:Int)(a2:av)(a3:bX):Bool:=(cond (!(Z12.md a2)) (false:Bool) (cond (!(Z11.md a3.gO 0 a1)) (false:Bool) (cond (a1==0) (cond (a0 != (Z32.md [])) (false:Bool) (cond (a3.gO==0) (cond (!(Z113.md a3.bF a3.gj)) (false:Bool) (cond (a3.gO==a1) ((Z113.md a3.cS a3.dn):Bool) (cond (Z108.md a0 a1 a3.cS a3.dn) (cond (a3.dn.gO==a3.gO) (((Z8.md a3.cS.bk a2)==1):Bool) (false:Bool)) (false:Bool)))) (cond (!(Z108.md a0 a1 a3.bF a3.gj)) (false:Bool) (cond (a3.gj.gO != (i64.wrap (a3.gO - 1))) (false:Bool) (cond ((Z8.md a3.bF.bk a2) != (-1)) (false:Bool) (cond (a3.gO==a1) ((Z113.md a3.cS a3.dn):Bool) (cond (Z108.md a0 a1 a3.cS a3.dn) (cond (a3.dn.gO==a3.gO) (((Z8.md a3.cS.bk a2)==1):Bool) (false:Bool)) (false:Bool)))))))) (cond (a3.gO==0) (cond (!(Z113.md a3.bF a3.gj)) (false:Bool) (cond (a3.gO==a1) ((Z113.md a3.cS a3.dn):Bool) (cond (Z108.md a0 a1 a3.cS a3.dn) (cond (a3.dn.gO==a3.gO) (((Z8.md a3.cS.bk a2)==1):Bool) (false:Bool)) (false:Bool)))) (cond (!(Z108.md a0 a1 a3.bF a3.gj)) (false:Bool) (cond (a3.gj.gO != (i64.wrap (a3.gO - 1))) (false:Bool) (cond ((Z8.md a3.bF.bk a2) != (-1)) (false:Bool) (cond (a3.gO==a1) ((Z113.md a3.cS a3.dn):Bool) (cond (Z108.md a0 a1 a3.cS a3.dn) (cond (a3.dn.gO==a3.gO) (((Z8.md a3.cS.bk a2)==1):Bool) (false:Bool)) (false:Bool))))))))))
def gd (a0 a1:Int)(a2:av)(a3:bX):Prop:=(a2.size<=(2^21))/\(bX.Sm (2^21) a3)
def R:=xL gd md
def aq {a0 a1 a2 a3}(h:gd a0 a1 a2 a3):R (a0,a1,a2,(bX.r a3))=some (md a0 a1 a2 a3):=yg h
def aV:=CN [pI,pI,pS,.agg Ci] oB RT.dec R
def bH (a0)(a1)(a2)(a3)(hg:gd a0 a1 a2 a3):F a0 a1 a2 (bX.r a3)=ret (md a0 a1 a2 a3):=by
 obtain ⟨H2,H3⟩:=hg
 unfold F md
 try simp only [SS]
 refine ct (Z12.aq (le_trans H2 (by decide))) ?_
 refine au ret (fun _=>rfl) (fun c1=>?_)
 refine ct (Z11.aq trivial) ?_
 refine au ret (fun _=>rfl) (fun c2=>?_)
 refine au ret (fun c3=>?_) (fun c3=>?_)
 ·refine ec (Z32.md []) (rq (Z32.aq (a0:=[]) bn.nil)) ?_
  refine au ret (fun _=>rfl) (fun c4=>?_)
  refine au ret (fun c5=>?_) (fun c5=>?_)
  ·refine ct (Z113.aq ⟨H3.1,H3.2.2.1⟩) ?_
   refine au ret (fun _=>rfl) (fun c6=>?_)
   refine au ret (fun c7=>?_) (fun c7=>?_)
   ·refine ct (Z113.aq ⟨H3.2.1,H3.2.2.2⟩) ?_
    all_goals exact fz
   ·refine ct (Z108.aq ⟨H3.2.1,H3.2.2.2⟩) ?_
    refine au ret (fun c8=>?_) (fun _=>rfl)
    refine au ret (fun c9=>?_) (fun _=>rfl)
    refine ct (Z8.aq trivial) ?_
    all_goals exact fz
  ·refine ct (Z108.aq ⟨H3.1,H3.2.2.1⟩) ?_
   refine au ret (fun _=>rfl) (fun c10=>?_)
   refine au ret (fun _=>rfl) (fun c11=>?_)
   refine ct (Z8.aq trivial) ?_
   refine au ret (fun _=>rfl) (fun c12=>?_)
   refine au ret (fun c13=>?_) (fun c13=>?_)
   ·refine ct (Z113.aq ⟨H3.2.1,H3.2.2.2⟩) ?_
    all_goals exact fz
   ·refine ct (Z108.aq ⟨H3.2.1,H3.2.2.2⟩) ?_
    refine au ret (fun c14=>?_) (fun _=>rfl)
    refine au ret (fun c15=>?_) (fun _=>rfl)
    refine ct (Z8.aq trivial) ?_
    all_goals exact fz
 ·refine au ret (fun c16=>?_) (fun c16=>?_)
  ·refine ct (Z113.aq ⟨H3.1,H3.2.2.1⟩) ?_
   refine au ret (fun _=>rfl) (fun c17=>?_)
   refine au ret (fun c18=>?_) (fun c18=>?_)
   ·refine ct (Z113.aq ⟨H3.2.1,H3.2.2.2⟩) ?_
    all_goals exact fz
   ·refine ct (Z108.aq ⟨H3.2.1,H3.2.2.2⟩) ?_
    refine au ret (fun c19=>?_) (fun _=>rfl)
    refine au ret (fun c20=>?_) (fun _=>rfl)
    refine ct (Z8.aq trivial) ?_
    all_goals exact fz
  ·refine ct (Z108.aq ⟨H3.1,H3.2.2.1⟩) ?_
   refine au ret (fun _=>rfl) (fun c21=>?_)
   refine au ret (fun _=>rfl) (fun c22=>?_)
   refine ct (Z8.aq trivial) ?_
   refine au ret (fun _=>rfl) (fun c23=>?_)
   refine au ret (fun c24=>?_) (fun c24=>?_)
   ·refine ct (Z113.aq ⟨H3.2.1,H3.2.2.2⟩) ?_
    all_goals exact fz
   ·refine ct (Z108.aq ⟨H3.2.1,H3.2.2.2⟩) ?_
    refine au ret (fun c25=>?_) (fun _=>rfl)
    refine au ret (fun c26=>?_) (fun _=>rfl)
    refine ct (Z8.aq trivial) ?_
    all_goals exact fz
def ah:cY 240 aV:=W4 95 F mix aJ bH (vN Z12.ah Z11.ah Z32.ah Z113.ah Z108.ah Z8.ah) Tryz.func240
end Z114
namespace Z115
def F (x0:bz)(x1:av)(x2:bu):aD:=(cond x2.cM (cond (x2.aE.bk==x1) (call (Z108.R (x0.eu,x0.cQ,x2.aE,x2.gN)) fun v1=>(cond v1 (call (Z112.R (x2.iM,(⟨0,(⟨(⟨#[]⟩:av),0,0,[]⟩:aC),(⟨(⟨#[]⟩:av),0,0,[]⟩:aC),(⟨0,[]⟩:bW),(⟨0,[]⟩:bW)⟩:fD))) fun v2=>ret (v2:Bool)) aS)) aS) (call (Z114.R (x0.eu,x0.cQ,x1,x2.iM)) fun v3=>(cond v3 (call (Z113.R (x2.aE,x2.gN)) fun v4=>ret (v4:Bool)) aS)))
def md (a0:ay)(a1:av)(a2:aB):Bool:=(cond a2.cM (cond (a2.aE.bk==a1) (cond (Z108.md a0.eu a0.cQ a2.aE a2.gN) ((Z112.md a2.iM (⟨0,(⟨((⟨#[]⟩:av):av),0,0,[]⟩:aa),(⟨((⟨#[]⟩:av):av),0,0,[]⟩:aa),(⟨0,[]⟩:aU),(⟨0,[]⟩:aU)⟩:bX)):Bool) (false:Bool)) (false:Bool)) (cond (Z114.md a0.eu a0.cQ a1 a2.iM) ((Z113.md a2.aE a2.gN):Bool) (false:Bool)))
def gd (a0:ay)(a1:av)(a2:aB):Prop:=(a1.size<=(2^21))/\(aB.Sm (2^21) a2)
def R:=ot gd md
def aq {a0 a1 a2}(h:gd a0 a1 a2):R ((ay.r a0),a1,(aB.r a2))=some (md a0 a1 a2):=nZ h
def aV:=CN [.agg sZ,pS,.agg CY] oB RT.dec R
def bH (a0)(a1)(a2)(hg:gd a0 a1 a2):F (ay.r a0) a1 (aB.r a2)=ret (md a0 a1 a2):=by
 obtain ⟨H1,H2⟩:=hg
 unfold F md
 try simp only [SS]
 refine au ret (fun c1=>?_) (fun c1=>?_)
 ·refine au ret (fun c2=>?_) (fun _=>rfl)
  refine ct (Z108.aq ⟨H2.2.1,H2.2.2.1⟩) ?_
  refine au ret (fun c3=>?_) (fun _=>rfl)
  refine ct (Z112.aq (a1:=(⟨0,(⟨((⟨#[]⟩:av):av),0,0,[]⟩:aa),(⟨((⟨#[]⟩:av):av),0,0,[]⟩:aa),(⟨0,[]⟩:aU),(⟨0,[]⟩:aU)⟩:bX)) ⟨H2.2.2.2,⟨⟨(by decide),bn.nil⟩,⟨(by decide),bn.nil⟩,bn.nil,bn.nil⟩⟩) ?_
  all_goals exact fz
 ·refine ct (Z114.aq ⟨H1,H2.2.2.2⟩) ?_
  refine au ret (fun c4=>?_) (fun _=>rfl)
  refine ct (Z113.aq ⟨H2.2.1,H2.2.2.1⟩) ?_
  all_goals exact fz
def ah:cY 227 aV:=W3 46 F mix aJ bH (tG Z108.ah Z112.ah Z114.ah Z113.ah) Tryz.func227
end Z115
namespace Z116
def F (x0:Int)(x1:av)(x2:bu)(x3:Int):aD:=(call (Z61.R x2.aI) fun v1=>(cond (!v1.2) (ret (3:Int)) (cond (v1.1.bM != x0) (ret (2:Int)) (call (Z106.R (v1.1,x3)) fun v2=>(cond (!v2) (ret (4:Int)) (cond v1.1.bO (ret (5:Int)) (call (Z115.R (v1.1,x1,x2)) fun v3=>(cond (!v3) (ret (6:Int)) (ret (1:Int))))))))))
def md (a0:Int)(a1:av)(a2:aB)(a3:Int):Int:=(cond (!(Z61.md a2.aI).2) (3:Int) (cond ((Z61.md a2.aI).1.bM != a0) (2:Int) (cond (!(Z106.md ((Z61.md a2.aI).1) a3)) (4:Int) (cond ((Z61.md a2.aI).1.bO) (5:Int) (cond (!(Z115.md ((Z61.md a2.aI).1) a1 a2)) (6:Int) (1:Int))))))
def gd (a0:Int)(a1:av)(a2:aB)(a3:Int):Prop:=(a1.size<=(2^21))/\(aB.Sm (2^21) a2)
def R:=xL gd md
def aq {a0 a1 a2 a3}(h:gd a0 a1 a2 a3):R (a0,a1,(aB.r a2),a3)=some (md a0 a1 a2 a3):=yg h
def aV:=CN [pI,pS,.agg CY,pI] oI RT.dec R
def bH (a0)(a1)(a2)(a3)(hg:gd a0 a1 a2 a3):F a0 a1 (aB.r a2) a3=ret (md a0 a1 a2 a3):=by
 obtain ⟨H1,H2⟩:=hg
 unfold F md
 try simp only [SS]
 refine ct (Z61.aq H2.1) ?_
 try simp only [SS]
 refine au ret (fun _=>rfl) (fun c1=>?_)
 refine au ret (fun _=>rfl) (fun c2=>?_)
 refine ct (Z106.aq trivial) ?_
 refine au ret (fun _=>rfl) (fun c3=>?_)
 refine au ret (fun _=>rfl) (fun c4=>?_)
 refine ct (Z115.aq ⟨H1,H2⟩) ?_
 refine au ret (fun _=>rfl) (fun _=>rfl)
def ah:cY 199 aV:=W4 39 F mix aJ bH (nD Z61.ah Z106.ah Z115.ah) Tryz.func199
end Z116
namespace Z117
inductive Pt where
 | p0 (a:Int) (b c:aY)
def cZ:Pt->List V
 | .p0 a b c=>[.bK 0 0,.bK 1 0,.int .i64 a]
def eD:Pt->List aK
 | .p0 a b c=>[.box [.int .i64 b.aG.bM,.int .i64 b.aG.cV,.int .i64 b.aG.bp,.int .i64 b.aG.dy,.int .i64 b.aG.dx,.int .i64 b.aG.cQ,.int .i64 b.aG.eu,.int .i64 b.aG.eU,.sl none 3 b.aG.cq.bR,.int .i64 b.aG.cq.dR,.sl none 3 b.aG.cg.bR,.int .i64 b.aG.cg.dR,.int .i64 b.aG.ef,.sl none 3 b.aG.bZ.bR,.int .i64 b.aG.bZ.dR,.bool b.aG.bO,.sl none 209 b.eE],.box [.int .i64 c.aG.bM,.int .i64 c.aG.cV,.int .i64 c.aG.bp,.int .i64 c.aG.dy,.int .i64 c.aG.dx,.int .i64 c.aG.cQ,.int .i64 c.aG.eu,.int .i64 c.aG.eU,.sl none 3 c.aG.cq.bR,.int .i64 c.aG.cq.dR,.sl none 3 c.aG.cg.bR,.int .i64 c.aG.cg.dR,.int .i64 c.aG.ef,.sl none 3 c.aG.bZ.bR,.int .i64 c.aG.bZ.dR,.bool c.aG.bO,.sl none 209 c.eE]]
def step (J:Pt->aD):Pt->aD
 | .p0 a b c=>(cond (a<(b.eE.length:Int)) (m2 a (b.eE.length:Int) (m2 a (c.eE.length:Int) (cond (!((((cz.at b.eE (toNat a)).sD:Int)==(cz.at c.eE (toNat a)).sD)&&((((cz.at b.eE (toNat a)).yj:Int)==(cz.at c.eE (toNat a)).yj)&&true))) aS (J (.p0 (i64.wrap (a+1)) b c))))) ff)
def start (J:Pt->aD)(x0 x1:aY):aD:=(call (Z89.R (x0.aG,x1.aG)) fun v1=>(cond (!v1) aS (cond ((x0.eE.length:Int) != (x1.eE.length:Int)) aS (J (.p0 0 x0 x1)))))
def live:Nat->Live:=iD [(4,mN [2,3,5])]
def md (a0 a1:af):Bool:=(bif (!(Z89.md a0.aG a1.aG)) then (false:Bool) else (bif ((a0.eE.length:Int) != (a1.eE.length:Int)) then (false:Bool) else (eW (S:=Unit) (β:=Bool) (fun (i3:Nat) (s5:Unit)=>(cond (!((((a0.eE.getD i3 cz.zero).sD:Int)==(a1.eE.getD i3 cz.zero).sD)&&((((a0.eE.getD i3 cz.zero).yj:Int)==(a1.eE.getD i3 cz.zero).yj)&&true))) (.inr (false:Bool)) (.inl ()))) (fun (s5:Unit)=>(true:Bool)) a0.eE.length 0 ())))
def gd (a0 a1:af):Prop:=(af.Sm (2^21) a0)/\(af.Sm (2^21) a1)
def R:=eA gd md
def aq {a0 a1}(h:gd a0 a1):R ((af.r a0),(af.r a1))=some (md a0 a1):=eB h
def aV:=CN [.agg CV,.agg CV] oB RT.dec R
def bH (a0)(a1)(hg:gd a0 a1):∃n,start (iter step n) (af.r a0) (af.r a1)=ret (md a0 a1):=by
 obtain ⟨H0,H1⟩:=hg
 unfold start md
 try simp only [SS]
 refine cx (Z89.aq ⟨H0.1,H1.1⟩) ?_
 refine iG ret (fun _=>⟨0,rfl⟩) (fun c1=>?_)
 have dc1:=c1
 try simp only [DC] at dc1
 refine iG ret (fun _=>⟨0,rfl⟩) (fun c2=>?_)
 have dc2:=c2
 try simp only [DC] at dc2
 have Bh4:a0.eE.length<=maxLen:=(by
   have:=(H0.2).1
   try simp only [maxLen] at *
   omega)
 refine dW (p:=Pt.p0 0 (af.r a0) (af.r a1)) fz ?_
 refine bV (pt:=fun (i3:Nat) (s5:Unit)=>Pt.p0 (i3:Int) (af.r a0) (af.r a1)) (s:=(():Unit)) (out:=ret) (fun _ _=>True) (fun J i3 s5 h4 hih4=>?_) (fun s5 hih4=>?_) trivial
 ·simp only [step,SS]
  have bb_:=Bh4
  simp only [maxLen] at bb_
  have:=(H0.2).1
  refine bf.yes (by apply decide_eq_true;omega) ?_
  refine bf.yes bA ?_
  refine bf.yes (bU h4) ?_
  refine bf.yes bA ?_
  refine bf.yes (have:=(H1.2).1;dt) ?_
  refine bf.bif (fun _=>bf.inr rfl) (fun c6=>?_)
  refine bf.inl trivial ?_
  rw [aR h4 Bh4]
  all_goals exact fz
 ·simp only [step,SS]
  have:=(H0.2).1
  refine dQ (by apply decide_eq_false;omega) ?_
  refine ⟨0,?_⟩
  all_goals exact fz
def ah:cY 254 aV:=L2 39 (fun _=>4) cZ eD live step start mix aJ bH (dV Z89.ah) Tryz.func254
end Z117
namespace Z118
def F (x0:dI):aD:=(call (Z89.R (x0.fA.aG,x0.fB.aG)) fun v1=>(cond v1 aS (call (Z117.R (x0.bF,(⟨(⟨0,0,0,0,0,0,0,0,(⟨[],0⟩:bl),(⟨[],0⟩:bl),0,(⟨[],0⟩:bl),false⟩:bz),[]⟩:aY))) fun v2=>(cond v2 (call (Z49.R x0.fA) fun v3=>(cond v3 (call (Z49.R x0.fB) fun v4=>(cond v4 (ret ((x0.fA.aG.bM==x0.fB.aG.bM):Bool)) aS)) aS)) (call (Z58.R (x0.bF.aG,x0.fA)) fun v5=>(cond v5 (call (Z58.R (x0.bF.aG,x0.fB)) fun v6=>ret (v6:Bool)) aS))))))
def md (a0:bt):Bool:=(cond (Z89.md a0.fA.aG a0.fB.aG) (false:Bool) (cond (Z117.md a0.bF (⟨(⟨0,0,0,0,0,0,0,0,(⟨[],0⟩:aM),(⟨[],0⟩:aM),0,(⟨[],0⟩:aM),false⟩:ay),[]⟩:af)) (cond (Z49.md a0.fA) (cond (Z49.md a0.fB) ((a0.fA.aG.bM==a0.fB.aG.bM):Bool) (false:Bool)) (false:Bool)) (cond (Z58.md a0.bF.aG a0.fA) ((Z58.md a0.bF.aG a0.fB):Bool) (false:Bool))))
def gd (a0:bt):Prop:=(bt.Sm (2^21) a0)
def R:=RR gd md
def aq {a0}(h:gd a0):R (bt.r a0)=some (md a0):=dX h
def aV:=CN [.agg B1] oB RT.dec R
def bH (a0)(hg:gd a0):F (bt.r a0)=ret (md a0):=by
 unfold gd at hg
 have H0:=hg
 unfold F md
 try simp only [SS]
 refine ct (Z89.aq ⟨H0.2.1.1,H0.2.2.1⟩) ?_
 refine au ret (fun _=>rfl) (fun c1=>?_)
 refine ct (Z117.aq (a1:=(⟨(⟨0,0,0,0,0,0,0,0,(⟨[],0⟩:aM),(⟨[],0⟩:aM),0,(⟨[],0⟩:aM),false⟩:ay),[]⟩:af)) ⟨H0.1,⟨⟨bn.nil,bn.nil,bn.nil⟩,bn.nil⟩⟩) ?_
 refine au ret (fun c2=>?_) (fun c2=>?_)
 ·refine ct (Z49.aq H0.2.1) ?_
  refine au ret (fun c3=>?_) (fun _=>rfl)
  refine ct (Z49.aq H0.2.2) ?_
  refine au ret (fun c4=>?_) (fun _=>rfl)
  all_goals exact fz
 ·refine ct (Z58.aq ⟨H0.1.1,H0.2.1⟩) ?_
  refine au ret (fun c5=>?_) (fun _=>rfl)
  refine ct (Z58.aq ⟨H0.1.1,H0.2.2⟩) ?_
  all_goals exact fz
def ah:cY 242 aV:=W1 47 F mix aJ bH (tG Z89.ah Z117.ah Z49.ah Z58.ah) Tryz.func242
end Z118
namespace Z119
def F (x0:dI):aD:=(call (Z118.R x0) fun v1=>(cond (!v1) sP (ret (x0.fA.aG.bM:Int))))
def md (a0:bt):Int:=(cond (!(Z118.md a0)) ((-1):Int) (a0.fA.aG.bM:Int))
def gd (a0:bt):Prop:=(bt.Sm (2^21) a0)
def R:=RR gd md
def aq {a0}(h:gd a0):R (bt.r a0)=some (md a0):=dX h
def aV:=CN [.agg B1] oI RT.dec R
def bH (a0)(hg:gd a0):F (bt.r a0)=ret (md a0):=by
 unfold gd at hg
 have H0:=hg
 unfold F md
 try simp only [SS]
 refine ct (Z118.aq H0) ?_
 refine au ret (fun _=>rfl) (fun c1=>?_)
 all_goals exact fz
def ah:cY 228 aV:=W1 10 F mix aJ bH (dV Z118.ah) Tryz.func228
end Z119
namespace Z120
inductive Pt where
 | p0 (a b:Int) (c:bP)
def cZ:Pt->List V
 | .p0 a b c=>[.int .i64 a,.bK 0 0,.int .i64 b]
def eD:Pt->List aK
 | .p0 a b c=>[.box [.sl none 24 c.aZ,.sl none 185 c.bN]]
def step (J:Pt->aD):Pt->aD
 | .p0 a b c=>(cond (b<(c.bN.length:Int)) (m2 b (c.bN.length:Int) (call (Z119.R (dI.at c.bN (toNat b))) fun v1=>(cond (v1==a) (cond (a>=0) ff (J (.p0 a (i64.wrap (b+1)) c))) (J (.p0 a (i64.wrap (b+1)) c))))) aS)
def start (J:Pt->aD)(x0:bP)(x1:Int):aD:=J (.p0 x1 0 x0)
def live:Nat->Live:=iD [(2,mN [1,2,5])]
def md (a0:az)(a1:Int):Bool:=(eI (S:=Unit) (β:=Bool) (fun (y1:bt) (s3:Unit)=>(cond ((Z119.md y1)==a1) (cond (a1>=0) (.inr (true:Bool)) (.inl ())) (.inl ()))) (fun (s3:Unit)=>(false:Bool)) a0.bN ())
def gd (a0:az)(a1:Int):Prop:=(az.Sm (2^21) a0)
def R:=eA gd md
def aq {a0 a1}(h:gd a0 a1):R ((az.r a0),a1)=some (md a0 a1):=eB h
def aV:=CN [.agg BU,pI] oB RT.dec R
def bH (a0)(a1)(hg:gd a0 a1):∃n,start (iter step n) (az.r a0) a1=ret (md a0 a1):=by
 unfold gd at hg
 have H0:=hg
 unfold start md
 try simp only [SS]
 have Bh2:a0.bN.length<=maxLen:=(by
   have:=(H0.2).1
   try simp only [maxLen] at *
   omega)
 refine ex_eq (out:=ret) (eo (z:=bt.zero)) ?_
 refine dW (p:=Pt.p0 a1 0 (az.r a0)) fz ?_
 refine bV (pt:=fun (i1:Nat) (s3:Unit)=>Pt.p0 a1 (i1:Int) (az.r a0)) (s:=(():Unit)) (out:=ret) (fun _ _=>True) (fun J i1 s3 h2 hih2=>?_) (fun s3 hih2=>?_) trivial
 ·simp only [step,SS]
  have bb_:=Bh2
  simp only [maxLen] at bb_
  have:=(H0.2).1
  refine bf.yes (by apply decide_eq_true;omega) ?_
  refine bf.yes bA ?_
  refine bf.yes (bU h2) ?_
  refine cr (Z119.aq (bn.getD (z:=bt.zero) H0.2 h2)) ?_
  refine bf.bif (fun c4=>?_) (fun c4=>?_)
  ·refine bf.bif (fun _=>bf.inr rfl) (fun c5=>?_)
   refine bf.inl trivial ?_
   rw [aR h2 Bh2]
   all_goals exact fz
  ·refine bf.inl trivial ?_
   rw [aR h2 Bh2]
   all_goals exact fz
 ·simp only [step,SS]
  have:=(H0.2).1
  refine dQ (by apply decide_eq_false;omega) ?_
  refine ⟨0,?_⟩
  all_goals exact fz
def ah:cY 200 aV:=L2 25 (fun _=>2) cZ eD live step start mix aJ bH (dV Z119.ah) Tryz.func200
end Z120
namespace Z121
inductive Pt where
 | p0 (a:an) (b:Int) (c:av) (d e:Int) (f:Bool) (g:av) (h i:Int) (j k:Bool) (l:av) (m n:Int) (o:Bool) (p q s:an)
def cZ:Pt->List V
 | .p0 a b c d e f g h i j k l m n o p q s=>[.sl none 228 a,.int .i64 b,.str c,.int .i64 d,.bK 0 0,.bK 1 0,.int .i64 e,.bK 1 0]
def eD:Pt->List aK
 | .p0 a b c d e f g h i j k l m n o p q s=>[.box [.nil,.nil,.bool f,.str g,.int .i64 h,.int .i64 i,.nil,.bool j,.nil],.box [.own 2,.own 3,.bool k,.str l,.int .i64 m,.int .i64 n,.nil,.bool o,.own 4],.row 24 p,.row 185 q,.row 3 s]
def step (J:Pt->aD):Pt->aD
 | .p0 a b c d e f g h i j k l m n o p q s=>(cond (e<(a.length:Int)) (m2 e (a.length:Int) (call (Z61.R ((bu.at a (toNat e)).aI)) fun v1=>(cond v1.2 (cond (v1.1.bM==b) (call (Z93.R ((⟨p,q⟩:bP),(bu.at a (toNat e)).aI)) fun v2=>(call (Z116.R (b,c,(bu.at a (toNat e)),d)) fun v3=>(cond (v2.2==1) (cond (v3==1) (call (Z120.R (v2.1,b)) fun v4=>(cond v4 (cX (fu (((s.length:Int)+1)*8)) (J (.p0 a b c d (i64.wrap (e+1)) f g h i j k l m n o v2.1.aZ v2.1.bN (s++[[L.int 3]])))) (cX (fu (((s.length:Int)+1)*8)) (cond (v3==1) (call (Z10.R ((bu.at a (toNat e)).aE)) fun v5=>ret ((⟨v2.1,(bu.at a (toNat e)).cM,v5,true,(s++[[L.int v3]])⟩:eH):eH)) (J (.p0 a b c d (i64.wrap (e+1)) f g h i j k l m n o v2.1.aZ v2.1.bN (s++[[L.int v3]]))))))) (cX (fu (((s.length:Int)+1)*8)) (cond (v3==1) (call (Z10.R ((bu.at a (toNat e)).aE)) fun v6=>ret ((⟨v2.1,(bu.at a (toNat e)).cM,v6,true,(s++[[L.int v3]])⟩:eH):eH)) (J (.p0 a b c d (i64.wrap (e+1)) f g h i j k l m n o v2.1.aZ v2.1.bN (s++[[L.int v3]])))))) (cond (v2.2==2) (cond (v3==1) (call (Z120.R (v2.1,b)) fun v7=>(cond v7 (cX (fu (((s.length:Int)+1)*8)) (J (.p0 a b c d (i64.wrap (e+1)) f g h i j k l m n o v2.1.aZ v2.1.bN (s++[[L.int 3]])))) (cX (fu (((s.length:Int)+1)*8)) (cond (v3==1) (call (Z10.R ((bu.at a (toNat e)).aE)) fun v8=>ret ((⟨v2.1,(bu.at a (toNat e)).cM,v8,true,(s++[[L.int v3]])⟩:eH):eH)) (J (.p0 a b c d (i64.wrap (e+1)) f g h i j k l m n o v2.1.aZ v2.1.bN (s++[[L.int v3]]))))))) (cX (fu (((s.length:Int)+1)*8)) (cond (v3==1) (call (Z10.R ((bu.at a (toNat e)).aE)) fun v9=>ret ((⟨v2.1,(bu.at a (toNat e)).cM,v9,true,(s++[[L.int v3]])⟩:eH):eH)) (J (.p0 a b c d (i64.wrap (e+1)) f g h i j k l m n o v2.1.aZ v2.1.bN (s++[[L.int v3]])))))) (cond (v3==1) (cond (!(v2.2==3)) (cX (fu (((s.length:Int)+1)*8)) (J (.p0 a b c d (i64.wrap (e+1)) f g h i j k l m n o v2.1.aZ v2.1.bN (s++[[L.int 3]])))) (call (Z120.R (v2.1,b)) fun v10=>(cond v10 (cX (fu (((s.length:Int)+1)*8)) (J (.p0 a b c d (i64.wrap (e+1)) f g h i j k l m n o v2.1.aZ v2.1.bN (s++[[L.int 3]])))) (cX (fu (((s.length:Int)+1)*8)) (cond (v3==1) (call (Z10.R ((bu.at a (toNat e)).aE)) fun v11=>ret ((⟨v2.1,(bu.at a (toNat e)).cM,v11,true,(s++[[L.int v3]])⟩:eH):eH)) (J (.p0 a b c d (i64.wrap (e+1)) f g h i j k l m n o v2.1.aZ v2.1.bN (s++[[L.int v3]])))))))) (cX (fu (((s.length:Int)+1)*8)) (cond (v3==1) (call (Z10.R ((bu.at a (toNat e)).aE)) fun v12=>ret ((⟨v2.1,(bu.at a (toNat e)).cM,v12,true,(s++[[L.int v3]])⟩:eH):eH)) (J (.p0 a b c d (i64.wrap (e+1)) f g h i j k l m n o v2.1.aZ v2.1.bN (s++[[L.int v3]])))))))))) (call (Z116.R (b,c,(bu.at a (toNat e)),d)) fun v13=>(cond (v13==1) (cX (fu (((s.length:Int)+1)*8)) (J (.p0 a b c d (i64.wrap (e+1)) f g h i j k l m n o p q (s++[[L.int 3]])))) (cX (fu (((s.length:Int)+1)*8)) (cond (v13==1) (call (Z10.R ((bu.at a (toNat e)).aE)) fun v14=>ret ((⟨(⟨p,q⟩:bP),(bu.at a (toNat e)).cM,v14,true,(s++[[L.int v13]])⟩:eH):eH)) (J (.p0 a b c d (i64.wrap (e+1)) f g h i j k l m n o p q (s++[[L.int v13]])))))))) (call (Z116.R (b,c,(bu.at a (toNat e)),d)) fun v15=>(cond (v15==1) (cX (fu (((s.length:Int)+1)*8)) (J (.p0 a b c d (i64.wrap (e+1)) f g h i j k l m n o p q (s++[[L.int 3]])))) (cX (fu (((s.length:Int)+1)*8)) (cond (v15==1) (call (Z10.R ((bu.at a (toNat e)).aE)) fun v16=>ret ((⟨(⟨p,q⟩:bP),(bu.at a (toNat e)).cM,v16,true,(s++[[L.int v15]])⟩:eH):eH)) (J (.p0 a b c d (i64.wrap (e+1)) f g h i j k l m n o p q (s++[[L.int v15]])))))))))) (ret ((⟨(⟨p,q⟩:bP),k,(⟨l,m,n,[]⟩:aC),o,s⟩:eH):eH)))
def start (J:Pt->aD)(x0:bP)(x1:an)(x2:Int)(x3:av)(x4:Int):aD:=(call (Z87.R x0) fun v1=>J (.p0 x1 x2 x3 x4 0 false ⟨#[]⟩ 0 0 false false ⟨#[]⟩ 0 0 false v1.aZ v1.bN []))
def live:Nat->Live:=iD [(3,[(1,none),(2,none),(3,none),(4,none),(10,none),(11,none),(12,none),(11,some 8388611)])]
def md (a0:az)(a1:List aB)(a2:Int)(a3:av)(a4:Int):bG:=(eI (S:=List (List af)×List bt×List Int) (β:=bG) (fun (y1:aB) (s3:List (List af)×List bt×List Int)=>(cond ((Z61.md (y1.aI)).2) (cond ((Z61.md (y1.aI)).1.bM==a2) (cond ((Z93.md (⟨s3.1,s3.2.1⟩:az) (y1.aI)).2==1) (cond ((Z116.md a2 a3 y1 a4)==1) (cond (Z120.md ((Z93.md (⟨s3.1,s3.2.1⟩:az) (y1.aI)).1) a2) (.inl ((Z93.md (⟨s3.1,s3.2.1⟩:az) (y1.aI)).1.aZ,(Z93.md (⟨s3.1,s3.2.1⟩:az) (y1.aI)).1.bN,(s3.2.2++[3]))) (cond ((Z116.md a2 a3 y1 a4)==1) (.inr (⟨(Z93.md (⟨s3.1,s3.2.1⟩:az) (y1.aI)).1,y1.cM,(y1.aE),true,(s3.2.2++[(Z116.md a2 a3 y1 a4)])⟩:bG)) (.inl ((Z93.md (⟨s3.1,s3.2.1⟩:az) (y1.aI)).1.aZ,(Z93.md (⟨s3.1,s3.2.1⟩:az) (y1.aI)).1.bN,(s3.2.2++[(Z116.md a2 a3 y1 a4)]))))) (cond ((Z116.md a2 a3 y1 a4)==1) (.inr (⟨(Z93.md (⟨s3.1,s3.2.1⟩:az) (y1.aI)).1,y1.cM,(y1.aE),true,(s3.2.2++[(Z116.md a2 a3 y1 a4)])⟩:bG)) (.inl ((Z93.md (⟨s3.1,s3.2.1⟩:az) (y1.aI)).1.aZ,(Z93.md (⟨s3.1,s3.2.1⟩:az) (y1.aI)).1.bN,(s3.2.2++[(Z116.md a2 a3 y1 a4)]))))) (cond ((Z93.md (⟨s3.1,s3.2.1⟩:az) (y1.aI)).2==2) (cond ((Z116.md a2 a3 y1 a4)==1) (cond (Z120.md ((Z93.md (⟨s3.1,s3.2.1⟩:az) (y1.aI)).1) a2) (.inl ((Z93.md (⟨s3.1,s3.2.1⟩:az) (y1.aI)).1.aZ,(Z93.md (⟨s3.1,s3.2.1⟩:az) (y1.aI)).1.bN,(s3.2.2++[3]))) (cond ((Z116.md a2 a3 y1 a4)==1) (.inr (⟨(Z93.md (⟨s3.1,s3.2.1⟩:az) (y1.aI)).1,y1.cM,(y1.aE),true,(s3.2.2++[(Z116.md a2 a3 y1 a4)])⟩:bG)) (.inl ((Z93.md (⟨s3.1,s3.2.1⟩:az) (y1.aI)).1.aZ,(Z93.md (⟨s3.1,s3.2.1⟩:az) (y1.aI)).1.bN,(s3.2.2++[(Z116.md a2 a3 y1 a4)]))))) (cond ((Z116.md a2 a3 y1 a4)==1) (.inr (⟨(Z93.md (⟨s3.1,s3.2.1⟩:az) (y1.aI)).1,y1.cM,(y1.aE),true,(s3.2.2++[(Z116.md a2 a3 y1 a4)])⟩:bG)) (.inl ((Z93.md (⟨s3.1,s3.2.1⟩:az) (y1.aI)).1.aZ,(Z93.md (⟨s3.1,s3.2.1⟩:az) (y1.aI)).1.bN,(s3.2.2++[(Z116.md a2 a3 y1 a4)]))))) (cond ((Z116.md a2 a3 y1 a4)==1) (cond (!((Z93.md (⟨s3.1,s3.2.1⟩:az) (y1.aI)).2==3)) (.inl ((Z93.md (⟨s3.1,s3.2.1⟩:az) (y1.aI)).1.aZ,(Z93.md (⟨s3.1,s3.2.1⟩:az) (y1.aI)).1.bN,(s3.2.2++[3]))) (cond (Z120.md ((Z93.md (⟨s3.1,s3.2.1⟩:az) (y1.aI)).1) a2) (.inl ((Z93.md (⟨s3.1,s3.2.1⟩:az) (y1.aI)).1.aZ,(Z93.md (⟨s3.1,s3.2.1⟩:az) (y1.aI)).1.bN,(s3.2.2++[3]))) (cond ((Z116.md a2 a3 y1 a4)==1) (.inr (⟨(Z93.md (⟨s3.1,s3.2.1⟩:az) (y1.aI)).1,y1.cM,(y1.aE),true,(s3.2.2++[(Z116.md a2 a3 y1 a4)])⟩:bG)) (.inl ((Z93.md (⟨s3.1,s3.2.1⟩:az) (y1.aI)).1.aZ,(Z93.md (⟨s3.1,s3.2.1⟩:az) (y1.aI)).1.bN,(s3.2.2++[(Z116.md a2 a3 y1 a4)])))))) (cond ((Z116.md a2 a3 y1 a4)==1) (.inr (⟨(Z93.md (⟨s3.1,s3.2.1⟩:az) (y1.aI)).1,y1.cM,(y1.aE),true,(s3.2.2++[(Z116.md a2 a3 y1 a4)])⟩:bG)) (.inl ((Z93.md (⟨s3.1,s3.2.1⟩:az) (y1.aI)).1.aZ,(Z93.md (⟨s3.1,s3.2.1⟩:az) (y1.aI)).1.bN,(s3.2.2++[(Z116.md a2 a3 y1 a4)]))))))) (cond ((Z116.md a2 a3 y1 a4)==1) (.inl (s3.1,s3.2.1,(s3.2.2++[3]))) (cond ((Z116.md a2 a3 y1 a4)==1) (.inr (⟨(⟨s3.1,s3.2.1⟩:az),y1.cM,(y1.aE),true,(s3.2.2++[(Z116.md a2 a3 y1 a4)])⟩:bG)) (.inl (s3.1,s3.2.1,(s3.2.2++[(Z116.md a2 a3 y1 a4)])))))) (cond ((Z116.md a2 a3 y1 a4)==1) (.inl (s3.1,s3.2.1,(s3.2.2++[3]))) (cond ((Z116.md a2 a3 y1 a4)==1) (.inr (⟨(⟨s3.1,s3.2.1⟩:az),y1.cM,(y1.aE),true,(s3.2.2++[(Z116.md a2 a3 y1 a4)])⟩:bG)) (.inl (s3.1,s3.2.1,(s3.2.2++[(Z116.md a2 a3 y1 a4)]))))))) (fun (s3:List (List af)×List bt×List Int)=>(⟨(⟨s3.1,s3.2.1⟩:az),false,(⟨(⟨#[]⟩:av),0,0,[]⟩:aa),false,s3.2.2⟩:bG)) a1 (a0.aZ,a0.bN,[]))
def gd (a0:az)(a1:List aB)(a2:Int)(a3:av)(a4:Int):Prop:=(az.Sm (2^21) a0)/\(bn (2^21) (fun y:aB=>aB.Sm (2^21) y) a1)/\(a3.size<=(2^21))
def R:=zk gd md
def aq {a0 a1 a2 a3 a4}(h:gd a0 a1 a2 a3 a4):R ((az.r a0),(a1.map aB.row),a2,a3,a4)=some (bG.r (md a0 a1 a2 a3 a4)):=zB h
def aV:=CN [.agg BU,pL 228,pI,pS,pI] (.agg f190) RT.dec R
def bH (a0)(a1)(a2)(a3)(a4)(hg:gd a0 a1 a2 a3 a4):∃n,start (iter step n) (az.r a0) (a1.map aB.row) a2 a3 a4=ret (bG.r (md a0 a1 a2 a3 a4)):=by
 obtain ⟨H0,H1,H3⟩:=hg
 unfold start md
 try simp only [SS]
 refine cx (Z87.aq H0) ?_
 try simp only [SS]
 have Bh2:a1.length<=maxLen:=(by
   have:=(H1).1
   try simp only [maxLen] at *
   omega)
 refine ex_eq (out:=(fun b:bG=>ret ((bG.r b):eH))) (eo (z:=aB.zero)) ?_
 refine dW (p:=Pt.p0 (a1.map aB.row) a2 a3 a4 0 false (⟨#[]⟩:av) 0 0 false false (⟨#[]⟩:av) 0 0 false (a0.aZ.map (eG af.row)) (a0.bN.map bt.row) ([].map bh)) fz ?_
 refine bV (pt:=fun (i1:Nat) (s3:List (List af)×List bt×List Int)=>Pt.p0 (a1.map aB.row) a2 a3 a4 (i1:Int) false (⟨#[]⟩:av) 0 0 false false (⟨#[]⟩:av) 0 0 false (s3.1.map (eG af.row)) (s3.2.1.map bt.row) (s3.2.2.map bh)) (s:=((a0.aZ,a0.bN,[]):List (List af)×List bt×List Int)) (out:=(fun b:bG=>ret ((bG.r b):eH))) (fun (i1:Nat) (s3:List (List af)×List bt×List Int)=>az.Sm (2^21) (⟨s3.1,s3.2.1⟩:az)/\s3.2.2.length<=i1) (fun J i1 s3 h2 hih2=>?_) (fun s3 hih2=>?_) ⟨H0,zero_le _⟩
 ·simp only [step,SS]
  have gr_:=hih2
  try simp only [LN] at gr_
  have bb_:=Bh2
  simp only [maxLen] at bb_
  have:=(H1).1
  refine bf.yes (by apply decide_eq_true;omega) ?_
  refine bf.yes bA ?_
  refine bf.yes (bU h2) ?_
  refine cr (Z61.aq (bn.getD (z:=aB.zero) H1 h2).1) ?_
  try simp only [SS]
  refine bf.bif (fun c4=>?_) (fun c4=>?_)
  ·refine bf.bif (fun c5=>?_) (fun c5=>?_)
   ·have dc5:=c5
    try simp only [DC] at dc5
    refine cr (Z93.aq (a0:=(⟨s3.1,s3.2.1⟩:az)) ⟨⟨hih2.1.1,hih2.1.2⟩,(bn.getD (z:=aB.zero) H1 h2).1⟩) ?_
    try simp only [SS]
    refine cr (Z116.aq ⟨H3,(bn.getD (z:=aB.zero) H1 h2)⟩) ?_
    refine bf.bif (fun c6=>?_) (fun c6=>?_)
    ·have dc6:=c6
     try simp only [DC] at dc6
     refine bf.bif (fun c7=>?_) (fun c7=>?_)
     ·have dc7:=c7
      try simp only [DC] at dc7
      refine cr (Z120.aq (a0:=(Z93.md (⟨s3.1,s3.2.1⟩:az) ((a1.getD i1 aB.zero).aI)).1) (Z93.fY (a0:=(⟨s3.1,s3.2.1⟩:az)) (a1:=(a1.getD i1 aB.zero).aI) ⟨⟨hih2.1.1,hih2.1.2⟩,(bn.getD (z:=aB.zero) H1 h2).1⟩)) ?_
      refine bf.bif (fun c8=>?_) (fun c8=>?_)
      ·refine bf.yes lm ?_
       refine bf.inl (by first | exact ⟨hih2.1,oQ hih2.2⟩ | exact ⟨Z93.fY ⟨hih2.1,(bn.getD H1 h2).1⟩,oQ hih2.2⟩) ?_
       rw [aR h2 Bh2]
       all_goals exact fz
      ·refine bf.yes lm ?_
       refine bf.bif (fun c9=>?_) (fun c9=>?_)
       ·refine cr (Z10.aq (bn.getD (z:=aB.zero) H1 h2).2.1) ?_
        try simp only [SS]
        refine bf.inr ?_
        all_goals exact fz
       ·refine bf.inl (by first | exact ⟨hih2.1,oQ hih2.2⟩ | exact ⟨Z93.fY ⟨hih2.1,(bn.getD H1 h2).1⟩,oQ hih2.2⟩) ?_
        rw [aR h2 Bh2]
        all_goals exact fz
     ·have dc7:=c7
      try simp only [DC] at dc7
      refine bf.yes lm ?_
      refine bf.bif (fun c10=>?_) (fun c10=>?_)
      ·refine cr (Z10.aq (bn.getD (z:=aB.zero) H1 h2).2.1) ?_
       try simp only [SS]
       refine bf.inr ?_
       all_goals exact fz
      ·refine bf.inl (by first | exact ⟨hih2.1,oQ hih2.2⟩ | exact ⟨Z93.fY ⟨hih2.1,(bn.getD H1 h2).1⟩,oQ hih2.2⟩) ?_
       rw [aR h2 Bh2]
       all_goals exact fz
    ·have dc6:=c6
     try simp only [DC] at dc6
     refine bf.bif (fun c11=>?_) (fun c11=>?_)
     ·have dc11:=c11
      try simp only [DC] at dc11
      refine bf.bif (fun c12=>?_) (fun c12=>?_)
      ·have dc12:=c12
       try simp only [DC] at dc12
       refine cr (Z120.aq (a0:=(Z93.md (⟨s3.1,s3.2.1⟩:az) ((a1.getD i1 aB.zero).aI)).1) (Z93.fY (a0:=(⟨s3.1,s3.2.1⟩:az)) (a1:=(a1.getD i1 aB.zero).aI) ⟨⟨hih2.1.1,hih2.1.2⟩,(bn.getD (z:=aB.zero) H1 h2).1⟩)) ?_
       refine bf.bif (fun c13=>?_) (fun c13=>?_)
       ·refine bf.yes lm ?_
        refine bf.inl (by first | exact ⟨hih2.1,oQ hih2.2⟩ | exact ⟨Z93.fY ⟨hih2.1,(bn.getD H1 h2).1⟩,oQ hih2.2⟩) ?_
        rw [aR h2 Bh2]
        all_goals exact fz
       ·refine bf.yes lm ?_
        refine bf.bif (fun c14=>?_) (fun c14=>?_)
        ·refine cr (Z10.aq (bn.getD (z:=aB.zero) H1 h2).2.1) ?_
         try simp only [SS]
         refine bf.inr ?_
         all_goals exact fz
        ·refine bf.inl (by first | exact ⟨hih2.1,oQ hih2.2⟩ | exact ⟨Z93.fY ⟨hih2.1,(bn.getD H1 h2).1⟩,oQ hih2.2⟩) ?_
         rw [aR h2 Bh2]
         all_goals exact fz
      ·have dc12:=c12
       try simp only [DC] at dc12
       refine bf.yes lm ?_
       refine bf.bif (fun c15=>?_) (fun c15=>?_)
       ·refine cr (Z10.aq (bn.getD (z:=aB.zero) H1 h2).2.1) ?_
        try simp only [SS]
        refine bf.inr ?_
        all_goals exact fz
       ·refine bf.inl (by first | exact ⟨hih2.1,oQ hih2.2⟩ | exact ⟨Z93.fY ⟨hih2.1,(bn.getD H1 h2).1⟩,oQ hih2.2⟩) ?_
        rw [aR h2 Bh2]
        all_goals exact fz
     ·have dc11:=c11
      try simp only [DC] at dc11
      refine bf.bif (fun c16=>?_) (fun c16=>?_)
      ·have dc16:=c16
       try simp only [DC] at dc16
       refine bf.bif (fun c17=>?_) (fun c17=>?_)
       ·have dc17:=c17
        try simp only [DC] at dc17
        refine bf.yes lm ?_
        refine bf.inl (by first | exact ⟨hih2.1,oQ hih2.2⟩ | exact ⟨Z93.fY ⟨hih2.1,(bn.getD H1 h2).1⟩,oQ hih2.2⟩) ?_
        rw [aR h2 Bh2]
        all_goals exact fz
       ·have dc17:=c17
        try simp only [DC] at dc17
        refine cr (Z120.aq (a0:=(Z93.md (⟨s3.1,s3.2.1⟩:az) ((a1.getD i1 aB.zero).aI)).1) (Z93.fY (a0:=(⟨s3.1,s3.2.1⟩:az)) (a1:=(a1.getD i1 aB.zero).aI) ⟨⟨hih2.1.1,hih2.1.2⟩,(bn.getD (z:=aB.zero) H1 h2).1⟩)) ?_
        refine bf.bif (fun c18=>?_) (fun c18=>?_)
        ·refine bf.yes lm ?_
         refine bf.inl (by first | exact ⟨hih2.1,oQ hih2.2⟩ | exact ⟨Z93.fY ⟨hih2.1,(bn.getD H1 h2).1⟩,oQ hih2.2⟩) ?_
         rw [aR h2 Bh2]
         all_goals exact fz
        ·refine bf.yes lm ?_
         refine bf.bif (fun c19=>?_) (fun c19=>?_)
         ·refine cr (Z10.aq (bn.getD (z:=aB.zero) H1 h2).2.1) ?_
          try simp only [SS]
          refine bf.inr ?_
          all_goals exact fz
         ·refine bf.inl (by first | exact ⟨hih2.1,oQ hih2.2⟩ | exact ⟨Z93.fY ⟨hih2.1,(bn.getD H1 h2).1⟩,oQ hih2.2⟩) ?_
          rw [aR h2 Bh2]
          all_goals exact fz
      ·have dc16:=c16
       try simp only [DC] at dc16
       refine bf.yes lm ?_
       refine bf.bif (fun c20=>?_) (fun c20=>?_)
       ·refine cr (Z10.aq (bn.getD (z:=aB.zero) H1 h2).2.1) ?_
        try simp only [SS]
        refine bf.inr ?_
        all_goals exact fz
       ·refine bf.inl (by first | exact ⟨hih2.1,oQ hih2.2⟩ | exact ⟨Z93.fY ⟨hih2.1,(bn.getD H1 h2).1⟩,oQ hih2.2⟩) ?_
        rw [aR h2 Bh2]
        all_goals exact fz
   ·have dc5:=c5
    try simp only [DC] at dc5
    refine cr (Z116.aq ⟨H3,(bn.getD (z:=aB.zero) H1 h2)⟩) ?_
    refine bf.bif (fun c21=>?_) (fun c21=>?_)
    ·have dc21:=c21
     try simp only [DC] at dc21
     refine bf.yes lm ?_
     refine bf.inl (by first | exact ⟨hih2.1,oQ hih2.2⟩ | exact ⟨Z93.fY ⟨hih2.1,(bn.getD H1 h2).1⟩,oQ hih2.2⟩) ?_
     rw [aR h2 Bh2]
     all_goals exact fz
    ·have dc21:=c21
     try simp only [DC] at dc21
     refine bf.yes lm ?_
     refine bf.bif (fun c22=>?_) (fun c22=>?_)
     ·refine cr (Z10.aq (bn.getD (z:=aB.zero) H1 h2).2.1) ?_
      try simp only [SS]
      refine bf.inr ?_
      all_goals exact fz
     ·refine bf.inl (by first | exact ⟨hih2.1,oQ hih2.2⟩ | exact ⟨Z93.fY ⟨hih2.1,(bn.getD H1 h2).1⟩,oQ hih2.2⟩) ?_
      rw [aR h2 Bh2]
      all_goals exact fz
  ·refine cr (Z116.aq ⟨H3,(bn.getD (z:=aB.zero) H1 h2)⟩) ?_
   refine bf.bif (fun c23=>?_) (fun c23=>?_)
   ·have dc23:=c23
    try simp only [DC] at dc23
    refine bf.yes lm ?_
    refine bf.inl (by first | exact ⟨hih2.1,oQ hih2.2⟩ | exact ⟨Z93.fY ⟨hih2.1,(bn.getD H1 h2).1⟩,oQ hih2.2⟩) ?_
    rw [aR h2 Bh2]
    all_goals exact fz
   ·have dc23:=c23
    try simp only [DC] at dc23
    refine bf.yes lm ?_
    refine bf.bif (fun c24=>?_) (fun c24=>?_)
    ·refine cr (Z10.aq (bn.getD (z:=aB.zero) H1 h2).2.1) ?_
     try simp only [SS]
     refine bf.inr ?_
     all_goals exact fz
    ·refine bf.inl (by first | exact ⟨hih2.1,oQ hih2.2⟩ | exact ⟨Z93.fY ⟨hih2.1,(bn.getD H1 h2).1⟩,oQ hih2.2⟩) ?_
     rw [aR h2 Bh2]
     all_goals exact fz
 ·simp only [step,SS]
  have gr_:=hih2
  try simp only [LN] at gr_
  have:=(H1).1
  refine dQ (by apply decide_eq_false;omega) ?_
  refine ⟨0,?_⟩
  all_goals exact fz
def ah:cY 158 aV:=L5 99 (fun _=>3) cZ eD live step start mix aJ bH (vN Z87.ah Z61.ah Z93.ah Z116.ah Z120.ah Z10.ah) Tryz.func158
def xR (z:Int)(l:av)(now:Int)(y:aB)(k:az):az×Int:=
 let kn:=bif (Z61.md y.aI).2&&((Z61.md y.aI).1.bM==z) then Z93.md k y.aI else (k,6)
 (kn.1,bif (Z116.md z l y now==1)&&!((kn.2==1||(kn.2==2||kn.2==3))&&!Z120.md kn.1 z) then 3 else Z116.md z l y now)
def Bz (z:Int)(l:av)(now:Int)(y:aB)(s:List (List af)×List bt×List Int):List (List af)×List bt×List Int⊕bG:=
 bif (xR z l now y ⟨s.1,s.2.1⟩).2==1 then .inr ⟨(xR z l now y ⟨s.1,s.2.1⟩).1,y.cM,y.aE,true,s.2.2++[(xR z l now y ⟨s.1,s.2.1⟩).2]⟩
 else .inl ((xR z l now y ⟨s.1,s.2.1⟩).1.aZ,(xR z l now y ⟨s.1,s.2.1⟩).1.bN,s.2.2++[(xR z l now y ⟨s.1,s.2.1⟩).2])
def fin (s:List (List af)×List bt×List Int):bG:=⟨⟨s.1,s.2.1⟩,false,⟨⟨#[]⟩,0,0,[]⟩,false,s.2.2⟩
def C8 (a0:az)(a1:List aB)(a2:Int)(a3:av)(a4:Int):md a0 a1 a2 a3 a4=eI (Bz a2 a3 a4) fin a1 (a0.aZ,a0.bN,[]):=by
 unfold md
 refine wJ (fun y _ s=>?_) (fun s=>rfl)
 have h31:((3:Int)==1)=false:=rfl
 have h61:((6:Int)==1)=false:=rfl
 have h62:((6:Int)==2)=false:=rfl
 have h63:((6:Int)==3)=false:=rfl
 unfold Bz xR
 cases g1:(Z61.md y.aI).2
 ·cases g2:(Z116.md a2 a3 y a4==1)<;>simp [g2,h31,h61,h62,h63]
 cases g3:((Z61.md y.aI).1.bM==a2)
 ·cases g2:(Z116.md a2 a3 y a4==1)<;>simp [g2,h31,h61,h62,h63]
 generalize Z93.md (⟨s.1,s.2.1⟩:az) y.aI=r
 cases g2:(Z116.md a2 a3 y a4==1)<;>cases g4:(r.2==1)<;>cases g5:(r.2==2)<;>cases g6:(r.2==3)<;>cases g7:Z120.md r.1 a2<;>simp [g2,g4,g5,g6,g7,h31]
def Dh {z:Int}{l:av}{now:Int}{y:aB}{k:az}(hk:az.Sm (2^21) k)(hy:aB.Sm (2^21) y):az.Sm (2^21) (xR z l now y k).1:=by
 unfold xR
 cases (Z61.md y.aI).2&&((Z61.md y.aI).1.bM==z)
 ·exact hk
 ·exact Z93.fY ⟨hk,hy.1⟩
def wT {z:Int}{l:av}{now:Int}:∀(xs:List aB) (s:List (List af)×List bt×List Int),az.Sm (2^21) ⟨s.1,s.2.1⟩->(∀y∈xs,aB.Sm (2^21) y)->s.2.2.length+xs.length<=2^21->bG.Sm (2^21) (eI (Bz z l now) fin xs s)
 | [],s,hk,_,hc=>⟨hk,⟨zero_le _,bn.nil⟩,hc,fun _ _=>trivial⟩
 | y::xs,s,hk,hx,hc=>by
  have hy:=hx y (by simp)
  have he:=Dh (z:=z) (l:=l) (now:=now) hk hy
  simp only [List.length_cons] at hc
  unfold eI
  cases hb:(xR z l now y ⟨s.1,s.2.1⟩).2==1
  ·have e:Bz z l now y s=.inl ((xR z l now y ⟨s.1,s.2.1⟩).1.aZ,(xR z l now y ⟨s.1,s.2.1⟩).1.bN,s.2.2++[(xR z l now y ⟨s.1,s.2.1⟩).2]):=by unfold Bz;rw [hb];rfl
   rw [e]
   exact wT xs _ he (fun y hy=>hx y (by simp [hy])) (by simp only [List.length_append,List.length_cons,List.length_nil];omega)
  ·have e:Bz z l now y s=.inr ⟨(xR z l now y ⟨s.1,s.2.1⟩).1,y.cM,y.aE,true,s.2.2++[(xR z l now y ⟨s.1,s.2.1⟩).2]⟩:=by unfold Bz;rw [hb];rfl
   rw [e]
   exact ⟨he,hy.2.1,by simp only [List.length_append,List.length_cons,List.length_nil];omega,fun _ _=>trivial⟩
def fY {a0:az}{a1:List aB}{a2:Int}{a3:av}{a4:Int}(hg:gd a0 a1 a2 a3 a4):bG.Sm (2^21) (md a0 a1 a2 a3 a4):=by
 unfold gd at hg
 rw [C8]
 exact wT a1 _ hg.1 hg.2.1.2 (by have:=hg.2.1.1;simp only [List.length_nil];omega)
end Z121
namespace Z122
def F (x0:eH):aD:=(cond (!x0.lR) (ret (((⟨(⟨#[]⟩:av),0,0,[]⟩:aC),false):aC×Bool)) (cond (!x0.cM) (ret (((⟨(⟨#[]⟩:av),0,0,[]⟩:aC),false):aC×Bool)) (call (Z10.R x0.aE) fun v1=>ret ((v1,true):aC×Bool))))
def md (a0:bG):aa×Bool:=(cond (!a0.lR) ((⟨((⟨#[]⟩:av):av),0,0,[]⟩:aa),false) (cond (!a0.cM) ((⟨((⟨#[]⟩:av):av),0,0,[]⟩:aa),false) (a0.aE,true)))
def gd (a0:bG):Prop:=(bG.Sm (2^21) a0)
def R:=RR gd md
def aq {a0}(h:gd a0):R (bG.r a0)=some ((aa.r (md a0).1),(md a0).2):=dX h
def aV:=CN [.agg DB] (.gK [(true,f53),(false,[fB])]) RT.dec R
def bH (a0)(hg:gd a0):F (bG.r a0)=ret ((aa.r (md a0).1),(md a0).2):=by
 unfold gd at hg
 have H0:=hg
 unfold F md
 try simp only [SS]
 refine au (fun b:aa×Bool=>ret (((aa.r b.1),b.2):aC×Bool)) (fun c1=>?_) (fun c1=>?_)
 ·all_goals exact fz
 ·refine au (fun b:aa×Bool=>ret (((aa.r b.1),b.2):aC×Bool)) (fun c2=>?_) (fun c2=>?_)
  ·all_goals exact fz
  ·refine ct (Z10.aq H0.2.1) ?_
   try simp only [SS]
   all_goals exact fz
def ah:cY 160 aV:=W1 16 F mix aJ bH (dV Z10.ah) Tryz.func160
end Z122
namespace Z123
def F (x0:eH):aD:=(cond x0.lR (ret ((!x0.cM):Bool)) aS)
def md (a0:bG):Bool:=(cond a0.lR ((!a0.cM):Bool) (false:Bool))
def gd (a0:bG):Prop:=True
def R:=RR gd md
def aq {a0}(h:gd a0):R (bG.r a0)=some (md a0):=dX h
def aV:=CN [.agg DB] oB RT.dec R
def bH (a0)(hg:gd a0):F (bG.r a0)=ret (md a0):=by
 unfold F md
 try simp only [SS]
 refine au ret (fun c1=>?_) (fun _=>rfl)
 all_goals exact fz
def ah:cY 161 aV:=W1 10 F mix aJ bH .nil Tryz.func161
end Z123
namespace Z124
inductive Pt where
 | p0 (a:an) (b c:Int) (d:an) (e:Int) (f:av) (g h i j:Int) (k:av) (l m n:Int) (o p q:an)
def cZ:Pt->List V
 | .p0 a b c d e f g h i j k l m n o p q=>[.sl none 177 a,.int .i64 b,.bK 0 0,.bK 1 0,.int .i64 c,.sl none 9 d,.bK 1 0]
def eD:Pt->List aK
 | .p0 a b c d e f g h i j k l m n o p q=>[.box [.nil,.nil,.int .i64 e,.str f,.int .i64 g,.int .i64 h,.nil,.nil,.int .i64 i],.box [.own 2,.own 3,.int .i64 j,.str k,.int .i64 l,.int .i64 m,.nil,.own 4,.int .i64 n],.row 24 o,.row 185 p,.row 3 q]
def step (J:Pt->aD):Pt->aD
 | .p0 a b c d e f g h i j k l m n o p q=>(cX (fu (((q.length:Int)+1)*8)) (cX ((0:Int)<(d.length:Int)) (call (Z105.R (a,c,(tw d 0))) fun v1=>(cX ((0:Int)<(d.length:Int)) (call (Z121.R ((⟨o,p⟩:bP),v1,c,(tw d 0),b)) fun v2=>(call (Z122.R v2) fun v3=>(call (Z123.R v2) fun v4=>(cond v4 (ret ((⟨v2.cR,2,(⟨k,l,m,[]⟩:aC),(q++[[L.int c]]),n⟩:bL):bL)) (cond (!v3.2) (ret ((⟨v2.cR,3,(⟨k,l,m,[]⟩:aC),(q++[[L.int c]]),n⟩:bL):bL)) (cond (v3.1.bp==3) (call (Z9.R v3.1.bg) fun v5=>(cX ((1:Int)<=(d.length:Int)) (cX ((d.length:Int)<=(d.length:Int)) (cX (fu (((v5.length:Int)+((List.take (toNat ((d.length:Int) - 1)) (List.drop 1 d)).length:Int))*16)) (cond (n>=3) (ret ((⟨v2.cR,5,(⟨k,l,m,[]⟩:aC),(q++[[L.int c]]),n⟩:bL):bL)) (call (Z13.R (v5++(List.take (toNat ((d.length:Int) - 1)) (List.drop 1 d)))) fun v6=>(cond (!v6) (ret ((⟨v2.cR,5,(⟨k,l,m,[]⟩:aC),(q++[[L.int c]]),n⟩:bL):bL)) (J (.p0 a b v3.1.bJ (v5++(List.take (toNat ((d.length:Int) - 1)) (List.drop 1 d))) e f g h i j k l m (i64.wrap (n+1)) v2.cR.aZ v2.cR.bN (q++[[L.int c]])))))))))) (cond ((d.length:Int)==1) (ret ((⟨v2.cR,1,v3.1,(q++[[L.int c]]),n⟩:bL):bL)) (cond (v3.1.bp != 2) (ret ((⟨v2.cR,4,(⟨k,l,m,[]⟩:aC),(q++[[L.int c]]),n⟩:bL):bL)) (cX ((1:Int)<=(d.length:Int)) (cX ((d.length:Int)<=(d.length:Int)) (J (.p0 a b v3.1.bJ (List.take (toNat ((d.length:Int) - 1)) (List.drop 1 d)) e f g h i j k l m n v2.cR.aZ v2.cR.bN (q++[[L.int c]])))))))))))))))))
def start (J:Pt->aD)(x0:bP)(x1:an)(x2:Int)(x3:an)(x4:Int):aD:=(call (Z87.R x0) fun v1=>(call (Z13.R x3) fun v2=>(cond (!v2) (ret ((⟨v1,6,(⟨(⟨#[]⟩:av),0,0,[]⟩:aC),[],0⟩:bL):bL)) (call (Z9.R x3) fun v3=>J (.p0 x1 x4 x2 v3 0 ⟨#[]⟩ 0 0 0 6 ⟨#[]⟩ 0 0 0 v1.aZ v1.bN [])))))
def live:Nat->Live:=iD [(6,[(1,none),(4,none),(10,none),(11,none),(12,none),(13,some 1099511627785),(11,some 7340035)])]
def nx (l:bG)(mv:Int)(p:List av):(Int×aa)⊕(Int×Int×List av):=
 bif !l.lR then .inl (3,⟨⟨#[]⟩,0,0,[]⟩) else bif !l.cM then .inl (2,⟨⟨#[]⟩,0,0,[]⟩)
 else bif l.aE.bp==3 then (cond (mv>=3) (.inl (5,⟨⟨#[]⟩,0,0,[]⟩)) (bif !Z13.md (l.aE.bg++p.tail) then .inl (5,⟨⟨#[]⟩,0,0,[]⟩) else .inr (mv+1,l.aE.bJ,l.aE.bg++p.tail)))
 else bif (p.tail.length:Int)==0 then .inl (1,l.aE) else bif l.aE.bp==2 then .inr (mv,l.aE.bJ,p.tail) else .inl (4,⟨⟨#[]⟩,0,0,[]⟩)
def rs {σ:Type}(look:σ->az->Int->av->bG×σ):Nat->σ->az->List Int->Int->Int->List av->ak×σ
 | 0,c,k,zs,mv,_,_=>(⟨k,0,⟨⟨#[]⟩,0,0,[]⟩,zs,mv⟩,c)
 | n+1,c,k,zs,mv,z,p=>match nx (look c k z (p.getD 0 ⟨#[]⟩)).1 mv p with
  | .inl q=>(⟨(look c k z (p.getD 0 ⟨#[]⟩)).1.cR,q.1,q.2,zs++[z],mv⟩,(look c k z (p.getD 0 ⟨#[]⟩)).2)
  | .inr q=>rs look n (look c k z (p.getD 0 ⟨#[]⟩)).2 (look c k z (p.getD 0 ⟨#[]⟩)).1.cR (zs++[z]) q.1 q.2.1 q.2.2
def lk (s:List aF)(now:Int)(_:Unit)(k:az)(z:Int)(l:av):bG×Unit:=(Z121.md k (Z105.md s z l) z l now,())
def Aq {σ:Type}{look:σ->az->Int->av->bG×σ}{n:Nat}{c:σ}{k:az}{zs:List Int}{mv z:Int}{p:List av}{q:Int×aa}(h:nx (look c k z (p.getD 0 ⟨#[]⟩)).1 mv p=.inl q) :
  rs look (n+1) c k zs mv z p=(⟨(look c k z (p.getD 0 ⟨#[]⟩)).1.cR,q.1,q.2,zs++[z],mv⟩,(look c k z (p.getD 0 ⟨#[]⟩)).2):=by
 show (match nx (look c k z (p.getD 0 ⟨#[]⟩)).1 mv p with | .inl q=>_ | .inr q=>_)=_
 rw [h]
def AJ {σ:Type}{look:σ->az->Int->av->bG×σ}{n:Nat}{c:σ}{k:az}{zs:List Int}{mv z:Int}{p:List av}{q:Int×Int×List av}(h:nx (look c k z (p.getD 0 ⟨#[]⟩)).1 mv p=.inr q) :
  rs look (n+1) c k zs mv z p=rs look n (look c k z (p.getD 0 ⟨#[]⟩)).2 (look c k z (p.getD 0 ⟨#[]⟩)).1.cR (zs++[z]) q.1 q.2.1 q.2.2:=by
 show (match nx (look c k z (p.getD 0 ⟨#[]⟩)).1 mv p with | .inl q=>_ | .inr q=>_)=_
 rw [h]
def BG {Pt:Type}{step:(Pt->aD)->Pt->aD}{p:Pt}{r:aD}(h:∃m,step (iter step m) p=r):∃m,iter step m p=r:=h.elim fun m h=>⟨m+1,h⟩
def md (a0:az)(a1:List aF)(a2:Int)(a3:List av)(a4:Int):ak:=(cond (!Z13.md a3) ⟨a0,6,⟨⟨#[]⟩,0,0,[]⟩,[],0⟩ ((rs (lk a1 a4) 17 () a0 [] 0 a2 a3).1))
def gd (a0:az)(a1:List aF)(a2:Int)(a3:List av)(a4:Int):Prop:=(az.Sm (2^21) a0)/\(bn (2^21) (fun y:aF=>aF.Sm (2^21) y) a1)/\(bn (2^21) (fun y:av=>y.size<=(2^21)) a3)
def R:=zk gd md
def aq {a0 a1 a2 a3 a4}(h:gd a0 a1 a2 a3 a4):R ((az.r a0),(a1.map aF.row),a2,(a3.map bY),a4)=some (ak.r (md a0 a1 a2 a3 a4)):=zB h
def aV:=CN [.agg BU,pL 177,pI,pL 9,pI] (.agg f67) RT.dec R
def bH (a0)(a1)(a2)(a3)(a4)(hg:gd a0 a1 a2 a3 a4):∃n,start (iter step n) (az.r a0) (a1.map aF.row) a2 (a3.map bY) a4=ret (ak.r (md a0 a1 a2 a3 a4)):=by
 obtain ⟨H0,H1,H3⟩:=hg
 have key:∀(n:Nat) (k:az) (zs:List Int) (mv z:Int) (p:List av),az.Sm (2^21) k->Z13.md p=true->0<=mv->mv<=3->(3 - mv)*4+(p.length:Int)<=n->zs.length+n<=100->
   ∃m,iter step m (Pt.p0 (a1.map aF.row) a4 z (p.map bY) 0 ⟨#[]⟩ 0 0 0 6 ⟨#[]⟩ 0 0 mv (k.aZ.map (eG af.row)) (k.bN.map bt.row) (zs.map bh))=ret (ak.r (rs (lk a1 a4) n () k zs mv z p).1):=by
  intro n
  induction n with
  | zero=>intro k zs mv z p _ hp _ _ hm _;have:=(Z13.tr hp).1;omega
  | succ n ih=>
   intro k zs mv z p hk hp h0 h3 hm hz
   obtain ⟨⟨p1,p4⟩,p8⟩:=Z13.tr hp
   obtain ⟨x,xs,rfl⟩:∃x xs,p=x::xs:=by
    cases p with
    | nil=>simp at p1
    | cons x xs=>exact ⟨x,xs,rfl⟩
   have hx:x.size<=2^21:=le_trans (p8 x (by simp)) (by decide)
   have hxs:∀y∈xs,y.size<=2^22:=fun y hy=>le_trans (p8 y (by simp [hy])) (by decide)
   have hask:=Z105.fY (a0:=a1) (a1:=z) (a2:=x) ⟨H1,hx⟩
   have hlk:=Z121.fY (a0:=k) (a1:=Z105.md a1 z x) (a2:=z) (a3:=x) (a4:=a4) ⟨hk,hask,hx⟩
   have hat:tw ((x::xs).map bY) 0=x:=rfl
   have hg0:(x::xs).getD 0 ⟨#[]⟩=x:=rfl
   have ht:List.take (toNat (((xs.length+1:Nat):Int) - 1)) (List.drop 1 ((x::xs).map bY))=xs.map bY:=by
    simp only [List.map_cons,List.drop_succ_cons,List.drop_zero]
    exact List.take_of_length_le (by simp)
   have hkn:(lk a1 a4 () k z ((x::xs).getD 0 ⟨#[]⟩)).1=Z121.md k (Z105.md a1 z x) z x a4:=rfl
   simp only [List.length_cons] at p4 hm
   refine BG ?_
   simp only [step,hat,List.length_map,List.length_cons,ht]
   refine fJ lm ?_
   refine fJ dt ?_
   refine cx (Z105.aq (a0:=a1) ⟨H1,hx⟩) ?_
   refine fJ dt ?_
   refine cx (Z121.aq (a0:=k) (a1:=Z105.md a1 z x) ⟨hk,hask,hx⟩) ?_
   have hcase:∀q,nx (Z121.md k (Z105.md a1 z x) z x a4) mv (x::xs)=.inl q->rs (lk a1 a4) (n+1) () k zs mv z (x::xs)=(⟨(Z121.md k (Z105.md a1 z x) z x a4).cR,q.1,q.2,zs++[z],mv⟩,()):=fun q hq=>Aq hq
   have hcase2:∀q,nx (Z121.md k (Z105.md a1 z x) z x a4) mv (x::xs)=.inr q->rs (lk a1 a4) (n+1) () k zs mv z (x::xs)=rs (lk a1 a4) n () (Z121.md k (Z105.md a1 z x) z x a4).cR (zs++[z]) q.1 q.2.1 q.2.2:=fun q hq=>AJ hq
   revert hcase hcase2 hlk
   generalize Z121.md k (Z105.md a1 z x) z x a4=l
   intro hlk hcase hcase2
   refine cx (Z122.aq (a0:=l) hlk) ?_
   refine cx (Z123.aq (a0:=l) trivial) ?_
   obtain ⟨lk0,lf,le,ld,lc⟩:=l
   unfold nx at hcase hcase2
   unfold Z123.md Z122.md
   cases ld
   ·exact ⟨0,by rw [hcase _ rfl];exact fz⟩
   cases lf
   ·exact ⟨0,by rw [hcase _ rfl];exact fz⟩
   simp only [Bool.not_true,aT,aL,List.tail_cons] at hcase hcase2 ⊢
   have hpl:bn (2^21) (fun y:av=>y.size<=(2^21)) le.bg:=hlk.2.1.2
   have hpl1:le.bg.length<=2^21:=hpl.1
   have hzz:zs.map bh++[[L.int z]]=(zs++[z]).map bh:=by simp [bh]
   try simp only [SS]
   cases hk3:(le.bp==3)
   ·simp only [hk3,aT] at hcase hcase2 ⊢
    by_cases hx0:xs.length=0
    ·have e0:((xs.length:Int)==0)=true:=by simp [hx0]
     rw [e0] at hcase
     exact ⟨0,by rw [hcase _ rfl];exact aW (beq_iff_eq.2 (by omega)) fz⟩
    ·have e0:((xs.length:Int)==0)=false:=by simpa using hx0
     rw [e0] at hcase hcase2
     refine dQ (beq_eq_false_iff_ne.2 (by omega)) ?_
     cases hk2:(le.bp==2)
     ·simp only [hk2,aT] at hcase
      exact ⟨0,by rw [hcase _ rfl];exact aW (by simpa using hk2) fz⟩
     ·simp only [hk2,aT,aL] at hcase2
      refine dQ (by simpa using hk2) (fJ dt (fJ dt ?_))
      have hip:Z13.md xs=true:=Z13.tl hp hx0
      rw [hcase2 _ rfl,hzz]
      exact ih lk0 (zs++[z]) mv le.bJ xs hlk.1 hip h0 h3 (by omega) (by simp;omega)
   ·simp only [hk3,aL] at hcase hcase2 ⊢
    refine cx (Z9.aq (a0:=le.bg) hpl) ?_
    refine fJ dt (fJ dt (fJ (by have :(le.bg.map bY).length=le.bg.length:=List.length_map ..;have :(xs.map bY).length=xs.length:=List.length_map ..;exact gq (by omega)) ?_))
    by_cases hmv:mv>=3
    ·rw [decide_eq_true hmv] at hcase ⊢
     exact ⟨0,by rw [hcase _ rfl];exact fz⟩
    ·rw [decide_eq_false hmv] at hcase hcase2 ⊢
     simp only [aT] at hcase hcase2 ⊢
     have e:le.bg.map bY++xs.map bY=(le.bg++xs).map bY:=by simp
     rw [e]
     refine cx (Z13.aq (a0:=le.bg++xs) ⟨by rw [List.length_append];omega,fun y hy=>(List.mem_append.1 hy).elim (fun h=>le_trans (hpl.2 y h) (by decide)) (hxs y)⟩) ?_
     cases hip:Z13.md (le.bg++xs)
     ·rw [hip] at hcase
      exact ⟨0,by rw [hcase _ rfl];exact fz⟩
     ·rw [hip] at hcase2
      have ht:=Z13.tr hip
      rw [hcase2 _ rfl,hzz,wi _ (by omega)]
      exact ih lk0 (zs++[z]) (mv+1) le.bJ (le.bg++xs) hlk.1 hip (by omega) (by omega) (by omega) (by simp;omega)
 unfold start md
 refine cx (Z87.aq (a0:=a0) H0) ?_
 refine cx (Z13.aq (a0:=a3) (bn.mono H3 (by decide) (fun y hy=>le_trans hy (by decide)))) ?_
 cases hp:Z13.md a3
 ·exact ⟨0,rfl⟩
 ·simp only [Bool.not_true,aT]
  refine cx (Z9.aq (a0:=a3) H3) ?_
  exact key 17 a0 [] 0 a2 a3 H0 hp (by decide) (by decide) (by have:=(Z13.tr hp).1;omega) (by simp)
def ah:cY 107 aV:=L5 109 (fun _=>6) cZ eD live step start mix aJ bH (Cd Z87.ah Z13.ah Z9.ah Z105.ah Z121.ah Z122.ah Z123.ah) Tryz.func107
def D7 {l:bG}{mv:Int}{p:List av}{q:Int×aa}(h:nx l mv p=.inl q)(hl:aa.Sm (2^21) l.aE):aa.Sm (2^21) q.2:=by
 have ez:aa.Sm (2^21) ⟨⟨#[]⟩,0,0,[]⟩:=⟨zero_le _,bn.nil⟩
 unfold nx at h
 simp only [Bool.cond_eq_ite] at h
 revert h
 repeat' split
 all_goals (intro h;first | (cases h;done) | (injection h with h;subst h;first | exact hl | exact ez))
def Ch {l:bG}{mv:Int}{p:List av}{q:Int×Int×List av}(h:nx l mv p=.inr q)(hp:Z13.md p=true):Z13.md q.2.2=true:=by
 cases p with
 | nil=>have:=(Z13.tr hp).1;simp at this
 | cons x xs=>
  unfold nx at h
  simp only [Bool.cond_eq_ite,List.tail_cons] at h
  revert h
  repeat' split
  all_goals (intro h;first | (cases h;done) | (injection h with h;subst h;first | (rename_i h0 _;exact Z13.tl hp (by intro e;simp [e] at h0)) | simp_all))
def Cz {σ:Type}{look:σ->az->Int->av->bG×σ}(I:σ->Prop)(hl:∀c k z s,I c->az.Sm (2^21) k->s.size<=2^21->bG.Sm (2^21) (look c k z s).1/\I (look c k z s).2) :
  ∀(n:Nat) (c:σ) (k:az) (zs:List Int) (mv z:Int) (p:List av),I c->az.Sm (2^21) k->Z13.md p=true->zs.length+n<=2^21->
   ak.Sm (2^21) (rs look n c k zs mv z p).1/\I (rs look n c k zs mv z p).2
 | 0,c,k,zs,mv,z,p,hi,hk,_,hz=>⟨⟨hk,⟨zero_le _,bn.nil⟩,hz,fun _ _=>trivial⟩,hi⟩
 | n+1,c,k,zs,mv,z,p,hi,hk,hp,hz=>by
  have h8:=(Z13.tr hp).2
  have hx:(p.getD 0 ⟨#[]⟩).size<=2^21:=by
   cases p with
   | nil=>exact zero_le _
   | cons x xs=>exact le_trans (h8 x (by simp)) (by decide)
  obtain ⟨h1,h2⟩:=hl c k z (p.getD 0 ⟨#[]⟩) hi hk hx
  cases hn:nx (look c k z (p.getD 0 ⟨#[]⟩)).1 mv p with
  | inl q=>
   rw [Aq hn]
   exact ⟨⟨h1.1,D7 hn h1.2.1,by simp only [List.length_append,List.length_cons,List.length_nil];omega,fun _ _=>trivial⟩,h2⟩
  | inr q=>
   rw [AJ hn]
   exact Cz I hl n _ _ _ _ _ _ h2 h1.1 (Ch hn hp) (by simp only [List.length_append,List.length_cons,List.length_nil];omega)
def fY {a0:az}{a1:List aF}{a2:Int}{a3:List av}{a4:Int}(hg:gd a0 a1 a2 a3 a4):ak.Sm (2^21) (md a0 a1 a2 a3 a4):=by
 unfold gd at hg
 unfold md
 cases hp:Z13.md a3
 ·exact ⟨hg.1,⟨zero_le _,bn.nil⟩,zero_le _,fun _ _=>trivial⟩
 ·simp only [Bool.not_true,aT]
  exact (Cz (look:=lk a1 a4) (fun _=>True) (fun c k z s _ hk hs=>⟨Z121.fY ⟨hk,Z105.fY ⟨hg.2.1,hs⟩,hs⟩,trivial⟩) 17 () a0 [] 0 a2 a3 trivial hg.1 hp (show 0+17<=2^21 by omega)).1
end Z124
namespace Z125
inductive Pt where
 | p0 (a b c:an) (d e:Int) (f g h:an)
def cZ:Pt->List V
 | .p0 a b c d e f g h=>[.sl none 177 a,.sl none 144 b,.sl none 9 c,.int .i64 d,.bK 0 0,.own 1,.bK 2 0,.int .i64 e]
def eD:Pt->List aK
 | .p0 a b c d e f g h=>[.box [.nil,.nil],.row 67 f,.box [.own 3,.own 4],.row 24 g,.row 185 h]
def step (J:Pt->aD):Pt->aD
 | .p0 a b c d e f g h=>(cond (e<(b.length:Int)) (cond (e<3) (m2 e (b.length:Int) (call (Z124.R ((⟨g,h⟩:bP),a,(cw.at b (toNat e)).bM,c,d)) fun v1=>(call (Z87.R v1.cR) fun v2=>(cX (fu (((f.length:Int)+1)*144)) (J (.p0 a b c d (i64.wrap (e+1)) (f++[(bL.enc v1)]) v2.aZ v2.bN)))))) (ret ((f,(⟨g,h⟩:bP)):an×bP))) (ret ((f,(⟨g,h⟩:bP)):an×bP)))
def start (J:Pt->aD)(x0:bP)(x1 x2 x3:an)(x4:Int):aD:=(call (Z87.R x0) fun v1=>J (.p0 x1 x2 x3 x4 0 [] v1.aZ v1.bN))
def live:Nat->Live:=iD [(4,[(1,none),(2,none),(3,none),(4,none),(11,none),(12,some 67),(13,none),(14,none)])]
def md (a0:az)(a1:List aF)(a2:List cw)(a3:List av)(a4:Int):List ak×az:=(eP (S:=List ak×List (List af)×List bt) (β:=List ak×az) (fun (i1:Nat) (y1:cw) (s3:List ak×List (List af)×List bt)=>(cond ((i1:Int)<3) (.inl ((s3.1++[(Z124.md (⟨s3.2.1,s3.2.2⟩:az) a1 (y1.bM) a3 a4)]),((Z124.md (⟨s3.2.1,s3.2.2⟩:az) a1 (y1.bM) a3 a4).cR).aZ,((Z124.md (⟨s3.2.1,s3.2.2⟩:az) a1 (y1.bM) a3 a4).cR).bN)) (.inr (s3.1,(⟨s3.2.1,s3.2.2⟩:az))))) (fun (s3:List ak×List (List af)×List bt)=>(s3.1,(⟨s3.2.1,s3.2.2⟩:az))) 0 a2 ([],a0.aZ,a0.bN))
def gd (a0:az)(a1:List aF)(a2:List cw)(a3:List av)(a4:Int):Prop:=(az.Sm (2^21) a0)/\(bn (2^21) (fun y:aF=>aF.Sm (2^21) y) a1)/\(bn (2^21) (fun y:cw=>cw.Sm (2^21) y) a2)/\(bn (2^21) (fun y:av=>y.size<=(2^21)) a3)
def R:=zk gd md
def aq {a0 a1 a2 a3 a4}(h:gd a0 a1 a2 a3 a4):R ((az.r a0),(a1.map aF.row),(a2.map cw.row),(a3.map bY),a4)=some (((md a0 a1 a2 a3 a4).1.map ak.row),(az.r (md a0 a1 a2 a3 a4).2)):=zB h
def aV:=CN [.agg BU,pL 177,pL 144,pL 9,pI] (.gK [(false,[.fr 67]),(true,f65)]) RT.dec R
def bH (a0)(a1)(a2)(a3)(a4)(hg:gd a0 a1 a2 a3 a4):∃n,start (iter step n) (az.r a0) (a1.map aF.row) (a2.map cw.row) (a3.map bY) a4=ret (((md a0 a1 a2 a3 a4).1.map ak.row),(az.r (md a0 a1 a2 a3 a4).2)):=by
 obtain ⟨H0,H1,H2,H3⟩:=hg
 unfold start md
 try simp only [SS]
 refine cx (Z87.aq H0) ?_
 try simp only [SS]
 have Bh2:a2.length<=maxLen:=(by
   have:=(H2).1
   try simp only [maxLen] at *
   omega)
 refine ex_eq (out:=(fun b:List ak×az=>ret (((b.1.map ak.row),(az.r b.2)):an×bP))) (dD (z:=cw.zero)) ?_
 refine dW (p:=Pt.p0 (a1.map aF.row) (a2.map cw.row) (a3.map bY) a4 0 ([].map ak.row) (a0.aZ.map (eG af.row)) (a0.bN.map bt.row)) fz ?_
 refine bV (pt:=fun (i1:Nat) (s3:List ak×List (List af)×List bt)=>Pt.p0 (a1.map aF.row) (a2.map cw.row) (a3.map bY) a4 (i1:Int) (s3.1.map ak.row) (s3.2.1.map (eG af.row)) (s3.2.2.map bt.row)) (s:=(([],a0.aZ,a0.bN):List ak×List (List af)×List bt)) (out:=(fun b:List ak×az=>ret (((b.1.map ak.row),(az.r b.2)):an×bP))) (fun (i1:Nat) (s3:List ak×List (List af)×List bt)=>az.Sm (2^21) (⟨s3.2.1,s3.2.2⟩:az)/\s3.1.length<=i1) (fun J i1 s3 h2 hih2=>?_) (fun s3 hih2=>?_) ⟨H0,zero_le _⟩
 ·simp only [step,SS]
  have gr_:=hih2
  try simp only [LN] at gr_
  have bb_:=Bh2
  simp only [maxLen] at bb_
  have:=(H2).1
  refine bf.yes (by apply decide_eq_true;omega) ?_
  refine bf.bif (fun c4=>?_) (fun c4=>?_)
  ·have dc4:=c4
   try simp only [DC] at dc4
   refine bf.yes bA ?_
   refine bf.yes (bU h2) ?_
   refine cr (Z124.aq (a0:=(⟨s3.2.1,s3.2.2⟩:az)) ⟨⟨hih2.1.1,hih2.1.2⟩,H1,H3⟩) ?_
   try simp only [SS]
   refine cr (Z87.aq (a0:=(Z124.md (⟨s3.2.1,s3.2.2⟩:az) a1 ((a2.getD i1 cw.zero).bM) a3 a4).cR) (Z124.fY (a0:=(⟨s3.2.1,s3.2.2⟩:az)) (a1:=a1) (a2:=(a2.getD i1 cw.zero).bM) (a3:=a3) (a4:=a4) ⟨⟨hih2.1.1,hih2.1.2⟩,H1,H3⟩).1) ?_
   try simp only [SS]
   refine bf.yes lm ?_
   refine bf.inl (by exact ⟨(Z124.fY ⟨hih2.1,H1,H3⟩).1,oQ hih2.2⟩) ?_
   rw [aR h2 Bh2]
   all_goals exact fz
  ·refine bf.inr ?_
   all_goals exact fz
 ·simp only [step,SS]
  have gr_:=hih2
  try simp only [LN] at gr_
  have:=(H2).1
  refine dQ (by apply decide_eq_false;omega) ?_
  refine ⟨0,?_⟩
  all_goals exact fz
def ah:cY 58 aV:=L5 48 (fun _=>4) cZ eD live step start mix aJ bH (gH Z87.ah Z124.ah) Tryz.func58
def Bz (a1:List aF)(a3:List av)(a4:Int)(i:Nat)(y:cw)(s:List ak×List (List af)×List bt):(List ak×List (List af)×List bt)⊕(List ak×az):=
 bif (decide ((i:Int)<3)) then (.inl ((s.1++[(Z124.md (⟨s.2.1,s.2.2⟩:az) a1 (y.bM) a3 a4)]),((Z124.md (⟨s.2.1,s.2.2⟩:az) a1 (y.bM) a3 a4).cR).aZ,((Z124.md (⟨s.2.1,s.2.2⟩:az) a1 (y.bM) a3 a4).cR).bN)) else (.inr (s.1,(⟨s.2.1,s.2.2⟩:az)))
end Z125
namespace Z126
inductive Pt where
 | p0 (a b c:Int) (d e:an)
def pid:Pt->Nat
 | .p0 ..=>3
def cZ:Pt->List V
 | .p0 a b c d e=>[.bK 0 0,.own 2,.int .i64 a]
def eD:Pt->List aK
 | .p0 a b c d e=>[.box [.own 1,.int .i64 b,.int .i64 c],.vw 5 d,.row 9 e]
def step (J:Pt->aD):Pt->aD
 | .p0 a b c d e=>(cond (a>0) (call (Z6.R (d,b,c)) fun v1=>(cX (fu (((e.length:Int)+1)*16)) (J (.p0 (i64.wrap (a - 1)) v1.2.1 v1.2.2.1 d (e++[[L.str v1.2.2.2]]))))) (ret ((Hl.mk,b,c,e):Hl×Int×Int×an)))
def start (J:Pt->aD)(x0:an)(x1 x2:Int):aD:=(call (Z4.R (x0,x1,x2,3)) fun v1=>J (.p0 (i64.wrap (1+v1.2.2.2)) v1.2.1 v1.2.2.1 x0 []))
def live:Nat->Live:=iD [(3,[(0,none),(3,some 9),(4,none)])]
abbrev cG:List K:=[.sl 5,aQ,aQ]
def pats:List (Option fH):=[none]
def res:RP:=.one (.fr 9)
abbrev E:Env:={ T:=assoc mD,G:=cN [],nt:=19,M:=eL [],np:=(nC cG),mt:=false,I:=fV [(52,Z4.ic (nC cG)),(108,Z6.ic (nC cG))] }
def step_eq (I:dK)(p:Pt):dP E live I (pid p) (bQ Tryz.f111) (jr (live (pid p)) (cZ p) (eD p)) (dG E Tryz.f111 (.cur cG res.parts))=step (fun q=>I (pid q) (cZ q) (eD q)) p:=by
 cases p<;>kernel_rfl
def start_eq (I:dK)(ls:List L):gU E live I (bQ Tryz.f111) (gr cG pats ls) (dG E Tryz.f111 (.cur cG res.parts))=start (fun q=>I (pid q) (cZ q) (eD q)) (fc ls) (cA 1 ls) (cA 2 ls):=by kernel_rfl
def run_eq (n:Nat)(ls:List L):eS E live Tryz.f111 (.cur cG res.parts) n (gr cG pats ls)=start (iter step n) (fc ls) (cA 1 ls) (cA 2 ls):=dM (id:=pid) (vs:=cZ) (hs:=eD) (step:=step) (start:=fun J=>start J (fc ls) (cA 1 ls) (cA 2 ls)) step_eq (fun I=>start_eq I ls) n
def gd (x0:an)(x1 x2:Int):Prop:=CI x0 x1
def post (x0:an)(x1 x2:Int)(y:Hl×Int×Int×an):Prop:=CI x0 y.2.1/\∃m:List av,y.2.2.2=m.map bY/\bn 16 (fun y:av=>y.size<=16) m
def wp (x0:an)(x1 x2:Int)(hg:gd x0 x1 x2):∃n,Wp (start (iter step n) x0 x1 x2) (post x0 x1 x2):=by
 have key:∀a d e,0<=a->a<=6->CI x0 d->∃n,Wp (iter step n (.p0 a d e x0 [])) (post x0 x1 x2):=by
  intro a d e h1 h2 h3
  refine ⟨8,jD (fun p=>match p with | .p0 a b c d e=>0<=a/\a<=6/\CI d b/\d=x0/\∃ms:List av,e=ms.map bY/\(ms.length:Int)+a<=6/\∀s∈ms,s.size<=16) (fun p=>match p with | .p0 a b c d e=>a.toNat) (fun J p hI hJ=>?_) _ _ ⟨h1,h2,h3,rfl,[],rfl,by show (0:Int)+a<=6;omega,fun _ h=>(nomatch h)⟩ (by show a.toNat<8;omega)⟩
  obtain ⟨a,b,c,d,e⟩:=p
  obtain ⟨k1,k2,k3,rfl,ms,rfl,h6,h7⟩:=hI
  refine wp_cond (fun c1=>?_) (fun c1=>?_)
  ·have c1:=of_decide_eq_true c1
   have e1:i64.wrap (a - 1)=a - 1:=wi _ (by omega)
   refine Z6.cF k3 (fun v ⟨hv,hs⟩=>eX (gq (by rw [List.length_map];omega)) (hJ _ ⟨?_,?_,hv,rfl,ms++[v.2.2.2],by simp [bY],?_,fun s hm=>?_⟩ ?_))
   ·show 0<=i64.wrap (a - 1);omega
   ·show i64.wrap (a - 1)<=6;omega
   ·show ((ms++[_]).length:Int)+i64.wrap (a - 1)<=6;rw [e1];simp;omega
   ·rcases List.mem_append.1 hm with hm | hm
    ·exact h7 s hm
    ·simp at hm;subst hm;exact hs
   ·show (i64.wrap (a - 1)).toNat<a.toNat;omega
  ·exact wp_ret ⟨k3,ms,rfl,(show ms.length<=16 by omega),h7⟩
 obtain ⟨v,hv,pv⟩:=Z4.kO (x3:=3) hg
 obtain ⟨h1,h2⟩:=pv.2.2 (by decide)
 obtain ⟨n,hn⟩:=key (i64.wrap (1+v.2.2.2)) v.2.1 v.2.2.1 (by rw [wi _ (by omega)];omega) (by rw [wi _ (by omega)];omega) pv.1
 exact ⟨n,bD hv hn⟩
def R:(an×Int×Int)->Option (Hl×Int×Int×an):=RQ (fun n x=>start (iter step n) x.1 x.2.1 x.2.2) (fun x=>post x.1 x.2.1 x.2.2)
def cF {x0:an}{x1 x2:Int}{γ:Type}[RT γ]{k:(Hl×Int×Int×an)->aD}{Q:γ->Prop}(hg:gd x0 x1 x2)(hk:∀y,post x0 x1 x2 y->Wp (k y) Q):Wp (call (R (x0,x1,x2)) k) Q:=dY (wp x0 x1 x2 hg) hk
def acc (ls:List L):an×Int×Int:=((fc ls),(cA 1 ls),(cA 2 ls))
def aV:iL:=CC cG pats res acc R
def ah:fG Tryz.prog Ev 111 aV:=VC (live:=live) (mt:=false) mix aJ .nil .nil (.cons (Z4.bq (nC cG)) (.cons (Z6.bq (nC cG)) .nil)) Tryz.func111 (by kernel_rfl) run_eq
def ic (_:Nat):fU:=iQ Ev aV
def bq (n:Nat):dh Tryz.prog Ev n 111 (ic n):=dF ah
end Z126
namespace Z127
def F (x0:an)(x1 x2:Int):aD:=(call (Z6.R (x0,x1,x2)) fun v1=>(call (Z4.R (x0,v1.2.1,v1.2.2.1,5)) fun v2=>(cond (v2.2.2.2==0) (call (Z4.R (x0,v2.2.1,v2.2.2.1,5000)) fun v3=>(call (Z65.R (v1.2.2.2,v3.2.2.2)) fun v4=>ret ((Hl.mk,v3.2.1,v3.2.2.1,v4):Hl×Int×Int×aC))) (cond (v2.2.2.2==1) (call (Z4.R (x0,v2.2.1,v2.2.2.1,5000)) fun v5=>(call (Z126.R (x0,v5.2.1,v5.2.2.1)) fun v6=>(call (Z66.R (v1.2.2.2,v5.2.2.2,v6.2.2.2)) fun v7=>ret ((Hl.mk,v6.2.1,v6.2.2.1,v7):Hl×Int×Int×aC)))) (call (Z4.R (x0,v2.2.1,v2.2.2.1,50)) fun v8=>(call (Z7.R (v1.2.2.2,v8.2.2.2)) fun v9=>ret ((Hl.mk,v8.2.1,v8.2.2.1,v9):Hl×Int×Int×aC)))))))
abbrev cG:List K:=[.sl 5,aQ,aQ]
def pats:List (Option fH):=[none]
def res:RP:=.agg [.rd (.str),.rd (.int .i64),.rd (.int .i64),.fr 9]
abbrev E:Env:={ T:=assoc mD,G:=cN [(109,Z65.aV),(110,Z66.aV),(112,Z7.aV)],nt:=28,M:=eL [],np:=(nC cG),mt:=false,I:=fV [(108,Z6.ic (nC cG)),(52,Z4.ic (nC cG)),(111,Z126.ic (nC cG))] }
def run_eq (n:Nat)(ls:List L):eS E (fun _=>[]) Tryz.f59 (.cur cG res.parts) n (gr cG pats ls)=F (fc ls) (cA 1 ls) (cA 2 ls):=by kernel_rfl
def gd (x0:an)(x1 x2:Int):Prop:=CI x0 x1
def post (x0:an)(x1 x2:Int)(y:Hl×Int×Int×aC):Prop:=CI x0 y.2.1/\∃m:aa,y.2.2.2=aa.r m/\aa.Sm 16 m
def wp (x0:an)(x1 x2:Int)(hg:gd x0 x1 x2):Wp (F x0 x1 x2) (post x0 x1 x2):=by
 unfold F
 refine Z6.cF hg (fun v ⟨hv,hs⟩=>Z4.cF hv (fun w ⟨hw,_,_⟩=>wp_cond (fun _=>?_) (fun _=>wp_cond (fun _=>?_) (fun _=>?_))))
 ·refine Z4.cF hw (fun z ⟨hz,_,_⟩=>bD (Z65.aq trivial) (wp_ret ⟨hz,_,rfl,hs,zero_le _,fun _ h=>(nomatch h)⟩))
 ·refine Z4.cF hw (fun z ⟨hz,_,_⟩=>Z126.cF hz (fun t ⟨ht,m,e,hm⟩=>?_))
  rw [e]
  exact bD (Z66.aq ⟨le_trans hm.1 (by decide),fun s h=>le_trans (hm.2 s h) (by decide)⟩) (wp_ret ⟨ht,_,rfl,hs,hm⟩)
 ·refine Z4.cF hw (fun z ⟨hz,_,_⟩=>bD (Z7.aq trivial) (wp_ret ⟨hz,_,rfl,hs,zero_le _,fun _ h=>(nomatch h)⟩))
def R:(an×Int×Int)->Option (Hl×Int×Int×aC):=RQ (fun _ x=>F x.1 x.2.1 x.2.2) (fun x=>post x.1 x.2.1 x.2.2)
def cF {x0:an}{x1 x2:Int}{γ:Type}[RT γ]{k:(Hl×Int×Int×aC)->aD}{Q:γ->Prop}(hg:gd x0 x1 x2)(hk:∀y,post x0 x1 x2 y->Wp (k y) Q):Wp (call (R (x0,x1,x2)) k) Q:=dY ⟨0,wp x0 x1 x2 hg⟩ hk
def acc (ls:List L):an×Int×Int:=((fc ls),(cA 1 ls),(cA 2 ls))
def aV:iL:=CC cG pats res acc R
def ah:fG Tryz.prog Ev 59 aV:=VC (live:=(fun _=>[])) (mt:=false) mix aJ (nD Z65.ah Z66.ah Z7.ah) .nil (.cons (Z6.bq (nC cG)) (.cons (Z4.bq (nC cG)) (.cons (Z126.bq (nC cG)) .nil))) Tryz.func59 (by kernel_rfl) run_eq
def ic (_:Nat):fU:=iQ Ev aV
def bq (n:Nat):dh Tryz.prog Ev n 59 (ic n):=dF ah
end Z127
namespace Z128
inductive Pt where
 | p0 (a:an) (b:Int) (c:an)
def cZ:Pt->List V
 | .p0 a b c=>[.sl none 114 a,.own 0,.int .i64 b]
def eD:Pt->List aK
 | .p0 a b c=>[.row 114 c]
def step (J:Pt->aD):Pt->aD
 | .p0 a b c=>(cond (b<(a.length:Int)) (m2 b (a.length:Int) (call (Z9.R ((bI.at a (toNat b)).bg)) fun v1=>(m2 b (a.length:Int) (call (Z10.R ((bI.at a (toNat b)).aE)) fun v2=>(cX (fu (((c.length:Int)+1)*80)) (J (.p0 a (i64.wrap (b+1)) (c++[(bI.enc (⟨v1,v2⟩:bI))])))))))) (ret (c:an)))
def start (J:Pt->aD)(x0:an):aD:=J (.p0 x0 0 [])
def live:Nat->Live:=iD [(3,[(0,none),(3,some 114),(4,none)])]
def md (a0:List aj):List aj:=a0
def gd (a0:List aj):Prop:=(bn (2^21) (fun y:aj=>aj.Sm (2^21) y) a0)
def R:=RR gd md
def aq {a0}(h:gd a0):R (a0.map aj.row)=some (a0.map aj.row):=dX h
def aV:=CN [pL 114] (oL 114) RT.dec R
def bH (a0)(hg:gd a0):∃n,start (iter step n) (a0.map aj.row)=ret ((md a0).map aj.row):=by
 unfold gd at hg
 have H0:=hg
 unfold start md
 try simp only [SS]
 have Bh2:a0.length<=maxLen:=(by
   have:=(H0).1
   try simp only [maxLen] at *
   omega)
 refine ex_eq (out:=(fun b:List aj=>ret ((b.map aj.row):an))) (hU (xs:=a0) (z:=aj.zero) (t:=fun s3:List aj=>s3)) ?_
 refine dW (p:=Pt.p0 (a0.map aj.row) 0 ([].map aj.row)) fz ?_
 refine bV (pt:=fun (i1:Nat) (s3:List aj)=>Pt.p0 (a0.map aj.row) (i1:Int) (s3.map aj.row)) (s:=([]:List aj)) (out:=(fun b:List aj=>ret ((b.map aj.row):an))) (fun (i1:Nat) (s3:List aj)=>s3.length<=([]:List Int).length+1*i1) (fun J i1 s3 h2 hih2=>?_) (fun s3 hih2=>?_) (by simp)
 ·simp only [step,SS]
  have gr_:=hih2
  try simp only [LN] at gr_
  have bb_:=Bh2
  simp only [maxLen] at bb_
  have:=(H0).1
  refine bf.yes (by apply decide_eq_true;omega) ?_
  refine bf.yes bA ?_
  refine bf.yes (bU h2) ?_
  refine cr (Z9.aq (bn.getD (z:=aj.zero) H0 h2).1) ?_
  try simp only [SS]
  refine bf.yes bA ?_
  refine bf.yes (bU h2) ?_
  refine cr (Z10.aq (bn.getD (z:=aj.zero) H0 h2).2) ?_
  try simp only [SS]
  refine bf.yes lm ?_
  refine bf.inl (by
    have g_:=hih2
    try simp only [LN] at g_ ⊢
    first | omega | (simp;done) | (simp;omega)) ?_
  rw [aR h2 Bh2]
  all_goals exact fz
 ·simp only [step,SS]
  have gr_:=hih2
  try simp only [LN] at gr_
  have:=(H0).1
  refine dQ (by apply decide_eq_false;omega) ?_
  refine ⟨0,?_⟩
  all_goals exact fz
def ah:cY 80 aV:=L1 29 (fun _=>3) cZ eD live step start mix aJ bH (gH Z9.ah Z10.ah) Tryz.func80
end Z128
namespace Z129
inductive Pt where
 | p0 (a b:an) (c:Int)
def cZ:Pt->List V
 | .p0 a b c=>[.sl none 114 a,.sl none 9 b,.int .i64 c]
def step (J:Pt->aD):Pt->aD
 | .p0 a b c=>(cond (c<(a.length:Int)) (m2 c (a.length:Int) (call (Z109.R ((bI.at a (toNat c)).bg,b)) fun v1=>(cond v1 (ret (c:Int)) (J (.p0 a b (i64.wrap (c+1))))))) sP)
def start (J:Pt->aD)(x0 x1:an):aD:=J (.p0 x0 x1 0)
def live:Nat->Live:=iD [(2,mN [0,1,5])]
def md (a0:List aj)(a1:List av):Int:=(eP (S:=Unit) (β:=Int) (fun (i1:Nat) (y1:aj) (s3:Unit)=>(cond (Z109.md (y1.bg) a1) (.inr ((i1:Int):Int)) (.inl ()))) (fun (s3:Unit)=>((-1):Int)) 0 a0 ())
def gd (a0:List aj)(a1:List av):Prop:=(bn (2^21) (fun y:aj=>aj.Sm (2^21) y) a0)/\(bn (2^21) (fun y:av=>y.size<=(2^21)) a1)
def R:=eA gd md
def aq {a0 a1}(h:gd a0 a1):R ((a0.map aj.row),(a1.map bY))=some (md a0 a1):=eB h
def aV:=CN [pL 114,pL 9] oI RT.dec R
def bH (a0)(a1)(hg:gd a0 a1):∃n,start (iter step n) (a0.map aj.row) (a1.map bY)=ret (md a0 a1):=by
 obtain ⟨H0,H1⟩:=hg
 unfold start md
 try simp only [SS]
 have Bh2:a0.length<=maxLen:=(by
   have:=(H0).1
   try simp only [maxLen] at *
   omega)
 refine ex_eq (out:=ret) (dD (z:=aj.zero)) ?_
 refine dW (p:=Pt.p0 (a0.map aj.row) (a1.map bY) 0) fz ?_
 refine bV (pt:=fun (i1:Nat) (s3:Unit)=>Pt.p0 (a0.map aj.row) (a1.map bY) (i1:Int)) (s:=(():Unit)) (out:=ret) (fun _ _=>True) (fun J i1 s3 h2 hih2=>?_) (fun s3 hih2=>?_) trivial
 ·simp only [step,SS]
  have bb_:=Bh2
  simp only [maxLen] at bb_
  have:=(H0).1
  refine bf.yes (by apply decide_eq_true;omega) ?_
  refine bf.yes bA ?_
  refine bf.yes (bU h2) ?_
  refine cr (Z109.aq ⟨(bn.getD (z:=aj.zero) H0 h2).1,H1⟩) ?_
  refine bf.bif (fun c4=>?_) (fun c4=>?_)
  ·refine bf.inr ?_
   all_goals exact fz
  ·refine bf.inl trivial ?_
   rw [aR h2 Bh2]
   all_goals exact fz
 ·simp only [step,SS]
  have:=(H0).1
  refine dQ (by apply decide_eq_false;omega) ?_
  refine ⟨0,?_⟩
  all_goals exact fz
def ah:cY 82 aV:=L2 20 (fun _=>2) cZ (fun _=>[]) live step start mix aJ bH (dV Z109.ah) Tryz.func82
def fa (a0:List aj)(a1:List av):-1<=md a0 a1/\md a0 a1<(a0.length:Int):=by
 unfold md
 refine iU ?_ _ _
 all_goals
  intro i x s b h
  revert h
  simp only [Bool.cond_eq_ite]
  repeat' split
  all_goals (intro h;first | (cases h;rfl) | cases h)
end Z129
namespace Z130
inductive Pt where
 | p0 (a:an) (b:Int)
def cZ:Pt->List V
 | .p0 a b=>[.sl none 114 a,.int .i64 b]
def step (J:Pt->aD):Pt->aD
 | .p0 a b=>(cond (b<(a.length:Int)) (m2 b (a.length:Int) (call (Z13.R ((bI.at a (toNat b)).bg)) fun v1=>(cond (!v1) aS (m2 b (a.length:Int) (call (Z14.R ((bI.at a (toNat b)).aE)) fun v2=>(cond (!v2) aS (m2 b (a.length:Int) (call (Z129.R (a,(bI.at a (toNat b)).bg)) fun v3=>(cond (v3 != b) aS (J (.p0 a (i64.wrap (b+1))))))))))))) (ret ((decide ((a.length:Int)<=8)):Bool)))
def start (J:Pt->aD)(x0:an):aD:=J (.p0 x0 0)
def live:Nat->Live:=iD [(2,mN [0,3])]
def md (a0:List aj):Bool:=(eP (S:=Unit) (β:=Bool) (fun (i1:Nat) (y1:aj) (s3:Unit)=>(cond (!(Z13.md (y1.bg))) (.inr (false:Bool)) (cond (!(Z14.md (y1.aE))) (.inr (false:Bool)) (cond ((Z129.md a0 (y1.bg)) != (i1:Int)) (.inr (false:Bool)) (.inl ()))))) (fun (s3:Unit)=>((decide ((a0.length:Int)<=8)):Bool)) 0 a0 ())
def gd (a0:List aj):Prop:=(bn (2^21) (fun y:aj=>aj.Sm (2^21) y) a0)
def R:=RR gd md
def aq {a0}(h:gd a0):R (a0.map aj.row)=some (md a0):=dX h
def aV:=CN [pL 114] oB RT.dec R
def bH (a0)(hg:gd a0):∃n,start (iter step n) (a0.map aj.row)=ret (md a0):=by
 unfold gd at hg
 have H0:=hg
 unfold start md
 try simp only [SS]
 have Bh2:a0.length<=maxLen:=(by
   have:=(H0).1
   try simp only [maxLen] at *
   omega)
 refine ex_eq (out:=ret) (dD (z:=aj.zero)) ?_
 refine dW (p:=Pt.p0 (a0.map aj.row) 0) fz ?_
 refine bV (pt:=fun (i1:Nat) (s3:Unit)=>Pt.p0 (a0.map aj.row) (i1:Int)) (s:=(():Unit)) (out:=ret) (fun _ _=>True) (fun J i1 s3 h2 hih2=>?_) (fun s3 hih2=>?_) trivial
 ·simp only [step,SS]
  have bb_:=Bh2
  simp only [maxLen] at bb_
  have:=(H0).1
  refine bf.yes (by apply decide_eq_true;omega) ?_
  refine bf.yes bA ?_
  refine bf.yes (bU h2) ?_
  refine cr (Z13.aq ((bn.getD (z:=aj.zero) H0 h2).1.mono (by decide) (fun x hx=>(le_trans hx (by decide))))) ?_
  refine bf.bif (fun _=>bf.inr rfl) (fun c4=>?_)
  refine bf.yes bA ?_
  refine bf.yes (bU h2) ?_
  refine cr (Z14.aq (bn.getD (z:=aj.zero) H0 h2).2) ?_
  refine bf.bif (fun _=>bf.inr rfl) (fun c5=>?_)
  refine bf.yes bA ?_
  refine bf.yes (bU h2) ?_
  refine cr (Z129.aq ⟨H0,(bn.getD (z:=aj.zero) H0 h2).1⟩) ?_
  have fv3_:=Z129.fa a0 ((a0.getD i1 aj.zero).bg)
  refine bf.bif (fun _=>bf.inr rfl) (fun c6=>?_)
  refine bf.inl trivial ?_
  rw [aR h2 Bh2]
  all_goals exact fz
 ·simp only [step,SS]
  have:=(H0).1
  refine dQ (by apply decide_eq_false;omega) ?_
  refine ⟨0,?_⟩
  all_goals exact fz
def ah:cY 83 aV:=L1 40 (fun _=>2) cZ (fun _=>[]) live step start mix aJ bH (nD Z13.ah Z14.ah Z129.ah) Tryz.func83
end Z130
namespace Z131
def F (x0 x1:an)(x2:aC):aD:=(call (Z128.R x0) fun v1=>(call (Z9.R x1) fun v2=>(call (Z10.R x2) fun v3=>(call (Z129.R (x0,x1)) fun v4=>(cond (v4>=0) (m2 v4 (v1.length:Int) (call (Z130.R x0) fun v5=>(cond (!v5) (call (Z128.R x0) fun v6=>ret ((v6,false):an×Bool)) (call (Z130.R (List.set v1 (toNat v4) (bI.enc (⟨v2,v3⟩:bI)))) fun v7=>(cond (!v7) (call (Z128.R x0) fun v8=>ret ((v8,false):an×Bool)) (ret (((List.set v1 (toNat v4) (bI.enc (⟨v2,v3⟩:bI))),true):an×Bool))))))) (cX (fu (((v1.length:Int)+1)*80)) (call (Z130.R x0) fun v9=>(cond (!v9) (call (Z128.R x0) fun v10=>ret ((v10,false):an×Bool)) (call (Z130.R (v1++[(bI.enc (⟨v2,v3⟩:bI))])) fun v11=>(cond (!v11) (call (Z128.R x0) fun v12=>ret ((v12,false):an×Bool)) (ret (((v1++[(bI.enc (⟨v2,v3⟩:bI))]),true):an×Bool))))))))))))
def md (a0:List aj)(a1:List av)(a2:aa):List aj×Bool:=(cond ((Z129.md a0 a1)>=0) (cond (!(Z130.md a0)) (a0,false) (cond (!(Z130.md (List.set a0 (toNat (Z129.md a0 a1)) (⟨a1,a2⟩:aj)))) (a0,false) ((List.set a0 (toNat (Z129.md a0 a1)) (⟨a1,a2⟩:aj)),true))) (cond (!(Z130.md a0)) (a0,false) (cond (!(Z130.md (a0++[(⟨a1,a2⟩:aj)]))) (a0,false) ((a0++[(⟨a1,a2⟩:aj)]),true))))
def gd (a0:List aj)(a1:List av)(a2:aa):Prop:=(bn (2^20) (fun y:aj=>aj.Sm (2^20) y) a0)/\(bn (2^21) (fun y:av=>y.size<=(2^21)) a1)/\(aa.Sm (2^21) a2)
def R:=ot gd md
def aq {a0 a1 a2}(h:gd a0 a1 a2):R ((a0.map aj.row),(a1.map bY),(aa.r a2))=some (((md a0 a1 a2).1.map aj.row),(md a0 a1 a2).2):=nZ h
def aV:=CN [pL 114,pL 9,.agg xx] (.gK [(false,[.fr 114]),(false,[fB])]) RT.dec R
def bH (a0)(a1)(a2)(hg:gd a0 a1 a2):F (a0.map aj.row) (a1.map bY) (aa.r a2)=ret (((md a0 a1 a2).1.map aj.row),(md a0 a1 a2).2):=by
 obtain ⟨H0,H1,H2⟩:=hg
 unfold F md
 try simp only [SS]
 refine ct (Z128.aq (H0.mono (by decide) (fun x hx=>(aj.bC (by decide) hx)))) ?_
 try simp only [SS]
 refine ct (Z9.aq H1) ?_
 try simp only [SS]
 refine ct (Z10.aq H2) ?_
 try simp only [SS]
 refine ct (Z129.aq ⟨(H0.mono (by decide) (fun x hx=>(aj.bC (by decide) hx))),H1⟩) ?_
 have fv4_:=Z129.fa a0 a1
 refine au (fun b:List aj×Bool=>ret (((b.1.map aj.row),b.2):an×Bool)) (fun c1=>?_) (fun c1=>?_)
 ·have dc1:=c1
  try simp only [DC] at dc1
  refine aW dt ?_
  refine aW (have:=(H0).1;dt) ?_
  refine ct (Z130.aq (H0.mono (by decide) (fun x hx=>(aj.bC (by decide) hx)))) ?_
  refine au (fun b:List aj×Bool=>ret (((b.1.map aj.row),b.2):an×Bool)) (fun c2=>?_) (fun c2=>?_)
  ·refine ct (Z128.aq (H0.mono (by decide) (fun x hx=>(aj.bC (by decide) hx)))) ?_
   try simp only [SS]
   all_goals exact fz
  ·refine ec (Z130.md (List.set a0 (toNat (Z129.md a0 a1)) (⟨a1,a2⟩:aj))) (rq (Z130.aq (a0:=(List.set a0 (toNat (Z129.md a0 a1)) (⟨a1,a2⟩:aj))) (bn.set (H0.mono (by decide) (fun x hx=>(aj.bC (by decide) hx))) ⟨H1,H2⟩))) ?_
   refine au (fun b:List aj×Bool=>ret (((b.1.map aj.row),b.2):an×Bool)) (fun c3=>?_) (fun c3=>?_)
   ·refine ct (Z128.aq (H0.mono (by decide) (fun x hx=>(aj.bC (by decide) hx)))) ?_
    try simp only [SS]
    all_goals exact fz
   ·all_goals exact fz
 ·have dc1:=c1
  try simp only [DC] at dc1
  refine aW (have:=(H0).1;lm) ?_
  refine ct (Z130.aq (H0.mono (by decide) (fun x hx=>(aj.bC (by decide) hx)))) ?_
  refine au (fun b:List aj×Bool=>ret (((b.1.map aj.row),b.2):an×Bool)) (fun c4=>?_) (fun c4=>?_)
  ·refine ct (Z128.aq (H0.mono (by decide) (fun x hx=>(aj.bC (by decide) hx)))) ?_
   try simp only [SS]
   all_goals exact fz
  ·refine ec (Z130.md (a0++[(⟨a1,a2⟩:aj)])) (rq (Z130.aq (a0:=(a0++[(⟨a1,a2⟩:aj)])) (bn.app (a:=(2^20)) (b:=1) (H0.mono (by decide) (fun x hx=>(aj.bC (by decide) hx))) (bn.one ⟨H1,H2⟩) (by decide)))) ?_
   refine au (fun b:List aj×Bool=>ret (((b.1.map aj.row),b.2):an×Bool)) (fun c5=>?_) (fun c5=>?_)
   ·refine ct (Z128.aq (H0.mono (by decide) (fun x hx=>(aj.bC (by decide) hx)))) ?_
    try simp only [SS]
    all_goals exact fz
   ·all_goals exact fz
def ah:cY 33 aV:=W3 42 F mix aJ bH (xY Z128.ah Z9.ah Z10.ah Z129.ah Z130.ah) Tryz.func33
def BA {k:Nat}{a0:List aj}{a1:List av}{a2:aa}(h:∀s∈a0,aj.Sm k s)(h1:aj.Sm k ⟨a1,a2⟩):(md a0 a1 a2).1.length<=a0.length+1/\∀s∈(md a0 a1 a2).1,aj.Sm k s:=by
 unfold md
 simp only [Bool.cond_eq_ite]
 repeat' split
 all_goals first | exact ⟨Nat.le_succ _,h⟩ | skip
 ·exact ⟨by simp,fun x hx=>(List.mem_or_eq_of_mem_set hx).elim (h x) (fun e=>e ▸ h1)⟩
 ·exact ⟨by simp,fun x hx=>(List.mem_append.1 hx).elim (h x) (fun e=>by rw [List.mem_singleton.1 e];exact h1)⟩
end Z131
namespace Z132
def F (x0:an):aD:=(call (Z97.R x0) fun v1=>(call (Z125.R (v1.1,v1.2.1,v1.2.2.1,v1.2.2.2.1,v1.2.2.2.2)) fun v2=>(call (Z1.R x0) fun v3=>(call (Z4.R (v3.1,v3.2.1,v3.2.2,3)) fun v4=>(cond (v4.2.2.2==0) (call (Z127.R (v3.1,v4.2.1,v4.2.2.1)) fun v5=>(call (Z131.R ([],v1.2.2.2.1,v5.2.2.2)) fun v6=>ret ((v6.1,v2.1,v1.2.2.2.1):an×an×an))) (cond (v4.2.2.2==1) (cond ((v2.1.length:Int)>0) (cX ((0:Int)<(v2.1.length:Int)) (cond ((bL.at v2.1 0).bB==1) (cX ((0:Int)<(v2.1.length:Int)) (call (Z131.R ([],v1.2.2.2.1,(bL.at v2.1 0).aE)) fun v7=>ret ((v7.1,v2.1,v1.2.2.2.1):an×an×an))) (ret (([],v2.1,v1.2.2.2.1):an×an×an)))) (ret (([],v2.1,v1.2.2.2.1):an×an×an))) (ret (([],v2.1,v1.2.2.2.1):an×an×an))))))))
def pats:List fH:=[.rd (.sl 5)]
def res:RP:=.gK [(false,[.fr 114]),(false,[.fr 67]),(false,[.fr 9])]
abbrev E:Env:={ T:=assoc mD,G:=cN [(57,Z97.aV),(58,Z125.aV),(33,Z131.aV)],nt:=71,M:=eL [],np:=0,mt:=false,I:=fV [(50,Z1.ic 0),(52,Z4.ic 0),(59,Z127.ic 0)] }
def run_eq (n:Nat)(ls:List L):eS E (fun _=>[]) Tryz.f22 res n (dS pats ls)=F (fc ls):=by kernel_rfl
def gd (x0:an):Prop:=x0.length<=1048576
def post (x0:an)(y:an×an×an):Prop:=∃(l:List aj) (t:List ak) (p:List av),y=(l.map aj.row,t.map ak.row,p.map bY)/\bn (2^21) (fun z:aj=>aj.Sm (2^21) z) l/\bn (2^21) (fun z:ak=>ak.Sm (2^21) z) t/\bn (2^21) (fun y:av=>y.size<=2^21) p
def wp (x0:an)(hg:gd x0):Wp (F x0) (post x0):=by
 unfold F
 refine Z97.cF hg (fun v1 ⟨k,s,r,p,e1,h1,h2,h3,h4,_⟩=>?_)
 generalize v1.2.2.2.2=now at e1
 subst e1
 have h4':bn (2^21) (fun y:av=>y.size<=2^21) p:=h4.mono (by decide) fun _ h=>le_trans h (by decide)
 have g2:Z125.gd k s r p now:=⟨h1,h2.mono (by decide) fun _ h=>aF.bC (by decide) h,h3.mono (by decide) fun _ h=>cw.bC (by decide) h,h4'⟩
 refine bD (Z125.aq (a0:=k) (a1:=s) (a2:=r) (a3:=p) (a4:=now) g2) ?_
 have key:∀(xs:List cw) (i:Nat) (q:List ak×List (List af)×List bt),i<=3->(∀t∈q.1,ak.Sm (2^21) t)->q.1.length<=i->az.Sm (2^21) ⟨q.2.1,q.2.2⟩->bn 3 (fun z:ak=>ak.Sm (2^21) z) (eP (Z125.Bz s p now) (fun s=>(s.1,(⟨s.2.1,s.2.2⟩:az))) i xs q).1:=by
  intro xs
  induction xs with
  | nil=>intro i q hi ha hl hk;exact ⟨le_trans hl hi,ha⟩
  | cons y xs ih=>
   intro i q hi ha hl hk
   unfold eP Z125.Bz
   by_cases hc:i<3
   ·rw [decide_eq_true (show (i:Int)<3 by omega)]
    have hr:=Z124.fY (a2:=y.bM) (a4:=now) (show Z124.gd ⟨q.2.1,q.2.2⟩ s y.bM p now from ⟨hk,g2.2.1,h4'⟩)
    refine ih (i+1) _ (by omega) (fun t ht=>?_) (by simp;omega) hr.1
    rcases List.mem_append.1 ht with h | h
    ·exact ha t h
    ·rw [List.mem_singleton.1 h];exact hr
   ·rw [decide_eq_false (show ¬(i:Int)<3 by omega)]
    exact ⟨le_trans hl hi,ha⟩
 have ht:bn (2^21) (fun z:ak=>ak.Sm (2^21) z) (Z125.md k s r p now).1:=(key r 0 ([],k.aZ,k.bN) (by decide) (fun _ h=>(nomatch h)) (Nat.le_refl _) h1).mono (by decide) fun _ h=>h
 clear key
 generalize Z125.md k s r p now=t at ht ⊢
 refine Z1.cF hg (fun v3 ⟨e3,c3⟩=>Z4.cF (by rw [e3];exact c3) (fun v4 ⟨c4,_⟩=>?_))
 have nl:bn (2^20) (fun z:aj=>aj.Sm (2^20) z) []:=bn.nil
 have r0:Wp (ret (([],t.1.map ak.row,p.map bY):an×an×an)) (post x0):=wp_ret ⟨[],t.1,p,rfl,bn.nil,ht,h4'⟩
 have put:∀en:aa,aa.Sm (2^21) en->Wp (call (Z131.R ([],p.map bY,aa.r en)) fun v6=>ret ((v6.1,t.1.map ak.row,p.map bY):an×an×an)) (post x0):=by
  intro en he
  have hk:=Z131.BA (k:=2^21) (a0:=[]) (a1:=p) (a2:=en) (fun _ h=>(nomatch h)) ⟨h4',he⟩
  refine bD (Z131.aq (a0:=[]) (a1:=p) (a2:=en) ⟨nl,h4',he⟩) (wp_ret ⟨_,t.1,p,rfl,⟨le_trans hk.1 (by decide),hk.2⟩,ht,h4'⟩)
 refine wp_cond (fun _=>?_) (fun _=>wp_cond (fun _=>wp_cond (fun h5=>?_) (fun _=>r0)) (fun _=>r0))
 ·refine Z127.cF c4 (fun v5 ⟨c5,en,e5,s5⟩=>?_)
  rw [e5]
  exact put en (aa.bC (by decide) s5)
 ·have h5:=of_decide_eq_true h5
  have hl:(0:Int)<((t.1.map ak.row).length:Int):=h5
  have hi:0<t.1.length:=by rw [List.length_map] at hl;omega
  have hat:bL.at (t.1.map ak.row) 0=ak.r t.1[0]:=ak.kP hi
  refine eX (decide_eq_true hl) (wp_cond (fun _=>eX (decide_eq_true hl) ?_) (fun _=>r0))
  show Wp (call (Z131.R ([],p.map bY,(bL.at (t.1.map ak.row) 0).aE)) _) _
  rw [hat]
  exact put t.1[0].aE (ht.2 _ (List.getElem_mem hi)).2.1
def R:(an)->Option (an×an×an):=RQ (fun _ x=>F x) (fun x=>post x)
def kO {x0:an}(hg:gd x0):∃y,R x0=some y/\post x0 y:=pU ⟨0,wp x0 hg⟩
def acc (ls:List L):an:=(fc ls)
def aV:gW:=CN pats res acc R
def ah:cY 22 aV:=VQ (live:=(fun _=>[])) (mt:=false) mix aJ (nD Z97.ah Z125.ah Z131.ah) .nil (.cons (Z1.bq 0) (.cons (Z4.bq 0) (.cons (Z127.bq 0) .nil))) Tryz.func22 (by kernel_rfl) run_eq
end Z132
namespace Z133
def F (x0:bL):aD:=(cond (x0.bB==3) ff (cond (x0.bB==5) ff (ret ((x0.bB==6):Bool))))
def md (a0:ak):Bool:=(cond (a0.bB==3) (true:Bool) (cond (a0.bB==5) (true:Bool) ((a0.bB==6):Bool)))
def gd (a0:ak):Prop:=True
def R:=RR gd md
def aq {a0}(h:gd a0):R (ak.r a0)=some (md a0):=dX h
def aV:=CN [.agg Dn] oB RT.dec R
def bH (a0)(hg:gd a0):F (ak.r a0)=ret (md a0):=by
 unfold F md
 try simp only [SS]
 refine au ret (fun _=>rfl) (fun c1=>?_)
 refine au ret (fun _=>rfl) (fun c2=>?_)
 all_goals exact fz
def ah:cY 117 aV:=W1 16 F mix aJ bH .nil Tryz.func117
end Z133
namespace Z134
def F (x0 x1:bL):aD:=(cond (x0.bB==x1.bB) (call (Z110.R (x0.aE,x1.aE)) fun v1=>ret (v1:Bool)) aS)
def md (a0 a1:ak):Bool:=(cond (a0.bB==a1.bB) ((Z110.md a0.aE a1.aE):Bool) (false:Bool))
def gd (a0 a1:ak):Prop:=(ak.Sm (2^21) a0)/\(ak.Sm (2^21) a1)
def R:=eA gd md
def aq {a0 a1}(h:gd a0 a1):R ((ak.r a0),(ak.r a1))=some (md a0 a1):=eB h
def aV:=CN [.agg Dn,.agg Dn] oB RT.dec R
def bH (a0)(a1)(hg:gd a0 a1):F (ak.r a0) (ak.r a1)=ret (md a0 a1):=by
 obtain ⟨H0,H1⟩:=hg
 unfold F md
 try simp only [SS]
 refine au ret (fun c1=>?_) (fun _=>rfl)
 refine ct (Z110.aq ⟨H0.2.1,H1.2.1⟩) ?_
 all_goals exact fz
def ah:cY 118 aV:=W2 17 F mix aJ bH (dV Z110.ah) Tryz.func118
end Z134
namespace Z135
inductive Pt where
 | p0 (a:an) (b:Int) (c:an)
 | p1 (a:an) (b c d:Int) (e:an)
def pid:Pt->Nat
 | .p0 ..=>3
 | .p1 ..=>8
def cZ:Pt->List V
 | .p0 a b c=>[.sl none 67 a,.own 0,.int .i64 b]
 | .p1 a b c d e=>[.sl none 67 a,.own 0,.int .i64 b,.int .i64 c,.int .i64 d]
def eD:Pt->List aK
 | .p0 a b c=>[.row 29 c]
 | .p1 a b c d e=>[.row 29 e]
def step (J:Pt->aD):Pt->aD
 | .p0 a b c=>(cond (b<(a.length:Int)) (m2 b (a.length:Int) (call (Z133.R (bL.at a (toNat b))) fun v1=>(cond v1 (J (.p0 a (i64.wrap (b+1)) c)) (J (.p1 a b (-1) 0 c))))) (ret (c:an)))
 | .p1 a b c d e=>(cond (d<(e.length:Int)) (m2 d (e.length:Int) (cX ((0:Int)<((jT e (toNat d)).length:Int)) (cX ((0:Int)<=(iE (jT e (toNat d)) 0)) (cX ((iE (jT e (toNat d)) 0)<(a.length:Int)) (m2 b (a.length:Int) (call (Z134.R ((bL.at a (toNat (iE (jT e (toNat d)) 0))),(bL.at a (toNat b)))) fun v1=>(cond v1 (J (.p1 a b d (i64.wrap (d+1)) e)) (J (.p1 a b c (i64.wrap (d+1)) e))))))))) (cond (c<0) (cX (fu (((e.length:Int)+1)*24)) (J (.p0 a (i64.wrap (b+1)) (e++[[L.sl [[L.int b]]]])))) (m2 c (e.length:Int) (cX (fu ((((jT e (toNat c)).length:Int)+1)*8)) (m2 c (e.length:Int) (cX (Nat.beq (toNat c) (toNat c)&&true) (J (.p0 a (i64.wrap (b+1)) (List.set e (toNat c) [L.sl ((jT e (toNat c))++[[L.int b]])])))))))))
def start (J:Pt->aD)(x0:an):aD:=J (.p0 x0 0 [])
def live:Nat->Live:=iD [(3,[(0,none),(3,some 29),(4,none)]),(8,[(0,none),(3,some 29),(4,none),(5,none),(6,none)])]
def pats:List fH:=[.rd (.sl 67)]
def res:RP:=.one (.fr 29)
abbrev E:Env:={ T:=assoc mD,G:=cN [(117,Z133.aV),(118,Z134.aV)],nt:=58,M:=eL [],mt:=true }
def step_eq (I:dK)(p:Pt):dP E live I (pid p) (bQ Tryz.f67) (jr (live (pid p)) (cZ p) (eD p)) (dG E Tryz.f67 res)=step (fun q=>I (pid q) (cZ q) (eD q)) p:=by
 cases p<;>kernel_rfl
def start_eq (I:dK)(ls:List L):gU E live I (bQ Tryz.f67) (dS pats ls) (dG E Tryz.f67 res)=start (fun q=>I (pid q) (cZ q) (eD q)) (fc ls):=by kernel_rfl
def run_eq (n:Nat)(ls:List L):eS E live Tryz.f67 res n (dS pats ls)=start (iter step n) (fc ls):=dM (id:=pid) (vs:=cZ) (hs:=eD) (step:=step) (start:=fun J=>start J (fc ls)) step_eq (fun I=>start_eq I ls) n
def hd (xs:List ak)(g:List Int):ak:=xs.getD (toNat (g.getD 0 0)) ak.zero
def put (xs:List ak)(i:Nat)(t:ak):List (List Int)->List (List Int)
 | []=>[[(i:Int)]]
 | g::gs=>bif Z134.md (hd xs g) t then (g++[(i:Int)])::gs else g::put xs i t gs
def qD (xs:List ak):Nat->List (List Int)
 | 0=>[]
 | k+1=>bif Z133.md (xs.getD k ak.zero) then qD xs k else put xs k (xs.getD k ak.zero) (qD xs k)
def mV {a b:ak}:Z134.md a b=true↔a.bB=b.bB/\a.aE=b.aE:=by
 unfold Z134.md
 rw [Z110.md_eq]
 by_cases h:a.bB=b.bB
 ·rw [show (a.bB==b.bB)=true from beq_iff_eq.2 h,aL,fm]
  exact ⟨fun h2=>⟨h,h2⟩,fun h2=>h2.2⟩
 ·rw [show (a.bB==b.bB)=false from beq_eq_false_iff_ne.2 h,aT]
  exact ⟨fun h2=>(nomatch h2),fun h2=>(h h2.1).elim⟩
def xB {a b t:ak}(h:Z134.md a t=true)(h2:Z134.md b t=true):Z134.md a b=true:=
 mV.2 ⟨(mV.1 h).1.trans (mV.1 h2).1.symm,(mV.1 h).2.trans (mV.1 h2).2.symm⟩
def uU (xs:List ak)(i:Nat)(t:ak):∀out:List (List Int),∃n,n<=out.length/\(∀j,j<n->Z134.md (hd xs (out.getD j [])) t=false)/\
  ((n<out.length/\Z134.md (hd xs (out.getD n [])) t=true/\put xs i t out=out.set n (out.getD n []++[(i:Int)]))∨(n=out.length/\put xs i t out=out++[[(i:Int)]]))
 | []=>⟨0,Nat.le_refl _,fun j hj=>by omega,.inr ⟨rfl,rfl⟩⟩
 | g::gs=>by
  cases h:Z134.md (hd xs g) t
  ·obtain ⟨n,h1,h2,h3⟩:=uU xs i t gs
   refine ⟨n+1,by simpa using h1,fun j hj=>?_,?_⟩
   ·cases j with
    | zero=>exact h
    | succ j=>exact h2 j (by omega)
   ·rcases h3 with ⟨a,b,c⟩ | ⟨a,c⟩
    ·exact .inl ⟨by simpa using a,b,by simp [put,h,c]⟩
    ·exact .inr ⟨by simpa using a,by simp [put,h,c]⟩
  ·exact ⟨0,zero_le _,fun j hj=>by omega,.inl ⟨by simp,h,by simp [put,h]⟩⟩
def Inv (xs:List ak)(k:Nat)(out:List (List Int)):Prop:=
 out.length<=k/\(∀g∈out,1<=g.length/\g.length<=k/\0<=g.getD 0 0/\g.getD 0 0<(xs.length:Int))/\
 ∀i j,i<j->j<out.length->Z134.md (hd xs (out.getD i [])) (hd xs (out.getD j []))=false
def wN {g:List Int}{v:Int}(h:1<=g.length):(g++[v]).getD 0 0=g.getD 0 0:=by
 cases g with
 | nil=>simp at h
 | cons a g=>rfl
def Cf {xs:List ak}{k:Nat}{out:List (List Int)}(h:Inv xs k out)(hk:k<xs.length):Inv xs (k+1) (put xs k (xs.getD k ak.zero) out):=by
 obtain ⟨h1,h2,h3⟩:=h
 obtain ⟨n,hn,hlt,hcase⟩:=uU xs k (xs.getD k ak.zero) out
 rcases hcase with ⟨hnl,hsame,hput⟩ | ⟨rfl,hput⟩
 ·rw [hput]
  obtain ⟨p1,p2,p3,p4⟩:=h2 (out.getD n []) (by rw [eF hnl];exact List.getElem_mem _)
  have hset:∀i,i<out.length->hd xs ((out.set n (out.getD n []++[(k:Int)])).getD i [])=hd xs (out.getD i []):=by
   intro i hi
   by_cases hin:n=i
   ·subst hin
    have :(out.set n (out.getD n []++[(k:Int)])).getD n []=out.getD n []++[(k:Int)]:=by simp [List.getD_eq_getElem?_getD,hi]
    rw [this];unfold hd;rw [wN p1]
   ·have :(out.set n (out.getD n []++[(k:Int)])).getD i []=out.getD i []:=by simp [List.getD_eq_getElem?_getD,List.getElem?_set,hin]
    rw [this]
  refine ⟨by rw [List.length_set];omega,fun g hg=>?_,fun i j hij hj=>?_⟩
  ·rcases List.mem_or_eq_of_mem_set hg with hg | rfl
   ·obtain ⟨q1,q2,q3,q4⟩:=h2 g hg
    exact ⟨q1,by omega,q3,q4⟩
   ·rw [wN p1,List.length_append]
    exact ⟨by omega,by simp only [List.length_singleton];omega,p3,p4⟩
  ·rw [List.length_set] at hj
   rw [hset i (by omega),hset j hj]
   exact h3 i j hij hj
 ·rw [hput]
  refine ⟨by simp;omega,fun g hg=>?_,fun i j hij hj=>?_⟩
  ·rcases List.mem_append.1 hg with hg | hg
   ·obtain ⟨q1,q2,q3,q4⟩:=h2 g hg
    exact ⟨q1,by omega,q3,q4⟩
   ·rw [List.mem_singleton.1 hg]
    exact ⟨by simp,by simp,by simp,by simp;omega⟩
  ·rw [List.length_append,List.length_singleton] at hj
   have hi:(out++[[(k:Int)]]).getD i []=out.getD i []:=by
    simp only [List.getD_eq_getElem?_getD];rw [List.getElem?_append_left (by omega)]
   rw [hi]
   by_cases hjl:j<out.length
   ·have hj2:(out++[[(k:Int)]]).getD j []=out.getD j []:=by
     simp only [List.getD_eq_getElem?_getD];rw [List.getElem?_append_left hjl]
    rw [hj2];exact h3 i j hij hjl
   ·obtain rfl:j=out.length:=by omega
    have hj2:(out++[[(k:Int)]]).getD out.length []=[(k:Int)]:=by simp [List.getD_eq_getElem?_getD]
    rw [hj2]
    exact hlt i hij
def Inv.mono {xs:List ak}{k l:Nat}{out:List (List Int)}(h:Inv xs k out)(hk:k<=l):Inv xs l out:=
 ⟨le_trans h.1 hk,fun g hg=>let ⟨a,b,c⟩:=h.2.1 g hg;⟨a,le_trans b hk,c⟩,h.2.2⟩
def kg (xs:List ak):∀k:Nat,k<=xs.length->Inv xs k (qD xs k)
 | 0,_=>⟨Nat.le_refl _,fun _ h=>(nomatch h),fun i j _ h=>by simp [qD] at h⟩
 | k+1,hk=>by
  have ih:=kg xs k (by omega)
  unfold qD
  cases Z133.md (xs.getD k ak.zero)
  ·exact Cf ih (by omega)
  ·exact ih.mono (Nat.le_succ k)
def md (a0:List ak):List (List Int):=qD a0 a0.length
def gd (a0:List ak):Prop:=bn (2^21) (fun y:ak=>ak.Sm (2^21) y) a0
def acc (ls:List L):an:=(fc ls)
def R:(an)->Option (an):=RR gd md
def aq {a0}(h:gd a0):R (a0.map ak.row)=some ((md a0).map (eG bh)):=dX h
def aV:gW:=CN pats res acc R
def bH (a0:List ak)(hg:gd a0):∃n,start (iter step n) (a0.map ak.row)=ret (((md a0).map (eG bh)):an):=by
 unfold gd at hg
 have hl:=hg.1
 have inner:∀(k:Nat) (out:List (List Int)) (X:aD),k<a0.length->Inv a0 k out->(∃m,iter step m (Pt.p0 (a0.map ak.row) ((k+1:Nat):Int) ((put a0 k (a0.getD k ak.zero) out).map (eG bh)))=X)->
   ∃m,iter step m (Pt.p1 (a0.map ak.row) (k:Int) (-1) 0 (out.map (eG bh)))=X:=by
  intro k out X hk hI hX
  have vD:=hI.1
  have hs:∀(J:Pt->aD) (c:Int) (j:Nat),j<out.length->step J (Pt.p1 (a0.map ak.row) (k:Int) c (j:Int) (out.map (eG bh))) =
    (cond (Z134.md (hd a0 (out.getD j [])) (a0.getD k ak.zero)) (J (Pt.p1 (a0.map ak.row) (k:Int) (j:Int) ((j+1:Nat):Int) (out.map (eG bh)))) (J (Pt.p1 (a0.map ak.row) (k:Int) c ((j+1:Nat):Int) (out.map (eG bh))))):=by
   intro J c j hj
   obtain ⟨p1,p2,p3,p4⟩:=hI.2.1 (out.getD j []) (by rw [eF hj];exact List.getElem_mem _)
   have q1:(j:Int)<(out.length:Int):=by omega
   have q2:(0:Int)<=(j:Int):=by omega
   have q3:(0:Int)<((out.getD j []).length:Int):=by omega
   have q6:(0:Int)<=(k:Int):=by omega
   have q7:(k:Int)<(a0.length:Int):=by omega
   simp only [step,MM,S0,ak.rs,q1,q2,q3,p3,p4,q6,q7,decide_true,aL]
   rw [call_eq (Z134.aq ⟨bn.getD hg (by omega),bn.getD hg (by omega)⟩),wi _ (by omega)]
   rfl
  obtain ⟨n,hn,hlt,hcase⟩:=uU a0 k (a0.getD k ak.zero) out
  have hend:∀(J:Pt->aD) (c:Int),step J (Pt.p1 (a0.map ak.row) (k:Int) c (out.length:Int) (out.map (eG bh))) =
    (cond (c<0) (J (Pt.p0 (a0.map ak.row) ((k+1:Nat):Int) ((out++[[(k:Int)]]).map (eG bh)))) (cond ((0:Int)<=c) (cond (c<(out.length:Int)) (cond (fu ((((out.getD (toNat c) []).length:Int)+1)*8)) (cond ((0:Int)<=c) (cond (c<(out.length:Int)) (cond (Nat.beq (toNat c) (toNat c)&&true) (J (Pt.p0 (a0.map ak.row) ((k+1:Nat):Int) ((out.set (toNat c) (out.getD (toNat c) []++[(k:Int)])).map (eG bh)))) none) none) none) none) none) none)):=by
   intro J c
   simp only [step,MM,S0,ak.rs]
   rw [decide_eq_false (show ¬(out.length:Int)<(out.length:Int) by omega),aT,gq (by omega),aL,wi _ (by omega)]
   simp only [MP]
   rfl
  rcases hcase with ⟨hnl,hsame,hput⟩ | ⟨rfl,hput⟩
  ·
   rw [hput] at hX
   obtain ⟨m,hm⟩:=hX
   obtain ⟨p1,p2,p3,p4⟩:=hI.2.1 (out.getD n []) (by rw [eF hnl];exact List.getElem_mem _)
   have late:∀d j,j+d=out.length->n<j->∃m,iter step m (Pt.p1 (a0.map ak.row) (k:Int) (n:Int) (j:Int) (out.map (eG bh)))=X:=by
    intro d
    induction d with
    | zero=>
     intro j hj _
     obtain rfl:j=out.length:=by omega
     refine ⟨m+1,(hend _ _).trans ?_⟩
     have e:toNat (n:Int)=n:=by omega
     rw [decide_eq_false (by omega),aT,decide_eq_true (by omega),aL,decide_eq_true (by omega),aL,e,gq (by omega),aL,aL,aL,CF,aL]
     exact hm
    | succ d ih=>
     intro j hj hnj
     obtain ⟨m2,hm2⟩:=ih (j+1) (by omega) (by omega)
     refine ⟨m2+1,(hs _ _ j (by omega)).trans ?_⟩
     have :Z134.md (hd a0 (out.getD j [])) (a0.getD k ak.zero)=false:=by
      cases hc:Z134.md (hd a0 (out.getD j [])) (a0.getD k ak.zero) with
      | false=>rfl
      | true=>
       have h1:=hI.2.2 n j hnj (by omega)
       rw [xB hsame hc] at h1
       cases h1
     rw [this,aT]
     exact hm2
   have early:∀d j,j+d=n->∃m,iter step m (Pt.p1 (a0.map ak.row) (k:Int) (-1) (j:Int) (out.map (eG bh)))=X:=by
    intro d
    induction d with
    | zero=>
     intro j hj
     obtain rfl:j=n:=by omega
     obtain ⟨m2,hm2⟩:=late (out.length - (j+1)) (j+1) (by omega) (by omega)
     refine ⟨m2+1,(hs _ _ j hnl).trans ?_⟩
     rw [hsame,aL]
     exact hm2
    | succ d ih=>
     intro j hj
     obtain ⟨m2,hm2⟩:=ih (j+1) (by omega)
     refine ⟨m2+1,(hs _ _ j (by omega)).trans ?_⟩
     rw [hlt j (by omega),aT]
     exact hm2
   exact early n 0 (by omega)
  ·
   rw [hput] at hX
   obtain ⟨m,hm⟩:=hX
   have early:∀d j,j+d=out.length->∃m,iter step m (Pt.p1 (a0.map ak.row) (k:Int) (-1) (j:Int) (out.map (eG bh)))=X:=by
    intro d
    induction d with
    | zero=>
     intro j hj
     obtain rfl:j=out.length:=by omega
     refine ⟨m+1,(hend _ _).trans ?_⟩
     rw [decide_eq_true (by omega),aL]
     exact hm
    | succ d ih=>
     intro j hj
     obtain ⟨m2,hm2⟩:=ih (j+1) (by omega)
     refine ⟨m2+1,(hs _ _ j (by omega)).trans ?_⟩
     rw [hlt j (by omega),aT]
     exact hm2
   exact early out.length 0 (by omega)
 have outer:∀d k,k+d=a0.length->∃m,iter step m (Pt.p0 (a0.map ak.row) (k:Int) ((qD a0 k).map (eG bh)))=ret ((qD a0 a0.length).map (eG bh):an):=by
  intro d
  induction d with
  | zero=>
   intro k hk
   obtain rfl:k=a0.length:=by omega
   refine ⟨1,?_⟩
   show step (iter step 0) _=_
   simp only [step,S0]
   exact gu (decide_eq_false (by omega)) rfl
  | succ d ih=>
   intro k hk
   have hX:=ih (k+1) (by omega)
   have hI:=kg a0 k (by omega)
   have hst:∀J:Pt->aD,step J (Pt.p0 (a0.map ak.row) (k:Int) ((qD a0 k).map (eG bh)))=(cond (Z133.md (a0.getD k ak.zero)) (J (Pt.p0 (a0.map ak.row) ((k+1:Nat):Int) ((qD a0 k).map (eG bh)))) (J (Pt.p1 (a0.map ak.row) (k:Int) (-1) 0 ((qD a0 k).map (eG bh))))):=by
    intro J
    have q6:(0:Int)<=(k:Int):=by omega
    have q7:(k:Int)<(a0.length:Int):=by omega
    simp only [step,MM,S0,ak.rs,q6,q7,decide_true,aL]
    rw [call_eq (Z133.aq trivial),wi _ (by omega)]
    rfl
   have eg:qD a0 (k+1)=(cond (Z133.md (a0.getD k ak.zero)) (qD a0 k) (put a0 k (a0.getD k ak.zero) (qD a0 k))):=rfl
   rw [eg] at hX
   cases hs:Z133.md (a0.getD k ak.zero)
   ·rw [hs,aT] at hX
    obtain ⟨m,hm⟩:=inner k (qD a0 k) _ (by omega) hI hX
    refine ⟨m+1,(hst _).trans ?_⟩
    rw [hs,aT];exact hm
   ·rw [hs,aL] at hX
    obtain ⟨m,hm⟩:=hX
    refine ⟨m+1,(hst _).trans ?_⟩
    rw [hs,aL];exact hm
 unfold start md
 exact outer a0.length 0 (by omega)
def ah:cY 67 aV:=VT (run:=fun n x=>start (iter step n) x) mix aJ (gH Z133.ah Z134.ah) .nil Tryz.func67 (by kernel_rfl) run_eq (fun _ a _ _ hg=>bH a hg)
def fa (a0:List ak):0<(md a0).length->1<=((md a0).getD 0 []).length/\0<=((md a0).getD 0 []).getD 0 0/\((md a0).getD 0 []).getD 0 0<(a0.length:Int):=fun h=>by
 have hI:=(Z135.kg a0 a0.length (Nat.le_refl _)).2.1 ((md a0).getD 0 []) (by rw [eF h];exact List.getElem_mem _)
 exact ⟨hI.1,hI.2.2.1,hI.2.2.2⟩
end Z135
namespace Z136
inductive Pt where
 | p0 (a:an) (b:Int) (c d:an)
def cZ:Pt->List V
 | .p0 a b c d=>[.sl none 67 a,.own 0,.own 1,.int .i64 b]
def eD:Pt->List aK
 | .p0 a b c d=>[.row 53 c,.row 29 d]
def step (J:Pt->aD):Pt->aD
 | .p0 a b c d=>(cond (b<(d.length:Int)) (cond ((d.length:Int)>1) (m2 b (d.length:Int) (cX ((0:Int)<((jT d (toNat b)).length:Int)) (cX ((0:Int)<=(iE (jT d (toNat b)) 0)) (cX ((iE (jT d (toNat b)) 0)<(a.length:Int)) (cond ((bL.at a (toNat (iE (jT d (toNat b)) 0))).bB==1) (call (Z10.R ((bL.at a (toNat (iE (jT d (toNat b)) 0))).aE)) fun v1=>(cX (fu (((c.length:Int)+1)*56)) (J (.p0 a (i64.wrap (b+1)) (c++[(aC.enc v1)]) d)))) (J (.p0 a (i64.wrap (b+1)) c d))))))) (ret (c:an))) (ret (c:an)))
def start (J:Pt->aD)(x0:an):aD:=(call (Z135.R x0) fun v1=>J (.p0 x0 0 [] v1))
def live:Nat->Live:=iD [(4,[(0,none),(3,some 53),(4,none),(5,none)])]
def tv (xs:List ak)(g:List Int):List aa:=bif (Z135.hd xs g).bB==1 then [(Z135.hd xs g).aE] else []
def vp (xs:List ak)(g:List Int):(tv xs g).length<=1:=by
 unfold tv
 cases ((Z135.hd xs g).bB==1)
 ·exact zero_le _
 ·exact Nat.le_refl _
def md (a0:List ak):List aa:=(cond ((Z135.md a0).length>1) ((Z135.md a0).flatMap (tv a0)) [])
def gd (a0:List ak):Prop:=bn (2^21) (fun y:ak=>ak.Sm (2^21) y) a0
def R:=RR gd md
def aq {a0}(h:gd a0):R (a0.map ak.row)=some ((md a0).map aa.row):=dX h
def aV:=CN [pL 67] (oL 53) RT.dec R
def bH (a0)(hg:gd a0):∃n,start (iter step n) (a0.map ak.row)=ret ((md a0).map aa.row):=by
 unfold gd at hg
 have hl:=hg.1
 have hI:=Z135.kg a0 a0.length (Nat.le_refl _)
 have key:∀(G:List (List Int)),Z135.Inv a0 a0.length G->1<G.length->∀d k (c:List aa),k+d=G.length->c.length<=k->∃m,iter step m (Pt.p0 (a0.map ak.row) (k:Int) (c.map aa.row) (G.map (eG bh)))=ret ((c++(G.drop k).flatMap (tv a0)).map aa.row:an):=by
  intro G hG h1 d
  have hGl:=hG.1
  induction d with
  | zero=>
   intro k c hk hc
   obtain rfl:k=G.length:=by omega
   refine ⟨1,?_⟩
   show step (iter step 0) _=_
   simp only [step,S0]
   refine gu (decide_eq_false (by omega)) ?_
   rw [List.drop_eq_nil_of_le (Nat.le_refl _),List.flatMap_nil,List.append_nil]
  | succ d ih=>
   intro k c hk hc
   have hlt:k<G.length:=by omega
   obtain ⟨p1,p2,p3,p4⟩:=hG.2.1 (G.getD k []) (by rw [eF hlt];exact List.getElem_mem _)
   have q1:(k:Int)<(G.length:Int):=by omega
   have q2:(0:Int)<=(k:Int):=by omega
   have q3:(0:Int)<((G.getD k []).length:Int):=by omega
   have q4:(G.length:Int)>1:=by omega
   have q5:fu (((c.length:Int)+1)*56)=true:=gq (by omega)
   have hdr:(G.drop k).flatMap (tv a0)=tv a0 (G.getD k [])++(G.drop (k+1)).flatMap (tv a0):=by
    rw [List.drop_eq_getElem_cons hlt,List.flatMap_cons,eF hlt]
   have hst:∀J:Pt->aD,step J (Pt.p0 (a0.map ak.row) (k:Int) (c.map aa.row) (G.map (eG bh)))=J (Pt.p0 (a0.map ak.row) ((k+1:Nat):Int) ((c++tv a0 (G.getD k [])).map aa.row) (G.map (eG bh))):=by
    intro J
    unfold tv Z135.hd
    simp only [step,MM,S0,ak.rs,q1,q2,q3,q4,q5,p3,p4,decide_true,aL]
    rw [wi _ (by omega)]
    cases ((a0.getD (toNat ((G.getD k []).getD 0 0)) ak.zero).bB==1)
    ·simp only [aT,List.append_nil]
     rfl
    ·simp only [aL]
     rw [call_eq (Z10.aq (a0:=(a0.getD (toNat ((G.getD k []).getD 0 0)) ak.zero).aE) (bn.getD (z:=ak.zero) hg (by omega)).2.1)]
     simp only [MP]
     rfl
   obtain ⟨m,hm⟩:=ih (k+1) (c++tv a0 (G.getD k [])) (by omega) (by have:=vp a0 (G.getD k []);rw [List.length_append];omega)
   refine ⟨m+1,(hst _).trans ?_⟩
   rw [hdr,<-List.append_assoc]
   exact hm
 unfold start md
 refine gv ((Z135.md a0).map (eG bh)) (Z135.aq hg) ?_
 by_cases h1:(Z135.md a0).length>1
 ·obtain ⟨m,hm⟩:=key (Z135.md a0) hI h1 (Z135.md a0).length 0 [] (by omega) (Nat.le_refl _)
  refine ⟨m,?_⟩
  rw [decide_eq_true h1,aL]
  exact hm
 ·refine ⟨1,?_⟩
  rw [decide_eq_false h1,aT]
  show step (iter step 0) _=_
  simp only [step,S0]
  by_cases h0:(0:Int)<((Z135.md a0).length:Int)
  ·rw [decide_eq_true h0,aL,decide_eq_false (by omega),aT];rfl
  ·rw [decide_eq_false h0,aT];rfl
def ah:cY 66 aV:=L1 40 (fun _=>4) cZ eD live step start mix aJ bH (gH Z135.ah Z10.ah) Tryz.func66
end Z136
namespace Z137
def F (x0 x1:an):aD:=(call (Z129.R (x0,x1)) fun v1=>(cond (v1<0) (ret (((⟨(⟨#[]⟩:av),0,0,[]⟩:aC),false):aC×Bool)) (m2 v1 (x0.length:Int) (call (Z10.R ((bI.at x0 (toNat v1)).aE)) fun v2=>ret ((v2,true):aC×Bool)))))
def md (a0:List aj)(a1:List av):aa×Bool:=(cond ((Z129.md a0 a1)<0) ((⟨((⟨#[]⟩:av):av),0,0,[]⟩:aa),false) (((a0.getD (toNat (Z129.md a0 a1)) aj.zero).aE),true))
def gd (a0:List aj)(a1:List av):Prop:=(bn (2^21) (fun y:aj=>aj.Sm (2^21) y) a0)/\(bn (2^21) (fun y:av=>y.size<=(2^21)) a1)
def R:=eA gd md
def aq {a0 a1}(h:gd a0 a1):R ((a0.map aj.row),(a1.map bY))=some ((aa.r (md a0 a1).1),(md a0 a1).2):=eB h
def aV:=CN [pL 114,pL 9] (.gK [(true,f53),(false,[fB])]) RT.dec R
def bH (a0)(a1)(hg:gd a0 a1):F (a0.map aj.row) (a1.map bY)=ret ((aa.r (md a0 a1).1),(md a0 a1).2):=by
 obtain ⟨H0,H1⟩:=hg
 unfold F md
 try simp only [SS]
 refine ct (Z129.aq ⟨H0,H1⟩) ?_
 have fv1_:=Z129.fa a0 a1
 refine au (fun b:aa×Bool=>ret (((aa.r b.1),b.2):aC×Bool)) (fun c1=>?_) (fun c1=>?_)
 ·all_goals exact fz
 ·have dc1:=c1
  try simp only [DC] at dc1
  refine aW dt ?_
  refine aW (have:=(H0).1;dt) ?_
  refine ct (Z10.aq (bn.getD (z:=aj.zero) H0 (by first | assumption | omega | (simp (disch:=omega) only [wi];omega) | (simp;omega))).2) ?_
  try simp only [SS]
  all_goals exact fz
def ah:cY 68 aV:=W2 19 F mix aJ bH (gH Z129.ah Z10.ah) Tryz.func68
def fY {a0:List aj}{a1:List av}(hg:gd a0 a1):aa.Sm (2^21) ((md a0 a1).1):=by
 unfold gd at hg;unfold md
 have hf:=Z129.fa a0 a1
 cases h:decide (Z129.md a0 a1<0)
 ·simp only [decide_eq_false_iff_not] at h
  exact (bn.getD hg.1 (by omega)).2
 ·exact ⟨(zero_le _),bn.nil⟩
end Z137
namespace Z138
inductive Pt where
 | p0 (a:an) (b:Int) (c:aC)
def cZ:Pt->List V
 | .p0 a b c=>[.sl none 67 a,.bK 0 0,.int .i64 b]
def eD:Pt->List aK
 | .p0 a b c=>[.box [.str c.bk,.int .i64 c.bp,.int .i64 c.bJ,.sl none 9 c.bg]]
def step (J:Pt->aD):Pt->aD
 | .p0 a b c=>(cond (b<(a.length:Int)) (m2 b (a.length:Int) (cond ((bL.at a (toNat b)).bB==1) (m2 b (a.length:Int) (call (Z110.R ((bL.at a (toNat b)).aE,c)) fun v1=>(cond v1 ff (J (.p0 a (i64.wrap (b+1)) c))))) (J (.p0 a (i64.wrap (b+1)) c)))) aS)
def start (J:Pt->aD)(x0:an)(x1:aC):aD:=J (.p0 x0 0 x1)
def live:Nat->Live:=iD [(2,mN [0,3,5])]
def md (a0:List ak)(a1:aa):Bool:=(eI (S:=Unit) (β:=Bool) (fun (y1:ak) (s3:Unit)=>(cond (y1.bB==1) (cond (Z110.md (y1.aE) a1) (.inr (true:Bool)) (.inl ())) (.inl ()))) (fun (s3:Unit)=>(false:Bool)) a0 ())
def gd (a0:List ak)(a1:aa):Prop:=(bn (2^21) (fun y:ak=>ak.Sm (2^21) y) a0)/\(aa.Sm (2^21) a1)
def R:=eA gd md
def aq {a0 a1}(h:gd a0 a1):R ((a0.map ak.row),(aa.r a1))=some (md a0 a1):=eB h
def aV:=CN [pL 67,.agg xx] oB RT.dec R
def bH (a0)(a1)(hg:gd a0 a1):∃n,start (iter step n) (a0.map ak.row) (aa.r a1)=ret (md a0 a1):=by
 obtain ⟨H0,H1⟩:=hg
 unfold start md
 try simp only [SS]
 have Bh2:a0.length<=maxLen:=(by
   have:=(H0).1
   try simp only [maxLen] at *
   omega)
 refine ex_eq (out:=ret) (eo (z:=ak.zero)) ?_
 refine dW (p:=Pt.p0 (a0.map ak.row) 0 (aa.r a1)) fz ?_
 refine bV (pt:=fun (i1:Nat) (s3:Unit)=>Pt.p0 (a0.map ak.row) (i1:Int) (aa.r a1)) (s:=(():Unit)) (out:=ret) (fun _ _=>True) (fun J i1 s3 h2 hih2=>?_) (fun s3 hih2=>?_) trivial
 ·simp only [step,SS]
  have bb_:=Bh2
  simp only [maxLen] at bb_
  have:=(H0).1
  refine bf.yes (by apply decide_eq_true;omega) ?_
  refine bf.yes bA ?_
  refine bf.yes (bU h2) ?_
  refine bf.bif (fun c4=>?_) (fun c4=>?_)
  ·refine bf.yes bA ?_
   refine bf.yes (bU h2) ?_
   refine cr (Z110.aq ⟨(bn.getD (z:=ak.zero) H0 h2).2.1,H1⟩) ?_
   refine bf.bif (fun _=>bf.inr rfl) (fun c5=>?_)
   refine bf.inl trivial ?_
   rw [aR h2 Bh2]
   all_goals exact fz
  ·refine bf.inl trivial ?_
   rw [aR h2 Bh2]
   all_goals exact fz
 ·simp only [step,SS]
  have:=(H0).1
  refine dQ (by apply decide_eq_false;omega) ?_
  refine ⟨0,?_⟩
  all_goals exact fz
def ah:cY 69 aV:=L2 27 (fun _=>2) cZ eD live step start mix aJ bH (dV Z110.ah) Tryz.func69
end Z138
namespace Z139
def F (x0 x1 x2:an):aD:=(call (Z136.R x1) fun v1=>(call (Z135.R x1) fun v2=>(call (Z137.R (x0,x2)) fun v3=>(cond ((v2.length:Int)==0) (ret ((⟨5,(⟨(⟨#[]⟩:av),0,0,[]⟩:aC),v1⟩:aO):aO)) (cX ((0:Int)<(v2.length:Int)) (cX ((0:Int)<((jT v2 0).length:Int)) (cX ((0:Int)<=(iE (jT v2 0) 0)) (cX ((iE (jT v2 0) 0)<(x1.length:Int)) (cond v3.2 (call (Z138.R (x1,v3.1)) fun v4=>(cond v4 (ret ((⟨1,v3.1,v1⟩:aO):aO)) (cond v3.2 (ret ((⟨3,(⟨(⟨#[]⟩:av),0,0,[]⟩:aC),v1⟩:aO):aO)) (cond ((v2.length:Int)>1) (ret ((⟨3,(⟨(⟨#[]⟩:av),0,0,[]⟩:aC),v1⟩:aO):aO)) (cond ((bL.at x1 (toNat (iE (jT v2 0) 0))).bB != 1) (ret ((⟨4,(⟨(⟨#[]⟩:av),0,0,[]⟩:aC),v1⟩:aO):aO)) (call (Z10.R ((bL.at x1 (toNat (iE (jT v2 0) 0))).aE)) fun v5=>ret ((⟨2,v5,v1⟩:aO):aO))))))) (cond v3.2 (ret ((⟨3,(⟨(⟨#[]⟩:av),0,0,[]⟩:aC),v1⟩:aO):aO)) (cond ((v2.length:Int)>1) (ret ((⟨3,(⟨(⟨#[]⟩:av),0,0,[]⟩:aC),v1⟩:aO):aO)) (cond ((bL.at x1 (toNat (iE (jT v2 0) 0))).bB != 1) (ret ((⟨4,(⟨(⟨#[]⟩:av),0,0,[]⟩:aC),v1⟩:aO):aO)) (call (Z10.R ((bL.at x1 (toNat (iE (jT v2 0) 0))).aE)) fun v6=>ret ((⟨2,v6,v1⟩:aO):aO))))))))))))))
def md (a0:List aj)(a1:List ak)(a2:List av):aA:=(cond (((Z135.md a1).length:Int)==0) (⟨5,(⟨((⟨#[]⟩:av):av),0,0,[]⟩:aa),(Z136.md a1)⟩:aA) (cond ((Z137.md a0 a2).2) (cond (Z138.md a1 ((Z137.md a0 a2).1)) (⟨1,(Z137.md a0 a2).1,(Z136.md a1)⟩:aA) (cond ((Z137.md a0 a2).2) (⟨3,(⟨((⟨#[]⟩:av):av),0,0,[]⟩:aa),(Z136.md a1)⟩:aA) (cond (((Z135.md a1).length:Int)>1) (⟨3,(⟨((⟨#[]⟩:av):av),0,0,[]⟩:aa),(Z136.md a1)⟩:aA) (cond ((a1.getD (toNat (((Z135.md a1).getD 0 []).getD 0 0)) ak.zero).bB != 1) (⟨4,(⟨((⟨#[]⟩:av):av),0,0,[]⟩:aa),(Z136.md a1)⟩:aA) (⟨2,((a1.getD (toNat (((Z135.md a1).getD 0 []).getD 0 0)) ak.zero).aE),(Z136.md a1)⟩:aA))))) (cond ((Z137.md a0 a2).2) (⟨3,(⟨((⟨#[]⟩:av):av),0,0,[]⟩:aa),(Z136.md a1)⟩:aA) (cond (((Z135.md a1).length:Int)>1) (⟨3,(⟨((⟨#[]⟩:av):av),0,0,[]⟩:aa),(Z136.md a1)⟩:aA) (cond ((a1.getD (toNat (((Z135.md a1).getD 0 []).getD 0 0)) ak.zero).bB != 1) (⟨4,(⟨((⟨#[]⟩:av):av),0,0,[]⟩:aa),(Z136.md a1)⟩:aA) (⟨2,((a1.getD (toNat (((Z135.md a1).getD 0 []).getD 0 0)) ak.zero).aE),(Z136.md a1)⟩:aA))))))
def gd (a0:List aj)(a1:List ak)(a2:List av):Prop:=(bn (2^21) (fun y:aj=>aj.Sm (2^21) y) a0)/\(bn (2^21) (fun y:ak=>ak.Sm (2^21) y) a1)/\(bn (2^21) (fun y:av=>y.size<=(2^21)) a2)
def R:=ot gd md
def aq {a0 a1 a2}(h:gd a0 a1 a2):R ((a0.map aj.row),(a1.map ak.row),(a2.map bY))=some (aA.r (md a0 a1 a2)):=nZ h
def aV:=CN [pL 114,pL 67,pL 9] (.agg f56) RT.dec R
def bH (a0)(a1)(a2)(hg:gd a0 a1 a2):F (a0.map aj.row) (a1.map ak.row) (a2.map bY)=ret (aA.r (md a0 a1 a2)):=by
 obtain ⟨H0,H1,H2⟩:=hg
 unfold F md
 try simp only [SS]
 refine ct (Z136.aq H1) ?_
 try simp only [SS]
 refine ct (Z135.aq H1) ?_
 try simp only [SS]
 have fv2_:=Z135.fa a1
 refine ct (Z137.aq ⟨H0,H2⟩) ?_
 try simp only [SS]
 refine au (fun b:aA=>ret ((aA.r b):aO)) (fun c1=>?_) (fun c1=>?_)
 ·all_goals exact fz
 ·have dc1:=c1
  try simp only [DC] at dc1
  refine aW dt ?_
  refine aW dt ?_
  refine aW dt ?_
  refine aW (have:=(H1).1;dt) ?_
  refine au (fun b:aA=>ret ((aA.r b):aO)) (fun c2=>?_) (fun c2=>?_)
  ·refine ct (Z138.aq ⟨H1,(Z137.fY (a0:=a0) (a1:=a2) ⟨H0,H2⟩)⟩) ?_
   refine au (fun b:aA=>ret ((aA.r b):aO)) (fun c3=>?_) (fun c3=>?_)
   ·all_goals exact fz
   ·refine au (fun b:aA=>ret ((aA.r b):aO)) (fun c4=>?_) (fun c4=>?_)
    ·all_goals exact fz
    ·refine au (fun b:aA=>ret ((aA.r b):aO)) (fun c5=>?_) (fun c5=>?_)
     ·all_goals exact fz
     ·have dc5:=c5
      try simp only [DC] at dc5
      refine au (fun b:aA=>ret ((aA.r b):aO)) (fun c6=>?_) (fun c6=>?_)
      ·all_goals exact fz
      ·have dc6:=c6
       try simp only [DC] at dc6
       refine ct (Z10.aq (bn.getD (z:=ak.zero) H1 (by first | assumption | omega | (simp (disch:=omega) only [wi];omega) | (simp;omega))).2.1) ?_
       try simp only [SS]
       all_goals exact fz
  ·refine au (fun b:aA=>ret ((aA.r b):aO)) (fun c7=>?_) (fun c7=>?_)
   ·all_goals exact fz
   ·refine au (fun b:aA=>ret ((aA.r b):aO)) (fun c8=>?_) (fun c8=>?_)
    ·all_goals exact fz
    ·have dc8:=c8
     try simp only [DC] at dc8
     refine au (fun b:aA=>ret ((aA.r b):aO)) (fun c9=>?_) (fun c9=>?_)
     ·all_goals exact fz
     ·have dc9:=c9
      try simp only [DC] at dc9
      refine ct (Z10.aq (bn.getD (z:=ak.zero) H1 (by first | assumption | omega | (simp (disch:=omega) only [wi];omega) | (simp;omega))).2.1) ?_
      try simp only [SS]
      all_goals exact fz
def ah:cY 25 aV:=W3 65 F mix aJ bH (xY Z136.ah Z135.ah Z137.ah Z138.ah Z10.ah) Tryz.func25
end Z139
namespace Z140
def F (x0:bL):aD:=(cond (x0.bB==3) ff (cond (x0.bB==5) ff (ret ((x0.bB==6):Bool))))
def md (a0:ak):Bool:=(cond (a0.bB==3) (true:Bool) (cond (a0.bB==5) (true:Bool) ((a0.bB==6):Bool)))
def gd (a0:ak):Prop:=True
def R:=RR gd md
def aq {a0}(h:gd a0):R (ak.r a0)=some (md a0):=dX h
def aV:=CN [.agg Dn] oB RT.dec R
def bH (a0)(hg:gd a0):F (ak.r a0)=ret (md a0):=by
 unfold F md
 try simp only [SS]
 refine au ret (fun _=>rfl) (fun c1=>?_)
 refine au ret (fun _=>rfl) (fun c2=>?_)
 all_goals exact fz
def ah:cY 113 aV:=W1 16 F mix aJ bH .nil Tryz.func113
def br (a0:ak):md a0=Z133.md a0:=by
 unfold md Z133.md
 first
 | (simp only [id];done)
 | (simp only [id];rfl)
 | rfl
end Z140
namespace Z141
inductive Pt where
 | p0 (a b:an) (c d:Int)
def cZ:Pt->List V
 | .p0 a b c d=>[.sl none 9 a,.sl none 9 b,.int .i64 c,.int .i64 d]
def step (J:Pt->aD):Pt->aD
 | .p0 a b c d=>(cond (d<c) (m2 d (a.length:Int) (m2 d (b.length:Int) (cond (!((tw a (toNat d))==(tw b (toNat d)))) aS (J (.p0 a b c (i64.wrap (d+1))))))) ff)
def start (J:Pt->aD)(x0 x1:an):aD:=(cond ((x0.length:Int) != (x1.length:Int)) aS (J (.p0 x0 x1 (x0.length:Int) 0)))
def live:Nat->Live:=iD [(4,mN [0,1,12,13])]
def md (a0 a1:List av):Bool:=(bif ((a0.length:Int) != (a1.length:Int)) then (false:Bool) else (eW (S:=Unit) (β:=Bool) (fun (i2:Nat) (s4:Unit)=>(cond (!((a0.getD i2 ⟨#[]⟩)==(a1.getD i2 ⟨#[]⟩))) (.inr (false:Bool)) (.inl ()))) (fun (s4:Unit)=>(true:Bool)) a0.length 0 ()))
def gd (a0 a1:List av):Prop:=(bn (2^21) (fun y:av=>y.size<=(2^21)) a0)/\(bn (2^21) (fun y:av=>y.size<=(2^21)) a1)
def R:=eA gd md
def aq {a0 a1}(h:gd a0 a1):R ((a0.map bY),(a1.map bY))=some (md a0 a1):=eB h
def aV:=CN [pL 9,pL 9] oB RT.dec R
def bH (a0)(a1)(hg:gd a0 a1):∃n,start (iter step n) (a0.map bY) (a1.map bY)=ret (md a0 a1):=by
 obtain ⟨H0,H1⟩:=hg
 unfold start md
 try simp only [SS]
 refine iG ret (fun _=>⟨0,rfl⟩) (fun c1=>?_)
 have dc1:=c1
 try simp only [DC] at dc1
 have Bh3:a0.length<=maxLen:=(by
   have:=(H0).1
   try simp only [maxLen] at *
   omega)
 refine dW (p:=Pt.p0 (a0.map bY) (a1.map bY) (a0.length:Int) 0) fz ?_
 refine bV (pt:=fun (i2:Nat) (s4:Unit)=>Pt.p0 (a0.map bY) (a1.map bY) (a0.length:Int) (i2:Int)) (s:=(():Unit)) (out:=ret) (fun _ _=>True) (fun J i2 s4 h3 hih3=>?_) (fun s4 hih3=>?_) trivial
 ·simp only [step,SS]
  have bb_:=Bh3
  simp only [maxLen] at bb_
  have:=(H0).1
  refine bf.yes (by apply decide_eq_true;omega) ?_
  refine bf.yes bA ?_
  refine bf.yes (bU h3) ?_
  refine bf.yes bA ?_
  refine bf.yes (have:=(H1).1;dt) ?_
  refine bf.bif (fun _=>bf.inr rfl) (fun c5=>?_)
  refine bf.inl trivial ?_
  rw [aR h3 Bh3]
  all_goals exact fz
 ·simp only [step,SS]
  have:=(H0).1
  refine dQ (by apply decide_eq_false;omega) ?_
  refine ⟨0,?_⟩
  all_goals exact fz
def ah:cY 73 aV:=L2 26 (fun _=>4) cZ (fun _=>[]) live step start mix aJ bH .nil Tryz.func73
def md_eq (a0 a1:List av):md a0 a1=pY a0 a1:=by
 unfold md
 refine pF (⟨#[]⟩) (fun i s h h2=>?_) (fun s=>rfl)
 simp only [bne,rG,bool_beq,nT]
 cases pY _ _<;>rfl
end Z141
namespace Z142
def F (x0 x1:aC):aD:=(cond (x0.bk==x1.bk) (cond (x0.bp==x1.bp) (cond (x0.bJ==x1.bJ) (call (Z141.R (x0.bg,x1.bg)) fun v1=>ret (v1:Bool)) aS) aS) aS)
def md (a0 a1:aa):Bool:=(cond (a0.bk==a1.bk) (cond (a0.bp==a1.bp) (cond (a0.bJ==a1.bJ) ((Z141.md a0.bg a1.bg):Bool) (false:Bool)) (false:Bool)) (false:Bool))
def gd (a0 a1:aa):Prop:=(aa.Sm (2^21) a0)/\(aa.Sm (2^21) a1)
def R:=eA gd md
def aq {a0 a1}(h:gd a0 a1):R ((aa.r a0),(aa.r a1))=some (md a0 a1):=eB h
def aV:=CN [.agg xx,.agg xx] oB RT.dec R
def bH (a0)(a1)(hg:gd a0 a1):F (aa.r a0) (aa.r a1)=ret (md a0 a1):=by
 obtain ⟨H0,H1⟩:=hg
 unfold F md
 try simp only [SS]
 refine au ret (fun c1=>?_) (fun _=>rfl)
 refine au ret (fun c2=>?_) (fun _=>rfl)
 refine au ret (fun c3=>?_) (fun _=>rfl)
 refine ct (Z141.aq ⟨H0.2,H1.2⟩) ?_
 all_goals exact fz
def ah:cY 28 aV:=W2 31 F mix aJ bH (dV Z141.ah) Tryz.func28
def md_eq (a0 a1:aa):md a0 a1=pY a0 a1:=by
 unfold md
 cases a0;cases a1
 rw [Bool.eq_iff_iff]
 simp [fm,nT,aa.mk.injEq,Z141.md_eq]
 try (constructor<;>(intro h;simp_all))
end Z142
namespace Z143
def F (x0 x1:bL):aD:=(cond (x0.bB==x1.bB) (call (Z142.R (x0.aE,x1.aE)) fun v1=>ret (v1:Bool)) aS)
def md (a0 a1:ak):Bool:=(cond (a0.bB==a1.bB) ((Z142.md a0.aE a1.aE):Bool) (false:Bool))
def gd (a0 a1:ak):Prop:=(ak.Sm (2^21) a0)/\(ak.Sm (2^21) a1)
def R:=eA gd md
def aq {a0 a1}(h:gd a0 a1):R ((ak.r a0),(ak.r a1))=some (md a0 a1):=eB h
def aV:=CN [.agg Dn,.agg Dn] oB RT.dec R
def bH (a0)(a1)(hg:gd a0 a1):F (ak.r a0) (ak.r a1)=ret (md a0 a1):=by
 obtain ⟨H0,H1⟩:=hg
 unfold F md
 try simp only [SS]
 refine au ret (fun c1=>?_) (fun _=>rfl)
 refine ct (Z142.aq ⟨H0.2.1,H1.2.1⟩) ?_
 all_goals exact fz
def ah:cY 114 aV:=W2 17 F mix aJ bH (dV Z142.ah) Tryz.func114
def br (a0 a1:ak):md a0 a1=Z134.md a0 a1:=by
 unfold md Z134.md
 first
 | (simp only [Z142.md_eq,Z110.md_eq];done)
 | (simp only [Z142.md_eq,Z110.md_eq];rfl)
 | rfl
end Z143
namespace Z144
inductive Pt where
 | p0 (a b:an) (c d:Int) (e:an)
 | p1 (a:an) (b:Int) (c:an) (d e f g:Int) (h:an) (i:bL)
def pid:Pt->Nat
 | .p0 ..=>3
 | .p1 ..=>7
def cZ:Pt->List V
 | .p0 a b c d e=>[.sl none 67 a,.own 0,.sl none 67 b,.int .i64 c,.int .i64 d]
 | .p1 a b c d e f g h i=>[.sl none 67 a,.own 0,.int .i64 b,.bK 1 0,.sl none 67 c,.int .i64 d,.int .i64 e,.int .i64 f,.int .i64 g]
def eD:Pt->List aK
 | .p0 a b c d e=>[.row 29 e]
 | .p1 a b c d e f g h i=>[.row 29 h,.box [.sl none 24 i.cR.aZ,.sl none 185 i.cR.bN,.int .i64 i.bB,.str i.aE.bk,.int .i64 i.aE.bp,.int .i64 i.aE.bJ,.sl none 9 i.aE.bg,.sl none 3 i.bE,.int .i64 i.lZ]]
def step (J:Pt->aD):Pt->aD
 | .p0 a b c d e=>(cond (d<c) (m2 d (b.length:Int) (call (Z140.R (bL.at b (toNat d))) fun v1=>(cond v1 (J (.p0 a b c (i64.wrap (d+1)) e)) (J (.p1 a d b c d (e.length:Int) 0 e (bL.at b (toNat d))))))) (ret (e:an)))
 | .p1 a b c d e f g h i=>(cond (g<f) (m2 g (h.length:Int) (cX ((0:Int)<((jT h (toNat g)).length:Int)) (cX ((0:Int)<=(iE (jT h (toNat g)) 0)) (cX ((iE (jT h (toNat g)) 0)<(a.length:Int)) (call (Z143.R ((bL.at a (toNat (iE (jT h (toNat g)) 0))),i)) fun v1=>(cond v1 (m2 g (h.length:Int) (cX (fu ((((jT h (toNat g)).length:Int)+1)*8)) (m2 g (h.length:Int) (cX (EM g) (J (.p0 a c d (i64.wrap (e+1)) (List.set h (toNat g) [L.sl ((jT h (toNat g))++[[L.int b]])]))))))) (J (.p1 a b c d e f (i64.wrap (g+1)) h i)))))))) (cX (fu (((h.length:Int)+1)*24)) (J (.p0 a c d (i64.wrap (e+1)) (h++[[L.sl [[L.int b]]]])))))
def start (J:Pt->aD)(x0:an):aD:=J (.p0 x0 x0 (x0.length:Int) 0 [])
def live:Nat->Live:=iD [(3,[(0,none),(3,some 29),(8,none),(9,none),(10,none)]),(7,[(0,none),(3,some 29),(4,none),(5,none),(8,none),(9,none),(10,none),(18,none),(19,none)])]
def pats:List fH:=[.rd (.sl 67)]
def res:RP:=.one (.fr 29)
abbrev E:Env:={ T:=assoc mD,G:=cN [(113,Z140.aV),(114,Z143.aV)],nt:=51,M:=eL [],mt:=true }
def step_eq (I:dK)(p:Pt):dP E live I (pid p) (bQ Tryz.f60) (jr (live (pid p)) (cZ p) (eD p)) (dG E Tryz.f60 res)=step (fun q=>I (pid q) (cZ q) (eD q)) p:=by
 cases p<;>kernel_rfl
def start_eq (I:dK)(ls:List L):gU E live I (bQ Tryz.f60) (dS pats ls) (dG E Tryz.f60 res)=start (fun q=>I (pid q) (cZ q) (eD q)) (fc ls):=by kernel_rfl
def run_eq (n:Nat)(ls:List L):eS E live Tryz.f60 res n (dS pats ls)=start (iter step n) (fc ls):=dM (id:=pid) (vs:=cZ) (hs:=eD) (step:=step) (start:=fun J=>start J (fc ls)) step_eq (fun I=>start_eq I ls) n
def md (a0:List ak):List (List Int):=Z135.qD a0 a0.length
def gd (a0:List ak):Prop:=bn (2^21) (fun y:ak=>ak.Sm (2^21) y) a0
def acc (ls:List L):an:=(fc ls)
def R:(an)->Option (an):=RR gd md
def aq {a0}(h:gd a0):R (a0.map ak.row)=some ((md a0).map (eG bh)):=dX h
def aV:gW:=CN pats res acc R
def bH (a0:List ak)(hg:gd a0):∃n,start (iter step n) (a0.map ak.row)=ret (((md a0).map (eG bh)):an):=by
 unfold gd at hg
 have hl:=hg.1
 have inner:∀(k:Nat) (out:List (List Int)) (X:aD),k<a0.length->Z135.Inv a0 k out->(∃m,iter step m (Pt.p0 (a0.map ak.row) (a0.map ak.row) (a0.length:Int) ((k+1:Nat):Int) ((Z135.put a0 k (a0.getD k ak.zero) out).map (eG bh)))=X)->
   ∃m,iter step m (Pt.p1 (a0.map ak.row) (k:Int) (a0.map ak.row) (a0.length:Int) (k:Int) (out.length:Int) 0 (out.map (eG bh)) (ak.r (a0.getD k ak.zero)))=X:=by
  intro k out X hk hI hX
  have vD:=hI.1
  have hs:∀(J:Pt->aD) (j:Nat),j<out.length->step J (Pt.p1 (a0.map ak.row) (k:Int) (a0.map ak.row) (a0.length:Int) (k:Int) (out.length:Int) (j:Int) (out.map (eG bh)) (ak.r (a0.getD k ak.zero))) =
    (cond (Z134.md (Z135.hd a0 (out.getD j [])) (a0.getD k ak.zero)) (J (Pt.p0 (a0.map ak.row) (a0.map ak.row) (a0.length:Int) ((k+1:Nat):Int) ((out.set j (out.getD j []++[(k:Int)])).map (eG bh)))) (J (Pt.p1 (a0.map ak.row) (k:Int) (a0.map ak.row) (a0.length:Int) (k:Int) (out.length:Int) ((j+1:Nat):Int) (out.map (eG bh)) (ak.r (a0.getD k ak.zero))))):=by
   intro J j hj
   obtain ⟨p1,p2,p3,p4⟩:=hI.2.1 (out.getD j []) (by rw [eF hj];exact List.getElem_mem _)
   have q1:(j:Int)<(out.length:Int):=by omega
   have q2:(0:Int)<=(j:Int):=by omega
   have q3:(0:Int)<((out.getD j []).length:Int):=by omega
   have q8:fu ((((out.getD j []).length:Int)+1)*8)=true:=gq (by omega)
   have hr:Z143.R (ak.r (Z135.hd a0 (out.getD j [])),ak.r (a0.getD k ak.zero))=some (Z134.md (Z135.hd a0 (out.getD j [])) (a0.getD k ak.zero)):=by
    unfold Z135.hd
    rw [Z143.aq ⟨bn.getD hg (by omega),bn.getD hg (by omega)⟩,Z143.br]
   unfold Z135.hd at hr ⊢
   simp only [step,MM,S0,ak.rs,q1,q2,q3,p3,p4,q8,CF,decide_true,aL]
   rw [call_eq hr,wi _ (by omega),wi _ (by omega)]
   simp only [MP]
   rfl
  obtain ⟨n,hn,hlt,hcase⟩:=Z135.uU a0 k (a0.getD k ak.zero) out
  have hend:∀(J:Pt->aD),step J (Pt.p1 (a0.map ak.row) (k:Int) (a0.map ak.row) (a0.length:Int) (k:Int) (out.length:Int) (out.length:Int) (out.map (eG bh)) (ak.r (a0.getD k ak.zero))) =
    J (Pt.p0 (a0.map ak.row) (a0.map ak.row) (a0.length:Int) ((k+1:Nat):Int) ((out++[[(k:Int)]]).map (eG bh))):=by
   intro J
   simp only [step,MM,S0,ak.rs]
   rw [decide_eq_false (show ¬(out.length:Int)<(out.length:Int) by omega),aT,gq (by omega),aL,wi _ (by omega)]
   simp only [MP]
   rfl
  obtain ⟨m,hm⟩:=hX
  have early:∀d j,j+d=n->∃m,iter step m (Pt.p1 (a0.map ak.row) (k:Int) (a0.map ak.row) (a0.length:Int) (k:Int) (out.length:Int) (j:Int) (out.map (eG bh)) (ak.r (a0.getD k ak.zero)))=X:=by
   intro d
   induction d with
   | zero=>
    intro j hj
    obtain rfl:j=n:=by omega
    rcases hcase with ⟨hnl,hsame,hput⟩ | ⟨rfl,hput⟩
    ·refine ⟨m+1,(hs _ j hnl).trans ?_⟩
     rw [hsame,aL,<-hput]
     exact hm
    ·refine ⟨m+1,(hend _).trans ?_⟩
     rw [<-hput]
     exact hm
   | succ d ih=>
    intro j hj
    obtain ⟨m2,hm2⟩:=ih (j+1) (by omega)
    refine ⟨m2+1,(hs _ j (by omega)).trans ?_⟩
    rw [hlt j (by omega),aT]
    exact hm2
  exact early n 0 (by omega)
 have outer:∀d k,k+d=a0.length->∃m,iter step m (Pt.p0 (a0.map ak.row) (a0.map ak.row) (a0.length:Int) (k:Int) ((Z135.qD a0 k).map (eG bh)))=ret ((Z135.qD a0 a0.length).map (eG bh):an):=by
  intro d
  induction d with
  | zero=>
   intro k hk
   obtain rfl:k=a0.length:=by omega
   refine ⟨1,?_⟩
   show step (iter step 0) _=_
   simp only [step,S0]
   exact gu (decide_eq_false (by omega)) rfl
  | succ d ih=>
   intro k hk
   have hX:=ih (k+1) (by omega)
   have hI:=Z135.kg a0 k (by omega)
   have hst:∀J:Pt->aD,step J (Pt.p0 (a0.map ak.row) (a0.map ak.row) (a0.length:Int) (k:Int) ((Z135.qD a0 k).map (eG bh)))=(cond (Z133.md (a0.getD k ak.zero)) (J (Pt.p0 (a0.map ak.row) (a0.map ak.row) (a0.length:Int) ((k+1:Nat):Int) ((Z135.qD a0 k).map (eG bh)))) (J (Pt.p1 (a0.map ak.row) (k:Int) (a0.map ak.row) (a0.length:Int) (k:Int) ((Z135.qD a0 k).length:Int) 0 ((Z135.qD a0 k).map (eG bh)) (ak.r (a0.getD k ak.zero))))):=by
    intro J
    have q6:(0:Int)<=(k:Int):=by omega
    have q7:(k:Int)<(a0.length:Int):=by omega
    have hr:Z140.R (ak.r (a0.getD k ak.zero))=some (Z133.md (a0.getD k ak.zero)):=by
     rw [Z140.aq trivial,Z140.br]
    simp only [step,MM,S0,ak.rs,q6,q7,decide_true,aL]
    rw [call_eq hr,wi _ (by omega)]
    rfl
   have eg:Z135.qD a0 (k+1)=(cond (Z133.md (a0.getD k ak.zero)) (Z135.qD a0 k) (Z135.put a0 k (a0.getD k ak.zero) (Z135.qD a0 k))):=rfl
   rw [eg] at hX
   cases hs:Z133.md (a0.getD k ak.zero)
   ·rw [hs,aT] at hX
    obtain ⟨m,hm⟩:=inner k (Z135.qD a0 k) _ (by omega) hI hX
    refine ⟨m+1,(hst _).trans ?_⟩
    rw [hs,aT];exact hm
   ·rw [hs,aL] at hX
    obtain ⟨m,hm⟩:=hX
    refine ⟨m+1,(hst _).trans ?_⟩
    rw [hs,aL];exact hm
 unfold start md
 simp only [S0]
 exact outer a0.length 0 (by omega)
def ah:cY 60 aV:=VT (run:=fun n x=>start (iter step n) x) mix aJ (gH Z140.ah Z143.ah) .nil Tryz.func60 (by kernel_rfl) run_eq (fun _ a _ _ hg=>bH a hg)
def fa (a0:List ak):0<(md a0).length->1<=((md a0).getD 0 []).length/\0<=((md a0).getD 0 []).getD 0 0/\((md a0).getD 0 []).getD 0 0<(a0.length:Int):=fun h=>by
 have hI:=(Z135.kg a0 a0.length (Nat.le_refl _)).2.1 ((md a0).getD 0 []) (by rw [eF h];exact List.getElem_mem _)
 exact ⟨hI.1,hI.2.2.1,hI.2.2.2⟩
def br (a0:List ak):md a0=Z135.md a0:=by
 unfold md Z135.md
 first
 | (simp only [Z140.br,Z143.br];done)
 | (simp only [Z140.br,Z143.br];rfl)
 | rfl
end Z144
namespace Z145
def F (x0:an):aD:=(cond x0.isEmpty (either (ret ([]:an)) ((cX (fu ((x0.length:Int)*16)) (ret (x0:an))))) (cX (fu ((x0.length:Int)*16)) (ret (x0:an))))
def md (a0:List av):List av:=a0
def gd (a0:List av):Prop:=bn (2^21) (fun y:av=>y.size<=(2^21)) a0
def R:=RR gd md
def aq {a0}(h:gd a0):R (a0.map bY)=some (a0.map bY):=dX h
def aV:=CN [pL 9] (oL 9) RT.dec R
def bH (a0)(hg:gd a0):F (a0.map bY)=ret ((md a0).map bY):=by
 have H0:=hg.1
 unfold F md
 have hl:fu (((a0.map bY).length:Int)*16)=true:=gq (by simp only [List.length_map];omega)
 simp only [hl,aL]
 cases a0 with
 | nil=>exact vX
 | cons x xs=>rfl
def ah:cY 79 aV:=W1 8 F mix aJ bH .nil Tryz.func79
end Z145
namespace Z146
def F (x0:aC):aD:=(call (Z145.R x0.bg) fun v1=>ret ((⟨x0.bk,x0.bp,x0.bJ,v1⟩:aC):aC))
def md (a0:aa):aa:=a0
def gd (a0:aa):Prop:=(aa.Sm (2^21) a0)
def R:=RR gd md
def aq {a0}(h:gd a0):R (aa.r a0)=some (aa.r a0):=dX h
def aV:=CN [.agg xx] (.agg f53) RT.dec R
def bH (a0)(hg:gd a0):F (aa.r a0)=ret (aa.r (md a0)):=by
 unfold gd at hg
 have H0:=hg
 unfold F md
 try simp only [SS]
 refine ct (Z145.aq H0.2) ?_
 try simp only [SS]
 all_goals exact fz
def ah:cY 64 aV:=W1 8 F mix aJ bH (dV Z145.ah) Tryz.func64
end Z146
namespace Z147
inductive Pt where
 | p0 (a:an) (b c:Int) (d e:an)
def cZ:Pt->List V
 | .p0 a b c d e=>[.sl none 67 a,.own 0,.own 1,.int .i64 b,.int .i64 c]
def eD:Pt->List aK
 | .p0 a b c d e=>[.row 53 d,.row 29 e]
def step (J:Pt->aD):Pt->aD
 | .p0 a b c d e=>(cond (c<b) (m2 c (e.length:Int) (cX ((0:Int)<((jT e (toNat c)).length:Int)) (cX ((0:Int)<=(iE (jT e (toNat c)) 0)) (cX ((iE (jT e (toNat c)) 0)<(a.length:Int)) (cond ((bL.at a (toNat (iE (jT e (toNat c)) 0))).bB==1) (call (Z146.R ((bL.at a (toNat (iE (jT e (toNat c)) 0))).aE)) fun v1=>(cX (fu (((d.length:Int)+1)*56)) (J (.p0 a b (i64.wrap (c+1)) (d++[(aC.enc v1)]) e)))) (J (.p0 a b (i64.wrap (c+1)) d e))))))) (ret (d:an)))
def start (J:Pt->aD)(x0:an):aD:=(call (Z144.R x0) fun v1=>(cond ((v1.length:Int)<2) (ret ([]:an)) (J (.p0 x0 (v1.length:Int) 0 [] v1))))
def live:Nat->Live:=iD [(6,[(0,none),(4,some 53),(15,none),(16,none),(17,none)])]
def md (a0:List ak):List aa:=(cond ((Z135.md a0).length>1) ((Z135.md a0).flatMap (Z136.tv a0)) [])
def gd (a0:List ak):Prop:=bn (2^21) (fun y:ak=>ak.Sm (2^21) y) a0
def R:=RR gd md
def aq {a0}(h:gd a0):R (a0.map ak.row)=some ((md a0).map aa.row):=dX h
def aV:=CN [pL 67] (oL 53) RT.dec R
def bH (a0)(hg:gd a0):∃n,start (iter step n) (a0.map ak.row)=ret ((md a0).map aa.row):=by
 unfold gd at hg
 have hl:=hg.1
 have hI:=Z135.kg a0 a0.length (Nat.le_refl _)
 have key:∀(G:List (List Int)),Z135.Inv a0 a0.length G->1<G.length->∀d k (c:List aa),k+d=G.length->c.length<=k->∃m,iter step m (Pt.p0 (a0.map ak.row) (G.length:Int) (k:Int) (c.map aa.row) (G.map (eG bh)))=ret ((c++(G.drop k).flatMap (Z136.tv a0)).map aa.row:an):=by
  intro G hG h1 d
  have hGl:=hG.1
  induction d with
  | zero=>
   intro k c hk hc
   obtain rfl:k=G.length:=by omega
   refine ⟨1,?_⟩
   show step (iter step 0) _=_
   simp only [step,S0]
   refine gu (decide_eq_false (by omega)) ?_
   rw [List.drop_eq_nil_of_le (Nat.le_refl _),List.flatMap_nil,List.append_nil]
  | succ d ih=>
   intro k c hk hc
   have hlt:k<G.length:=by omega
   obtain ⟨p1,p2,p3,p4⟩:=hG.2.1 (G.getD k []) (by rw [eF hlt];exact List.getElem_mem _)
   have q1:(k:Int)<(G.length:Int):=by omega
   have q2:(0:Int)<=(k:Int):=by omega
   have q3:(0:Int)<((G.getD k []).length:Int):=by omega
   have q5:fu (((c.length:Int)+1)*56)=true:=gq (by omega)
   have hdr:(G.drop k).flatMap (Z136.tv a0)=Z136.tv a0 (G.getD k [])++(G.drop (k+1)).flatMap (Z136.tv a0):=by
    rw [List.drop_eq_getElem_cons hlt,List.flatMap_cons,eF hlt]
   have hst:∀J:Pt->aD,step J (Pt.p0 (a0.map ak.row) (G.length:Int) (k:Int) (c.map aa.row) (G.map (eG bh)))=J (Pt.p0 (a0.map ak.row) (G.length:Int) ((k+1:Nat):Int) ((c++Z136.tv a0 (G.getD k [])).map aa.row) (G.map (eG bh))):=by
    intro J
    unfold Z136.tv Z135.hd
    simp only [step,MM,S0,ak.rs,q1,q2,q3,q5,p3,p4,decide_true,aL]
    rw [wi _ (by omega)]
    cases ((a0.getD (toNat ((G.getD k []).getD 0 0)) ak.zero).bB==1)
    ·simp only [aT,List.append_nil]
     rfl
    ·simp only [aL]
     rw [call_eq (Z146.aq (a0:=(a0.getD (toNat ((G.getD k []).getD 0 0)) ak.zero).aE) (bn.getD (z:=ak.zero) hg (by omega)).2.1)]
     simp only [MP]
     rfl
   obtain ⟨m,hm⟩:=ih (k+1) (c++Z136.tv a0 (G.getD k [])) (by omega) (by have:=Z136.vp a0 (G.getD k []);rw [List.length_append];omega)
   refine ⟨m+1,(hst _).trans ?_⟩
   rw [hdr,<-List.append_assoc]
   exact hm
 have hr:=Z144.aq (a0:=a0) hg
 rw [Z144.br] at hr
 unfold start md
 refine gv ((Z135.md a0).map (eG bh)) hr ?_
 by_cases h1:(Z135.md a0).length>1
 ·obtain ⟨m,hm⟩:=key (Z135.md a0) hI h1 (Z135.md a0).length 0 [] (by omega) (Nat.le_refl _)
  refine ⟨m,?_⟩
  rw [decide_eq_true h1,aL]
  simp only [S0]
  rw [decide_eq_false (by omega),aT]
  exact hm
 ·refine ⟨0,?_⟩
  rw [decide_eq_false h1,aT]
  simp only [S0]
  rw [decide_eq_true (by omega),aL]
  rfl
def ah:cY 61 aV:=L1 38 (fun _=>6) cZ eD live step start mix aJ bH (gH Z144.ah Z146.ah) Tryz.func61
def br (a0:List ak):md a0=Z136.md a0:=by
 unfold md Z136.md
 first
 | (simp only [Z144.br];done)
 | (simp only [Z144.br];rfl)
 | rfl
end Z147
namespace Z148
def F (x0 x1:an):aD:=(call (Z141.R (x0,x1)) fun v1=>ret (v1:Bool))
def md (a0 a1:List av):Bool:=((Z141.md a0 a1):Bool)
def gd (a0 a1:List av):Prop:=(bn (2^21) (fun y:av=>y.size<=(2^21)) a0)/\(bn (2^21) (fun y:av=>y.size<=(2^21)) a1)
def R:=eA gd md
def aq {a0 a1}(h:gd a0 a1):R ((a0.map bY),(a1.map bY))=some (md a0 a1):=eB h
def aV:=CN [pL 9,pL 9] oB RT.dec R
def bH (a0)(a1)(hg:gd a0 a1):F (a0.map bY) (a1.map bY)=ret (md a0 a1):=by
 obtain ⟨H0,H1⟩:=hg
 unfold F md
 try simp only [SS]
 refine ct (Z141.aq ⟨H0,H1⟩) ?_
 all_goals exact fz
def ah:cY 122 aV:=W2 8 F mix aJ bH (dV Z141.ah) Tryz.func122
end Z148
namespace Z149
def F (x0:bI)(x1:List L):aD:=(call (Z148.R (x0.bg,(xP x1))) fun v1=>ret (v1:Bool))
def pats:List fH:=[.agg [.sl 9,.str,aQ,aQ,.sl 9],.ptr [.sl 9]]
def res:RP:=.one (.rd (.bool))
def md (a0:aj)(a1:List av):Bool:=((Z148.md a0.bg a1):Bool)
def gd (a0:aj)(a1:List av):Prop:=(aj.Sm (2^21) a0)/\(bn (2^21) (fun y:av=>y.size<=(2^21)) a1)
def acc (ls:List L):bI×an:=((bI.dec ls),(xP (fM 1 (cD 5 ls))))
def R:(bI×an)->Option Bool:=eA gd md
def aq {a0 a1}(h:gd a0 a1):R ((aj.r a0),(a1.map bY))=some (md a0 a1):=eB h
def aV:gW:=CN pats res acc R
def bH (a0:aj)(a1:List av)(p1:List L)(e1:(a1.map bY)=(xP p1))(hg:gd a0 a1):F (aj.r a0) p1=ret ((md a0 a1):Bool):=by
 obtain ⟨H0,H1⟩:=hg
 unfold F md
 try simp only [SS,<-e1]
 refine ct (Z148.aq ⟨H0.1,H1⟩) ?_
 all_goals exact fz
def BX (ls:List L)(a:aj×List av)(e:acc ls=Im.im a)(hg:(p2 gd) a):∃n:Nat,F (bI.dec ls) (fM 1 (cD 5 ls))=ret (Im.im ((u2 md) a)):=by
 have e0:(aj.r a.1)=(bI.dec ls):=(congrArg (fun x=>x.1) e.symm)
 have hn:=bH a.1 a.2 (fM 1 (cD 5 ls)) (congrArg (fun x=>x.2) e.symm) hg
 refine ⟨0,?_⟩
 rw [<-e0]
 exact hn
def ah:cY 121 aV:=VP (live:=fun _=>[]) (nt:=8) (accr:=fun ls=>((bI.dec ls),(fM 1 (cD 5 ls)))) (run:=fun _ x=>F x.1 x.2) mix aJ (dV Z148.ah) Tryz.func121 (by kernel_rfl) (fun _ _=>by kernel_rfl) (fun ls a _ e hg=>BX ls a e hg)
end Z149
namespace Z150
inductive Pt where
 | p0 (a:an) (b:List L) (c d:Int)
def pid:Pt->Nat
 | .p0 ..=>2
def cZ:Pt->List V
 | .p0 a b c d=>[.sl none 114 a,.fn 121 [.cL none [.sl 9] b 0],.int .i64 c,.int .i64 d]
def eD:Pt->List aK
 | .p0 a b c d=>[]
def step (J:Pt->aD):Pt->aD
 | .p0 a b c d=>(cond (d<c) (m2 d (a.length:Int) (call (Z149.R ((bI.at a (toNat d)),(xP b))) fun v1=>(cond v1 (ret (d:Int)) (J (.p0 a b c (i64.wrap (d+1))))))) sP)
def start (J:Pt->aD)(x0:an)(x1:List L):aD:=J (.p0 x0 x1 (x0.length:Int) 0)
def live:Nat->Live:=iD [(2,mN [0,1,7,8])]
def pats:List fH:=[.rd (.sl 114),.fn 121 [[.sl 9]]]
def res:RP:=.one (.rd (.int .i64))
abbrev E:Env:={ T:=assoc mD,G:=cN [(121,Z149.aV)],nt:=19 }
def step_eq (I:dK)(p:Pt):dP E live I (pid p) (bQ Tryz.f120) (jr (live (pid p)) (cZ p) (eD p)) (dG E Tryz.f120 res)=step (fun q=>I (pid q) (cZ q) (eD q)) p:=by
 cases p<;>kernel_rfl
def start_eq (I:dK)(ls:List L):gU E live I (bQ Tryz.f120) (dS pats ls) (dG E Tryz.f120 res)=start (fun q=>I (pid q) (cZ q) (eD q)) (fc ls) (fM 1 (cD 1 ls)):=by kernel_rfl
def run_eq (n:Nat)(ls:List L):eS E live Tryz.f120 res n (dS pats ls)=start (iter step n) (fc ls) (fM 1 (cD 1 ls)):=dM (id:=pid) (vs:=cZ) (hs:=eD) (step:=step) (start:=fun J=>start J (fc ls) (fM 1 (cD 1 ls))) step_eq (fun I=>start_eq I ls) n
def md (a0:List aj)(a1:List av):Int:=(eP (S:=Unit) (β:=Int) (fun (i1:Nat) (y1:aj) (s3:Unit)=>(cond (Z149.md y1 a1) (.inr ((i1:Int):Int)) (.inl ()))) (fun (s3:Unit)=>((-1):Int)) 0 a0 ())
def gd (a0:List aj)(a1:List av):Prop:=(bn (2^21) (fun y:aj=>aj.Sm (2^21) y) a0)/\(bn (2^21) (fun y:av=>y.size<=(2^21)) a1)
def acc (ls:List L):an×an:=((fc ls),(xP (fM 1 (cD 1 ls))))
def R:(an×an)->Option Int:=eA gd md
def aq {a0 a1}(h:gd a0 a1):R ((a0.map aj.row),(a1.map bY))=some (md a0 a1):=eB h
def aV:gW:=CN pats res acc R
def bH (a0:List aj)(a1:List av)(p1:List L)(e1:(a1.map bY)=(xP p1))(hg:gd a0 a1):∃n,start (iter step n) (a0.map aj.row) p1=ret ((md a0 a1):Int):=by
 obtain ⟨H0,H1⟩:=hg
 unfold start md
 try simp only [SS,<-e1]
 have Bh2:a0.length<=maxLen:=(by
   have:=(H0).1
   try simp only [maxLen] at *
   omega)
 refine ex_eq (out:=ret) (dD (z:=aj.zero)) ?_
 refine dW (p:=Pt.p0 (a0.map aj.row) p1 (a0.length:Int) 0) fz ?_
 refine bV (pt:=fun (i1:Nat) (s3:Unit)=>Pt.p0 (a0.map aj.row) p1 (a0.length:Int) (i1:Int)) (s:=(():Unit)) (out:=ret) (fun _ _=>True) (fun J i1 s3 h2 hih2=>?_) (fun s3 hih2=>?_) trivial
 ·simp only [step,SS,<-e1]
  have bb_:=Bh2
  simp only [maxLen] at bb_
  have:=(H0).1
  refine bf.yes (by apply decide_eq_true;omega) ?_
  refine bf.yes bA ?_
  refine bf.yes (bU h2) ?_
  refine cr (Z149.aq ⟨(bn.getD (z:=aj.zero) H0 h2),H1⟩) ?_
  refine bf.bif (fun c4=>?_) (fun c4=>?_)
  ·refine bf.inr ?_
   all_goals exact fz
  ·refine bf.inl trivial ?_
   rw [aR h2 Bh2]
   all_goals exact fz
 ·simp only [step,SS,<-e1]
  have:=(H0).1
  refine dQ (by apply decide_eq_false;omega) ?_
  refine ⟨0,?_⟩
  all_goals exact fz
def BX (ls:List L)(a:List aj×List av)(e:acc ls=Im.im a)(hg:(p2 gd) a):∃n:Nat,start (iter step n) ((fc ls)) (fM 1 (cD 1 ls))=ret (Im.im ((u2 md) a)):=by
 have e0:(a.1.map aj.row)=(fc ls):=(congrArg (fun x=>x.1) e.symm)
 obtain ⟨n,hn⟩:=bH a.1 a.2 (fM 1 (cD 1 ls)) (congrArg (fun x=>x.2) e.symm) hg
 refine ⟨n,?_⟩
 rw [<-e0]
 exact hn
def ah:cY 120 aV:=VP (accr:=fun ls=>((fc ls),(fM 1 (cD 1 ls)))) (run:=fun n x=>start (iter step n) x.1 x.2) mix aJ (dV Z149.ah) Tryz.func120 (by kernel_rfl) run_eq (fun ls a _ e hg=>BX ls a e hg)
def fa (a0:List aj)(a1:List av):-1<=md a0 a1/\md a0 a1<(a0.length:Int):=by
 unfold md
 refine iU ?_ _ _
 all_goals
  intro i x s b h
  revert h
  simp only [Bool.cond_eq_ite]
  repeat' split
  all_goals (intro h;first | (cases h;rfl) | cases h)
def idx_eq (a0:List aj)(a1:List av):md a0 a1=oN (fun y=>Z149.md y a1) 0 a0:=by
 unfold md
 exact lG
end Z150
namespace Z151
def F (x0 x1:an):aD:=(call (Z150.R (x0,x1)) fun v1=>ret (v1:Int))
def md (a0:List aj)(a1:List av):Int:=((Z150.md a0 a1):Int)
def gd (a0:List aj)(a1:List av):Prop:=(bn (2^21) (fun y:aj=>aj.Sm (2^21) y) a0)/\(bn (2^21) (fun y:av=>y.size<=(2^21)) a1)
def R:=eA gd md
def aq {a0 a1}(h:gd a0 a1):R ((a0.map aj.row),(a1.map bY))=some (md a0 a1):=eB h
def aV:=CN [pL 114,pL 9] oI RT.dec R
def bH (a0)(a1)(hg:gd a0 a1):F (a0.map aj.row) (a1.map bY)=ret (md a0 a1):=by
 obtain ⟨H0,H1⟩:=hg
 unfold F md
 try simp only [SS]
 refine ct (Z150.aq ⟨H0,H1⟩) ?_
 have fv1_:=Z150.fa a0 a1
 all_goals exact fz
def ah:cY 72 aV:=W2 8 F mix aJ bH (dV Z150.ah) Tryz.func72
def fa (a0:List aj)(a1:List av):-1<=md a0 a1/\md a0 a1<(a0.length:Int):=by unfold md;exact Z150.fa _ _
def br (a0:List aj)(a1:List av):md a0 a1=Z129.md a0 a1:=by
 unfold md Z129.md
 first
 | (simp only [Z150.idx_eq,Z109.md_eq];done)
 | (simp only [Z150.idx_eq,Z109.md_eq];rfl)
 | rfl
end Z151
namespace Z152
def F (x0 x1:an):aD:=(call (Z151.R (x0,x1)) fun v1=>(cond (v1<0) (ret (((⟨(⟨#[]⟩:av),0,0,[]⟩:aC),false):aC×Bool)) (m2 v1 (x0.length:Int) (call (Z146.R ((bI.at x0 (toNat v1)).aE)) fun v2=>ret ((v2,true):aC×Bool)))))
def md (a0:List aj)(a1:List av):aa×Bool:=(cond ((Z151.md a0 a1)<0) ((⟨((⟨#[]⟩:av):av),0,0,[]⟩:aa),false) (((a0.getD (toNat (Z151.md a0 a1)) aj.zero).aE),true))
def gd (a0:List aj)(a1:List av):Prop:=(bn (2^21) (fun y:aj=>aj.Sm (2^21) y) a0)/\(bn (2^21) (fun y:av=>y.size<=(2^21)) a1)
def R:=eA gd md
def aq {a0 a1}(h:gd a0 a1):R ((a0.map aj.row),(a1.map bY))=some ((aa.r (md a0 a1).1),(md a0 a1).2):=eB h
def aV:=CN [pL 114,pL 9] (.gK [(true,f53),(false,[fB])]) RT.dec R
def bH (a0)(a1)(hg:gd a0 a1):F (a0.map aj.row) (a1.map bY)=ret ((aa.r (md a0 a1).1),(md a0 a1).2):=by
 obtain ⟨H0,H1⟩:=hg
 unfold F md
 try simp only [SS]
 refine ct (Z151.aq ⟨H0,H1⟩) ?_
 have fv1_:=Z151.fa a0 a1
 refine au (fun b:aa×Bool=>ret (((aa.r b.1),b.2):aC×Bool)) (fun c1=>?_) (fun c1=>?_)
 ·all_goals exact fz
 ·have dc1:=c1
  try simp only [DC] at dc1
  refine aW dt ?_
  refine aW (have:=(H0).1;dt) ?_
  refine ct (Z146.aq (bn.getD (z:=aj.zero) H0 (by first | assumption | omega | (simp (disch:=omega) only [wi];omega) | (simp;omega))).2) ?_
  try simp only [SS]
  all_goals exact fz
def ah:cY 27 aV:=W2 19 F mix aJ bH (gH Z151.ah Z146.ah) Tryz.func27
def fY {a0:List aj}{a1:List av}(hg:gd a0 a1):aa.Sm (2^21) ((md a0 a1).1):=by
 unfold gd at hg;unfold md
 have hf:=Z151.fa a0 a1
 cases h:decide (Z151.md a0 a1<0)
 ·simp only [decide_eq_false_iff_not] at h
  exact (bn.getD hg.1 (by omega)).2
 ·exact ⟨(zero_le _),bn.nil⟩
def br (a0:List aj)(a1:List av):md a0 a1=Z137.md a0 a1:=by
 unfold md Z137.md
 first
 | (simp only [Z151.br];done)
 | (simp only [Z151.br];rfl)
 | rfl
end Z152
namespace Z153
def F (x0:bL)(x1:List L):aD:=(cond (x0.bB==1) (call (Z142.R (x0.aE,(aC.dec x1))) fun v1=>ret (v1:Bool)) aS)
def pats:List fH:=[.agg [.sl 24,.sl 185,aQ,.str,aQ,aQ,.sl 9,.sl 3,aQ],.ptr [.str,aQ,aQ,.sl 9]]
def res:RP:=.one (.rd (.bool))
def md (a0:ak)(a1:aa):Bool:=(cond (a0.bB==1) ((Z142.md a0.aE a1):Bool) (false:Bool))
def gd (a0:ak)(a1:aa):Prop:=(ak.Sm (2^21) a0)/\(aa.Sm (2^21) a1)
def acc (ls:List L):bL×aC:=((bL.dec ls),(aC.dec (fM 4 (cD 9 ls))))
def R:(bL×aC)->Option Bool:=eA gd md
def aq {a0 a1}(h:gd a0 a1):R ((ak.r a0),(aa.r a1))=some (md a0 a1):=eB h
def aV:gW:=CN pats res acc R
def bH (a0:ak)(a1:aa)(p1:List L)(e1:(aa.r a1)=(aC.dec p1))(hg:gd a0 a1):F (ak.r a0) p1=ret ((md a0 a1):Bool):=by
 obtain ⟨H0,H1⟩:=hg
 unfold F md
 try simp only [SS,<-e1]
 refine au ret (fun c1=>?_) (fun _=>rfl)
 refine ct (Z142.aq ⟨H0.2.1,H1⟩) ?_
 all_goals exact fz
def BX (ls:List L)(a:ak×aa)(e:acc ls=Im.im a)(hg:(p2 gd) a):∃n:Nat,F (bL.dec ls) (fM 4 (cD 9 ls))=ret (Im.im ((u2 md) a)):=by
 have e0:(ak.r a.1)=(bL.dec ls):=(congrArg (fun x=>x.1) e.symm)
 have hn:=bH a.1 a.2 (fM 4 (cD 9 ls)) (congrArg (fun x=>x.2) e.symm) hg
 refine ⟨0,?_⟩
 rw [<-e0]
 exact hn
def ah:cY 63 aV:=VP (live:=fun _=>[]) (nt:=13) (accr:=fun ls=>((bL.dec ls),(fM 4 (cD 9 ls)))) (run:=fun _ x=>F x.1 x.2) mix aJ (dV Z142.ah) Tryz.func63 (by kernel_rfl) (fun _ _=>by kernel_rfl) (fun ls a _ e hg=>BX ls a e hg)
end Z153
namespace Z154
inductive Pt where
 | p0 (a:an) (b:List L) (c d:Int)
def pid:Pt->Nat
 | .p0 ..=>2
def cZ:Pt->List V
 | .p0 a b c d=>[.sl none 67 a,.fn 63 [.cL none [.str,aQ,aQ,.sl 9] b 0],.int .i64 c,.int .i64 d]
def eD:Pt->List aK
 | .p0 a b c d=>[]
def step (J:Pt->aD):Pt->aD
 | .p0 a b c d=>(cond (d<c) (m2 d (a.length:Int) (call (Z153.R ((bL.at a (toNat d)),(aC.dec b))) fun v1=>(cond v1 (ret (d:Int)) (J (.p0 a b c (i64.wrap (d+1))))))) sP)
def start (J:Pt->aD)(x0:an)(x1:List L):aD:=J (.p0 x0 x1 (x0.length:Int) 0)
def live:Nat->Live:=iD [(2,mN [0,1,7,8])]
def pats:List fH:=[.rd (.sl 67),.fn 63 [[.str,aQ,aQ,.sl 9]]]
def res:RP:=.one (.rd (.int .i64))
abbrev E:Env:={ T:=assoc mD,G:=cN [(63,Z153.aV)],nt:=19 }
def step_eq (I:dK)(p:Pt):dP E live I (pid p) (bQ Tryz.f115) (jr (live (pid p)) (cZ p) (eD p)) (dG E Tryz.f115 res)=step (fun q=>I (pid q) (cZ q) (eD q)) p:=by
 cases p<;>kernel_rfl
def start_eq (I:dK)(ls:List L):gU E live I (bQ Tryz.f115) (dS pats ls) (dG E Tryz.f115 res)=start (fun q=>I (pid q) (cZ q) (eD q)) (fc ls) (fM 4 (cD 1 ls)):=by kernel_rfl
def run_eq (n:Nat)(ls:List L):eS E live Tryz.f115 res n (dS pats ls)=start (iter step n) (fc ls) (fM 4 (cD 1 ls)):=dM (id:=pid) (vs:=cZ) (hs:=eD) (step:=step) (start:=fun J=>start J (fc ls) (fM 4 (cD 1 ls))) step_eq (fun I=>start_eq I ls) n
def md (a0:List ak)(a1:aa):Int:=(eP (S:=Unit) (β:=Int) (fun (i1:Nat) (y1:ak) (s3:Unit)=>(cond (Z153.md y1 a1) (.inr ((i1:Int):Int)) (.inl ()))) (fun (s3:Unit)=>((-1):Int)) 0 a0 ())
def gd (a0:List ak)(a1:aa):Prop:=(bn (2^21) (fun y:ak=>ak.Sm (2^21) y) a0)/\(aa.Sm (2^21) a1)
def acc (ls:List L):an×aC:=((fc ls),(aC.dec (fM 4 (cD 1 ls))))
def R:(an×aC)->Option Int:=eA gd md
def aq {a0 a1}(h:gd a0 a1):R ((a0.map ak.row),(aa.r a1))=some (md a0 a1):=eB h
def aV:gW:=CN pats res acc R
def bH (a0:List ak)(a1:aa)(p1:List L)(e1:(aa.r a1)=(aC.dec p1))(hg:gd a0 a1):∃n,start (iter step n) (a0.map ak.row) p1=ret ((md a0 a1):Int):=by
 obtain ⟨H0,H1⟩:=hg
 unfold start md
 try simp only [SS,<-e1]
 have Bh2:a0.length<=maxLen:=(by
   have:=(H0).1
   try simp only [maxLen] at *
   omega)
 refine ex_eq (out:=ret) (dD (z:=ak.zero)) ?_
 refine dW (p:=Pt.p0 (a0.map ak.row) p1 (a0.length:Int) 0) fz ?_
 refine bV (pt:=fun (i1:Nat) (s3:Unit)=>Pt.p0 (a0.map ak.row) p1 (a0.length:Int) (i1:Int)) (s:=(():Unit)) (out:=ret) (fun _ _=>True) (fun J i1 s3 h2 hih2=>?_) (fun s3 hih2=>?_) trivial
 ·simp only [step,SS,<-e1]
  have bb_:=Bh2
  simp only [maxLen] at bb_
  have:=(H0).1
  refine bf.yes (by apply decide_eq_true;omega) ?_
  refine bf.yes bA ?_
  refine bf.yes (bU h2) ?_
  refine cr (Z153.aq ⟨(bn.getD (z:=ak.zero) H0 h2),H1⟩) ?_
  refine bf.bif (fun c4=>?_) (fun c4=>?_)
  ·refine bf.inr ?_
   all_goals exact fz
  ·refine bf.inl trivial ?_
   rw [aR h2 Bh2]
   all_goals exact fz
 ·simp only [step,SS,<-e1]
  have:=(H0).1
  refine dQ (by apply decide_eq_false;omega) ?_
  refine ⟨0,?_⟩
  all_goals exact fz
def BX (ls:List L)(a:List ak×aa)(e:acc ls=Im.im a)(hg:(p2 gd) a):∃n:Nat,start (iter step n) ((fc ls)) (fM 4 (cD 1 ls))=ret (Im.im ((u2 md) a)):=by
 have e0:(a.1.map ak.row)=(fc ls):=(congrArg (fun x=>x.1) e.symm)
 obtain ⟨n,hn⟩:=bH a.1 a.2 (fM 4 (cD 1 ls)) (congrArg (fun x=>x.2) e.symm) hg
 refine ⟨n,?_⟩
 rw [<-e0]
 exact hn
def ah:cY 115 aV:=VP (accr:=fun ls=>((fc ls),(fM 4 (cD 1 ls)))) (run:=fun n x=>start (iter step n) x.1 x.2) mix aJ (dV Z153.ah) Tryz.func115 (by kernel_rfl) run_eq (fun ls a _ e hg=>BX ls a e hg)
def fa (a0:List ak)(a1:aa):-1<=md a0 a1/\md a0 a1<(a0.length:Int):=by
 unfold md
 refine iU ?_ _ _
 all_goals
  intro i x s b h
  revert h
  simp only [Bool.cond_eq_ite]
  repeat' split
  all_goals (intro h;first | (cases h;rfl) | cases h)
def idx_eq (a0:List ak)(a1:aa):md a0 a1=oN (fun y=>Z153.md y a1) 0 a0:=by
 unfold md
 exact lG
end Z154
namespace Z155
def F (x0:an)(x1:List L):aD:=(call (Z154.R (x0,(aC.dec x1))) fun v1=>ret ((decide (v1>=0)):Bool))
def pats:List fH:=[.rd (.sl 67),.fn 63 [[.str,aQ,aQ,.sl 9]]]
def res:RP:=.one (.rd (.bool))
def md (a0:List ak)(a1:aa):Bool:=((decide ((Z154.md a0 a1)>=0)):Bool)
def gd (a0:List ak)(a1:aa):Prop:=(bn (2^21) (fun y:ak=>ak.Sm (2^21) y) a0)/\(aa.Sm (2^21) a1)
def acc (ls:List L):an×aC:=((fc ls),(aC.dec (fM 4 (cD 1 ls))))
def R:(an×aC)->Option Bool:=eA gd md
def aq {a0 a1}(h:gd a0 a1):R ((a0.map ak.row),(aa.r a1))=some (md a0 a1):=eB h
def aV:gW:=CN pats res acc R
def bH (a0:List ak)(a1:aa)(p1:List L)(e1:(aa.r a1)=(aC.dec p1))(hg:gd a0 a1):F (a0.map ak.row) p1=ret ((md a0 a1):Bool):=by
 obtain ⟨H0,H1⟩:=hg
 unfold F md
 try simp only [SS,<-e1]
 refine ct (Z154.aq ⟨H0,H1⟩) ?_
 have fv1_:=Z154.fa a0 a1
 all_goals exact fz
def BX (ls:List L)(a:List ak×aa)(e:acc ls=Im.im a)(hg:(p2 gd) a):∃n:Nat,F ((fc ls)) (fM 4 (cD 1 ls))=ret (Im.im ((u2 md) a)):=by
 have e0:(a.1.map ak.row)=(fc ls):=(congrArg (fun x=>x.1) e.symm)
 have hn:=bH a.1 a.2 (fM 4 (cD 1 ls)) (congrArg (fun x=>x.2) e.symm) hg
 refine ⟨0,?_⟩
 rw [<-e0]
 exact hn
def ah:cY 62 aV:=VP (live:=fun _=>[]) (nt:=9) (accr:=fun ls=>((fc ls),(fM 4 (cD 1 ls)))) (run:=fun _ x=>F x.1 x.2) mix aJ (dV Z154.ah) Tryz.func62 (by kernel_rfl) (fun _ _=>by kernel_rfl) (fun ls a _ e hg=>BX ls a e hg)
def any_eq (a0:List ak)(a1:aa):md a0 a1=a0.any (fun y=>Z153.md y a1):=by
 unfold md
 rw [Z154.idx_eq]
 exact wh
end Z155
end Go.DM
end
