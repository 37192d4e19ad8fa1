/- What the functions compute that the law reaches, and that the law returns true. Conditions: none. -/
import Derived.Test.YtknikjmcpjaggaaGreatResolvePetTy
import Derived.Test.YtknikjmcpjaggaaGreatResolvePetFnA
import Derived.Test.YtknikjmcpjaggaaGreatProg
import Derived.Lib.AppendZerosOnto
import Derived.Lib.Bytealg
import Derived.Laws.Externs
import Derived.Lib.Walk
import Derived.Lib.Hide
import Derived.Lib.Strings
set_option linter.all false
set_option maxRecDepth 100000
noncomputable section
namespace Go.DM
open Go.Proofs
open Go.IntKind (i64)
open Int (toNat)
open Nat (le_trans zero_le)
namespace Z107
inductive Pt where
 | p0 (a b:aE) (c d e f g h i j k l m n o:Int) (p:Bool) (q s t u v w y z w24 w25 w26 w27:Int) (w28:Bool) (w29 w30 w31 w32 w33 w34 w35 w36 w37 w38 w39 w40:Int) (w41:Bool)
def pid:Pt->Nat
 | .p0 ..=>4
def ck:Pt->List V
 | .p0 a b c d e f g h i j k l m n o p q s t u v w y z w24 w25 w26 w27 w28 w29 w30 w31 w32 w33 w34 w35 w36 w37 w38 w39 w40 w41=>[.sl none 123 a,.sl none 123 b,.dz 0 0,.int .i64 c]
def cj:Pt->List aY
 | .p0 a b c d e f g h i j k l m n o p q s t u v w y z w24 w25 w26 w27 w28 w29 w30 w31 w32 w33 w34 w35 w36 w37 w38 w39 w40 w41=>[.box [.int .i64 d,.int .i64 e,.int .i64 f,.int .i64 g,.int .i64 h,.int .i64 i,.int .i64 j,.int .i64 k,.nil,.int .i64 l,.nil,.int .i64 m,.int .i64 n,.nil,.int .i64 o,.bool p,.nil,.int .i64 q,.int .i64 s,.int .i64 t,.int .i64 u,.int .i64 v,.int .i64 w,.int .i64 y,.int .i64 z,.nil,.int .i64 w24,.nil,.int .i64 w25,.int .i64 w26,.nil,.int .i64 w27,.bool w28,.nil,.int .i64 w29,.int .i64 w30,.int .i64 w31,.int .i64 w32,.int .i64 w33,.int .i64 w34,.int .i64 w35,.int .i64 w36,.nil,.int .i64 w37,.nil,.int .i64 w38,.int .i64 w39,.nil,.int .i64 w40,.bool w41,.nil]]
def step (J:Pt->aI):Pt->aI
 | .p0 a b c d e f g h i j k l m n o p q s t u v w y z w24 w25 w26 w27 w28 w29 w30 w31 w32 w33 w34 w35 w36 w37 w38 w39 w40 w41=>(cond (decide (c<(a.length:Int))) (cond (decide (c<(b.length:Int))) (m2 c (a.length:Int) (m2 c (b.length:Int) (call (Z104.R ((aT.at a (toNat c)).aq,(aT.at b (toNat c)).aq)) fun v1=>(cond v1 (J (.p0 a b (i64.wrap (c+1)) d e f g h i j k l m n o p q s t u v w y z w24 w25 w26 w27 w28 w29 w30 w31 w32 w33 w34 w35 w36 w37 w38 w39 w40 w41)) (m2 c (a.length:Int) (call (Z43.R (aT.at a (toNat c))) fun v2=>(m2 c (b.length:Int) (call (Z43.R (aT.at b (toNat c))) fun v3=>(cond (decide (c>0)) (cq (decide ((0:Int)<=(i64.wrap (c - 1)))) (cq (decide ((i64.wrap (c - 1))<(a.length:Int))) (call (Z43.R (aT.at a (toNat (i64.wrap (c - 1))))) fun v4=>ret (((⟨v4,v2,v3⟩:bK),true):bK×Bool)))) (ret (((⟨(⟨(⟨0,0,0,0,0,0,0,0,(⟨[],0⟩:bE),(⟨[],0⟩:bE),0,(⟨[],0⟩:bE),false⟩:cg),[]⟩:aT),v2,v3⟩:bK),true):bK×Bool))))))))))) (m2 c (a.length:Int) (call (Z43.R (aT.at a (toNat c))) fun v5=>(m2 c (b.length:Int) (call (Z43.R (aT.at b (toNat c))) fun v6=>(cond (decide (c>0)) (cq (decide ((0:Int)<=(i64.wrap (c - 1)))) (cq (decide ((i64.wrap (c - 1))<(a.length:Int))) (call (Z43.R (aT.at a (toNat (i64.wrap (c - 1))))) fun v7=>ret (((⟨v7,v5,v6⟩:bK),true):bK×Bool)))) (ret (((⟨(⟨(⟨0,0,0,0,0,0,0,0,(⟨[],0⟩:bE),(⟨[],0⟩:bE),0,(⟨[],0⟩:bE),false⟩:cg),[]⟩:aT),v5,v6⟩:bK),true):bK×Bool)))))))) (m2 c (a.length:Int) (call (Z43.R (aT.at a (toNat c))) fun v8=>(m2 c (b.length:Int) (call (Z43.R (aT.at b (toNat c))) fun v9=>(cond (decide (c>0)) (cq (decide ((0:Int)<=(i64.wrap (c - 1)))) (cq (decide ((i64.wrap (c - 1))<(a.length:Int))) (call (Z43.R (aT.at a (toNat (i64.wrap (c - 1))))) fun v10=>ret (((⟨v10,v8,v9⟩:bK),true):bK×Bool)))) (ret (((⟨(⟨(⟨0,0,0,0,0,0,0,0,(⟨[],0⟩:bE),(⟨[],0⟩:bE),0,(⟨[],0⟩:bE),false⟩:cg),[]⟩:aT),v8,v9⟩:bK),true):bK×Bool))))))))
def start (J:Pt->aI)(x0 x1:aE):aI:=(call (Z75.R x0) fun v1=>(cond (!v1) (ret (((⟨(⟨(⟨0,0,0,0,0,0,0,0,(⟨[],0⟩:bE),(⟨[],0⟩:bE),0,(⟨[],0⟩:bE),false⟩:cg),[]⟩:aT),(⟨(⟨0,0,0,0,0,0,0,0,(⟨[],0⟩:bE),(⟨[],0⟩:bE),0,(⟨[],0⟩:bE),false⟩:cg),[]⟩:aT),(⟨(⟨0,0,0,0,0,0,0,0,(⟨[],0⟩:bE),(⟨[],0⟩:bE),0,(⟨[],0⟩:bE),false⟩:cg),[]⟩:aT)⟩:bK),false):bK×Bool)) (call (Z75.R x1) fun v2=>(cond (!v2) (ret (((⟨(⟨(⟨0,0,0,0,0,0,0,0,(⟨[],0⟩:bE),(⟨[],0⟩:bE),0,(⟨[],0⟩:bE),false⟩:cg),[]⟩:aT),(⟨(⟨0,0,0,0,0,0,0,0,(⟨[],0⟩:bE),(⟨[],0⟩:bE),0,(⟨[],0⟩:bE),false⟩:cg),[]⟩:aT),(⟨(⟨0,0,0,0,0,0,0,0,(⟨[],0⟩:bE),(⟨[],0⟩:bE),0,(⟨[],0⟩:bE),false⟩:cg),[]⟩:aT)⟩:bK),false):bK×Bool)) (cq (decide ((0:Int)<(x0.length:Int))) (cq (decide ((0:Int)<(x1.length:Int))) (cond ((aT.at x0 0).aq.bC != (aT.at x1 0).aq.bC) (ret (((⟨(⟨(⟨0,0,0,0,0,0,0,0,(⟨[],0⟩:bE),(⟨[],0⟩:bE),0,(⟨[],0⟩:bE),false⟩:cg),[]⟩:aT),(⟨(⟨0,0,0,0,0,0,0,0,(⟨[],0⟩:bE),(⟨[],0⟩:bE),0,(⟨[],0⟩:bE),false⟩:cg),[]⟩:aT),(⟨(⟨0,0,0,0,0,0,0,0,(⟨[],0⟩:bE),(⟨[],0⟩:bE),0,(⟨[],0⟩:bE),false⟩:cg),[]⟩:aT)⟩:bK),false):bK×Bool)) (call (Z105.R (x0,x1)) fun v3=>(cond v3 (ret (((⟨(⟨(⟨0,0,0,0,0,0,0,0,(⟨[],0⟩:bE),(⟨[],0⟩:bE),0,(⟨[],0⟩:bE),false⟩:cg),[]⟩:aT),(⟨(⟨0,0,0,0,0,0,0,0,(⟨[],0⟩:bE),(⟨[],0⟩:bE),0,(⟨[],0⟩:bE),false⟩:cg),[]⟩:aT),(⟨(⟨0,0,0,0,0,0,0,0,(⟨[],0⟩:bE),(⟨[],0⟩:bE),0,(⟨[],0⟩:bE),false⟩:cg),[]⟩:aT)⟩:bK),false):bK×Bool)) (call (Z105.R (x1,x0)) fun v4=>(cond v4 (ret (((⟨(⟨(⟨0,0,0,0,0,0,0,0,(⟨[],0⟩:bE),(⟨[],0⟩:bE),0,(⟨[],0⟩:bE),false⟩:cg),[]⟩:aT),(⟨(⟨0,0,0,0,0,0,0,0,(⟨[],0⟩:bE),(⟨[],0⟩:bE),0,(⟨[],0⟩:bE),false⟩:cg),[]⟩:aT),(⟨(⟨0,0,0,0,0,0,0,0,(⟨[],0⟩:bE),(⟨[],0⟩:bE),0,(⟨[],0⟩:bE),false⟩:cg),[]⟩:aT)⟩:bK),false):bK×Bool)) (J (.p0 x0 x1 0 0 0 0 0 0 0 0 0 0 0 0 0 false 0 0 0 0 0 0 0 0 0 0 0 0 false 0 0 0 0 0 0 0 0 0 0 0 0 false)))))))))))))
def live:Nat->Live:=fun i=>match i with | 4=>[(0,none),(1,none),(4,none),(6,none)] | _=>[]
def pt (a b:aE)(c:Int):Pt:=Pt.p0 a b c 0 0 0 0 0 0 0 0 0 0 0 0 false 0 0 0 0 0 0 0 0 0 0 0 0 false 0 0 0 0 0 0 0 0 0 0 0 0 false
def fk:List aa->List aa->Nat
 | x::xs,y::ys=>bif Z104.md x.aq y.aq then fk xs ys+1 else 0
 | _,_=>0
def pX:∀a b:List aa,(∀i,i<fk a b->Z104.md (a.getD i aa.zero).aq (b.getD i aa.zero).aq=true)/\
    ((fk a b<a.length/\fk a b<b.length/\Z104.md (a.getD (fk a b) aa.zero).aq (b.getD (fk a b) aa.zero).aq=false)∨
     (a.length<=b.length/\∀i,i<a.length->Z104.md (a.getD i aa.zero).aq (b.getD i aa.zero).aq=true)∨
     (b.length<=a.length/\∀i,i<b.length->Z104.md (a.getD i aa.zero).aq (b.getD i aa.zero).aq=true))
  | [],b=>⟨fun i hi=>by simp [fk] at hi,.inr (.inl ⟨zero_le _,fun i hi=>by simp at hi⟩)⟩
  | x::xs,[]=>⟨fun i hi=>by simp [fk] at hi,.inr (.inr ⟨zero_le _,fun i hi=>by simp at hi⟩)⟩
  | x::xs,y::ys=>by
    obtain ⟨h1,h2⟩:=pX xs ys
    cases h:Z104.md x.aq y.aq
    · have e:fk (x::xs) (y::ys)=0:=by simp [fk,h]
      rw [e]
      exact ⟨fun i hi=>by omega,.inl ⟨by simp,by simp,h⟩⟩
    · have e:fk (x::xs) (y::ys)=fk xs ys+1:=by simp [fk,h]
      rw [e]
      have up:∀{m:Nat},(∀i,i<m->Z104.md (xs.getD i aa.zero).aq (ys.getD i aa.zero).aq=true)->∀i,i<m+1->Z104.md ((x::xs).getD i aa.zero).aq ((y::ys).getD i aa.zero).aq=true:=by
        intro m hm i hi
        cases i with
        | zero=>exact h
        | succ i=>exact hm i (by omega)
      refine ⟨up h1,?_⟩
      rcases h2 with ⟨a,b,c⟩ | ⟨a,b⟩ | ⟨a,b⟩
      · exact .inl ⟨by simpa using a,by simpa using b,c⟩
      · exact .inr (.inl ⟨by simpa using a,up b⟩)
      · exact .inr (.inr ⟨by simpa using a,up b⟩)
def yu {a b:List aa}(hl:a.length<=b.length)(h:∀i,i<a.length->Z104.md (a.getD i aa.zero).aq (b.getD i aa.zero).aq=true):Z105.md a b=true:=by
 unfold Z105.md
 rw [decide_eq_false (by omega),bq]
 refine (jC (fun i=>Z104.md (a.getD i aa.zero).aq (b.getD i aa.zero).aq=true) (fun i _ hi=>?_) (fun i _ hi=>?_)).2 ⟨h,rfl⟩
 ·simp only [hi,Bool.not_true,bq]
 ·rw [Bool.not_eq_true] at hi
  simp only [hi,Bool.not_false,bh]
def eq_comm {a b:aG}(h:Z104.md a b=true):Z104.md b a=true:=by
 rw [Z104.md_eq,dy] at h ⊢
 exact h.symm
def lO {a b:List aa}(h1:Z105.md a b=false)(h2:Z105.md b a=false):fk a b<a.length/\fk a b<b.length/\Z104.md (a.getD (fk a b) aa.zero).aq (b.getD (fk a b) aa.zero).aq=false:=by
 rcases (pX a b).2 with h | ⟨h3,h4⟩ | ⟨h3,h4⟩
 ·exact h
 ·rw [yu h3 h4] at h1;cases h1
 ·rw [yu h3 fun i hi=>eq_comm (h4 i hi)] at h2;cases h2
def uX (a b:List aa):Nat->aC
 | 0=>⟨aa.zero,a.getD 0 aa.zero,b.getD 0 aa.zero⟩
 | k+1=>⟨a.getD k aa.zero,a.getD (k+1) aa.zero,b.getD (k+1) aa.zero⟩
def wk {a b:List aa}(h0:bM (2^21) (fun y:aa=>aa.Sm (2^21) y) a)(h1:bM (2^21) (fun y:aa=>aa.Sm (2^21) y) b){k:Nat}(hk:k<a.length)(hk2:k<b.length):aC.Sm (2^21) (uX a b k):=by
 cases k with
 | zero=>exact ⟨⟨⟨bM.nil,bM.nil,bM.nil⟩,bM.nil⟩,bM.getD h0 hk,bM.getD h1 hk2⟩
 | succ k=>exact ⟨bM.getD h0 (by omega),bM.getD h0 hk,bM.getD h1 hk2⟩
def zE {a b:List aa}{k:Nat}(hk:k<a.length)(hk2:k<b.length):aC.size (uX a b k)<=2*dU (fun y:aa=>aa.size y) a+dU (fun y:aa=>aa.size y) b:=by
 have h1:=og (f:=fun y:aa=>aa.size y) (xs:=b) (i:=k) (z:=aa.zero) hk2
 have h2:=og (f:=fun y:aa=>aa.size y) (xs:=a) (i:=k) (z:=aa.zero) hk
 have h0:aa.size aa.zero=0:=rfl
 cases k with
 | zero=>simp only [uX,aC.size];omega
 | succ k=>
  have h3:=og (f:=fun y:aa=>aa.size y) (xs:=a) (i:=k) (z:=aa.zero) (by omega)
  simp only [uX,aC.size];omega
def md (a0 a1:List aa):aC×Bool:=(cond (!(Z75.md a0)) (aC.zero,false) (cond (!(Z75.md a1)) (aC.zero,false) (cond (((a0.getD 0 aa.zero).aq).bC != ((a1.getD 0 aa.zero).aq).bC) (aC.zero,false) (cond (Z105.md a0 a1) (aC.zero,false) (cond (Z105.md a1 a0) (aC.zero,false) (uX a0 a1 (fk a0 a1),true))))))
def gd (a0 a1:List aa):Prop:=bM (2^21) (fun y:aa=>aa.Sm (2^21) y) a0/\bM (2^21) (fun y:aa=>aa.Sm (2^21) y) a1
def R:=RR (p2 gd) (u2 md)
def aj {a0 a1}(h:gd a0 a1):R ((a0.map aa.row),(a1.map aa.row))=some ((aC.r (md a0 a1).1),(md a0 a1).2):=aP (a:=(a0,a1)) h
def aW:=CN [pL 123,pL 123] (.iQ [(true,f280),(false,[fB])]) RT.dec R
def bt (a0)(a1)(hg:gd a0 a1):∃n,start (iter step n) (a0.map aa.row) (a1.map aa.row)=ret ((aC.r (md a0 a1).1),(md a0 a1).2):=by
 unfold gd at hg
 obtain ⟨H0,H1⟩:=hg
 have hl0:=H0.1
 have hl1:=H1.1
 have key:fk a0 a1<a0.length->fk a0 a1<a1.length->Z104.md (a0.getD (fk a0 a1) aa.zero).aq (a1.getD (fk a0 a1) aa.zero).aq=false->∀d k,k+d=fk a0 a1->∃n,iter step n (pt (a0.map aa.row) (a1.map aa.row) (k:Int))=ret ((aC.r (uX a0 a1 (fk a0 a1)),true):bK×Bool):=by
  intro hn0 hn1 hne d
  have hR:∀k,k<a0.length->k<a1.length->Z104.R (aG.r (a0.getD k aa.zero).aq,aG.r (a1.getD k aa.zero).aq)=some (Z104.md (a0.getD k aa.zero).aq (a1.getD k aa.zero).aq):=by
   intro k h0 h1
   rw [Z104.aj ⟨(bM.getD (z:=aa.zero) H0 h0).1,(bM.getD (z:=aa.zero) H1 h1).1⟩]
  induction d with
  | zero=>
   intro k hk
   obtain rfl:k=fk a0 a1:=by omega
   generalize hkk:fk a0 a1=k at hn0 hn1 hne ⊢
   refine ⟨1,?_⟩
   show step (iter step 0) _=_
   have q1:(0:Int)<=(k:Int):=by omega
   have q2:(k:Int)<(a0.length:Int):=by omega
   have q3:(k:Int)<(a1.length:Int):=by omega
   simp only [pt,step,MM,S0,aa.rs,aG.rs,q1,q2,q3,decide_true,bh]
   rw [call_eq (hR k hn0 hn1),hne,bq,call_eq (Z43.aj (a0:=a0.getD k aa.zero) (bM.getD (z:=aa.zero) H0 hn0)),call_eq (Z43.aj (a0:=a1.getD k aa.zero) (bM.getD (z:=aa.zero) H1 hn1))]
   cases k with
   | zero=>rfl
   | succ k=>
    have q4:((k+1:Nat):Int)>0:=by omega
    have q5:i64.wrap (((k+1:Nat):Int) - 1)=(k:Int):=by rw [wi _ (by omega)];omega
    have q6:(0:Int)<=(k:Int):=by omega
    have q7:(k:Int)<(a0.length:Int):=by omega
    simp only [q4,q5,q6,q7,decide_true,bh,S0,aa.rs]
    rw [call_eq (Z43.aj (a0:=a0.getD k aa.zero) (bM.getD (z:=aa.zero) H0 (by omega)))]
    rfl
  | succ d ih=>
   intro k hk
   obtain ⟨n,hn⟩:=ih (k+1) (by omega)
   refine ⟨n+1,?_⟩
   show step (iter step n) _=_
   have q1:(0:Int)<=(k:Int):=by omega
   have q2:(k:Int)<(a0.length:Int):=by omega
   have q3:(k:Int)<(a1.length:Int):=by omega
   simp only [pt,step,MM,S0,aa.rs,aG.rs,q1,q2,q3,decide_true,bh]
   rw [call_eq (hR k (by omega) (by omega)),(pX a0 a1).1 k (by omega),bh,wi _ (by omega)]
   exact hn
 unfold start md
 simp only [S0,aa.rs,aG.rs]
 refine fm (Z75.md a0) (Z75.aj H0) ?_
 cases hc0:Z75.md a0
 ·exact ⟨0,rfl⟩
 simp only [Bool.not_true,bq]
 refine fm (Z75.md a1) (Z75.aj H1) ?_
 cases hc1:Z75.md a1
 ·exact ⟨0,rfl⟩
 have t0:=Z75.tr hc0
 have t1:=Z75.tr hc1
 simp only [Bool.not_true,bq]
 refine dN (decide_eq_true (by omega)) (dN (decide_eq_true (by omega)) ?_)
 cases ((a0.getD 0 aa.zero).aq.bC != (a1.getD 0 aa.zero).aq.bC)
 case true=>exact ⟨0,rfl⟩
 simp only [bq]
 refine fm (Z105.md a0 a1) (Z105.aj ⟨H0,H1⟩) ?_
 cases hp0:Z105.md a0 a1
 case true=>exact ⟨0,rfl⟩
 simp only [bq]
 refine fm (Z105.md a1 a0) (Z105.aj ⟨H1,H0⟩) ?_
 cases hp1:Z105.md a1 a0
 case true=>exact ⟨0,rfl⟩
 simp only [bq]
 obtain ⟨h1,h2,h3⟩:=lO hp0 hp1
 exact key h1 h2 h3 (fk a0 a1) 0 (by omega)
def af:cz 246 aW:=L2 86 pid ck cj live step start mix aF bt (.cons Z75.af (.cons Z105.af (.cons Z104.af (.cons Z43.af .nil)))) Tryz.func246
def gw {a0 a1:List aa}(hg:gd a0 a1):aC.Sm (2^21) ((md a0 a1).1):=by
 unfold gd at hg;unfold md
 have z:aC.Sm (2^21) aC.zero:=⟨⟨⟨bM.nil,bM.nil,bM.nil⟩,bM.nil⟩,⟨⟨bM.nil,bM.nil,bM.nil⟩,bM.nil⟩,⟨⟨bM.nil,bM.nil,bM.nil⟩,bM.nil⟩⟩
 cases Z75.md a0
 ·exact z
 cases Z75.md a1
 ·exact z
 cases ((a0.getD 0 aa.zero).aq.bC != (a1.getD 0 aa.zero).aq.bC)
 case true=>exact z
 cases h1:Z105.md a0 a1
 case true=>exact z
 cases h2:Z105.md a1 a0
 case true=>exact z
 obtain ⟨h3,h4,_⟩:=Z107.lO h1 h2
 exact Z107.wk hg.1 hg.2 h3 h4
end Z107
namespace Z108
def F (x0:bw)(x1:aE):aI:=(call (Z46.R x0) fun v1=>(call (Z106.R (x0,x1)) fun v2=>(cond (v2==1) (cond (decide ((x0.aK.length:Int)>=8)) (ret ((v1,6):bw×Int)) (call (Z44.R x1) fun v3=>(cq (ff (((v1.aK.length:Int)+1)*24)) (ret (((⟨(v1.aK++[[L.sl v3]]),v1.bn⟩:bw),v2):bw×Int))))) (cond (v2==3) (cq (decide ((0:Int)<(x1.length:Int))) (call (Z103.R (x0,(aT.at x1 0).aq.bC)) fun v4=>(call (Z44.R x1) fun v5=>(m2 v4 (v1.aK.length:Int) (ret (((⟨(List.set v1.aK (toNat v4) [L.sl v5]),v1.bn⟩:bw),v2):bw×Int)))))) (cond (v2==5) (cq (decide ((0:Int)<(x1.length:Int))) (call (Z103.R (x0,(aT.at x1 0).aq.bC)) fun v6=>(m2 v6 (x0.aK.length:Int) (call (Z107.R ((oG x0.aK (toNat v6)),x1)) fun v7=>(cond v7.2 (cond (decide ((x0.bn.length:Int)<8)) (cq (ff (((v1.bn.length:Int)+1)*600)) (ret (((⟨v1.aK,(v1.bn++[(bK.enc v7.1)])⟩:bw),v2):bw×Int))) (ret ((v1,v2):bw×Int))) (ret ((v1,v2):bw×Int))))))) (ret ((v1,v2):bw×Int)))))))
def md (a0:au)(a1:List aa):au×Int:=(cond ((Z106.md a0 a1)==1) (cond (decide ((a0.aK.length:Int)>=8)) (a0,6) ((⟨(a0.aK++[a1]),a0.bn⟩:au),(Z106.md a0 a1))) (cond ((Z106.md a0 a1)==3) ((⟨(List.set a0.aK (toNat (Z103.md a0 (((a1.getD 0 aa.zero).aq).bC))) a1),a0.bn⟩:au),(Z106.md a0 a1)) (cond ((Z106.md a0 a1)==5) (cond ((Z107.md (a0.aK.getD (toNat (Z103.md a0 (((a1.getD 0 aa.zero).aq).bC))) []) a1).2) (cond (decide ((a0.bn.length:Int)<8)) ((⟨a0.aK,(a0.bn++[(Z107.md (a0.aK.getD (toNat (Z103.md a0 (((a1.getD 0 aa.zero).aq).bC))) []) a1).1])⟩:au),(Z106.md a0 a1)) (a0,(Z106.md a0 a1))) (a0,(Z106.md a0 a1))) (a0,(Z106.md a0 a1)))))
def gd (a0:au)(a1:List aa):Prop:=(au.Sm (2^21) a0)/\(bM (2^21) (fun y:aa=>aa.Sm (2^21) y) a1)
def R:=RR (p2 gd) (u2 md)
def aj {a0 a1}(h:gd a0 a1):R ((au.r a0),(a1.map aa.row))=some ((au.r (md a0 a1).1),(md a0 a1).2):=aP (a:=(a0,a1)) h
def aW:=CN [.agg rT,pL 123] (.iQ [(true,f37),(false,[fI])]) RT.dec R
def bt (a0)(a1)(hg:gd a0 a1):F (au.r a0) (a1.map aa.row)=ret ((au.r (md a0 a1).1),(md a0 a1).2):=by
 obtain ⟨H0,H1⟩:=hg
 unfold F md
 try simp only [SS]
 refine ct (Z46.aj H0) ?_
 try simp only [SS]
 refine ct (Z106.aj ⟨H0,H1⟩) ?_
 have fv2_:=Z106.fa a0 a1
 refine av (fun b:au×Int=>ret (((au.r b.1),b.2):bw×Int)) (fun c1=>?_) (fun c1=>?_)
 ·have dc1:=c1
  try simp only [DC] at dc1
  refine av (fun b:au×Int=>ret (((au.r b.1),b.2):bw×Int)) (fun c2=>?_) (fun c2=>?_)
  ·all_goals exact fz
  ·have dc2:=c2
   try simp only [DC] at dc2
   refine ct (Z44.aj H1) ?_
   try simp only [SS]
   refine ak (have:=(H0.1).1;lm) ?_
   all_goals exact fz
 ·have dc1:=c1
  try simp only [DC] at dc1
  refine av (fun b:au×Int=>ret (((au.r b.1),b.2):bw×Int)) (fun c3=>?_) (fun c3=>?_)
  ·have dc3:=c3
   try simp only [DC] at dc3
   refine ak (have:=(H1).1;dt) ?_
   refine ct (Z103.aj H0) ?_
   have fv4_:=Z103.fa a0 (((a1.getD 0 aa.zero).aq).bC)
   refine ct (Z44.aj H1) ?_
   try simp only [SS]
   refine ak dt ?_
   refine ak (have:=(H0.1).1;dt) ?_
   all_goals exact fz
  ·have dc3:=c3
   try simp only [DC] at dc3
   refine av (fun b:au×Int=>ret (((au.r b.1),b.2):bw×Int)) (fun c4=>?_) (fun c4=>?_)
   ·have dc4:=c4
    try simp only [DC] at dc4
    refine ak (have:=(H1).1;dt) ?_
    refine ct (Z103.aj H0) ?_
    have fv6_:=Z103.fa a0 (((a1.getD 0 aa.zero).aq).bC)
    refine ak dt ?_
    refine ak (have:=(H0.1).1;dt) ?_
    refine ct (Z107.aj ⟨(bM.getD (z:=[]) H0.1 (by first | assumption | omega | (simp (disch:=omega) only [wi];omega) | (simp;omega))),H1⟩) ?_
    try simp only [SS]
    refine av (fun b:au×Int=>ret (((au.r b.1),b.2):bw×Int)) (fun c5=>?_) (fun c5=>?_)
    ·refine av (fun b:au×Int=>ret (((au.r b.1),b.2):bw×Int)) (fun c6=>?_) (fun c6=>?_)
     ·have dc6:=c6
      try simp only [DC] at dc6
      refine ak (have:=(H0.2).1;lm) ?_
      all_goals exact fz
     ·all_goals exact fz
    ·all_goals exact fz
   ·all_goals exact fz
def af:cz 83 aW:=W2 77 F mix aF bt (.cons Z46.af (.cons Z106.af (.cons Z44.af (.cons Z103.af (.cons Z107.af .nil))))) Tryz.func83
def gw {a0:au}{a1:List aa}(hg:gd a0 a1):au.Sm (2^21) ((md a0 a1).1):=by
 unfold gd at hg;unfold md
 obtain ⟨⟨h1,h2⟩,h3⟩:=hg
 simp only [Bool.cond_eq_ite]
 repeat' split
 all_goals (try simp only [decide_eq_true_eq,ge_iff_le] at *)
 all_goals first
  | exact ⟨h1,h2⟩
  | exact ⟨bM.app (a:=7) (b:=1) ⟨by omega,h1.2⟩ (bM.one h3) (by decide),h2⟩
  | exact ⟨bM.set h1 h3,h2⟩
  | exact ⟨h1,bM.app (a:=7) (b:=1) ⟨by omega,h2.2⟩ (bM.one (Z107.gw ⟨bM.vO h1 bM.nil,h3⟩)) (by decide)⟩
def Cz (c:List (List aa)):Nat:=dU (fun y:List aa=>dU (fun y:aa=>aa.size y) y) c
def Fz (c:List aC):Nat:=dU (fun y:aC=>aC.size y) c
def zw (X a1:List aa):aC.size (Z107.md X a1).1<=2*dU (fun y:aa=>aa.size y) X+dU (fun y:aa=>aa.size y) a1:=by
 unfold Z107.md
 have z:aC.size aC.zero=0:=rfl
 cases Z75.md X
 ·exact zero_le _
 cases Z75.md a1
 ·exact zero_le _
 cases ((X.getD 0 aa.zero).aq.bC != (a1.getD 0 aa.zero).aq.bC)
 case true=>exact zero_le _
 cases h1:Z105.md X a1
 case true=>exact zero_le _
 cases h2:Z105.md a1 X
 case true=>exact zero_le _
 obtain ⟨h3,h4,_⟩:=Z107.lO h1 h2
 exact Z107.zE h3 h4
def grow (a0:au)(a1:List aa):Cz (md a0 a1).1.aK<=Cz a0.aK+(dU (fun y:aa=>aa.size y) a1+1)/\
  Fz (md a0 a1).1.bn<=Fz a0.bn+(2*Cz a0.aK+dU (fun y:aa=>aa.size y) a1+1):=by
 unfold md Cz Fz
 have hs:=wE (f:=fun y:List aa=>dU (fun y:aa=>aa.size y) y) a0.aK (toNat (Z103.md a0 ((a1.getD 0 aa.zero).aq.bC))) a1
 have ha:=uF (f:=fun y:List aa=>dU (fun y:aa=>aa.size y) y) a0.aK a1
 have hk:=uF (f:=fun y:aC=>aC.size y) a0.bn (Z107.md (a0.aK.getD (toNat (Z103.md a0 ((a1.getD 0 aa.zero).aq.bC))) []) a1).1
 have hf1:=zw (a0.aK.getD (toNat (Z103.md a0 ((a1.getD 0 aa.zero).aq.bC))) []) a1
 have hg1:=nV (f:=fun y:List aa=>dU (fun y:aa=>aa.size y) y) (xs:=a0.aK) (i:=toNat (Z103.md a0 ((a1.getD 0 aa.zero).aq.bC))) (z:=[]) rfl
 (try simp only at hs);(try simp only at ha);(try simp only at hk);(try simp only at hg1)
 simp only [Bool.cond_eq_ite]
 repeat' split
 all_goals constructor<;>(try simp only)<;>omega
end Z108
namespace Z109
def F (x0:cg)(x1:Int):aI:=(call (Z47.R (x1,x0.cK,x0.cC)) fun v1=>ret (v1:Bool))
def md (a0:aG)(a1:Int):Bool:=((Z47.md a1 a0.cK a0.cC):Bool)
def gd (a0:aG)(a1:Int):Prop:=True
def R:=RR (p2 gd) (u2 md)
def aj {a0 a1}(h:gd a0 a1):R ((aG.r a0),a1)=some (md a0 a1):=aP (a:=(a0,a1)) h
def aW:=CN [.agg gi,pI] oB RT.dec R
def bt (a0)(a1)(hg:gd a0 a1):F (aG.r a0) a1=ret (md a0 a1):=by
 unfold F md
 try simp only [SS]
 refine ct (Z47.aj trivial) ?_
 all_goals exact fz
def af:cz 271 aW:=W2 11 F mix aF bt (.cons Z47.af .nil) Tryz.func271
end Z109
namespace Z110
inductive Pt where
 | p0 (a b c:Int) (d:aE) (e:Int)
def pid:Pt->Nat
 | .p0 ..=>4
def ck:Pt->List V
 | .p0 a b c d e=>[.int .i64 a,.int .i64 b,.int .i64 c,.sl none 3 d,.int .i64 e]
def cj:Pt->List aY
 | .p0 a b c d e=>[]
def step (J:Pt->aI):Pt->aI
 | .p0 a b c d e=>(cond (decide (c>1)) (cond ((Int.tmod b 2)==1) (cond (decide (e>=(d.length:Int))) (ret ((0,false):Int×Bool)) (cond ((Int.tmod b 2)==1) (m2 e (d.length:Int) (call (Z85.R ((jx d (toNat e)),a)) fun v1=>J (.p0 v1 (i64.wrap (Int.tdiv b 2)) (i64.wrap (Int.tdiv (i64.wrap (c+1)) 2)) d (i64.wrap (e+1))))) (m2 e (d.length:Int) (call (Z85.R (a,(jx d (toNat e)))) fun v2=>J (.p0 v2 (i64.wrap (Int.tdiv b 2)) (i64.wrap (Int.tdiv (i64.wrap (c+1)) 2)) d (i64.wrap (e+1))))))) (cond (decide ((i64.wrap (b+1))<c)) (cond (decide (e>=(d.length:Int))) (ret ((0,false):Int×Bool)) (cond ((Int.tmod b 2)==1) (m2 e (d.length:Int) (call (Z85.R ((jx d (toNat e)),a)) fun v3=>J (.p0 v3 (i64.wrap (Int.tdiv b 2)) (i64.wrap (Int.tdiv (i64.wrap (c+1)) 2)) d (i64.wrap (e+1))))) (m2 e (d.length:Int) (call (Z85.R (a,(jx d (toNat e)))) fun v4=>J (.p0 v4 (i64.wrap (Int.tdiv b 2)) (i64.wrap (Int.tdiv (i64.wrap (c+1)) 2)) d (i64.wrap (e+1))))))) (J (.p0 a (i64.wrap (Int.tdiv b 2)) (i64.wrap (Int.tdiv (i64.wrap (c+1)) 2)) d e)))) (cond (e != (d.length:Int)) (ret ((0,false):Int×Bool)) (ret ((a,true):Int×Bool))))
def start (J:Pt->aI)(x0 x1 x2:Int)(x3:aE):aI:=(call (Z47.R (x2,1,12)) fun v1=>(cond (!v1) (ret ((0,false):Int×Bool)) (call (Z47.R (x1,0,(i64.wrap (x2 - 1)))) fun v2=>(cond (!v2) (ret ((0,false):Int×Bool)) (J (.p0 x0 x1 x2 x3 0))))))
def live:Nat->Live:=fun i=>match i with | 4=>[(0,none),(1,none),(2,none),(3,none),(10,none)] | _=>[]
def tf:Nat->Int->Int->Int->List Int->Int×Bool
 | 0,_,_,_,_=>(0,false)
 | k+1,leaf,i,n,path=>
  if n>1 then
   if i % 2=1∨i+1<n then
    match path with
    | []=>(0,false)
    | p::ps=>tf k (if i % 2=1 then Z85.md p leaf else Z85.md leaf p) (i / 2) ((n+1) / 2) ps
   else tf k leaf (i / 2) ((n+1) / 2) path
  else if path.isEmpty then (leaf,true) else (0,false)
def md (a0 a1 a2:Int)(a3:List Int):Int×Bool:=(cond (!(Z47.md a2 1 12)) (0,false) (bif !(Z47.md a1 0 (i64.wrap (a2 - 1))) then (0,false) else tf 5 a0 a1 a2 a3))
def gd (a0 a1 a2:Int)(a3:List Int):Prop:=bM (2^38) (fun y:Int=>True) a3
def R:=RR (p4 gd) (u4 md)
def aj {a0 a1 a2 a3}(h:gd a0 a1 a2 a3):R (a0,a1,a2,(a3.map bk))=some ((md a0 a1 a2 a3).1,(md a0 a1 a2 a3).2):=aP (a:=(a0,a1,a2,a3)) h
def aW:=CN [pI,pI,pI,pL 3] (.iQ [(false,[fI]),(false,[fB])]) RT.dec R
def bt (a0)(a1)(a2)(a3)(hg:gd a0 a1 a2 a3):∃n,start (iter step n) a0 a1 a2 (a3.map bk)=ret ((md a0 a1 a2 a3).1,(md a0 a1 a2 a3).2):=by
 have tm:∀b:Int,0<=b->b<=11->Int.tmod b 2=b % 2:=fun b h1 h2=>Int.tmod_eq_emod_of_nonneg h1
 have td:∀b:Int,0<=b->b<=13->i64.wrap (Int.tdiv b 2)=b / 2:=fun b h1 h2=>by
  rw [Int.tdiv_eq_ediv_of_nonneg h1,Go.IntWalk.i64_in _ (by omega)]
 have t1:∀b:Int,0<=b->b<=13->i64.wrap (b+1)=b+1:=fun b h1 h2=>Go.IntWalk.i64_in _ (by omega)
 obtain ⟨H3,_⟩:=hg
 have key:∀(k:Nat) (leaf i n:Int) (u:Nat),0<=i->i<n->n<=12->n<=2^k->u<=a3.length->∃m,iter step m (Pt.p0 leaf i n (a3.map bk) (u:Int))=ret ((tf (k+1) leaf i n (a3.drop u)).1,(tf (k+1) leaf i n (a3.drop u)).2):=by
  intro k
  induction k with
  | zero=>
   intro leaf i n u h1 h2 h3 h4 h5
   refine ⟨1,?_⟩
   show step (iter step 0) (Pt.p0 _ _ _ _ _)=_
   have hn:n=1:=by omega
   subst hn
   simp only [step,List.length_map]
   refine cT (by decide) ?_
   unfold tf
   rw [if_neg (by omega)]
   by_cases hu:u=a3.length
   ·rw [List.drop_eq_nil_of_le (by omega),show ((u:Int) != (a3.length:Int))=false from bne_eq_false_iff_eq.2 (by omega)];rfl
   ·have hne:(a3.drop u).isEmpty=false:=by
     rw [List.drop_eq_getElem_cons (by omega)];rfl
    rw [hne,show ((u:Int) != (a3.length:Int))=true from bne_iff_ne.2 (by omega)];rfl
  | succ k ih=>
   intro leaf i n u h1 h2 h3 h4 h5
   have hk:n<=2*2^k:=by rw [Int.pow_succ] at h4;omega
   unfold tf
   by_cases hn:n>1
   ·have e1:=tm i h1 (by omega)
    have e2:=td i h1 (by omega)
    have e3:=t1 n (by omega) (by omega)
    have e4:=td (n+1) (by omega) (by omega)
    have e5:=t1 i h1 (by omega)
    rw [if_pos hn]
    by_cases hc:i % 2=1∨i+1<n
    ·rw [if_pos hc]
     by_cases hu:u=a3.length
     ·refine ⟨1,?_⟩
      show step (iter step 0) (Pt.p0 _ _ _ _ _)=_
      rw [List.drop_eq_nil_of_le (by omega)]
      simp only [step,List.length_map,e1,e5]
      refine ak (decide_eq_true (by omega)) ?_
      by_cases hm:i % 2=1
      ·rw [hm]
       exact ak rfl (ak (decide_eq_true (by omega)) rfl)
      ·refine cT (beq_eq_false_iff_ne.2 hm) (ak (decide_eq_true (by omega)) (ak (decide_eq_true (by omega)) rfl))
     ·have hlt:u<a3.length:=by omega
      rw [List.drop_eq_getElem_cons hlt]
      obtain ⟨m,hm⟩:=ih (if i % 2=1 then Z85.md a3[u] leaf else Z85.md leaf a3[u]) (i / 2) ((n+1) / 2) (u+1) (by omega) (by omega) (by omega) (by omega) (by omega)
      refine ⟨m+1,?_⟩
      show step (iter step m) (Pt.p0 _ _ _ _ _)=_
      have w:i64.wrap ((u:Int)+1)=((u+1:Nat):Int):=by rw [Go.IntWalk.i64_in _ (by omega)];omega
      simp only [step,List.length_map,e1,e2,e3,e4,e5,w,cE,gR,eS hlt]
      refine ak (decide_eq_true (by omega)) ?_
      by_cases hp:i % 2=1
      ·rw [if_pos hp] at hm
       rw [hp]
       refine ak rfl (cT (decide_eq_false (by omega)) (ak rfl (ak (decide_eq_true (by omega)) (ak (decide_eq_true (by omega)) (bg _ (Z85.aj trivial) ?_)))))
       rw [if_pos rfl]
       exact hm
      ·rw [if_neg hp] at hm
       have hb:(i % 2==1)=false:=beq_eq_false_iff_ne.2 hp
       rw [hb]
       refine cT rfl (ak (decide_eq_true (by omega)) (cT (decide_eq_false (by omega)) (cT rfl (ak (decide_eq_true (by omega)) (ak (decide_eq_true (by omega)) (bg _ (Z85.aj trivial) ?_))))))
       rw [if_neg hp]
       exact hm
    ·rw [if_neg hc]
     obtain ⟨m,hm⟩:=ih leaf (i / 2) ((n+1) / 2) u (by omega) (by omega) (by omega) (by omega) h5
     refine ⟨m+1,?_⟩
     show step (iter step m) (Pt.p0 _ _ _ _ _)=_
     simp only [step,List.length_map,e1,e2,e3,e4,e5]
     have hb:(i % 2==1)=false:=beq_eq_false_iff_ne.2 (by omega)
     rw [hb]
     exact ak (decide_eq_true (by omega)) (cT rfl (cT (decide_eq_false (by omega)) hm))
   ·refine ⟨1,?_⟩
    show step (iter step 0) (Pt.p0 _ _ _ _ _)=_
    have hn1:n=1:=by omega
    subst hn1
    simp only [step,List.length_map]
    refine cT (by decide) ?_
    rw [if_neg (by omega)]
    by_cases hu:u=a3.length
    ·rw [List.drop_eq_nil_of_le (by omega),show ((u:Int) != (a3.length:Int))=false from bne_eq_false_iff_eq.2 (by omega)];rfl
    ·have hne:(a3.drop u).isEmpty=false:=by
      rw [List.drop_eq_getElem_cons (by omega)];rfl
     rw [hne,show ((u:Int) != (a3.length:Int))=true from bne_iff_ne.2 (by omega)];rfl
 unfold start md
 refine fm (Z47.md a2 1 12) (Z47.aj trivial) ?_
 cases hc:Z47.md a2 1 12
 ·exact ⟨0,rfl⟩
 simp only [Bool.not_true,bq]
 refine fm (Z47.md a1 0 (i64.wrap (a2 - 1))) (Z47.aj trivial) ?_
 cases hd:Z47.md a1 0 (i64.wrap (a2 - 1))
 ·exact ⟨0,rfl⟩
 have i1:1<=a2/\a2<=12:=by simpa [Z47.md] using hc
 rw [Go.IntWalk.i64_in _ (by omega)] at hd
 have i2:0<=a1/\a1<=a2 - 1:=by simpa [Z47.md] using hd
 exact key 4 a0 a1 a2 0 (by omega) (by omega) (by omega) (by omega) (by omega)
def af:cz 469 aW:=L4 63 pid ck cj live step start mix aF bt (.cons Z47.af (.cons Z85.af .nil)) Tryz.func469
end Z110
namespace Z111
def F (x0 x1:Int)(x2:aV)(x3:bS):aI:=(call (Z83.R x2) fun v1=>(call (Z110.R (v1,x3.eF,x1,x3.bH)) fun v2=>(call (Z77.R x2) fun v3=>(cond v3 (cond v2.2 (call (Z88.R (x1,v2.1)) fun v4=>ret ((v4==x0):Bool)) bz) bz))))
def md (a0 a1:Int)(a2:ah)(a3:aN):Bool:=(cond (Z77.md a2) (cond ((Z110.md (Z83.md a2) a3.eF a1 a3.bH).2) (((Z88.md a1 ((Z110.md (Z83.md a2) a3.eF a1 a3.bH).1))==a0):Bool) (false:Bool)) (false:Bool))
def gd (a0 a1:Int)(a2:ah)(a3:aN):Prop:=(ah.Sm (2^21) a2)/\(aN.Sm (2^21) a3)
def R:=RR (p4 gd) (u4 md)
def aj {a0 a1 a2 a3}(h:gd a0 a1 a2 a3):R (a0,a1,(ah.r a2),(aN.r a3))=some (md a0 a1 a2 a3):=aP (a:=(a0,a1,a2,a3)) h
def aW:=CN [pI,pI,.agg rE,.agg rB] oB RT.dec R
def bt (a0)(a1)(a2)(a3)(hg:gd a0 a1 a2 a3):F a0 a1 (ah.r a2) (aN.r a3)=ret (md a0 a1 a2 a3):=by
 obtain ⟨H2,H3⟩:=hg
 unfold F md
 try simp only [SS]
 refine ct (Z83.aj H2) ?_
 refine ct (Z110.aj (H3.mono (by decide) (fun x hx=>trivial))) ?_
 refine ct (Z77.aj H2) ?_
 refine av ret (fun c1=>?_) (fun _=>rfl)
 refine av ret (fun c2=>?_) (fun _=>rfl)
 refine ct (Z88.aj trivial) ?_
 all_goals exact fz
def af:cz 391 aW:=W4 34 F mix aF bt (.cons Z83.af (.cons Z110.af (.cons Z77.af (.cons Z88.af .nil)))) Tryz.func391
end Z111
namespace Z112
inductive Pt where
 | p0 (a b:aE) (c:Int)
def pid:Pt->Nat
 | .p0 ..=>4
def ck:Pt->List V
 | .p0 a b c=>[.sl none 9 a,.sl none 9 b,.int .i64 c]
def cj:Pt->List aY
 | .p0 a b c=>[]
def step (J:Pt->aI):Pt->aI
 | .p0 a b c=>(cond (decide (c<(a.length:Int))) (m2 c (a.length:Int) (m2 c (b.length:Int) (cond (!((qi a (toNat c))==(qi b (toNat c)))) bz (J (.p0 a b (i64.wrap (c+1))))))) (ret (true:Bool)))
def start (J:Pt->aI)(x0 x1:aE):aI:=(cond ((x0.length:Int) != (x1.length:Int)) bz (J (.p0 x0 x1 0)))
def live:Nat->Live:=fun i=>match i with | 4=>[(0,none),(1,none),(5,none)] | _=>[]
def md (a0 a1:List aD):Bool:=(bif ((a0.length:Int) != (a1.length:Int)) then (false:Bool) else (eD (S:=Unit) (β:=Bool) (fun (i2:Nat) (s4:Unit)=>(cond (!((a0.getD i2 ⟨#[]⟩)==(a1.getD i2 ⟨#[]⟩))) (.inr (false:Bool)) (.inl ()))) (fun (s4:Unit)=>(true:Bool)) a0.length 0 ()))
def gd (a0 a1:List aD):Prop:=(bM (2^21) (fun y:aD=>y.size<=(2^21)) a0)/\(bM (2^21) (fun y:aD=>y.size<=(2^21)) a1)
def R:=RR (p2 gd) (u2 md)
def aj {a0 a1}(h:gd a0 a1):R ((a0.map cG),(a1.map cG))=some (md a0 a1):=aP (a:=(a0,a1)) h
def aW:=CN [pL 9,pL 9] oB RT.dec R
def bt (a0)(a1)(hg:gd a0 a1):∃n,start (iter step n) (a0.map cG) (a1.map cG)=ret (md a0 a1):=by
 obtain ⟨H0,H1⟩:=hg
 unfold start md
 try simp only [SS]
 refine hU ret (fun _=>⟨0,rfl⟩) (fun c1=>?_)
 have dc1:=c1
 try simp only [DC] at dc1
 have Bh3:a0.length<=maxLen:=(by
   have:=(H0).1
   try simp only [maxLen] at *
   omega)
 refine dP (p:=Pt.p0 (a0.map cG) (a1.map cG) 0) fz ?_
 refine cm (pt:=fun (i2:Nat) (s4:Unit)=>Pt.p0 (a0.map cG) (a1.map cG) (i2:Int)) (s:=(():Unit)) (out:=ret) (fun _ _=>True) (fun J i2 s4 h3 hih3=>?_) (fun s4 hih3=>?_) trivial
 ·simp only [step,SS]
  have bb_:=Bh3
  simp only [maxLen] at bb_
  have:=(H0).1
  refine bB.yes (by apply decide_eq_true;omega) ?_
  refine bB.yes aJ ?_
  refine bB.yes (aO h3) ?_
  refine bB.yes aJ ?_
  refine bB.yes (have:=(H1).1;dt) ?_
  refine bB.bif (fun _=>bB.inr rfl) (fun c5=>?_)
  refine bB.inl trivial ?_
  rw [aH h3 Bh3]
  all_goals exact fz
 ·simp only [step,SS]
  have:=(H0).1
  refine dF (by apply decide_eq_false;omega) ?_
  refine ⟨0,?_⟩
  all_goals exact fz
def af:cz 407 aW:=L2 26 pid ck cj live step start mix aF bt .nil Tryz.func407
def md_eq (a0 a1:List aD):md a0 a1=eg a0 a1:=by
 unfold md
 refine kA (⟨#[]⟩) (fun i s h h2=>?_) (fun s=>rfl)
 simp only [bne,fC,bool_beq,eV]
 cases eg _ _<;>rfl
end Z112
namespace Z113
def F (x0 x1:aV):aI:=(cond (x0.aZ==x1.aZ) (cond (x0.bI==x1.bI) (cond (x0.bX==x1.bX) (call (Z112.R (x0.bH,x1.bH)) fun v1=>ret (v1:Bool)) bz) bz) bz)
def md (a0 a1:ah):Bool:=(cond (a0.aZ==a1.aZ) (cond (a0.bI==a1.bI) (cond (a0.bX==a1.bX) ((Z112.md a0.bH a1.bH):Bool) (false:Bool)) (false:Bool)) (false:Bool))
def gd (a0 a1:ah):Prop:=(ah.Sm (2^21) a0)/\(ah.Sm (2^21) a1)
def R:=RR (p2 gd) (u2 md)
def aj {a0 a1}(h:gd a0 a1):R ((ah.r a0),(ah.r a1))=some (md a0 a1):=aP (a:=(a0,a1)) h
def aW:=CN [.agg rE,.agg rE] oB RT.dec R
def bt (a0)(a1)(hg:gd a0 a1):F (ah.r a0) (ah.r a1)=ret (md a0 a1):=by
 obtain ⟨H0,H1⟩:=hg
 unfold F md
 try simp only [SS]
 refine av ret (fun c1=>?_) (fun _=>rfl)
 refine av ret (fun c2=>?_) (fun _=>rfl)
 refine av ret (fun c3=>?_) (fun _=>rfl)
 refine ct (Z112.aj ⟨H0.2,H1.2⟩) ?_
 all_goals exact fz
def af:cz 403 aW:=W2 31 F mix aF bt (.cons Z112.af .nil) Tryz.func403
def md_eq (a0 a1:ah):md a0 a1=eg a0 a1:=by
 unfold md
 cases a0;cases a1
 rw [Bool.eq_iff_iff]
 simp [dy,eV,ah.mk.injEq,Z112.md_eq]
 try (constructor<;>(intro h;simp_all))
end Z113
namespace Z114
def F (x0 x1:bS):aI:=(cond (x0.eF==x1.eF) (call (Z67.R (x0.bH,x1.bH)) fun v1=>ret (v1:Bool)) bz)
def md (a0 a1:aN):Bool:=(cond (a0.eF==a1.eF) ((Z67.md a0.bH a1.bH):Bool) (false:Bool))
def gd (a0 a1:aN):Prop:=(aN.Sm (2^21) a0)/\(aN.Sm (2^21) a1)
def R:=RR (p2 gd) (u2 md)
def aj {a0 a1}(h:gd a0 a1):R ((aN.r a0),(aN.r a1))=some (md a0 a1):=aP (a:=(a0,a1)) h
def aW:=CN [.agg rB,.agg rB] oB RT.dec R
def bt (a0)(a1)(hg:gd a0 a1):F (aN.r a0) (aN.r a1)=ret (md a0 a1):=by
 obtain ⟨H0,H1⟩:=hg
 unfold F md
 try simp only [SS]
 refine av ret (fun c1=>?_) (fun _=>rfl)
 refine ct (Z67.aj ⟨(H0.mono (by decide) (fun x hx=>trivial)),(H1.mono (by decide) (fun x hx=>trivial))⟩) ?_
 all_goals exact fz
def af:cz 472 aW:=W2 17 F mix aF bt (.cons Z67.af .nil) Tryz.func472
def md_eq (a0 a1:aN):md a0 a1=eg a0 a1:=by
 unfold md
 cases a0;cases a1
 rw [Bool.eq_iff_iff]
 simp [dy,eV,aN.mk.injEq,Z67.md_eq]
 try (constructor<;>(intro h;simp_all))
end Z114
namespace Z115
def F (x0 x1:dS):aI:=(cond (x0.eF==x1.eF) (call (Z113.R (x0.aS,x1.aS)) fun v1=>(cond v1 (call (Z113.R (x0.cJ,x1.cJ)) fun v2=>(cond v2 (call (Z114.R (x0.eH,x1.eH)) fun v3=>(cond v3 (call (Z114.R (x0.dh,x1.dh)) fun v4=>ret (v4:Bool)) bz)) bz)) bz)) bz)
def md (a0 a1:bV):Bool:=(cond (a0.eF==a1.eF) (cond (Z113.md a0.aS a1.aS) (cond (Z113.md a0.cJ a1.cJ) (cond (Z114.md a0.eH a1.eH) ((Z114.md a0.dh a1.dh):Bool) (false:Bool)) (false:Bool)) (false:Bool)) (false:Bool))
def gd (a0 a1:bV):Prop:=(bV.Sm (2^21) a0)/\(bV.Sm (2^21) a1)
def R:=RR (p2 gd) (u2 md)
def aj {a0 a1}(h:gd a0 a1):R ((bV.r a0),(bV.r a1))=some (md a0 a1):=aP (a:=(a0,a1)) h
def aW:=CN [.agg vX,.agg vX] oB RT.dec R
def bt (a0)(a1)(hg:gd a0 a1):F (bV.r a0) (bV.r a1)=ret (md a0 a1):=by
 obtain ⟨H0,H1⟩:=hg
 unfold F md
 try simp only [SS]
 refine av ret (fun c1=>?_) (fun _=>rfl)
 refine ct (Z113.aj ⟨H0.1,H1.1⟩) ?_
 refine av ret (fun c2=>?_) (fun _=>rfl)
 refine ct (Z113.aj ⟨H0.2.1,H1.2.1⟩) ?_
 refine av ret (fun c3=>?_) (fun _=>rfl)
 refine ct (Z114.aj ⟨H0.2.2.1,H1.2.2.1⟩) ?_
 refine av ret (fun c4=>?_) (fun _=>rfl)
 refine ct (Z114.aj ⟨H0.2.2.2,H1.2.2.2⟩) ?_
 all_goals exact fz
def af:cz 392 aW:=W2 38 F mix aF bt (.cons Z113.af (.cons Z114.af .nil)) Tryz.func392
def md_eq (a0 a1:bV):md a0 a1=eg a0 a1:=by
 unfold md
 cases a0;cases a1
 rw [Bool.eq_iff_iff]
 simp [dy,eV,bV.mk.injEq,Z113.md_eq,Z114.md_eq]
 try (constructor<;>(intro h;simp_all))
end Z115
namespace Z116
def F (x0:aV)(x1:bS):aI:=(call (Z113.R (x0,(⟨(⟨#[]⟩:aD),0,0,[]⟩:aV))) fun v1=>(cond v1 (call (Z114.R (x1,(⟨0,[]⟩:bS))) fun v2=>ret (v2:Bool)) bz))
def md (a0:ah)(a1:aN):Bool:=(cond (Z113.md a0 (⟨((⟨#[]⟩:aD):aD),0,0,[]⟩:ah)) ((Z114.md a1 (⟨0,[]⟩:aN)):Bool) (false:Bool))
def gd (a0:ah)(a1:aN):Prop:=(ah.Sm (2^21) a0)/\(aN.Sm (2^21) a1)
def R:=RR (p2 gd) (u2 md)
def aj {a0 a1}(h:gd a0 a1):R ((ah.r a0),(aN.r a1))=some (md a0 a1):=aP (a:=(a0,a1)) h
def aW:=CN [.agg rE,.agg rB] oB RT.dec R
def bt (a0)(a1)(hg:gd a0 a1):F (ah.r a0) (aN.r a1)=ret (md a0 a1):=by
 obtain ⟨H0,H1⟩:=hg
 unfold F md
 try simp only [SS]
 refine ct (Z113.aj (a1:=(⟨((⟨#[]⟩:aD):aD),0,0,[]⟩:ah)) ⟨H0,⟨(by decide),bM.nil⟩⟩) ?_
 refine av ret (fun c1=>?_) (fun _=>rfl)
 refine ct (Z114.aj (a1:=(⟨0,[]⟩:aN)) ⟨H1,bM.nil⟩) ?_
 all_goals exact fz
def af:cz 394 aW:=W2 13 F mix aF bt (.cons Z113.af (.cons Z114.af .nil)) Tryz.func394
end Z116
namespace Z117
def F (x0 x1:Int)(x2:aD)(x3:dS):aI:=(call (Z48.R x2) fun v1=>(cond (!v1) bz (call (Z47.R (x3.eF,0,x1)) fun v2=>(cond (!v2) bz (cond (x1==0) (call (Z89.R []) fun v3=>(cond (x0 != v3) bz (cond (x3.eF==0) (call (Z116.R (x3.aS,x3.eH)) fun v4=>(cond (!v4) bz (cond (x3.eF==x1) (call (Z116.R (x3.cJ,x3.dh)) fun v5=>ret (v5:Bool)) (call (Z111.R (x0,x1,x3.cJ,x3.dh)) fun v6=>(cond v6 (cond (x3.dh.eF==x3.eF) (call (Z78.R (x3.cJ.aZ,x2)) fun v7=>ret ((v7==1):Bool)) bz) bz))))) (call (Z111.R (x0,x1,x3.aS,x3.eH)) fun v8=>(cond (!v8) bz (cond (x3.eH.eF != (i64.wrap (x3.eF - 1))) bz (call (Z78.R (x3.aS.aZ,x2)) fun v9=>(cond (v9 != (-1)) bz (cond (x3.eF==x1) (call (Z116.R (x3.cJ,x3.dh)) fun v10=>ret (v10:Bool)) (call (Z111.R (x0,x1,x3.cJ,x3.dh)) fun v11=>(cond v11 (cond (x3.dh.eF==x3.eF) (call (Z78.R (x3.cJ.aZ,x2)) fun v12=>ret ((v12==1):Bool)) bz) bz))))))))))) (cond (x3.eF==0) (call (Z116.R (x3.aS,x3.eH)) fun v13=>(cond (!v13) bz (cond (x3.eF==x1) (call (Z116.R (x3.cJ,x3.dh)) fun v14=>ret (v14:Bool)) (call (Z111.R (x0,x1,x3.cJ,x3.dh)) fun v15=>(cond v15 (cond (x3.dh.eF==x3.eF) (call (Z78.R (x3.cJ.aZ,x2)) fun v16=>ret ((v16==1):Bool)) bz) bz))))) (call (Z111.R (x0,x1,x3.aS,x3.eH)) fun v17=>(cond (!v17) bz (cond (x3.eH.eF != (i64.wrap (x3.eF - 1))) bz (call (Z78.R (x3.aS.aZ,x2)) fun v18=>(cond (v18 != (-1)) bz (cond (x3.eF==x1) (call (Z116.R (x3.cJ,x3.dh)) fun v19=>ret (v19:Bool)) (call (Z111.R (x0,x1,x3.cJ,x3.dh)) fun v20=>(cond v20 (cond (x3.dh.eF==x3.eF) (call (Z78.R (x3.cJ.aZ,x2)) fun v21=>ret ((v21==1):Bool)) bz) bz))))))))))))))
def md (a0 a1:Int)(a2:aD)(a3:bV):Bool:=(cond (!(Z48.md a2)) (false:Bool) (cond (!(Z47.md a3.eF 0 a1)) (false:Bool) (cond (a1==0) (cond (a0 != (Z89.md [])) (false:Bool) (cond (a3.eF==0) (cond (!(Z116.md a3.aS a3.eH)) (false:Bool) (cond (a3.eF==a1) ((Z116.md a3.cJ a3.dh):Bool) (cond (Z111.md a0 a1 a3.cJ a3.dh) (cond (a3.dh.eF==a3.eF) (((Z78.md a3.cJ.aZ a2)==1):Bool) (false:Bool)) (false:Bool)))) (cond (!(Z111.md a0 a1 a3.aS a3.eH)) (false:Bool) (cond (a3.eH.eF != (i64.wrap (a3.eF - 1))) (false:Bool) (cond ((Z78.md a3.aS.aZ a2) != (-1)) (false:Bool) (cond (a3.eF==a1) ((Z116.md a3.cJ a3.dh):Bool) (cond (Z111.md a0 a1 a3.cJ a3.dh) (cond (a3.dh.eF==a3.eF) (((Z78.md a3.cJ.aZ a2)==1):Bool) (false:Bool)) (false:Bool)))))))) (cond (a3.eF==0) (cond (!(Z116.md a3.aS a3.eH)) (false:Bool) (cond (a3.eF==a1) ((Z116.md a3.cJ a3.dh):Bool) (cond (Z111.md a0 a1 a3.cJ a3.dh) (cond (a3.dh.eF==a3.eF) (((Z78.md a3.cJ.aZ a2)==1):Bool) (false:Bool)) (false:Bool)))) (cond (!(Z111.md a0 a1 a3.aS a3.eH)) (false:Bool) (cond (a3.eH.eF != (i64.wrap (a3.eF - 1))) (false:Bool) (cond ((Z78.md a3.aS.aZ a2) != (-1)) (false:Bool) (cond (a3.eF==a1) ((Z116.md a3.cJ a3.dh):Bool) (cond (Z111.md a0 a1 a3.cJ a3.dh) (cond (a3.dh.eF==a3.eF) (((Z78.md a3.cJ.aZ a2)==1):Bool) (false:Bool)) (false:Bool))))))))))
def gd (a0 a1:Int)(a2:aD)(a3:bV):Prop:=(a2.size<=(2^21))/\(bV.Sm (2^21) a3)
def R:=RR (p4 gd) (u4 md)
def aj {a0 a1 a2 a3}(h:gd a0 a1 a2 a3):R (a0,a1,a2,(bV.r a3))=some (md a0 a1 a2 a3):=aP (a:=(a0,a1,a2,a3)) h
def aW:=CN [pI,pI,pS,.agg vX] oB RT.dec R
def bt (a0)(a1)(a2)(a3)(hg:gd a0 a1 a2 a3):F a0 a1 a2 (bV.r a3)=ret (md a0 a1 a2 a3):=by
 obtain ⟨H2,H3⟩:=hg
 unfold F md
 try simp only [SS]
 refine ct (Z48.aj (le_trans H2 (by decide))) ?_
 refine av ret (fun _=>rfl) (fun c1=>?_)
 refine ct (Z47.aj trivial) ?_
 refine av ret (fun _=>rfl) (fun c2=>?_)
 refine av ret (fun c3=>?_) (fun c3=>?_)
 ·refine bg (Z89.md []) (rq (Z89.aj (a0:=[]) bM.nil)) ?_
  refine av ret (fun _=>rfl) (fun c4=>?_)
  refine av ret (fun c5=>?_) (fun c5=>?_)
  ·refine ct (Z116.aj ⟨H3.1,H3.2.2.1⟩) ?_
   refine av ret (fun _=>rfl) (fun c6=>?_)
   refine av ret (fun c7=>?_) (fun c7=>?_)
   ·refine ct (Z116.aj ⟨H3.2.1,H3.2.2.2⟩) ?_
    all_goals exact fz
   ·refine ct (Z111.aj ⟨H3.2.1,H3.2.2.2⟩) ?_
    refine av ret (fun c8=>?_) (fun _=>rfl)
    refine av ret (fun c9=>?_) (fun _=>rfl)
    refine ct (Z78.aj trivial) ?_
    all_goals exact fz
  ·refine ct (Z111.aj ⟨H3.1,H3.2.2.1⟩) ?_
   refine av ret (fun _=>rfl) (fun c10=>?_)
   refine av ret (fun _=>rfl) (fun c11=>?_)
   refine ct (Z78.aj trivial) ?_
   refine av ret (fun _=>rfl) (fun c12=>?_)
   refine av ret (fun c13=>?_) (fun c13=>?_)
   ·refine ct (Z116.aj ⟨H3.2.1,H3.2.2.2⟩) ?_
    all_goals exact fz
   ·refine ct (Z111.aj ⟨H3.2.1,H3.2.2.2⟩) ?_
    refine av ret (fun c14=>?_) (fun _=>rfl)
    refine av ret (fun c15=>?_) (fun _=>rfl)
    refine ct (Z78.aj trivial) ?_
    all_goals exact fz
 ·refine av ret (fun c16=>?_) (fun c16=>?_)
  ·refine ct (Z116.aj ⟨H3.1,H3.2.2.1⟩) ?_
   refine av ret (fun _=>rfl) (fun c17=>?_)
   refine av ret (fun c18=>?_) (fun c18=>?_)
   ·refine ct (Z116.aj ⟨H3.2.1,H3.2.2.2⟩) ?_
    all_goals exact fz
   ·refine ct (Z111.aj ⟨H3.2.1,H3.2.2.2⟩) ?_
    refine av ret (fun c19=>?_) (fun _=>rfl)
    refine av ret (fun c20=>?_) (fun _=>rfl)
    refine ct (Z78.aj trivial) ?_
    all_goals exact fz
  ·refine ct (Z111.aj ⟨H3.1,H3.2.2.1⟩) ?_
   refine av ret (fun _=>rfl) (fun c21=>?_)
   refine av ret (fun _=>rfl) (fun c22=>?_)
   refine ct (Z78.aj trivial) ?_
   refine av ret (fun _=>rfl) (fun c23=>?_)
   refine av ret (fun c24=>?_) (fun c24=>?_)
   ·refine ct (Z116.aj ⟨H3.2.1,H3.2.2.2⟩) ?_
    all_goals exact fz
   ·refine ct (Z111.aj ⟨H3.2.1,H3.2.2.2⟩) ?_
    refine av ret (fun c25=>?_) (fun _=>rfl)
    refine av ret (fun c26=>?_) (fun _=>rfl)
    refine ct (Z78.aj trivial) ?_
    all_goals exact fz
def af:cz 393 aW:=W4 95 F mix aF bt (.cons Z48.af (.cons Z47.af (.cons Z89.af (.cons Z116.af (.cons Z111.af (.cons Z78.af .nil)))))) Tryz.func393
end Z117
namespace Z118
def F (x0:cg)(x1:aD)(x2:bf):aI:=(cond x2.cw (cond (x2.aR.aZ==x1) (call (Z111.R (x0.dm,x0.cy,x2.aR,x2.eE)) fun v1=>(cond v1 (call (Z115.R (x2.eX,(⟨0,(⟨(⟨#[]⟩:aD),0,0,[]⟩:aV),(⟨(⟨#[]⟩:aD),0,0,[]⟩:aV),(⟨0,[]⟩:bS),(⟨0,[]⟩:bS)⟩:dS))) fun v2=>ret (v2:Bool)) bz)) bz) (call (Z117.R (x0.dm,x0.cy,x1,x2.eX)) fun v3=>(cond v3 (call (Z116.R (x2.aR,x2.eE)) fun v4=>ret (v4:Bool)) bz)))
def md (a0:aG)(a1:aD)(a2:az):Bool:=(cond a2.cw (cond (a2.aR.aZ==a1) (cond (Z111.md a0.dm a0.cy a2.aR a2.eE) ((Z115.md a2.eX (⟨0,(⟨((⟨#[]⟩:aD):aD),0,0,[]⟩:ah),(⟨((⟨#[]⟩:aD):aD),0,0,[]⟩:ah),(⟨0,[]⟩:aN),(⟨0,[]⟩:aN)⟩:bV)):Bool) (false:Bool)) (false:Bool)) (cond (Z117.md a0.dm a0.cy a1 a2.eX) ((Z116.md a2.aR a2.eE):Bool) (false:Bool)))
def gd (a0:aG)(a1:aD)(a2:az):Prop:=(a1.size<=(2^21))/\(az.Sm (2^21) a2)
def R:=RR (p3 gd) (u3 md)
def aj {a0 a1 a2}(h:gd a0 a1 a2):R ((aG.r a0),a1,(az.r a2))=some (md a0 a1 a2):=aP (a:=(a0,a1,a2)) h
def aW:=CN [.agg gi,pS,.agg yz] oB RT.dec R
def bt (a0)(a1)(a2)(hg:gd a0 a1 a2):F (aG.r a0) a1 (az.r a2)=ret (md a0 a1 a2):=by
 obtain ⟨H1,H2⟩:=hg
 unfold F md
 try simp only [SS]
 refine av ret (fun c1=>?_) (fun c1=>?_)
 ·refine av ret (fun c2=>?_) (fun _=>rfl)
  refine ct (Z111.aj ⟨H2.2.1,H2.2.2.1⟩) ?_
  refine av ret (fun c3=>?_) (fun _=>rfl)
  refine ct (Z115.aj (a1:=(⟨0,(⟨((⟨#[]⟩:aD):aD),0,0,[]⟩:ah),(⟨((⟨#[]⟩:aD):aD),0,0,[]⟩:ah),(⟨0,[]⟩:aN),(⟨0,[]⟩:aN)⟩:bV)) ⟨H2.2.2.2,⟨⟨(by decide),bM.nil⟩,⟨(by decide),bM.nil⟩,bM.nil,bM.nil⟩⟩) ?_
  all_goals exact fz
 ·refine ct (Z117.aj ⟨H1,H2.2.2.2⟩) ?_
  refine av ret (fun c4=>?_) (fun _=>rfl)
  refine ct (Z116.aj ⟨H2.2.1,H2.2.2.1⟩) ?_
  all_goals exact fz
def af:cz 272 aW:=W3 46 F mix aF bt (.cons Z111.af (.cons Z115.af (.cons Z117.af (.cons Z116.af .nil)))) Tryz.func272
end Z118
namespace Z119
def F (x0:Int)(x1:aD)(x2:bf)(x3:Int):aI:=(call (Z76.R x2.aU) fun v1=>(cond (!v1.2) (ret (3:Int)) (cond (v1.1.bC != x0) (ret (2:Int)) (call (Z109.R (v1.1,x3)) fun v2=>(cond (!v2) (ret (4:Int)) (cond v1.1.bG (ret (5:Int)) (call (Z118.R (v1.1,x1,x2)) fun v3=>(cond (!v3) (ret (6:Int)) (ret (1:Int))))))))))
def md (a0:Int)(a1:aD)(a2:az)(a3:Int):Int:=(cond (!(Z76.md a2.aU).2) (3:Int) (cond ((Z76.md a2.aU).1.bC != a0) (2:Int) (cond (!(Z109.md ((Z76.md a2.aU).1) a3)) (4:Int) (cond ((Z76.md a2.aU).1.bG) (5:Int) (cond (!(Z118.md ((Z76.md a2.aU).1) a1 a2)) (6:Int) (1:Int))))))
def gd (a0:Int)(a1:aD)(a2:az)(a3:Int):Prop:=(a1.size<=(2^21))/\(az.Sm (2^21) a2)
def R:=RR (p4 gd) (u4 md)
def aj {a0 a1 a2 a3}(h:gd a0 a1 a2 a3):R (a0,a1,(az.r a2),a3)=some (md a0 a1 a2 a3):=aP (a:=(a0,a1,a2,a3)) h
def aW:=CN [pI,pS,.agg yz,pI] oI RT.dec R
def bt (a0)(a1)(a2)(a3)(hg:gd a0 a1 a2 a3):F a0 a1 (az.r a2) a3=ret (md a0 a1 a2 a3):=by
 obtain ⟨H1,H2⟩:=hg
 unfold F md
 try simp only [SS]
 refine ct (Z76.aj H2.1) ?_
 try simp only [SS]
 refine av ret (fun _=>rfl) (fun c1=>?_)
 refine av ret (fun _=>rfl) (fun c2=>?_)
 refine ct (Z109.aj trivial) ?_
 refine av ret (fun _=>rfl) (fun c3=>?_)
 refine av ret (fun _=>rfl) (fun c4=>?_)
 refine ct (Z118.aj ⟨H1,H2⟩) ?_
 refine av ret (fun _=>rfl) (fun _=>rfl)
def af:cz 95 aW:=W4 39 F mix aF bt (.cons Z76.af (.cons Z109.af (.cons Z118.af .nil))) Tryz.func95
end Z119
namespace Z120
inductive Pt where
 | p0 (a:Int) (b c:aT)
def pid:Pt->Nat
 | .p0 ..=>4
def ck:Pt->List V
 | .p0 a b c=>[.dz 0 0,.dz 1 0,.int .i64 a]
def cj:Pt->List aY
 | .p0 a b c=>[.box [.int .i64 b.aq.bC,.int .i64 b.aq.cN,.int .i64 b.aq.bI,.int .i64 b.aq.cK,.int .i64 b.aq.cC,.int .i64 b.aq.cy,.int .i64 b.aq.dm,.int .i64 b.aq.dH,.sl none 3 b.aq.bP.aX,.int .i64 b.aq.bP.cF,.sl none 3 b.aq.bD.aX,.int .i64 b.aq.bD.cF,.int .i64 b.aq.dw,.sl none 3 b.aq.bA.aX,.int .i64 b.aq.bA.cF,.bool b.aq.bG,.sl none 428 b.cu],.box [.int .i64 c.aq.bC,.int .i64 c.aq.cN,.int .i64 c.aq.bI,.int .i64 c.aq.cK,.int .i64 c.aq.cC,.int .i64 c.aq.cy,.int .i64 c.aq.dm,.int .i64 c.aq.dH,.sl none 3 c.aq.bP.aX,.int .i64 c.aq.bP.cF,.sl none 3 c.aq.bD.aX,.int .i64 c.aq.bD.cF,.int .i64 c.aq.dw,.sl none 3 c.aq.bA.aX,.int .i64 c.aq.bA.cF,.bool c.aq.bG,.sl none 428 c.cu]]
def step (J:Pt->aI):Pt->aI
 | .p0 a b c=>(cond (decide (a<(b.cu.length:Int))) (m2 a (b.cu.length:Int) (m2 a (c.cu.length:Int) (cond (!((((bp.at b.cu (toNat a)).gU:Int)==(bp.at c.cu (toNat a)).gU)&&((((bp.at b.cu (toNat a)).jz:Int)==(bp.at c.cu (toNat a)).jz)&&true))) bz (J (.p0 (i64.wrap (a+1)) b c))))) (ret (true:Bool)))
def start (J:Pt->aI)(x0 x1:aT):aI:=(call (Z104.R (x0.aq,x1.aq)) fun v1=>(cond (!v1) bz (cond ((x0.cu.length:Int) != (x1.cu.length:Int)) bz (J (.p0 0 x0 x1)))))
def live:Nat->Live:=fun i=>match i with | 4=>[(2,none),(3,none),(5,none)] | _=>[]
def md (a0 a1:aa):Bool:=(bif (!(Z104.md a0.aq a1.aq)) then (false:Bool) else (bif ((a0.cu.length:Int) != (a1.cu.length:Int)) then (false:Bool) else (eD (S:=Unit) (β:=Bool) (fun (i3:Nat) (s5:Unit)=>(cond (!((((a0.cu.getD i3 bp.zero).gU:Int)==(a1.cu.getD i3 bp.zero).gU)&&((((a0.cu.getD i3 bp.zero).jz:Int)==(a1.cu.getD i3 bp.zero).jz)&&true))) (.inr (false:Bool)) (.inl ()))) (fun (s5:Unit)=>(true:Bool)) a0.cu.length 0 ())))
def gd (a0 a1:aa):Prop:=(aa.Sm (2^21) a0)/\(aa.Sm (2^21) a1)
def R:=RR (p2 gd) (u2 md)
def aj {a0 a1}(h:gd a0 a1):R ((aa.r a0),(aa.r a1))=some (md a0 a1):=aP (a:=(a0,a1)) h
def aW:=CN [.agg kI,.agg kI] oB RT.dec R
def bt (a0)(a1)(hg:gd a0 a1):∃n,start (iter step n) (aa.r a0) (aa.r a1)=ret (md a0 a1):=by
 obtain ⟨H0,H1⟩:=hg
 unfold start md
 try simp only [SS]
 refine cx (Z104.aj ⟨H0.1,H1.1⟩) ?_
 refine hU ret (fun _=>⟨0,rfl⟩) (fun c1=>?_)
 have dc1:=c1
 try simp only [DC] at dc1
 refine hU ret (fun _=>⟨0,rfl⟩) (fun c2=>?_)
 have dc2:=c2
 try simp only [DC] at dc2
 have Bh4:a0.cu.length<=maxLen:=(by
   have:=(H0.2).1
   try simp only [maxLen] at *
   omega)
 refine dP (p:=Pt.p0 0 (aa.r a0) (aa.r a1)) fz ?_
 refine cm (pt:=fun (i3:Nat) (s5:Unit)=>Pt.p0 (i3:Int) (aa.r a0) (aa.r a1)) (s:=(():Unit)) (out:=ret) (fun _ _=>True) (fun J i3 s5 h4 hih4=>?_) (fun s5 hih4=>?_) trivial
 ·simp only [step,SS]
  have bb_:=Bh4
  simp only [maxLen] at bb_
  have:=(H0.2).1
  refine bB.yes (by apply decide_eq_true;omega) ?_
  refine bB.yes aJ ?_
  refine bB.yes (aO h4) ?_
  refine bB.yes aJ ?_
  refine bB.yes (have:=(H1.2).1;dt) ?_
  refine bB.bif (fun _=>bB.inr rfl) (fun c6=>?_)
  refine bB.inl trivial ?_
  rw [aH h4 Bh4]
  all_goals exact fz
 ·simp only [step,SS]
  have:=(H0.2).1
  refine dF (by apply decide_eq_false;omega) ?_
  refine ⟨0,?_⟩
  all_goals exact fz
def af:cz 374 aW:=L2 39 pid ck cj live step start mix aF bt (.cons Z104.af .nil) Tryz.func374
def md_eq (a0 a1:aa):md a0 a1=eg a0 a1:=by
 unfold md
 simp only [Z104.md_eq,fC,bp.eqc]
 rw [kA bp.zero (fun i s h h2=>by cases eg (a0.cu.getD i bp.zero) (a1.cu.getD i bp.zero)<;>rfl) (fun s=>rfl)]
 rw [Bool.eq_iff_iff]
 cases a0;cases a1
 simp [dy]
end Z120
namespace Z121
def F (x0:bK):aI:=(call (Z104.R (x0.fA.aq,x0.fB.aq)) fun v1=>(cond v1 bz (call (Z120.R (x0.aS,(⟨(⟨0,0,0,0,0,0,0,0,(⟨[],0⟩:bE),(⟨[],0⟩:bE),0,(⟨[],0⟩:bE),false⟩:cg),[]⟩:aT))) fun v2=>(cond v2 (call (Z64.R x0.fA) fun v3=>(cond v3 (call (Z64.R x0.fB) fun v4=>(cond v4 (ret ((x0.fA.aq.bC==x0.fB.aq.bC):Bool)) bz)) bz)) (call (Z73.R (x0.aS.aq,x0.fA)) fun v5=>(cond v5 (call (Z73.R (x0.aS.aq,x0.fB)) fun v6=>ret (v6:Bool)) bz))))))
def md (a0:aC):Bool:=(cond (Z104.md a0.fA.aq a0.fB.aq) (false:Bool) (cond (Z120.md a0.aS (⟨(⟨0,0,0,0,0,0,0,0,(⟨[],0⟩:aM),(⟨[],0⟩:aM),0,(⟨[],0⟩:aM),false⟩:aG),[]⟩:aa)) (cond (Z64.md a0.fA) (cond (Z64.md a0.fB) ((a0.fA.aq.bC==a0.fB.aq.bC):Bool) (false:Bool)) (false:Bool)) (cond (Z73.md a0.aS.aq a0.fA) ((Z73.md a0.aS.aq a0.fB):Bool) (false:Bool))))
def gd (a0:aC):Prop:=(aC.Sm (2^21) a0)
def R:=RR gd md
def aj {a0}(h:gd a0):R (aC.r a0)=some (md a0):=aP (a:=a0) h
def aW:=CN [.agg tH] oB RT.dec R
def bt (a0)(hg:gd a0):F (aC.r a0)=ret (md a0):=by
 unfold gd at hg
 have H0:=hg
 unfold F md
 try simp only [SS]
 refine ct (Z104.aj ⟨H0.2.1.1,H0.2.2.1⟩) ?_
 refine av ret (fun _=>rfl) (fun c1=>?_)
 refine ct (Z120.aj (a1:=(⟨(⟨0,0,0,0,0,0,0,0,(⟨[],0⟩:aM),(⟨[],0⟩:aM),0,(⟨[],0⟩:aM),false⟩:aG),[]⟩:aa)) ⟨H0.1,⟨⟨bM.nil,bM.nil,bM.nil⟩,bM.nil⟩⟩) ?_
 refine av ret (fun c2=>?_) (fun c2=>?_)
 ·refine ct (Z64.aj H0.2.1) ?_
  refine av ret (fun c3=>?_) (fun _=>rfl)
  refine ct (Z64.aj H0.2.2) ?_
  refine av ret (fun c4=>?_) (fun _=>rfl)
  all_goals exact fz
 ·refine ct (Z73.aj ⟨H0.1.1,H0.2.1⟩) ?_
  refine av ret (fun c5=>?_) (fun _=>rfl)
  refine ct (Z73.aj ⟨H0.1.1,H0.2.2⟩) ?_
  all_goals exact fz
def af:cz 254 aW:=W1 47 F mix aF bt (.cons Z104.af (.cons Z120.af (.cons Z64.af (.cons Z73.af .nil)))) Tryz.func254
end Z121
namespace Z122
def F (x0:bK):aI:=(call (Z121.R x0) fun v1=>(cond (!v1) (ret ((-1):Int)) (ret (x0.fA.aq.bC:Int))))
def md (a0:aC):Int:=(cond (!(Z121.md a0)) ((-1):Int) (a0.fA.aq.bC:Int))
def gd (a0:aC):Prop:=(aC.Sm (2^21) a0)
def R:=RR gd md
def aj {a0}(h:gd a0):R (aC.r a0)=some (md a0):=aP (a:=a0) h
def aW:=CN [.agg tH] oI RT.dec R
def bt (a0)(hg:gd a0):F (aC.r a0)=ret (md a0):=by
 unfold gd at hg
 have H0:=hg
 unfold F md
 try simp only [SS]
 refine ct (Z121.aj H0) ?_
 refine av ret (fun _=>rfl) (fun c1=>?_)
 all_goals exact fz
def af:cz 416 aW:=W1 10 F mix aF bt (.cons Z121.af .nil) Tryz.func416
end Z122
namespace Z123
inductive Pt where
 | p0 (a b:Int) (c:bw)
def pid:Pt->Nat
 | .p0 ..=>2
def ck:Pt->List V
 | .p0 a b c=>[.int .i64 a,.dz 0 0,.int .i64 b]
def cj:Pt->List aY
 | .p0 a b c=>[.box [.sl none 92 c.aK,.sl none 280 c.bn]]
def step (J:Pt->aI):Pt->aI
 | .p0 a b c=>(cond (decide (b<(c.bn.length:Int))) (m2 b (c.bn.length:Int) (call (Z122.R (bK.at c.bn (toNat b))) fun v1=>(cond (v1==a) (cond (decide (a>=0)) (ret (true:Bool)) (J (.p0 a (i64.wrap (b+1)) c))) (J (.p0 a (i64.wrap (b+1)) c))))) bz)
def start (J:Pt->aI)(x0:bw)(x1:Int):aI:=J (.p0 x1 0 x0)
def live:Nat->Live:=fun i=>match i with | 2=>[(1,none),(2,none),(5,none)] | _=>[]
def md (a0:au)(a1:Int):Bool:=(ep (S:=Unit) (β:=Bool) (fun (y1:aC) (s3:Unit)=>(cond ((Z122.md y1)==a1) (cond (decide (a1>=0)) (.inr (true:Bool)) (.inl ())) (.inl ()))) (fun (s3:Unit)=>(false:Bool)) a0.bn ())
def gd (a0:au)(a1:Int):Prop:=(au.Sm (2^21) a0)
def R:=RR (p2 gd) (u2 md)
def aj {a0 a1}(h:gd a0 a1):R ((au.r a0),a1)=some (md a0 a1):=aP (a:=(a0,a1)) h
def aW:=CN [.agg rT,pI] oB RT.dec R
def bt (a0)(a1)(hg:gd a0 a1):∃n,start (iter step n) (au.r a0) a1=ret (md a0 a1):=by
 unfold gd at hg
 have H0:=hg
 unfold start md
 try simp only [SS]
 have Bh2:a0.bn.length<=maxLen:=(by
   have:=(H0.2).1
   try simp only [maxLen] at *
   omega)
 refine ex_eq (out:=ret) (eM (z:=aC.zero)) ?_
 refine dP (p:=Pt.p0 a1 0 (au.r a0)) fz ?_
 refine cm (pt:=fun (i1:Nat) (s3:Unit)=>Pt.p0 a1 (i1:Int) (au.r a0)) (s:=(():Unit)) (out:=ret) (fun _ _=>True) (fun J i1 s3 h2 hih2=>?_) (fun s3 hih2=>?_) trivial
 ·simp only [step,SS]
  have bb_:=Bh2
  simp only [maxLen] at bb_
  have:=(H0.2).1
  refine bB.yes (by apply decide_eq_true;omega) ?_
  refine bB.yes aJ ?_
  refine bB.yes (aO h2) ?_
  refine cr (Z122.aj (bM.getD (z:=aC.zero) H0.2 h2)) ?_
  refine bB.bif (fun c4=>?_) (fun c4=>?_)
  ·refine bB.bif (fun _=>bB.inr rfl) (fun c5=>?_)
   refine bB.inl trivial ?_
   rw [aH h2 Bh2]
   all_goals exact fz
  ·refine bB.inl trivial ?_
   rw [aH h2 Bh2]
   all_goals exact fz
 ·simp only [step,SS]
  have:=(H0.2).1
  refine dF (by apply decide_eq_false;omega) ?_
  refine ⟨0,?_⟩
  all_goals exact fz
def af:cz 301 aW:=L2 25 pid ck cj live step start mix aF bt (.cons Z122.af .nil) Tryz.func301
end Z123
namespace Z124
inductive Pt where
 | p0 (a:aE) (b:Int) (c:aD) (d e:Int) (f:Bool) (g:aD) (h i:Int) (j k:Bool) (l:aD) (m n:Int) (o:Bool) (p q s:aE)
def pid:Pt->Nat
 | .p0 ..=>3
def ck:Pt->List V
 | .p0 a b c d e f g h i j k l m n o p q s=>[.sl none 132 a,.int .i64 b,.str c,.int .i64 d,.dz 0 0,.dz 1 0,.int .i64 e,.dz 1 0]
def cj:Pt->List aY
 | .p0 a b c d e f g h i j k l m n o p q s=>[.box [.nil,.nil,.bool f,.str g,.int .i64 h,.int .i64 i,.nil,.bool j,.nil],.box [.own 2,.own 3,.bool k,.str l,.int .i64 m,.int .i64 n,.nil,.bool o,.own 4],.row 92 p,.row 280 q,.row 3 s]
def step (J:Pt->aI):Pt->aI
 | .p0 a b c d e f g h i j k l m n o p q s=>(cond (decide (e<(a.length:Int))) (m2 e (a.length:Int) (call (Z76.R ((bf.at a (toNat e)).aU)) fun v1=>(cond v1.2 (cond (v1.1.bC==b) (call (Z108.R ((⟨p,q⟩:bw),(bf.at a (toNat e)).aU)) fun v2=>(call (Z119.R (b,c,(bf.at a (toNat e)),d)) fun v3=>(cond (v2.2==1) (cond (v3==1) (call (Z123.R (v2.1,b)) fun v4=>(cond v4 (cq (ff (((s.length:Int)+1)*8)) (J (.p0 a b c d (i64.wrap (e+1)) f g h i j k l m n o v2.1.aK v2.1.bn (s++[[L.int 3]])))) (cq (ff (((s.length:Int)+1)*8)) (cond (v3==1) (call (Z95.R ((bf.at a (toNat e)).aR)) fun v5=>ret ((⟨v2.1,(bf.at a (toNat e)).cw,v5,true,(s++[[L.int v3]])⟩:dx):dx)) (J (.p0 a b c d (i64.wrap (e+1)) f g h i j k l m n o v2.1.aK v2.1.bn (s++[[L.int v3]]))))))) (cq (ff (((s.length:Int)+1)*8)) (cond (v3==1) (call (Z95.R ((bf.at a (toNat e)).aR)) fun v6=>ret ((⟨v2.1,(bf.at a (toNat e)).cw,v6,true,(s++[[L.int v3]])⟩:dx):dx)) (J (.p0 a b c d (i64.wrap (e+1)) f g h i j k l m n o v2.1.aK v2.1.bn (s++[[L.int v3]])))))) (cond (v2.2==2) (cond (v3==1) (call (Z123.R (v2.1,b)) fun v7=>(cond v7 (cq (ff (((s.length:Int)+1)*8)) (J (.p0 a b c d (i64.wrap (e+1)) f g h i j k l m n o v2.1.aK v2.1.bn (s++[[L.int 3]])))) (cq (ff (((s.length:Int)+1)*8)) (cond (v3==1) (call (Z95.R ((bf.at a (toNat e)).aR)) fun v8=>ret ((⟨v2.1,(bf.at a (toNat e)).cw,v8,true,(s++[[L.int v3]])⟩:dx):dx)) (J (.p0 a b c d (i64.wrap (e+1)) f g h i j k l m n o v2.1.aK v2.1.bn (s++[[L.int v3]]))))))) (cq (ff (((s.length:Int)+1)*8)) (cond (v3==1) (call (Z95.R ((bf.at a (toNat e)).aR)) fun v9=>ret ((⟨v2.1,(bf.at a (toNat e)).cw,v9,true,(s++[[L.int v3]])⟩:dx):dx)) (J (.p0 a b c d (i64.wrap (e+1)) f g h i j k l m n o v2.1.aK v2.1.bn (s++[[L.int v3]])))))) (cond (v3==1) (cond (!(v2.2==3)) (cq (ff (((s.length:Int)+1)*8)) (J (.p0 a b c d (i64.wrap (e+1)) f g h i j k l m n o v2.1.aK v2.1.bn (s++[[L.int 3]])))) (call (Z123.R (v2.1,b)) fun v10=>(cond v10 (cq (ff (((s.length:Int)+1)*8)) (J (.p0 a b c d (i64.wrap (e+1)) f g h i j k l m n o v2.1.aK v2.1.bn (s++[[L.int 3]])))) (cq (ff (((s.length:Int)+1)*8)) (cond (v3==1) (call (Z95.R ((bf.at a (toNat e)).aR)) fun v11=>ret ((⟨v2.1,(bf.at a (toNat e)).cw,v11,true,(s++[[L.int v3]])⟩:dx):dx)) (J (.p0 a b c d (i64.wrap (e+1)) f g h i j k l m n o v2.1.aK v2.1.bn (s++[[L.int v3]])))))))) (cq (ff (((s.length:Int)+1)*8)) (cond (v3==1) (call (Z95.R ((bf.at a (toNat e)).aR)) fun v12=>ret ((⟨v2.1,(bf.at a (toNat e)).cw,v12,true,(s++[[L.int v3]])⟩:dx):dx)) (J (.p0 a b c d (i64.wrap (e+1)) f g h i j k l m n o v2.1.aK v2.1.bn (s++[[L.int v3]])))))))))) (call (Z119.R (b,c,(bf.at a (toNat e)),d)) fun v13=>(cond (v13==1) (cq (ff (((s.length:Int)+1)*8)) (J (.p0 a b c d (i64.wrap (e+1)) f g h i j k l m n o p q (s++[[L.int 3]])))) (cq (ff (((s.length:Int)+1)*8)) (cond (v13==1) (call (Z95.R ((bf.at a (toNat e)).aR)) fun v14=>ret ((⟨(⟨p,q⟩:bw),(bf.at a (toNat e)).cw,v14,true,(s++[[L.int v13]])⟩:dx):dx)) (J (.p0 a b c d (i64.wrap (e+1)) f g h i j k l m n o p q (s++[[L.int v13]])))))))) (call (Z119.R (b,c,(bf.at a (toNat e)),d)) fun v15=>(cond (v15==1) (cq (ff (((s.length:Int)+1)*8)) (J (.p0 a b c d (i64.wrap (e+1)) f g h i j k l m n o p q (s++[[L.int 3]])))) (cq (ff (((s.length:Int)+1)*8)) (cond (v15==1) (call (Z95.R ((bf.at a (toNat e)).aR)) fun v16=>ret ((⟨(⟨p,q⟩:bw),(bf.at a (toNat e)).cw,v16,true,(s++[[L.int v15]])⟩:dx):dx)) (J (.p0 a b c d (i64.wrap (e+1)) f g h i j k l m n o p q (s++[[L.int v15]])))))))))) (ret ((⟨(⟨p,q⟩:bw),k,(⟨l,m,n,[]⟩:aV),o,s⟩:dx):dx)))
def start (J:Pt->aI)(x0:bw)(x1:aE)(x2:Int)(x3:aD)(x4:Int):aI:=(call (Z46.R x0) fun v1=>J (.p0 x1 x2 x3 x4 0 false ⟨#[]⟩ 0 0 false false ⟨#[]⟩ 0 0 false v1.aK v1.bn []))
def live:Nat->Live:=fun i=>match i with | 3=>[(1,none),(2,none),(3,none),(4,none),(10,none),(11,none),(12,none),(11,some 8388611)] | _=>[]
def md (a0:au)(a1:List az)(a2:Int)(a3:aD)(a4:Int):bT:=(ep (S:=List (List aa)×List aC×List Int) (β:=bT) (fun (y1:az) (s3:List (List aa)×List aC×List Int)=>(cond ((Z76.md (y1.aU)).2) (cond ((Z76.md (y1.aU)).1.bC==a2) (cond ((Z108.md (⟨s3.1,s3.2.1⟩:au) (y1.aU)).2==1) (cond ((Z119.md a2 a3 y1 a4)==1) (cond (Z123.md ((Z108.md (⟨s3.1,s3.2.1⟩:au) (y1.aU)).1) a2) (.inl ((Z108.md (⟨s3.1,s3.2.1⟩:au) (y1.aU)).1.aK,(Z108.md (⟨s3.1,s3.2.1⟩:au) (y1.aU)).1.bn,(s3.2.2++[3]))) (cond ((Z119.md a2 a3 y1 a4)==1) (.inr (⟨(Z108.md (⟨s3.1,s3.2.1⟩:au) (y1.aU)).1,y1.cw,(y1.aR),true,(s3.2.2++[(Z119.md a2 a3 y1 a4)])⟩:bT)) (.inl ((Z108.md (⟨s3.1,s3.2.1⟩:au) (y1.aU)).1.aK,(Z108.md (⟨s3.1,s3.2.1⟩:au) (y1.aU)).1.bn,(s3.2.2++[(Z119.md a2 a3 y1 a4)]))))) (cond ((Z119.md a2 a3 y1 a4)==1) (.inr (⟨(Z108.md (⟨s3.1,s3.2.1⟩:au) (y1.aU)).1,y1.cw,(y1.aR),true,(s3.2.2++[(Z119.md a2 a3 y1 a4)])⟩:bT)) (.inl ((Z108.md (⟨s3.1,s3.2.1⟩:au) (y1.aU)).1.aK,(Z108.md (⟨s3.1,s3.2.1⟩:au) (y1.aU)).1.bn,(s3.2.2++[(Z119.md a2 a3 y1 a4)]))))) (cond ((Z108.md (⟨s3.1,s3.2.1⟩:au) (y1.aU)).2==2) (cond ((Z119.md a2 a3 y1 a4)==1) (cond (Z123.md ((Z108.md (⟨s3.1,s3.2.1⟩:au) (y1.aU)).1) a2) (.inl ((Z108.md (⟨s3.1,s3.2.1⟩:au) (y1.aU)).1.aK,(Z108.md (⟨s3.1,s3.2.1⟩:au) (y1.aU)).1.bn,(s3.2.2++[3]))) (cond ((Z119.md a2 a3 y1 a4)==1) (.inr (⟨(Z108.md (⟨s3.1,s3.2.1⟩:au) (y1.aU)).1,y1.cw,(y1.aR),true,(s3.2.2++[(Z119.md a2 a3 y1 a4)])⟩:bT)) (.inl ((Z108.md (⟨s3.1,s3.2.1⟩:au) (y1.aU)).1.aK,(Z108.md (⟨s3.1,s3.2.1⟩:au) (y1.aU)).1.bn,(s3.2.2++[(Z119.md a2 a3 y1 a4)]))))) (cond ((Z119.md a2 a3 y1 a4)==1) (.inr (⟨(Z108.md (⟨s3.1,s3.2.1⟩:au) (y1.aU)).1,y1.cw,(y1.aR),true,(s3.2.2++[(Z119.md a2 a3 y1 a4)])⟩:bT)) (.inl ((Z108.md (⟨s3.1,s3.2.1⟩:au) (y1.aU)).1.aK,(Z108.md (⟨s3.1,s3.2.1⟩:au) (y1.aU)).1.bn,(s3.2.2++[(Z119.md a2 a3 y1 a4)]))))) (cond ((Z119.md a2 a3 y1 a4)==1) (cond (!((Z108.md (⟨s3.1,s3.2.1⟩:au) (y1.aU)).2==3)) (.inl ((Z108.md (⟨s3.1,s3.2.1⟩:au) (y1.aU)).1.aK,(Z108.md (⟨s3.1,s3.2.1⟩:au) (y1.aU)).1.bn,(s3.2.2++[3]))) (cond (Z123.md ((Z108.md (⟨s3.1,s3.2.1⟩:au) (y1.aU)).1) a2) (.inl ((Z108.md (⟨s3.1,s3.2.1⟩:au) (y1.aU)).1.aK,(Z108.md (⟨s3.1,s3.2.1⟩:au) (y1.aU)).1.bn,(s3.2.2++[3]))) (cond ((Z119.md a2 a3 y1 a4)==1) (.inr (⟨(Z108.md (⟨s3.1,s3.2.1⟩:au) (y1.aU)).1,y1.cw,(y1.aR),true,(s3.2.2++[(Z119.md a2 a3 y1 a4)])⟩:bT)) (.inl ((Z108.md (⟨s3.1,s3.2.1⟩:au) (y1.aU)).1.aK,(Z108.md (⟨s3.1,s3.2.1⟩:au) (y1.aU)).1.bn,(s3.2.2++[(Z119.md a2 a3 y1 a4)])))))) (cond ((Z119.md a2 a3 y1 a4)==1) (.inr (⟨(Z108.md (⟨s3.1,s3.2.1⟩:au) (y1.aU)).1,y1.cw,(y1.aR),true,(s3.2.2++[(Z119.md a2 a3 y1 a4)])⟩:bT)) (.inl ((Z108.md (⟨s3.1,s3.2.1⟩:au) (y1.aU)).1.aK,(Z108.md (⟨s3.1,s3.2.1⟩:au) (y1.aU)).1.bn,(s3.2.2++[(Z119.md a2 a3 y1 a4)]))))))) (cond ((Z119.md a2 a3 y1 a4)==1) (.inl (s3.1,s3.2.1,(s3.2.2++[3]))) (cond ((Z119.md a2 a3 y1 a4)==1) (.inr (⟨(⟨s3.1,s3.2.1⟩:au),y1.cw,(y1.aR),true,(s3.2.2++[(Z119.md a2 a3 y1 a4)])⟩:bT)) (.inl (s3.1,s3.2.1,(s3.2.2++[(Z119.md a2 a3 y1 a4)])))))) (cond ((Z119.md a2 a3 y1 a4)==1) (.inl (s3.1,s3.2.1,(s3.2.2++[3]))) (cond ((Z119.md a2 a3 y1 a4)==1) (.inr (⟨(⟨s3.1,s3.2.1⟩:au),y1.cw,(y1.aR),true,(s3.2.2++[(Z119.md a2 a3 y1 a4)])⟩:bT)) (.inl (s3.1,s3.2.1,(s3.2.2++[(Z119.md a2 a3 y1 a4)]))))))) (fun (s3:List (List aa)×List aC×List Int)=>(⟨(⟨s3.1,s3.2.1⟩:au),false,(⟨(⟨#[]⟩:aD),0,0,[]⟩:ah),false,s3.2.2⟩:bT)) a1 (a0.aK,a0.bn,[]))
def gd (a0:au)(a1:List az)(a2:Int)(a3:aD)(a4:Int):Prop:=(au.Sm (2^21) a0)/\(bM (2^21) (fun y:az=>az.Sm (2^21) y) a1)/\(a3.size<=(2^21))
def R:=RR (p5 gd) (u5 md)
def aj {a0 a1 a2 a3 a4}(h:gd a0 a1 a2 a3 a4):R ((au.r a0),(a1.map az.row),a2,a3,a4)=some (bT.r (md a0 a1 a2 a3 a4)):=aP (a:=(a0,a1,a2,a3,a4)) h
def aW:=CN [.agg rT,pL 132,pI,pS,pI] (.agg f169) RT.dec R
def bt (a0)(a1)(a2)(a3)(a4)(hg:gd a0 a1 a2 a3 a4):∃n,start (iter step n) (au.r a0) (a1.map az.row) a2 a3 a4=ret (bT.r (md a0 a1 a2 a3 a4)):=by
 obtain ⟨H0,H1,H3⟩:=hg
 unfold start md
 try simp only [SS]
 refine cx (Z46.aj H0) ?_
 try simp only [SS]
 have Bh2:a1.length<=maxLen:=(by
   have:=(H1).1
   try simp only [maxLen] at *
   omega)
 refine ex_eq (out:=(fun b:bT=>ret ((bT.r b):dx))) (eM (z:=az.zero)) ?_
 refine dP (p:=Pt.p0 (a1.map az.row) a2 a3 a4 0 false (⟨#[]⟩:aD) 0 0 false false (⟨#[]⟩:aD) 0 0 false (a0.aK.map (dO aa.row)) (a0.bn.map aC.row) ([].map bk)) fz ?_
 refine cm (pt:=fun (i1:Nat) (s3:List (List aa)×List aC×List Int)=>Pt.p0 (a1.map az.row) a2 a3 a4 (i1:Int) false (⟨#[]⟩:aD) 0 0 false false (⟨#[]⟩:aD) 0 0 false (s3.1.map (dO aa.row)) (s3.2.1.map aC.row) (s3.2.2.map bk)) (s:=((a0.aK,a0.bn,[]):List (List aa)×List aC×List Int)) (out:=(fun b:bT=>ret ((bT.r b):dx))) (fun (i1:Nat) (s3:List (List aa)×List aC×List Int)=>au.Sm (2^21) (⟨s3.1,s3.2.1⟩:au)/\s3.2.2.length<=i1) (fun J i1 s3 h2 hih2=>?_) (fun s3 hih2=>?_) ⟨H0,zero_le _⟩
 ·simp only [step,SS]
  have gr_:=hih2
  try simp only [LN] at gr_
  have bb_:=Bh2
  simp only [maxLen] at bb_
  have:=(H1).1
  refine bB.yes (by apply decide_eq_true;omega) ?_
  refine bB.yes aJ ?_
  refine bB.yes (aO h2) ?_
  refine cr (Z76.aj (bM.getD (z:=az.zero) H1 h2).1) ?_
  try simp only [SS]
  refine bB.bif (fun c4=>?_) (fun c4=>?_)
  ·refine bB.bif (fun c5=>?_) (fun c5=>?_)
   ·have dc5:=c5
    try simp only [DC] at dc5
    refine cr (Z108.aj (a0:=(⟨s3.1,s3.2.1⟩:au)) ⟨⟨hih2.1.1,hih2.1.2⟩,(bM.getD (z:=az.zero) H1 h2).1⟩) ?_
    try simp only [SS]
    refine cr (Z119.aj ⟨H3,(bM.getD (z:=az.zero) H1 h2)⟩) ?_
    refine bB.bif (fun c6=>?_) (fun c6=>?_)
    ·have dc6:=c6
     try simp only [DC] at dc6
     refine bB.bif (fun c7=>?_) (fun c7=>?_)
     ·have dc7:=c7
      try simp only [DC] at dc7
      refine cr (Z123.aj (a0:=(Z108.md (⟨s3.1,s3.2.1⟩:au) ((a1.getD i1 az.zero).aU)).1) (Z108.gw (a0:=(⟨s3.1,s3.2.1⟩:au)) (a1:=(a1.getD i1 az.zero).aU) ⟨⟨hih2.1.1,hih2.1.2⟩,(bM.getD (z:=az.zero) H1 h2).1⟩)) ?_
      refine bB.bif (fun c8=>?_) (fun c8=>?_)
      ·refine bB.yes lm ?_
       refine bB.inl (by first | exact ⟨hih2.1,iD hih2.2⟩ | exact ⟨Z108.gw ⟨hih2.1,(bM.getD H1 h2).1⟩,iD hih2.2⟩) ?_
       rw [aH h2 Bh2]
       all_goals exact fz
      ·refine bB.yes lm ?_
       refine bB.bif (fun c9=>?_) (fun c9=>?_)
       ·refine cr (Z95.aj (bM.getD (z:=az.zero) H1 h2).2.1) ?_
        try simp only [SS]
        refine bB.inr ?_
        all_goals exact fz
       ·refine bB.inl (by first | exact ⟨hih2.1,iD hih2.2⟩ | exact ⟨Z108.gw ⟨hih2.1,(bM.getD H1 h2).1⟩,iD hih2.2⟩) ?_
        rw [aH h2 Bh2]
        all_goals exact fz
     ·have dc7:=c7
      try simp only [DC] at dc7
      refine bB.yes lm ?_
      refine bB.bif (fun c10=>?_) (fun c10=>?_)
      ·refine cr (Z95.aj (bM.getD (z:=az.zero) H1 h2).2.1) ?_
       try simp only [SS]
       refine bB.inr ?_
       all_goals exact fz
      ·refine bB.inl (by first | exact ⟨hih2.1,iD hih2.2⟩ | exact ⟨Z108.gw ⟨hih2.1,(bM.getD H1 h2).1⟩,iD hih2.2⟩) ?_
       rw [aH h2 Bh2]
       all_goals exact fz
    ·have dc6:=c6
     try simp only [DC] at dc6
     refine bB.bif (fun c11=>?_) (fun c11=>?_)
     ·have dc11:=c11
      try simp only [DC] at dc11
      refine bB.bif (fun c12=>?_) (fun c12=>?_)
      ·have dc12:=c12
       try simp only [DC] at dc12
       refine cr (Z123.aj (a0:=(Z108.md (⟨s3.1,s3.2.1⟩:au) ((a1.getD i1 az.zero).aU)).1) (Z108.gw (a0:=(⟨s3.1,s3.2.1⟩:au)) (a1:=(a1.getD i1 az.zero).aU) ⟨⟨hih2.1.1,hih2.1.2⟩,(bM.getD (z:=az.zero) H1 h2).1⟩)) ?_
       refine bB.bif (fun c13=>?_) (fun c13=>?_)
       ·refine bB.yes lm ?_
        refine bB.inl (by first | exact ⟨hih2.1,iD hih2.2⟩ | exact ⟨Z108.gw ⟨hih2.1,(bM.getD H1 h2).1⟩,iD hih2.2⟩) ?_
        rw [aH h2 Bh2]
        all_goals exact fz
       ·refine bB.yes lm ?_
        refine bB.bif (fun c14=>?_) (fun c14=>?_)
        ·refine cr (Z95.aj (bM.getD (z:=az.zero) H1 h2).2.1) ?_
         try simp only [SS]
         refine bB.inr ?_
         all_goals exact fz
        ·refine bB.inl (by first | exact ⟨hih2.1,iD hih2.2⟩ | exact ⟨Z108.gw ⟨hih2.1,(bM.getD H1 h2).1⟩,iD hih2.2⟩) ?_
         rw [aH h2 Bh2]
         all_goals exact fz
      ·have dc12:=c12
       try simp only [DC] at dc12
       refine bB.yes lm ?_
       refine bB.bif (fun c15=>?_) (fun c15=>?_)
       ·refine cr (Z95.aj (bM.getD (z:=az.zero) H1 h2).2.1) ?_
        try simp only [SS]
        refine bB.inr ?_
        all_goals exact fz
       ·refine bB.inl (by first | exact ⟨hih2.1,iD hih2.2⟩ | exact ⟨Z108.gw ⟨hih2.1,(bM.getD H1 h2).1⟩,iD hih2.2⟩) ?_
        rw [aH h2 Bh2]
        all_goals exact fz
     ·have dc11:=c11
      try simp only [DC] at dc11
      refine bB.bif (fun c16=>?_) (fun c16=>?_)
      ·have dc16:=c16
       try simp only [DC] at dc16
       refine bB.bif (fun c17=>?_) (fun c17=>?_)
       ·have dc17:=c17
        try simp only [DC] at dc17
        refine bB.yes lm ?_
        refine bB.inl (by first | exact ⟨hih2.1,iD hih2.2⟩ | exact ⟨Z108.gw ⟨hih2.1,(bM.getD H1 h2).1⟩,iD hih2.2⟩) ?_
        rw [aH h2 Bh2]
        all_goals exact fz
       ·have dc17:=c17
        try simp only [DC] at dc17
        refine cr (Z123.aj (a0:=(Z108.md (⟨s3.1,s3.2.1⟩:au) ((a1.getD i1 az.zero).aU)).1) (Z108.gw (a0:=(⟨s3.1,s3.2.1⟩:au)) (a1:=(a1.getD i1 az.zero).aU) ⟨⟨hih2.1.1,hih2.1.2⟩,(bM.getD (z:=az.zero) H1 h2).1⟩)) ?_
        refine bB.bif (fun c18=>?_) (fun c18=>?_)
        ·refine bB.yes lm ?_
         refine bB.inl (by first | exact ⟨hih2.1,iD hih2.2⟩ | exact ⟨Z108.gw ⟨hih2.1,(bM.getD H1 h2).1⟩,iD hih2.2⟩) ?_
         rw [aH h2 Bh2]
         all_goals exact fz
        ·refine bB.yes lm ?_
         refine bB.bif (fun c19=>?_) (fun c19=>?_)
         ·refine cr (Z95.aj (bM.getD (z:=az.zero) H1 h2).2.1) ?_
          try simp only [SS]
          refine bB.inr ?_
          all_goals exact fz
         ·refine bB.inl (by first | exact ⟨hih2.1,iD hih2.2⟩ | exact ⟨Z108.gw ⟨hih2.1,(bM.getD H1 h2).1⟩,iD hih2.2⟩) ?_
          rw [aH h2 Bh2]
          all_goals exact fz
      ·have dc16:=c16
       try simp only [DC] at dc16
       refine bB.yes lm ?_
       refine bB.bif (fun c20=>?_) (fun c20=>?_)
       ·refine cr (Z95.aj (bM.getD (z:=az.zero) H1 h2).2.1) ?_
        try simp only [SS]
        refine bB.inr ?_
        all_goals exact fz
       ·refine bB.inl (by first | exact ⟨hih2.1,iD hih2.2⟩ | exact ⟨Z108.gw ⟨hih2.1,(bM.getD H1 h2).1⟩,iD hih2.2⟩) ?_
        rw [aH h2 Bh2]
        all_goals exact fz
   ·have dc5:=c5
    try simp only [DC] at dc5
    refine cr (Z119.aj ⟨H3,(bM.getD (z:=az.zero) H1 h2)⟩) ?_
    refine bB.bif (fun c21=>?_) (fun c21=>?_)
    ·have dc21:=c21
     try simp only [DC] at dc21
     refine bB.yes lm ?_
     refine bB.inl (by first | exact ⟨hih2.1,iD hih2.2⟩ | exact ⟨Z108.gw ⟨hih2.1,(bM.getD H1 h2).1⟩,iD hih2.2⟩) ?_
     rw [aH h2 Bh2]
     all_goals exact fz
    ·have dc21:=c21
     try simp only [DC] at dc21
     refine bB.yes lm ?_
     refine bB.bif (fun c22=>?_) (fun c22=>?_)
     ·refine cr (Z95.aj (bM.getD (z:=az.zero) H1 h2).2.1) ?_
      try simp only [SS]
      refine bB.inr ?_
      all_goals exact fz
     ·refine bB.inl (by first | exact ⟨hih2.1,iD hih2.2⟩ | exact ⟨Z108.gw ⟨hih2.1,(bM.getD H1 h2).1⟩,iD hih2.2⟩) ?_
      rw [aH h2 Bh2]
      all_goals exact fz
  ·refine cr (Z119.aj ⟨H3,(bM.getD (z:=az.zero) H1 h2)⟩) ?_
   refine bB.bif (fun c23=>?_) (fun c23=>?_)
   ·have dc23:=c23
    try simp only [DC] at dc23
    refine bB.yes lm ?_
    refine bB.inl (by first | exact ⟨hih2.1,iD hih2.2⟩ | exact ⟨Z108.gw ⟨hih2.1,(bM.getD H1 h2).1⟩,iD hih2.2⟩) ?_
    rw [aH h2 Bh2]
    all_goals exact fz
   ·have dc23:=c23
    try simp only [DC] at dc23
    refine bB.yes lm ?_
    refine bB.bif (fun c24=>?_) (fun c24=>?_)
    ·refine cr (Z95.aj (bM.getD (z:=az.zero) H1 h2).2.1) ?_
     try simp only [SS]
     refine bB.inr ?_
     all_goals exact fz
    ·refine bB.inl (by first | exact ⟨hih2.1,iD hih2.2⟩ | exact ⟨Z108.gw ⟨hih2.1,(bM.getD H1 h2).1⟩,iD hih2.2⟩) ?_
     rw [aH h2 Bh2]
     all_goals exact fz
 ·simp only [step,SS]
  have gr_:=hih2
  try simp only [LN] at gr_
  have:=(H1).1
  refine dF (by apply decide_eq_false;omega) ?_
  refine ⟨0,?_⟩
  all_goals exact fz
def af:cz 120 aW:=L5 99 pid ck cj live step start mix aF bt (.cons Z46.af (.cons Z76.af (.cons Z108.af (.cons Z119.af (.cons Z123.af (.cons Z95.af .nil)))))) Tryz.func120
def nK (z:Int)(l:aD)(now:Int)(y:az)(k:au):au×Int:=
 let kn:=bif (Z76.md y.aU).2&&((Z76.md y.aU).1.bC==z) then Z108.md k y.aU else (k,6)
 (kn.1,bif (Z119.md z l y now==1)&&!((kn.2==1||(kn.2==2||kn.2==3))&&!Z123.md kn.1 z) then 3 else Z119.md z l y now)
def tN (z:Int)(l:aD)(now:Int)(y:az)(s:List (List aa)×List aC×List Int):List (List aa)×List aC×List Int⊕bT:=
 bif (nK z l now y ⟨s.1,s.2.1⟩).2==1 then .inr ⟨(nK z l now y ⟨s.1,s.2.1⟩).1,y.cw,y.aR,true,s.2.2++[(nK z l now y ⟨s.1,s.2.1⟩).2]⟩
 else .inl ((nK z l now y ⟨s.1,s.2.1⟩).1.aK,(nK z l now y ⟨s.1,s.2.1⟩).1.bn,s.2.2++[(nK z l now y ⟨s.1,s.2.1⟩).2])
def fin (s:List (List aa)×List aC×List Int):bT:=⟨⟨s.1,s.2.1⟩,false,⟨⟨#[]⟩,0,0,[]⟩,false,s.2.2⟩
def qI (a0:au)(a1:List az)(a2:Int)(a3:aD)(a4:Int):md a0 a1 a2 a3 a4=ep (tN a2 a3 a4) fin a1 (a0.aK,a0.bn,[]):=by
 unfold md
 refine pM (fun y _ s=>?_) (fun s=>rfl)
 have h31:((3:Int)==1)=false:=rfl
 have h61:((6:Int)==1)=false:=rfl
 have h62:((6:Int)==2)=false:=rfl
 have h63:((6:Int)==3)=false:=rfl
 unfold tN nK
 cases g1:(Z76.md y.aU).2
 ·cases g2:(Z119.md a2 a3 y a4==1)<;>simp [g2,h31,h61,h62,h63]
 cases g3:((Z76.md y.aU).1.bC==a2)
 ·cases g2:(Z119.md a2 a3 y a4==1)<;>simp [g2,h31,h61,h62,h63]
 generalize Z108.md (⟨s.1,s.2.1⟩:au) y.aU=r
 cases g2:(Z119.md a2 a3 y a4==1)<;>cases g4:(r.2==1)<;>cases g5:(r.2==2)<;>cases g6:(r.2==3)<;>cases g7:Z123.md r.1 a2<;>simp [g2,g4,g5,g6,g7,h31]
def yV (z:Int)(l:aD)(now:Int)(y:az)(k:au):Z108.Cz (nK z l now y k).1.aK<=Z108.Cz k.aK+(az.size y+1)/\
  Z108.Fz (nK z l now y k).1.bn<=Z108.Fz k.bn+(2*Z108.Cz k.aK+az.size y+1):=by
 have h:=Z108.grow k y.aU
 have hs:dU (fun y:aa=>aa.size y) y.aU<=az.size y:=by unfold az.size;omega
 unfold nK
 cases (Z76.md y.aU).2&&((Z76.md y.aU).1.bC==z)
 ·simp only [bq];omega
 ·simp only [bh];omega
def xY {α:Type}(f:α->Nat)(x:α)(xs:List α):dU f (x::xs)=dU f xs+(f x+1):=by simp [dU];omega
def grow (z:Int)(l:aD)(now:Int):∀(xs:List az) (s:List (List aa)×List aC×List Int),
  Z108.Cz (ep (tN z l now) fin xs s).bZ.aK<=Z108.Cz s.1+dU (fun y:az=>az.size y) xs/\
  Z108.Fz (ep (tN z l now) fin xs s).bZ.bn<=Z108.Fz s.2.1+xs.length*(2*(Z108.Cz s.1+dU (fun y:az=>az.size y) xs)+dU (fun y:az=>az.size y) xs)/\
  (ep (tN z l now) fin xs s).kQ.length<=s.2.2.length+xs.length/\ah.size (ep (tN z l now) fin xs s).aR<=dU (fun y:az=>az.size y) xs
 | [],s=>⟨Nat.le_add_right _ _,Nat.le_add_right _ _,Nat.le_refl _,zero_le _⟩
 | y::xs,s=>by
  have hg:=yV z l now y ⟨s.1,s.2.1⟩
  have hy:ah.size y.aR<=az.size y:=by unfold az.size;omega
  rw [xY]
  unfold ep
  cases hb:(nK z l now y ⟨s.1,s.2.1⟩).2==1
  ·have e:tN z l now y s=.inl ((nK z l now y ⟨s.1,s.2.1⟩).1.aK,(nK z l now y ⟨s.1,s.2.1⟩).1.bn,s.2.2++[(nK z l now y ⟨s.1,s.2.1⟩).2]):=by unfold tN;rw [hb];rfl
   rw [e]
   obtain ⟨h1,h2,h3,h4⟩:=grow z l now xs ((nK z l now y ⟨s.1,s.2.1⟩).1.aK,(nK z l now y ⟨s.1,s.2.1⟩).1.bn,s.2.2++[(nK z l now y ⟨s.1,s.2.1⟩).2])
   simp only at h1 h2 h3 h4 hg ⊢
   generalize dU (fun y:az=>az.size y) xs=w at *
   generalize az.size y=q at *
   generalize Z108.Cz (nK z l now y ⟨s.1,s.2.1⟩).1.aK=c1 at *
   generalize Z108.Cz s.1=c0 at *
   have hm:xs.length*(2*(c1+w)+w)<=xs.length*(2*(c0+(w+(q+1)))+(w+(q+1))):=Nat.mul_le_mul_left _ (by omega)
   rw [List.length_cons,Nat.succ_mul]
   rw [List.length_append] at h3
   refine ⟨by omega,by omega,by simp only [List.length_cons,List.length_nil] at h3;omega,by omega⟩
  ·have e:tN z l now y s=.inr ⟨(nK z l now y ⟨s.1,s.2.1⟩).1,y.cw,y.aR,true,s.2.2++[(nK z l now y ⟨s.1,s.2.1⟩).2]⟩:=by unfold tN;rw [hb];rfl
   rw [e]
   simp only at hg ⊢
   generalize dU (fun y:az=>az.size y) xs=w at *
   generalize az.size y=q at *
   generalize Z108.Cz s.1=c0 at *
   rw [List.length_cons,Nat.succ_mul,List.length_append]
   refine ⟨by omega,by omega,by simp only [List.length_cons,List.length_nil];omega,by omega⟩
def AR {z:Int}{l:aD}{now:Int}{y:az}{k:au}(hk:au.Sm (2^21) k)(hy:az.Sm (2^21) y):au.Sm (2^21) (nK z l now y k).1:=by
 unfold nK
 cases (Z76.md y.aU).2&&((Z76.md y.aU).1.bC==z)
 ·exact hk
 ·exact Z108.gw ⟨hk,hy.1⟩
def vm {z:Int}{l:aD}{now:Int}:∀(xs:List az) (s:List (List aa)×List aC×List Int),au.Sm (2^21) ⟨s.1,s.2.1⟩->(∀y∈xs,az.Sm (2^21) y)->s.2.2.length+xs.length<=2^21->bT.Sm (2^21) (ep (tN z l now) fin xs s)
 | [],s,hk,_,hc=>⟨hk,⟨zero_le _,bM.nil⟩,hc,fun _ _=>trivial⟩
 | y::xs,s,hk,hx,hc=>by
  have hy:=hx y (by simp)
  have he:=AR (z:=z) (l:=l) (now:=now) hk hy
  simp only [List.length_cons] at hc
  unfold ep
  cases hb:(nK z l now y ⟨s.1,s.2.1⟩).2==1
  ·have e:tN z l now y s=.inl ((nK z l now y ⟨s.1,s.2.1⟩).1.aK,(nK z l now y ⟨s.1,s.2.1⟩).1.bn,s.2.2++[(nK z l now y ⟨s.1,s.2.1⟩).2]):=by unfold tN;rw [hb];rfl
   rw [e]
   exact vm xs _ he (fun y hy=>hx y (by simp [hy])) (by simp only [List.length_append,List.length_cons,List.length_nil];omega)
  ·have e:tN z l now y s=.inr ⟨(nK z l now y ⟨s.1,s.2.1⟩).1,y.cw,y.aR,true,s.2.2++[(nK z l now y ⟨s.1,s.2.1⟩).2]⟩:=by unfold tN;rw [hb];rfl
   rw [e]
   exact ⟨he,hy.2.1,by simp only [List.length_append,List.length_cons,List.length_nil];omega,fun _ _=>trivial⟩
def gw {a0:au}{a1:List az}{a2:Int}{a3:aD}{a4:Int}(hg:gd a0 a1 a2 a3 a4):bT.Sm (2^21) (md a0 a1 a2 a3 a4):=by
 unfold gd at hg
 rw [qI]
 exact vm a1 _ hg.1 hg.2.1.2 (by have:=hg.2.1.1;simp only [List.length_nil];omega)
end Z124
namespace Z125
def F (x0:dx):aI:=(cond (!x0.kr) (ret (((⟨(⟨#[]⟩:aD),0,0,[]⟩:aV),false):aV×Bool)) (cond (!x0.cw) (ret (((⟨(⟨#[]⟩:aD),0,0,[]⟩:aV),false):aV×Bool)) (call (Z95.R x0.aR) fun v1=>ret ((v1,true):aV×Bool))))
def md (a0:bT):ah×Bool:=(cond (!a0.kr) ((⟨((⟨#[]⟩:aD):aD),0,0,[]⟩:ah),false) (cond (!a0.cw) ((⟨((⟨#[]⟩:aD):aD),0,0,[]⟩:ah),false) (a0.aR,true)))
def gd (a0:bT):Prop:=(bT.Sm (2^21) a0)
def R:=RR gd md
def aj {a0}(h:gd a0):R (bT.r a0)=some ((ah.r (md a0).1),(md a0).2):=aP (a:=a0) h
def aW:=CN [.agg Ai] (.iQ [(true,f61),(false,[fB])]) RT.dec R
def bt (a0)(hg:gd a0):F (bT.r a0)=ret ((ah.r (md a0).1),(md a0).2):=by
 unfold gd at hg
 have H0:=hg
 unfold F md
 try simp only [SS]
 refine av (fun b:ah×Bool=>ret (((ah.r b.1),b.2):aV×Bool)) (fun c1=>?_) (fun c1=>?_)
 ·all_goals exact fz
 ·refine av (fun b:ah×Bool=>ret (((ah.r b.1),b.2):aV×Bool)) (fun c2=>?_) (fun c2=>?_)
  ·all_goals exact fz
  ·refine ct (Z95.aj H0.2.1) ?_
   try simp only [SS]
   all_goals exact fz
def af:cz 211 aW:=W1 16 F mix aF bt (.cons Z95.af .nil) Tryz.func211
end Z125
namespace Z126
def F (x0:dx):aI:=(cond x0.kr (ret ((!x0.cw):Bool)) bz)
def md (a0:bT):Bool:=(cond a0.kr ((!a0.cw):Bool) (false:Bool))
def gd (a0:bT):Prop:=True
def R:=RR gd md
def aj {a0}(h:gd a0):R (bT.r a0)=some (md a0):=aP (a:=a0) h
def aW:=CN [.agg Ai] oB RT.dec R
def bt (a0)(hg:gd a0):F (bT.r a0)=ret (md a0):=by
 unfold F md
 try simp only [SS]
 refine av ret (fun c1=>?_) (fun _=>rfl)
 all_goals exact fz
def af:cz 212 aW:=W1 10 F mix aF bt .nil Tryz.func212
end Z126
namespace Z127
inductive Pt where
 | p0 (a:aE) (b c:Int) (d:aE) (e:Int) (f:aD) (g h i j:Int) (k:aD) (l m n:Int) (o p q:aE)
def pid:Pt->Nat
 | .p0 ..=>6
def ck:Pt->List V
 | .p0 a b c d e f g h i j k l m n o p q=>[.sl none 227 a,.int .i64 b,.dz 0 0,.dz 1 0,.int .i64 c,.sl none 9 d,.dz 1 0]
def cj:Pt->List aY
 | .p0 a b c d e f g h i j k l m n o p q=>[.box [.nil,.nil,.int .i64 e,.str f,.int .i64 g,.int .i64 h,.nil,.nil,.int .i64 i],.box [.own 2,.own 3,.int .i64 j,.str k,.int .i64 l,.int .i64 m,.nil,.own 4,.int .i64 n],.row 92 o,.row 280 p,.row 3 q]
def step (J:Pt->aI):Pt->aI
 | .p0 a b c d e f g h i j k l m n o p q=>(cq (ff (((q.length:Int)+1)*8)) (cq (decide ((0:Int)<(d.length:Int))) (call (Z102.R (a,c,(qi d 0))) fun v1=>(cq (decide ((0:Int)<(d.length:Int))) (call (Z124.R ((⟨o,p⟩:bw),v1,c,(qi d 0),b)) fun v2=>(call (Z125.R v2) fun v3=>(call (Z126.R v2) fun v4=>(cond v4 (ret ((⟨v2.bZ,2,(⟨k,l,m,[]⟩:aV),(q++[[L.int c]]),n⟩:cS):cS)) (cond (!v3.2) (ret ((⟨v2.bZ,3,(⟨k,l,m,[]⟩:aV),(q++[[L.int c]]),n⟩:cS):cS)) (cond (v3.1.bI==3) (call (Z50.R v3.1.bH) fun v5=>(cq (decide ((1:Int)<=(d.length:Int))) (cq (decide ((d.length:Int)<=(d.length:Int))) (cq (ff (((v5.length:Int)+((List.take (toNat ((d.length:Int) - 1)) (List.drop 1 d)).length:Int))*16)) (cond (decide (n>=3)) (ret ((⟨v2.bZ,5,(⟨k,l,m,[]⟩:aV),(q++[[L.int c]]),n⟩:cS):cS)) (call (Z49.R (v5++(List.take (toNat ((d.length:Int) - 1)) (List.drop 1 d)))) fun v6=>(cond (!v6) (ret ((⟨v2.bZ,5,(⟨k,l,m,[]⟩:aV),(q++[[L.int c]]),n⟩:cS):cS)) (J (.p0 a b v3.1.bX (v5++(List.take (toNat ((d.length:Int) - 1)) (List.drop 1 d))) e f g h i j k l m (i64.wrap (n+1)) v2.bZ.aK v2.bZ.bn (q++[[L.int c]])))))))))) (cond ((d.length:Int)==1) (ret ((⟨v2.bZ,1,v3.1,(q++[[L.int c]]),n⟩:cS):cS)) (cond (v3.1.bI != 2) (ret ((⟨v2.bZ,4,(⟨k,l,m,[]⟩:aV),(q++[[L.int c]]),n⟩:cS):cS)) (cq (decide ((1:Int)<=(d.length:Int))) (cq (decide ((d.length:Int)<=(d.length:Int))) (J (.p0 a b v3.1.bX (List.take (toNat ((d.length:Int) - 1)) (List.drop 1 d)) e f g h i j k l m n v2.bZ.aK v2.bZ.bn (q++[[L.int c]])))))))))))))))))
def start (J:Pt->aI)(x0:bw)(x1:aE)(x2:Int)(x3:aE)(x4:Int):aI:=(call (Z46.R x0) fun v1=>(call (Z49.R x3) fun v2=>(cond (!v2) (ret ((⟨v1,6,(⟨(⟨#[]⟩:aD),0,0,[]⟩:aV),[],0⟩:cS):cS)) (call (Z50.R x3) fun v3=>J (.p0 x1 x4 x2 v3 0 ⟨#[]⟩ 0 0 0 6 ⟨#[]⟩ 0 0 0 v1.aK v1.bn [])))))
def live:Nat->Live:=fun i=>match i with | 6=>[(1,none),(4,none),(10,none),(11,none),(12,none),(13,some 1099511627785),(11,some 7340035)] | _=>[]
def nx (l:bT)(mv:Int)(p:List aD):(Int×ah)⊕(Int×Int×List aD):=
 bif !l.kr then .inl (3,⟨⟨#[]⟩,0,0,[]⟩) else bif !l.cw then .inl (2,⟨⟨#[]⟩,0,0,[]⟩)
 else bif l.aR.bI==3 then (cond (decide (mv>=3)) (.inl (5,⟨⟨#[]⟩,0,0,[]⟩)) (bif !Z49.md (l.aR.bH++p.tail) then .inl (5,⟨⟨#[]⟩,0,0,[]⟩) else .inr (mv+1,l.aR.bX,l.aR.bH++p.tail)))
 else bif (p.tail.length:Int)==0 then .inl (1,l.aR) else bif l.aR.bI==2 then .inr (mv,l.aR.bX,p.tail) else .inl (4,⟨⟨#[]⟩,0,0,[]⟩)
def rs {σ:Type}(look:σ->au->Int->aD->bT×σ):Nat->σ->au->List Int->Int->Int->List aD->bu×σ
 | 0,c,k,zs,mv,_,_=>(⟨k,0,⟨⟨#[]⟩,0,0,[]⟩,zs,mv⟩,c)
 | n+1,c,k,zs,mv,z,p=>match nx (look c k z (p.getD 0 ⟨#[]⟩)).1 mv p with
  | .inl q=>(⟨(look c k z (p.getD 0 ⟨#[]⟩)).1.bZ,q.1,q.2,zs++[z],mv⟩,(look c k z (p.getD 0 ⟨#[]⟩)).2)
  | .inr q=>rs look n (look c k z (p.getD 0 ⟨#[]⟩)).2 (look c k z (p.getD 0 ⟨#[]⟩)).1.bZ (zs++[z]) q.1 q.2.1 q.2.2
def lk (s:List ay)(now:Int)(_:Unit)(k:au)(z:Int)(l:aD):bT×Unit:=(Z124.md k (Z102.md s z l) z l now,())
def vP {σ:Type}{look:σ->au->Int->aD->bT×σ}{n:Nat}{c:σ}{k:au}{zs:List Int}{mv z:Int}{p:List aD}{q:Int×ah}(h:nx (look c k z (p.getD 0 ⟨#[]⟩)).1 mv p=.inl q) :
  rs look (n+1) c k zs mv z p=(⟨(look c k z (p.getD 0 ⟨#[]⟩)).1.bZ,q.1,q.2,zs++[z],mv⟩,(look c k z (p.getD 0 ⟨#[]⟩)).2):=by
 show (match nx (look c k z (p.getD 0 ⟨#[]⟩)).1 mv p with | .inl q=>_ | .inr q=>_)=_
 rw [h]
def vu {σ:Type}{look:σ->au->Int->aD->bT×σ}{n:Nat}{c:σ}{k:au}{zs:List Int}{mv z:Int}{p:List aD}{q:Int×Int×List aD}(h:nx (look c k z (p.getD 0 ⟨#[]⟩)).1 mv p=.inr q) :
  rs look (n+1) c k zs mv z p=rs look n (look c k z (p.getD 0 ⟨#[]⟩)).2 (look c k z (p.getD 0 ⟨#[]⟩)).1.bZ (zs++[z]) q.1 q.2.1 q.2.2:=by
 show (match nx (look c k z (p.getD 0 ⟨#[]⟩)).1 mv p with | .inl q=>_ | .inr q=>_)=_
 rw [h]
def wJ {Pt:Type}{step:(Pt->aI)->Pt->aI}{p:Pt}{r:aI}(h:∃m,step (iter step m) p=r):∃m,iter step m p=r:=h.elim fun m h=>⟨m+1,h⟩
def md (a0:au)(a1:List ay)(a2:Int)(a3:List aD)(a4:Int):bu:=(cond (!Z49.md a3) ⟨a0,6,⟨⟨#[]⟩,0,0,[]⟩,[],0⟩ ((rs (lk a1 a4) 17 () a0 [] 0 a2 a3).1))
def gd (a0:au)(a1:List ay)(a2:Int)(a3:List aD)(a4:Int):Prop:=(au.Sm (2^21) a0)/\(bM (2^21) (fun y:ay=>ay.Sm (2^21) y) a1)/\(bM (2^21) (fun y:aD=>y.size<=(2^21)) a3)
def R:=RR (p5 gd) (u5 md)
def aj {a0 a1 a2 a3 a4}(h:gd a0 a1 a2 a3 a4):R ((au.r a0),(a1.map ay.row),a2,(a3.map cG),a4)=some (bu.r (md a0 a1 a2 a3 a4)):=aP (a:=(a0,a1,a2,a3,a4)) h
def aW:=CN [.agg rT,pL 227,pI,pL 9,pI] (.agg f64) RT.dec R
def bt (a0)(a1)(a2)(a3)(a4)(hg:gd a0 a1 a2 a3 a4):∃n,start (iter step n) (au.r a0) (a1.map ay.row) a2 (a3.map cG) a4=ret (bu.r (md a0 a1 a2 a3 a4)):=by
 obtain ⟨H0,H1,H3⟩:=hg
 have key:∀(n:Nat) (k:au) (zs:List Int) (mv z:Int) (p:List aD),au.Sm (2^21) k->Z49.md p=true->0<=mv->mv<=3->(3 - mv)*4+(p.length:Int)<=n->zs.length+n<=100->
   ∃m,iter step m (Pt.p0 (a1.map ay.row) a4 z (p.map cG) 0 ⟨#[]⟩ 0 0 0 6 ⟨#[]⟩ 0 0 mv (k.aK.map (dO aa.row)) (k.bn.map aC.row) (zs.map bk))=ret (bu.r (rs (lk a1 a4) n () k zs mv z p).1):=by
  intro n
  induction n with
  | zero=>intro k zs mv z p _ hp _ _ hm _;have:=(Z49.tr hp).1;omega
  | succ n ih=>
   intro k zs mv z p hk hp h0 h3 hm hz
   obtain ⟨⟨p1,p4⟩,p8⟩:=Z49.tr hp
   obtain ⟨x,xs,rfl⟩:∃x xs,p=x::xs:=by
    cases p with
    | nil=>simp at p1
    | cons x xs=>exact ⟨x,xs,rfl⟩
   have hx:x.size<=2^21:=le_trans (p8 x (by simp)) (by decide)
   have hxs:∀y∈xs,y.size<=2^22:=fun y hy=>le_trans (p8 y (by simp [hy])) (by decide)
   have hask:=Z102.gw (a0:=a1) (a1:=z) (a2:=x) ⟨H1,hx⟩
   have hlk:=Z124.gw (a0:=k) (a1:=Z102.md a1 z x) (a2:=z) (a3:=x) (a4:=a4) ⟨hk,hask,hx⟩
   have hat:qi ((x::xs).map cG) 0=x:=rfl
   have hg0:(x::xs).getD 0 ⟨#[]⟩=x:=rfl
   have ht:List.take (toNat (((xs.length+1:Nat):Int) - 1)) (List.drop 1 ((x::xs).map cG))=xs.map cG:=by
    simp only [List.map_cons,List.drop_succ_cons,List.drop_zero]
    exact List.take_of_length_le (by simp)
   have hkn:(lk a1 a4 () k z ((x::xs).getD 0 ⟨#[]⟩)).1=Z124.md k (Z102.md a1 z x) z x a4:=rfl
   simp only [List.length_cons] at p4 hm
   refine wJ ?_
   simp only [step,hat,List.length_map,List.length_cons,ht]
   refine dN lm ?_
   refine dN dt ?_
   refine cx (Z102.aj (a0:=a1) ⟨H1,hx⟩) ?_
   refine dN dt ?_
   refine cx (Z124.aj (a0:=k) (a1:=Z102.md a1 z x) ⟨hk,hask,hx⟩) ?_
   have hcase:∀q,nx (Z124.md k (Z102.md a1 z x) z x a4) mv (x::xs)=.inl q->rs (lk a1 a4) (n+1) () k zs mv z (x::xs)=(⟨(Z124.md k (Z102.md a1 z x) z x a4).bZ,q.1,q.2,zs++[z],mv⟩,()):=fun q hq=>vP hq
   have hcase2:∀q,nx (Z124.md k (Z102.md a1 z x) z x a4) mv (x::xs)=.inr q->rs (lk a1 a4) (n+1) () k zs mv z (x::xs)=rs (lk a1 a4) n () (Z124.md k (Z102.md a1 z x) z x a4).bZ (zs++[z]) q.1 q.2.1 q.2.2:=fun q hq=>vu hq
   revert hcase hcase2 hlk
   generalize Z124.md k (Z102.md a1 z x) z x a4=l
   intro hlk hcase hcase2
   refine cx (Z125.aj (a0:=l) hlk) ?_
   refine cx (Z126.aj (a0:=l) trivial) ?_
   obtain ⟨lk0,lf,le,ld,lc⟩:=l
   unfold nx at hcase hcase2
   unfold Z126.md Z125.md
   cases ld
   ·exact ⟨0,by rw [hcase _ rfl];exact fz⟩
   cases lf
   ·exact ⟨0,by rw [hcase _ rfl];exact fz⟩
   simp only [Bool.not_true,bq,bh,List.tail_cons] at hcase hcase2 ⊢
   have hpl:bM (2^21) (fun y:aD=>y.size<=(2^21)) le.bH:=hlk.2.1.2
   have hpl1:le.bH.length<=2^21:=hpl.1
   have hzz:zs.map bk++[[L.int z]]=(zs++[z]).map bk:=by simp [bk]
   try simp only [SS]
   cases hk3:(le.bI==3)
   ·simp only [hk3,bq] at hcase hcase2 ⊢
    by_cases hx0:xs.length=0
    ·have e0:((xs.length:Int)==0)=true:=by simp [hx0]
     rw [e0] at hcase
     exact ⟨0,by rw [hcase _ rfl];exact ak (beq_iff_eq.2 (by omega)) fz⟩
    ·have e0:((xs.length:Int)==0)=false:=by simpa using hx0
     rw [e0] at hcase hcase2
     refine dF (beq_eq_false_iff_ne.2 (by omega)) ?_
     cases hk2:(le.bI==2)
     ·simp only [hk2,bq] at hcase
      exact ⟨0,by rw [hcase _ rfl];exact ak (by simpa using hk2) fz⟩
     ·simp only [hk2,bq,bh] at hcase2
      refine dF (by simpa using hk2) (dN dt (dN dt ?_))
      have hip:Z49.md xs=true:=Z49.tl hp hx0
      rw [hcase2 _ rfl,hzz]
      exact ih lk0 (zs++[z]) mv le.bX xs hlk.1 hip h0 h3 (by omega) (by simp;omega)
   ·simp only [hk3,bh] at hcase hcase2 ⊢
    refine cx (Z50.aj (a0:=le.bH) hpl) ?_
    refine dN dt (dN dt (dN (by have :(le.bH.map cG).length=le.bH.length:=List.length_map ..;have :(xs.map cG).length=xs.length:=List.length_map ..;exact iP (by omega)) ?_))
    by_cases hmv:mv>=3
    ·rw [decide_eq_true hmv] at hcase ⊢
     exact ⟨0,by rw [hcase _ rfl];exact fz⟩
    ·rw [decide_eq_false hmv] at hcase hcase2 ⊢
     simp only [bq] at hcase hcase2 ⊢
     have e:le.bH.map cG++xs.map cG=(le.bH++xs).map cG:=by simp
     rw [e]
     refine cx (Z49.aj (a0:=le.bH++xs) ⟨by rw [List.length_append];omega,fun y hy=>(List.mem_append.1 hy).elim (fun h=>le_trans (hpl.2 y h) (by decide)) (hxs y)⟩) ?_
     cases hip:Z49.md (le.bH++xs)
     ·rw [hip] at hcase
      exact ⟨0,by rw [hcase _ rfl];exact fz⟩
     ·rw [hip] at hcase2
      have ht:=Z49.tr hip
      rw [hcase2 _ rfl,hzz,wi _ (by omega)]
      exact ih lk0 (zs++[z]) (mv+1) le.bX (le.bH++xs) hlk.1 hip (by omega) (by omega) (by omega) (by simp;omega)
 unfold start md
 refine cx (Z46.aj (a0:=a0) H0) ?_
 refine cx (Z49.aj (a0:=a3) (bM.mono H3 (by decide) (fun y hy=>le_trans hy (by decide)))) ?_
 cases hp:Z49.md a3
 ·exact ⟨0,rfl⟩
 ·simp only [Bool.not_true,bq]
  refine cx (Z50.aj (a0:=a3) H3) ?_
  exact key 17 a0 [] 0 a2 a3 H0 hp (by decide) (by decide) (by have:=(Z49.tr hp).1;omega) (by simp)
def af:cz 129 aW:=L5 109 pid ck cj live step start mix aF bt (.cons Z46.af (.cons Z49.af (.cons Z50.af (.cons Z102.af (.cons Z124.af (.cons Z125.af (.cons Z126.af .nil))))))) Tryz.func129
def Ad {σ:Type}{look:σ->au->Int->aD->bT×σ}{A B:Nat}(I:σ->Prop)(hI:∀c k z s,I c->I (look c k z s).2)(hl:∀c k z s,I c->Z108.Cz (look c k z s).1.bZ.aK<=Z108.Cz k.aK+A/\Z108.Fz (look c k z s).1.bZ.bn<=Z108.Fz k.bn+4*(2*(Z108.Cz k.aK+A)+A)/\ah.size (look c k z s).1.aR<=A) :
  ∀(n:Nat) (c:σ) (k:au) (zs:List Int) (mv z:Int) (p:List aD),I c->Z108.Cz k.aK+n*A<=B->
   Z108.Cz (rs look n c k zs mv z p).1.bZ.aK<=B/\Z108.Fz (rs look n c k zs mv z p).1.bZ.bn<=Z108.Fz k.bn+n*(8*B+12*A)/\ah.size (rs look n c k zs mv z p).1.aR<=A/\(rs look n c k zs mv z p).1.bJ.length<=zs.length+n/\I (rs look n c k zs mv z p).2
 | 0,c,k,zs,mv,z,p,hi,hb=>⟨by show Z108.Cz k.aK<=B;omega,Nat.le_add_right _ _,zero_le _,Nat.le_refl _,hi⟩
 | n+1,c,k,zs,mv,z,p,hi,hb=>by
  obtain ⟨h1,h2,h3⟩:=hl c k z (p.getD 0 ⟨#[]⟩) hi
  have hi2:=hI c k z (p.getD 0 ⟨#[]⟩) hi
  rw [Nat.succ_mul] at hb
  cases hn:nx (look c k z (p.getD 0 ⟨#[]⟩)).1 mv p with
  | inl q=>
   rw [vP hn]
   have hq:ah.size q.2<=A:=by
    have e0:ah.size ⟨⟨#[]⟩,0,0,[]⟩=0:=rfl
    unfold nx at hn
    simp only [Bool.cond_eq_ite] at hn
    revert hn
    repeat' split
    all_goals (intro hn;first | (cases hn;done) | (injection hn with hn;subst hn;first | exact h3 | exact zero_le _))
   refine ⟨by simp only;omega,?_,hq,by simp,hi2⟩
   simp only
   rw [Nat.succ_mul]
   omega
  | inr q=>
   rw [vu hn]
   obtain ⟨g1,g2,g3,g4,g5⟩:=Ad (A:=A) (B:=B) I hI hl n (look c k z (p.getD 0 ⟨#[]⟩)).2 (look c k z (p.getD 0 ⟨#[]⟩)).1.bZ (zs++[z]) q.1 q.2.1 q.2.2 hi2 (by omega)
   rw [List.length_append,List.length_cons,List.length_nil] at g4
   refine ⟨g1,?_,g3,by omega,g5⟩
   rw [Nat.succ_mul]
   omega
def Bb (s:List ay)(now:Int)(k:au)(z:Int)(l:aD){A:Nat}(hA:6*dU (fun y:ay=>ay.size y) s<=A) :
  Z108.Cz (lk s now () k z l).1.bZ.aK<=Z108.Cz k.aK+A/\Z108.Fz (lk s now () k z l).1.bZ.bn<=Z108.Fz k.bn+4*(2*(Z108.Cz k.aK+A)+A)/\ah.size (lk s now () k z l).1.aR<=A:=by
 have hg:=Z124.grow z l now (Z102.md s z l) (k.aK,k.bn,[])
 rw [<-Z124.qI] at hg
 obtain ⟨g1,g2,_,g4⟩:=hg
 have h1:=Z102.sz s z l
 have h2:=Z102.BM s z l
 simp only at g1 g2
 have h3:=Nat.mul_le_mul_right (2*(Z108.Cz k.aK+dU (fun y:az=>az.size y) (Z102.md s z l))+dU (fun y:az=>az.size y) (Z102.md s z l)) h2
 unfold lk
 refine ⟨by simp only;omega,by simp only;omega,by simp only;omega⟩
def sz (a0:au)(a1:List ay)(a2:Int)(a3:List aD)(a4:Int)(h0:au.size a0<=2^20)(h1:dU (fun y:ay=>ay.size y) a1<=2^20):bu.size (md a0 a1 a2 a3 a4)<=2^40:=by
 have hk:au.size a0=Z108.Cz a0.aK+Z108.Fz a0.bn:=rfl
 unfold md
 cases Z49.md a3
 ·show bu.size ⟨a0,6,⟨⟨#[]⟩,0,0,[]⟩,[],0⟩<=_
  have :bu.size ⟨a0,6,⟨⟨#[]⟩,0,0,[]⟩,[],0⟩=au.size a0:=rfl
  omega
 ·simp only [Bool.not_true,bq]
  obtain ⟨g1,g2,g3,g4,_⟩:=Ad (look:=lk a1 a4) (A:=6*2^20) (B:=2^20+17*(6*2^20)) (fun _=>True) (fun _ _ _ _ _=>trivial) (fun _ k z s _=>Bb a1 a4 k z s (by omega)) 17 () a0 [] 0 a2 a3 trivial (by omega)
  have hd:∀t:bu,bu.size t=Z108.Cz t.bZ.aK+Z108.Fz t.bZ.bn+ah.size t.aR+t.bJ.length:=by
   intro t
   unfold bu.size au.size Z108.Cz Z108.Fz
   rw [qA]
  rw [hd]
  simp only [List.length_nil] at g4
  omega
end Z127
namespace Z128
def F (x0:bw)(x1 x2:aE)(x3:aD)(x4:aE)(x5:Int):aI:=(call (Z40.R (x2,x3)) fun v1=>(cond (!v1.2) (call (Z46.R x0) fun v2=>ret ((⟨v2,6,(⟨(⟨#[]⟩:aD),0,0,[]⟩:aV),[],0⟩:cS):cS)) (call (Z127.R (x0,x1,v1.1,x4,x5)) fun v3=>ret (v3:cS))))
def md (a0:au)(a1:List ay)(a2:List bF)(a3:aD)(a4:List aD)(a5:Int):bu:=(cond (!(Z40.md a2 a3).2) (⟨a0,6,(⟨((⟨#[]⟩:aD):aD),0,0,[]⟩:ah),[],0⟩:bu) (Z127.md a0 a1 ((Z40.md a2 a3).1) a4 a5))
def gd (a0:au)(a1:List ay)(a2:List bF)(a3:aD)(a4:List aD)(a5:Int):Prop:=(au.Sm (2^21) a0)/\(bM (2^21) (fun y:ay=>ay.Sm (2^21) y) a1)/\(bM (2^21) (fun y:bF=>bF.Sm (2^21) y) a2)/\(bM (2^21) (fun y:aD=>y.size<=(2^21)) a4)
def R:=RR (p6 gd) (u6 md)
def aj {a0 a1 a2 a3 a4 a5}(h:gd a0 a1 a2 a3 a4 a5):R ((au.r a0),(a1.map ay.row),(a2.map bF.row),a3,(a4.map cG),a5)=some (bu.r (md a0 a1 a2 a3 a4 a5)):=aP (a:=(a0,a1,a2,a3,a4,a5)) h
def aW:=CN [.agg rT,pL 227,pL 207,pS,pL 9,pI] (.agg f64) RT.dec R
def bt (a0)(a1)(a2)(a3)(a4)(a5)(hg:gd a0 a1 a2 a3 a4 a5):F (au.r a0) (a1.map ay.row) (a2.map bF.row) a3 (a4.map cG) a5=ret (bu.r (md a0 a1 a2 a3 a4 a5)):=by
 obtain ⟨H0,H1,H2,H4⟩:=hg
 unfold F md
 try simp only [SS]
 refine ct (Z40.aj H2) ?_
 refine av (fun b:bu=>ret ((bu.r b):cS)) (fun c1=>?_) (fun c1=>?_)
 ·refine ct (Z46.aj H0) ?_
  try simp only [SS]
  all_goals exact fz
 ·refine ct (Z127.aj ⟨H0,H1,H4⟩) ?_
  try simp only [SS]
  all_goals exact fz
def af:cz 160 aW:=W6 32 F mix aF bt (.cons Z40.af (.cons Z46.af (.cons Z127.af .nil))) Tryz.func160
end Z128
namespace Z129
def F (x0:bF)(x1:List L):aI:=ret ((x0.fName==(sDec x1)):Bool)
def pats:List gj:=[.agg [.str,aB],.ptr [.str]]
def res:RP:=.one (.rd (.bool))
def md (a0:bF)(a1:aD):Bool:=((a0.fName==a1):Bool)
def gd (a0:bF)(a1:aD):Prop:=True
def acc (ls:List L):bF×aD:=((bF.dec ls),(sDec (cM 1 (aA 2 ls))))
def R:(bF×aD)->Option Bool:=RR (p2 gd) (u2 md)
def aj {a0 a1}(h:gd a0 a1):R (a0,a1)=some (md a0 a1):=aP (a:=(a0,a1)) h
def aW:ga:=CN pats res acc R
def bt (a0:bF)(a1:aD)(p1:List L)(e1:a1=(sDec p1))(hg:gd a0 a1):F a0 p1=ret ((md a0 a1):Bool):=by
 unfold F md
 try simp only [SS,<-e1]
 all_goals exact fz
def mY (ls:List L)(a:bF×aD)(e:acc ls=Im.im a)(hg:(p2 gd) a):∃n:Nat,F (bF.dec ls) (cM 1 (aA 2 ls))=ret (Im.im ((u2 md) a)):=by
 have e0:a.1=(bF.dec ls):=(congrArg (fun x=>x.1) e.symm)
 have hn:=bt a.1 a.2 (cM 1 (aA 2 ls)) (congrArg (fun x=>x.2) e.symm) hg
 refine ⟨0,?_⟩
 rw [<-e0]
 exact hn
def af:cz 421 aW:=VP (live:=fun _=>[]) (nt:=8) (accr:=fun ls=>((bF.dec ls),(cM 1 (aA 2 ls)))) (run:=fun _ x=>F x.1 x.2) mix aF .nil Tryz.func421 (by kernel_rfl) (fun _ _=>by kernel_rfl) (fun ls a _ e hg=>mY ls a e hg)
end Z129
namespace Z130
inductive Pt where
 | p0 (a:aE) (b:List L) (c d:Int)
def pid:Pt->Nat
 | .p0 ..=>2
def ck:Pt->List V
 | .p0 a b c d=>[.sl none 207 a,.fn 421 [.dK none [.str] b 0],.int .i64 c,.int .i64 d]
def cj:Pt->List aY
 | .p0 a b c d=>[]
def step (J:Pt->aI):Pt->aI
 | .p0 a b c d=>(cond (decide (d<c)) (m2 d (a.length:Int) (call (Z129.R ((bF.at a (toNat d)),(sDec b))) fun v1=>(cond v1 (ret (d:Int)) (J (.p0 a b c (i64.wrap (d+1))))))) (ret ((-1):Int)))
def start (J:Pt->aI)(x0:aE)(x1:List L):aI:=J (.p0 x0 x1 (x0.length:Int) 0)
def live:Nat->Live:=fun i=>match i with | 2=>[(0,none),(1,none),(7,none),(8,none)] | _=>[]
def pats:List gj:=[.rd (.sl 207),.fn 421 [[.str]]]
def res:RP:=.one (.rd (.int .i64))
abbrev E:Env:={ T:=assoc kG,G:=dD [(421,Z129.aW)],nt:=19 }
def step_eq (I:cI)(p:Pt):cY E live I (pid p) (bQ Tryz.f202) (fH (live (pid p)) (ck p) (cj p)) (cH E Tryz.f202 res)=step (fun q=>I (pid q) (ck q) (cj q)) p:=by
 cases p<;>kernel_rfl
def start_eq (I:cI)(ls:List L):eW E live I (bQ Tryz.f202) (dc pats ls) (cH E Tryz.f202 res)=start (fun q=>I (pid q) (ck q) (cj q)) (ls.headD .hole).aQ (cM 1 (aA 1 ls)):=by kernel_rfl
def run_eq (n:Nat)(ls:List L):eO E live Tryz.f202 res n (dc pats ls)=start (iter step n) (ls.headD .hole).aQ (cM 1 (aA 1 ls)):=cA (id:=pid) (vs:=ck) (hs:=cj) (step:=step) (start:=fun J=>start J (ls.headD .hole).aQ (cM 1 (aA 1 ls))) step_eq (fun I=>start_eq I ls) n
def md (a0:List bF)(a1:aD):Int:=(dW (S:=Unit) (β:=Int) (fun (i1:Nat) (y1:bF) (s3:Unit)=>(cond (Z129.md y1 a1) (.inr ((i1:Int):Int)) (.inl ()))) (fun (s3:Unit)=>((-1):Int)) 0 a0 ())
def gd (a0:List bF)(a1:aD):Prop:=(bM (2^21) (fun y:bF=>bF.Sm (2^21) y) a0)
def acc (ls:List L):aE×aD:=((ls.headD .hole).aQ,(sDec (cM 1 (aA 1 ls))))
def R:(aE×aD)->Option Int:=RR (p2 gd) (u2 md)
def aj {a0 a1}(h:gd a0 a1):R ((a0.map bF.row),a1)=some (md a0 a1):=aP (a:=(a0,a1)) h
def aW:ga:=CN pats res acc R
def bt (a0:List bF)(a1:aD)(p1:List L)(e1:a1=(sDec p1))(hg:gd a0 a1):∃n,start (iter step n) (a0.map bF.row) p1=ret ((md a0 a1):Int):=by
 unfold gd at hg
 have H0:=hg
 unfold start md
 try simp only [SS,<-e1]
 have Bh2:a0.length<=maxLen:=(by
   have:=(H0).1
   try simp only [maxLen] at *
   omega)
 refine ex_eq (out:=ret) (cX (z:=bF.zero)) ?_
 refine dP (p:=Pt.p0 (a0.map bF.row) p1 (a0.length:Int) 0) fz ?_
 refine cm (pt:=fun (i1:Nat) (s3:Unit)=>Pt.p0 (a0.map bF.row) p1 (a0.length:Int) (i1:Int)) (s:=(():Unit)) (out:=ret) (fun _ _=>True) (fun J i1 s3 h2 hih2=>?_) (fun s3 hih2=>?_) trivial
 ·simp only [step,SS,<-e1]
  have bb_:=Bh2
  simp only [maxLen] at bb_
  have:=(H0).1
  refine bB.yes (by apply decide_eq_true;omega) ?_
  refine bB.yes aJ ?_
  refine bB.yes (aO h2) ?_
  refine cr (Z129.aj trivial) ?_
  refine bB.bif (fun c4=>?_) (fun c4=>?_)
  ·refine bB.inr ?_
   all_goals exact fz
  ·refine bB.inl trivial ?_
   rw [aH h2 Bh2]
   all_goals exact fz
 ·simp only [step,SS,<-e1]
  have:=(H0).1
  refine dF (by apply decide_eq_false;omega) ?_
  refine ⟨0,?_⟩
  all_goals exact fz
def mY (ls:List L)(a:List bF×aD)(e:acc ls=Im.im a)(hg:(p2 gd) a):∃n:Nat,start (iter step n) ((ls.headD .hole).aQ) (cM 1 (aA 1 ls))=ret (Im.im ((u2 md) a)):=by
 have e0:(a.1.map bF.row)=(ls.headD .hole).aQ:=(congrArg (fun x=>x.1) e.symm)
 obtain ⟨n,hn⟩:=bt a.1 a.2 (cM 1 (aA 1 ls)) (congrArg (fun x=>x.2) e.symm) hg
 refine ⟨n,?_⟩
 rw [<-e0]
 exact hn
def af:cz 202 aW:=VP (accr:=fun ls=>((ls.headD .hole).aQ,(cM 1 (aA 1 ls)))) (run:=fun n x=>start (iter step n) x.1 x.2) mix aF (.cons Z129.af .nil) Tryz.func202 (by kernel_rfl) run_eq (fun ls a _ e hg=>mY ls a e hg)
def fa (a0:List bF)(a1:aD):-1<=md a0 a1/\md a0 a1<(a0.length:Int):=by
 unfold md
 refine fK ?_ _ _
 all_goals
  intro i x s b h
  revert h
  simp only [Bool.cond_eq_ite]
  repeat' split
  all_goals (intro h;first | (cases h;rfl) | cases h)
def idx_eq (a0:List bF)(a1:aD):md a0 a1=iT (fun y=>Z129.md y a1) 0 a0:=by
 unfold md
 exact gI
end Z130
namespace Z131
def F (x0:aE)(x1:aD):aI:=(call (Z130.R (x0,x1)) fun v1=>ret (v1:Int))
def md (a0:List bF)(a1:aD):Int:=((Z130.md a0 a1):Int)
def gd (a0:List bF)(a1:aD):Prop:=(bM (2^21) (fun y:bF=>bF.Sm (2^21) y) a0)
def R:=RR (p2 gd) (u2 md)
def aj {a0 a1}(h:gd a0 a1):R ((a0.map bF.row),a1)=some (md a0 a1):=aP (a:=(a0,a1)) h
def aW:=CN [pL 207,pS] oI RT.dec R
def bt (a0)(a1)(hg:gd a0 a1):F (a0.map bF.row) a1=ret (md a0 a1):=by
 unfold gd at hg
 have H0:=hg
 unfold F md
 try simp only [SS]
 refine ct (Z130.aj H0) ?_
 have fv1_:=Z130.fa a0 a1
 all_goals exact fz
def af:cz 317 aW:=W2 8 F mix aF bt (.cons Z130.af .nil) Tryz.func317
def fa (a0:List bF)(a1:aD):-1<=md a0 a1/\md a0 a1<(a0.length:Int):=by unfold md;exact Z130.fa _ _
def br (a0:List bF)(a1:aD):md a0 a1=Z39.md a0 a1:=by
 unfold md Z39.md
 first
 | (simp only [Z130.idx_eq];done)
 | (simp only [Z130.idx_eq];rfl)
 | rfl
end Z131
namespace Z132
def F (x0:aE)(x1:aD):aI:=(call (Z131.R (x0,x1)) fun v1=>(cond (decide (v1<0)) (ret (((-1),false):Int×Bool)) (m2 v1 (x0.length:Int) (ret (((bF.at x0 (toNat v1)).bC,true):Int×Bool)))))
def md (a0:List bF)(a1:aD):Int×Bool:=(cond (decide ((Z131.md a0 a1)<0)) ((-1),false) ((a0.getD (toNat (Z131.md a0 a1)) bF.zero).bC,true))
def gd (a0:List bF)(a1:aD):Prop:=(bM (2^21) (fun y:bF=>bF.Sm (2^21) y) a0)
def R:=RR (p2 gd) (u2 md)
def aj {a0 a1}(h:gd a0 a1):R ((a0.map bF.row),a1)=some ((md a0 a1).1,(md a0 a1).2):=aP (a:=(a0,a1)) h
def aW:=CN [pL 207,pS] (.iQ [(false,[fI]),(false,[fB])]) RT.dec R
def bt (a0)(a1)(hg:gd a0 a1):F (a0.map bF.row) a1=ret ((md a0 a1).1,(md a0 a1).2):=by
 unfold gd at hg
 have H0:=hg
 unfold F md
 try simp only [SS]
 refine ct (Z131.aj H0) ?_
 have fv1_:=Z131.fa a0 a1
 refine av (fun b:Int×Bool=>ret ((b.1,b.2):Int×Bool)) (fun _=>rfl) (fun c1=>?_)
 have dc1:=c1
 try simp only [DC] at dc1
 refine ak dt ?_
 refine ak (have:=(H0).1;dt) ?_
 all_goals exact fz
def af:cz 152 aW:=W2 17 F mix aF bt (.cons Z131.af .nil) Tryz.func152
def br (a0:List bF)(a1:aD):md a0 a1=Z40.md a0 a1:=by
 unfold md Z40.md
 first
 | (simp only [Z131.br];done)
 | (simp only [Z131.br];rfl)
 | rfl
end Z132
namespace Z133
def F (x0:aE):aI:=(cond x0.isEmpty (either (ret ([]:aE)) ((cq (ff ((x0.length:Int)*8)) (ret (x0:aE))))) (cq (ff ((x0.length:Int)*8)) (ret (x0:aE))))
def md (a0:List Int):List Int:=a0
def gd (a0:List Int):Prop:=bM (2^38) (fun y:Int=>True) a0
def R:=RR gd md
def aj {a0}(h:gd a0):R (a0.map bk)=some (a0.map bk):=aP (a:=a0) h
def aW:=CN [pL 3] (oL 3) RT.dec R
def bt (a0)(hg:gd a0):F (a0.map bk)=ret ((md a0).map bk):=by
 have H0:=hg.1
 unfold F md
 have hl:ff (((a0.map bk).length:Int)*8)=true:=iP (by simp only [List.length_map];omega)
 simp only [hl,bh]
 cases a0 with
 | nil=>exact kX
 | cons x xs=>rfl
def af:cz 350 aW:=W1 8 F mix aF bt .nil Tryz.func350
end Z133
namespace Z134
def F (x0:bE):aI:=(call (Z133.R x0.aX) fun v1=>ret ((⟨v1,x0.cF⟩:bE):bE))
def md (a0:aM):aM:=a0
def gd (a0:aM):Prop:=(aM.Sm (2^21) a0)
def R:=RR gd md
def aj {a0}(h:gd a0):R (aM.r a0)=some (aM.r a0):=aP (a:=a0) h
def aW:=CN [.agg qa] (.agg f98) RT.dec R
def bt (a0)(hg:gd a0):F (aM.r a0)=ret (aM.r (md a0)):=by
 unfold gd at hg
 have H0:=hg
 unfold F md
 try simp only [SS]
 refine ct (Z133.aj (H0.mono (by decide) (fun x hx=>trivial))) ?_
 try simp only [SS]
 all_goals exact fz
def af:cz 220 aW:=W1 9 F mix aF bt (.cons Z133.af .nil) Tryz.func220
end Z134
namespace Z135
def F (x0:cg):aI:=(call (Z134.R x0.bP) fun v1=>(call (Z134.R x0.bD) fun v2=>(call (Z134.R x0.bA) fun v3=>ret ((⟨x0.bC,x0.cN,x0.bI,x0.cK,x0.cC,x0.cy,x0.dm,x0.dH,v1,v2,x0.dw,v3,x0.bG⟩:cg):cg))))
def md (a0:aG):aG:=a0
def gd (a0:aG):Prop:=(aG.Sm (2^21) a0)
def R:=RR gd md
def aj {a0}(h:gd a0):R (aG.r a0)=some (aG.r a0):=aP (a:=a0) h
def aW:=CN [.agg gi] (.agg f102) RT.dec R
def bt (a0)(hg:gd a0):F (aG.r a0)=ret (aG.r (md a0)):=by
 unfold gd at hg
 have H0:=hg
 unfold F md
 try simp only [SS]
 refine ct (Z134.aj H0.1) ?_
 try simp only [SS]
 refine ct (Z134.aj H0.2.1) ?_
 try simp only [SS]
 refine ct (Z134.aj H0.2.2) ?_
 try simp only [SS]
 all_goals exact fz
def af:cz 351 aW:=W1 16 F mix aF bt (.cons Z134.af .nil) Tryz.func351
end Z135
namespace Z136
def F (x0:aE):aI:=(cond x0.isEmpty (either (ret ([]:aE)) ((cq (ff ((x0.length:Int)*16)) (ret (x0:aE))))) (cq (ff ((x0.length:Int)*16)) (ret (x0:aE))))
def md (a0:List bp):List bp:=a0
def gd (a0:List bp):Prop:=bM (2^21) (fun y:bp=>bp.Sm (2^21) y) a0
def R:=RR gd md
def aj {a0}(h:gd a0):R (a0.map bp.row)=some (a0.map bp.row):=aP (a:=a0) h
def aW:=CN [pL 428] (oL 428) RT.dec R
def bt (a0)(hg:gd a0):F (a0.map bp.row)=ret ((md a0).map bp.row):=by
 have H0:=hg.1
 unfold F md
 have hl:ff (((a0.map bp.row).length:Int)*16)=true:=iP (by simp only [List.length_map];omega)
 simp only [hl,bh]
 cases a0 with
 | nil=>exact kX
 | cons x xs=>rfl
def af:cz 451 aW:=W1 8 F mix aF bt .nil Tryz.func451
end Z136
namespace Z137
def F (x0:aT):aI:=(call (Z135.R x0.aq) fun v1=>(call (Z136.R x0.cu) fun v2=>ret ((⟨v1,v2⟩:aT):aT)))
def md (a0:aa):aa:=a0
def gd (a0:aa):Prop:=(aa.Sm (2^21) a0)
def R:=RR gd md
def aj {a0}(h:gd a0):R (aa.r a0)=some (aa.r a0):=aP (a:=a0) h
def aW:=CN [.agg kI] (.agg f123) RT.dec R
def bt (a0)(hg:gd a0):F (aa.r a0)=ret (aa.r (md a0)):=by
 unfold gd at hg
 have H0:=hg
 unfold F md
 try simp only [SS]
 refine ct (Z135.aj H0.1) ?_
 try simp only [SS]
 refine ct (Z136.aj H0.2) ?_
 try simp only [SS]
 all_goals exact fz
def af:cz 364 aW:=W1 10 F mix aF bt (.cons Z135.af (.cons Z136.af .nil)) Tryz.func364
end Z137
namespace Z138
inductive Pt where
 | p0 (a:aE) (b c:Int) (d:aE)
def pid:Pt->Nat
 | .p0 ..=>3
def ck:Pt->List V
 | .p0 a b c d=>[.own 0,.sl none 123 a,.int .i64 b,.int .i64 c]
def cj:Pt->List aY
 | .p0 a b c d=>[.row 123 d]
def step (J:Pt->aI):Pt->aI
 | .p0 a b c d=>(cond (decide (c<b)) (m2 c (a.length:Int) (call (Z137.R (aT.at a (toNat c))) fun v1=>(cq (ff (((d.length:Int)+1)*200)) (J (.p0 a b (i64.wrap (c+1)) (d++[(aT.enc v1)])))))) (ret (d:aE)))
def start (J:Pt->aI)(x0:aE):aI:=J (.p0 x0 (x0.length:Int) 0 [])
def live:Nat->Live:=fun i=>match i with | 3=>[(3,some 123),(7,none),(8,none),(9,none)] | _=>[]
def md (a0:List aa):List aa:=a0
def gd (a0:List aa):Prop:=(bM (2^21) (fun y:aa=>aa.Sm (2^21) y) a0)
def R:=RR gd md
def aj {a0}(h:gd a0):R (a0.map aa.row)=some (a0.map aa.row):=aP (a:=a0) h
def aW:=CN [pL 123] (oL 123) RT.dec R
def bt (a0)(hg:gd a0):∃n,start (iter step n) (a0.map aa.row)=ret ((md a0).map aa.row):=by
 unfold gd at hg
 have H0:=hg
 unfold start md
 try simp only [SS]
 have Bh2:a0.length<=maxLen:=(by
   have:=(H0).1
   try simp only [maxLen] at *
   omega)
 refine ex_eq (out:=(fun b:List aa=>ret ((b.map aa.row):aE))) (iK (xs:=a0) (z:=aa.zero) (t:=fun s3:List aa=>s3)) ?_
 refine dP (p:=Pt.p0 (a0.map aa.row) (a0.length:Int) 0 ([].map aa.row)) fz ?_
 refine cm (pt:=fun (i1:Nat) (s3:List aa)=>Pt.p0 (a0.map aa.row) (a0.length:Int) (i1:Int) (s3.map aa.row)) (s:=([]:List aa)) (out:=(fun b:List aa=>ret ((b.map aa.row):aE))) (fun (i1:Nat) (s3:List aa)=>s3.length<=([]:List Int).length+1*i1) (fun J i1 s3 h2 hih2=>?_) (fun s3 hih2=>?_) (by simp)
 ·simp only [step,SS]
  have gr_:=hih2
  try simp only [LN] at gr_
  have bb_:=Bh2
  simp only [maxLen] at bb_
  have:=(H0).1
  refine bB.yes (by apply decide_eq_true;omega) ?_
  refine bB.yes aJ ?_
  refine bB.yes (aO h2) ?_
  refine cr (Z137.aj (bM.getD (z:=aa.zero) H0 h2)) ?_
  try simp only [SS]
  refine bB.yes lm ?_
  refine bB.inl (by
    have g_:=hih2
    try simp only [LN] at g_ ⊢
    first | omega | (simp;done) | (simp;omega)) ?_
  rw [aH h2 Bh2]
  all_goals exact fz
 ·simp only [step,SS]
  have gr_:=hih2
  try simp only [LN] at gr_
  have:=(H0).1
  refine dF (by apply decide_eq_false;omega) ?_
  refine ⟨0,?_⟩
  all_goals exact fz
def af:cz 241 aW:=L1 20 pid ck cj live step start mix aF bt (.cons Z137.af .nil) Tryz.func241
end Z138
namespace Z139
def F (x0:bK):aI:=(call (Z137.R x0.aS) fun v1=>(call (Z137.R x0.fA) fun v2=>(call (Z137.R x0.fB) fun v3=>ret ((⟨v1,v2,v3⟩:bK):bK))))
def md (a0:aC):aC:=a0
def gd (a0:aC):Prop:=(aC.Sm (2^21) a0)
def R:=RR gd md
def aj {a0}(h:gd a0):R (aC.r a0)=some (aC.r a0):=aP (a:=a0) h
def aW:=CN [.agg tH] (.agg f280) RT.dec R
def bt (a0)(hg:gd a0):F (aC.r a0)=ret (aC.r (md a0)):=by
 unfold gd at hg
 have H0:=hg
 unfold F md
 try simp only [SS]
 refine ct (Z137.aj H0.1) ?_
 try simp only [SS]
 refine ct (Z137.aj H0.2.1) ?_
 try simp only [SS]
 refine ct (Z137.aj H0.2.2) ?_
 try simp only [SS]
 all_goals exact fz
def af:cz 327 aW:=W1 13 F mix aF bt (.cons Z137.af .nil) Tryz.func327
end Z139
namespace Z140
inductive Pt where
 | p0 (a:aE) (b c:Int) (d:bw) (e:aE)
 | p1 (a:aE) (b c:Int) (d e:aE)
def pid:Pt->Nat
 | .p0 ..=>3
 | .p1 ..=>8
def ck:Pt->List V
 | .p0 a b c d e=>[.dz 0 0,.dz 1 0,.dz 2 0,.sl none 92 a,.int .i64 b,.int .i64 c,.dz 2 0]
 | .p1 a b c d e=>[.dz 0 0,.dz 1 0,.sl none 280 a,.int .i64 b,.int .i64 c,.dz 1 0,.dz 1 0]
def cj:Pt->List aY
 | .p0 a b c d e=>[.box [.sl none 92 d.aK,.sl none 280 d.bn],.box [.nil,.nil],.box [.own 3,.nil],.row 92 e]
 | .p1 a b c d e=>[.box [.nil,.nil],.box [.own 2,.own 3],.row 92 d,.row 280 e]
def step (J:Pt->aI):Pt->aI
 | .p0 a b c d e=>(cond (decide (c<b)) (m2 c (a.length:Int) (call (Z138.R (oG a (toNat c))) fun v1=>(cq (ff (((e.length:Int)+1)*24)) (J (.p0 a b (i64.wrap (c+1)) d (e++[[L.sl v1]])))))) (J (.p1 d.bn (d.bn.length:Int) 0 e [])))
 | .p1 a b c d e=>(cond (decide (c<b)) (m2 c (a.length:Int) (call (Z139.R (bK.at a (toNat c))) fun v1=>(cq (ff (((e.length:Int)+1)*600)) (J (.p1 a b (i64.wrap (c+1)) d (e++[(bK.enc v1)])))))) (ret ((⟨d,e⟩:bw):bw)))
def start (J:Pt->aI)(x0:bw):aI:=J (.p0 x0.aK (x0.aK.length:Int) 0 x0 [])
def live:Nat->Live:=fun i=>match i with | 3=>[(1,none),(2,none),(3,none),(10,none),(11,none),(12,none),(3,some 92)] | 8=>[(2,none),(3,none),(25,none),(26,none),(27,none),(3,some 92),(3,some 1048856)] | _=>[]
def md (a0:au):au:=a0
def gd (a0:au):Prop:=(au.Sm (2^21) a0)
def R:=RR gd md
def aj {a0}(h:gd a0):R (au.r a0)=some (au.r a0):=aP (a:=a0) h
def aW:=CN [.agg rT] (.agg f37) RT.dec R
def bt (a0)(hg:gd a0):∃n,start (iter step n) (au.r a0)=ret (au.r (md a0)):=by
 unfold gd at hg
 have H0:=hg
 unfold start md
 try simp only [SS]
 have Bh2:a0.aK.length<=maxLen:=(by
   have:=(H0.1).1
   try simp only [maxLen] at *
   omega)
 refine ex_eq (out:=(fun b:au=>ret ((au.r b):bw))) (iK (xs:=a0.aK) (z:=[]) (t:=fun s3:List (List aa)=>(⟨s3,a0.bn⟩:au))) ?_
 refine dP (p:=Pt.p0 (a0.aK.map (dO aa.row)) (a0.aK.length:Int) 0 (au.r a0) ([].map (dO aa.row))) fz ?_
 refine cm (pt:=fun (i1:Nat) (s3:List (List aa))=>Pt.p0 (a0.aK.map (dO aa.row)) (a0.aK.length:Int) (i1:Int) (au.r a0) (s3.map (dO aa.row))) (s:=([]:List (List aa))) (out:=(fun b:au=>ret ((au.r b):bw))) (fun (i1:Nat) (s3:List (List aa))=>s3.length<=([]:List Int).length+1*i1) (fun J i1 s3 h2 hih2=>?_) (fun s3 hih2=>?_) (by simp)
 ·simp only [step,SS]
  have gr_:=hih2
  try simp only [LN] at gr_
  have bb_:=Bh2
  simp only [maxLen] at bb_
  have:=(H0.1).1
  refine bB.yes (by apply decide_eq_true;omega) ?_
  refine bB.yes aJ ?_
  refine bB.yes (aO h2) ?_
  refine cr (Z138.aj (bM.getD (z:=[]) H0.1 h2)) ?_
  try simp only [SS]
  refine bB.yes lm ?_
  refine bB.inl (by
    have g_:=hih2
    try simp only [LN] at g_ ⊢
    first | omega | (simp;done) | (simp;omega)) ?_
  rw [aH h2 Bh2]
  all_goals exact fz
 ·simp only [step,SS]
  have gr_:=hih2
  try simp only [LN] at gr_
  have:=(H0.1).1
  refine dF (by apply decide_eq_false;omega) ?_
  have Bh5:a0.bn.length<=maxLen:=(by
    have:=(H0.2).1
    try simp only [maxLen] at *
    omega)
  refine ex_eq (out:=(fun b:au=>ret ((au.r b):bw))) (iK (xs:=a0.bn) (z:=aC.zero) (t:=fun s6:List aC=>(⟨s3,s6⟩:au))) ?_
  refine dP (p:=Pt.p1 (a0.bn.map aC.row) (a0.bn.length:Int) 0 (s3.map (dO aa.row)) ([].map aC.row)) fz ?_
  refine cm (pt:=fun (i4:Nat) (s6:List aC)=>Pt.p1 (a0.bn.map aC.row) (a0.bn.length:Int) (i4:Int) (s3.map (dO aa.row)) (s6.map aC.row)) (s:=([]:List aC)) (out:=(fun b:au=>ret ((au.r b):bw))) (fun (i4:Nat) (s6:List aC)=>s6.length<=([]:List Int).length+1*i4) (fun J i4 s6 h5 hih5=>?_) (fun s6 hih5=>?_) (by simp)
  ·simp only [step,SS]
   have gr_:=hih5
   try simp only [LN] at gr_
   have bb_:=Bh5
   simp only [maxLen] at bb_
   have:=(H0.2).1
   refine bB.yes (by apply decide_eq_true;omega) ?_
   refine bB.yes aJ ?_
   refine bB.yes (aO h5) ?_
   refine cr (Z139.aj (bM.getD (z:=aC.zero) H0.2 h5)) ?_
   try simp only [SS]
   refine bB.yes lm ?_
   refine bB.inl (by
     have g_:=hih5
     try simp only [LN] at g_ ⊢
     first | omega | (simp;done) | (simp;omega)) ?_
   rw [aH h5 Bh5]
   all_goals exact fz
  ·simp only [step,SS]
   have gr_:=hih5
   try simp only [LN] at gr_
   have:=(H0.2).1
   refine dF (by apply decide_eq_false;omega) ?_
   refine ⟨0,?_⟩
   all_goals exact fz
def af:cz 170 aW:=L1 40 pid ck cj live step start mix aF bt (.cons Z138.af (.cons Z139.af .nil)) Tryz.func170
end Z140
namespace Z141
def F (x0 x1 x2:Int):aI:=(cond (decide (x1<=x0)) (ret ((decide (x0<=x2)):Bool)) bz)
def md (a0 a1 a2:Int):Bool:=(cond (decide (a1<=a0)) ((decide (a0<=a2)):Bool) (false:Bool))
def gd (a0 a1 a2:Int):Prop:=True
def R:=RR (p3 gd) (u3 md)
def aj {a0 a1 a2}(h:gd a0 a1 a2):R (a0,a1,a2)=some (md a0 a1 a2):=aP (a:=(a0,a1,a2)) h
def aW:=CN [pI,pI,pI] oB RT.dec R
def bt (a0)(a1)(a2)(hg:gd a0 a1 a2):F a0 a1 a2=ret (md a0 a1 a2):=by
 unfold F md
 try simp only [SS]
 refine av ret (fun c1=>?_) (fun _=>rfl)
 all_goals exact fz
def af:cz 348 aW:=W3 15 F mix aF bt .nil Tryz.func348
def br (a0 a1 a2:Int):md a0 a1 a2=Z47.md a0 a1 a2:=by
 unfold md Z47.md
 first | rfl | (rw [Bool.eq_iff_iff];simp)
end Z141
namespace Z142
inductive Pt where
 | p0 (a:aD) (b c:Int)
def pid:Pt->Nat
 | .p0 ..=>2
def ck:Pt->List V
 | .p0 a b c=>[.str a,.int .i64 b,.int .i64 c]
def cj:Pt->List aY
 | .p0 a b c=>[]
def step (J:Pt->aI):Pt->aI
 | .p0 a b c=>(cond (decide (c<b)) (m2 c (a.size:Int) (cond (decide ((eB a (toNat c))>=97)) (cond (decide ((eB a (toNat c))<=122)) (J (.p0 a b (i64.wrap (c+1)))) (cond (decide ((eB a (toNat c))>=48)) (cond (decide ((eB a (toNat c))<=57)) (J (.p0 a b (i64.wrap (c+1)))) (cond ((eB a (toNat c))==45) (cond (decide (c>0)) (cond (!(decide (c<(i64.wrap ((a.size:Int) - 1))))) bz (J (.p0 a b (i64.wrap (c+1))))) bz) bz)) (cond ((eB a (toNat c))==45) (cond (decide (c>0)) (cond (!(decide (c<(i64.wrap ((a.size:Int) - 1))))) bz (J (.p0 a b (i64.wrap (c+1))))) bz) bz))) (cond (decide ((eB a (toNat c))>=48)) (cond (decide ((eB a (toNat c))<=57)) (J (.p0 a b (i64.wrap (c+1)))) (cond ((eB a (toNat c))==45) (cond (decide (c>0)) (cond (!(decide (c<(i64.wrap ((a.size:Int) - 1))))) bz (J (.p0 a b (i64.wrap (c+1))))) bz) bz)) (cond ((eB a (toNat c))==45) (cond (decide (c>0)) (cond (!(decide (c<(i64.wrap ((a.size:Int) - 1))))) bz (J (.p0 a b (i64.wrap (c+1))))) bz) bz)))) (call (Z141.R ((a.size:Int),1,8)) fun v1=>ret (v1:Bool)))
def start (J:Pt->aI)(x0:aD):aI:=J (.p0 x0 (x0.size:Int) 0)
def live:Nat->Live:=fun i=>match i with | 2=>[(0,none),(6,none),(7,none)] | _=>[]
def md (a0:aD):Bool:=(eD (S:=Unit) (β:=Bool) (fun (i1:Nat) (s3:Unit)=>(cond (decide ((eB a0 i1)>=97)) (cond (decide ((eB a0 i1)<=122)) (.inl ()) (cond (decide ((eB a0 i1)>=48)) (cond (decide ((eB a0 i1)<=57)) (.inl ()) (cond ((eB a0 i1)==45) (cond (decide ((i1:Int)>0)) (cond (!(decide ((i1:Int)<(i64.wrap ((a0.size:Int) - 1))))) (.inr (false:Bool)) (.inl ())) (.inr (false:Bool))) (.inr (false:Bool)))) (cond ((eB a0 i1)==45) (cond (decide ((i1:Int)>0)) (cond (!(decide ((i1:Int)<(i64.wrap ((a0.size:Int) - 1))))) (.inr (false:Bool)) (.inl ())) (.inr (false:Bool))) (.inr (false:Bool))))) (cond (decide ((eB a0 i1)>=48)) (cond (decide ((eB a0 i1)<=57)) (.inl ()) (cond ((eB a0 i1)==45) (cond (decide ((i1:Int)>0)) (cond (!(decide ((i1:Int)<(i64.wrap ((a0.size:Int) - 1))))) (.inr (false:Bool)) (.inl ())) (.inr (false:Bool))) (.inr (false:Bool)))) (cond ((eB a0 i1)==45) (cond (decide ((i1:Int)>0)) (cond (!(decide ((i1:Int)<(i64.wrap ((a0.size:Int) - 1))))) (.inr (false:Bool)) (.inl ())) (.inr (false:Bool))) (.inr (false:Bool)))))) (fun (s3:Unit)=>((Z141.md (a0.size:Int) 1 8):Bool)) a0.size 0 ())
def gd (a0:aD):Prop:=(a0.size<=(2^22))
def R:=RR gd md
def aj {a0}(h:gd a0):R a0=some (md a0):=aP (a:=a0) h
def aW:=CN [pS] oB RT.dec R
def bt (a0)(hg:gd a0):∃n,start (iter step n) a0=ret (md a0):=by
 unfold gd at hg
 have H0:=hg
 unfold start md
 try simp only [SS]
 have Bh2:a0.size<=maxLen:=(by
   have:=H0
   try simp only [maxLen] at *
   omega)
 refine dP (p:=Pt.p0 a0 (a0.size:Int) 0) fz ?_
 refine cm (pt:=fun (i1:Nat) (s3:Unit)=>Pt.p0 a0 (a0.size:Int) (i1:Int)) (s:=(():Unit)) (out:=ret) (fun _ _=>True) (fun J i1 s3 h2 hih2=>?_) (fun s3 hih2=>?_) trivial
 ·simp only [step,SS]
  have bb_:=Bh2
  simp only [maxLen] at bb_
  have:=H0
  refine bB.yes (by apply decide_eq_true;omega) ?_
  refine bB.yes aJ ?_
  refine bB.yes (aO h2) ?_
  refine bB.bif (fun c4=>?_) (fun c4=>?_)
  ·refine bB.bif (fun c5=>?_) (fun c5=>?_)
   ·refine bB.inl trivial ?_
    rw [aH h2 Bh2]
    all_goals exact fz
   ·refine bB.bif (fun c6=>?_) (fun c6=>?_)
    ·refine bB.bif (fun c7=>?_) (fun c7=>?_)
     ·refine bB.inl trivial ?_
      rw [aH h2 Bh2]
      all_goals exact fz
     ·refine bB.bif (fun c8=>?_) (fun _=>bB.inr rfl)
      refine bB.bif (fun c9=>?_) (fun _=>bB.inr rfl)
      refine bB.bif (fun _=>bB.inr rfl) (fun c10=>?_)
      refine bB.inl trivial ?_
      rw [aH h2 Bh2]
      all_goals exact fz
    ·refine bB.bif (fun c11=>?_) (fun _=>bB.inr rfl)
     refine bB.bif (fun c12=>?_) (fun _=>bB.inr rfl)
     refine bB.bif (fun _=>bB.inr rfl) (fun c13=>?_)
     refine bB.inl trivial ?_
     rw [aH h2 Bh2]
     all_goals exact fz
  ·refine bB.bif (fun c14=>?_) (fun c14=>?_)
   ·refine bB.bif (fun c15=>?_) (fun c15=>?_)
    ·refine bB.inl trivial ?_
     rw [aH h2 Bh2]
     all_goals exact fz
    ·refine bB.bif (fun c16=>?_) (fun _=>bB.inr rfl)
     refine bB.bif (fun c17=>?_) (fun _=>bB.inr rfl)
     refine bB.bif (fun _=>bB.inr rfl) (fun c18=>?_)
     refine bB.inl trivial ?_
     rw [aH h2 Bh2]
     all_goals exact fz
   ·refine bB.bif (fun c19=>?_) (fun _=>bB.inr rfl)
    refine bB.bif (fun c20=>?_) (fun _=>bB.inr rfl)
    refine bB.bif (fun _=>bB.inr rfl) (fun c21=>?_)
    refine bB.inl trivial ?_
    rw [aH h2 Bh2]
    all_goals exact fz
 ·simp only [step,SS]
  have:=H0
  refine dF (by apply decide_eq_false;omega) ?_
  refine cx (Z141.aj trivial) ?_
  refine ⟨0,?_⟩
  all_goals exact fz
def af:cz 311 aW:=L1 47 pid ck cj live step start mix aF bt (.cons Z141.af .nil) Tryz.func311
def br (a0:aD):md a0=Z48.md a0:=by
 unfold md Z48.md
 by_cases hl:1<=a0.size/\a0.size<=8
 ·have e1:Z47.md (a0.size:Int) 1 8=true:=by simp [Z47.md];omega
  simp only [Z141.br,e1]
  have ew:i64.wrap ((a0.size:Int) - 1)=((a0.size - 1:Nat):Int):=by
   rw [Go.IntWalk.i64_in _ (by omega)];omega
  simp only [ew,cE]
  rw [Bool.eq_iff_iff]
  rw [jC (fun i=>(97<=eB a0 i/\eB a0 i<=122)∨(48<=eB a0 i/\eB a0 i<=57)∨(eB a0 i=45/\0<i/\i<a0.size - 1)) (fun i hi h=>by simp;grind) (fun i hi h=>by simp;grind)]
  have e2:=jC (n:=a0.size) (f:=fun (i4:Nat) (s6:Unit)=>(cond (decide ((eB a0 i4)<97)) (cond (decide ((eB a0 i4)<48)) (cond ((eB a0 i4) != 45) (.inr (false:Bool)) (.inl ())) (cond (decide ((eB a0 i4)>57)) (cond ((eB a0 i4) != 45) (.inr (false:Bool)) (.inl ())) (.inl ()))) (cond (decide ((eB a0 i4)>122)) (cond (decide ((eB a0 i4)<48)) (cond ((eB a0 i4) != 45) (.inr (false:Bool)) (.inl ())) (cond (decide ((eB a0 i4)>57)) (cond ((eB a0 i4) != 45) (.inr (false:Bool)) (.inl ())) (.inl ()))) (.inl ())))) (t:=fun _=>true)
   (fun i=>(97<=eB a0 i/\eB a0 i<=122)∨(48<=eB a0 i/\eB a0 i<=57)∨eB a0 i=45) (fun i hi h=>by simp;grind) (fun i hi h=>by simp;grind)
  have e3:∀b c d:Bool,(cond (!true) false (bif b then false else bif c then false else d))=true↔b=false/\c=false/\d=true:=by intro b c d;cases b<;>cases c<;>simp
  rw [e3,e2]
  simp only [beq_eq_false_iff_ne,ne_eq,and_true]
  constructor
  ·intro h
   refine ⟨fun h0=>?_,fun h0=>?_,fun i hi=>?_⟩
   ·have:=h 0 (by omega);omega
   ·have:=h (a0.size - 1) (by omega);omega
   ·have:=h i hi;omega
  ·intro ⟨h1,h2,h3⟩ i hi
   have:=h3 i hi
   by_cases h0:i=0
   ·subst h0;omega
   ·by_cases h9:i=a0.size - 1
    ·subst h9;omega
    ·omega
 ·have e1:Z47.md (a0.size:Int) 1 8=false:=by simp [Z47.md];omega
  simp only [Z141.br,e1]
  refine pN ?_ _ _ _
  intro i s b h
  revert h
  simp only [Bool.cond_eq_ite]
  repeat' split
  all_goals (intro h;first | (cases h;rfl) | cases h)
end Z142
namespace Z143
def F (x0:aD):aI:=(call (Z142.R x0) fun v1=>ret ((!v1):Bool))
def md (a0:aD):Bool:=((!(Z142.md a0)):Bool)
def gd (a0:aD):Prop:=(a0.size<=(2^22))
def R:=RR gd md
def aj {a0}(h:gd a0):R a0=some (md a0):=aP (a:=a0) h
def aW:=CN [pS] oB RT.dec R
def bt (a0)(hg:gd a0):F a0=ret (md a0):=by
 unfold gd at hg
 have H0:=hg
 unfold F md
 try simp only [SS]
 refine ct (Z142.aj H0) ?_
 all_goals exact fz
def af:cz 410 aW:=W1 6 F mix aF bt (.cons Z142.af .nil) Tryz.func410
end Z143
namespace Z144
inductive Pt where
 | p0 (a:aE) (b c:Int)
def pid:Pt->Nat
 | .p0 ..=>2
def ck:Pt->List V
 | .p0 a b c=>[.sl none 9 a,.fn 410 [],.int .i64 b,.int .i64 c]
def cj:Pt->List aY
 | .p0 a b c=>[]
def step (J:Pt->aI):Pt->aI
 | .p0 a b c=>(cond (decide (c<b)) (m2 c (a.length:Int) (call (Z143.R (qi a (toNat c))) fun v1=>(cond v1 (ret (c:Int)) (J (.p0 a b (i64.wrap (c+1))))))) (ret ((-1):Int)))
def start (J:Pt->aI)(x0:aE):aI:=J (.p0 x0 (x0.length:Int) 0)
def live:Nat->Live:=fun i=>match i with | 2=>[(0,none),(1,none),(7,none),(8,none)] | _=>[]
def pats:List gj:=[.rd (.sl 9),.fn 410 []]
def res:RP:=.one (.rd (.int .i64))
abbrev E:Env:={ T:=assoc kG,G:=dD [(410,Z143.aW)],nt:=19 }
def step_eq (I:cI)(p:Pt):cY E live I (pid p) (bQ Tryz.f474) (fH (live (pid p)) (ck p) (cj p)) (cH E Tryz.f474 res)=step (fun q=>I (pid q) (ck q) (cj q)) p:=by
 cases p<;>kernel_rfl
def start_eq (I:cI)(ls:List L):eW E live I (bQ Tryz.f474) (dc pats ls) (cH E Tryz.f474 res)=start (fun q=>I (pid q) (ck q) (cj q)) (ls.headD .hole).aQ:=by kernel_rfl
def run_eq (n:Nat)(ls:List L):eO E live Tryz.f474 res n (dc pats ls)=start (iter step n) (ls.headD .hole).aQ:=cA (id:=pid) (vs:=ck) (hs:=cj) (step:=step) (start:=fun J=>start J (ls.headD .hole).aQ) step_eq (fun I=>start_eq I ls) n
def md (a0:List aD):Int:=(dW (S:=Unit) (β:=Int) (fun (i1:Nat) (y1:aD) (s3:Unit)=>(cond (Z143.md y1) (.inr ((i1:Int):Int)) (.inl ()))) (fun (s3:Unit)=>((-1):Int)) 0 a0 ())
def gd (a0:List aD):Prop:=(bM (2^22) (fun y:aD=>y.size<=(2^22)) a0)
def acc (ls:List L):aE:=(ls.headD .hole).aQ
def R:(aE)->Option Int:=RR gd md
def aj {a0}(h:gd a0):R (a0.map cG)=some (md a0):=aP (a:=a0) h
def aW:ga:=CN pats res acc R
def bt (a0:List aD)(hg:gd a0):∃n,start (iter step n) (a0.map cG)=ret ((md a0):Int):=by
 unfold gd at hg
 have H0:=hg
 unfold start md
 try simp only [SS]
 have Bh2:a0.length<=maxLen:=(by
   have:=(H0).1
   try simp only [maxLen] at *
   omega)
 refine ex_eq (out:=ret) (cX (z:=⟨#[]⟩)) ?_
 refine dP (p:=Pt.p0 (a0.map cG) (a0.length:Int) 0) fz ?_
 refine cm (pt:=fun (i1:Nat) (s3:Unit)=>Pt.p0 (a0.map cG) (a0.length:Int) (i1:Int)) (s:=(():Unit)) (out:=ret) (fun _ _=>True) (fun J i1 s3 h2 hih2=>?_) (fun s3 hih2=>?_) trivial
 ·simp only [step,SS]
  have bb_:=Bh2
  simp only [maxLen] at bb_
  have:=(H0).1
  refine bB.yes (by apply decide_eq_true;omega) ?_
  refine bB.yes aJ ?_
  refine bB.yes (aO h2) ?_
  refine cr (Z143.aj (bM.getD (z:=⟨#[]⟩) H0 h2)) ?_
  refine bB.bif (fun c4=>?_) (fun c4=>?_)
  ·refine bB.inr ?_
   all_goals exact fz
  ·refine bB.inl trivial ?_
   rw [aH h2 Bh2]
   all_goals exact fz
 ·simp only [step,SS]
  have:=(H0).1
  refine dF (by apply decide_eq_false;omega) ?_
  refine ⟨0,?_⟩
  all_goals exact fz
def af:cz 474 aW:=VV (run:=fun n x=>start (iter step n) x) mix aF (.cons Z143.af .nil) Tryz.func474 (by kernel_rfl) run_eq (fun _ a _ _ hg=>bt a hg)
def fa (a0:List aD):-1<=md a0/\md a0<(a0.length:Int):=by
 unfold md
 refine fK ?_ _ _
 all_goals
  intro i x s b h
  revert h
  simp only [Bool.cond_eq_ite]
  repeat' split
  all_goals (intro h;first | (cases h;rfl) | cases h)
def idx_eq (a0:List aD):md a0=iT (fun y=>Z143.md y) 0 a0:=by
 unfold md
 exact gI
end Z144
namespace Z145
def F (x0:aE):aI:=(call (Z144.R x0) fun v1=>ret ((decide (v1>=0)):Bool))
def pats:List gj:=[.rd (.sl 9),.fn 410 []]
def res:RP:=.one (.rd (.bool))
def md (a0:List aD):Bool:=((decide ((Z144.md a0)>=0)):Bool)
def gd (a0:List aD):Prop:=(bM (2^22) (fun y:aD=>y.size<=(2^22)) a0)
def acc (ls:List L):aE:=(ls.headD .hole).aQ
def R:(aE)->Option Bool:=RR gd md
def aj {a0}(h:gd a0):R (a0.map cG)=some (md a0):=aP (a:=a0) h
def aW:ga:=CN pats res acc R
def bt (a0:List aD)(hg:gd a0):F (a0.map cG)=ret ((md a0):Bool):=by
 unfold gd at hg
 have H0:=hg
 unfold F md
 try simp only [SS]
 refine ct (Z144.aj H0) ?_
 have fv1_:=Z144.fa a0
 all_goals exact fz
def af:cz 409 aW:=VV (live:=fun _=>[]) (nt:=9) (run:=fun _ x=>F x) mix aF (.cons Z144.af .nil) Tryz.func409 (by kernel_rfl) (fun _ _=>by kernel_rfl) (fun _ a _ _ hg=>⟨0,bt a hg⟩)
def any_eq (a0:List aD):md a0=a0.any (fun y=>Z143.md y):=by
 unfold md
 rw [Z144.idx_eq]
 exact qV
end Z145
namespace Z146
def F (x0:aE):aI:=(call (Z141.R ((x0.length:Int),1,4)) fun v1=>(cond v1 (call (Z145.R x0) fun v2=>ret ((!v2):Bool)) bz))
def md (a0:List aD):Bool:=(cond (Z141.md (a0.length:Int) 1 4) ((!(Z145.md a0)):Bool) (false:Bool))
def gd (a0:List aD):Prop:=(bM (2^22) (fun y:aD=>y.size<=(2^22)) a0)
def R:=RR gd md
def aj {a0}(h:gd a0):R (a0.map cG)=some (md a0):=aP (a:=a0) h
def aW:=CN [pL 9] oB RT.dec R
def bt (a0)(hg:gd a0):F (a0.map cG)=ret (md a0):=by
 unfold gd at hg
 have H0:=hg
 unfold F md
 try simp only [SS]
 refine ct (Z141.aj trivial) ?_
 refine av ret (fun c1=>?_) (fun _=>rfl)
 refine ct (Z145.aj H0) ?_
 all_goals exact fz
def af:cz 298 aW:=W1 11 F mix aF bt (.cons Z141.af (.cons Z145.af .nil)) Tryz.func298
def br (a0:List aD):md a0=Z49.md a0:=by
 unfold md Z49.md
 rw [Z145.any_eq]
 have e:=mm (p:=fun y=>!(Z48.md y)) (b:=false) (c:=Z47.md (a0.length:Int) 1 4) (xs:=a0) (s:=())
 refine Eq.trans ?_ e.symm
 simp only [Z143.md,Z142.br,Z141.br]
 cases a0.any (fun y=>!(Z48.md y))<;>cases Z47.md (a0.length:Int) 1 4<;>rfl
end Z146
namespace Z147
def F (x0:Int):aI:=(call (Z141.R (x0,0,2147483646)) fun v1=>ret (v1:Bool))
def md (a0:Int):Bool:=((Z141.md a0 0 2147483646):Bool)
def gd (a0:Int):Prop:=True
def R:=RR gd md
def aj {a0}(h:gd a0):R a0=some (md a0):=aP (a:=a0) h
def aW:=CN [pI] oB RT.dec R
def bt (a0)(hg:gd a0):F a0=ret (md a0):=by
 unfold F md
 try simp only [SS]
 refine ct (Z141.aj trivial) ?_
 all_goals exact fz
def af:cz 312 aW:=W1 5 F mix aF bt (.cons Z141.af .nil) Tryz.func312
end Z147
namespace Z148
def F (x0:cg):aI:=(cond (decide (x0.cK>=0)) (cond (decide (x0.cK<=x0.cC)) (cond (decide (x0.cC<=100000)) (ret ((decide ((i64.wrap (x0.cC - x0.cK))<=200)):Bool)) bz) bz) bz)
def md (a0:aG):Bool:=(cond (decide (a0.cK>=0)) (cond (decide (a0.cK<=a0.cC)) (cond (decide (a0.cC<=100000)) ((decide ((i64.wrap (a0.cC - a0.cK))<=200)):Bool) (false:Bool)) (false:Bool)) (false:Bool))
def gd (a0:aG):Prop:=True
def R:=RR gd md
def aj {a0}(h:gd a0):R (aG.r a0)=some (md a0):=aP (a:=a0) h
def aW:=CN [.agg gi] oB RT.dec R
def bt (a0)(hg:gd a0):F (aG.r a0)=ret (md a0):=by
 unfold F md
 try simp only [SS]
 refine av ret (fun c1=>?_) (fun _=>rfl)
 refine av ret (fun c2=>?_) (fun _=>rfl)
 refine av ret (fun c3=>?_) (fun _=>rfl)
 all_goals exact fz
def af:cz 528 aW:=W1 26 F mix aF bt .nil Tryz.func528
end Z148
namespace Z149
inductive Pt where
 | p0 (a:aE) (b c:Int)
def pid:Pt->Nat
 | .p0 ..=>2
def ck:Pt->List V
 | .p0 a b c=>[.sl none 3 a,.int .i64 b,.int .i64 c]
def cj:Pt->List aY
 | .p0 a b c=>[]
def step (J:Pt->aI):Pt->aI
 | .p0 a b c=>(cond (decide (c<b)) (cond (decide (c>0)) (m2 c (a.length:Int) (cq (decide ((0:Int)<=(i64.wrap (c - 1)))) (cq (decide ((i64.wrap (c - 1))<(a.length:Int))) (cond (decide ((jx a (toNat c))<=(jx a (toNat (i64.wrap (c - 1)))))) bz (J (.p0 a b (i64.wrap (c+1)))))))) (J (.p0 a b (i64.wrap (c+1))))) (ret (true:Bool)))
def start (J:Pt->aI)(x0:aE):aI:=J (.p0 x0 (x0.length:Int) 0)
def live:Nat->Live:=fun i=>match i with | 2=>[(0,none),(5,none),(6,none)] | _=>[]
def md (a0:List Int):Bool:=(dW (S:=Unit) (β:=Bool) (fun (i1:Nat) (y1:Int) (s3:Unit)=>(cond (decide ((i1:Int)>0)) (cond (decide (y1<=(a0.getD (toNat (i64.wrap ((i1:Int) - 1))) 0))) (.inr (false:Bool)) (.inl ())) (.inl ()))) (fun (s3:Unit)=>(true:Bool)) 0 a0 ())
def gd (a0:List Int):Prop:=(bM (2^38) (fun y:Int=>True) a0)
def R:=RR gd md
def aj {a0}(h:gd a0):R (a0.map bk)=some (md a0):=aP (a:=a0) h
def aW:=CN [pL 3] oB RT.dec R
def bt (a0)(hg:gd a0):∃n,start (iter step n) (a0.map bk)=ret (md a0):=by
 unfold gd at hg
 have H0:=hg
 unfold start md
 try simp only [SS]
 have Bh2:a0.length<=maxLen:=(by
   have:=(H0).1
   try simp only [maxLen] at *
   omega)
 refine ex_eq (out:=ret) (cX (z:=0)) ?_
 refine dP (p:=Pt.p0 (a0.map bk) (a0.length:Int) 0) fz ?_
 refine cm (pt:=fun (i1:Nat) (s3:Unit)=>Pt.p0 (a0.map bk) (a0.length:Int) (i1:Int)) (s:=(():Unit)) (out:=ret) (fun _ _=>True) (fun J i1 s3 h2 hih2=>?_) (fun s3 hih2=>?_) trivial
 ·simp only [step,SS]
  have bb_:=Bh2
  simp only [maxLen] at bb_
  have:=(H0).1
  refine bB.yes (by apply decide_eq_true;omega) ?_
  refine bB.bif (fun c4=>?_) (fun c4=>?_)
  ·have dc4:=c4
   try simp only [DC] at dc4
   refine bB.yes aJ ?_
   refine bB.yes (aO h2) ?_
   refine bB.yes dt ?_
   refine bB.yes (have:=(H0).1;dt) ?_
   refine bB.bif (fun _=>bB.inr rfl) (fun c5=>?_)
   refine bB.inl trivial ?_
   rw [aH h2 Bh2]
   all_goals exact fz
  ·refine bB.inl trivial ?_
   rw [aH h2 Bh2]
   all_goals exact fz
 ·simp only [step,SS]
  have:=(H0).1
  refine dF (by apply decide_eq_false;omega) ?_
  refine ⟨0,?_⟩
  all_goals exact fz
def af:cz 357 aW:=L1 24 pid ck cj live step start mix aF bt .nil Tryz.func357
end Z149
namespace Z150
def F (x0:Int):aI:=(call (Z141.R (x0,1,99)) fun v1=>ret (v1:Bool))
def md (a0:Int):Bool:=((Z141.md a0 1 99):Bool)
def gd (a0:Int):Prop:=True
def R:=RR gd md
def aj {a0}(h:gd a0):R a0=some (md a0):=aP (a:=a0) h
def aW:=CN [pI] oB RT.dec R
def bt (a0)(hg:gd a0):F a0=ret (md a0):=by
 unfold F md
 try simp only [SS]
 refine ct (Z141.aj trivial) ?_
 all_goals exact fz
def af:cz 358 aW:=W1 5 F mix aF bt (.cons Z141.af .nil) Tryz.func358
end Z150
namespace Z151
def F (x0:bE):aI:=(call (Z141.R ((x0.aX.length:Int),1,4)) fun v1=>(cond v1 (call (Z149.R x0.aX) fun v2=>(cond v2 (cq (decide ((0:Int)<(x0.aX.length:Int))) (call (Z150.R (jx x0.aX 0)) fun v3=>(cond v3 (cq (decide ((0:Int)<=(i64.wrap ((x0.aX.length:Int) - 1)))) (cq (decide ((i64.wrap ((x0.aX.length:Int) - 1))<(x0.aX.length:Int))) (call (Z150.R (jx x0.aX (toNat (i64.wrap ((x0.aX.length:Int) - 1))))) fun v4=>(cond v4 (call (Z141.R (x0.cF,1,(x0.aX.length:Int))) fun v5=>ret (v5:Bool)) bz)))) bz))) bz)) bz))
def md (a0:aM):Bool:=(cond (Z141.md (a0.aX.length:Int) 1 4) (cond (Z149.md a0.aX) (cond (Z150.md (a0.aX.getD 0 0)) (cond (Z150.md (a0.aX.getD (toNat (i64.wrap ((a0.aX.length:Int) - 1))) 0)) ((Z141.md a0.cF 1 (a0.aX.length:Int)):Bool) (false:Bool)) (false:Bool)) (false:Bool)) (false:Bool))
def gd (a0:aM):Prop:=(aM.Sm (2^21) a0)
def R:=RR gd md
def aj {a0}(h:gd a0):R (aM.r a0)=some (md a0):=aP (a:=a0) h
def aW:=CN [.agg qa] oB RT.dec R
def bt (a0)(hg:gd a0):F (aM.r a0)=ret (md a0):=by
 unfold gd at hg
 have H0:=hg
 unfold F md
 try simp only [SS]
 refine ct (Z141.aj trivial) ?_
 refine av ret (fun c1=>?_) (fun _=>rfl)
 have Dc1:=c1
 try simp [Z141.md] at Dc1
 refine ct (Z149.aj (H0.mono (by decide) (fun x hx=>trivial))) ?_
 refine av ret (fun c2=>?_) (fun _=>rfl)
 refine ak (have:=(H0).1;dt) ?_
 refine ct (Z150.aj trivial) ?_
 refine av ret (fun c3=>?_) (fun _=>rfl)
 refine ak (have:=(H0).1;dt) ?_
 refine ak (have:=(H0).1;dt) ?_
 refine ct (Z150.aj trivial) ?_
 refine av ret (fun c4=>?_) (fun _=>rfl)
 refine ct (Z141.aj trivial) ?_
 all_goals exact fz
def af:cz 232 aW:=W1 38 F mix aF bt (.cons Z141.af (.cons Z149.af (.cons Z150.af .nil))) Tryz.func232
-- uses Z51
def B6 {l:List Int}(h:∀i:Nat,i<l.length->0<i->l.getD (i - 1) 0<l.getD i 0):∀(k i:Nat),i+k<l.length->l.getD i 0<=l.getD (i+k) 0
 | 0,i,_=>Int.le_refl _
 | k+1,i,hi=>by
  have h1:=B6 h k i (by omega)
  have h2:=h (i+(k+1)) hi (by omega)
  rw [show i+(k+1) - 1=i+k by omega] at h2
  omega
def br (a0:aM):md a0=Z51.md a0:=by
 unfold md Z51.md Z149.md
 simp only [Z141.br,Z150.md]
 by_cases hl:1<=a0.aX.length/\a0.aX.length<=4
 ·have e1:Z47.md (a0.aX.length:Int) 1 4=true:=by simp [Z47.md];omega
  rw [e1]
  have wp:∀i:Nat,0<i->i<=4->toNat (i64.wrap ((i:Int) - 1))=i - 1:=fun i h1 h2=>by
   rw [Go.IntWalk.i64_in _ (by omega)];omega
  rw [wp _ (by omega) (by omega)]
  generalize a0.cF=n
  generalize a0.aX=l at *
  have i1:∀x a b:Int,Z47.md x a b=true↔a<=x/\x<=b:=fun x a b=>by simp [Z47.md]
  have i2:∀x a b:Int,Z47.md x a b=false↔¬(a<=x/\x<=b):=fun x a b=>by rw [<-i1];simp
  have w2:∀i:Nat,i<l.length->0<i->toNat (i64.wrap ((i:Int) - 1))=i - 1:=fun i h1 h2=>wp i h2 (by omega)
  rw [Bool.eq_iff_iff,<-cX (z:=0),<-cX (z:=0)]
  have e3:∀a b c d:Bool,(cond true (cond a (cond b (cond c d false) false) false) false)=true↔a=true/\b=true/\c=true/\d=true:=by
   intro a b c d;cases a<;>cases b<;>cases c<;>simp
  have pos:∀i:Nat,0<i->decide ((i:Int)>0)=true:=fun i h=>by simpa using h
  have npos:∀i:Nat,¬0<i->decide ((i:Int)>0)=false:=fun i h=>by simpa using h
  rw [e3]
  rw [jC (fun i=>0<i->l.getD (i - 1) 0<l.getD i 0) (fun i hi h=>?_) (fun i hi h=>?_),jC (fun i=>(1<=l.getD i 0/\l.getD i 0<=99)/\(0<i->l.getD (i - 1) 0<l.getD i 0)) (fun i hi h=>?_) (fun i hi h=>?_)]
  ·simp only [i1,and_true,bh]
   constructor
   ·rintro ⟨h1,⟨h2,h3⟩,⟨h4,h5⟩,h6⟩
    refine ⟨fun i hi=>⟨⟨?_,?_⟩,h1 i hi⟩,h6⟩
    ·have:=B6 h1 i 0 (by omega)
     rw [Nat.zero_add] at this;omega
    ·have:=B6 h1 (l.length - 1 - i) i (by omega)
     rw [show i+(l.length - 1 - i)=l.length - 1 by omega] at this;omega
   ·rintro ⟨h1,h6⟩
    exact ⟨fun i hi=>(h1 i hi).2,(h1 0 (by omega)).1,(h1 (l.length - 1) (by omega)).1,h6⟩
  ·have e2:=(i1 (l.getD i 0) 1 99).2 h.1
   rw [e2]
   by_cases h0:0<i
   ·have:=h.2 h0
    rw [pos i h0,w2 i hi h0,decide_eq_false (by omega)];rfl
   ·rw [npos i h0];rfl
  ·by_cases h1:1<=l.getD i 0/\l.getD i 0<=99
   ·have e2:=(i1 (l.getD i 0) 1 99).2 h1
    have h0:0<i:=Classical.byContradiction fun hc=>h ⟨h1,fun h=>(hc h).elim⟩
    have h2:¬l.getD (i - 1) 0<l.getD i 0:=fun hc=>h ⟨h1,fun _=>hc⟩
    rw [e2,pos i h0,w2 i hi h0,decide_eq_true (by omega)];rfl
   ·rw [(i2 _ _ _).2 h1];rfl
  ·by_cases h0:0<i
   ·have:=h h0
    rw [pos i h0,w2 i hi h0,decide_eq_false (by omega)];rfl
   ·rw [npos i h0];rfl
  ·have h0:0<i:=Classical.byContradiction fun hc=>h fun h=>(hc h).elim
   have h2:¬l.getD (i - 1) 0<l.getD i 0:=fun hc=>h fun _=>hc
   rw [pos i h0,w2 i hi h0,decide_eq_true (by omega)];rfl
 ·have e1:Z47.md (a0.aX.length:Int) 1 4=false:=by simp [Z47.md];omega
  rw [e1]
  simp only [bq]
  symm
  exact lD (by
   intro i x s b h
   revert h
   simp only [Bool.cond_eq_ite]
   repeat' split
   all_goals (intro h;first | (cases h;rfl) | cases h)) _ _ _
end Z151
namespace Z152
def F (x0:bE):aI:=(cond (x0.cF==0) (ret (((x0.aX.length:Int)==0):Bool)) bz)
def md (a0:aM):Bool:=(cond (a0.cF==0) (((a0.aX.length:Int)==0):Bool) (false:Bool))
def gd (a0:aM):Prop:=True
def R:=RR gd md
def aj {a0}(h:gd a0):R (aM.r a0)=some (md a0):=aP (a:=a0) h
def aW:=CN [.agg qa] oB RT.dec R
def bt (a0)(hg:gd a0):F (aM.r a0)=ret (md a0):=by
 unfold F md
 try simp only [SS]
 refine av ret (fun c1=>?_) (fun _=>rfl)
 all_goals exact fz
def af:cz 531 aW:=W1 12 F mix aF bt .nil Tryz.func531
def br (a0:aM):md a0=Z52.md a0:=by
 unfold md Z52.md
 first
 | (simp only [id];done)
 | (simp only [id];rfl)
 | rfl
end Z152
namespace Z153
def F (x0:bE):aI:=(call (Z152.R x0) fun v1=>(cond v1 (ret (true:Bool)) (call (Z151.R x0) fun v2=>ret (v2:Bool))))
def md (a0:aM):Bool:=(cond (Z152.md a0) (true:Bool) ((Z151.md a0):Bool))
def gd (a0:aM):Prop:=(aM.Sm (2^21) a0)
def R:=RR gd md
def aj {a0}(h:gd a0):R (aM.r a0)=some (md a0):=aP (a:=a0) h
def aW:=CN [.agg qa] oB RT.dec R
def bt (a0)(hg:gd a0):F (aM.r a0)=ret (md a0):=by
 unfold gd at hg
 have H0:=hg
 unfold F md
 try simp only [SS]
 refine ct (Z152.aj trivial) ?_
 refine av ret (fun _=>rfl) (fun c1=>?_)
 refine ct (Z151.aj H0) ?_
 all_goals exact fz
def af:cz 529 aW:=W1 9 F mix aF bt (.cons Z152.af (.cons Z151.af .nil)) Tryz.func529
end Z153
namespace Z154
def F (x0:Int)(x1:bE):aI:=(call (Z152.R x1) fun v1=>(cond v1 (ret ((x0==0):Bool)) (call (Z141.R (x0,1,500)) fun v2=>ret (v2:Bool))))
def md (a0:Int)(a1:aM):Bool:=(cond (Z152.md a1) ((a0==0):Bool) ((Z141.md a0 1 500):Bool))
def gd (a0:Int)(a1:aM):Prop:=True
def R:=RR (p2 gd) (u2 md)
def aj {a0 a1}(h:gd a0 a1):R (a0,(aM.r a1))=some (md a0 a1):=aP (a:=(a0,a1)) h
def aW:=CN [pI,.agg qa] oB RT.dec R
def bt (a0)(a1)(hg:gd a0 a1):F a0 (aM.r a1)=ret (md a0 a1):=by
 unfold F md
 try simp only [SS]
 refine ct (Z152.aj trivial) ?_
 refine av ret (fun c1=>?_) (fun c1=>?_)
 ·all_goals exact fz
 ·refine ct (Z141.aj trivial) ?_
  all_goals exact fz
def af:cz 530 aW:=W2 11 F mix aF bt (.cons Z152.af (.cons Z141.af .nil)) Tryz.func530
end Z154
namespace Z155
def F (x0:cg):aI:=(call (Z147.R x0.bC) fun v1=>(cond v1 (call (Z147.R x0.dm) fun v2=>(cond v2 (call (Z147.R x0.dH) fun v3=>(cond v3 (call (Z141.R (x0.cN,0,200)) fun v4=>(cond v4 (call (Z141.R (x0.bI,1,3)) fun v5=>(cond v5 (call (Z148.R x0) fun v6=>(cond v6 (call (Z141.R (x0.cy,0,12)) fun v7=>(cond v7 (call (Z151.R x0.bP) fun v8=>(cond v8 (call (Z153.R x0.bD) fun v9=>(cond v9 (call (Z153.R x0.bA) fun v10=>(cond v10 (call (Z154.R (x0.dw,x0.bD)) fun v11=>(cond v11 (cond x0.bG (call (Z152.R x0.bA) fun v12=>ret ((!v12):Bool)) (ret (true:Bool))) bz)) bz)) bz)) bz)) bz)) bz)) bz)) bz)) bz)) bz)) bz))
def md (a0:aG):Bool:=(cond (Z147.md a0.bC) (cond (Z147.md a0.dm) (cond (Z147.md a0.dH) (cond (Z141.md a0.cN 0 200) (cond (Z141.md a0.bI 1 3) (cond (Z148.md a0) (cond (Z141.md a0.cy 0 12) (cond (Z151.md a0.bP) (cond (Z153.md a0.bD) (cond (Z153.md a0.bA) (cond (Z154.md a0.dw a0.bD) (cond a0.bG ((!(Z152.md a0.bA)):Bool) (true:Bool)) (false:Bool)) (false:Bool)) (false:Bool)) (false:Bool)) (false:Bool)) (false:Bool)) (false:Bool)) (false:Bool)) (false:Bool)) (false:Bool)) (false:Bool))
def gd (a0:aG):Prop:=(aG.Sm (2^21) a0)
def R:=RR gd md
def aj {a0}(h:gd a0):R (aG.r a0)=some (md a0):=aP (a:=a0) h
def aW:=CN [.agg gi] oB RT.dec R
def bt (a0)(hg:gd a0):F (aG.r a0)=ret (md a0):=by
 unfold gd at hg
 have H0:=hg
 unfold F md
 try simp only [SS]
 refine ct (Z147.aj trivial) ?_
 refine av ret (fun c1=>?_) (fun _=>rfl)
 refine ct (Z147.aj trivial) ?_
 refine av ret (fun c2=>?_) (fun _=>rfl)
 refine ct (Z147.aj trivial) ?_
 refine av ret (fun c3=>?_) (fun _=>rfl)
 refine ct (Z141.aj trivial) ?_
 refine av ret (fun c4=>?_) (fun _=>rfl)
 refine ct (Z141.aj trivial) ?_
 refine av ret (fun c5=>?_) (fun _=>rfl)
 refine ct (Z148.aj trivial) ?_
 refine av ret (fun c6=>?_) (fun _=>rfl)
 refine ct (Z141.aj trivial) ?_
 refine av ret (fun c7=>?_) (fun _=>rfl)
 refine ct (Z151.aj H0.1) ?_
 refine av ret (fun c8=>?_) (fun _=>rfl)
 refine ct (Z153.aj H0.2.1) ?_
 refine av ret (fun c9=>?_) (fun _=>rfl)
 refine ct (Z153.aj H0.2.2) ?_
 refine av ret (fun c10=>?_) (fun _=>rfl)
 refine ct (Z154.aj trivial) ?_
 refine av ret (fun c11=>?_) (fun _=>rfl)
 refine av ret (fun c12=>?_) (fun _=>rfl)
 refine ct (Z152.aj trivial) ?_
 all_goals exact fz
def af:cz 454 aW:=W1 67 F mix aF bt (.cons Z147.af (.cons Z141.af (.cons Z148.af (.cons Z151.af (.cons Z153.af (.cons Z154.af (.cons Z152.af .nil))))))) Tryz.func454
def br (a0:aG):md a0=Z53.md a0:=by
 unfold md Z53.md
 simp only [Z151.br,Z141.br,Z147.md,Z153.md,Z154.md,Z152.br]
 have hs:Z148.md a0=(Z47.md a0.cK 0 100000&&(Z47.md a0.cC a0.cK 100000&&!decide ((i64.wrap (a0.cC - a0.cK))>200))):=by
  rw [Bool.eq_iff_iff]
  simp [Z148.md,Z47.md]
  omega
 have hk:Z51.md a0.bA=true->Z52.md a0.bA=false:=fun h=>by
  have:=Z51.tr h
  have e:((a0.bA.aX.length:Int)==0)=false:=beq_eq_false_iff_ne.2 (by omega)
  unfold Z52.md
  rw [e]
  cases a0.bA.cF==0<;>rfl
 rw [hs]
 revert hk
 simp only [Bf,zY,Bool.and_assoc]
 generalize Z47.md a0.bC 0 2147483646=b1
 generalize Z47.md a0.dm 0 2147483646=b2
 generalize Z47.md a0.dH 0 2147483646=b3
 generalize Z47.md a0.cN 0 200=b4
 generalize Z47.md a0.bI 1 3=b5
 generalize Z47.md a0.cK 0 100000=b6
 generalize Z47.md a0.cC a0.cK 100000=b7
 generalize decide ((i64.wrap (a0.cC - a0.cK))>200)=b8
 generalize Z47.md a0.cy 0 12=b9
 generalize Z51.md a0.bP=b10
 generalize Z51.md a0.bD=kh
 generalize Z52.md a0.bD=nh
 generalize Z51.md a0.bA=kj
 generalize Z52.md a0.bA=nj
 generalize Z47.md a0.dw 1 500=lw
 have hw:(a0.dw != 0)=!(a0.dw==0):=rfl
 rw [hw]
 generalize (a0.dw==0)=w0
 generalize a0.bG=fz
 intro hk
 cases b1;· rfl
 cases b2;· rfl
 cases b3;· rfl
 cases b4;· rfl
 cases b5;· rfl
 cases b6;· rfl
 cases b7;· rfl
 cases b8;rotate_left;· rfl
 cases b9;· rfl
 cases b10;· rfl
 revert hk
 revert kh nh kj nj lw w0 fz
 decide
end Z155
namespace Z156
def F (x0:bE):aI:=(cq (ff (((2:Int)+(x0.aX.length:Int))*8)) (ret (([[L.int x0.cF],[L.int (x0.aX.length:Int)]]++x0.aX):aE)))
def md (a0:aM):List Int:=([a0.cF,(a0.aX.length:Int)]++a0.aX)
def gd (a0:aM):Prop:=(aM.Sm (2^21) a0)
def R:=RR gd md
def aj {a0}(h:gd a0):R (aM.r a0)=some ((md a0).map bk):=aP (a:=a0) h
def aW:=CN [.agg qa] (oL 3) RT.dec R
def bt (a0)(hg:gd a0):F (aM.r a0)=ret ((md a0).map bk):=by
 unfold gd at hg
 have H0:=hg
 unfold F md
 try simp only [SS]
 refine ak (have:=(H0).1;lm) ?_
 all_goals exact fz
def af:cz 459 aW:=W1 12 F mix aF bt .nil Tryz.func459
def len (a0:aM):(md a0).length=2+a0.aX.length:=by simp [md];omega
def br (a0:aM):md a0=Z54.md a0:=by
 unfold md Z54.md
 first
 | (simp only [id];done)
 | (simp only [id];rfl)
 | rfl
end Z156
namespace Z157
def F (x0 x1:Int):aI:=(call (Z141.R (x1,1,1000000000000)) fun v1=>(cond (!v1) (ret (0:Int)) (cond (decide (x1=0)) none (cond (decide (x1=0)) none (ret ((Int.tmod (i64.wrap ((Int.tmod x0 x1)+x1)) x1):Int))))))
def md (a0 a1:Int):Int:=(cond (!(Z141.md a1 1 1000000000000)) (0:Int) ((Int.tmod (i64.wrap ((Int.tmod a0 a1)+a1)) a1):Int))
def gd (a0 a1:Int):Prop:=True
def R:=RR (p2 gd) (u2 md)
def aj {a0 a1}(h:gd a0 a1):R (a0,a1)=some (md a0 a1):=aP (a:=(a0,a1)) h
def aW:=CN [pI,pI] oI RT.dec R
def bt (a0)(a1)(hg:gd a0 a1):F a0 a1=ret (md a0 a1):=by
 unfold F md
 try simp only [SS]
 refine ct (Z141.aj trivial) ?_
 refine av ret (fun _=>rfl) (fun c1=>?_)
 have dc1:=c1
 try simp only [DC] at dc1
 have Dc1:=c1
 try simp [Z141.md] at Dc1
 refine cT df ?_
 refine cT df ?_
 all_goals exact fz
def af:cz 572 aW:=W2 15 F mix aF bt (.cons Z141.af .nil) Tryz.func572
def br (a0 a1:Int):md a0 a1=Z55.md a0 a1:=by
 unfold md Z55.md
 first
 | (simp only [Z141.br];done)
 | (simp only [Z141.br];rfl)
 | rfl
end Z157
namespace Z158
inductive Pt where
 | p0 (a:Int) (b:aE) (c d:Int)
def pid:Pt->Nat
 | .p0 ..=>3
def ck:Pt->List V
 | .p0 a b c d=>[.int .i64 a,.sl none 3 b,.int .i64 c,.int .i64 d]
def cj:Pt->List aY
 | .p0 a b c d=>[]
def step (J:Pt->aI):Pt->aI
 | .p0 a b c d=>(cond (decide (d<c)) (m2 d (b.length:Int) (call (Z157.R ((jx b (toNat d)),2147483647)) fun v1=>J (.p0 (Int.tmod (i64.wrap ((i64.wrap ((i64.wrap (a*1000003))+v1))+13)) 2147483647) b c (i64.wrap (d+1))))) (ret (a:Int)))
def start (J:Pt->aI)(x0:aE):aI:=J (.p0 11 x0 (x0.length:Int) 0)
def live:Nat->Live:=fun i=>match i with | 3=>[(3,none),(6,none),(7,none),(8,none)] | _=>[]
def md (a0:List Int):Int:=(ep (S:=Int) (β:=Int) (fun (y1:Int) (s3:Int)=>(.inl (Int.tmod (i64.wrap ((i64.wrap ((i64.wrap (s3*1000003))+(Z157.md y1 2147483647)))+13)) 2147483647))) (fun (s3:Int)=>(s3:Int)) a0 11)
def gd (a0:List Int):Prop:=(bM (2^43) (fun y:Int=>True) a0)
def R:=RR gd md
def aj {a0}(h:gd a0):R (a0.map bk)=some (md a0):=aP (a:=a0) h
def aW:=CN [pL 3] oI RT.dec R
def bt (a0)(hg:gd a0):∃n,start (iter step n) (a0.map bk)=ret (md a0):=by
 unfold gd at hg
 have H0:=hg
 unfold start md
 try simp only [SS]
 have Bh2:a0.length<=maxLen:=(by
   have:=(H0).1
   try simp only [maxLen] at *
   omega)
 refine ex_eq (out:=ret) (eM (z:=0)) ?_
 refine dP (p:=Pt.p0 11 (a0.map bk) (a0.length:Int) 0) fz ?_
 refine cm (pt:=fun (i1:Nat) (s3:Int)=>Pt.p0 s3 (a0.map bk) (a0.length:Int) (i1:Int)) (s:=(11:Int)) (out:=ret) (fun _ _=>True) (fun J i1 s3 h2 hih2=>?_) (fun s3 hih2=>?_) trivial
 ·simp only [step,SS]
  have bb_:=Bh2
  simp only [maxLen] at bb_
  have:=(H0).1
  refine bB.yes (by apply decide_eq_true;omega) ?_
  refine bB.yes aJ ?_
  refine bB.yes (aO h2) ?_
  refine cr (Z157.aj trivial) ?_
  refine bB.inl trivial ?_
  rw [aH h2 Bh2]
  all_goals exact fz
 ·simp only [step,SS]
  have:=(H0).1
  refine dF (by apply decide_eq_false;omega) ?_
  refine ⟨0,?_⟩
  all_goals exact fz
def af:cz 532 aW:=L1 21 pid ck cj live step start mix aF bt (.cons Z157.af .nil) Tryz.func532
def br (a0:List Int):md a0=Z56.md a0:=by
 unfold md Z56.md
 first
 | (simp only [Z157.br];done)
 | (simp only [Z157.br];rfl)
 | rfl
end Z158
namespace Z159
def F (x0:bE)(x1:Int):aI:=(call (Z156.R x0) fun v1=>(cq (ff (((2:Int)+(v1.length:Int))*8)) (call (Z158.R ([[L.int 239],[L.int x1]]++v1)) fun v2=>ret (v2:Int))))
def md (a0:aM)(a1:Int):Int:=((Z158.md ([239,a1]++(Z156.md a0))):Int)
def gd (a0:aM)(a1:Int):Prop:=(aM.Sm (2^21) a0)
def R:=RR (p2 gd) (u2 md)
def aj {a0 a1}(h:gd a0 a1):R ((aM.r a0),a1)=some (md a0 a1):=aP (a:=(a0,a1)) h
def aW:=CN [.agg qa,pI] oI RT.dec R
def bt (a0)(a1)(hg:gd a0 a1):F (aM.r a0) a1=ret (md a0 a1):=by
 unfold gd at hg
 have H0:=hg
 unfold F md
 try simp only [SS]
 refine ct (Z156.aj H0) ?_
 try simp only [SS]
 refine ak (have:=Z156.len a0;have:=(H0).1;lm) ?_
 refine bg (Z158.md ([239,a1]++(Z156.md a0))) (rq (Z158.aj (a0:=([239,a1]++(Z156.md a0))) ⟨(have:=Z156.len a0;have:=(H0).1;om),fun _ _=>trivial⟩)) ?_
 all_goals exact fz
def af:cz 455 aW:=W2 11 F mix aF bt (.cons Z156.af (.cons Z158.af .nil)) Tryz.func455
def br (a0:aM)(a1:Int):md a0 a1=Z57.md a0 a1:=by
 unfold md Z57.md
 first
 | (simp only [Z156.br,Z158.br];done)
 | (simp only [Z156.br,Z158.br];rfl)
 | rfl
end Z159
namespace Z160
def F (x0:Bool):aI:=(cond x0 (ret (1:Int)) (ret (0:Int)))
def md (a0:Bool):Int:=(cond a0 (1:Int) (0:Int))
def gd (a0:Bool):Prop:=True
def R:=RR gd md
def aj {a0}(h:gd a0):R a0=some (md a0):=aP (a:=a0) h
def aW:=CN [pB] oI RT.dec R
def bt (a0)(hg:gd a0):F a0=ret (md a0):=by
 unfold F md
 try simp only [SS]
 refine av ret (fun _=>rfl) (fun _=>rfl)
def af:cz 237 aW:=W1 4 F mix aF bt .nil Tryz.func237
end Z160
namespace Z161
set_option maxHeartbeats 1000000 in
set_option maxRecDepth 100000 in
open Go.RowKit in
def Ar (b:Option Addr)(w:World):Calls Tryz.prog 538 #[.slice b 0 0,.int .i64 0] w fun e w'=>e=.returned (.slice b 0 0)/\w'=w:=by
 go_enter Tryz.func538,Tryz.ntmps538
 go_wp2
 go_ret
 exact ⟨rfl,rfl⟩
def Ba:Tryz.t3.size=1:=by kernel_rfl
def xB:Tryz.t3.bytes=8:=by kernel_rfl
set_option maxHeartbeats 1000000 in
set_option maxRecDepth 100000 in
open Go.RowKit in
def AK (b:Option Addr)(n:Nat)(w:World)(h0:0<n)(h1:n*8<=140737488355328):Calls Tryz.prog 538 #[.slice b 0 0,.int .i64 n] w fun e w'=>e=.returned (.slice (some ⟨w.heap.size,0,none⟩) 0 (grownCap w n 0 3))/\w'=(w.drew.alloc (.cells (Builtin.zeroCells #[.int .i64 0] n++Builtin.zeroCells #[.int .i64 0] (grownCap w n 0 3 - n)) 3)):=by
 have hp:(0:Int)<n:=by omega
 have hnn:¬((n:Int)<0):=by omega
 have hold:(Builtin.firstCells Tryz.t3.size 0 (.slice b 0 0)).run Tryz.prog w.drew=.ok ([]:List Value).toArray w.drew:=by
  cases b with
  | none=>exact run_firstCells_none _ _ _ _ _
  | some b=>exact run_firstCells_some _ _ _ _ _ _ [] (by simp) (fun j v hj=>by simp at hj)
 have H:=fun ty=>Lib.run_append_grow_zeros (P:=Tryz.prog) w 62 3 ty 3 Tryz.t3 (.int .i64 0) .i64 .i64 (by kernel_rfl) (by kernel_rfl) (by kernel_rfl) (by kernel_rfl) b 0 0 [] hold n h0 (by rw [Ba];omega) (by omega) (by omega) (by rw [xB];omega) (by
  rw [Nat.zero_add,nextslicecap_zero h0,xB];omega)
 simp only [Nat.zero_add,Array.empty_append] at H
 have H2:=Lib.hid H
 clear H hold
 go_enter Tryz.func538,Tryz.ntmps538
 go_wp2_with (at_builtin;refine Lib.wpList_append_run _ rfl _ _ _ _ rfl _ _ rfl rfl _ _ (H2.out _) ?_)
 go_ret
 exact ⟨rfl,rfl⟩
def R (x0:Int):Option (aE):=bif decide (0<=x0)&&decide (x0*8<=140737488355328) then some [] else none
def aj {a0:Int}(h:0<=a0/\a0*8<=140737488355328):R a0=some []:=by simp [R,h.1,h.2]
def sem:List L->Option (List L)
 | [y0]=>(R y0.toInt).map RT.enc
 | _=>none
def aW:ga:=⟨[.nil,.rd (.int .i64)],.one (.fr 3),sem⟩
def AO:Ev.cells 3=[aB]:=by kernel_rfl
def af:cz 538 aW:=by
 refine xy ⟨Tryz.f538,Tryz.func538,by kernel_rfl,by kernel_rfl⟩ rfl fun ls r w vs Z hs hf=>?_
 simp only [aW] at hs
 unfold sem at hs
 split at hs
 ·rename_i y
  obtain ⟨v,hv,hq⟩:=map_some hs
  unfold R at hv
  cases hc:(decide (0<=y.toInt)&&decide (y.toInt*8<=140737488355328))<;>simp only [hc,bh,bq] at hv
  ·cases hv
  injection hv with hv
  subst hv
  subst hq
  simp only [Bool.and_eq_true,decide_eq_true_eq] at hc
  cases hf with
  | cons h1 ht=>
   cases ht with
   | cons h2 ht=>
    cases ht
    obtain ⟨b,rfl⟩:=(show V0 Ev.cells w (A0 Z w) .nil _ from h1)
    have e2:_=Value.int .i64 y.toInt:=h2
    subst e2
    obtain ⟨n,hn⟩:∃n:Nat,y.toInt=n:=⟨y.toInt.toNat,by omega⟩
    rw [hn] at hc ⊢
    rcases Nat.eq_zero_or_pos n with h0 | h0
    ·subst h0
     exact (Ar b w).mono fun e w' ⟨h3,h4⟩=>⟨_,fun _=>False,h3,by rw [h4];exact Fr.refl _ _,fun b hb=>hb.elim,.nil _ _ _ _ rfl⟩
    ·refine (AK b n w h0 (by omega)).mono fun e w' ⟨h3,h4⟩=>⟨_,fun b=>b=w.heap.size,h3,?_,fun b hb=>?_,?_⟩
     ·rw [h4];exact ((Fr.refl w _).drew).alloc _
     ·subst hb;rw [h4];simp
     ·have hge:=grownCap_ge w n 0 3
      have hle:grownCap w n 0 3<=maxLen:=grownCap_le_maxLen w n 0 3 (by simp only [maxLen];omega)
      rw [h4]
      refine .sl _ 3 0 _ w.heap.size 3 _ _ (fun _ _=>Go.undef) (fun _ _ _=>False) rfl (zero_le _) hle (heap_alloc_new w.drew _) ?_ rfl (fun _ _ _ h=>h.elim) (fun _ _ _ _ _ h=>h.elim) (fun i j k hi=>by omega) (fun i j k hi=>by omega)
      rw [AO]
      simp only [Array.size_append,size_zeroCells,List.length_singleton]
      simp
      omega
 ·cases hs
end Z161
namespace Z162
inductive Pt where
 | p0 (a:aE) (b:Int) (c:aE) (d e:Int)
 | p1 (a:aE) (b c:Int) (d:aE)
def pid:Pt->Nat
 | .p0 ..=>3
 | .p1 ..=>11
def ck:Pt->List V
 | .p0 a b c d e=>[.sl none 62 a,.int .i64 b,.sl none 62 c,.int .i64 d,.int .i64 e]
 | .p1 a b c d=>[.own 0,.sl none 62 a,.int .i64 b,.int .i64 c]
def cj:Pt->List aY
 | .p0 a b c d e=>[]
 | .p1 a b c d=>[.row 3 d]
def step (J:Pt->aI):Pt->aI
 | .p0 a b c d e=>(cond (decide (e<d)) (m2 e (c.length:Int) (cond (decide ((i64.wrap (b+((oG c (toNat e)).length:Int)))<0)) none (J (.p0 a (i64.wrap (b+((oG c (toNat e)).length:Int))) c d (i64.wrap (e+1)))))) (call (Z161.R b) fun v1=>J (.p1 a (a.length:Int) 0 v1)))
 | .p1 a b c d=>(cond (decide (c<b)) (m2 c (a.length:Int) (cq (ff (((d.length:Int)+((oG a (toNat c)).length:Int))*8)) (J (.p1 a b (i64.wrap (c+1)) (d++(oG a (toNat c))))))) (ret (d:aE)))
def start (J:Pt->aI)(x0:aE):aI:=J (.p0 x0 0 x0 (x0.length:Int) 0)
def live:Nat->Live:=fun i=>match i with | 3=>[(0,none),(3,none),(9,none),(10,none),(11,none)] | 11=>[(6,none),(25,none),(26,none),(27,none)] | _=>[]
def md (a0:List (List Int)):List Int:=a0.flatten
def gd (a0:List (List Int)):Prop:=a0.length<=8/\∀x∈a0,x.length<=2^40
def R:=RR gd md
def aj {a0}(h:gd a0):R (a0.map (dO bk))=some ((md a0).map bk):=aP (a:=a0) h
def aW:=CN [pL 62] (oL 3) RT.dec R
def bt (a0)(hg:gd a0):∃n,start (iter step n) (a0.map (dO bk))=ret ((md a0).map bk):=by
 obtain ⟨hl,hx⟩:=hg
 have hs:∀i,i<=a0.length->((a0.take i).map List.length).sum<=i*2^40:=by
  intro i
  induction i with
  | zero=>intro _;simp
  | succ i ih=>
   intro hi
   rw [List.take_succ_eq_append_getElem (by omega)]
   have h1:=hx a0[i] (List.getElem_mem _)
   have h2:=ih (by omega)
   simp only [List.map_append,List.map_cons,List.map_nil,List.sum_append,List.sum_cons,List.sum_nil]
   omega
 have hstep:∀i (h:i<a0.length),((a0.take (i+1)).map List.length).sum=((a0.take i).map List.length).sum+a0[i].length:=by
  intro i hi
  rw [List.take_succ_eq_append_getElem (by omega)]
  simp only [List.map_append,List.map_cons,List.map_nil,List.sum_append,List.sum_cons,List.sum_nil]
  omega
 have hf:∀i,(a0.take i).flatten.length=((a0.take i).map List.length).sum:=fun i=>List.length_flatten
 have second:∀k i,i+k=a0.length->∃n,iter step n (Pt.p1 (a0.map (dO bk)) (a0.length:Int) (i:Int) ((a0.take i).flatten.map bk))=ret (a0.flatten.map bk:aE):=by
  intro k
  induction k with
  | zero=>
   intro i hi
   obtain rfl:i=a0.length:=by omega
   refine ⟨1,?_⟩
   show step (iter step 0) (Pt.p1 _ _ _ _)=_
   simp only [step]
   refine cT (by simp) ?_
   rw [List.take_length]
  | succ k ih=>
   intro i hi
   obtain ⟨n,hn⟩:=ih (i+1) (by omega)
   refine ⟨n+1,?_⟩
   show step (iter step n) (Pt.p1 _ _ _ _)=_
   have hlt:i<a0.length:=by omega
   have b1:=hs (i+1) (by omega)
   have b2:=hstep i hlt
   simp only [step,List.length_map,cE,qR]
   refine ak (by simp;omega) (ak (by simp) (ak (by simp;omega) (ak (iP ?_) ?_)))
   ·rw [eS hlt,hf];omega
   ·rw [aH hlt (by simp only [maxLen];omega),eS hlt,<-List.map_append]
    have e:(a0.take i).flatten++a0[i]=(a0.take (i+1)).flatten:=by
     rw [List.take_succ_eq_append_getElem (by omega)]
     simp only [List.flatten_append,List.flatten_cons,List.flatten_nil,List.append_nil]
    rw [e];exact hn
 have first:∀k i,i+k=a0.length->∃n,iter step n (Pt.p0 (a0.map (dO bk)) ((((a0.take i).map List.length).sum:Nat):Int) (a0.map (dO bk)) (a0.length:Int) (i:Int))=ret (a0.flatten.map bk:aE):=by
  intro k
  induction k with
  | zero=>
   intro i hi
   obtain rfl:i=a0.length:=by omega
   obtain ⟨n,hn⟩:=second a0.length 0 (by omega)
   refine ⟨n+1,?_⟩
   show step (iter step n) (Pt.p0 _ _ _ _ _)=_
   have b1:=hs a0.length (by omega)
   simp only [step]
   refine cT (by simp) (bg [] (Z161.aj ⟨by omega,by omega⟩) ?_)
   simpa using hn
  | succ k ih=>
   intro i hi
   obtain ⟨n,hn⟩:=ih (i+1) (by omega)
   refine ⟨n+1,?_⟩
   show step (iter step n) (Pt.p0 _ _ _ _ _)=_
   have hlt:i<a0.length:=by omega
   have b1:=hs (i+1) (by omega)
   have b2:=hstep i hlt
   simp only [step,List.length_map,cE,qR,eS hlt]
   have e:i64.wrap (((((a0.take i).map List.length).sum:Nat):Int)+(a0[i].length:Int))=((((a0.take (i+1)).map List.length).sum:Nat):Int):=by
    rw [Go.IntWalk.i64_in _ (by omega)];omega
   rw [e]
   refine ak (by simp;omega) (ak (by simp) (ak (by simp;omega) (cT (by simp) ?_)))
   rw [aH hlt (by simp only [maxLen];omega)]
   exact hn
 unfold md
 obtain ⟨n,hn⟩:=first a0.length 0 (by omega)
 refine ⟨n,?_⟩
 unfold start
 simpa using hn
def af:cz 458 aW:=L1 36 pid ck cj live step start mix aF bt (.cons Z161.af .nil) Tryz.func458
def len (a0:List (List Int)):(md a0).length=(a0.map List.length).sum:=by simp [md]
end Z162
namespace Z163
def F (x0:cg):aI:=(call (Z156.R x0.bP) fun v1=>(call (Z156.R x0.bD) fun v2=>(call (Z156.R x0.bA) fun v3=>(call (Z160.R x0.bG) fun v4=>(call (Z162.R [[L.sl [[L.int x0.bC],[L.int x0.cN],[L.int x0.bI],[L.int x0.cK],[L.int x0.cC],[L.int x0.cy],[L.int x0.dm],[L.int x0.dH]]],[L.sl v1],[L.sl v2],[L.sl [[L.int x0.dw]]],[L.sl v3],[L.sl [[L.int v4]]]]) fun v5=>ret (v5:aE))))))
def md (a0:aG):List Int:=(Z162.md [[a0.bC,a0.cN,a0.bI,a0.cK,a0.cC,a0.cy,a0.dm,a0.dH],(Z156.md a0.bP),(Z156.md a0.bD),[a0.dw],(Z156.md a0.bA),[(Z160.md a0.bG)]])
def gd (a0:aG):Prop:=(aG.Sm (2^21) a0)
def R:=RR gd md
def aj {a0}(h:gd a0):R (aG.r a0)=some ((md a0).map bk):=aP (a:=a0) h
def aW:=CN [.agg gi] (oL 3) RT.dec R
def bt (a0)(hg:gd a0):F (aG.r a0)=ret ((md a0).map bk):=by
 unfold gd at hg
 have H0:=hg
 unfold F md
 try simp only [SS]
 refine ct (Z156.aj H0.1) ?_
 try simp only [SS]
 refine ct (Z156.aj H0.2.1) ?_
 try simp only [SS]
 refine ct (Z156.aj H0.2.2) ?_
 try simp only [SS]
 refine ct (Z160.aj trivial) ?_
 refine bg ((Z162.md [[a0.bC,a0.cN,a0.bI,a0.cK,a0.cC,a0.cy,a0.dm,a0.dH],(Z156.md a0.bP),(Z156.md a0.bD),[a0.dw],(Z156.md a0.bA),[(Z160.md a0.bG)]]).map bk) (rq (Z162.aj (a0:=[[a0.bC,a0.cN,a0.bI,a0.cK,a0.cC,a0.cy,a0.dm,a0.dH],(Z156.md a0.bP),(Z156.md a0.bD),[a0.dw],(Z156.md a0.bA),[(Z160.md a0.bG)]]) ⟨(by simp),(by
   have:=Z156.len a0.bP
   have:=(H0.1).1
   have:=Z156.len a0.bD
   have:=(H0.2.1).1
   have:=Z156.len a0.bA
   have:=(H0.2.2).1
   intro x_ hx_
   simp only [List.mem_cons,List.not_mem_nil,or_false] at hx_
   rcases hx_ with hx_ | hx_ | hx_ | hx_ | hx_ | hx_
   all_goals (subst hx_;first | omega | (simp only [LN];omega)))⟩)) ?_
 try simp only [SS]
 all_goals exact fz
def af:cz 375 aW:=W1 38 F mix aF bt (.cons Z156.af (.cons Z160.af (.cons Z162.af .nil))) Tryz.func375
def len (a0:aG):(md a0).length=16+a0.bP.aX.length+a0.bD.aX.length+a0.bA.aX.length:=by unfold md;simp [Z162.md,Z156.len];omega
def br (a0:aG):md a0=Z58.md a0:=by
 rw [Z58.tM]
 unfold md Z162.md
 simp only [Z156.br,Z160.md,List.flatten_cons,List.flatten_nil,List.cons_append,List.nil_append,List.append_nil]
end Z163
namespace Z164
def F (x0:Int)(x1:aE):aI:=(call (Z162.R [[L.sl [[L.int x0]]],[L.sl x1],[L.sl [[L.int x0]]]]) fun v1=>(call (Z158.R v1) fun v2=>ret (v2:Int)))
def md (a0:Int)(a1:List Int):Int:=((Z158.md (Z162.md [[a0],a1,[a0]])):Int)
def gd (a0:Int)(a1:List Int):Prop:=(bM (2^40) (fun y:Int=>True) a1)
def R:=RR (p2 gd) (u2 md)
def aj {a0 a1}(h:gd a0 a1):R (a0,(a1.map bk))=some (md a0 a1):=aP (a:=(a0,a1)) h
def aW:=CN [pI,pL 3] oI RT.dec R
def bt (a0)(a1)(hg:gd a0 a1):F a0 (a1.map bk)=ret (md a0 a1):=by
 unfold gd at hg
 have H1:=hg
 unfold F md
 try simp only [SS]
 refine bg ((Z162.md [[a0],a1,[a0]]).map bk) (rq (Z162.aj (a0:=[[a0],a1,[a0]]) ⟨(by simp),(by
   have:=(H1).1
   intro x_ hx_
   simp only [List.mem_cons,List.not_mem_nil,or_false] at hx_
   rcases hx_ with hx_ | hx_ | hx_
   all_goals (subst hx_;first | omega | (simp only [LN];omega)))⟩)) ?_
 try simp only [SS]
 refine ct (Z158.aj ⟨(by
   have:=Z162.len [[a0],a1,[a0]]
   try simp only [LN] at this
   have:=(H1).1
   exact om),fun _ _=>trivial⟩) ?_
 all_goals exact fz
def af:cz 613 aW:=W2 13 F mix aF bt (.cons Z162.af (.cons Z158.af .nil)) Tryz.func613
def br (a0:Int)(a1:List Int):md a0 a1=Z59.md a0 a1:=by
 unfold md Z59.md
 first
 | (simp only [Z158.br];done)
 | (simp only [Z158.br];rfl)
 | rfl
end Z164
namespace Z165
def F (x0:Int)(x1:aE):aI:=(cq (ff (((1:Int)+(x1.length:Int))*8)) (call (Z164.R (x0,([[L.int 223]]++x1))) fun v1=>ret (v1:Int)))
def md (a0:Int)(a1:List Int):Int:=((Z164.md a0 ([223]++a1)):Int)
def gd (a0:Int)(a1:List Int):Prop:=(bM (2^39) (fun y:Int=>True) a1)
def R:=RR (p2 gd) (u2 md)
def aj {a0 a1}(h:gd a0 a1):R (a0,(a1.map bk))=some (md a0 a1):=aP (a:=(a0,a1)) h
def aW:=CN [pI,pL 3] oI RT.dec R
def bt (a0)(a1)(hg:gd a0 a1):F a0 (a1.map bk)=ret (md a0 a1):=by
 unfold gd at hg
 have H1:=hg
 unfold F md
 try simp only [SS]
 refine ak (have:=(H1).1;lm) ?_
 refine bg (Z164.md a0 ([223]++a1)) (rq (Z164.aj (a0:=a0) (a1:=([223]++a1)) ⟨(have:=(H1).1;om),fun _ _=>trivial⟩)) ?_
 all_goals exact fz
def af:cz 601 aW:=W2 10 F mix aF bt (.cons Z164.af .nil) Tryz.func601
def br (a0:Int)(a1:List Int):md a0 a1=Z60.md a0 a1:=by
 unfold md Z60.md
 first
 | (simp only [Z164.br];done)
 | (simp only [Z164.br];rfl)
 | rfl
end Z165
namespace Z166
def F (x0:bp)(x1:aE):aI:=(call (Z150.R x0.gU) fun v1=>(cond v1 (call (Z165.R (x0.gU,x1)) fun v2=>ret ((x0.jz==v2):Bool)) bz))
def md (a0:bp)(a1:List Int):Bool:=(cond (Z150.md a0.gU) ((a0.jz==(Z165.md a0.gU a1)):Bool) (false:Bool))
def gd (a0:bp)(a1:List Int):Prop:=(bM (2^38) (fun y:Int=>True) a1)
def R:=RR (p2 gd) (u2 md)
def aj {a0 a1}(h:gd a0 a1):R (a0,(a1.map bk))=some (md a0 a1):=aP (a:=(a0,a1)) h
def aW:=CN [.agg xZ,pL 3] oB RT.dec R
def bt (a0)(a1)(hg:gd a0 a1):F a0 (a1.map bk)=ret (md a0 a1):=by
 unfold gd at hg
 have H1:=hg
 unfold F md
 try simp only [SS]
 refine ct (Z150.aj trivial) ?_
 refine av ret (fun c1=>?_) (fun _=>rfl)
 refine ct (Z165.aj (H1.mono (by decide) (fun x hx=>trivial))) ?_
 all_goals exact fz
def af:cz 591 aW:=W2 17 F mix aF bt (.cons Z150.af (.cons Z165.af .nil)) Tryz.func591
def br (a0:bp)(a1:List Int):md a0 a1=Z61.md a0 a1:=by
 unfold md Z61.md
 first
 | (simp only [Z165.br];done)
 | (simp only [Z165.br];rfl)
 | rfl
end Z166
namespace Z167
def F (x0:bp)(x1 x2:List L):aI:=(cond (x0.gU==(gx x1)) (call (Z166.R (x0,(mw x2))) fun v1=>ret (v1:Bool)) bz)
def pats:List gj:=[.agg [aB,aB],.ptr [aB],.ptr [.sl 3]]
def res:RP:=.one (.rd (.bool))
def md (a0:bp)(a1:Int)(a2:List Int):Bool:=(cond (a0.gU==a1) ((Z166.md a0 a2):Bool) (false:Bool))
def gd (a0:bp)(a1:Int)(a2:List Int):Prop:=(bM (2^38) (fun y:Int=>True) a2)
def acc (ls:List L):bp×Int×aE:=((bp.dec ls),(gx (cM 1 (aA 2 ls))),(mw (cM 1 (aA 3 ls))))
def R:(bp×Int×aE)->Option Bool:=RR (p3 gd) (u3 md)
def aj {a0 a1 a2}(h:gd a0 a1 a2):R (a0,a1,(a2.map bk))=some (md a0 a1 a2):=aP (a:=(a0,a1,a2)) h
def aW:ga:=CN pats res acc R
def bt (a0:bp)(a1:Int)(a2:List Int)(p1 p2:List L)(e1:a1=(gx p1))(e2:(a2.map bk)=(mw p2))(hg:gd a0 a1 a2):F a0 p1 p2=ret ((md a0 a1 a2):Bool):=by
 unfold gd at hg
 have H2:=hg
 unfold F md
 try simp only [SS,<-e1,<-e2]
 refine av ret (fun c1=>?_) (fun _=>rfl)
 refine ct (Z166.aj H2) ?_
 all_goals exact fz
def mY (ls:List L)(a:bp×Int×List Int)(e:acc ls=Im.im a)(hg:(p3 gd) a):∃n:Nat,F (bp.dec ls) (cM 1 (aA 2 ls)) (cM 1 (aA 3 ls))=ret (Im.im ((u3 md) a)):=by
 have e0:a.1=(bp.dec ls):=(congrArg (fun x=>x.1) e.symm)
 have hn:=bt a.1 a.2.1 a.2.2 (cM 1 (aA 2 ls)) (cM 1 (aA 3 ls)) (congrArg (fun x=>x.2.1) e.symm) (congrArg (fun x=>x.2.2) e.symm) hg
 refine ⟨0,?_⟩
 rw [<-e0]
 exact hn
def af:cz 590 aW:=VP (live:=fun _=>[]) (nt:=14) (accr:=fun ls=>((bp.dec ls),(cM 1 (aA 2 ls)),(cM 1 (aA 3 ls)))) (run:=fun _ x=>F x.1 x.2.1 x.2.2) mix aF (.cons Z166.af .nil) Tryz.func590 (by kernel_rfl) (fun _ _=>by kernel_rfl) (fun ls a _ e hg=>mY ls a e hg)
end Z167
namespace Z168
inductive Pt where
 | p0 (a:aE) (b c:List L) (d e:Int)
def pid:Pt->Nat
 | .p0 ..=>2
def ck:Pt->List V
 | .p0 a b c d e=>[.sl none 428 a,.fn 590 [.dK none [aB] b 0,.dK none [.sl 3] c 0],.int .i64 d,.int .i64 e]
def cj:Pt->List aY
 | .p0 a b c d e=>[]
def step (J:Pt->aI):Pt->aI
 | .p0 a b c d e=>(cond (decide (e<d)) (m2 e (a.length:Int) (call (Z167.R ((bp.at a (toNat e)),(gx b),(mw c))) fun v1=>(cond v1 (ret (e:Int)) (J (.p0 a b c d (i64.wrap (e+1))))))) (ret ((-1):Int)))
def start (J:Pt->aI)(x0:aE)(x1 x2:List L):aI:=J (.p0 x0 x1 x2 (x0.length:Int) 0)
def live:Nat->Live:=fun i=>match i with | 2=>[(0,none),(1,none),(7,none),(8,none)] | _=>[]
def pats:List gj:=[.rd (.sl 428),.fn 590 [[aB],[.sl 3]]]
def res:RP:=.one (.rd (.int .i64))
abbrev E:Env:={ T:=assoc kG,G:=dD [(590,Z167.aW)],nt:=19 }
def step_eq (I:cI)(p:Pt):cY E live I (pid p) (bQ Tryz.f600) (fH (live (pid p)) (ck p) (cj p)) (cH E Tryz.f600 res)=step (fun q=>I (pid q) (ck q) (cj q)) p:=by
 cases p<;>kernel_rfl
def start_eq (I:cI)(ls:List L):eW E live I (bQ Tryz.f600) (dc pats ls) (cH E Tryz.f600 res)=start (fun q=>I (pid q) (ck q) (cj q)) (ls.headD .hole).aQ (cM 1 (aA 1 ls)) (cM 1 (aA 2 ls)):=by kernel_rfl
def run_eq (n:Nat)(ls:List L):eO E live Tryz.f600 res n (dc pats ls)=start (iter step n) (ls.headD .hole).aQ (cM 1 (aA 1 ls)) (cM 1 (aA 2 ls)):=cA (id:=pid) (vs:=ck) (hs:=cj) (step:=step) (start:=fun J=>start J (ls.headD .hole).aQ (cM 1 (aA 1 ls)) (cM 1 (aA 2 ls))) step_eq (fun I=>start_eq I ls) n
def md (a0:List bp)(a1:Int)(a2:List Int):Int:=(dW (S:=Unit) (β:=Int) (fun (i1:Nat) (y1:bp) (s3:Unit)=>(cond (Z167.md y1 a1 a2) (.inr ((i1:Int):Int)) (.inl ()))) (fun (s3:Unit)=>((-1):Int)) 0 a0 ())
def gd (a0:List bp)(a1:Int)(a2:List Int):Prop:=(bM (2^21) (fun y:bp=>bp.Sm (2^21) y) a0)/\(bM (2^38) (fun y:Int=>True) a2)
def acc (ls:List L):aE×Int×aE:=((ls.headD .hole).aQ,(gx (cM 1 (aA 1 ls))),(mw (cM 1 (aA 2 ls))))
def R:(aE×Int×aE)->Option Int:=RR (p3 gd) (u3 md)
def aj {a0 a1 a2}(h:gd a0 a1 a2):R ((a0.map bp.row),a1,(a2.map bk))=some (md a0 a1 a2):=aP (a:=(a0,a1,a2)) h
def aW:ga:=CN pats res acc R
def bt (a0:List bp)(a1:Int)(a2:List Int)(p1 p2:List L)(e1:a1=(gx p1))(e2:(a2.map bk)=(mw p2))(hg:gd a0 a1 a2):∃n,start (iter step n) (a0.map bp.row) p1 p2=ret ((md a0 a1 a2):Int):=by
 obtain ⟨H0,H2⟩:=hg
 unfold start md
 try simp only [SS,<-e1,<-e2]
 have Bh2:a0.length<=maxLen:=(by
   have:=(H0).1
   try simp only [maxLen] at *
   omega)
 refine ex_eq (out:=ret) (cX (z:=bp.zero)) ?_
 refine dP (p:=Pt.p0 (a0.map bp.row) p1 p2 (a0.length:Int) 0) fz ?_
 refine cm (pt:=fun (i1:Nat) (s3:Unit)=>Pt.p0 (a0.map bp.row) p1 p2 (a0.length:Int) (i1:Int)) (s:=(():Unit)) (out:=ret) (fun _ _=>True) (fun J i1 s3 h2 hih2=>?_) (fun s3 hih2=>?_) trivial
 ·simp only [step,SS,<-e1,<-e2]
  have bb_:=Bh2
  simp only [maxLen] at bb_
  have:=(H0).1
  refine bB.yes (by apply decide_eq_true;omega) ?_
  refine bB.yes aJ ?_
  refine bB.yes (aO h2) ?_
  refine cr (Z167.aj H2) ?_
  refine bB.bif (fun c4=>?_) (fun c4=>?_)
  ·refine bB.inr ?_
   all_goals exact fz
  ·refine bB.inl trivial ?_
   rw [aH h2 Bh2]
   all_goals exact fz
 ·simp only [step,SS,<-e1,<-e2]
  have:=(H0).1
  refine dF (by apply decide_eq_false;omega) ?_
  refine ⟨0,?_⟩
  all_goals exact fz
def mY (ls:List L)(a:List bp×Int×List Int)(e:acc ls=Im.im a)(hg:(p3 gd) a):∃n:Nat,start (iter step n) ((ls.headD .hole).aQ) (cM 1 (aA 1 ls)) (cM 1 (aA 2 ls))=ret (Im.im ((u3 md) a)):=by
 have e0:(a.1.map bp.row)=(ls.headD .hole).aQ:=(congrArg (fun x=>x.1) e.symm)
 obtain ⟨n,hn⟩:=bt a.1 a.2.1 a.2.2 (cM 1 (aA 1 ls)) (cM 1 (aA 2 ls)) (congrArg (fun x=>x.2.1) e.symm) (congrArg (fun x=>x.2.2) e.symm) hg
 refine ⟨n,?_⟩
 rw [<-e0]
 exact hn
def af:cz 600 aW:=VP (accr:=fun ls=>((ls.headD .hole).aQ,(cM 1 (aA 1 ls)),(cM 1 (aA 2 ls)))) (run:=fun n x=>start (iter step n) x.1 x.2.1 x.2.2) mix aF (.cons Z167.af .nil) Tryz.func600 (by kernel_rfl) run_eq (fun ls a _ e hg=>mY ls a e hg)
def fa (a0:List bp)(a1:Int)(a2:List Int):-1<=md a0 a1 a2/\md a0 a1 a2<(a0.length:Int):=by
 unfold md
 refine fK ?_ _ _
 all_goals
  intro i x s b h
  revert h
  simp only [Bool.cond_eq_ite]
  repeat' split
  all_goals (intro h;first | (cases h;rfl) | cases h)
def idx_eq (a0:List bp)(a1:Int)(a2:List Int):md a0 a1 a2=iT (fun y=>Z167.md y a1 a2) 0 a0:=by
 unfold md
 exact gI
end Z168
namespace Z169
def F (x0:aE)(x1 x2:List L):aI:=(call (Z168.R (x0,(gx x1),(mw x2))) fun v1=>ret ((decide (v1>=0)):Bool))
def pats:List gj:=[.rd (.sl 428),.fn 590 [[aB],[.sl 3]]]
def res:RP:=.one (.rd (.bool))
def md (a0:List bp)(a1:Int)(a2:List Int):Bool:=((decide ((Z168.md a0 a1 a2)>=0)):Bool)
def gd (a0:List bp)(a1:Int)(a2:List Int):Prop:=(bM (2^21) (fun y:bp=>bp.Sm (2^21) y) a0)/\(bM (2^38) (fun y:Int=>True) a2)
def acc (ls:List L):aE×Int×aE:=((ls.headD .hole).aQ,(gx (cM 1 (aA 1 ls))),(mw (cM 1 (aA 2 ls))))
def R:(aE×Int×aE)->Option Bool:=RR (p3 gd) (u3 md)
def aj {a0 a1 a2}(h:gd a0 a1 a2):R ((a0.map bp.row),a1,(a2.map bk))=some (md a0 a1 a2):=aP (a:=(a0,a1,a2)) h
def aW:ga:=CN pats res acc R
def bt (a0:List bp)(a1:Int)(a2:List Int)(p1 p2:List L)(e1:a1=(gx p1))(e2:(a2.map bk)=(mw p2))(hg:gd a0 a1 a2):F (a0.map bp.row) p1 p2=ret ((md a0 a1 a2):Bool):=by
 obtain ⟨H0,H2⟩:=hg
 unfold F md
 try simp only [SS,<-e1,<-e2]
 refine ct (Z168.aj ⟨H0,H2⟩) ?_
 have fv1_:=Z168.fa a0 a1 a2
 all_goals exact fz
def mY (ls:List L)(a:List bp×Int×List Int)(e:acc ls=Im.im a)(hg:(p3 gd) a):∃n:Nat,F ((ls.headD .hole).aQ) (cM 1 (aA 1 ls)) (cM 1 (aA 2 ls))=ret (Im.im ((u3 md) a)):=by
 have e0:(a.1.map bp.row)=(ls.headD .hole).aQ:=(congrArg (fun x=>x.1) e.symm)
 have hn:=bt a.1 a.2.1 a.2.2 (cM 1 (aA 1 ls)) (cM 1 (aA 2 ls)) (congrArg (fun x=>x.2.1) e.symm) (congrArg (fun x=>x.2.2) e.symm) hg
 refine ⟨0,?_⟩
 rw [<-e0]
 exact hn
def af:cz 589 aW:=VP (live:=fun _=>[]) (nt:=9) (accr:=fun ls=>((ls.headD .hole).aQ,(cM 1 (aA 1 ls)),(cM 1 (aA 2 ls)))) (run:=fun _ x=>F x.1 x.2.1 x.2.2) mix aF (.cons Z168.af .nil) Tryz.func589 (by kernel_rfl) (fun _ _=>by kernel_rfl) (fun ls a _ e hg=>mY ls a e hg)
def any_eq (a0:List bp)(a1:Int)(a2:List Int):md a0 a1 a2=a0.any (fun y=>Z167.md y a1 a2):=by
 unfold md
 rw [Z168.idx_eq]
 exact qV
end Z169
namespace Z170
inductive Pt where
 | p0 (a:aE) (b:Int) (c:aE) (d e:Int) (f:aE)
def pid:Pt->Nat
 | .p0 ..=>3
def ck:Pt->List V
 | .p0 a b c d e f=>[.sl none 428 a,.dz 0 0,.int .i64 b,.sl none 3 c,.int .i64 d,.int .i64 e]
def cj:Pt->List aY
 | .p0 a b c d e f=>[.box [.sl none 3 f]]
def step (J:Pt->aI):Pt->aI
 | .p0 a b c d e f=>(cond (decide (e<d)) (m2 e (c.length:Int) (call (Z169.R (a,(jx c (toNat e)),f)) fun v1=>(cond v1 (J (.p0 a (i64.wrap (b+1)) c d (i64.wrap (e+1)) f)) (J (.p0 a b c d (i64.wrap (e+1)) f))))) (ret (b:Int)))
def start (J:Pt->aI)(x0:bE)(x1 x2:aE):aI:=J (.p0 x2 0 x0.aX (x0.aX.length:Int) 0 x1)
def live:Nat->Live:=fun i=>match i with | 3=>[(2,none),(4,none),(7,none),(11,none),(12,none),(13,none)] | _=>[]
def md (a0:aM)(a1:List Int)(a2:List bp):Int:=(ep (S:=Int) (β:=Int) (fun (y1:Int) (s3:Int)=>(cond (Z169.md a2 y1 a1) (.inl (i64.wrap (s3+1))) (.inl s3))) (fun (s3:Int)=>(s3:Int)) a0.aX 0)
def gd (a0:aM)(a1:List Int)(a2:List bp):Prop:=(aM.Sm (2^21) a0)/\(bM (2^38) (fun y:Int=>True) a1)/\(bM (2^21) (fun y:bp=>bp.Sm (2^21) y) a2)
def R:=RR (p3 gd) (u3 md)
def aj {a0 a1 a2}(h:gd a0 a1 a2):R ((aM.r a0),(a1.map bk),(a2.map bp.row))=some (md a0 a1 a2):=aP (a:=(a0,a1,a2)) h
def aW:=CN [.agg qa,pL 3,pL 428] oI RT.dec R
def bt (a0)(a1)(a2)(hg:gd a0 a1 a2):∃n,start (iter step n) (aM.r a0) (a1.map bk) (a2.map bp.row)=ret (md a0 a1 a2):=by
 obtain ⟨H0,H1,H2⟩:=hg
 unfold start md
 try simp only [SS]
 have Bh2:a0.aX.length<=maxLen:=(by
   have:=(H0).1
   try simp only [maxLen] at *
   omega)
 refine ex_eq (out:=ret) (eM (z:=0)) ?_
 refine dP (p:=Pt.p0 (a2.map bp.row) 0 (a0.aX.map bk) (a0.aX.length:Int) 0 (a1.map bk)) fz ?_
 refine cm (pt:=fun (i1:Nat) (s3:Int)=>Pt.p0 (a2.map bp.row) s3 (a0.aX.map bk) (a0.aX.length:Int) (i1:Int) (a1.map bk)) (s:=(0:Int)) (out:=ret) (fun _ _=>True) (fun J i1 s3 h2 hih2=>?_) (fun s3 hih2=>?_) trivial
 ·simp only [step,SS]
  have bb_:=Bh2
  simp only [maxLen] at bb_
  have:=(H0).1
  refine bB.yes (by apply decide_eq_true;omega) ?_
  refine bB.yes aJ ?_
  refine bB.yes (aO h2) ?_
  refine cr (Z169.aj ⟨H2,H1⟩) ?_
  refine bB.bif (fun c4=>?_) (fun c4=>?_)
  ·refine bB.inl trivial ?_
   rw [aH h2 Bh2]
   all_goals exact fz
  ·refine bB.inl trivial ?_
   rw [aH h2 Bh2]
   all_goals exact fz
 ·simp only [step,SS]
  have:=(H0).1
  refine dF (by apply decide_eq_false;omega) ?_
  refine ⟨0,?_⟩
  all_goals exact fz
def af:cz 573 aW:=L3 24 pid ck cj live step start mix aF bt (.cons Z169.af .nil) Tryz.func573
def br (a0:aM)(a1:List Int)(a2:List bp):md a0 a1 a2=Z62.md a0 a1 a2:=by
 unfold md Z62.md
 refine pM (fun x _ s=>?_) (fun s=>rfl)
 rw [Z169.any_eq]
 refine Eq.trans ?_ (mP (β:=Int⊕Int) (p:=fun y=>Z167.md y x a1) (b:=Sum.inl (i64.wrap (s+1))) (c:=Sum.inl s) (fun y s'=>?_) a2 ()).symm
 ·cases a2.any (fun y=>Z167.md y x a1)<;>rfl
 ·unfold Z167.md
  simp only [Z166.br]
  cases y.gU==x<;>cases Z61.md y a1<;>rfl
end Z170
namespace Z171
def F (x0:bE)(x1 x2:aE):aI:=(call (Z151.R x0) fun v1=>(cond v1 (call (Z170.R (x0,x1,x2)) fun v2=>ret ((decide (v2>=x0.cF)):Bool)) bz))
def md (a0:aM)(a1:List Int)(a2:List bp):Bool:=(cond (Z151.md a0) ((decide ((Z170.md a0 a1 a2)>=a0.cF)):Bool) (false:Bool))
def gd (a0:aM)(a1:List Int)(a2:List bp):Prop:=(aM.Sm (2^21) a0)/\(bM (2^38) (fun y:Int=>True) a1)/\(bM (2^21) (fun y:bp=>bp.Sm (2^21) y) a2)
def R:=RR (p3 gd) (u3 md)
def aj {a0 a1 a2}(h:gd a0 a1 a2):R ((aM.r a0),(a1.map bk),(a2.map bp.row))=some (md a0 a1 a2):=aP (a:=(a0,a1,a2)) h
def aW:=CN [.agg qa,pL 3,pL 428] oB RT.dec R
def bt (a0)(a1)(a2)(hg:gd a0 a1 a2):F (aM.r a0) (a1.map bk) (a2.map bp.row)=ret (md a0 a1 a2):=by
 obtain ⟨H0,H1,H2⟩:=hg
 unfold F md
 try simp only [SS]
 refine ct (Z151.aj H0) ?_
 refine av ret (fun c1=>?_) (fun _=>rfl)
 refine ct (Z170.aj ⟨H0,H1,H2⟩) ?_
 all_goals exact fz
def af:cz 533 aW:=W3 18 F mix aF bt (.cons Z151.af (.cons Z170.af .nil)) Tryz.func533
def br (a0:aM)(a1:List Int)(a2:List bp):md a0 a1 a2=Z63.md a0 a1 a2:=by
 unfold md Z63.md
 first
 | (simp only [Z151.br,Z170.br];done)
 | (simp only [Z151.br,Z170.br];rfl)
 | rfl
end Z171
namespace Z172
def F (x0:aT)(x1:bE):aI:=(call (Z163.R x0.aq) fun v1=>(call (Z171.R (x1,v1,x0.cu)) fun v2=>ret (v2:Bool)))
def md (a0:aa)(a1:aM):Bool:=((Z171.md a1 (Z163.md a0.aq) a0.cu):Bool)
def gd (a0:aa)(a1:aM):Prop:=(aa.Sm (2^21) a0)/\(aM.Sm (2^21) a1)
def R:=RR (p2 gd) (u2 md)
def aj {a0 a1}(h:gd a0 a1):R ((aa.r a0),(aM.r a1))=some (md a0 a1):=aP (a:=(a0,a1)) h
def aW:=CN [.agg kI,.agg qa] oB RT.dec R
def bt (a0)(a1)(hg:gd a0 a1):F (aa.r a0) (aM.r a1)=ret (md a0 a1):=by
 obtain ⟨H0,H1⟩:=hg
 unfold F md
 try simp only [SS]
 refine ct (Z163.aj H0.1) ?_
 try simp only [SS]
 refine ct (Z171.aj ⟨H1,⟨(have:=Z163.len a0.aq;have:=(H0.1.1).1;have:=(H0.1.2.1).1;have:=(H0.1.2.2).1;om),fun _ _=>trivial⟩,H0.2⟩) ?_
 all_goals exact fz
def af:cz 456 aW:=W2 12 F mix aF bt (.cons Z163.af (.cons Z171.af .nil)) Tryz.func456
end Z172
namespace Z173
def F (x0:aT):aI:=(call (Z155.R x0.aq) fun v1=>(cond v1 (cond (x0.aq.cN==0) (cond (x0.aq.bI==1) (cond (!x0.aq.bG) (call (Z159.R (x0.aq.bP,x0.aq.dH)) fun v2=>(cond (x0.aq.bC==v2) (call (Z172.R (x0,x0.aq.bP)) fun v3=>ret (v3:Bool)) bz)) bz) bz) bz) bz))
def md (a0:aa):Bool:=(cond (Z155.md a0.aq) (cond (a0.aq.cN==0) (cond (a0.aq.bI==1) (cond (!a0.aq.bG) (cond (a0.aq.bC==(Z159.md a0.aq.bP a0.aq.dH)) ((Z172.md a0 a0.aq.bP):Bool) (false:Bool)) (false:Bool)) (false:Bool)) (false:Bool)) (false:Bool))
def gd (a0:aa):Prop:=(aa.Sm (2^21) a0)
def R:=RR gd md
def aj {a0}(h:gd a0):R (aa.r a0)=some (md a0):=aP (a:=a0) h
def aW:=CN [.agg kI] oB RT.dec R
def bt (a0)(hg:gd a0):F (aa.r a0)=ret (md a0):=by
 unfold gd at hg
 have H0:=hg
 unfold F md
 try simp only [SS]
 refine ct (Z155.aj H0.1) ?_
 refine av ret (fun c1=>?_) (fun _=>rfl)
 refine av ret (fun c2=>?_) (fun _=>rfl)
 refine av ret (fun c3=>?_) (fun _=>rfl)
 refine av ret (fun c4=>?_) (fun _=>rfl)
 refine ct (Z159.aj H0.1.1) ?_
 refine av ret (fun c5=>?_) (fun _=>rfl)
 refine ct (Z172.aj ⟨H0,H0.1.1⟩) ?_
 all_goals exact fz
def af:cz 372 aW:=W1 39 F mix aF bt (.cons Z155.af (.cons Z159.af (.cons Z172.af .nil))) Tryz.func372
def br (a0:aa):md a0=Z64.md a0:=by
 unfold md Z64.md
 simp only [Z172.md,Z171.br,Z163.br,Z155.br,Z159.br]
end Z173
namespace Z174
def F (x0:cg):aI:=(call (Z163.R x0) fun v1=>(cq (ff (((1:Int)+(v1.length:Int))*8)) (call (Z158.R ([[L.int 233]]++v1)) fun v2=>ret (v2:Int))))
def md (a0:aG):Int:=((Z158.md ([233]++(Z163.md a0))):Int)
def gd (a0:aG):Prop:=(aG.Sm (2^21) a0)
def R:=RR gd md
def aj {a0}(h:gd a0):R (aG.r a0)=some (md a0):=aP (a:=a0) h
def aW:=CN [.agg gi] oI RT.dec R
def bt (a0)(hg:gd a0):F (aG.r a0)=ret (md a0):=by
 unfold gd at hg
 have H0:=hg
 unfold F md
 try simp only [SS]
 refine ct (Z163.aj H0) ?_
 try simp only [SS]
 refine ak (have:=Z163.len a0;have:=(H0.1).1;have:=(H0.2.1).1;have:=(H0.2.2).1;lm) ?_
 refine bg (Z158.md ([233]++(Z163.md a0))) (rq (Z158.aj (a0:=([233]++(Z163.md a0))) ⟨(have:=Z163.len a0;have:=(H0.1).1;have:=(H0.2.1).1;have:=(H0.2.2).1;om),fun _ _=>trivial⟩)) ?_
 all_goals exact fz
def af:cz 574 aW:=W1 8 F mix aF bt (.cons Z163.af (.cons Z158.af .nil)) Tryz.func574
def br (a0:aG):md a0=Z65.md a0:=by
 unfold md Z65.md
 first
 | (simp only [Z163.br,Z158.br];done)
 | (simp only [Z163.br,Z158.br];rfl)
 | rfl
end Z174
namespace Z175
def F (x0 x1:cg):aI:=(cond (x1.bC==x0.bC) (cond (x1.cN==(i64.wrap (x0.cN+1))) (call (Z174.R x0) fun v1=>(cond (x1.dH==v1) (ret ((decide (x1.cK>=x0.cK)):Bool)) bz)) bz) bz)
def md (a0 a1:aG):Bool:=(cond (a1.bC==a0.bC) (cond (a1.cN==(i64.wrap (a0.cN+1))) (cond (a1.dH==(Z174.md a0)) ((decide (a1.cK>=a0.cK)):Bool) (false:Bool)) (false:Bool)) (false:Bool))
def gd (a0 a1:aG):Prop:=(aG.Sm (2^21) a0)
def R:=RR (p2 gd) (u2 md)
def aj {a0 a1}(h:gd a0 a1):R ((aG.r a0),(aG.r a1))=some (md a0 a1):=aP (a:=(a0,a1)) h
def aW:=CN [.agg gi,.agg gi] oB RT.dec R
def bt (a0)(a1)(hg:gd a0 a1):F (aG.r a0) (aG.r a1)=ret (md a0 a1):=by
 unfold gd at hg
 have H0:=hg
 unfold F md
 try simp only [SS]
 refine av ret (fun c1=>?_) (fun _=>rfl)
 refine av ret (fun c2=>?_) (fun _=>rfl)
 refine ct (Z174.aj H0) ?_
 refine av ret (fun c3=>?_) (fun _=>rfl)
 all_goals exact fz
def af:cz 534 aW:=W2 32 F mix aF bt (.cons Z174.af .nil) Tryz.func534
end Z175
namespace Z176
def F (x0:cg)(x1:aT):aI:=(cond x0.bG (ret (4:Int)) (cond x1.aq.bG (ret (6:Int)) (call (Z172.R (x1,x0.bP)) fun v1=>(cond (!v1) (ret (7:Int)) (ret (1:Int))))))
def md (a0:aG)(a1:aa):Int:=(cond a0.bG (4:Int) (cond a1.aq.bG (6:Int) (cond (!(Z172.md a1 a0.bP)) (7:Int) (1:Int))))
def gd (a0:aG)(a1:aa):Prop:=(aG.Sm (2^21) a0)/\(aa.Sm (2^21) a1)
def R:=RR (p2 gd) (u2 md)
def aj {a0 a1}(h:gd a0 a1):R ((aG.r a0),(aa.r a1))=some (md a0 a1):=aP (a:=(a0,a1)) h
def aW:=CN [.agg gi,.agg kI] oI RT.dec R
def bt (a0)(a1)(hg:gd a0 a1):F (aG.r a0) (aa.r a1)=ret (md a0 a1):=by
 obtain ⟨H0,H1⟩:=hg
 unfold F md
 try simp only [SS]
 refine av ret (fun _=>rfl) (fun c1=>?_)
 refine av ret (fun _=>rfl) (fun c2=>?_)
 refine ct (Z172.aj ⟨H1,H0.1⟩) ?_
 refine av ret (fun _=>rfl) (fun _=>rfl)
def af:cz 535 aW:=W2 18 F mix aF bt (.cons Z172.af .nil) Tryz.func535
end Z176
namespace Z177
inductive Pt where
 | p0 (a b:aE) (c d:Int)
def pid:Pt->Nat
 | .p0 ..=>4
def ck:Pt->List V
 | .p0 a b c d=>[.sl none 3 a,.sl none 3 b,.int .i64 c,.int .i64 d]
def cj:Pt->List aY
 | .p0 a b c d=>[]
def step (J:Pt->aI):Pt->aI
 | .p0 a b c d=>(cond (decide (d<c)) (m2 d (a.length:Int) (m2 d (b.length:Int) (cond ((jx a (toNat d)) != (jx b (toNat d))) bz (J (.p0 a b c (i64.wrap (d+1))))))) (ret (true:Bool)))
def start (J:Pt->aI)(x0 x1:aE):aI:=(cond ((x0.length:Int) != (x1.length:Int)) bz (J (.p0 x0 x1 (x0.length:Int) 0)))
def live:Nat->Live:=fun i=>match i with | 4=>[(0,none),(1,none),(12,none),(13,none)] | _=>[]
def md (a0 a1:List Int):Bool:=(bif ((a0.length:Int) != (a1.length:Int)) then (false:Bool) else (eD (S:=Unit) (β:=Bool) (fun (i2:Nat) (s4:Unit)=>(cond ((a0.getD i2 0) != (a1.getD i2 0)) (.inr (false:Bool)) (.inl ()))) (fun (s4:Unit)=>(true:Bool)) a0.length 0 ()))
def gd (a0 a1:List Int):Prop:=(bM (2^38) (fun y:Int=>True) a0)/\(bM (2^38) (fun y:Int=>True) a1)
def R:=RR (p2 gd) (u2 md)
def aj {a0 a1}(h:gd a0 a1):R ((a0.map bk),(a1.map bk))=some (md a0 a1):=aP (a:=(a0,a1)) h
def aW:=CN [pL 3,pL 3] oB RT.dec R
def bt (a0)(a1)(hg:gd a0 a1):∃n,start (iter step n) (a0.map bk) (a1.map bk)=ret (md a0 a1):=by
 obtain ⟨H0,H1⟩:=hg
 unfold start md
 try simp only [SS]
 refine hU ret (fun _=>⟨0,rfl⟩) (fun c1=>?_)
 have dc1:=c1
 try simp only [DC] at dc1
 have Bh3:a0.length<=maxLen:=(by
   have:=(H0).1
   try simp only [maxLen] at *
   omega)
 refine dP (p:=Pt.p0 (a0.map bk) (a1.map bk) (a0.length:Int) 0) fz ?_
 refine cm (pt:=fun (i2:Nat) (s4:Unit)=>Pt.p0 (a0.map bk) (a1.map bk) (a0.length:Int) (i2:Int)) (s:=(():Unit)) (out:=ret) (fun _ _=>True) (fun J i2 s4 h3 hih3=>?_) (fun s4 hih3=>?_) trivial
 ·simp only [step,SS]
  have bb_:=Bh3
  simp only [maxLen] at bb_
  have:=(H0).1
  refine bB.yes (by apply decide_eq_true;omega) ?_
  refine bB.yes aJ ?_
  refine bB.yes (aO h3) ?_
  refine bB.yes aJ ?_
  refine bB.yes (have:=(H1).1;dt) ?_
  refine bB.bif (fun _=>bB.inr rfl) (fun c5=>?_)
  refine bB.inl trivial ?_
  rw [aH h3 Bh3]
  all_goals exact fz
 ·simp only [step,SS]
  have:=(H0).1
  refine dF (by apply decide_eq_false;omega) ?_
  refine ⟨0,?_⟩
  all_goals exact fz
def af:cz 223 aW:=L2 26 pid ck cj live step start mix aF bt .nil Tryz.func223
def md_eq (a0 a1:List Int):md a0 a1=eg a0 a1:=by
 unfold md
 refine kA (0) (fun i s h h2=>?_) (fun s=>rfl)
 simp only [bne,fC,bool_beq,eV]
 cases eg _ _<;>rfl
end Z177
namespace Z178
def F (x0 x1:bE):aI:=(call (Z177.R (x0.aX,x1.aX)) fun v1=>(cond v1 (ret ((x0.cF==x1.cF):Bool)) bz))
def md (a0 a1:aM):Bool:=(cond (Z177.md a0.aX a1.aX) ((a0.cF==a1.cF):Bool) (false:Bool))
def gd (a0 a1:aM):Prop:=(aM.Sm (2^21) a0)/\(aM.Sm (2^21) a1)
def R:=RR (p2 gd) (u2 md)
def aj {a0 a1}(h:gd a0 a1):R ((aM.r a0),(aM.r a1))=some (md a0 a1):=aP (a:=(a0,a1)) h
def aW:=CN [.agg qa,.agg qa] oB RT.dec R
def bt (a0)(a1)(hg:gd a0 a1):F (aM.r a0) (aM.r a1)=ret (md a0 a1):=by
 obtain ⟨H0,H1⟩:=hg
 unfold F md
 try simp only [SS]
 refine ct (Z177.aj ⟨(H0.mono (by decide) (fun x hx=>trivial)),(H1.mono (by decide) (fun x hx=>trivial))⟩) ?_
 refine av ret (fun c1=>?_) (fun _=>rfl)
 all_goals exact fz
def af:cz 69 aW:=W2 17 F mix aF bt (.cons Z177.af .nil) Tryz.func69
def md_eq (a0 a1:aM):md a0 a1=eg a0 a1:=by
 unfold md
 cases a0;cases a1
 rw [Bool.eq_iff_iff]
 simp [dy,eV,aM.mk.injEq,Z177.md_eq]
 try (constructor<;>(intro h;simp_all))
end Z178
namespace Z179
def F (x0 x1:cg):aI:=(cond (x0.cy==x1.cy) (ret ((x0.dm==x1.dm):Bool)) bz)
def md (a0 a1:aG):Bool:=(cond (a0.cy==a1.cy) ((a0.dm==a1.dm):Bool) (false:Bool))
def gd (a0 a1:aG):Prop:=True
def R:=RR (p2 gd) (u2 md)
def aj {a0 a1}(h:gd a0 a1):R ((aG.r a0),(aG.r a1))=some (md a0 a1):=aP (a:=(a0,a1)) h
def aW:=CN [.agg gi,.agg gi] oB RT.dec R
def bt (a0)(a1)(hg:gd a0 a1):F (aG.r a0) (aG.r a1)=ret (md a0 a1):=by
 unfold F md
 try simp only [SS]
 refine av ret (fun c1=>?_) (fun _=>rfl)
 all_goals exact fz
def af:cz 575 aW:=W2 17 F mix aF bt .nil Tryz.func575
def br (a0 a1:aG):md a0 a1=Z69.md a0 a1:=by
 unfold md Z69.md
 first
 | (simp only [id];done)
 | (simp only [id];rfl)
 | rfl
end Z179
namespace Z180
def F (x0:cg)(x1:aT):aI:=(cond x0.bG (ret (4:Int)) (call (Z152.R x0.bD) fun v1=>(cond v1 (ret (5:Int)) (cond (decide (x1.aq.cK<(i64.wrap (x0.cC+x0.dw)))) (ret (5:Int)) (cond x1.aq.bG (ret (6:Int)) (call (Z178.R (x1.aq.bP,x0.bD)) fun v2=>(cond (!v2) (ret (6:Int)) (call (Z179.R (x1.aq,x0)) fun v3=>(cond (!v3) (ret (6:Int)) (call (Z172.R (x1,x0.bD)) fun v4=>(cond (!v4) (ret (7:Int)) (ret (1:Int)))))))))))))
def md (a0:aG)(a1:aa):Int:=(cond a0.bG (4:Int) (cond (Z152.md a0.bD) (5:Int) (cond (decide (a1.aq.cK<(i64.wrap (a0.cC+a0.dw)))) (5:Int) (cond a1.aq.bG (6:Int) (cond (!(Z178.md a1.aq.bP a0.bD)) (6:Int) (cond (!(Z179.md a1.aq a0)) (6:Int) (cond (!(Z172.md a1 a0.bD)) (7:Int) (1:Int))))))))
def gd (a0:aG)(a1:aa):Prop:=(aG.Sm (2^21) a0)/\(aa.Sm (2^21) a1)
def R:=RR (p2 gd) (u2 md)
def aj {a0 a1}(h:gd a0 a1):R ((aG.r a0),(aa.r a1))=some (md a0 a1):=aP (a:=(a0,a1)) h
def aW:=CN [.agg gi,.agg kI] oI RT.dec R
def bt (a0)(a1)(hg:gd a0 a1):F (aG.r a0) (aa.r a1)=ret (md a0 a1):=by
 obtain ⟨H0,H1⟩:=hg
 unfold F md
 try simp only [SS]
 refine av ret (fun _=>rfl) (fun c1=>?_)
 refine ct (Z152.aj trivial) ?_
 refine av ret (fun _=>rfl) (fun c2=>?_)
 refine av ret (fun _=>rfl) (fun c3=>?_)
 refine av ret (fun _=>rfl) (fun c4=>?_)
 refine ct (Z178.aj ⟨H1.1.1,H0.2.1⟩) ?_
 refine av ret (fun _=>rfl) (fun c5=>?_)
 refine ct (Z179.aj trivial) ?_
 refine av ret (fun _=>rfl) (fun c6=>?_)
 refine ct (Z172.aj ⟨H1,H0.2.1⟩) ?_
 refine av ret (fun _=>rfl) (fun _=>rfl)
def af:cz 536 aW:=W2 48 F mix aF bt (.cons Z152.af (.cons Z178.af (.cons Z179.af (.cons Z172.af .nil)))) Tryz.func536
end Z180
namespace Z181
def F (x0:cg)(x1:aT):aI:=(call (Z179.R (x1.aq,x0)) fun v1=>(cond v1 (call (Z178.R (x1.aq.bA,x0.bA)) fun v2=>(cond v2 (call (Z178.R (x1.aq.bD,x0.bD)) fun v3=>(cond v3 (call (Z152.R x0.bA) fun v4=>(cond v4 (ret (5:Int)) (cond (x1.aq.bG==x0.bG) (ret (6:Int)) (cond (!(x1.aq.dw==x0.dw)) (ret (6:Int)) (cond x1.aq.bG (call (Z178.R (x1.aq.bP,x0.bP)) fun v5=>(cond (!v5) (ret (6:Int)) (call (Z172.R (x1,x0.bA)) fun v6=>(cond (!v6) (ret (7:Int)) (ret (1:Int)))))) (call (Z172.R (x1,x0.bA)) fun v7=>(cond (!v7) (ret (7:Int)) (ret (1:Int))))))))) (call (Z152.R x0.bA) fun v8=>(cond v8 (ret (5:Int)) (cond (x1.aq.bG==x0.bG) (ret (6:Int)) (ret (6:Int))))))) (call (Z152.R x0.bA) fun v9=>(cond v9 (ret (5:Int)) (cond (x1.aq.bG==x0.bG) (ret (6:Int)) (ret (6:Int))))))) (call (Z152.R x0.bA) fun v10=>(cond v10 (ret (5:Int)) (cond (x1.aq.bG==x0.bG) (ret (6:Int)) (ret (6:Int)))))))
def md (a0:aG)(a1:aa):Int:=(cond (Z179.md a1.aq a0) (cond (Z178.md a1.aq.bA a0.bA) (cond (Z178.md a1.aq.bD a0.bD) (cond (Z152.md a0.bA) (5:Int) (cond (a1.aq.bG==a0.bG) (6:Int) (cond (!(a1.aq.dw==a0.dw)) (6:Int) (cond a1.aq.bG (cond (!(Z178.md a1.aq.bP a0.bP)) (6:Int) (cond (!(Z172.md a1 a0.bA)) (7:Int) (1:Int))) (cond (!(Z172.md a1 a0.bA)) (7:Int) (1:Int)))))) (cond (Z152.md a0.bA) (5:Int) (cond (a1.aq.bG==a0.bG) (6:Int) (6:Int)))) (cond (Z152.md a0.bA) (5:Int) (cond (a1.aq.bG==a0.bG) (6:Int) (6:Int)))) (cond (Z152.md a0.bA) (5:Int) (cond (a1.aq.bG==a0.bG) (6:Int) (6:Int))))
def gd (a0:aG)(a1:aa):Prop:=(aG.Sm (2^21) a0)/\(aa.Sm (2^21) a1)
def R:=RR (p2 gd) (u2 md)
def aj {a0 a1}(h:gd a0 a1):R ((aG.r a0),(aa.r a1))=some (md a0 a1):=aP (a:=(a0,a1)) h
def aW:=CN [.agg gi,.agg kI] oI RT.dec R
def bt (a0)(a1)(hg:gd a0 a1):F (aG.r a0) (aa.r a1)=ret (md a0 a1):=by
 obtain ⟨H0,H1⟩:=hg
 unfold F md
 try simp only [SS]
 refine ct (Z179.aj trivial) ?_
 refine av ret (fun c1=>?_) (fun c1=>?_)
 ·refine ct (Z178.aj ⟨H1.1.2.2,H0.2.2⟩) ?_
  refine av ret (fun c2=>?_) (fun c2=>?_)
  ·refine ct (Z178.aj ⟨H1.1.2.1,H0.2.1⟩) ?_
   refine av ret (fun c3=>?_) (fun c3=>?_)
   ·refine ct (Z152.aj trivial) ?_
    refine av ret (fun _=>rfl) (fun c4=>?_)
    refine av ret (fun _=>rfl) (fun c5=>?_)
    refine av ret (fun _=>rfl) (fun c6=>?_)
    refine av ret (fun c7=>?_) (fun c7=>?_)
    ·refine ct (Z178.aj ⟨H1.1.1,H0.1⟩) ?_
     refine av ret (fun _=>rfl) (fun c8=>?_)
     refine ct (Z172.aj ⟨H1,H0.2.2⟩) ?_
     refine av ret (fun _=>rfl) (fun _=>rfl)
    ·refine ct (Z172.aj ⟨H1,H0.2.2⟩) ?_
     refine av ret (fun _=>rfl) (fun _=>rfl)
   ·refine ct (Z152.aj trivial) ?_
    refine av ret (fun _=>rfl) (fun c11=>?_)
    refine av ret (fun _=>rfl) (fun _=>rfl)
  ·refine ct (Z152.aj trivial) ?_
   refine av ret (fun _=>rfl) (fun c13=>?_)
   refine av ret (fun _=>rfl) (fun _=>rfl)
 ·refine ct (Z152.aj trivial) ?_
  refine av ret (fun _=>rfl) (fun c15=>?_)
  refine av ret (fun _=>rfl) (fun _=>rfl)
def af:cz 537 aW:=W2 65 F mix aF bt (.cons Z179.af (.cons Z178.af (.cons Z152.af (.cons Z172.af .nil)))) Tryz.func537
end Z181
namespace Z182
def F (x0:cg)(x1:aT):aI:=(call (Z155.R x0) fun v1=>(cond (!v1) (ret (2:Int)) (call (Z155.R x1.aq) fun v2=>(cond (!v2) (ret (2:Int)) (call (Z175.R (x0,x1.aq)) fun v3=>(cond (!v3) (ret (3:Int)) (cond (x1.aq.bI==1) (call (Z176.R (x0,x1)) fun v4=>ret (v4:Int)) (cond (x1.aq.bI==2) (call (Z180.R (x0,x1)) fun v5=>ret (v5:Int)) (call (Z181.R (x0,x1)) fun v6=>ret (v6:Int))))))))))
def md (a0:aG)(a1:aa):Int:=(cond (!(Z155.md a0)) (2:Int) (cond (!(Z155.md a1.aq)) (2:Int) (cond (!(Z175.md a0 a1.aq)) (3:Int) (cond (a1.aq.bI==1) ((Z176.md a0 a1):Int) (cond (a1.aq.bI==2) ((Z180.md a0 a1):Int) ((Z181.md a0 a1):Int))))))
def gd (a0:aG)(a1:aa):Prop:=(aG.Sm (2^21) a0)/\(aa.Sm (2^21) a1)
def R:=RR (p2 gd) (u2 md)
def aj {a0 a1}(h:gd a0 a1):R ((aG.r a0),(aa.r a1))=some (md a0 a1):=aP (a:=(a0,a1)) h
def aW:=CN [.agg gi,.agg kI] oI RT.dec R
def bt (a0)(a1)(hg:gd a0 a1):F (aG.r a0) (aa.r a1)=ret (md a0 a1):=by
 obtain ⟨H0,H1⟩:=hg
 unfold F md
 try simp only [SS]
 refine ct (Z155.aj H0) ?_
 refine av ret (fun _=>rfl) (fun c1=>?_)
 refine ct (Z155.aj H1.1) ?_
 refine av ret (fun _=>rfl) (fun c2=>?_)
 refine ct (Z175.aj H0) ?_
 refine av ret (fun _=>rfl) (fun c3=>?_)
 refine av ret (fun c4=>?_) (fun c4=>?_)
 ·refine ct (Z176.aj ⟨H0,H1⟩) ?_
  all_goals exact fz
 ·refine av ret (fun c5=>?_) (fun c5=>?_)
  ·refine ct (Z180.aj ⟨H0,H1⟩) ?_
   all_goals exact fz
  ·refine ct (Z181.aj ⟨H0,H1⟩) ?_
   all_goals exact fz
def af:cz 457 aW:=W2 40 F mix aF bt (.cons Z155.af (.cons Z175.af (.cons Z176.af (.cons Z180.af (.cons Z181.af .nil))))) Tryz.func457
def br (a0:aG)(a1:aa):md a0 a1=Z72.md a0 a1:=by
 unfold md Z72.md Z175.md Z176.md Z180.md Z181.md Z172.md Z66.md Z70.md Z71.md
 simp only [Z155.br,Z174.br,Z171.br,Z163.br,Z152.br,Z178.md_eq,Z68.md_eq,Z179.br,bne]
 cases Z53.md a0
 ·rfl
 cases h2:Z53.md a1.aq
 ·rfl
 obtain ⟨⟨k1,k2⟩,_⟩:=Z53.tr h2
 have ht:decide (a1.aq.cK<a0.cK)=!decide (a1.aq.cK>=a0.cK):=by
  rw [Bool.eq_iff_iff];simp
 rw [ht]
 cases a1.aq.bC==a0.bC
 ·rfl
 cases a1.aq.cN==i64.wrap (a0.cN+1)
 ·rfl
 cases a1.aq.dH==Z65.md a0
 ·rfl
 cases decide (a1.aq.cK>=a0.cK)
 ·rfl
 have hk:a1.aq.bI=1∨a1.aq.bI=2∨a1.aq.bI=3:=by omega
 generalize Z63.md a0.bP (Z58.md a1.aq) a1.cu=s1
 generalize Z63.md a0.bD (Z58.md a1.aq) a1.cu=s2
 generalize Z63.md a0.bA (Z58.md a1.aq) a1.cu=s3
 generalize Z52.md a0.bD=n1
 generalize Z52.md a0.bA=n2
 generalize decide (a1.aq.cK<i64.wrap (a0.cC+a0.dw))=d1
 generalize eg a1.aq.bP a0.bD=e1
 generalize eg a1.aq.bA a0.bA=e2
 generalize eg a1.aq.bD a0.bD=e3
 generalize eg a1.aq.bP a0.bP=e4
 generalize Z69.md a1.aq a0=c1
 generalize (a1.aq.dw==a0.dw)=w1
 generalize a1.aq.bG=f1
 generalize a0.bG=f0
 rcases hk with hk | hk | hk<;>rw [hk]
 ·cases f0<;>cases f1<;>cases s1<;>rfl
 ·cases f0<;>cases n1<;>cases d1<;>cases f1<;>cases e1<;>cases c1<;>cases s2<;>rfl
 ·cases n2
  ·cases f1<;>cases f0<;>cases c1<;>cases e2<;>cases e3<;>cases w1<;>cases e4<;>cases s3<;>rfl
  ·cases c1<;>cases e2<;>cases e3<;>rfl
end Z182
namespace Z183
def F (x0:cg)(x1:aT):aI:=(call (Z182.R (x0,x1)) fun v1=>ret ((v1==1):Bool))
def md (a0:aG)(a1:aa):Bool:=(((Z182.md a0 a1)==1):Bool)
def gd (a0:aG)(a1:aa):Prop:=(aG.Sm (2^21) a0)/\(aa.Sm (2^21) a1)
def R:=RR (p2 gd) (u2 md)
def aj {a0 a1}(h:gd a0 a1):R ((aG.r a0),(aa.r a1))=some (md a0 a1):=aP (a:=(a0,a1)) h
def aW:=CN [.agg gi,.agg kI] oB RT.dec R
def bt (a0)(a1)(hg:gd a0 a1):F (aG.r a0) (aa.r a1)=ret (md a0 a1):=by
 obtain ⟨H0,H1⟩:=hg
 unfold F md
 try simp only [SS]
 refine ct (Z182.aj ⟨H0,H1⟩) ?_
 all_goals exact fz
def af:cz 373 aW:=W2 9 F mix aF bt (.cons Z182.af .nil) Tryz.func373
def br (a0:aG)(a1:aa):md a0 a1=Z73.md a0 a1:=by
 unfold md Z73.md
 first
 | (simp only [Z182.br];done)
 | (simp only [Z182.br];rfl)
 | rfl
end Z183
namespace Z184
inductive Pt where
 | p0 (a b:aE) (c d:Int)
def pid:Pt->Nat
 | .p0 ..=>2
def ck:Pt->List V
 | .p0 a b c d=>[.sl none 123 a,.sl none 123 b,.int .i64 c,.int .i64 d]
def cj:Pt->List aY
 | .p0 a b c d=>[]
def step (J:Pt->aI):Pt->aI
 | .p0 a b c d=>(cond (decide (d<c)) (m2 d (b.length:Int) (cond (d==0) (call (Z173.R (aT.at b (toNat d))) fun v1=>(cond (!v1) (ret (d:Int)) (cond (decide (d>0)) (cq (decide ((0:Int)<=(i64.wrap (d - 1)))) (cq (decide ((i64.wrap (d - 1))<(a.length:Int))) (call (Z183.R ((aT.at a (toNat (i64.wrap (d - 1)))).aq,(aT.at b (toNat d)))) fun v2=>(cond (!v2) (ret (d:Int)) (J (.p0 a b c (i64.wrap (d+1)))))))) (J (.p0 a b c (i64.wrap (d+1))))))) (cond (decide (d>0)) (cq (decide ((0:Int)<=(i64.wrap (d - 1)))) (cq (decide ((i64.wrap (d - 1))<(a.length:Int))) (call (Z183.R ((aT.at a (toNat (i64.wrap (d - 1)))).aq,(aT.at b (toNat d)))) fun v3=>(cond (!v3) (ret (d:Int)) (J (.p0 a b c (i64.wrap (d+1)))))))) (J (.p0 a b c (i64.wrap (d+1))))))) (ret ((-1):Int)))
def start (J:Pt->aI)(x0:aE):aI:=J (.p0 x0 x0 (x0.length:Int) 0)
def live:Nat->Live:=fun i=>match i with | 2=>[(0,none),(5,none),(6,none),(7,none)] | _=>[]
def md (a0:List aa):Int:=(dW (S:=Unit) (β:=Int) (fun (i1:Nat) (y1:aa) (s3:Unit)=>(cond ((i1:Int)==0) (cond (!(Z173.md y1)) (.inr ((i1:Int):Int)) (cond (decide ((i1:Int)>0)) (cond (!(Z183.md ((a0.getD (toNat (i64.wrap ((i1:Int) - 1))) aa.zero).aq) y1)) (.inr ((i1:Int):Int)) (.inl ())) (.inl ()))) (cond (decide ((i1:Int)>0)) (cond (!(Z183.md ((a0.getD (toNat (i64.wrap ((i1:Int) - 1))) aa.zero).aq) y1)) (.inr ((i1:Int):Int)) (.inl ())) (.inl ())))) (fun (s3:Unit)=>((-1):Int)) 0 a0 ())
def gd (a0:List aa):Prop:=(bM (2^21) (fun y:aa=>aa.Sm (2^21) y) a0)
def R:=RR gd md
def aj {a0}(h:gd a0):R (a0.map aa.row)=some (md a0):=aP (a:=a0) h
def aW:=CN [pL 123] oI RT.dec R
def bt (a0)(hg:gd a0):∃n,start (iter step n) (a0.map aa.row)=ret (md a0):=by
 unfold gd at hg
 have H0:=hg
 unfold start md
 try simp only [SS]
 have Bh2:a0.length<=maxLen:=(by
   have:=(H0).1
   try simp only [maxLen] at *
   omega)
 refine ex_eq (out:=ret) (cX (z:=aa.zero)) ?_
 refine dP (p:=Pt.p0 (a0.map aa.row) (a0.map aa.row) (a0.length:Int) 0) fz ?_
 refine cm (pt:=fun (i1:Nat) (s3:Unit)=>Pt.p0 (a0.map aa.row) (a0.map aa.row) (a0.length:Int) (i1:Int)) (s:=(():Unit)) (out:=ret) (fun _ _=>True) (fun J i1 s3 h2 hih2=>?_) (fun s3 hih2=>?_) trivial
 ·simp only [step,SS]
  have bb_:=Bh2
  simp only [maxLen] at bb_
  have:=(H0).1
  refine bB.yes (by apply decide_eq_true;omega) ?_
  refine bB.yes aJ ?_
  refine bB.yes (aO h2) ?_
  refine bB.bif (fun c4=>?_) (fun c4=>?_)
  ·have dc4:=c4
   try simp only [DC] at dc4
   refine cr (Z173.aj (bM.getD (z:=aa.zero) H0 h2)) ?_
   refine bB.bif (fun c5=>?_) (fun c5=>?_)
   ·refine bB.inr ?_
    all_goals exact fz
   ·have dc5:=c5
    try simp only [DC] at dc5
    refine bB.bif (fun c6=>?_) (fun c6=>?_)
    ·have dc6:=c6
     try simp only [DC] at dc6
     refine bB.yes dt ?_
     refine bB.yes (have:=(H0).1;dt) ?_
     refine cr (Z183.aj ⟨(bM.getD (z:=aa.zero) H0 (by first | assumption | omega | (simp (disch:=omega) only [wi];omega) | (simp;omega))).1,(bM.getD (z:=aa.zero) H0 h2)⟩) ?_
     refine bB.bif (fun c7=>?_) (fun c7=>?_)
     ·refine bB.inr ?_
      all_goals exact fz
     ·refine bB.inl trivial ?_
      rw [aH h2 Bh2]
      all_goals exact fz
    ·refine bB.inl trivial ?_
     rw [aH h2 Bh2]
     all_goals exact fz
  ·have dc4:=c4
   try simp only [DC] at dc4
   refine bB.bif (fun c8=>?_) (fun c8=>?_)
   ·have dc8:=c8
    try simp only [DC] at dc8
    refine bB.yes dt ?_
    refine bB.yes (have:=(H0).1;dt) ?_
    refine cr (Z183.aj ⟨(bM.getD (z:=aa.zero) H0 (by first | assumption | omega | (simp (disch:=omega) only [wi];omega) | (simp;omega))).1,(bM.getD (z:=aa.zero) H0 h2)⟩) ?_
    refine bB.bif (fun c9=>?_) (fun c9=>?_)
    ·refine bB.inr ?_
     all_goals exact fz
    ·refine bB.inl trivial ?_
     rw [aH h2 Bh2]
     all_goals exact fz
   ·refine bB.inl trivial ?_
    rw [aH h2 Bh2]
    all_goals exact fz
 ·simp only [step,SS]
  have:=(H0).1
  refine dF (by apply decide_eq_false;omega) ?_
  refine ⟨0,?_⟩
  all_goals exact fz
def af:cz 349 aW:=L1 36 pid ck cj live step start mix aF bt (.cons Z173.af (.cons Z183.af .nil)) Tryz.func349
def br (a0:List aa):md a0=Z74.md a0:=by
 unfold md Z74.md
 rw [<-cX (z:=aa.zero),<-cX (z:=aa.zero)]
 refine ux (fun _ _=>True) (fun i s hi _=>⟨?_,fun _ _=>trivial⟩) (fun _ _=>rfl) trivial
 simp only [Z173.br,Z183.br]
 by_cases h0:i=0
 ·subst h0;rfl
 ·have e:((i:Int)==0)=false:=beq_eq_false_iff_ne.2 (by omega)
  simp only [e,bq]
end Z184
namespace Z185
def F (x0:aE):aI:=(call (Z141.R ((x0.length:Int),1,12)) fun v1=>(cond v1 (call (Z184.R x0) fun v2=>ret ((decide (v2<0)):Bool)) bz))
def md (a0:List aa):Bool:=(cond (Z141.md (a0.length:Int) 1 12) ((decide ((Z184.md a0)<0)):Bool) (false:Bool))
def gd (a0:List aa):Prop:=(bM (2^21) (fun y:aa=>aa.Sm (2^21) y) a0)
def R:=RR gd md
def aj {a0}(h:gd a0):R (a0.map aa.row)=some (md a0):=aP (a:=a0) h
def aW:=CN [pL 123] oB RT.dec R
def bt (a0)(hg:gd a0):F (a0.map aa.row)=ret (md a0):=by
 unfold gd at hg
 have H0:=hg
 unfold F md
 try simp only [SS]
 refine ct (Z141.aj trivial) ?_
 refine av ret (fun c1=>?_) (fun _=>rfl)
 refine ct (Z184.aj H0) ?_
 all_goals exact fz
def af:cz 219 aW:=W1 11 F mix aF bt (.cons Z141.af (.cons Z184.af .nil)) Tryz.func219
def tr {a0:List aa}(h:md a0=true):1<=a0.length/\a0.length<=12:=by simp [md,Z141.md] at h;omega
def br (a0:List aa):md a0=Z75.md a0:=by
 unfold md Z75.md
 first
 | (simp only [Z141.br,Z184.br];done)
 | (simp only [Z141.br,Z184.br];rfl)
 | rfl
end Z185
namespace Z186
def F (x0:aE):aI:=(cq (decide ((0:Int)<=(i64.wrap ((x0.length:Int) - 1)))) (cq (decide ((i64.wrap ((x0.length:Int) - 1))<(x0.length:Int))) (ret ((aT.at x0 (toNat (i64.wrap ((x0.length:Int) - 1)))).aq:cg))))
def md (a0:List aa):aG:=(a0.getD (toNat (i64.wrap ((a0.length:Int) - 1))) aa.zero).aq
def gd (a0:List aa):Prop:=(bM (2^21) (fun y:aa=>aa.Sm (2^21) y) a0)/\(1<=a0.length)
def R:=RR gd md
def aj {a0}(h:gd a0):R (a0.map aa.row)=some (aG.r (md a0)):=aP (a:=a0) h
def aW:=CN [pL 123] (.agg [.rd (.int .i64),.rd (.int .i64),.rd (.int .i64),.rd (.int .i64),.rd (.int .i64),.rd (.int .i64),.rd (.int .i64),.rd (.int .i64),.rd (.sl 3),.rd (.int .i64),.rd (.sl 3),.rd (.int .i64),.rd (.int .i64),.rd (.sl 3),.rd (.int .i64),.rd (.bool)]) RT.dec R
def bt (a0)(hg:gd a0):F (a0.map aa.row)=ret (aG.r (md a0)):=by
 obtain ⟨H0,HX⟩:=hg
 unfold F md
 try simp only [SS]
 refine ak (have:=(H0).1;dt) ?_
 refine ak (have:=(H0).1;dt) ?_
 all_goals exact fz
def af:cz 228 aW:=W1 10 F mix aF bt .nil Tryz.func228
def gw {a0:List aa}(hg:gd a0):aG.Sm (2^21) (md a0):=by
 unfold gd at hg;unfold md
 have h1:=hg.1.1
 have h2:=hg.2
 exact (bM.getD hg.1 (by simp (disch:=omega) only [Go.IntWalk.i64_in];omega)).1
end Z186
namespace Z187
def F (x0:aV):aI:=(call (Z142.R x0.aZ) fun v1=>(cond (!v1) bz (cond (x0.bI==1) (call (Z141.R (x0.bX,0,999999)) fun v2=>(cond v2 (ret (((x0.bH.length:Int)==0):Bool)) bz)) (cond (x0.bI==2) (call (Z147.R x0.bX) fun v3=>(cond v3 (ret (((x0.bH.length:Int)==0):Bool)) bz)) (cond (x0.bI==3) (call (Z147.R x0.bX) fun v4=>(cond v4 (call (Z146.R x0.bH) fun v5=>ret (v5:Bool)) bz)) bz)))))
def md (a0:ah):Bool:=(cond (!(Z142.md a0.aZ)) (false:Bool) (cond (a0.bI==1) (cond (Z141.md a0.bX 0 999999) (((a0.bH.length:Int)==0):Bool) (false:Bool)) (cond (a0.bI==2) (cond (Z147.md a0.bX) (((a0.bH.length:Int)==0):Bool) (false:Bool)) (cond (a0.bI==3) (cond (Z147.md a0.bX) ((Z146.md a0.bH):Bool) (false:Bool)) (false:Bool)))))
def gd (a0:ah):Prop:=(ah.Sm (2^21) a0)
def R:=RR gd md
def aj {a0}(h:gd a0):R (ah.r a0)=some (md a0):=aP (a:=a0) h
def aW:=CN [.agg rE] oB RT.dec R
def bt (a0)(hg:gd a0):F (ah.r a0)=ret (md a0):=by
 unfold gd at hg
 have H0:=hg
 unfold F md
 try simp only [SS]
 refine ct (Z142.aj (le_trans H0.1 (by decide))) ?_
 refine av ret (fun _=>rfl) (fun c1=>?_)
 refine av ret (fun c2=>?_) (fun c2=>?_)
 ·refine ct (Z141.aj trivial) ?_
  refine av ret (fun c3=>?_) (fun _=>rfl)
  all_goals exact fz
 ·refine av ret (fun c4=>?_) (fun c4=>?_)
  ·refine ct (Z147.aj trivial) ?_
   refine av ret (fun c5=>?_) (fun _=>rfl)
   all_goals exact fz
  ·refine av ret (fun c6=>?_) (fun _=>rfl)
   refine ct (Z147.aj trivial) ?_
   refine av ret (fun c7=>?_) (fun _=>rfl)
   refine ct (Z146.aj (H0.2.mono (by decide) (fun x hx=>(le_trans hx (by decide))))) ?_
   all_goals exact fz
def af:cz 299 aW:=W1 41 F mix aF bt (.cons Z142.af (.cons Z141.af (.cons Z147.af (.cons Z146.af .nil)))) Tryz.func299
def br (a0:ah):md a0=Z77.md a0:=by
 unfold md Z77.md
 simp only [Z142.br,Z141.br,Z147.md,Z146.br]
 cases Z48.md a0.aZ<;>simp
end Z187
namespace Z188
set_option maxHeartbeats 1000000 in
set_option maxRecDepth 100000 in
open Go.RowKit in
def calls (a b:aD)(w:World):Calls Tryz.prog 433 #[.string a,.string b] w fun e w'=>e=.returned (.int .i64 (Lib.compareBytes a.data.toList b.data.toList))/\w'=w:=by
 go_enter Tryz.func433,Tryz.ntmps433
 go_wp2
 rw [run_callFunc_extern Tryz.func505 (by kernel_rfl) (by kernel_rfl) (by kernel_rfl) (e:=Extern.BytealgCompare.compare) (by kernel_rfl),Lib.run_compareString]
 simp only [Result.andThen]
 rw [Oper.upon_value]
 go_wp2
 go_ret
 exact ⟨rfl,rfl⟩
def md (a0 a1:aD):Int:=Lib.compareBytes a0.data.toList a1.data.toList
def R (x:aD×aD):Option Int:=some (md x.1 x.2)
def aj {a0 a1:aD}(_:True):R (a0,a1)=some (md a0 a1):=rfl
def sem:List L->Option (List L)
 | [y0,y1]=>(R (y0.toStr,y1.toStr)).map RT.enc
 | _=>none
def aW:ga:=⟨[.rd .str,.rd .str],.one (.rd (.int .i64)),sem⟩
def af:cz 433 aW:=by
 refine uk ⟨Tryz.f433,Tryz.func433,by kernel_rfl,by kernel_rfl⟩ rfl (fun _=>rfl) fun ls r w vs Z hs hf=>?_
 simp only [aW] at hs
 unfold sem at hs
 split at hs
 ·rename_i a b
  cases hf with
  | cons h1 ht=>
   cases ht with
   | cons h2 ht=>
    cases ht
    have e1:_=Value.string a.toStr:=h1
    have e2:_=Value.string b.toStr:=h2
    subst e1;subst e2
    refine (calls a.toStr b.toStr w).mono fun e w' ⟨h3,h4⟩=>⟨_,h3,h4,?_⟩
    injection hs with hs
    subst hs
    rfl
 ·cases hs
end Z188
namespace Z189
def F (x0 x1:aD):aI:=(call (Z188.R (x0,x1)) fun v1=>ret (v1:Int))
def md (a0 a1:aD):Int:=((Z188.md a0 a1):Int)
def gd (a0 a1:aD):Prop:=True
def R:=RR (p2 gd) (u2 md)
def aj {a0 a1}(h:gd a0 a1):R (a0,a1)=some (md a0 a1):=aP (a:=(a0,a1)) h
def aW:=CN [pS,pS] oI RT.dec R
def bt (a0)(a1)(hg:gd a0 a1):F a0 a1=ret (md a0 a1):=by
 unfold F md
 try simp only [SS]
 refine ct (Z188.aj trivial) ?_
 all_goals exact fz
def af:cz 340 aW:=W2 8 F mix aF bt (.cons Z188.af .nil) Tryz.func340
end Z189
namespace Z190
def F (x0 x1:aD):aI:=(call (Z189.R (x0,x1)) fun v1=>ret (v1:Int))
def md (a0 a1:aD):Int:=((Z189.md a0 a1):Int)
def gd (a0 a1:aD):Prop:=True
def R:=RR (p2 gd) (u2 md)
def aj {a0 a1}(h:gd a0 a1):R (a0,a1)=some (md a0 a1):=aP (a:=(a0,a1)) h
def aW:=CN [pS,pS] oI RT.dec R
def bt (a0)(a1)(hg:gd a0 a1):F a0 a1=ret (md a0 a1):=by
 unfold F md
 try simp only [SS]
 refine ct (Z189.aj trivial) ?_
 all_goals exact fz
def af:cz 204 aW:=W2 8 F mix aF bt (.cons Z189.af .nil) Tryz.func204
def cmp:∀a b:List UInt8,Lib.compareBytes a b=(cond (Op.bytesLess a b) ((-1):Int) (cond (!((Op.bytesLess a b)||(a==b))) (1:Int) (0:Int)))
 | [],[]=>by simp [Lib.compareBytes,Op.bytesLess]
 | [],_::_=>by simp [Lib.compareBytes,Op.bytesLess]
 | _::_,[]=>by simp [Lib.compareBytes,Op.bytesLess]
 | a::xs,b::ys=>by
  simp only [Lib.compareBytes,Op.bytesLess]
  rw [cmp xs ys]
  by_cases h1:a<b
  ·simp [h1]
  ·by_cases h2:b<a
   ·have hne:a≠b:=fun e=>by subst e;exact h1 h2
    have hb:(a==b)=false:=beq_eq_false_iff_ne.2 hne
    simp [h1,h2,hb,hne]
   ·have he:a=b:=by
     have:=UInt8.lt_or_eq_of_le (UInt8.not_lt.1 h1)
     rcases this with h | h
     ·exact (h2 h).elim
     ·exact h.symm
    subst he
    simp [h1]
def br (a0 a1:aD):md a0 a1=Z78.md a0 a1:=by
 unfold md Z78.md Z189.md Z188.md
 rw [cmp,ByteArray.toList_eq,ByteArray.toList_eq]
end Z190
namespace Z191
inductive Pt where
 | p0 (a b:aE) (c d:Int)
def pid:Pt->Nat
 | .p0 ..=>2
def ck:Pt->List V
 | .p0 a b c d=>[.sl none 61 a,.sl none 61 b,.int .i64 c,.int .i64 d]
def cj:Pt->List aY
 | .p0 a b c d=>[]
def step (J:Pt->aI):Pt->aI
 | .p0 a b c d=>(cond (decide (d<c)) (m2 d (b.length:Int) (call (Z187.R (aV.at b (toNat d))) fun v1=>(cond (!v1) bz (cond (decide (d>0)) (cq (decide ((0:Int)<=(i64.wrap (d - 1)))) (cq (decide ((i64.wrap (d - 1))<(a.length:Int))) (call (Z190.R ((aV.at b (toNat d)).aZ,(aV.at a (toNat (i64.wrap (d - 1)))).aZ)) fun v2=>(cond (decide (v2<=0)) bz (J (.p0 a b c (i64.wrap (d+1)))))))) (J (.p0 a b c (i64.wrap (d+1)))))))) (ret ((decide ((a.length:Int)<=12)):Bool)))
def start (J:Pt->aI)(x0:aE):aI:=J (.p0 x0 x0 (x0.length:Int) 0)
def live:Nat->Live:=fun i=>match i with | 2=>[(0,none),(5,none),(6,none),(7,none)] | _=>[]
def md (a0:List ah):Bool:=(dW (S:=Unit) (β:=Bool) (fun (i1:Nat) (y1:ah) (s3:Unit)=>(cond (!(Z187.md y1)) (.inr (false:Bool)) (cond (decide ((i1:Int)>0)) (cond (decide ((Z190.md (y1.aZ) ((a0.getD (toNat (i64.wrap ((i1:Int) - 1))) ah.zero).aZ))<=0)) (.inr (false:Bool)) (.inl ())) (.inl ())))) (fun (s3:Unit)=>((decide ((a0.length:Int)<=12)):Bool)) 0 a0 ())
def gd (a0:List ah):Prop:=(bM (2^21) (fun y:ah=>ah.Sm (2^21) y) a0)
def R:=RR gd md
def aj {a0}(h:gd a0):R (a0.map ah.row)=some (md a0):=aP (a:=a0) h
def aW:=CN [pL 61] oB RT.dec R
def bt (a0)(hg:gd a0):∃n,start (iter step n) (a0.map ah.row)=ret (md a0):=by
 unfold gd at hg
 have H0:=hg
 unfold start md
 try simp only [SS]
 have Bh2:a0.length<=maxLen:=(by
   have:=(H0).1
   try simp only [maxLen] at *
   omega)
 refine ex_eq (out:=ret) (cX (z:=ah.zero)) ?_
 refine dP (p:=Pt.p0 (a0.map ah.row) (a0.map ah.row) (a0.length:Int) 0) fz ?_
 refine cm (pt:=fun (i1:Nat) (s3:Unit)=>Pt.p0 (a0.map ah.row) (a0.map ah.row) (a0.length:Int) (i1:Int)) (s:=(():Unit)) (out:=ret) (fun _ _=>True) (fun J i1 s3 h2 hih2=>?_) (fun s3 hih2=>?_) trivial
 ·simp only [step,SS]
  have bb_:=Bh2
  simp only [maxLen] at bb_
  have:=(H0).1
  refine bB.yes (by apply decide_eq_true;omega) ?_
  refine bB.yes aJ ?_
  refine bB.yes (aO h2) ?_
  refine cr (Z187.aj (bM.getD (z:=ah.zero) H0 h2)) ?_
  refine bB.bif (fun _=>bB.inr rfl) (fun c4=>?_)
  have dc4:=c4
  try simp only [DC] at dc4
  refine bB.bif (fun c5=>?_) (fun c5=>?_)
  ·have dc5:=c5
   try simp only [DC] at dc5
   refine bB.yes dt ?_
   refine bB.yes (have:=(H0).1;dt) ?_
   refine cr (Z190.aj trivial) ?_
   refine bB.bif (fun _=>bB.inr rfl) (fun c6=>?_)
   refine bB.inl trivial ?_
   rw [aH h2 Bh2]
   all_goals exact fz
  ·refine bB.inl trivial ?_
   rw [aH h2 Bh2]
   all_goals exact fz
 ·simp only [step,SS]
  have:=(H0).1
  refine dF (by apply decide_eq_false;omega) ?_
  refine ⟨0,?_⟩
  all_goals exact fz
def af:cz 565 aW:=L1 35 pid ck cj live step start mix aF bt (.cons Z187.af (.cons Z190.af .nil)) Tryz.func565
def br (a0:List ah):md a0=Z79.md a0:=by
 unfold md Z79.md
 refine kZ (fun i x _ s=>?_) (fun s=>rfl)
 simp only [Z187.br,Z190.br,Z78.swap]
end Z191
namespace Z192
inductive Pt where
 | p0 (a:aE) (b c:Int) (d:aE)
def pid:Pt->Nat
 | .p0 ..=>3
def ck:Pt->List V
 | .p0 a b c d=>[.own 0,.sl none 5 a,.int .i64 b,.int .i64 c]
def cj:Pt->List aY
 | .p0 a b c d=>[.row 3 d]
def step (J:Pt->aI):Pt->aI
 | .p0 a b c d=>(cond (decide (c<b)) (m2 c (a.length:Int) (cq (ff (((d.length:Int)+1)*8)) (J (.p0 a b (i64.wrap (c+1)) (d++[[L.int (i64.wrap (jx a (toNat c)))]]))))) (ret (d:aE)))
def start (J:Pt->aI)(x0:aE):aI:=J (.p0 x0 (x0.length:Int) 0 [[L.int (x0.length:Int)]])
def live:Nat->Live:=fun i=>match i with | 3=>[(3,none),(9,none),(10,none),(11,none)] | _=>[]
def md (a0:List Int):List Int:=([(a0.length:Int)]++a0.map (fun (y1:Int)=>(i64.wrap y1)))
def gd (a0:List Int):Prop:=(bM (2^38) (fun y:Int=>True) a0)
def R:=RR gd md
def aj {a0}(h:gd a0):R (a0.map bk)=some ((md a0).map bk):=aP (a:=a0) h
def aW:=CN [pL 5] (oL 3) RT.dec R
def bt (a0)(hg:gd a0):∃n,start (iter step n) (a0.map bk)=ret ((md a0).map bk):=by
 unfold gd at hg
 have H0:=hg
 unfold start md
 try simp only [SS]
 have Bh2:a0.length<=maxLen:=(by
   have:=(H0).1
   try simp only [maxLen] at *
   omega)
 refine ex_eq (out:=(fun b:List Int=>ret ((b.map bk):aE))) (mh (g:=fun (y1:Int)=>(i64.wrap y1)) (z:=0) (t:=fun (s3:List Int)=>s3) (s:=[(a0.length:Int)])) ?_
 refine dP (p:=Pt.p0 (a0.map bk) (a0.length:Int) 0 ([(a0.length:Int)].map bk)) fz ?_
 refine cm (pt:=fun (i1:Nat) (s3:List Int)=>Pt.p0 (a0.map bk) (a0.length:Int) (i1:Int) (s3.map bk)) (s:=([(a0.length:Int)]:List Int)) (out:=(fun b:List Int=>ret ((b.map bk):aE))) (fun (i1:Nat) (s3:List Int)=>s3.length<=[(a0.length:Int)].length+1*i1) (fun J i1 s3 h2 hih2=>?_) (fun s3 hih2=>?_) (by simp)
 ·simp only [step,SS]
  have gr_:=hih2
  try simp only [LN] at gr_
  have:=(H0).1
  have bb_:=Bh2
  simp only [maxLen] at bb_
  have:=(H0).1
  refine bB.yes (by apply decide_eq_true;omega) ?_
  refine bB.yes aJ ?_
  refine bB.yes (aO h2) ?_
  refine bB.yes lm ?_
  refine bB.inl (by
    have g_:=hih2
    try simp only [LN] at g_ ⊢
    first | omega | (simp;done) | (simp;omega)) ?_
  rw [aH h2 Bh2]
  all_goals exact fz
 ·simp only [step,SS]
  have gr_:=hih2
  try simp only [LN] at gr_
  have:=(H0).1
  have:=(H0).1
  refine dF (by apply decide_eq_false;omega) ?_
  refine ⟨0,?_⟩
  all_goals exact fz
def af:cz 602 aW:=L1 22 pid ck cj live step start mix aF bt .nil Tryz.func602
def len (a0:List Int):(md a0).length=1+a0.length:=by simp [md];omega
def br (a0:List Int):md a0=Z80.md a0:=by
 unfold md Z80.md
 first
 | (simp only [id];done)
 | (simp only [id];rfl)
 | rfl
end Z192
namespace Z193
def F (x0:aD):aI:=(cq (decide ((x0.size:Int)<=140737488355328)) (call (Z192.R (iG x0)) fun v1=>ret (v1:aE)))
def md (a0:aD):List Int:=(Z192.md (jg a0))
def gd (a0:aD):Prop:=(a0.size<=(2^21))
def R:=RR gd md
def aj {a0}(h:gd a0):R a0=some ((md a0).map bk):=aP (a:=a0) h
def aW:=CN [pS] (oL 3) RT.dec R
def bt (a0)(hg:gd a0):F a0=ret ((md a0).map bk):=by
 unfold gd at hg
 have H0:=hg
 unfold F md
 try simp only [SS]
 refine ak (have:=H0;dt) ?_
 refine bg ((Z192.md (jg a0)).map bk) (rq (Z192.aj (a0:=(jg a0)) ⟨(have:=gV a0;have:=H0;om),fun _ _=>trivial⟩)) ?_
 try simp only [SS]
 all_goals exact fz
def af:cz 592 aW:=W1 6 F mix aF bt (.cons Z192.af .nil) Tryz.func592
def len (a0:aD):(md a0).length=1+a0.size:=by simp [md,Z192.len,gV]
def br (a0:aD):md a0=Z81.md a0:=by
 unfold md Z81.md
 first
 | (simp only [Z192.br];done)
 | (simp only [Z192.br];rfl)
 | rfl
end Z193
namespace Z194
inductive Pt where
 | p0 (a:aE) (b c:Int) (d:aE)
def pid:Pt->Nat
 | .p0 ..=>3
def ck:Pt->List V
 | .p0 a b c d=>[.own 0,.sl none 9 a,.int .i64 b,.int .i64 c]
def cj:Pt->List aY
 | .p0 a b c d=>[.row 3 d]
def step (J:Pt->aI):Pt->aI
 | .p0 a b c d=>(cond (decide (c<b)) (m2 c (a.length:Int) (call (Z193.R (qi a (toNat c))) fun v1=>(cq (ff (((d.length:Int)+(v1.length:Int))*8)) (J (.p0 a b (i64.wrap (c+1)) (d++v1)))))) (ret (d:aE)))
def start (J:Pt->aI)(x0:aV):aI:=(call (Z193.R x0.aZ) fun v1=>(cq (ff (((v1.length:Int)+3)*8)) (J (.p0 x0.bH (x0.bH.length:Int) 0 (v1++[[L.int x0.bI],[L.int x0.bX],[L.int (x0.bH.length:Int)]])))))
def live:Nat->Live:=fun i=>match i with | 3=>[(3,none),(19,none),(20,none),(21,none)] | _=>[]
def md (a0:ah):List Int:=(((Z193.md a0.aZ)++[a0.bI,a0.bX,(a0.bH.length:Int)])++a0.bH.flatMap (fun (y1:aD)=>(Z193.md y1)))
def gd (a0:ah):Prop:=(ah.Sm (2^21) a0)
def R:=RR gd md
def aj {a0}(h:gd a0):R (ah.r a0)=some ((md a0).map bk):=aP (a:=a0) h
def aW:=CN [.agg rE] (oL 3) RT.dec R
def bt (a0)(hg:gd a0):∃n,start (iter step n) (ah.r a0)=ret ((md a0).map bk):=by
 unfold gd at hg
 have H0:=hg
 unfold start md
 try simp only [SS]
 refine cx (Z193.aj H0.1) ?_
 try simp only [SS]
 refine dN (have:=Z193.len a0.aZ;have:=H0.1;lm) ?_
 have Bh2:a0.bH.length<=maxLen:=(by
   have:=(H0.2).1
   try simp only [maxLen] at *
   omega)
 refine ex_eq (out:=(fun b:List Int=>ret ((b.map bk):aE))) (qP (g:=fun (y1:aD)=>(Z193.md y1)) (z:=⟨#[]⟩) (t:=fun (s3:List Int)=>s3) (s:=((Z193.md a0.aZ)++[a0.bI,a0.bX,(a0.bH.length:Int)]))) ?_
 refine dP (p:=Pt.p0 (a0.bH.map cG) (a0.bH.length:Int) 0 (((Z193.md a0.aZ)++[a0.bI,a0.bX,(a0.bH.length:Int)]).map bk)) fz ?_
 refine cm (pt:=fun (i1:Nat) (s3:List Int)=>Pt.p0 (a0.bH.map cG) (a0.bH.length:Int) (i1:Int) (s3.map bk)) (s:=(((Z193.md a0.aZ)++[a0.bI,a0.bX,(a0.bH.length:Int)]):List Int)) (out:=(fun b:List Int=>ret ((b.map bk):aE))) (fun (i1:Nat) (s3:List Int)=>s3.length<=4+a0.aZ.size+i1*(2^21+1)) (fun J i1 s3 h2 hih2=>?_) (fun s3 hih2=>?_) (by
   have:=(H0.2).1
   have:=Z193.len a0.aZ
   have:=H0.1
   try simp only [LN]
   try simp
   try omega)
 ·simp only [step,SS]
  have gr_:=hih2
  try simp only [LN] at gr_
  have:=H0.1
  have bb_:=Bh2
  simp only [maxLen] at bb_
  have:=(H0.2).1
  refine bB.yes (by apply decide_eq_true;omega) ?_
  refine bB.yes aJ ?_
  refine bB.yes (aO h2) ?_
  refine cr (Z193.aj (bM.getD (z:=⟨#[]⟩) H0.2 h2)) ?_
  try simp only [SS]
  refine bB.yes (have:=Z193.len (a0.bH.getD i1 ⟨#[]⟩);have:=(bM.getD (z:=⟨#[]⟩) H0.2 h2);lm) ?_
  refine bB.inl (by
    have:=Z193.len (a0.bH.getD i1 ⟨#[]⟩)
    have:=(bM.getD (z:=⟨#[]⟩) H0.2 h2)
    have g_:=hih2
    try simp only [LN] at g_ ⊢
    first | omega | (simp;done) | (simp;omega)) ?_
  rw [aH h2 Bh2]
  all_goals exact fz
 ·simp only [step,SS]
  have gr_:=hih2
  try simp only [LN] at gr_
  have:=H0.1
  have:=(H0.2).1
  refine dF (by apply decide_eq_false;omega) ?_
  refine ⟨0,?_⟩
  all_goals exact fz
def af:cz 577 aW:=L1 31 pid ck cj live step start mix aF bt (.cons Z193.af .nil) Tryz.func577
def gw {a0:ah}(hg:gd a0):bM (2^43 - 1) (fun y:Int=>True) (md a0):=by
 unfold gd at hg
 refine ⟨?_,fun _ _=>trivial⟩
 unfold md
 have h1:=lP (xs:=a0.bH) (g:=fun y=>Z193.md y) (n:=2^21+1) (fun x hx=>by rw [Z193.len];have:=hg.2.2 x hx;omega)
 have h2:=hg.1
 have h3:=hg.2.1
 have h4:=Z193.len a0.aZ
 simp only [List.length_append,List.length_cons,List.length_nil]
 omega
def br (a0:ah):md a0=Z82.md a0:=by
 unfold md Z82.md
 first
 | (simp only [Z193.br];done)
 | (simp only [Z193.br];rfl)
 | rfl
end Z194
namespace Z195
def F (x0:aV):aI:=(call (Z194.R x0) fun v1=>(cq (ff (((1:Int)+(v1.length:Int))*8)) (call (Z158.R ([[L.int 227]]++v1)) fun v2=>ret (v2:Int))))
def md (a0:ah):Int:=((Z158.md ([227]++(Z194.md a0))):Int)
def gd (a0:ah):Prop:=(ah.Sm (2^21) a0)
def R:=RR gd md
def aj {a0}(h:gd a0):R (ah.r a0)=some (md a0):=aP (a:=a0) h
def aW:=CN [.agg rE] oI RT.dec R
def bt (a0)(hg:gd a0):F (ah.r a0)=ret (md a0):=by
 unfold gd at hg
 have H0:=hg
 unfold F md
 try simp only [SS]
 refine ct (Z194.aj H0) ?_
 try simp only [SS]
 refine ak (have:=((Z194.gw (a0:=a0) H0)).1;lm) ?_
 refine bg (Z158.md ([227]++(Z194.md a0))) (rq (Z158.aj (a0:=([227]++(Z194.md a0))) ⟨(have:=((Z194.gw (a0:=a0) H0)).1;om),fun _ _=>trivial⟩)) ?_
 all_goals exact fz
def af:cz 541 aW:=W1 8 F mix aF bt (.cons Z194.af (.cons Z158.af .nil)) Tryz.func541
def br (a0:ah):md a0=Z83.md a0:=by
 unfold md Z83.md
 first
 | (simp only [Z194.br,Z158.br];done)
 | (simp only [Z194.br,Z158.br];rfl)
 | rfl
end Z195
namespace Z196
inductive Pt where
 | p0 (a:aE) (b c:Int) (d:aE)
def pid:Pt->Nat
 | .p0 ..=>3
def ck:Pt->List V
 | .p0 a b c d=>[.own 0,.sl none 61 a,.int .i64 b,.int .i64 c]
def cj:Pt->List aY
 | .p0 a b c d=>[.row 3 d]
def step (J:Pt->aI):Pt->aI
 | .p0 a b c d=>(cond (decide (c<b)) (m2 c (a.length:Int) (call (Z195.R (aV.at a (toNat c))) fun v1=>(cq (ff (((d.length:Int)+1)*8)) (J (.p0 a b (i64.wrap (c+1)) (d++[[L.int v1]])))))) (ret (d:aE)))
def start (J:Pt->aI)(x0:aE):aI:=J (.p0 x0 (x0.length:Int) 0 [])
def live:Nat->Live:=fun i=>match i with | 3=>[(3,some 3),(7,none),(8,none),(9,none)] | _=>[]
def md (a0:List ah):List Int:=(a0.map (fun (y1:ah)=>(Z195.md y1)))
def gd (a0:List ah):Prop:=(bM (2^21) (fun y:ah=>ah.Sm (2^21) y) a0)
def R:=RR gd md
def aj {a0}(h:gd a0):R (a0.map ah.row)=some ((md a0).map bk):=aP (a:=a0) h
def aW:=CN [pL 61] (oL 3) RT.dec R
def bt (a0)(hg:gd a0):∃n,start (iter step n) (a0.map ah.row)=ret ((md a0).map bk):=by
 unfold gd at hg
 have H0:=hg
 unfold start md
 try simp only [SS]
 have Bh2:a0.length<=maxLen:=(by
   have:=(H0).1
   try simp only [maxLen] at *
   omega)
 refine ex_eq (out:=(fun b:List Int=>ret ((b.map bk):aE))) (ny (g:=fun (y1:ah)=>(Z195.md y1)) (z:=ah.zero) (t:=fun (s3:List Int)=>s3)) ?_
 refine dP (p:=Pt.p0 (a0.map ah.row) (a0.length:Int) 0 ([].map bk)) fz ?_
 refine cm (pt:=fun (i1:Nat) (s3:List Int)=>Pt.p0 (a0.map ah.row) (a0.length:Int) (i1:Int) (s3.map bk)) (s:=([]:List Int)) (out:=(fun b:List Int=>ret ((b.map bk):aE))) (fun (i1:Nat) (s3:List Int)=>s3.length<=([]:List Int).length+1*i1) (fun J i1 s3 h2 hih2=>?_) (fun s3 hih2=>?_) (by simp)
 ·simp only [step,SS]
  have gr_:=hih2
  try simp only [LN] at gr_
  have bb_:=Bh2
  simp only [maxLen] at bb_
  have:=(H0).1
  refine bB.yes (by apply decide_eq_true;omega) ?_
  refine bB.yes aJ ?_
  refine bB.yes (aO h2) ?_
  refine cr (Z195.aj (bM.getD (z:=ah.zero) H0 h2)) ?_
  refine bB.yes lm ?_
  refine bB.inl (by
    have g_:=hih2
    try simp only [LN] at g_ ⊢
    first | omega | (simp;done) | (simp;omega)) ?_
  rw [aH h2 Bh2]
  all_goals exact fz
 ·simp only [step,SS]
  have gr_:=hih2
  try simp only [LN] at gr_
  have:=(H0).1
  refine dF (by apply decide_eq_false;omega) ?_
  refine ⟨0,?_⟩
  all_goals exact fz
def af:cz 564 aW:=L1 20 pid ck cj live step start mix aF bt (.cons Z195.af .nil) Tryz.func564
def len (a0:List ah):(md a0).length=a0.length:=by simp [md]
def br (a0:List ah):md a0=Z84.md a0:=by
 unfold md Z84.md
 first
 | (simp only [Z195.br];done)
 | (simp only [Z195.br];rfl)
 | rfl
end Z196
namespace Z197
def F (x0:aE):aI:=(call (Z158.R x0) fun v1=>ret (v1:Int))
def md (a0:List Int):Int:=((Z158.md a0):Int)
def gd (a0:List Int):Prop:=(bM (2^42) (fun y:Int=>True) a0)
def R:=RR gd md
def aj {a0}(h:gd a0):R (a0.map bk)=some (md a0):=aP (a:=a0) h
def aW:=CN [pL 3] oI RT.dec R
def bt (a0)(hg:gd a0):F (a0.map bk)=ret (md a0):=by
 unfold gd at hg
 have H0:=hg
 unfold F md
 try simp only [SS]
 refine ct (Z158.aj (H0.mono (by decide) (fun x hx=>trivial))) ?_
 all_goals exact fz
def af:cz 578 aW:=W1 5 F mix aF bt (.cons Z158.af .nil) Tryz.func578
def br (a0:List Int):md a0=Z56.md a0:=by
 unfold md
 exact Z158.br a0
end Z197
namespace Z198
def F (x0 x1:Int):aI:=(call (Z197.R [[L.int 229],[L.int x0],[L.int x1]]) fun v1=>ret (v1:Int))
def md (a0 a1:Int):Int:=((Z197.md [229,a0,a1]):Int)
def gd (a0 a1:Int):Prop:=True
def R:=RR (p2 gd) (u2 md)
def aj {a0 a1}(h:gd a0 a1):R (a0,a1)=some (md a0 a1):=aP (a:=(a0,a1)) h
def aW:=CN [pI,pI] oI RT.dec R
def bt (a0)(a1)(hg:gd a0 a1):F a0 a1=ret (md a0 a1):=by
 unfold F md
 try simp only [SS]
 refine bg (Z197.md [229,a0,a1]) (rq (Z197.aj (a0:=[229,a0,a1]) ⟨(om),fun _ _=>trivial⟩)) ?_
 all_goals exact fz
def af:cz 576 aW:=W2 9 F mix aF bt (.cons Z197.af .nil) Tryz.func576
def br (a0 a1:Int):md a0 a1=Z85.md a0 a1:=by
 unfold md Z85.md
 first
 | (simp only [Z197.br];done)
 | (simp only [Z197.br];rfl)
 | rfl
end Z198
namespace Z199
inductive Pt where
 | p0 (a:aE) (b:Int) (c:aE)
def pid:Pt->Nat
 | .p0 ..=>3
def ck:Pt->List V
 | .p0 a b c=>[.sl none 3 a,.own 0,.int .i64 b]
def cj:Pt->List aY
 | .p0 a b c=>[.row 3 c]
def step (J:Pt->aI):Pt->aI
 | .p0 a b c=>(cond (decide (b<(a.length:Int))) (cond (decide ((i64.wrap (b+1))<(a.length:Int))) (m2 b (a.length:Int) (cq (decide ((0:Int)<=(i64.wrap (b+1)))) (cq (decide ((i64.wrap (b+1))<(a.length:Int))) (call (Z198.R ((jx a (toNat b)),(jx a (toNat (i64.wrap (b+1)))))) fun v1=>(cq (ff (((c.length:Int)+1)*8)) (J (.p0 a (i64.wrap (b+2)) (c++[[L.int v1]])))))))) (m2 b (a.length:Int) (cq (ff (((c.length:Int)+1)*8)) (J (.p0 a (i64.wrap (b+2)) (c++[[L.int (jx a (toNat b))]])))))) (ret (c:aE)))
def start (J:Pt->aI)(x0:aE):aI:=J (.p0 x0 0 [])
def live:Nat->Live:=fun i=>match i with | 3=>[(0,none),(3,some 3),(4,none)] | _=>[]
def md (a0:List Int):List Int:=Z86.md a0
def gd (a0:List Int):Prop:=bM (2^38) (fun y:Int=>True) a0
def R:=RR gd md
def aj {a0}(h:gd a0):R (a0.map bk)=some ((md a0).map bk):=aP (a:=a0) h
def aW:=CN [pL 3] (oL 3) RT.dec R
def bt (a0)(hg:gd a0):∃n,start (iter step n) (a0.map bk)=ret ((md a0).map bk):=by
 obtain ⟨H1,_⟩:=hg
 have key:∀(k i:Nat) (c:List Int),i+k=a0.length->c.length<=i->∃n,iter step n (Pt.p0 (a0.map bk) (i:Int) (c.map bk))=ret ((c++Z86.up (a0.drop i)).map bk:aE):=by
  intro k
  induction k using Nat.strongRecOn with
  | _ k ih=>
  intro i c hi hc
  match k,hi,ih with
  | 0,hi,_=>
   refine ⟨1,?_⟩
   show step (iter step 0) (Pt.p0 _ _ _)=_
   simp only [step,List.length_map]
   refine cT (decide_eq_false (by omega)) ?_
   rw [List.drop_eq_nil_of_le (by omega)]
   simp only [Z86.up,List.append_nil]
  | 1,hi,ih=>
   obtain ⟨n,hn⟩:=ih 0 (by omega) (i+1) (c++[a0.getD i 0]) (by omega) (by simp;omega)
   have h2:∃n,iter step n (Pt.p0 (a0.map bk) (i64.wrap ((i:Int)+2)) ((c++[a0.getD i 0]).map bk))=ret ((c++[a0.getD i 0]).map bk:aE):=by
    refine ⟨1,?_⟩
    show step (iter step 0) (Pt.p0 _ _ _)=_
    simp only [step,List.length_map]
    refine cT (decide_eq_false ?_) rfl
    rw [Go.IntWalk.i64_in _ (by omega)];omega
   obtain ⟨n,hn⟩:=h2
   refine ⟨n+1,?_⟩
   show step (iter step n) (Pt.p0 _ _ _)=_
   simp only [step,List.length_map,cE,gR]
   refine ak (decide_eq_true (by omega)) (cT (decide_eq_false ?_) (ak (decide_eq_true (by omega)) (ak (decide_eq_true (by omega)) (ak (iP (by omega)) ?_))))
   ·rw [Go.IntWalk.i64_in _ (by omega)];omega
   ·rw [List.map_append] at hn
    refine Eq.trans hn ?_
    rw [List.drop_eq_getElem_cons (by omega),List.drop_eq_nil_of_le (by omega),eS (by omega:i<a0.length)]
    simp only [Z86.up,List.map_append]
  | k+2,hi,ih=>
   obtain ⟨n,hn⟩:=ih k (by omega) (i+2) (c++[Z85.md (a0.getD i 0) (a0.getD (i+1) 0)]) (by omega) (by simp;omega)
   refine ⟨n+1,?_⟩
   show step (iter step n) (Pt.p0 _ _ _)=_
   have w1:i64.wrap ((i:Int)+1)=((i+1:Nat):Int):=by rw [Go.IntWalk.i64_in _ (by omega)];omega
   have w2:i64.wrap ((i:Int)+2)=((i+2:Nat):Int):=by rw [Go.IntWalk.i64_in _ (by omega)];omega
   simp only [step,List.length_map,w1,w2,cE,gR]
   refine ak (decide_eq_true (by omega)) (ak (decide_eq_true (by omega)) (ak (decide_eq_true (by omega)) (ak (decide_eq_true (by omega)) (ak (decide_eq_true (by omega)) (ak (decide_eq_true (by omega)) ?_)))))
   refine bg (Z85.md (a0.getD i 0) (a0.getD (i+1) 0)) (by have:=Z198.aj (a0:=a0.getD i 0) (a1:=a0.getD (i+1) 0) trivial;rw [Z198.br] at this;exact this) (ak (iP (by omega)) ?_)
   rw [List.map_append] at hn
   refine Eq.trans hn ?_
   rw [List.drop_eq_getElem_cons (by omega:i<a0.length),List.drop_eq_getElem_cons (by omega:i+1<a0.length),eS (by omega:i<a0.length),eS (by omega:i+1<a0.length)]
   simp only [Z86.up,List.append_assoc,List.cons_append,List.nil_append]
 have:=key a0.length 0 [] (by omega) (by simp)
 unfold start md Z86.md
 simpa using this
def af:cz 587 aW:=L1 38 pid ck cj live step start mix aF bt (.cons Z198.af .nil) Tryz.func587
def br (a0:List Int):md a0=Z86.md a0:=by
 unfold md Z86.md
 first
 | (simp only [Z198.br];done)
 | (simp only [Z198.br];rfl)
 | rfl
end Z199
namespace Z200
inductive Pt where
 | p0 (a:aE)
 | p1 (a:aE)
def pid:Pt->Nat
 | .p0 ..=>3
 | .p1 ..=>3
def ck:Pt->List V
 | .p0 a=>[.sl none 3 a]
 | .p1 a=>[.own 0]
def cj:Pt->List aY
 | .p0 a=>[]
 | .p1 a=>[.row 3 a]
def step (J:Pt->aI):Pt->aI
 | .p0 a=>(cond (decide ((a.length:Int)>1)) (call (Z199.R a) fun v1=>J (.p1 v1)) (cq (decide ((0:Int)<(a.length:Int))) (ret ((jx a 0):Int))))
 | .p1 a=>(cond (decide ((a.length:Int)>1)) (call (Z199.R a) fun v1=>J (.p1 v1)) (cq (decide ((0:Int)<(a.length:Int))) (ret ((jx a 0):Int))))
def start (J:Pt->aI)(x0:aE):aI:=(cond ((x0.length:Int)==0) (call (Z197.R [[L.int 229]]) fun v1=>ret (v1:Int)) (J (.p0 x0)))
def live:Nat->Live:=fun i=>match i with | 3=>[(0,none)] | _=>[]
def md (a0:List Int):Int:=Z87.md a0
def gd (a0:List Int):Prop:=bM (2^38) (fun y:Int=>True) a0
def R:=RR gd md
def aj {a0}(h:gd a0):R (a0.map bk)=some (md a0):=aP (a:=a0) h
def aW:=CN [pL 3] oI RT.dec R
def bt (a0)(hg:gd a0):∃n,start (iter step n) (a0.map bk)=ret (md a0):=by
 have one:∀(l:List Int) (r:Int) (n:Nat),bM (2^38) (fun y:Int=>True) l->0<l.length->(if l.length>1 then iter step n (Pt.p1 ((Z86.up l).map bk))=ret r else ret (l.getD 0 0:Int)=ret r)->step (iter step n) (Pt.p0 (l.map bk))=ret r/\step (iter step n) (Pt.p1 (l.map bk))=ret r:=by
  intro l r n hl hp h
  simp only [step,List.length_map,gR]
  by_cases h1:l.length>1
  ·rw [if_pos h1] at h
   have hx:∀y:aI,(cond (decide ((l.length:Int)>1)) (call (Z199.R (l.map bk)) (fun v1=>iter step n (Pt.p1 v1))) y)=ret r:=fun y=>
    ak (decide_eq_true (by omega)) (bg ((Z86.up l).map bk) (Z199.aj hl) h)
   exact ⟨hx _,hx _⟩
  ·rw [if_neg h1] at h
   have hx:∀y:aI,(cond (decide ((l.length:Int)>1)) y (cond (decide ((0:Int)<(l.length:Int))) (ret (l.getD 0 0:Int)) none))=ret r:=fun y=>
    cT (decide_eq_false (by omega)) (ak (decide_eq_true (by omega)) h)
   exact ⟨hx _,hx _⟩
 have key:∀(k:Nat) (l:List Int),bM (2^38) (fun y:Int=>True) l->0<l.length->l.length<=k+1->∃n,step (iter step n) (Pt.p0 (l.map bk))=ret (Z87.top k l)/\step (iter step n) (Pt.p1 (l.map bk))=ret (Z87.top k l):=by
  intro k
  induction k with
  | zero=>
   intro l hl hp hk
   exact ⟨0,one l _ 0 hl hp (by rw [if_neg (by omega)];rfl)⟩
  | succ k ih=>
   intro l hl hp hk
   by_cases h1:l.length>1
   ·have hu:=Z86.ku l
    have hl1:=hl.1
    obtain ⟨n,_,hn⟩:=ih (Z86.up l) ⟨by omega,fun _ _=>trivial⟩ (by omega) (by omega)
    refine ⟨n+1,one l _ (n+1) hl hp ?_⟩
    rw [if_pos h1]
    refine Eq.trans hn ?_
    unfold Z87.top
    rw [if_pos h1]
    cases k<;>rfl
   ·refine ⟨0,one l _ 0 hl hp ?_⟩
    rw [if_neg h1]
    unfold Z87.top
    rw [if_neg h1]
 unfold md Z87.md
 unfold start
 simp only [List.length_map]
 by_cases h0:a0.length=0
 ·have e:((a0.length:Int)==0)=true:=by simpa using List.length_eq_zero_iff.1 h0
  refine ⟨0,?_⟩
  rw [e]
  refine bg (Z56.md [229]) (by have:=Z197.aj (a0:=[229]) ⟨by decide,fun _ _=>trivial⟩;rw [Z197.br] at this;exact this) ?_
  rw [if_pos h0]
 ·have e:((a0.length:Int)==0)=false:=beq_eq_false_iff_ne.2 (by omega)
  obtain ⟨n,hn,_⟩:=key a0.length a0 hg (by omega) (by omega)
  refine ⟨n+1,?_⟩
  rw [e,if_neg h0]
  exact hn
def af:cz 579 aW:=L1 16 pid ck cj live step start mix aF bt (.cons Z197.af (.cons Z199.af .nil)) Tryz.func579
def br (a0:List Int):md a0=Z87.md a0:=by
 unfold md Z87.md
 first
 | (simp only [Z197.br,Z199.br];done)
 | (simp only [Z197.br,Z199.br];rfl)
 | rfl
end Z200
namespace Z201
def F (x0 x1:Int):aI:=(call (Z197.R [[L.int 231],[L.int x0],[L.int x1]]) fun v1=>ret (v1:Int))
def md (a0 a1:Int):Int:=((Z197.md [231,a0,a1]):Int)
def gd (a0 a1:Int):Prop:=True
def R:=RR (p2 gd) (u2 md)
def aj {a0 a1}(h:gd a0 a1):R (a0,a1)=some (md a0 a1):=aP (a:=(a0,a1)) h
def aW:=CN [pI,pI] oI RT.dec R
def bt (a0)(a1)(hg:gd a0 a1):F a0 a1=ret (md a0 a1):=by
 unfold F md
 try simp only [SS]
 refine bg (Z197.md [231,a0,a1]) (rq (Z197.aj (a0:=[231,a0,a1]) ⟨(om),fun _ _=>trivial⟩)) ?_
 all_goals exact fz
def af:cz 542 aW:=W2 9 F mix aF bt (.cons Z197.af .nil) Tryz.func542
def br (a0 a1:Int):md a0 a1=Z88.md a0 a1:=by
 unfold md Z88.md
 first
 | (simp only [Z197.br];done)
 | (simp only [Z197.br];rfl)
 | rfl
end Z201
namespace Z202
def F (x0:aE):aI:=(call (Z196.R x0) fun v1=>(call (Z200.R v1) fun v2=>(call (Z201.R ((x0.length:Int),v2)) fun v3=>ret (v3:Int))))
def md (a0:List ah):Int:=((Z201.md (a0.length:Int) (Z200.md (Z196.md a0))):Int)
def gd (a0:List ah):Prop:=(bM (2^21) (fun y:ah=>ah.Sm (2^21) y) a0)
def R:=RR gd md
def aj {a0}(h:gd a0):R (a0.map ah.row)=some (md a0):=aP (a:=a0) h
def aW:=CN [pL 61] oI RT.dec R
def bt (a0)(hg:gd a0):F (a0.map ah.row)=ret (md a0):=by
 unfold gd at hg
 have H0:=hg
 unfold F md
 try simp only [SS]
 refine ct (Z196.aj H0) ?_
 try simp only [SS]
 refine ct (Z200.aj ⟨(have:=Z196.len a0;have:=(H0).1;om),fun _ _=>trivial⟩) ?_
 refine ct (Z201.aj trivial) ?_
 all_goals exact fz
def af:cz 543 aW:=W1 9 F mix aF bt (.cons Z196.af (.cons Z200.af (.cons Z201.af .nil))) Tryz.func543
def br (a0:List ah):md a0=Z89.md a0:=by
 unfold md Z89.md
 first
 | (simp only [Z196.br,Z200.br,Z201.br];done)
 | (simp only [Z196.br,Z200.br,Z201.br];rfl)
 | rfl
end Z202
namespace Z203
def F (x0:Int)(x1:aE):aI:=(call (Z191.R x1) fun v1=>(cond v1 (call (Z202.R x1) fun v2=>ret ((v2==x0):Bool)) bz))
def md (a0:Int)(a1:List ah):Bool:=(cond (Z191.md a1) (((Z202.md a1)==a0):Bool) (false:Bool))
def gd (a0:Int)(a1:List ah):Prop:=(bM (2^21) (fun y:ah=>ah.Sm (2^21) y) a1)
def R:=RR (p2 gd) (u2 md)
def aj {a0 a1}(h:gd a0 a1):R (a0,(a1.map ah.row))=some (md a0 a1):=aP (a:=(a0,a1)) h
def aW:=CN [pI,pL 61] oB RT.dec R
def bt (a0)(a1)(hg:gd a0 a1):F a0 (a1.map ah.row)=ret (md a0 a1):=by
 unfold gd at hg
 have H1:=hg
 unfold F md
 try simp only [SS]
 refine ct (Z191.aj H1) ?_
 refine av ret (fun c1=>?_) (fun _=>rfl)
 refine ct (Z202.aj H1) ?_
 all_goals exact fz
def af:cz 560 aW:=W2 13 F mix aF bt (.cons Z191.af (.cons Z202.af .nil)) Tryz.func560
def br (a0:Int)(a1:List ah):md a0 a1=Z90.md a0 a1:=by
 unfold md Z90.md
 first
 | (simp only [Z191.br,Z202.br];done)
 | (simp only [Z191.br,Z202.br];rfl)
 | rfl
end Z203
namespace Z204
def F (x0:dQ):aI:=(call (Z185.R x0.aU) fun v1=>(cond (!v1) bz (call (Z186.R x0.aU) fun v2=>(cond (v2.cy==(x0.bO.length:Int)) (call (Z203.R (v2.dm,x0.bO)) fun v3=>ret (v3:Bool)) bz))))
def md (a0:aL):Bool:=(cond (!(Z185.md a0.aU)) (false:Bool) (cond ((Z186.md a0.aU).cy==(a0.bO.length:Int)) ((Z203.md ((Z186.md a0.aU).dm) a0.bO):Bool) (false:Bool)))
def gd (a0:aL):Prop:=(aL.Sm (2^21) a0)
def R:=RR gd md
def aj {a0}(h:gd a0):R (aL.r a0)=some (md a0):=aP (a:=a0) h
def aW:=CN [.agg sU] oB RT.dec R
def bt (a0)(hg:gd a0):F (aL.r a0)=ret (md a0):=by
 unfold gd at hg
 have H0:=hg
 unfold F md
 try simp only [SS]
 refine ct (Z185.aj H0.1) ?_
 refine av ret (fun _=>rfl) (fun c1=>?_)
 have dc1:=c1
 try simp only [DC] at dc1
 try have tc1:=Z185.tr (by simpa using c1)
 refine ct (Z186.aj ⟨H0.1,(by
   have:=(H0.1).1
   first | assumption | exact om)⟩) ?_
 try simp only [SS]
 refine av ret (fun c2=>?_) (fun _=>rfl)
 refine ct (Z203.aj H0.2) ?_
 all_goals exact fz
def af:cz 510 aW:=W1 24 F mix aF bt (.cons Z185.af (.cons Z186.af (.cons Z203.af .nil))) Tryz.func510
def tr {a0:aL}(h:md a0=true):1<=a0.aU.length:=by
 unfold md at h
 cases hc:Z185.md a0.aU
 ·rw [hc] at h;cases h
 ·exact (Z185.tr hc).1
def br (a0:aL):md a0=Z91.md a0:=by
 unfold md Z91.md
 rw [Z185.br,Z203.br]
 unfold Z186.md Z76.md
 cases h:Z75.md a0.aU
 ·rfl
 ·rfl
end Z204
end Go.DM
end
