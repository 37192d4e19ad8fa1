/- What the functions compute that the law reaches, and that the law returns true. Conditions: none. -/
import Derived.Test.YtbojpakoeellaaaGreatResolvePetTy
import Derived.Test.YtbojpakoeellaaaGreatResolvePetFnA
set_option linter.all false
set_option maxRecDepth 100000
noncomputable section
namespace Go.DM
open Go.Proofs
open Go.IntKind (i64)
open Int (toNat)
open Nat (le_trans zero_le)
namespace Z107
inductive Pt where
 | p0 (a b:aC) (c d e f g h i j k l m n o:Int) (p:Bool) (q s t u v w y z w24 w25 w26 w27:Int) (w28:Bool) (w29 w30 w31 w32 w33 w34 w35 w36 w37 w38 w39 w40:Int) (w41:Bool)
def pid:Pt->Nat
 | .p0 ..=>4
def cg:Pt->List V
 | .p0 a b c d e f g h i j k l m n o p q s t u v w y z w24 w25 w26 w27 w28 w29 w30 w31 w32 w33 w34 w35 w36 w37 w38 w39 w40 w41=>[.sl none 141 a,.sl none 141 b,.cQ 0 0,.int .i64 c]
def bZ:Pt->List aW
 | .p0 a b c d e f g h i j k l m n o p q s t u v w y z w24 w25 w26 w27 w28 w29 w30 w31 w32 w33 w34 w35 w36 w37 w38 w39 w40 w41=>[.box [.int .i64 d,.int .i64 e,.int .i64 f,.int .i64 g,.int .i64 h,.int .i64 i,.int .i64 j,.int .i64 k,.nil,.int .i64 l,.nil,.int .i64 m,.int .i64 n,.nil,.int .i64 o,.bool p,.nil,.int .i64 q,.int .i64 s,.int .i64 t,.int .i64 u,.int .i64 v,.int .i64 w,.int .i64 y,.int .i64 z,.nil,.int .i64 w24,.nil,.int .i64 w25,.int .i64 w26,.nil,.int .i64 w27,.bool w28,.nil,.int .i64 w29,.int .i64 w30,.int .i64 w31,.int .i64 w32,.int .i64 w33,.int .i64 w34,.int .i64 w35,.int .i64 w36,.nil,.int .i64 w37,.nil,.int .i64 w38,.int .i64 w39,.nil,.int .i64 w40,.bool w41,.nil]]
def step (J:Pt->aH):Pt->aH
 | .p0 a b c d e f g h i j k l m n o p q s t u v w y z w24 w25 w26 w27 w28 w29 w30 w31 w32 w33 w34 w35 w36 w37 w38 w39 w40 w41=>(cond (decide (c<(a.length:Int))) (cond (decide (c<(b.length:Int))) (m2 c (a.length:Int) (m2 c (b.length:Int) (call (Z104.R ((aR.at a (toNat c)).an,(aR.at b (toNat c)).an)) fun v1=>(cond v1 (J (.p0 a b (i64.wrap (c+1)) d e f g h i j k l m n o p q s t u v w y z w24 w25 w26 w27 w28 w29 w30 w31 w32 w33 w34 w35 w36 w37 w38 w39 w40 w41)) (m2 c (a.length:Int) (call (Z43.R (aR.at a (toNat c))) fun v2=>(m2 c (b.length:Int) (call (Z43.R (aR.at b (toNat c))) fun v3=>(cond (decide (c>0)) (ck (decide ((0:Int)<=(i64.wrap (c - 1)))) (ck (decide ((i64.wrap (c - 1))<(a.length:Int))) (call (Z43.R (aR.at a (toNat (i64.wrap (c - 1))))) fun v4=>ret (((⟨v4,v2,v3⟩:bH),true):bH×Bool)))) (ret (((⟨(⟨(⟨0,0,0,0,0,0,0,0,(⟨[],0⟩:bD),(⟨[],0⟩:bD),0,(⟨[],0⟩:bD),false⟩:bY),[]⟩:aR),v2,v3⟩:bH),true):bH×Bool))))))))))) (m2 c (a.length:Int) (call (Z43.R (aR.at a (toNat c))) fun v5=>(m2 c (b.length:Int) (call (Z43.R (aR.at b (toNat c))) fun v6=>(cond (decide (c>0)) (ck (decide ((0:Int)<=(i64.wrap (c - 1)))) (ck (decide ((i64.wrap (c - 1))<(a.length:Int))) (call (Z43.R (aR.at a (toNat (i64.wrap (c - 1))))) fun v7=>ret (((⟨v7,v5,v6⟩:bH),true):bH×Bool)))) (ret (((⟨(⟨(⟨0,0,0,0,0,0,0,0,(⟨[],0⟩:bD),(⟨[],0⟩:bD),0,(⟨[],0⟩:bD),false⟩:bY),[]⟩:aR),v5,v6⟩:bH),true):bH×Bool)))))))) (m2 c (a.length:Int) (call (Z43.R (aR.at a (toNat c))) fun v8=>(m2 c (b.length:Int) (call (Z43.R (aR.at b (toNat c))) fun v9=>(cond (decide (c>0)) (ck (decide ((0:Int)<=(i64.wrap (c - 1)))) (ck (decide ((i64.wrap (c - 1))<(a.length:Int))) (call (Z43.R (aR.at a (toNat (i64.wrap (c - 1))))) fun v10=>ret (((⟨v10,v8,v9⟩:bH),true):bH×Bool)))) (ret (((⟨(⟨(⟨0,0,0,0,0,0,0,0,(⟨[],0⟩:bD),(⟨[],0⟩:bD),0,(⟨[],0⟩:bD),false⟩:bY),[]⟩:aR),v8,v9⟩:bH),true):bH×Bool))))))))
def start (J:Pt->aH)(x0 x1:aC):aH:=(call (Z75.R x0) fun v1=>(cond (!v1) (ret (((⟨(⟨(⟨0,0,0,0,0,0,0,0,(⟨[],0⟩:bD),(⟨[],0⟩:bD),0,(⟨[],0⟩:bD),false⟩:bY),[]⟩:aR),(⟨(⟨0,0,0,0,0,0,0,0,(⟨[],0⟩:bD),(⟨[],0⟩:bD),0,(⟨[],0⟩:bD),false⟩:bY),[]⟩:aR),(⟨(⟨0,0,0,0,0,0,0,0,(⟨[],0⟩:bD),(⟨[],0⟩:bD),0,(⟨[],0⟩:bD),false⟩:bY),[]⟩:aR)⟩:bH),false):bH×Bool)) (call (Z75.R x1) fun v2=>(cond (!v2) (ret (((⟨(⟨(⟨0,0,0,0,0,0,0,0,(⟨[],0⟩:bD),(⟨[],0⟩:bD),0,(⟨[],0⟩:bD),false⟩:bY),[]⟩:aR),(⟨(⟨0,0,0,0,0,0,0,0,(⟨[],0⟩:bD),(⟨[],0⟩:bD),0,(⟨[],0⟩:bD),false⟩:bY),[]⟩:aR),(⟨(⟨0,0,0,0,0,0,0,0,(⟨[],0⟩:bD),(⟨[],0⟩:bD),0,(⟨[],0⟩:bD),false⟩:bY),[]⟩:aR)⟩:bH),false):bH×Bool)) (ck (decide ((0:Int)<(x0.length:Int))) (ck (decide ((0:Int)<(x1.length:Int))) (cond ((aR.at x0 0).an.bC != (aR.at x1 0).an.bC) (ret (((⟨(⟨(⟨0,0,0,0,0,0,0,0,(⟨[],0⟩:bD),(⟨[],0⟩:bD),0,(⟨[],0⟩:bD),false⟩:bY),[]⟩:aR),(⟨(⟨0,0,0,0,0,0,0,0,(⟨[],0⟩:bD),(⟨[],0⟩:bD),0,(⟨[],0⟩:bD),false⟩:bY),[]⟩:aR),(⟨(⟨0,0,0,0,0,0,0,0,(⟨[],0⟩:bD),(⟨[],0⟩:bD),0,(⟨[],0⟩:bD),false⟩:bY),[]⟩:aR)⟩:bH),false):bH×Bool)) (call (Z105.R (x0,x1)) fun v3=>(cond v3 (ret (((⟨(⟨(⟨0,0,0,0,0,0,0,0,(⟨[],0⟩:bD),(⟨[],0⟩:bD),0,(⟨[],0⟩:bD),false⟩:bY),[]⟩:aR),(⟨(⟨0,0,0,0,0,0,0,0,(⟨[],0⟩:bD),(⟨[],0⟩:bD),0,(⟨[],0⟩:bD),false⟩:bY),[]⟩:aR),(⟨(⟨0,0,0,0,0,0,0,0,(⟨[],0⟩:bD),(⟨[],0⟩:bD),0,(⟨[],0⟩:bD),false⟩:bY),[]⟩:aR)⟩:bH),false):bH×Bool)) (call (Z105.R (x1,x0)) fun v4=>(cond v4 (ret (((⟨(⟨(⟨0,0,0,0,0,0,0,0,(⟨[],0⟩:bD),(⟨[],0⟩:bD),0,(⟨[],0⟩:bD),false⟩:bY),[]⟩:aR),(⟨(⟨0,0,0,0,0,0,0,0,(⟨[],0⟩:bD),(⟨[],0⟩:bD),0,(⟨[],0⟩:bD),false⟩:bY),[]⟩:aR),(⟨(⟨0,0,0,0,0,0,0,0,(⟨[],0⟩:bD),(⟨[],0⟩:bD),0,(⟨[],0⟩:bD),false⟩:bY),[]⟩:aR)⟩:bH),false):bH×Bool)) (J (.p0 x0 x1 0 0 0 0 0 0 0 0 0 0 0 0 0 false 0 0 0 0 0 0 0 0 0 0 0 0 false 0 0 0 0 0 0 0 0 0 0 0 0 false)))))))))))))
def live:Nat->Live:=fun i=>match i with | 4=>[(0,none),(1,none),(4,none),(6,none)] | _=>[]
def pt (a b:aC)(c:Int):Pt:=Pt.p0 a b c 0 0 0 0 0 0 0 0 0 0 0 0 false 0 0 0 0 0 0 0 0 0 0 0 0 false 0 0 0 0 0 0 0 0 0 0 0 0 false
def fk:List aa->List aa->Nat
 | x::xs,y::ys=>bif Z104.md x.an y.an then fk xs ys+1 else 0
 | _,_=>0
def pW:∀a b:List aa,(∀i,i<fk a b->Z104.md (a.getD i aa.zero).an (b.getD i aa.zero).an=true)/\
    ((fk a b<a.length/\fk a b<b.length/\Z104.md (a.getD (fk a b) aa.zero).an (b.getD (fk a b) aa.zero).an=false)∨
     (a.length<=b.length/\∀i,i<a.length->Z104.md (a.getD i aa.zero).an (b.getD i aa.zero).an=true)∨
     (b.length<=a.length/\∀i,i<b.length->Z104.md (a.getD i aa.zero).an (b.getD i aa.zero).an=true))
  | [],b=>⟨fun i hi=>by simp [fk] at hi,.inr (.inl ⟨zero_le _,fun i hi=>by simp at hi⟩)⟩
  | x::xs,[]=>⟨fun i hi=>by simp [fk] at hi,.inr (.inr ⟨zero_le _,fun i hi=>by simp at hi⟩)⟩
  | x::xs,y::ys=>by
    obtain ⟨h1,h2⟩:=pW xs ys
    cases h:Z104.md x.an y.an
    · have e:fk (x::xs) (y::ys)=0:=by simp [fk,h]
      rw [e]
      exact ⟨fun i hi=>by omega,.inl ⟨by simp,by simp,h⟩⟩
    · have e:fk (x::xs) (y::ys)=fk xs ys+1:=by simp [fk,h]
      rw [e]
      have up:∀{m:Nat},(∀i,i<m->Z104.md (xs.getD i aa.zero).an (ys.getD i aa.zero).an=true)->∀i,i<m+1->Z104.md ((x::xs).getD i aa.zero).an ((y::ys).getD i aa.zero).an=true:=by
        intro m hm i hi
        cases i with
        | zero=>exact h
        | succ i=>exact hm i (by omega)
      refine ⟨up h1,?_⟩
      rcases h2 with ⟨a,b,c⟩ | ⟨a,b⟩ | ⟨a,b⟩
      · exact .inl ⟨by simpa using a,by simpa using b,c⟩
      · exact .inr (.inl ⟨by simpa using a,up b⟩)
      · exact .inr (.inr ⟨by simpa using a,up b⟩)
def yB {a b:List aa}(hl:a.length<=b.length)(h:∀i,i<a.length->Z104.md (a.getD i aa.zero).an (b.getD i aa.zero).an=true):Z105.md a b=true:=by
 unfold Z105.md
 rw [decide_eq_false (by omega),bq]
 refine (jl (fun i=>Z104.md (a.getD i aa.zero).an (b.getD i aa.zero).an=true) (fun i _ hi=>?_) (fun i _ hi=>?_)).2 ⟨h,rfl⟩
 ·simp only [hi,Bool.not_true,bq]
 ·rw [Bool.not_eq_true] at hi
  simp only [hi,Bool.not_false,bf]
def eq_comm {a b:aF}(h:Z104.md a b=true):Z104.md b a=true:=by
 rw [Z104.md_eq,dc] at h ⊢
 exact h.symm
def lJ {a b:List aa}(h1:Z105.md a b=false)(h2:Z105.md b a=false):fk a b<a.length/\fk a b<b.length/\Z104.md (a.getD (fk a b) aa.zero).an (b.getD (fk a b) aa.zero).an=false:=by
 rcases (pW a b).2 with h | ⟨h3,h4⟩ | ⟨h3,h4⟩
 ·exact h
 ·rw [yB h3 h4] at h1;cases h1
 ·rw [yB h3 fun i hi=>eq_comm (h4 i hi)] at h2;cases h2
def vf (a b:List aa):Nat->az
 | 0=>⟨aa.zero,a.getD 0 aa.zero,b.getD 0 aa.zero⟩
 | k+1=>⟨a.getD k aa.zero,a.getD (k+1) aa.zero,b.getD (k+1) aa.zero⟩
def vV {a b:List aa}(h0:bL (2^21) (fun y:aa=>aa.Sm (2^21) y) a)(h1:bL (2^21) (fun y:aa=>aa.Sm (2^21) y) b){k:Nat}(hk:k<a.length)(hk2:k<b.length):az.Sm (2^21) (vf a b k):=by
 cases k with
 | zero=>exact ⟨⟨⟨bL.nil,bL.nil,bL.nil⟩,bL.nil⟩,bL.getD h0 hk,bL.getD h1 hk2⟩
 | succ k=>exact ⟨bL.getD h0 (by omega),bL.getD h0 hk,bL.getD h1 hk2⟩
def zB {a b:List aa}{k:Nat}(hk:k<a.length)(hk2:k<b.length):az.size (vf a b k)<=2*dO (fun y:aa=>aa.size y) a+dO (fun y:aa=>aa.size y) b:=by
 have h1:=nR (f:=fun y:aa=>aa.size y) (xs:=b) (i:=k) (z:=aa.zero) hk2
 have h2:=nR (f:=fun y:aa=>aa.size y) (xs:=a) (i:=k) (z:=aa.zero) hk
 have h0:aa.size aa.zero=0:=rfl
 cases k with
 | zero=>simp only [vf,az.size];omega
 | succ k=>
  have h3:=nR (f:=fun y:aa=>aa.size y) (xs:=a) (i:=k) (z:=aa.zero) (by omega)
  simp only [vf,az.size];omega
def md (a0 a1:List aa):az×Bool:=(cond (!(Z75.md a0)) (az.zero,false) (cond (!(Z75.md a1)) (az.zero,false) (cond (((a0.getD 0 aa.zero).an).bC != ((a1.getD 0 aa.zero).an).bC) (az.zero,false) (cond (Z105.md a0 a1) (az.zero,false) (cond (Z105.md a1 a0) (az.zero,false) (vf a0 a1 (fk a0 a1),true))))))
def gd (a0 a1:List aa):Prop:=bL (2^21) (fun y:aa=>aa.Sm (2^21) y) a0/\bL (2^21) (fun y:aa=>aa.Sm (2^21) y) a1
def R:=RR (p2 gd) (u2 md)
def aj {a0 a1}(h:gd a0 a1):R ((a0.map aa.row),(a1.map aa.row))=some ((az.r (md a0 a1).1),(md a0 a1).2):=aN (a:=(a0,a1)) h
def aT:=CN [pL 141,pL 141] (.iE [(true,f143),(false,[fB])]) RT.dec R
def bt (a0)(a1)(hg:gd a0 a1):∃n,start (iter step n) (a0.map aa.row) (a1.map aa.row)=ret ((az.r (md a0 a1).1),(md a0 a1).2):=by
 unfold gd at hg
 obtain ⟨H0,H1⟩:=hg
 have hl0:=H0.1
 have hl1:=H1.1
 have key:fk a0 a1<a0.length->fk a0 a1<a1.length->Z104.md (a0.getD (fk a0 a1) aa.zero).an (a1.getD (fk a0 a1) aa.zero).an=false->∀d k,k+d=fk a0 a1->∃n,iter step n (pt (a0.map aa.row) (a1.map aa.row) (k:Int))=ret ((az.r (vf a0 a1 (fk a0 a1)),true):bH×Bool):=by
  intro hn0 hn1 hne d
  have hR:∀k,k<a0.length->k<a1.length->Z104.R (aF.r (a0.getD k aa.zero).an,aF.r (a1.getD k aa.zero).an)=some (Z104.md (a0.getD k aa.zero).an (a1.getD k aa.zero).an):=by
   intro k h0 h1
   rw [Z104.aj ⟨(bL.getD (z:=aa.zero) H0 h0).1,(bL.getD (z:=aa.zero) H1 h1).1⟩]
  induction d with
  | zero=>
   intro k hk
   obtain rfl:k=fk a0 a1:=by omega
   generalize hkk:fk a0 a1=k at hn0 hn1 hne ⊢
   refine ⟨1,?_⟩
   show step (iter step 0) _=_
   have q1:(0:Int)<=(k:Int):=by omega
   have q2:(k:Int)<(a0.length:Int):=by omega
   have q3:(k:Int)<(a1.length:Int):=by omega
   simp only [pt,step,MM,S0,aa.rs,aF.rs,q1,q2,q3,decide_true,bf]
   rw [call_eq (hR k hn0 hn1),hne,bq,call_eq (Z43.aj (a0:=a0.getD k aa.zero) (bL.getD (z:=aa.zero) H0 hn0)),call_eq (Z43.aj (a0:=a1.getD k aa.zero) (bL.getD (z:=aa.zero) H1 hn1))]
   cases k with
   | zero=>rfl
   | succ k=>
    have q4:((k+1:Nat):Int)>0:=by omega
    have q5:i64.wrap (((k+1:Nat):Int) - 1)=(k:Int):=by rw [wi _ (by omega)];omega
    have q6:(0:Int)<=(k:Int):=by omega
    have q7:(k:Int)<(a0.length:Int):=by omega
    simp only [q4,q5,q6,q7,decide_true,bf,S0,aa.rs]
    rw [call_eq (Z43.aj (a0:=a0.getD k aa.zero) (bL.getD (z:=aa.zero) H0 (by omega)))]
    rfl
  | succ d ih=>
   intro k hk
   obtain ⟨n,hn⟩:=ih (k+1) (by omega)
   refine ⟨n+1,?_⟩
   show step (iter step n) _=_
   have q1:(0:Int)<=(k:Int):=by omega
   have q2:(k:Int)<(a0.length:Int):=by omega
   have q3:(k:Int)<(a1.length:Int):=by omega
   simp only [pt,step,MM,S0,aa.rs,aF.rs,q1,q2,q3,decide_true,bf]
   rw [call_eq (hR k (by omega) (by omega)),(pW a0 a1).1 k (by omega),bf,wi _ (by omega)]
   exact hn
 unfold start md
 simp only [S0,aa.rs,aF.rs]
 refine eV (Z75.md a0) (Z75.aj H0) ?_
 cases hc0:Z75.md a0
 ·exact ⟨0,rfl⟩
 simp only [Bool.not_true,bq]
 refine eV (Z75.md a1) (Z75.aj H1) ?_
 cases hc1:Z75.md a1
 ·exact ⟨0,rfl⟩
 have t0:=Z75.tr hc0
 have t1:=Z75.tr hc1
 simp only [Bool.not_true,bq]
 refine dI (decide_eq_true (by omega)) (dI (decide_eq_true (by omega)) ?_)
 cases ((a0.getD 0 aa.zero).an.bC != (a1.getD 0 aa.zero).an.bC)
 case true=>exact ⟨0,rfl⟩
 simp only [bq]
 refine eV (Z105.md a0 a1) (Z105.aj ⟨H0,H1⟩) ?_
 cases hp0:Z105.md a0 a1
 case true=>exact ⟨0,rfl⟩
 simp only [bq]
 refine eV (Z105.md a1 a0) (Z105.aj ⟨H1,H0⟩) ?_
 cases hp1:Z105.md a1 a0
 case true=>exact ⟨0,rfl⟩
 simp only [bq]
 obtain ⟨h1,h2,h3⟩:=lJ hp0 hp1
 exact key h1 h2 h3 (fk a0 a1) 0 (by omega)
def af:cw 125 aT:=L2 86 pid cg bZ live step start mix aE bt (.cons Z75.af (.cons Z105.af (.cons Z104.af (.cons Z43.af .nil)))) Tryz.func125
def gh {a0 a1:List aa}(hg:gd a0 a1):az.Sm (2^21) ((md a0 a1).1):=by
 unfold gd at hg;unfold md
 have z:az.Sm (2^21) az.zero:=⟨⟨⟨bL.nil,bL.nil,bL.nil⟩,bL.nil⟩,⟨⟨bL.nil,bL.nil,bL.nil⟩,bL.nil⟩,⟨⟨bL.nil,bL.nil,bL.nil⟩,bL.nil⟩⟩
 cases Z75.md a0
 ·exact z
 cases Z75.md a1
 ·exact z
 cases ((a0.getD 0 aa.zero).an.bC != (a1.getD 0 aa.zero).an.bC)
 case true=>exact z
 cases h1:Z105.md a0 a1
 case true=>exact z
 cases h2:Z105.md a1 a0
 case true=>exact z
 obtain ⟨h3,h4,_⟩:=Z107.lJ h1 h2
 exact Z107.vV hg.1 hg.2 h3 h4
end Z107
namespace Z108
def F (x0:bu)(x1:aC):aH:=(call (Z46.R x0) fun v1=>(call (Z106.R (x0,x1)) fun v2=>(cond (v2==1) (cond (decide ((x0.aJ.length:Int)>=8)) (ret ((v1,6):bu×Int)) (call (Z44.R x1) fun v3=>(ck (eT (((v1.aJ.length:Int)+1)*24)) (ret (((⟨(v1.aJ++[[L.sl v3]]),v1.bp⟩:bu),v2):bu×Int))))) (cond (v2==3) (ck (decide ((0:Int)<(x1.length:Int))) (call (Z103.R (x0,(aR.at x1 0).an.bC)) fun v4=>(call (Z44.R x1) fun v5=>(m2 v4 (v1.aJ.length:Int) (ret (((⟨(List.set v1.aJ (toNat v4) [L.sl v5]),v1.bp⟩:bu),v2):bu×Int)))))) (cond (v2==5) (ck (decide ((0:Int)<(x1.length:Int))) (call (Z103.R (x0,(aR.at x1 0).an.bC)) fun v6=>(m2 v6 (x0.aJ.length:Int) (call (Z107.R ((og x0.aJ (toNat v6)),x1)) fun v7=>(cond v7.2 (cond (decide ((x0.bp.length:Int)<8)) (ck (eT (((v1.bp.length:Int)+1)*600)) (ret (((⟨v1.aJ,(v1.bp++[(bH.enc v7.1)])⟩:bu),v2):bu×Int))) (ret ((v1,v2):bu×Int))) (ret ((v1,v2):bu×Int))))))) (ret ((v1,v2):bu×Int)))))))
def md (a0:aq)(a1:List aa):aq×Int:=(cond ((Z106.md a0 a1)==1) (cond (decide ((a0.aJ.length:Int)>=8)) (a0,6) ((⟨(a0.aJ++[a1]),a0.bp⟩:aq),(Z106.md a0 a1))) (cond ((Z106.md a0 a1)==3) ((⟨(List.set a0.aJ (toNat (Z103.md a0 (((a1.getD 0 aa.zero).an).bC))) a1),a0.bp⟩:aq),(Z106.md a0 a1)) (cond ((Z106.md a0 a1)==5) (cond ((Z107.md (a0.aJ.getD (toNat (Z103.md a0 (((a1.getD 0 aa.zero).an).bC))) []) a1).2) (cond (decide ((a0.bp.length:Int)<8)) ((⟨a0.aJ,(a0.bp++[(Z107.md (a0.aJ.getD (toNat (Z103.md a0 (((a1.getD 0 aa.zero).an).bC))) []) a1).1])⟩:aq),(Z106.md a0 a1)) (a0,(Z106.md a0 a1))) (a0,(Z106.md a0 a1))) (a0,(Z106.md a0 a1)))))
def gd (a0:aq)(a1:List aa):Prop:=(aq.Sm (2^21) a0)/\(bL (2^21) (fun y:aa=>aa.Sm (2^21) y) a1)
def R:=RR (p2 gd) (u2 md)
def aj {a0 a1}(h:gd a0 a1):R ((aq.r a0),(a1.map aa.row))=some ((aq.r (md a0 a1).1),(md a0 a1).2):=aN (a:=(a0,a1)) h
def aT:=CN [.agg rK,pL 141] (.iE [(true,f37),(false,[fI])]) RT.dec R
def bt (a0)(a1)(hg:gd a0 a1):F (aq.r a0) (a1.map aa.row)=ret ((aq.r (md a0 a1).1),(md a0 a1).2):=by
 obtain ⟨H0,H1⟩:=hg
 unfold F md
 try simp only [SS]
 refine ct (Z46.aj H0) ?_
 try simp only [SS]
 refine ct (Z106.aj ⟨H0,H1⟩) ?_
 have fv2_:=Z106.fa a0 a1
 refine au (fun b:aq×Int=>ret (((aq.r b.1),b.2):bu×Int)) (fun c1=>?_) (fun c1=>?_)
 ·have dc1:=c1
  try simp only [DC] at dc1
  refine au (fun b:aq×Int=>ret (((aq.r b.1),b.2):bu×Int)) (fun c2=>?_) (fun c2=>?_)
  ·all_goals exact fz
  ·have dc2:=c2
   try simp only [DC] at dc2
   refine ct (Z44.aj H1) ?_
   try simp only [SS]
   refine ak (have:=(H0.1).1;lm) ?_
   all_goals exact fz
 ·have dc1:=c1
  try simp only [DC] at dc1
  refine au (fun b:aq×Int=>ret (((aq.r b.1),b.2):bu×Int)) (fun c3=>?_) (fun c3=>?_)
  ·have dc3:=c3
   try simp only [DC] at dc3
   refine ak (have:=(H1).1;dt) ?_
   refine ct (Z103.aj H0) ?_
   have fv4_:=Z103.fa a0 (((a1.getD 0 aa.zero).an).bC)
   refine ct (Z44.aj H1) ?_
   try simp only [SS]
   refine ak dt ?_
   refine ak (have:=(H0.1).1;dt) ?_
   all_goals exact fz
  ·have dc3:=c3
   try simp only [DC] at dc3
   refine au (fun b:aq×Int=>ret (((aq.r b.1),b.2):bu×Int)) (fun c4=>?_) (fun c4=>?_)
   ·have dc4:=c4
    try simp only [DC] at dc4
    refine ak (have:=(H1).1;dt) ?_
    refine ct (Z103.aj H0) ?_
    have fv6_:=Z103.fa a0 (((a1.getD 0 aa.zero).an).bC)
    refine ak dt ?_
    refine ak (have:=(H0.1).1;dt) ?_
    refine ct (Z107.aj ⟨(bL.getD (z:=[]) H0.1 (by first | assumption | omega | (simp (disch:=omega) only [wi];omega) | (simp;omega))),H1⟩) ?_
    try simp only [SS]
    refine au (fun b:aq×Int=>ret (((aq.r b.1),b.2):bu×Int)) (fun c5=>?_) (fun c5=>?_)
    ·refine au (fun b:aq×Int=>ret (((aq.r b.1),b.2):bu×Int)) (fun c6=>?_) (fun c6=>?_)
     ·have dc6:=c6
      try simp only [DC] at dc6
      refine ak (have:=(H0.2).1;lm) ?_
      all_goals exact fz
     ·all_goals exact fz
    ·all_goals exact fz
   ·all_goals exact fz
def af:cw 102 aT:=W2 77 F mix aE bt (.cons Z46.af (.cons Z106.af (.cons Z44.af (.cons Z103.af (.cons Z107.af .nil))))) Tryz.func102
def gh {a0:aq}{a1:List aa}(hg:gd a0 a1):aq.Sm (2^21) ((md a0 a1).1):=by
 unfold gd at hg;unfold md
 obtain ⟨⟨h1,h2⟩,h3⟩:=hg
 simp only [Bool.cond_eq_ite]
 repeat' split
 all_goals (try simp only [decide_eq_true_eq,ge_iff_le] at *)
 all_goals first
  | exact ⟨h1,h2⟩
  | exact ⟨bL.app (a:=7) (b:=1) ⟨by omega,h1.2⟩ (bL.one h3) (by decide),h2⟩
  | exact ⟨bL.set h1 h3,h2⟩
  | exact ⟨h1,bL.app (a:=7) (b:=1) ⟨by omega,h2.2⟩ (bL.one (Z107.gh ⟨bL.vp h1 bL.nil,h3⟩)) (by decide)⟩
def Cz (c:List (List aa)):Nat:=dO (fun y:List aa=>dO (fun y:aa=>aa.size y) y) c
def Fz (c:List az):Nat:=dO (fun y:az=>az.size y) c
def zk (X a1:List aa):az.size (Z107.md X a1).1<=2*dO (fun y:aa=>aa.size y) X+dO (fun y:aa=>aa.size y) a1:=by
 unfold Z107.md
 have z:az.size az.zero=0:=rfl
 cases Z75.md X
 ·exact zero_le _
 cases Z75.md a1
 ·exact zero_le _
 cases ((X.getD 0 aa.zero).an.bC != (a1.getD 0 aa.zero).an.bC)
 case true=>exact zero_le _
 cases h1:Z105.md X a1
 case true=>exact zero_le _
 cases h2:Z105.md a1 X
 case true=>exact zero_le _
 obtain ⟨h3,h4,_⟩:=Z107.lJ h1 h2
 exact Z107.zB h3 h4
def grow (a0:aq)(a1:List aa):Cz (md a0 a1).1.aJ<=Cz a0.aJ+(dO (fun y:aa=>aa.size y) a1+1)/\
  Fz (md a0 a1).1.bp<=Fz a0.bp+(2*Cz a0.aJ+dO (fun y:aa=>aa.size y) a1+1):=by
 unfold md Cz Fz
 have hs:=wq (f:=fun y:List aa=>dO (fun y:aa=>aa.size y) y) a0.aJ (toNat (Z103.md a0 ((a1.getD 0 aa.zero).an.bC))) a1
 have ha:=uZ (f:=fun y:List aa=>dO (fun y:aa=>aa.size y) y) a0.aJ a1
 have hk:=uZ (f:=fun y:az=>az.size y) a0.bp (Z107.md (a0.aJ.getD (toNat (Z103.md a0 ((a1.getD 0 aa.zero).an.bC))) []) a1).1
 have hf1:=zk (a0.aJ.getD (toNat (Z103.md a0 ((a1.getD 0 aa.zero).an.bC))) []) a1
 have hg1:=nC (f:=fun y:List aa=>dO (fun y:aa=>aa.size y) y) (xs:=a0.aJ) (i:=toNat (Z103.md a0 ((a1.getD 0 aa.zero).an.bC))) (z:=[]) rfl
 (try simp only at hs);(try simp only at ha);(try simp only at hk);(try simp only at hg1)
 simp only [Bool.cond_eq_ite]
 repeat' split
 all_goals constructor<;>(try simp only)<;>omega
end Z108
namespace Z109
def F (x0:bY)(x1:Int):aH:=(call (Z47.R (x1,x0.cG,x0.cz)) fun v1=>ret (v1:Bool))
def md (a0:aF)(a1:Int):Bool:=((Z47.md a1 a0.cG a0.cz):Bool)
def gd (a0:aF)(a1:Int):Prop:=True
def R:=RR (p2 gd) (u2 md)
def aj {a0 a1}(h:gd a0 a1):R ((aF.r a0),a1)=some (md a0 a1):=aN (a:=(a0,a1)) h
def aT:=CN [.agg fW,pI] oB RT.dec R
def bt (a0)(a1)(hg:gd a0 a1):F (aF.r a0) a1=ret (md a0 a1):=by
 unfold F md
 try simp only [SS]
 refine ct (Z47.aj trivial) ?_
 all_goals exact fz
def af:cw 126 aT:=W2 11 F mix aE bt (.cons Z47.af .nil) Tryz.func126
end Z109
namespace Z110
inductive Pt where
 | p0 (a b c:Int) (d:aC) (e:Int)
def pid:Pt->Nat
 | .p0 ..=>4
def cg:Pt->List V
 | .p0 a b c d e=>[.int .i64 a,.int .i64 b,.int .i64 c,.sl none 3 d,.int .i64 e]
def bZ:Pt->List aW
 | .p0 a b c d e=>[]
def step (J:Pt->aH):Pt->aH
 | .p0 a b c d e=>(cond (decide (c>1)) (cond ((Int.tmod b 2)==1) (cond (decide (e>=(d.length:Int))) (ret ((0,false):Int×Bool)) (cond ((Int.tmod b 2)==1) (m2 e (d.length:Int) (call (Z85.R ((je d (toNat e)),a)) fun v1=>J (.p0 v1 (i64.wrap (Int.tdiv b 2)) (i64.wrap (Int.tdiv (i64.wrap (c+1)) 2)) d (i64.wrap (e+1))))) (m2 e (d.length:Int) (call (Z85.R (a,(je d (toNat e)))) fun v2=>J (.p0 v2 (i64.wrap (Int.tdiv b 2)) (i64.wrap (Int.tdiv (i64.wrap (c+1)) 2)) d (i64.wrap (e+1))))))) (cond (decide ((i64.wrap (b+1))<c)) (cond (decide (e>=(d.length:Int))) (ret ((0,false):Int×Bool)) (cond ((Int.tmod b 2)==1) (m2 e (d.length:Int) (call (Z85.R ((je d (toNat e)),a)) fun v3=>J (.p0 v3 (i64.wrap (Int.tdiv b 2)) (i64.wrap (Int.tdiv (i64.wrap (c+1)) 2)) d (i64.wrap (e+1))))) (m2 e (d.length:Int) (call (Z85.R (a,(je d (toNat e)))) fun v4=>J (.p0 v4 (i64.wrap (Int.tdiv b 2)) (i64.wrap (Int.tdiv (i64.wrap (c+1)) 2)) d (i64.wrap (e+1))))))) (J (.p0 a (i64.wrap (Int.tdiv b 2)) (i64.wrap (Int.tdiv (i64.wrap (c+1)) 2)) d e)))) (cond (e != (d.length:Int)) (ret ((0,false):Int×Bool)) (ret ((a,true):Int×Bool))))
def start (J:Pt->aH)(x0 x1 x2:Int)(x3:aC):aH:=(call (Z47.R (x2,1,12)) fun v1=>(cond (!v1) (ret ((0,false):Int×Bool)) (call (Z47.R (x1,0,(i64.wrap (x2 - 1)))) fun v2=>(cond (!v2) (ret ((0,false):Int×Bool)) (J (.p0 x0 x1 x2 x3 0))))))
def live:Nat->Live:=fun i=>match i with | 4=>[(0,none),(1,none),(2,none),(3,none),(10,none)] | _=>[]
def tf:Nat->Int->Int->Int->List Int->Int×Bool
 | 0,_,_,_,_=>(0,false)
 | k+1,leaf,i,n,path=>
  if n>1 then
   if i % 2=1∨i+1<n then
    match path with
    | []=>(0,false)
    | p::ps=>tf k (if i % 2=1 then Z85.md p leaf else Z85.md leaf p) (i / 2) ((n+1) / 2) ps
   else tf k leaf (i / 2) ((n+1) / 2) path
  else if path.isEmpty then (leaf,true) else (0,false)
def md (a0 a1 a2:Int)(a3:List Int):Int×Bool:=(cond (!(Z47.md a2 1 12)) (0,false) (bif !(Z47.md a1 0 (i64.wrap (a2 - 1))) then (0,false) else tf 5 a0 a1 a2 a3))
def gd (a0 a1 a2:Int)(a3:List Int):Prop:=bL (2^38) (fun y:Int=>True) a3
def R:=RR (p4 gd) (u4 md)
def aj {a0 a1 a2 a3}(h:gd a0 a1 a2 a3):R (a0,a1,a2,(a3.map bh))=some ((md a0 a1 a2 a3).1,(md a0 a1 a2 a3).2):=aN (a:=(a0,a1,a2,a3)) h
def aT:=CN [pI,pI,pI,pL 3] (.iE [(false,[fI]),(false,[fB])]) RT.dec R
def bt (a0)(a1)(a2)(a3)(hg:gd a0 a1 a2 a3):∃n,start (iter step n) a0 a1 a2 (a3.map bh)=ret ((md a0 a1 a2 a3).1,(md a0 a1 a2 a3).2):=by
 have tm:∀b:Int,0<=b->b<=11->Int.tmod b 2=b % 2:=fun b h1 h2=>Int.tmod_eq_emod_of_nonneg h1
 have td:∀b:Int,0<=b->b<=13->i64.wrap (Int.tdiv b 2)=b / 2:=fun b h1 h2=>by
  rw [Int.tdiv_eq_ediv_of_nonneg h1,Go.IntWalk.i64_in _ (by omega)]
 have t1:∀b:Int,0<=b->b<=13->i64.wrap (b+1)=b+1:=fun b h1 h2=>Go.IntWalk.i64_in _ (by omega)
 obtain ⟨H3,_⟩:=hg
 have key:∀(k:Nat) (leaf i n:Int) (u:Nat),0<=i->i<n->n<=12->n<=2^k->u<=a3.length->∃m,iter step m (Pt.p0 leaf i n (a3.map bh) (u:Int))=ret ((tf (k+1) leaf i n (a3.drop u)).1,(tf (k+1) leaf i n (a3.drop u)).2):=by
  intro k
  induction k with
  | zero=>
   intro leaf i n u h1 h2 h3 h4 h5
   refine ⟨1,?_⟩
   show step (iter step 0) (Pt.p0 _ _ _ _ _)=_
   have hn:n=1:=by omega
   subst hn
   simp only [step,List.length_map]
   refine cN (by decide) ?_
   unfold tf
   rw [if_neg (by omega)]
   by_cases hu:u=a3.length
   ·rw [List.drop_eq_nil_of_le (by omega),show ((u:Int) != (a3.length:Int))=false from bne_eq_false_iff_eq.2 (by omega)];rfl
   ·have hne:(a3.drop u).isEmpty=false:=by
     rw [List.drop_eq_getElem_cons (by omega)];rfl
    rw [hne,show ((u:Int) != (a3.length:Int))=true from bne_iff_ne.2 (by omega)];rfl
  | succ k ih=>
   intro leaf i n u h1 h2 h3 h4 h5
   have hk:n<=2*2^k:=by rw [Int.pow_succ] at h4;omega
   unfold tf
   by_cases hn:n>1
   ·have e1:=tm i h1 (by omega)
    have e2:=td i h1 (by omega)
    have e3:=t1 n (by omega) (by omega)
    have e4:=td (n+1) (by omega) (by omega)
    have e5:=t1 i h1 (by omega)
    rw [if_pos hn]
    by_cases hc:i % 2=1∨i+1<n
    ·rw [if_pos hc]
     by_cases hu:u=a3.length
     ·refine ⟨1,?_⟩
      show step (iter step 0) (Pt.p0 _ _ _ _ _)=_
      rw [List.drop_eq_nil_of_le (by omega)]
      simp only [step,List.length_map,e1,e5]
      refine ak (decide_eq_true (by omega)) ?_
      by_cases hm:i % 2=1
      ·rw [hm]
       exact ak rfl (ak (decide_eq_true (by omega)) rfl)
      ·refine cN (beq_eq_false_iff_ne.2 hm) (ak (decide_eq_true (by omega)) (ak (decide_eq_true (by omega)) rfl))
     ·have hlt:u<a3.length:=by omega
      rw [List.drop_eq_getElem_cons hlt]
      obtain ⟨m,hm⟩:=ih (if i % 2=1 then Z85.md a3[u] leaf else Z85.md leaf a3[u]) (i / 2) ((n+1) / 2) (u+1) (by omega) (by omega) (by omega) (by omega) (by omega)
      refine ⟨m+1,?_⟩
      show step (iter step m) (Pt.p0 _ _ _ _ _)=_
      have w:i64.wrap ((u:Int)+1)=((u+1:Nat):Int):=by rw [Go.IntWalk.i64_in _ (by omega)];omega
      simp only [step,List.length_map,e1,e2,e3,e4,e5,w,cB,gN,eK hlt]
      refine ak (decide_eq_true (by omega)) ?_
      by_cases hp:i % 2=1
      ·rw [if_pos hp] at hm
       rw [hp]
       refine ak rfl (cN (decide_eq_false (by omega)) (ak rfl (ak (decide_eq_true (by omega)) (ak (decide_eq_true (by omega)) (aZ _ (Z85.aj trivial) ?_)))))
       rw [if_pos rfl]
       exact hm
      ·rw [if_neg hp] at hm
       have hb:(i % 2==1)=false:=beq_eq_false_iff_ne.2 hp
       rw [hb]
       refine cN rfl (ak (decide_eq_true (by omega)) (cN (decide_eq_false (by omega)) (cN rfl (ak (decide_eq_true (by omega)) (ak (decide_eq_true (by omega)) (aZ _ (Z85.aj trivial) ?_))))))
       rw [if_neg hp]
       exact hm
    ·rw [if_neg hc]
     obtain ⟨m,hm⟩:=ih leaf (i / 2) ((n+1) / 2) u (by omega) (by omega) (by omega) (by omega) h5
     refine ⟨m+1,?_⟩
     show step (iter step m) (Pt.p0 _ _ _ _ _)=_
     simp only [step,List.length_map,e1,e2,e3,e4,e5]
     have hb:(i % 2==1)=false:=beq_eq_false_iff_ne.2 (by omega)
     rw [hb]
     exact ak (decide_eq_true (by omega)) (cN rfl (cN (decide_eq_false (by omega)) hm))
   ·refine ⟨1,?_⟩
    show step (iter step 0) (Pt.p0 _ _ _ _ _)=_
    have hn1:n=1:=by omega
    subst hn1
    simp only [step,List.length_map]
    refine cN (by decide) ?_
    rw [if_neg (by omega)]
    by_cases hu:u=a3.length
    ·rw [List.drop_eq_nil_of_le (by omega),show ((u:Int) != (a3.length:Int))=false from bne_eq_false_iff_eq.2 (by omega)];rfl
    ·have hne:(a3.drop u).isEmpty=false:=by
      rw [List.drop_eq_getElem_cons (by omega)];rfl
     rw [hne,show ((u:Int) != (a3.length:Int))=true from bne_iff_ne.2 (by omega)];rfl
 unfold start md
 refine eV (Z47.md a2 1 12) (Z47.aj trivial) ?_
 cases hc:Z47.md a2 1 12
 ·exact ⟨0,rfl⟩
 simp only [Bool.not_true,bq]
 refine eV (Z47.md a1 0 (i64.wrap (a2 - 1))) (Z47.aj trivial) ?_
 cases hd:Z47.md a1 0 (i64.wrap (a2 - 1))
 ·exact ⟨0,rfl⟩
 have i1:1<=a2/\a2<=12:=by simpa [Z47.md] using hc
 rw [Go.IntWalk.i64_in _ (by omega)] at hd
 have i2:0<=a1/\a1<=a2 - 1:=by simpa [Z47.md] using hd
 exact key 4 a0 a1 a2 0 (by omega) (by omega) (by omega) (by omega) (by omega)
def af:cw 191 aT:=L4 63 pid cg bZ live step start mix aE bt (.cons Z47.af (.cons Z85.af .nil)) Tryz.func191
end Z110
namespace Z111
def F (x0 x1:Int)(x2:aU)(x3:bS):aH:=(call (Z83.R x2) fun v1=>(call (Z110.R (v1,x3.eA,x1,x3.bI)) fun v2=>(call (Z77.R x2) fun v3=>(cond v3 (cond v2.2 (call (Z88.R (x1,v2.1)) fun v4=>ret ((v4==x0):Bool)) aY) aY))))
def md (a0 a1:Int)(a2:ah)(a3:aM):Bool:=(cond (Z77.md a2) (cond ((Z110.md (Z83.md a2) a3.eA a1 a3.bI).2) (((Z88.md a1 ((Z110.md (Z83.md a2) a3.eA a1 a3.bI).1))==a0):Bool) (false:Bool)) (false:Bool))
def gd (a0 a1:Int)(a2:ah)(a3:aM):Prop:=(ah.Sm (2^21) a2)/\(aM.Sm (2^21) a3)
def R:=RR (p4 gd) (u4 md)
def aj {a0 a1 a2 a3}(h:gd a0 a1 a2 a3):R (a0,a1,(ah.r a2),(aM.r a3))=some (md a0 a1 a2 a3):=aN (a:=(a0,a1,a2,a3)) h
def aT:=CN [pI,pI,.agg qX,.agg qW] oB RT.dec R
def bt (a0)(a1)(a2)(a3)(hg:gd a0 a1 a2 a3):F a0 a1 (ah.r a2) (aM.r a3)=ret (md a0 a1 a2 a3):=by
 obtain ⟨H2,H3⟩:=hg
 unfold F md
 try simp only [SS]
 refine ct (Z83.aj H2) ?_
 refine ct (Z110.aj (H3.mono (by decide) (fun x hx=>trivial))) ?_
 refine ct (Z77.aj H2) ?_
 refine au ret (fun c1=>?_) (fun _=>rfl)
 refine au ret (fun c2=>?_) (fun _=>rfl)
 refine ct (Z88.aj trivial) ?_
 all_goals exact fz
def af:cw 157 aT:=W4 34 F mix aE bt (.cons Z83.af (.cons Z110.af (.cons Z77.af (.cons Z88.af .nil)))) Tryz.func157
end Z111
namespace Z112
inductive Pt where
 | p0 (a b:aC) (c:Int)
def pid:Pt->Nat
 | .p0 ..=>4
def cg:Pt->List V
 | .p0 a b c=>[.sl none 9 a,.sl none 9 b,.int .i64 c]
def bZ:Pt->List aW
 | .p0 a b c=>[]
def step (J:Pt->aH):Pt->aH
 | .p0 a b c=>(cond (decide (c<(a.length:Int))) (m2 c (a.length:Int) (m2 c (b.length:Int) (cond (!((pV a (toNat c))==(pV b (toNat c)))) aY (J (.p0 a b (i64.wrap (c+1))))))) ep)
def start (J:Pt->aH)(x0 x1:aC):aH:=(cond ((x0.length:Int) != (x1.length:Int)) aY (J (.p0 x0 x1 0)))
def live:Nat->Live:=fun i=>match i with | 4=>[(0,none),(1,none),(5,none)] | _=>[]
def md (a0 a1:List aB):Bool:=(bif ((a0.length:Int) != (a1.length:Int)) then (false:Bool) else (eo (S:=Unit) (β:=Bool) (fun (i2:Nat) (s4:Unit)=>(cond (!((a0.getD i2 ⟨#[]⟩)==(a1.getD i2 ⟨#[]⟩))) (.inr (false:Bool)) (.inl ()))) (fun (s4:Unit)=>(true:Bool)) a0.length 0 ()))
def gd (a0 a1:List aB):Prop:=(bL (2^21) (fun y:aB=>y.size<=(2^21)) a0)/\(bL (2^21) (fun y:aB=>y.size<=(2^21)) a1)
def R:=RR (p2 gd) (u2 md)
def aj {a0 a1}(h:gd a0 a1):R ((a0.map cF),(a1.map cF))=some (md a0 a1):=aN (a:=(a0,a1)) h
def aT:=CN [pL 9,pL 9] oB RT.dec R
def bt (a0)(a1)(hg:gd a0 a1):∃n,start (iter step n) (a0.map cF) (a1.map cF)=ret (md a0 a1):=by
 obtain ⟨H0,H1⟩:=hg
 unfold start md
 try simp only [SS]
 refine gR ret (fun _=>⟨0,rfl⟩) (fun c1=>?_)
 have dc1:=c1
 try simp only [DC] at dc1
 have Bh3:a0.length<=maxLen:=(by
   have:=(H0).1
   try simp only [maxLen] at *
   omega)
 refine dK (p:=Pt.p0 (a0.map cF) (a1.map cF) 0) fz ?_
 refine cj (pt:=fun (i2:Nat) (s4:Unit)=>Pt.p0 (a0.map cF) (a1.map cF) (i2:Int)) (s:=(():Unit)) (out:=ret) (fun _ _=>True) (fun J i2 s4 h3 hih3=>?_) (fun s4 hih3=>?_) trivial
 ·simp only [step,SS]
  have bb_:=Bh3
  simp only [maxLen] at bb_
  have:=(H0).1
  refine bz.yes (by apply decide_eq_true;omega) ?_
  refine bz.yes aI ?_
  refine bz.yes (aL h3) ?_
  refine bz.yes aI ?_
  refine bz.yes (have:=(H1).1;dt) ?_
  refine bz.bif (fun _=>bz.inr rfl) (fun c5=>?_)
  refine bz.inl trivial ?_
  rw [aG h3 Bh3]
  all_goals exact fz
 ·simp only [step,SS]
  have:=(H0).1
  refine dx (by apply decide_eq_false;omega) ?_
  refine ⟨0,?_⟩
  all_goals exact fz
def af:cw 234 aT:=L2 26 pid cg bZ live step start mix aE bt .nil Tryz.func234
def md_eq (a0 a1:List aB):md a0 a1=dW a0 a1:=by
 unfold md
 refine ke (⟨#[]⟩) (fun i s h h2=>?_) (fun s=>rfl)
 simp only [bne,eZ,bool_beq,eO]
 cases dW _ _<;>rfl
end Z112
namespace Z113
def F (x0 x1:aU):aH:=(cond (x0.bk==x1.bk) (cond (x0.bK==x1.bK) (cond (x0.bW==x1.bW) (call (Z112.R (x0.bI,x1.bI)) fun v1=>ret (v1:Bool)) aY) aY) aY)
def md (a0 a1:ah):Bool:=(cond (a0.bk==a1.bk) (cond (a0.bK==a1.bK) (cond (a0.bW==a1.bW) ((Z112.md a0.bI a1.bI):Bool) (false:Bool)) (false:Bool)) (false:Bool))
def gd (a0 a1:ah):Prop:=(ah.Sm (2^21) a0)/\(ah.Sm (2^21) a1)
def R:=RR (p2 gd) (u2 md)
def aj {a0 a1}(h:gd a0 a1):R ((ah.r a0),(ah.r a1))=some (md a0 a1):=aN (a:=(a0,a1)) h
def aT:=CN [.agg qX,.agg qX] oB RT.dec R
def bt (a0)(a1)(hg:gd a0 a1):F (ah.r a0) (ah.r a1)=ret (md a0 a1):=by
 obtain ⟨H0,H1⟩:=hg
 unfold F md
 try simp only [SS]
 refine au ret (fun c1=>?_) (fun _=>rfl)
 refine au ret (fun c2=>?_) (fun _=>rfl)
 refine au ret (fun c3=>?_) (fun _=>rfl)
 refine ct (Z112.aj ⟨H0.2,H1.2⟩) ?_
 all_goals exact fz
def af:cw 195 aT:=W2 31 F mix aE bt (.cons Z112.af .nil) Tryz.func195
def md_eq (a0 a1:ah):md a0 a1=dW a0 a1:=by
 unfold md
 cases a0;cases a1
 rw [Bool.eq_iff_iff]
 simp [dc,eO,ah.mk.injEq,Z112.md_eq]
 try (constructor<;>(intro h;simp_all))
end Z113
namespace Z114
def F (x0 x1:bS):aH:=(cond (x0.eA==x1.eA) (call (Z67.R (x0.bI,x1.bI)) fun v1=>ret (v1:Bool)) aY)
def md (a0 a1:aM):Bool:=(cond (a0.eA==a1.eA) ((Z67.md a0.bI a1.bI):Bool) (false:Bool))
def gd (a0 a1:aM):Prop:=(aM.Sm (2^21) a0)/\(aM.Sm (2^21) a1)
def R:=RR (p2 gd) (u2 md)
def aj {a0 a1}(h:gd a0 a1):R ((aM.r a0),(aM.r a1))=some (md a0 a1):=aN (a:=(a0,a1)) h
def aT:=CN [.agg qW,.agg qW] oB RT.dec R
def bt (a0)(a1)(hg:gd a0 a1):F (aM.r a0) (aM.r a1)=ret (md a0 a1):=by
 obtain ⟨H0,H1⟩:=hg
 unfold F md
 try simp only [SS]
 refine au ret (fun c1=>?_) (fun _=>rfl)
 refine ct (Z67.aj ⟨(H0.mono (by decide) (fun x hx=>trivial)),(H1.mono (by decide) (fun x hx=>trivial))⟩) ?_
 all_goals exact fz
def af:cw 196 aT:=W2 17 F mix aE bt (.cons Z67.af .nil) Tryz.func196
def md_eq (a0 a1:aM):md a0 a1=dW a0 a1:=by
 unfold md
 cases a0;cases a1
 rw [Bool.eq_iff_iff]
 simp [dc,eO,aM.mk.injEq,Z67.md_eq]
 try (constructor<;>(intro h;simp_all))
end Z114
namespace Z115
def F (x0 x1:dM):aH:=(cond (x0.eA==x1.eA) (call (Z113.R (x0.aQ,x1.aQ)) fun v1=>(cond v1 (call (Z113.R (x0.cJ,x1.cJ)) fun v2=>(cond v2 (call (Z114.R (x0.eC,x1.eC)) fun v3=>(cond v3 (call (Z114.R (x0.cX,x1.cX)) fun v4=>ret (v4:Bool)) aY)) aY)) aY)) aY)
def md (a0 a1:bU):Bool:=(cond (a0.eA==a1.eA) (cond (Z113.md a0.aQ a1.aQ) (cond (Z113.md a0.cJ a1.cJ) (cond (Z114.md a0.eC a1.eC) ((Z114.md a0.cX a1.cX):Bool) (false:Bool)) (false:Bool)) (false:Bool)) (false:Bool))
def gd (a0 a1:bU):Prop:=(bU.Sm (2^21) a0)/\(bU.Sm (2^21) a1)
def R:=RR (p2 gd) (u2 md)
def aj {a0 a1}(h:gd a0 a1):R ((bU.r a0),(bU.r a1))=some (md a0 a1):=aN (a:=(a0,a1)) h
def aT:=CN [.agg vD,.agg vD] oB RT.dec R
def bt (a0)(a1)(hg:gd a0 a1):F (bU.r a0) (bU.r a1)=ret (md a0 a1):=by
 obtain ⟨H0,H1⟩:=hg
 unfold F md
 try simp only [SS]
 refine au ret (fun c1=>?_) (fun _=>rfl)
 refine ct (Z113.aj ⟨H0.1,H1.1⟩) ?_
 refine au ret (fun c2=>?_) (fun _=>rfl)
 refine ct (Z113.aj ⟨H0.2.1,H1.2.1⟩) ?_
 refine au ret (fun c3=>?_) (fun _=>rfl)
 refine ct (Z114.aj ⟨H0.2.2.1,H1.2.2.1⟩) ?_
 refine au ret (fun c4=>?_) (fun _=>rfl)
 refine ct (Z114.aj ⟨H0.2.2.2,H1.2.2.2⟩) ?_
 all_goals exact fz
def af:cw 158 aT:=W2 38 F mix aE bt (.cons Z113.af (.cons Z114.af .nil)) Tryz.func158
def md_eq (a0 a1:bU):md a0 a1=dW a0 a1:=by
 unfold md
 cases a0;cases a1
 rw [Bool.eq_iff_iff]
 simp [dc,eO,bU.mk.injEq,Z113.md_eq,Z114.md_eq]
 try (constructor<;>(intro h;simp_all))
end Z115
namespace Z116
def F (x0:aU)(x1:bS):aH:=(call (Z113.R (x0,(⟨(⟨#[]⟩:aB),0,0,[]⟩:aU))) fun v1=>(cond v1 (call (Z114.R (x1,(⟨0,[]⟩:bS))) fun v2=>ret (v2:Bool)) aY))
def md (a0:ah)(a1:aM):Bool:=(cond (Z113.md a0 (⟨((⟨#[]⟩:aB):aB),0,0,[]⟩:ah)) ((Z114.md a1 (⟨0,[]⟩:aM)):Bool) (false:Bool))
def gd (a0:ah)(a1:aM):Prop:=(ah.Sm (2^21) a0)/\(aM.Sm (2^21) a1)
def R:=RR (p2 gd) (u2 md)
def aj {a0 a1}(h:gd a0 a1):R ((ah.r a0),(aM.r a1))=some (md a0 a1):=aN (a:=(a0,a1)) h
def aT:=CN [.agg qX,.agg qW] oB RT.dec R
def bt (a0)(a1)(hg:gd a0 a1):F (ah.r a0) (aM.r a1)=ret (md a0 a1):=by
 obtain ⟨H0,H1⟩:=hg
 unfold F md
 try simp only [SS]
 refine ct (Z113.aj (a1:=(⟨((⟨#[]⟩:aB):aB),0,0,[]⟩:ah)) ⟨H0,⟨(by decide),bL.nil⟩⟩) ?_
 refine au ret (fun c1=>?_) (fun _=>rfl)
 refine ct (Z114.aj (a1:=(⟨0,[]⟩:aM)) ⟨H1,bL.nil⟩) ?_
 all_goals exact fz
def af:cw 160 aT:=W2 13 F mix aE bt (.cons Z113.af (.cons Z114.af .nil)) Tryz.func160
end Z116
namespace Z117
def F (x0 x1:Int)(x2:aB)(x3:dM):aH:=(call (Z48.R x2) fun v1=>(cond (!v1) aY (call (Z47.R (x3.eA,0,x1)) fun v2=>(cond (!v2) aY (cond (x1==0) (call (Z89.R []) fun v3=>(cond (x0 != v3) aY (cond (x3.eA==0) (call (Z116.R (x3.aQ,x3.eC)) fun v4=>(cond (!v4) aY (cond (x3.eA==x1) (call (Z116.R (x3.cJ,x3.cX)) fun v5=>ret (v5:Bool)) (call (Z111.R (x0,x1,x3.cJ,x3.cX)) fun v6=>(cond v6 (cond (x3.cX.eA==x3.eA) (call (Z78.R (x3.cJ.bk,x2)) fun v7=>ret ((v7==1):Bool)) aY) aY))))) (call (Z111.R (x0,x1,x3.aQ,x3.eC)) fun v8=>(cond (!v8) aY (cond (x3.eC.eA != (i64.wrap (x3.eA - 1))) aY (call (Z78.R (x3.aQ.bk,x2)) fun v9=>(cond (v9 != (-1)) aY (cond (x3.eA==x1) (call (Z116.R (x3.cJ,x3.cX)) fun v10=>ret (v10:Bool)) (call (Z111.R (x0,x1,x3.cJ,x3.cX)) fun v11=>(cond v11 (cond (x3.cX.eA==x3.eA) (call (Z78.R (x3.cJ.bk,x2)) fun v12=>ret ((v12==1):Bool)) aY) aY))))))))))) (cond (x3.eA==0) (call (Z116.R (x3.aQ,x3.eC)) fun v13=>(cond (!v13) aY (cond (x3.eA==x1) (call (Z116.R (x3.cJ,x3.cX)) fun v14=>ret (v14:Bool)) (call (Z111.R (x0,x1,x3.cJ,x3.cX)) fun v15=>(cond v15 (cond (x3.cX.eA==x3.eA) (call (Z78.R (x3.cJ.bk,x2)) fun v16=>ret ((v16==1):Bool)) aY) aY))))) (call (Z111.R (x0,x1,x3.aQ,x3.eC)) fun v17=>(cond (!v17) aY (cond (x3.eC.eA != (i64.wrap (x3.eA - 1))) aY (call (Z78.R (x3.aQ.bk,x2)) fun v18=>(cond (v18 != (-1)) aY (cond (x3.eA==x1) (call (Z116.R (x3.cJ,x3.cX)) fun v19=>ret (v19:Bool)) (call (Z111.R (x0,x1,x3.cJ,x3.cX)) fun v20=>(cond v20 (cond (x3.cX.eA==x3.eA) (call (Z78.R (x3.cJ.bk,x2)) fun v21=>ret ((v21==1):Bool)) aY) aY))))))))))))))
def md (a0 a1:Int)(a2:aB)(a3:bU):Bool:=(cond (!(Z48.md a2)) (false:Bool) (cond (!(Z47.md a3.eA 0 a1)) (false:Bool) (cond (a1==0) (cond (a0 != (Z89.md [])) (false:Bool) (cond (a3.eA==0) (cond (!(Z116.md a3.aQ a3.eC)) (false:Bool) (cond (a3.eA==a1) ((Z116.md a3.cJ a3.cX):Bool) (cond (Z111.md a0 a1 a3.cJ a3.cX) (cond (a3.cX.eA==a3.eA) (((Z78.md a3.cJ.bk a2)==1):Bool) (false:Bool)) (false:Bool)))) (cond (!(Z111.md a0 a1 a3.aQ a3.eC)) (false:Bool) (cond (a3.eC.eA != (i64.wrap (a3.eA - 1))) (false:Bool) (cond ((Z78.md a3.aQ.bk a2) != (-1)) (false:Bool) (cond (a3.eA==a1) ((Z116.md a3.cJ a3.cX):Bool) (cond (Z111.md a0 a1 a3.cJ a3.cX) (cond (a3.cX.eA==a3.eA) (((Z78.md a3.cJ.bk a2)==1):Bool) (false:Bool)) (false:Bool)))))))) (cond (a3.eA==0) (cond (!(Z116.md a3.aQ a3.eC)) (false:Bool) (cond (a3.eA==a1) ((Z116.md a3.cJ a3.cX):Bool) (cond (Z111.md a0 a1 a3.cJ a3.cX) (cond (a3.cX.eA==a3.eA) (((Z78.md a3.cJ.bk a2)==1):Bool) (false:Bool)) (false:Bool)))) (cond (!(Z111.md a0 a1 a3.aQ a3.eC)) (false:Bool) (cond (a3.eC.eA != (i64.wrap (a3.eA - 1))) (false:Bool) (cond ((Z78.md a3.aQ.bk a2) != (-1)) (false:Bool) (cond (a3.eA==a1) ((Z116.md a3.cJ a3.cX):Bool) (cond (Z111.md a0 a1 a3.cJ a3.cX) (cond (a3.cX.eA==a3.eA) (((Z78.md a3.cJ.bk a2)==1):Bool) (false:Bool)) (false:Bool))))))))))
def gd (a0 a1:Int)(a2:aB)(a3:bU):Prop:=(a2.size<=(2^21))/\(bU.Sm (2^21) a3)
def R:=RR (p4 gd) (u4 md)
def aj {a0 a1 a2 a3}(h:gd a0 a1 a2 a3):R (a0,a1,a2,(bU.r a3))=some (md a0 a1 a2 a3):=aN (a:=(a0,a1,a2,a3)) h
def aT:=CN [pI,pI,pS,.agg vD] oB RT.dec R
def bt (a0)(a1)(a2)(a3)(hg:gd a0 a1 a2 a3):F a0 a1 a2 (bU.r a3)=ret (md a0 a1 a2 a3):=by
 obtain ⟨H2,H3⟩:=hg
 unfold F md
 try simp only [SS]
 refine ct (Z48.aj (le_trans H2 (by decide))) ?_
 refine au ret (fun _=>rfl) (fun c1=>?_)
 refine ct (Z47.aj trivial) ?_
 refine au ret (fun _=>rfl) (fun c2=>?_)
 refine au ret (fun c3=>?_) (fun c3=>?_)
 ·refine aZ (Z89.md []) (rq (Z89.aj (a0:=[]) bL.nil)) ?_
  refine au ret (fun _=>rfl) (fun c4=>?_)
  refine au ret (fun c5=>?_) (fun c5=>?_)
  ·refine ct (Z116.aj ⟨H3.1,H3.2.2.1⟩) ?_
   refine au ret (fun _=>rfl) (fun c6=>?_)
   refine au ret (fun c7=>?_) (fun c7=>?_)
   ·refine ct (Z116.aj ⟨H3.2.1,H3.2.2.2⟩) ?_
    all_goals exact fz
   ·refine ct (Z111.aj ⟨H3.2.1,H3.2.2.2⟩) ?_
    refine au ret (fun c8=>?_) (fun _=>rfl)
    refine au ret (fun c9=>?_) (fun _=>rfl)
    refine ct (Z78.aj trivial) ?_
    all_goals exact fz
  ·refine ct (Z111.aj ⟨H3.1,H3.2.2.1⟩) ?_
   refine au ret (fun _=>rfl) (fun c10=>?_)
   refine au ret (fun _=>rfl) (fun c11=>?_)
   refine ct (Z78.aj trivial) ?_
   refine au ret (fun _=>rfl) (fun c12=>?_)
   refine au ret (fun c13=>?_) (fun c13=>?_)
   ·refine ct (Z116.aj ⟨H3.2.1,H3.2.2.2⟩) ?_
    all_goals exact fz
   ·refine ct (Z111.aj ⟨H3.2.1,H3.2.2.2⟩) ?_
    refine au ret (fun c14=>?_) (fun _=>rfl)
    refine au ret (fun c15=>?_) (fun _=>rfl)
    refine ct (Z78.aj trivial) ?_
    all_goals exact fz
 ·refine au ret (fun c16=>?_) (fun c16=>?_)
  ·refine ct (Z116.aj ⟨H3.1,H3.2.2.1⟩) ?_
   refine au ret (fun _=>rfl) (fun c17=>?_)
   refine au ret (fun c18=>?_) (fun c18=>?_)
   ·refine ct (Z116.aj ⟨H3.2.1,H3.2.2.2⟩) ?_
    all_goals exact fz
   ·refine ct (Z111.aj ⟨H3.2.1,H3.2.2.2⟩) ?_
    refine au ret (fun c19=>?_) (fun _=>rfl)
    refine au ret (fun c20=>?_) (fun _=>rfl)
    refine ct (Z78.aj trivial) ?_
    all_goals exact fz
  ·refine ct (Z111.aj ⟨H3.1,H3.2.2.1⟩) ?_
   refine au ret (fun _=>rfl) (fun c21=>?_)
   refine au ret (fun _=>rfl) (fun c22=>?_)
   refine ct (Z78.aj trivial) ?_
   refine au ret (fun _=>rfl) (fun c23=>?_)
   refine au ret (fun c24=>?_) (fun c24=>?_)
   ·refine ct (Z116.aj ⟨H3.2.1,H3.2.2.2⟩) ?_
    all_goals exact fz
   ·refine ct (Z111.aj ⟨H3.2.1,H3.2.2.2⟩) ?_
    refine au ret (fun c25=>?_) (fun _=>rfl)
    refine au ret (fun c26=>?_) (fun _=>rfl)
    refine ct (Z78.aj trivial) ?_
    all_goals exact fz
def af:cw 159 aT:=W4 95 F mix aE bt (.cons Z48.af (.cons Z47.af (.cons Z89.af (.cons Z116.af (.cons Z111.af (.cons Z78.af .nil)))))) Tryz.func159
end Z117
namespace Z118
def F (x0:bY)(x1:aB)(x2:bg):aH:=(cond x2.cu (cond (x2.aV.bk==x1) (call (Z111.R (x0.cW,x0.cq,x2.aV,x2.eD)) fun v1=>(cond v1 (call (Z115.R (x2.fV,(⟨0,(⟨(⟨#[]⟩:aB),0,0,[]⟩:aU),(⟨(⟨#[]⟩:aB),0,0,[]⟩:aU),(⟨0,[]⟩:bS),(⟨0,[]⟩:bS)⟩:dM))) fun v2=>ret (v2:Bool)) aY)) aY) (call (Z117.R (x0.cW,x0.cq,x1,x2.fV)) fun v3=>(cond v3 (call (Z116.R (x2.aV,x2.eD)) fun v4=>ret (v4:Bool)) aY)))
def md (a0:aF)(a1:aB)(a2:ay):Bool:=(cond a2.cu (cond (a2.aV.bk==a1) (cond (Z111.md a0.cW a0.cq a2.aV a2.eD) ((Z115.md a2.fV (⟨0,(⟨((⟨#[]⟩:aB):aB),0,0,[]⟩:ah),(⟨((⟨#[]⟩:aB):aB),0,0,[]⟩:ah),(⟨0,[]⟩:aM),(⟨0,[]⟩:aM)⟩:bU)):Bool) (false:Bool)) (false:Bool)) (cond (Z117.md a0.cW a0.cq a1 a2.fV) ((Z116.md a2.aV a2.eD):Bool) (false:Bool)))
def gd (a0:aF)(a1:aB)(a2:ay):Prop:=(a1.size<=(2^21))/\(ay.Sm (2^21) a2)
def R:=RR (p3 gd) (u3 md)
def aj {a0 a1 a2}(h:gd a0 a1 a2):R ((aF.r a0),a1,(ay.r a2))=some (md a0 a1 a2):=aN (a:=(a0,a1,a2)) h
def aT:=CN [.agg fW,pS,.agg xA] oB RT.dec R
def bt (a0)(a1)(a2)(hg:gd a0 a1 a2):F (aF.r a0) a1 (ay.r a2)=ret (md a0 a1 a2):=by
 obtain ⟨H1,H2⟩:=hg
 unfold F md
 try simp only [SS]
 refine au ret (fun c1=>?_) (fun c1=>?_)
 ·refine au ret (fun c2=>?_) (fun _=>rfl)
  refine ct (Z111.aj ⟨H2.2.1,H2.2.2.1⟩) ?_
  refine au ret (fun c3=>?_) (fun _=>rfl)
  refine ct (Z115.aj (a1:=(⟨0,(⟨((⟨#[]⟩:aB):aB),0,0,[]⟩:ah),(⟨((⟨#[]⟩:aB):aB),0,0,[]⟩:ah),(⟨0,[]⟩:aM),(⟨0,[]⟩:aM)⟩:bU)) ⟨H2.2.2.2,⟨⟨(by decide),bL.nil⟩,⟨(by decide),bL.nil⟩,bL.nil,bL.nil⟩⟩) ?_
  all_goals exact fz
 ·refine ct (Z117.aj ⟨H1,H2.2.2.2⟩) ?_
  refine au ret (fun c4=>?_) (fun _=>rfl)
  refine ct (Z116.aj ⟨H2.2.1,H2.2.2.1⟩) ?_
  all_goals exact fz
def af:cw 127 aT:=W3 46 F mix aE bt (.cons Z111.af (.cons Z115.af (.cons Z117.af (.cons Z116.af .nil)))) Tryz.func127
end Z118
namespace Z119
def F (x0:Int)(x1:aB)(x2:bg)(x3:Int):aH:=(call (Z76.R x2.aS) fun v1=>(cond (!v1.2) (ret (3:Int)) (cond (v1.1.bC != x0) (ret (2:Int)) (call (Z109.R (v1.1,x3)) fun v2=>(cond (!v2) (ret (4:Int)) (cond v1.1.bE (ret (5:Int)) (call (Z118.R (v1.1,x1,x2)) fun v3=>(cond (!v3) (ret (6:Int)) (ret (1:Int))))))))))
def md (a0:Int)(a1:aB)(a2:ay)(a3:Int):Int:=(cond (!(Z76.md a2.aS).2) (3:Int) (cond ((Z76.md a2.aS).1.bC != a0) (2:Int) (cond (!(Z109.md ((Z76.md a2.aS).1) a3)) (4:Int) (cond ((Z76.md a2.aS).1.bE) (5:Int) (cond (!(Z118.md ((Z76.md a2.aS).1) a1 a2)) (6:Int) (1:Int))))))
def gd (a0:Int)(a1:aB)(a2:ay)(a3:Int):Prop:=(a1.size<=(2^21))/\(ay.Sm (2^21) a2)
def R:=RR (p4 gd) (u4 md)
def aj {a0 a1 a2 a3}(h:gd a0 a1 a2 a3):R (a0,a1,(ay.r a2),a3)=some (md a0 a1 a2 a3):=aN (a:=(a0,a1,a2,a3)) h
def aT:=CN [pI,pS,.agg xA,pI] oI RT.dec R
def bt (a0)(a1)(a2)(a3)(hg:gd a0 a1 a2 a3):F a0 a1 (ay.r a2) a3=ret (md a0 a1 a2 a3):=by
 obtain ⟨H1,H2⟩:=hg
 unfold F md
 try simp only [SS]
 refine ct (Z76.aj H2.1) ?_
 try simp only [SS]
 refine au ret (fun _=>rfl) (fun c1=>?_)
 refine au ret (fun _=>rfl) (fun c2=>?_)
 refine ct (Z109.aj trivial) ?_
 refine au ret (fun _=>rfl) (fun c3=>?_)
 refine au ret (fun _=>rfl) (fun c4=>?_)
 refine ct (Z118.aj ⟨H1,H2⟩) ?_
 refine au ret (fun _=>rfl) (fun _=>rfl)
def af:cw 103 aT:=W4 39 F mix aE bt (.cons Z76.af (.cons Z109.af (.cons Z118.af .nil))) Tryz.func103
end Z119
namespace Z120
inductive Pt where
 | p0 (a:Int) (b c:aR)
def pid:Pt->Nat
 | .p0 ..=>4
def cg:Pt->List V
 | .p0 a b c=>[.cQ 0 0,.cQ 1 0,.int .i64 a]
def bZ:Pt->List aW
 | .p0 a b c=>[.box [.int .i64 b.an.bC,.int .i64 b.an.cI,.int .i64 b.an.bK,.int .i64 b.an.cG,.int .i64 b.an.cz,.int .i64 b.an.cq,.int .i64 b.an.cW,.int .i64 b.an.dy,.sl none 3 b.an.bQ.aX,.int .i64 b.an.bQ.cC,.sl none 3 b.an.bB.aX,.int .i64 b.an.bB.cC,.int .i64 b.an.cY,.sl none 3 b.an.bw.aX,.int .i64 b.an.bw.cC,.bool b.an.bE,.sl none 190 b.cm],.box [.int .i64 c.an.bC,.int .i64 c.an.cI,.int .i64 c.an.bK,.int .i64 c.an.cG,.int .i64 c.an.cz,.int .i64 c.an.cq,.int .i64 c.an.cW,.int .i64 c.an.dy,.sl none 3 c.an.bQ.aX,.int .i64 c.an.bQ.cC,.sl none 3 c.an.bB.aX,.int .i64 c.an.bB.cC,.int .i64 c.an.cY,.sl none 3 c.an.bw.aX,.int .i64 c.an.bw.cC,.bool c.an.bE,.sl none 190 c.cm]]
def step (J:Pt->aH):Pt->aH
 | .p0 a b c=>(cond (decide (a<(b.cm.length:Int))) (m2 a (b.cm.length:Int) (m2 a (c.cm.length:Int) (cond (!((((bn.at b.cm (toNat a)).gJ:Int)==(bn.at c.cm (toNat a)).gJ)&&((((bn.at b.cm (toNat a)).jq:Int)==(bn.at c.cm (toNat a)).jq)&&true))) aY (J (.p0 (i64.wrap (a+1)) b c))))) ep)
def start (J:Pt->aH)(x0 x1:aR):aH:=(call (Z104.R (x0.an,x1.an)) fun v1=>(cond (!v1) aY (cond ((x0.cm.length:Int) != (x1.cm.length:Int)) aY (J (.p0 0 x0 x1)))))
def live:Nat->Live:=fun i=>match i with | 4=>[(2,none),(3,none),(5,none)] | _=>[]
def md (a0 a1:aa):Bool:=(bif (!(Z104.md a0.an a1.an)) then (false:Bool) else (bif ((a0.cm.length:Int) != (a1.cm.length:Int)) then (false:Bool) else (eo (S:=Unit) (β:=Bool) (fun (i3:Nat) (s5:Unit)=>(cond (!((((a0.cm.getD i3 bn.zero).gJ:Int)==(a1.cm.getD i3 bn.zero).gJ)&&((((a0.cm.getD i3 bn.zero).jq:Int)==(a1.cm.getD i3 bn.zero).jq)&&true))) (.inr (false:Bool)) (.inl ()))) (fun (s5:Unit)=>(true:Bool)) a0.cm.length 0 ())))
def gd (a0 a1:aa):Prop:=(aa.Sm (2^21) a0)/\(aa.Sm (2^21) a1)
def R:=RR (p2 gd) (u2 md)
def aj {a0 a1}(h:gd a0 a1):R ((aa.r a0),(aa.r a1))=some (md a0 a1):=aN (a:=(a0,a1)) h
def aT:=CN [.agg kE,.agg kE] oB RT.dec R
def bt (a0)(a1)(hg:gd a0 a1):∃n,start (iter step n) (aa.r a0) (aa.r a1)=ret (md a0 a1):=by
 obtain ⟨H0,H1⟩:=hg
 unfold start md
 try simp only [SS]
 refine cx (Z104.aj ⟨H0.1,H1.1⟩) ?_
 refine gR ret (fun _=>⟨0,rfl⟩) (fun c1=>?_)
 have dc1:=c1
 try simp only [DC] at dc1
 refine gR ret (fun _=>⟨0,rfl⟩) (fun c2=>?_)
 have dc2:=c2
 try simp only [DC] at dc2
 have Bh4:a0.cm.length<=maxLen:=(by
   have:=(H0.2).1
   try simp only [maxLen] at *
   omega)
 refine dK (p:=Pt.p0 0 (aa.r a0) (aa.r a1)) fz ?_
 refine cj (pt:=fun (i3:Nat) (s5:Unit)=>Pt.p0 (i3:Int) (aa.r a0) (aa.r a1)) (s:=(():Unit)) (out:=ret) (fun _ _=>True) (fun J i3 s5 h4 hih4=>?_) (fun s5 hih4=>?_) trivial
 ·simp only [step,SS]
  have bb_:=Bh4
  simp only [maxLen] at bb_
  have:=(H0.2).1
  refine bz.yes (by apply decide_eq_true;omega) ?_
  refine bz.yes aI ?_
  refine bz.yes (aL h4) ?_
  refine bz.yes aI ?_
  refine bz.yes (have:=(H1.2).1;dt) ?_
  refine bz.bif (fun _=>bz.inr rfl) (fun c6=>?_)
  refine bz.inl trivial ?_
  rw [aG h4 Bh4]
  all_goals exact fz
 ·simp only [step,SS]
  have:=(H0.2).1
  refine dx (by apply decide_eq_false;omega) ?_
  refine ⟨0,?_⟩
  all_goals exact fz
def af:cw 199 aT:=L2 39 pid cg bZ live step start mix aE bt (.cons Z104.af .nil) Tryz.func199
def md_eq (a0 a1:aa):md a0 a1=dW a0 a1:=by
 unfold md
 simp only [Z104.md_eq,eZ,bn.eqc]
 rw [ke bn.zero (fun i s h h2=>by cases dW (a0.cm.getD i bn.zero) (a1.cm.getD i bn.zero)<;>rfl) (fun s=>rfl)]
 rw [Bool.eq_iff_iff]
 cases a0;cases a1
 simp [dc]
end Z120
namespace Z121
def F (x0:bH):aH:=(call (Z104.R (x0.fA.an,x0.fB.an)) fun v1=>(cond v1 aY (call (Z120.R (x0.aQ,(⟨(⟨0,0,0,0,0,0,0,0,(⟨[],0⟩:bD),(⟨[],0⟩:bD),0,(⟨[],0⟩:bD),false⟩:bY),[]⟩:aR))) fun v2=>(cond v2 (call (Z64.R x0.fA) fun v3=>(cond v3 (call (Z64.R x0.fB) fun v4=>(cond v4 (ret ((x0.fA.an.bC==x0.fB.an.bC):Bool)) aY)) aY)) (call (Z73.R (x0.aQ.an,x0.fA)) fun v5=>(cond v5 (call (Z73.R (x0.aQ.an,x0.fB)) fun v6=>ret (v6:Bool)) aY))))))
def md (a0:az):Bool:=(cond (Z104.md a0.fA.an a0.fB.an) (false:Bool) (cond (Z120.md a0.aQ (⟨(⟨0,0,0,0,0,0,0,0,(⟨[],0⟩:aO),(⟨[],0⟩:aO),0,(⟨[],0⟩:aO),false⟩:aF),[]⟩:aa)) (cond (Z64.md a0.fA) (cond (Z64.md a0.fB) ((a0.fA.an.bC==a0.fB.an.bC):Bool) (false:Bool)) (false:Bool)) (cond (Z73.md a0.aQ.an a0.fA) ((Z73.md a0.aQ.an a0.fB):Bool) (false:Bool))))
def gd (a0:az):Prop:=(az.Sm (2^21) a0)
def R:=RR gd md
def aj {a0}(h:gd a0):R (az.r a0)=some (md a0):=aN (a:=a0) h
def aT:=CN [.agg sO] oB RT.dec R
def bt (a0)(hg:gd a0):F (az.r a0)=ret (md a0):=by
 unfold gd at hg
 have H0:=hg
 unfold F md
 try simp only [SS]
 refine ct (Z104.aj ⟨H0.2.1.1,H0.2.2.1⟩) ?_
 refine au ret (fun _=>rfl) (fun c1=>?_)
 refine ct (Z120.aj (a1:=(⟨(⟨0,0,0,0,0,0,0,0,(⟨[],0⟩:aO),(⟨[],0⟩:aO),0,(⟨[],0⟩:aO),false⟩:aF),[]⟩:aa)) ⟨H0.1,⟨⟨bL.nil,bL.nil,bL.nil⟩,bL.nil⟩⟩) ?_
 refine au ret (fun c2=>?_) (fun c2=>?_)
 ·refine ct (Z64.aj H0.2.1) ?_
  refine au ret (fun c3=>?_) (fun _=>rfl)
  refine ct (Z64.aj H0.2.2) ?_
  refine au ret (fun c4=>?_) (fun _=>rfl)
  all_goals exact fz
 ·refine ct (Z73.aj ⟨H0.1.1,H0.2.1⟩) ?_
  refine au ret (fun c5=>?_) (fun _=>rfl)
  refine ct (Z73.aj ⟨H0.1.1,H0.2.2⟩) ?_
  all_goals exact fz
def af:cw 161 aT:=W1 47 F mix aE bt (.cons Z104.af (.cons Z120.af (.cons Z64.af (.cons Z73.af .nil)))) Tryz.func161
end Z121
namespace Z122
def F (x0:bH):aH:=(call (Z121.R x0) fun v1=>(cond (!v1) (ret ((-1):Int)) (ret (x0.fA.an.bC:Int))))
def md (a0:az):Int:=(cond (!(Z121.md a0)) ((-1):Int) (a0.fA.an.bC:Int))
def gd (a0:az):Prop:=(az.Sm (2^21) a0)
def R:=RR gd md
def aj {a0}(h:gd a0):R (az.r a0)=some (md a0):=aN (a:=a0) h
def aT:=CN [.agg sO] oI RT.dec R
def bt (a0)(hg:gd a0):F (az.r a0)=ret (md a0):=by
 unfold gd at hg
 have H0:=hg
 unfold F md
 try simp only [SS]
 refine ct (Z121.aj H0) ?_
 refine au ret (fun _=>rfl) (fun c1=>?_)
 all_goals exact fz
def af:cw 128 aT:=W1 10 F mix aE bt (.cons Z121.af .nil) Tryz.func128
end Z122
namespace Z123
inductive Pt where
 | p0 (a b:Int) (c:bu)
def pid:Pt->Nat
 | .p0 ..=>2
def cg:Pt->List V
 | .p0 a b c=>[.int .i64 a,.cQ 0 0,.int .i64 b]
def bZ:Pt->List aW
 | .p0 a b c=>[.box [.sl none 134 c.aJ,.sl none 143 c.bp]]
def step (J:Pt->aH):Pt->aH
 | .p0 a b c=>(cond (decide (b<(c.bp.length:Int))) (m2 b (c.bp.length:Int) (call (Z122.R (bH.at c.bp (toNat b))) fun v1=>(cond (v1==a) (cond (decide (a>=0)) ep (J (.p0 a (i64.wrap (b+1)) c))) (J (.p0 a (i64.wrap (b+1)) c))))) aY)
def start (J:Pt->aH)(x0:bu)(x1:Int):aH:=J (.p0 x1 0 x0)
def live:Nat->Live:=fun i=>match i with | 2=>[(1,none),(2,none),(5,none)] | _=>[]
def md (a0:aq)(a1:Int):Bool:=(dX (S:=Unit) (β:=Bool) (fun (y1:az) (s3:Unit)=>(cond ((Z122.md y1)==a1) (cond (decide (a1>=0)) (.inr (true:Bool)) (.inl ())) (.inl ()))) (fun (s3:Unit)=>(false:Bool)) a0.bp ())
def gd (a0:aq)(a1:Int):Prop:=(aq.Sm (2^21) a0)
def R:=RR (p2 gd) (u2 md)
def aj {a0 a1}(h:gd a0 a1):R ((aq.r a0),a1)=some (md a0 a1):=aN (a:=(a0,a1)) h
def aT:=CN [.agg rK,pI] oB RT.dec R
def bt (a0)(a1)(hg:gd a0 a1):∃n,start (iter step n) (aq.r a0) a1=ret (md a0 a1):=by
 unfold gd at hg
 have H0:=hg
 unfold start md
 try simp only [SS]
 have Bh2:a0.bp.length<=maxLen:=(by
   have:=(H0.2).1
   try simp only [maxLen] at *
   omega)
 refine ex_eq (out:=ret) (eG (z:=az.zero)) ?_
 refine dK (p:=Pt.p0 a1 0 (aq.r a0)) fz ?_
 refine cj (pt:=fun (i1:Nat) (s3:Unit)=>Pt.p0 a1 (i1:Int) (aq.r a0)) (s:=(():Unit)) (out:=ret) (fun _ _=>True) (fun J i1 s3 h2 hih2=>?_) (fun s3 hih2=>?_) trivial
 ·simp only [step,SS]
  have bb_:=Bh2
  simp only [maxLen] at bb_
  have:=(H0.2).1
  refine bz.yes (by apply decide_eq_true;omega) ?_
  refine bz.yes aI ?_
  refine bz.yes (aL h2) ?_
  refine cr (Z122.aj (bL.getD (z:=az.zero) H0.2 h2)) ?_
  refine bz.bif (fun c4=>?_) (fun c4=>?_)
  ·refine bz.bif (fun _=>bz.inr rfl) (fun c5=>?_)
   refine bz.inl trivial ?_
   rw [aG h2 Bh2]
   all_goals exact fz
  ·refine bz.inl trivial ?_
   rw [aG h2 Bh2]
   all_goals exact fz
 ·simp only [step,SS]
  have:=(H0.2).1
  refine dx (by apply decide_eq_false;omega) ?_
  refine ⟨0,?_⟩
  all_goals exact fz
def af:cw 104 aT:=L2 25 pid cg bZ live step start mix aE bt (.cons Z122.af .nil) Tryz.func104
end Z123
namespace Z124
inductive Pt where
 | p0 (a:aC) (b:Int) (c:aB) (d e:Int) (f:Bool) (g:aB) (h i:Int) (j k:Bool) (l:aB) (m n:Int) (o:Bool) (p q s:aC)
def pid:Pt->Nat
 | .p0 ..=>3
def cg:Pt->List V
 | .p0 a b c d e f g h i j k l m n o p q s=>[.sl none 165 a,.int .i64 b,.str c,.int .i64 d,.cQ 0 0,.cQ 1 0,.int .i64 e,.cQ 1 0]
def bZ:Pt->List aW
 | .p0 a b c d e f g h i j k l m n o p q s=>[.box [.nil,.nil,.bool f,.str g,.int .i64 h,.int .i64 i,.nil,.bool j,.nil],.box [.own 2,.own 3,.bool k,.str l,.int .i64 m,.int .i64 n,.nil,.bool o,.own 4],.row 134 p,.row 143 q,.row 3 s]
def step (J:Pt->aH):Pt->aH
 | .p0 a b c d e f g h i j k l m n o p q s=>(cond (decide (e<(a.length:Int))) (m2 e (a.length:Int) (call (Z76.R ((bg.at a (toNat e)).aS)) fun v1=>(cond v1.2 (cond (v1.1.bC==b) (call (Z108.R ((⟨p,q⟩:bu),(bg.at a (toNat e)).aS)) fun v2=>(call (Z119.R (b,c,(bg.at a (toNat e)),d)) fun v3=>(cond (v2.2==1) (cond (v3==1) (call (Z123.R (v2.1,b)) fun v4=>(cond v4 (ck (eT (((s.length:Int)+1)*8)) (J (.p0 a b c d (i64.wrap (e+1)) f g h i j k l m n o v2.1.aJ v2.1.bp (s++[[L.int 3]])))) (ck (eT (((s.length:Int)+1)*8)) (cond (v3==1) (call (Z95.R ((bg.at a (toNat e)).aV)) fun v5=>ret ((⟨v2.1,(bg.at a (toNat e)).cu,v5,true,(s++[[L.int v3]])⟩:cZ):cZ)) (J (.p0 a b c d (i64.wrap (e+1)) f g h i j k l m n o v2.1.aJ v2.1.bp (s++[[L.int v3]]))))))) (ck (eT (((s.length:Int)+1)*8)) (cond (v3==1) (call (Z95.R ((bg.at a (toNat e)).aV)) fun v6=>ret ((⟨v2.1,(bg.at a (toNat e)).cu,v6,true,(s++[[L.int v3]])⟩:cZ):cZ)) (J (.p0 a b c d (i64.wrap (e+1)) f g h i j k l m n o v2.1.aJ v2.1.bp (s++[[L.int v3]])))))) (cond (v2.2==2) (cond (v3==1) (call (Z123.R (v2.1,b)) fun v7=>(cond v7 (ck (eT (((s.length:Int)+1)*8)) (J (.p0 a b c d (i64.wrap (e+1)) f g h i j k l m n o v2.1.aJ v2.1.bp (s++[[L.int 3]])))) (ck (eT (((s.length:Int)+1)*8)) (cond (v3==1) (call (Z95.R ((bg.at a (toNat e)).aV)) fun v8=>ret ((⟨v2.1,(bg.at a (toNat e)).cu,v8,true,(s++[[L.int v3]])⟩:cZ):cZ)) (J (.p0 a b c d (i64.wrap (e+1)) f g h i j k l m n o v2.1.aJ v2.1.bp (s++[[L.int v3]]))))))) (ck (eT (((s.length:Int)+1)*8)) (cond (v3==1) (call (Z95.R ((bg.at a (toNat e)).aV)) fun v9=>ret ((⟨v2.1,(bg.at a (toNat e)).cu,v9,true,(s++[[L.int v3]])⟩:cZ):cZ)) (J (.p0 a b c d (i64.wrap (e+1)) f g h i j k l m n o v2.1.aJ v2.1.bp (s++[[L.int v3]])))))) (cond (v3==1) (cond (!(v2.2==3)) (ck (eT (((s.length:Int)+1)*8)) (J (.p0 a b c d (i64.wrap (e+1)) f g h i j k l m n o v2.1.aJ v2.1.bp (s++[[L.int 3]])))) (call (Z123.R (v2.1,b)) fun v10=>(cond v10 (ck (eT (((s.length:Int)+1)*8)) (J (.p0 a b c d (i64.wrap (e+1)) f g h i j k l m n o v2.1.aJ v2.1.bp (s++[[L.int 3]])))) (ck (eT (((s.length:Int)+1)*8)) (cond (v3==1) (call (Z95.R ((bg.at a (toNat e)).aV)) fun v11=>ret ((⟨v2.1,(bg.at a (toNat e)).cu,v11,true,(s++[[L.int v3]])⟩:cZ):cZ)) (J (.p0 a b c d (i64.wrap (e+1)) f g h i j k l m n o v2.1.aJ v2.1.bp (s++[[L.int v3]])))))))) (ck (eT (((s.length:Int)+1)*8)) (cond (v3==1) (call (Z95.R ((bg.at a (toNat e)).aV)) fun v12=>ret ((⟨v2.1,(bg.at a (toNat e)).cu,v12,true,(s++[[L.int v3]])⟩:cZ):cZ)) (J (.p0 a b c d (i64.wrap (e+1)) f g h i j k l m n o v2.1.aJ v2.1.bp (s++[[L.int v3]])))))))))) (call (Z119.R (b,c,(bg.at a (toNat e)),d)) fun v13=>(cond (v13==1) (ck (eT (((s.length:Int)+1)*8)) (J (.p0 a b c d (i64.wrap (e+1)) f g h i j k l m n o p q (s++[[L.int 3]])))) (ck (eT (((s.length:Int)+1)*8)) (cond (v13==1) (call (Z95.R ((bg.at a (toNat e)).aV)) fun v14=>ret ((⟨(⟨p,q⟩:bu),(bg.at a (toNat e)).cu,v14,true,(s++[[L.int v13]])⟩:cZ):cZ)) (J (.p0 a b c d (i64.wrap (e+1)) f g h i j k l m n o p q (s++[[L.int v13]])))))))) (call (Z119.R (b,c,(bg.at a (toNat e)),d)) fun v15=>(cond (v15==1) (ck (eT (((s.length:Int)+1)*8)) (J (.p0 a b c d (i64.wrap (e+1)) f g h i j k l m n o p q (s++[[L.int 3]])))) (ck (eT (((s.length:Int)+1)*8)) (cond (v15==1) (call (Z95.R ((bg.at a (toNat e)).aV)) fun v16=>ret ((⟨(⟨p,q⟩:bu),(bg.at a (toNat e)).cu,v16,true,(s++[[L.int v15]])⟩:cZ):cZ)) (J (.p0 a b c d (i64.wrap (e+1)) f g h i j k l m n o p q (s++[[L.int v15]])))))))))) (ret ((⟨(⟨p,q⟩:bu),k,(⟨l,m,n,[]⟩:aU),o,s⟩:cZ):cZ)))
def start (J:Pt->aH)(x0:bu)(x1:aC)(x2:Int)(x3:aB)(x4:Int):aH:=(call (Z46.R x0) fun v1=>J (.p0 x1 x2 x3 x4 0 false ⟨#[]⟩ 0 0 false false ⟨#[]⟩ 0 0 false v1.aJ v1.bp []))
def live:Nat->Live:=fun i=>match i with | 3=>[(1,none),(2,none),(3,none),(4,none),(10,none),(11,none),(12,none),(11,some 8388611)] | _=>[]
def md (a0:aq)(a1:List ay)(a2:Int)(a3:aB)(a4:Int):bT:=(dX (S:=List (List aa)×List az×List Int) (β:=bT) (fun (y1:ay) (s3:List (List aa)×List az×List Int)=>(cond ((Z76.md (y1.aS)).2) (cond ((Z76.md (y1.aS)).1.bC==a2) (cond ((Z108.md (⟨s3.1,s3.2.1⟩:aq) (y1.aS)).2==1) (cond ((Z119.md a2 a3 y1 a4)==1) (cond (Z123.md ((Z108.md (⟨s3.1,s3.2.1⟩:aq) (y1.aS)).1) a2) (.inl ((Z108.md (⟨s3.1,s3.2.1⟩:aq) (y1.aS)).1.aJ,(Z108.md (⟨s3.1,s3.2.1⟩:aq) (y1.aS)).1.bp,(s3.2.2++[3]))) (cond ((Z119.md a2 a3 y1 a4)==1) (.inr (⟨(Z108.md (⟨s3.1,s3.2.1⟩:aq) (y1.aS)).1,y1.cu,(y1.aV),true,(s3.2.2++[(Z119.md a2 a3 y1 a4)])⟩:bT)) (.inl ((Z108.md (⟨s3.1,s3.2.1⟩:aq) (y1.aS)).1.aJ,(Z108.md (⟨s3.1,s3.2.1⟩:aq) (y1.aS)).1.bp,(s3.2.2++[(Z119.md a2 a3 y1 a4)]))))) (cond ((Z119.md a2 a3 y1 a4)==1) (.inr (⟨(Z108.md (⟨s3.1,s3.2.1⟩:aq) (y1.aS)).1,y1.cu,(y1.aV),true,(s3.2.2++[(Z119.md a2 a3 y1 a4)])⟩:bT)) (.inl ((Z108.md (⟨s3.1,s3.2.1⟩:aq) (y1.aS)).1.aJ,(Z108.md (⟨s3.1,s3.2.1⟩:aq) (y1.aS)).1.bp,(s3.2.2++[(Z119.md a2 a3 y1 a4)]))))) (cond ((Z108.md (⟨s3.1,s3.2.1⟩:aq) (y1.aS)).2==2) (cond ((Z119.md a2 a3 y1 a4)==1) (cond (Z123.md ((Z108.md (⟨s3.1,s3.2.1⟩:aq) (y1.aS)).1) a2) (.inl ((Z108.md (⟨s3.1,s3.2.1⟩:aq) (y1.aS)).1.aJ,(Z108.md (⟨s3.1,s3.2.1⟩:aq) (y1.aS)).1.bp,(s3.2.2++[3]))) (cond ((Z119.md a2 a3 y1 a4)==1) (.inr (⟨(Z108.md (⟨s3.1,s3.2.1⟩:aq) (y1.aS)).1,y1.cu,(y1.aV),true,(s3.2.2++[(Z119.md a2 a3 y1 a4)])⟩:bT)) (.inl ((Z108.md (⟨s3.1,s3.2.1⟩:aq) (y1.aS)).1.aJ,(Z108.md (⟨s3.1,s3.2.1⟩:aq) (y1.aS)).1.bp,(s3.2.2++[(Z119.md a2 a3 y1 a4)]))))) (cond ((Z119.md a2 a3 y1 a4)==1) (.inr (⟨(Z108.md (⟨s3.1,s3.2.1⟩:aq) (y1.aS)).1,y1.cu,(y1.aV),true,(s3.2.2++[(Z119.md a2 a3 y1 a4)])⟩:bT)) (.inl ((Z108.md (⟨s3.1,s3.2.1⟩:aq) (y1.aS)).1.aJ,(Z108.md (⟨s3.1,s3.2.1⟩:aq) (y1.aS)).1.bp,(s3.2.2++[(Z119.md a2 a3 y1 a4)]))))) (cond ((Z119.md a2 a3 y1 a4)==1) (cond (!((Z108.md (⟨s3.1,s3.2.1⟩:aq) (y1.aS)).2==3)) (.inl ((Z108.md (⟨s3.1,s3.2.1⟩:aq) (y1.aS)).1.aJ,(Z108.md (⟨s3.1,s3.2.1⟩:aq) (y1.aS)).1.bp,(s3.2.2++[3]))) (cond (Z123.md ((Z108.md (⟨s3.1,s3.2.1⟩:aq) (y1.aS)).1) a2) (.inl ((Z108.md (⟨s3.1,s3.2.1⟩:aq) (y1.aS)).1.aJ,(Z108.md (⟨s3.1,s3.2.1⟩:aq) (y1.aS)).1.bp,(s3.2.2++[3]))) (cond ((Z119.md a2 a3 y1 a4)==1) (.inr (⟨(Z108.md (⟨s3.1,s3.2.1⟩:aq) (y1.aS)).1,y1.cu,(y1.aV),true,(s3.2.2++[(Z119.md a2 a3 y1 a4)])⟩:bT)) (.inl ((Z108.md (⟨s3.1,s3.2.1⟩:aq) (y1.aS)).1.aJ,(Z108.md (⟨s3.1,s3.2.1⟩:aq) (y1.aS)).1.bp,(s3.2.2++[(Z119.md a2 a3 y1 a4)])))))) (cond ((Z119.md a2 a3 y1 a4)==1) (.inr (⟨(Z108.md (⟨s3.1,s3.2.1⟩:aq) (y1.aS)).1,y1.cu,(y1.aV),true,(s3.2.2++[(Z119.md a2 a3 y1 a4)])⟩:bT)) (.inl ((Z108.md (⟨s3.1,s3.2.1⟩:aq) (y1.aS)).1.aJ,(Z108.md (⟨s3.1,s3.2.1⟩:aq) (y1.aS)).1.bp,(s3.2.2++[(Z119.md a2 a3 y1 a4)]))))))) (cond ((Z119.md a2 a3 y1 a4)==1) (.inl (s3.1,s3.2.1,(s3.2.2++[3]))) (cond ((Z119.md a2 a3 y1 a4)==1) (.inr (⟨(⟨s3.1,s3.2.1⟩:aq),y1.cu,(y1.aV),true,(s3.2.2++[(Z119.md a2 a3 y1 a4)])⟩:bT)) (.inl (s3.1,s3.2.1,(s3.2.2++[(Z119.md a2 a3 y1 a4)])))))) (cond ((Z119.md a2 a3 y1 a4)==1) (.inl (s3.1,s3.2.1,(s3.2.2++[3]))) (cond ((Z119.md a2 a3 y1 a4)==1) (.inr (⟨(⟨s3.1,s3.2.1⟩:aq),y1.cu,(y1.aV),true,(s3.2.2++[(Z119.md a2 a3 y1 a4)])⟩:bT)) (.inl (s3.1,s3.2.1,(s3.2.2++[(Z119.md a2 a3 y1 a4)]))))))) (fun (s3:List (List aa)×List az×List Int)=>(⟨(⟨s3.1,s3.2.1⟩:aq),false,(⟨(⟨#[]⟩:aB),0,0,[]⟩:ah),false,s3.2.2⟩:bT)) a1 (a0.aJ,a0.bp,[]))
def gd (a0:aq)(a1:List ay)(a2:Int)(a3:aB)(a4:Int):Prop:=(aq.Sm (2^21) a0)/\(bL (2^21) (fun y:ay=>ay.Sm (2^21) y) a1)/\(a3.size<=(2^21))
def R:=RR (p5 gd) (u5 md)
def aj {a0 a1 a2 a3 a4}(h:gd a0 a1 a2 a3 a4):R ((aq.r a0),(a1.map ay.row),a2,a3,a4)=some (bT.r (md a0 a1 a2 a3 a4)):=aN (a:=(a0,a1,a2,a3,a4)) h
def aT:=CN [.agg rK,pL 165,pI,pS,pI] (.agg f102) RT.dec R
def bt (a0)(a1)(a2)(a3)(a4)(hg:gd a0 a1 a2 a3 a4):∃n,start (iter step n) (aq.r a0) (a1.map ay.row) a2 a3 a4=ret (bT.r (md a0 a1 a2 a3 a4)):=by
 obtain ⟨H0,H1,H3⟩:=hg
 unfold start md
 try simp only [SS]
 refine cx (Z46.aj H0) ?_
 try simp only [SS]
 have Bh2:a1.length<=maxLen:=(by
   have:=(H1).1
   try simp only [maxLen] at *
   omega)
 refine ex_eq (out:=(fun b:bT=>ret ((bT.r b):cZ))) (eG (z:=ay.zero)) ?_
 refine dK (p:=Pt.p0 (a1.map ay.row) a2 a3 a4 0 false (⟨#[]⟩:aB) 0 0 false false (⟨#[]⟩:aB) 0 0 false (a0.aJ.map (dG aa.row)) (a0.bp.map az.row) ([].map bh)) fz ?_
 refine cj (pt:=fun (i1:Nat) (s3:List (List aa)×List az×List Int)=>Pt.p0 (a1.map ay.row) a2 a3 a4 (i1:Int) false (⟨#[]⟩:aB) 0 0 false false (⟨#[]⟩:aB) 0 0 false (s3.1.map (dG aa.row)) (s3.2.1.map az.row) (s3.2.2.map bh)) (s:=((a0.aJ,a0.bp,[]):List (List aa)×List az×List Int)) (out:=(fun b:bT=>ret ((bT.r b):cZ))) (fun (i1:Nat) (s3:List (List aa)×List az×List Int)=>aq.Sm (2^21) (⟨s3.1,s3.2.1⟩:aq)/\s3.2.2.length<=i1) (fun J i1 s3 h2 hih2=>?_) (fun s3 hih2=>?_) ⟨H0,zero_le _⟩
 ·simp only [step,SS]
  have gr_:=hih2
  try simp only [LN] at gr_
  have bb_:=Bh2
  simp only [maxLen] at bb_
  have:=(H1).1
  refine bz.yes (by apply decide_eq_true;omega) ?_
  refine bz.yes aI ?_
  refine bz.yes (aL h2) ?_
  refine cr (Z76.aj (bL.getD (z:=ay.zero) H1 h2).1) ?_
  try simp only [SS]
  refine bz.bif (fun c4=>?_) (fun c4=>?_)
  ·refine bz.bif (fun c5=>?_) (fun c5=>?_)
   ·have dc5:=c5
    try simp only [DC] at dc5
    refine cr (Z108.aj (a0:=(⟨s3.1,s3.2.1⟩:aq)) ⟨⟨hih2.1.1,hih2.1.2⟩,(bL.getD (z:=ay.zero) H1 h2).1⟩) ?_
    try simp only [SS]
    refine cr (Z119.aj ⟨H3,(bL.getD (z:=ay.zero) H1 h2)⟩) ?_
    refine bz.bif (fun c6=>?_) (fun c6=>?_)
    ·have dc6:=c6
     try simp only [DC] at dc6
     refine bz.bif (fun c7=>?_) (fun c7=>?_)
     ·have dc7:=c7
      try simp only [DC] at dc7
      refine cr (Z123.aj (a0:=(Z108.md (⟨s3.1,s3.2.1⟩:aq) ((a1.getD i1 ay.zero).aS)).1) (Z108.gh (a0:=(⟨s3.1,s3.2.1⟩:aq)) (a1:=(a1.getD i1 ay.zero).aS) ⟨⟨hih2.1.1,hih2.1.2⟩,(bL.getD (z:=ay.zero) H1 h2).1⟩)) ?_
      refine bz.bif (fun c8=>?_) (fun c8=>?_)
      ·refine bz.yes lm ?_
       refine bz.inl (by first | exact ⟨hih2.1,hJ hih2.2⟩ | exact ⟨Z108.gh ⟨hih2.1,(bL.getD H1 h2).1⟩,hJ hih2.2⟩) ?_
       rw [aG h2 Bh2]
       all_goals exact fz
      ·refine bz.yes lm ?_
       refine bz.bif (fun c9=>?_) (fun c9=>?_)
       ·refine cr (Z95.aj (bL.getD (z:=ay.zero) H1 h2).2.1) ?_
        try simp only [SS]
        refine bz.inr ?_
        all_goals exact fz
       ·refine bz.inl (by first | exact ⟨hih2.1,hJ hih2.2⟩ | exact ⟨Z108.gh ⟨hih2.1,(bL.getD H1 h2).1⟩,hJ hih2.2⟩) ?_
        rw [aG h2 Bh2]
        all_goals exact fz
     ·have dc7:=c7
      try simp only [DC] at dc7
      refine bz.yes lm ?_
      refine bz.bif (fun c10=>?_) (fun c10=>?_)
      ·refine cr (Z95.aj (bL.getD (z:=ay.zero) H1 h2).2.1) ?_
       try simp only [SS]
       refine bz.inr ?_
       all_goals exact fz
      ·refine bz.inl (by first | exact ⟨hih2.1,hJ hih2.2⟩ | exact ⟨Z108.gh ⟨hih2.1,(bL.getD H1 h2).1⟩,hJ hih2.2⟩) ?_
       rw [aG h2 Bh2]
       all_goals exact fz
    ·have dc6:=c6
     try simp only [DC] at dc6
     refine bz.bif (fun c11=>?_) (fun c11=>?_)
     ·have dc11:=c11
      try simp only [DC] at dc11
      refine bz.bif (fun c12=>?_) (fun c12=>?_)
      ·have dc12:=c12
       try simp only [DC] at dc12
       refine cr (Z123.aj (a0:=(Z108.md (⟨s3.1,s3.2.1⟩:aq) ((a1.getD i1 ay.zero).aS)).1) (Z108.gh (a0:=(⟨s3.1,s3.2.1⟩:aq)) (a1:=(a1.getD i1 ay.zero).aS) ⟨⟨hih2.1.1,hih2.1.2⟩,(bL.getD (z:=ay.zero) H1 h2).1⟩)) ?_
       refine bz.bif (fun c13=>?_) (fun c13=>?_)
       ·refine bz.yes lm ?_
        refine bz.inl (by first | exact ⟨hih2.1,hJ hih2.2⟩ | exact ⟨Z108.gh ⟨hih2.1,(bL.getD H1 h2).1⟩,hJ hih2.2⟩) ?_
        rw [aG h2 Bh2]
        all_goals exact fz
       ·refine bz.yes lm ?_
        refine bz.bif (fun c14=>?_) (fun c14=>?_)
        ·refine cr (Z95.aj (bL.getD (z:=ay.zero) H1 h2).2.1) ?_
         try simp only [SS]
         refine bz.inr ?_
         all_goals exact fz
        ·refine bz.inl (by first | exact ⟨hih2.1,hJ hih2.2⟩ | exact ⟨Z108.gh ⟨hih2.1,(bL.getD H1 h2).1⟩,hJ hih2.2⟩) ?_
         rw [aG h2 Bh2]
         all_goals exact fz
      ·have dc12:=c12
       try simp only [DC] at dc12
       refine bz.yes lm ?_
       refine bz.bif (fun c15=>?_) (fun c15=>?_)
       ·refine cr (Z95.aj (bL.getD (z:=ay.zero) H1 h2).2.1) ?_
        try simp only [SS]
        refine bz.inr ?_
        all_goals exact fz
       ·refine bz.inl (by first | exact ⟨hih2.1,hJ hih2.2⟩ | exact ⟨Z108.gh ⟨hih2.1,(bL.getD H1 h2).1⟩,hJ hih2.2⟩) ?_
        rw [aG h2 Bh2]
        all_goals exact fz
     ·have dc11:=c11
      try simp only [DC] at dc11
      refine bz.bif (fun c16=>?_) (fun c16=>?_)
      ·have dc16:=c16
       try simp only [DC] at dc16
       refine bz.bif (fun c17=>?_) (fun c17=>?_)
       ·have dc17:=c17
        try simp only [DC] at dc17
        refine bz.yes lm ?_
        refine bz.inl (by first | exact ⟨hih2.1,hJ hih2.2⟩ | exact ⟨Z108.gh ⟨hih2.1,(bL.getD H1 h2).1⟩,hJ hih2.2⟩) ?_
        rw [aG h2 Bh2]
        all_goals exact fz
       ·have dc17:=c17
        try simp only [DC] at dc17
        refine cr (Z123.aj (a0:=(Z108.md (⟨s3.1,s3.2.1⟩:aq) ((a1.getD i1 ay.zero).aS)).1) (Z108.gh (a0:=(⟨s3.1,s3.2.1⟩:aq)) (a1:=(a1.getD i1 ay.zero).aS) ⟨⟨hih2.1.1,hih2.1.2⟩,(bL.getD (z:=ay.zero) H1 h2).1⟩)) ?_
        refine bz.bif (fun c18=>?_) (fun c18=>?_)
        ·refine bz.yes lm ?_
         refine bz.inl (by first | exact ⟨hih2.1,hJ hih2.2⟩ | exact ⟨Z108.gh ⟨hih2.1,(bL.getD H1 h2).1⟩,hJ hih2.2⟩) ?_
         rw [aG h2 Bh2]
         all_goals exact fz
        ·refine bz.yes lm ?_
         refine bz.bif (fun c19=>?_) (fun c19=>?_)
         ·refine cr (Z95.aj (bL.getD (z:=ay.zero) H1 h2).2.1) ?_
          try simp only [SS]
          refine bz.inr ?_
          all_goals exact fz
         ·refine bz.inl (by first | exact ⟨hih2.1,hJ hih2.2⟩ | exact ⟨Z108.gh ⟨hih2.1,(bL.getD H1 h2).1⟩,hJ hih2.2⟩) ?_
          rw [aG h2 Bh2]
          all_goals exact fz
      ·have dc16:=c16
       try simp only [DC] at dc16
       refine bz.yes lm ?_
       refine bz.bif (fun c20=>?_) (fun c20=>?_)
       ·refine cr (Z95.aj (bL.getD (z:=ay.zero) H1 h2).2.1) ?_
        try simp only [SS]
        refine bz.inr ?_
        all_goals exact fz
       ·refine bz.inl (by first | exact ⟨hih2.1,hJ hih2.2⟩ | exact ⟨Z108.gh ⟨hih2.1,(bL.getD H1 h2).1⟩,hJ hih2.2⟩) ?_
        rw [aG h2 Bh2]
        all_goals exact fz
   ·have dc5:=c5
    try simp only [DC] at dc5
    refine cr (Z119.aj ⟨H3,(bL.getD (z:=ay.zero) H1 h2)⟩) ?_
    refine bz.bif (fun c21=>?_) (fun c21=>?_)
    ·have dc21:=c21
     try simp only [DC] at dc21
     refine bz.yes lm ?_
     refine bz.inl (by first | exact ⟨hih2.1,hJ hih2.2⟩ | exact ⟨Z108.gh ⟨hih2.1,(bL.getD H1 h2).1⟩,hJ hih2.2⟩) ?_
     rw [aG h2 Bh2]
     all_goals exact fz
    ·have dc21:=c21
     try simp only [DC] at dc21
     refine bz.yes lm ?_
     refine bz.bif (fun c22=>?_) (fun c22=>?_)
     ·refine cr (Z95.aj (bL.getD (z:=ay.zero) H1 h2).2.1) ?_
      try simp only [SS]
      refine bz.inr ?_
      all_goals exact fz
     ·refine bz.inl (by first | exact ⟨hih2.1,hJ hih2.2⟩ | exact ⟨Z108.gh ⟨hih2.1,(bL.getD H1 h2).1⟩,hJ hih2.2⟩) ?_
      rw [aG h2 Bh2]
      all_goals exact fz
  ·refine cr (Z119.aj ⟨H3,(bL.getD (z:=ay.zero) H1 h2)⟩) ?_
   refine bz.bif (fun c23=>?_) (fun c23=>?_)
   ·have dc23:=c23
    try simp only [DC] at dc23
    refine bz.yes lm ?_
    refine bz.inl (by first | exact ⟨hih2.1,hJ hih2.2⟩ | exact ⟨Z108.gh ⟨hih2.1,(bL.getD H1 h2).1⟩,hJ hih2.2⟩) ?_
    rw [aG h2 Bh2]
    all_goals exact fz
   ·have dc23:=c23
    try simp only [DC] at dc23
    refine bz.yes lm ?_
    refine bz.bif (fun c24=>?_) (fun c24=>?_)
    ·refine cr (Z95.aj (bL.getD (z:=ay.zero) H1 h2).2.1) ?_
     try simp only [SS]
     refine bz.inr ?_
     all_goals exact fz
    ·refine bz.inl (by first | exact ⟨hih2.1,hJ hih2.2⟩ | exact ⟨Z108.gh ⟨hih2.1,(bL.getD H1 h2).1⟩,hJ hih2.2⟩) ?_
     rw [aG h2 Bh2]
     all_goals exact fz
 ·simp only [step,SS]
  have gr_:=hih2
  try simp only [LN] at gr_
  have:=(H1).1
  refine dx (by apply decide_eq_false;omega) ?_
  refine ⟨0,?_⟩
  all_goals exact fz
def af:cw 64 aT:=L5 99 pid cg bZ live step start mix aE bt (.cons Z46.af (.cons Z76.af (.cons Z108.af (.cons Z119.af (.cons Z123.af (.cons Z95.af .nil)))))) Tryz.func64
def ng (z:Int)(l:aB)(now:Int)(y:ay)(k:aq):aq×Int:=
 let kn:=bif (Z76.md y.aS).2&&((Z76.md y.aS).1.bC==z) then Z108.md k y.aS else (k,6)
 (kn.1,bif (Z119.md z l y now==1)&&!((kn.2==1||(kn.2==2||kn.2==3))&&!Z123.md kn.1 z) then 3 else Z119.md z l y now)
def tF (z:Int)(l:aB)(now:Int)(y:ay)(s:List (List aa)×List az×List Int):List (List aa)×List az×List Int⊕bT:=
 bif (ng z l now y ⟨s.1,s.2.1⟩).2==1 then .inr ⟨(ng z l now y ⟨s.1,s.2.1⟩).1,y.cu,y.aV,true,s.2.2++[(ng z l now y ⟨s.1,s.2.1⟩).2]⟩
 else .inl ((ng z l now y ⟨s.1,s.2.1⟩).1.aJ,(ng z l now y ⟨s.1,s.2.1⟩).1.bp,s.2.2++[(ng z l now y ⟨s.1,s.2.1⟩).2])
def fin (s:List (List aa)×List az×List Int):bT:=⟨⟨s.1,s.2.1⟩,false,⟨⟨#[]⟩,0,0,[]⟩,false,s.2.2⟩
def qa (a0:aq)(a1:List ay)(a2:Int)(a3:aB)(a4:Int):md a0 a1 a2 a3 a4=dX (tF a2 a3 a4) fin a1 (a0.aJ,a0.bp,[]):=by
 unfold md
 refine pg (fun y _ s=>?_) (fun s=>rfl)
 have h31:((3:Int)==1)=false:=rfl
 have h61:((6:Int)==1)=false:=rfl
 have h62:((6:Int)==2)=false:=rfl
 have h63:((6:Int)==3)=false:=rfl
 unfold tF ng
 cases g1:(Z76.md y.aS).2
 ·cases g2:(Z119.md a2 a3 y a4==1)<;>simp [g2,h31,h61,h62,h63]
 cases g3:((Z76.md y.aS).1.bC==a2)
 ·cases g2:(Z119.md a2 a3 y a4==1)<;>simp [g2,h31,h61,h62,h63]
 generalize Z108.md (⟨s.1,s.2.1⟩:aq) y.aS=r
 cases g2:(Z119.md a2 a3 y a4==1)<;>cases g4:(r.2==1)<;>cases g5:(r.2==2)<;>cases g6:(r.2==3)<;>cases g7:Z123.md r.1 a2<;>simp [g2,g4,g5,g6,g7,h31]
def yx (z:Int)(l:aB)(now:Int)(y:ay)(k:aq):Z108.Cz (ng z l now y k).1.aJ<=Z108.Cz k.aJ+(ay.size y+1)/\
  Z108.Fz (ng z l now y k).1.bp<=Z108.Fz k.bp+(2*Z108.Cz k.aJ+ay.size y+1):=by
 have h:=Z108.grow k y.aS
 have hs:dO (fun y:aa=>aa.size y) y.aS<=ay.size y:=by unfold ay.size;omega
 unfold ng
 cases (Z76.md y.aS).2&&((Z76.md y.aS).1.bC==z)
 ·simp only [bq];omega
 ·simp only [bf];omega
def yg {α:Type}(f:α->Nat)(x:α)(xs:List α):dO f (x::xs)=dO f xs+(f x+1):=by simp [dO];omega
def grow (z:Int)(l:aB)(now:Int):∀(xs:List ay) (s:List (List aa)×List az×List Int),
  Z108.Cz (dX (tF z l now) fin xs s).bX.aJ<=Z108.Cz s.1+dO (fun y:ay=>ay.size y) xs/\
  Z108.Fz (dX (tF z l now) fin xs s).bX.bp<=Z108.Fz s.2.1+xs.length*(2*(Z108.Cz s.1+dO (fun y:ay=>ay.size y) xs)+dO (fun y:ay=>ay.size y) xs)/\
  (dX (tF z l now) fin xs s).kA.length<=s.2.2.length+xs.length/\ah.size (dX (tF z l now) fin xs s).aV<=dO (fun y:ay=>ay.size y) xs
 | [],s=>⟨Nat.le_add_right _ _,Nat.le_add_right _ _,Nat.le_refl _,zero_le _⟩
 | y::xs,s=>by
  have hg:=yx z l now y ⟨s.1,s.2.1⟩
  have hy:ah.size y.aV<=ay.size y:=by unfold ay.size;omega
  rw [yg]
  unfold dX
  cases hb:(ng z l now y ⟨s.1,s.2.1⟩).2==1
  ·have e:tF z l now y s=.inl ((ng z l now y ⟨s.1,s.2.1⟩).1.aJ,(ng z l now y ⟨s.1,s.2.1⟩).1.bp,s.2.2++[(ng z l now y ⟨s.1,s.2.1⟩).2]):=by unfold tF;rw [hb];rfl
   rw [e]
   obtain ⟨h1,h2,h3,h4⟩:=grow z l now xs ((ng z l now y ⟨s.1,s.2.1⟩).1.aJ,(ng z l now y ⟨s.1,s.2.1⟩).1.bp,s.2.2++[(ng z l now y ⟨s.1,s.2.1⟩).2])
   simp only at h1 h2 h3 h4 hg ⊢
   generalize dO (fun y:ay=>ay.size y) xs=w at *
   generalize ay.size y=q at *
   generalize Z108.Cz (ng z l now y ⟨s.1,s.2.1⟩).1.aJ=c1 at *
   generalize Z108.Cz s.1=c0 at *
   have hm:xs.length*(2*(c1+w)+w)<=xs.length*(2*(c0+(w+(q+1)))+(w+(q+1))):=Nat.mul_le_mul_left _ (by omega)
   rw [List.length_cons,Nat.succ_mul]
   rw [List.length_append] at h3
   refine ⟨by omega,by omega,by simp only [List.length_cons,List.length_nil] at h3;omega,by omega⟩
  ·have e:tF z l now y s=.inr ⟨(ng z l now y ⟨s.1,s.2.1⟩).1,y.cu,y.aV,true,s.2.2++[(ng z l now y ⟨s.1,s.2.1⟩).2]⟩:=by unfold tF;rw [hb];rfl
   rw [e]
   simp only at hg ⊢
   generalize dO (fun y:ay=>ay.size y) xs=w at *
   generalize ay.size y=q at *
   generalize Z108.Cz s.1=c0 at *
   rw [List.length_cons,Nat.succ_mul,List.length_append]
   refine ⟨by omega,by omega,by simp only [List.length_cons,List.length_nil];omega,by omega⟩
def Au {z:Int}{l:aB}{now:Int}{y:ay}{k:aq}(hk:aq.Sm (2^21) k)(hy:ay.Sm (2^21) y):aq.Sm (2^21) (ng z l now y k).1:=by
 unfold ng
 cases (Z76.md y.aS).2&&((Z76.md y.aS).1.bC==z)
 ·exact hk
 ·exact Z108.gh ⟨hk,hy.1⟩
def ve {z:Int}{l:aB}{now:Int}:∀(xs:List ay) (s:List (List aa)×List az×List Int),aq.Sm (2^21) ⟨s.1,s.2.1⟩->(∀y∈xs,ay.Sm (2^21) y)->s.2.2.length+xs.length<=2^21->bT.Sm (2^21) (dX (tF z l now) fin xs s)
 | [],s,hk,_,hc=>⟨hk,⟨zero_le _,bL.nil⟩,hc,fun _ _=>trivial⟩
 | y::xs,s,hk,hx,hc=>by
  have hy:=hx y (by simp)
  have he:=Au (z:=z) (l:=l) (now:=now) hk hy
  simp only [List.length_cons] at hc
  unfold dX
  cases hb:(ng z l now y ⟨s.1,s.2.1⟩).2==1
  ·have e:tF z l now y s=.inl ((ng z l now y ⟨s.1,s.2.1⟩).1.aJ,(ng z l now y ⟨s.1,s.2.1⟩).1.bp,s.2.2++[(ng z l now y ⟨s.1,s.2.1⟩).2]):=by unfold tF;rw [hb];rfl
   rw [e]
   exact ve xs _ he (fun y hy=>hx y (by simp [hy])) (by simp only [List.length_append,List.length_cons,List.length_nil];omega)
  ·have e:tF z l now y s=.inr ⟨(ng z l now y ⟨s.1,s.2.1⟩).1,y.cu,y.aV,true,s.2.2++[(ng z l now y ⟨s.1,s.2.1⟩).2]⟩:=by unfold tF;rw [hb];rfl
   rw [e]
   exact ⟨he,hy.2.1,by simp only [List.length_append,List.length_cons,List.length_nil];omega,fun _ _=>trivial⟩
def gh {a0:aq}{a1:List ay}{a2:Int}{a3:aB}{a4:Int}(hg:gd a0 a1 a2 a3 a4):bT.Sm (2^21) (md a0 a1 a2 a3 a4):=by
 unfold gd at hg
 rw [qa]
 exact ve a1 _ hg.1 hg.2.1.2 (by have:=hg.2.1.1;simp only [List.length_nil];omega)
end Z124
namespace Z125
def F (x0:cZ):aH:=(cond (!x0.jZ) (ret (((⟨(⟨#[]⟩:aB),0,0,[]⟩:aU),false):aU×Bool)) (cond (!x0.cu) (ret (((⟨(⟨#[]⟩:aB),0,0,[]⟩:aU),false):aU×Bool)) (call (Z95.R x0.aV) fun v1=>ret ((v1,true):aU×Bool))))
def md (a0:bT):ah×Bool:=(cond (!a0.jZ) ((⟨((⟨#[]⟩:aB):aB),0,0,[]⟩:ah),false) (cond (!a0.cu) ((⟨((⟨#[]⟩:aB):aB),0,0,[]⟩:ah),false) (a0.aV,true)))
def gd (a0:bT):Prop:=(bT.Sm (2^21) a0)
def R:=RR gd md
def aj {a0}(h:gd a0):R (bT.r a0)=some ((ah.r (md a0).1),(md a0).2):=aN (a:=a0) h
def aT:=CN [.agg Ak] (.iE [(true,f57),(false,[fB])]) RT.dec R
def bt (a0)(hg:gd a0):F (bT.r a0)=ret ((ah.r (md a0).1),(md a0).2):=by
 unfold gd at hg
 have H0:=hg
 unfold F md
 try simp only [SS]
 refine au (fun b:ah×Bool=>ret (((ah.r b.1),b.2):aU×Bool)) (fun c1=>?_) (fun c1=>?_)
 ·all_goals exact fz
 ·refine au (fun b:ah×Bool=>ret (((ah.r b.1),b.2):aU×Bool)) (fun c2=>?_) (fun c2=>?_)
  ·all_goals exact fz
  ·refine ct (Z95.aj H0.2.1) ?_
   try simp only [SS]
   all_goals exact fz
def af:cw 66 aT:=W1 16 F mix aE bt (.cons Z95.af .nil) Tryz.func66
end Z125
namespace Z126
def F (x0:cZ):aH:=(cond x0.jZ (ret ((!x0.cu):Bool)) aY)
def md (a0:bT):Bool:=(cond a0.jZ ((!a0.cu):Bool) (false:Bool))
def gd (a0:bT):Prop:=True
def R:=RR gd md
def aj {a0}(h:gd a0):R (bT.r a0)=some (md a0):=aN (a:=a0) h
def aT:=CN [.agg Ak] oB RT.dec R
def bt (a0)(hg:gd a0):F (bT.r a0)=ret (md a0):=by
 unfold F md
 try simp only [SS]
 refine au ret (fun c1=>?_) (fun _=>rfl)
 all_goals exact fz
def af:cw 67 aT:=W1 10 F mix aE bt .nil Tryz.func67
end Z126
namespace Z127
inductive Pt where
 | p0 (a:aC) (b c:Int) (d:aC) (e:Int) (f:aB) (g h i j:Int) (k:aB) (l m n:Int) (o p q:aC)
def pid:Pt->Nat
 | .p0 ..=>6
def cg:Pt->List V
 | .p0 a b c d e f g h i j k l m n o p q=>[.sl none 88 a,.int .i64 b,.cQ 0 0,.cQ 1 0,.int .i64 c,.sl none 9 d,.cQ 1 0]
def bZ:Pt->List aW
 | .p0 a b c d e f g h i j k l m n o p q=>[.box [.nil,.nil,.int .i64 e,.str f,.int .i64 g,.int .i64 h,.nil,.nil,.int .i64 i],.box [.own 2,.own 3,.int .i64 j,.str k,.int .i64 l,.int .i64 m,.nil,.own 4,.int .i64 n],.row 134 o,.row 143 p,.row 3 q]
def step (J:Pt->aH):Pt->aH
 | .p0 a b c d e f g h i j k l m n o p q=>(ck (eT (((q.length:Int)+1)*8)) (ck (decide ((0:Int)<(d.length:Int))) (call (Z102.R (a,c,(pV d 0))) fun v1=>(ck (decide ((0:Int)<(d.length:Int))) (call (Z124.R ((⟨o,p⟩:bu),v1,c,(pV d 0),b)) fun v2=>(call (Z125.R v2) fun v3=>(call (Z126.R v2) fun v4=>(cond v4 (ret ((⟨v2.bX,2,(⟨k,l,m,[]⟩:aU),(q++[[L.int c]]),n⟩:cP):cP)) (cond (!v3.2) (ret ((⟨v2.bX,3,(⟨k,l,m,[]⟩:aU),(q++[[L.int c]]),n⟩:cP):cP)) (cond (v3.1.bK==3) (call (Z50.R v3.1.bI) fun v5=>(ck (decide ((1:Int)<=(d.length:Int))) (ck (decide ((d.length:Int)<=(d.length:Int))) (ck (eT (((v5.length:Int)+((List.take (toNat ((d.length:Int) - 1)) (List.drop 1 d)).length:Int))*16)) (cond (decide (n>=3)) (ret ((⟨v2.bX,5,(⟨k,l,m,[]⟩:aU),(q++[[L.int c]]),n⟩:cP):cP)) (call (Z49.R (v5++(List.take (toNat ((d.length:Int) - 1)) (List.drop 1 d)))) fun v6=>(cond (!v6) (ret ((⟨v2.bX,5,(⟨k,l,m,[]⟩:aU),(q++[[L.int c]]),n⟩:cP):cP)) (J (.p0 a b v3.1.bW (v5++(List.take (toNat ((d.length:Int) - 1)) (List.drop 1 d))) e f g h i j k l m (i64.wrap (n+1)) v2.bX.aJ v2.bX.bp (q++[[L.int c]])))))))))) (cond ((d.length:Int)==1) (ret ((⟨v2.bX,1,v3.1,(q++[[L.int c]]),n⟩:cP):cP)) (cond (v3.1.bK != 2) (ret ((⟨v2.bX,4,(⟨k,l,m,[]⟩:aU),(q++[[L.int c]]),n⟩:cP):cP)) (ck (decide ((1:Int)<=(d.length:Int))) (ck (decide ((d.length:Int)<=(d.length:Int))) (J (.p0 a b v3.1.bW (List.take (toNat ((d.length:Int) - 1)) (List.drop 1 d)) e f g h i j k l m n v2.bX.aJ v2.bX.bp (q++[[L.int c]])))))))))))))))))
def start (J:Pt->aH)(x0:bu)(x1:aC)(x2:Int)(x3:aC)(x4:Int):aH:=(call (Z46.R x0) fun v1=>(call (Z49.R x3) fun v2=>(cond (!v2) (ret ((⟨v1,6,(⟨(⟨#[]⟩:aB),0,0,[]⟩:aU),[],0⟩:cP):cP)) (call (Z50.R x3) fun v3=>J (.p0 x1 x4 x2 v3 0 ⟨#[]⟩ 0 0 0 6 ⟨#[]⟩ 0 0 0 v1.aJ v1.bp [])))))
def live:Nat->Live:=fun i=>match i with | 6=>[(1,none),(4,none),(10,none),(11,none),(12,none),(13,some 1099511627785),(11,some 7340035)] | _=>[]
def nx (l:bT)(mv:Int)(p:List aB):(Int×ah)⊕(Int×Int×List aB):=
 bif !l.jZ then .inl (3,⟨⟨#[]⟩,0,0,[]⟩) else bif !l.cu then .inl (2,⟨⟨#[]⟩,0,0,[]⟩)
 else bif l.aV.bK==3 then (cond (decide (mv>=3)) (.inl (5,⟨⟨#[]⟩,0,0,[]⟩)) (bif !Z49.md (l.aV.bI++p.tail) then .inl (5,⟨⟨#[]⟩,0,0,[]⟩) else .inr (mv+1,l.aV.bW,l.aV.bI++p.tail)))
 else bif (p.tail.length:Int)==0 then .inl (1,l.aV) else bif l.aV.bK==2 then .inr (mv,l.aV.bW,p.tail) else .inl (4,⟨⟨#[]⟩,0,0,[]⟩)
def rs {σ:Type}(look:σ->aq->Int->aB->bT×σ):Nat->σ->aq->List Int->Int->Int->List aB->bA×σ
 | 0,c,k,zs,mv,_,_=>(⟨k,0,⟨⟨#[]⟩,0,0,[]⟩,zs,mv⟩,c)
 | n+1,c,k,zs,mv,z,p=>match nx (look c k z (p.getD 0 ⟨#[]⟩)).1 mv p with
  | .inl q=>(⟨(look c k z (p.getD 0 ⟨#[]⟩)).1.bX,q.1,q.2,zs++[z],mv⟩,(look c k z (p.getD 0 ⟨#[]⟩)).2)
  | .inr q=>rs look n (look c k z (p.getD 0 ⟨#[]⟩)).2 (look c k z (p.getD 0 ⟨#[]⟩)).1.bX (zs++[z]) q.1 q.2.1 q.2.2
def lk (s:List av)(now:Int)(_:Unit)(k:aq)(z:Int)(l:aB):bT×Unit:=(Z124.md k (Z102.md s z l) z l now,())
def vJ {σ:Type}{look:σ->aq->Int->aB->bT×σ}{n:Nat}{c:σ}{k:aq}{zs:List Int}{mv z:Int}{p:List aB}{q:Int×ah}(h:nx (look c k z (p.getD 0 ⟨#[]⟩)).1 mv p=.inl q) :
  rs look (n+1) c k zs mv z p=(⟨(look c k z (p.getD 0 ⟨#[]⟩)).1.bX,q.1,q.2,zs++[z],mv⟩,(look c k z (p.getD 0 ⟨#[]⟩)).2):=by
 show (match nx (look c k z (p.getD 0 ⟨#[]⟩)).1 mv p with | .inl q=>_ | .inr q=>_)=_
 rw [h]
def vH {σ:Type}{look:σ->aq->Int->aB->bT×σ}{n:Nat}{c:σ}{k:aq}{zs:List Int}{mv z:Int}{p:List aB}{q:Int×Int×List aB}(h:nx (look c k z (p.getD 0 ⟨#[]⟩)).1 mv p=.inr q) :
  rs look (n+1) c k zs mv z p=rs look n (look c k z (p.getD 0 ⟨#[]⟩)).2 (look c k z (p.getD 0 ⟨#[]⟩)).1.bX (zs++[z]) q.1 q.2.1 q.2.2:=by
 show (match nx (look c k z (p.getD 0 ⟨#[]⟩)).1 mv p with | .inl q=>_ | .inr q=>_)=_
 rw [h]
def wu {Pt:Type}{step:(Pt->aH)->Pt->aH}{p:Pt}{r:aH}(h:∃m,step (iter step m) p=r):∃m,iter step m p=r:=h.elim fun m h=>⟨m+1,h⟩
def md (a0:aq)(a1:List av)(a2:Int)(a3:List aB)(a4:Int):bA:=(cond (!Z49.md a3) ⟨a0,6,⟨⟨#[]⟩,0,0,[]⟩,[],0⟩ ((rs (lk a1 a4) 17 () a0 [] 0 a2 a3).1))
def gd (a0:aq)(a1:List av)(a2:Int)(a3:List aB)(a4:Int):Prop:=(aq.Sm (2^21) a0)/\(bL (2^21) (fun y:av=>av.Sm (2^21) y) a1)/\(bL (2^21) (fun y:aB=>y.size<=(2^21)) a3)
def R:=RR (p5 gd) (u5 md)
def aj {a0 a1 a2 a3 a4}(h:gd a0 a1 a2 a3 a4):R ((aq.r a0),(a1.map av.row),a2,(a3.map cF),a4)=some (bA.r (md a0 a1 a2 a3 a4)):=aN (a:=(a0,a1,a2,a3,a4)) h
def aT:=CN [.agg rK,pL 88,pI,pL 9,pI] (.agg f60) RT.dec R
def bt (a0)(a1)(a2)(a3)(a4)(hg:gd a0 a1 a2 a3 a4):∃n,start (iter step n) (aq.r a0) (a1.map av.row) a2 (a3.map cF) a4=ret (bA.r (md a0 a1 a2 a3 a4)):=by
 obtain ⟨H0,H1,H3⟩:=hg
 have key:∀(n:Nat) (k:aq) (zs:List Int) (mv z:Int) (p:List aB),aq.Sm (2^21) k->Z49.md p=true->0<=mv->mv<=3->(3 - mv)*4+(p.length:Int)<=n->zs.length+n<=100->
   ∃m,iter step m (Pt.p0 (a1.map av.row) a4 z (p.map cF) 0 ⟨#[]⟩ 0 0 0 6 ⟨#[]⟩ 0 0 mv (k.aJ.map (dG aa.row)) (k.bp.map az.row) (zs.map bh))=ret (bA.r (rs (lk a1 a4) n () k zs mv z p).1):=by
  intro n
  induction n with
  | zero=>intro k zs mv z p _ hp _ _ hm _;have:=(Z49.tr hp).1;omega
  | succ n ih=>
   intro k zs mv z p hk hp h0 h3 hm hz
   obtain ⟨⟨p1,p4⟩,p8⟩:=Z49.tr hp
   obtain ⟨x,xs,rfl⟩:∃x xs,p=x::xs:=by
    cases p with
    | nil=>simp at p1
    | cons x xs=>exact ⟨x,xs,rfl⟩
   have hx:x.size<=2^21:=le_trans (p8 x (by simp)) (by decide)
   have hxs:∀y∈xs,y.size<=2^22:=fun y hy=>le_trans (p8 y (by simp [hy])) (by decide)
   have hask:=Z102.gh (a0:=a1) (a1:=z) (a2:=x) ⟨H1,hx⟩
   have hlk:=Z124.gh (a0:=k) (a1:=Z102.md a1 z x) (a2:=z) (a3:=x) (a4:=a4) ⟨hk,hask,hx⟩
   have hat:pV ((x::xs).map cF) 0=x:=rfl
   have hg0:(x::xs).getD 0 ⟨#[]⟩=x:=rfl
   have ht:List.take (toNat (((xs.length+1:Nat):Int) - 1)) (List.drop 1 ((x::xs).map cF))=xs.map cF:=by
    simp only [List.map_cons,List.drop_succ_cons,List.drop_zero]
    exact List.take_of_length_le (by simp)
   have hkn:(lk a1 a4 () k z ((x::xs).getD 0 ⟨#[]⟩)).1=Z124.md k (Z102.md a1 z x) z x a4:=rfl
   simp only [List.length_cons] at p4 hm
   refine wu ?_
   simp only [step,hat,List.length_map,List.length_cons,ht]
   refine dI lm ?_
   refine dI dt ?_
   refine cx (Z102.aj (a0:=a1) ⟨H1,hx⟩) ?_
   refine dI dt ?_
   refine cx (Z124.aj (a0:=k) (a1:=Z102.md a1 z x) ⟨hk,hask,hx⟩) ?_
   have hcase:∀q,nx (Z124.md k (Z102.md a1 z x) z x a4) mv (x::xs)=.inl q->rs (lk a1 a4) (n+1) () k zs mv z (x::xs)=(⟨(Z124.md k (Z102.md a1 z x) z x a4).bX,q.1,q.2,zs++[z],mv⟩,()):=fun q hq=>vJ hq
   have hcase2:∀q,nx (Z124.md k (Z102.md a1 z x) z x a4) mv (x::xs)=.inr q->rs (lk a1 a4) (n+1) () k zs mv z (x::xs)=rs (lk a1 a4) n () (Z124.md k (Z102.md a1 z x) z x a4).bX (zs++[z]) q.1 q.2.1 q.2.2:=fun q hq=>vH hq
   revert hcase hcase2 hlk
   generalize Z124.md k (Z102.md a1 z x) z x a4=l
   intro hlk hcase hcase2
   refine cx (Z125.aj (a0:=l) hlk) ?_
   refine cx (Z126.aj (a0:=l) trivial) ?_
   obtain ⟨lk0,lf,le,ld,lc⟩:=l
   unfold nx at hcase hcase2
   unfold Z126.md Z125.md
   cases ld
   ·exact ⟨0,by rw [hcase _ rfl];exact fz⟩
   cases lf
   ·exact ⟨0,by rw [hcase _ rfl];exact fz⟩
   simp only [Bool.not_true,bq,bf,List.tail_cons] at hcase hcase2 ⊢
   have hpl:bL (2^21) (fun y:aB=>y.size<=(2^21)) le.bI:=hlk.2.1.2
   have hpl1:le.bI.length<=2^21:=hpl.1
   have hzz:zs.map bh++[[L.int z]]=(zs++[z]).map bh:=by simp [bh]
   try simp only [SS]
   cases hk3:(le.bK==3)
   ·simp only [hk3,bq] at hcase hcase2 ⊢
    by_cases hx0:xs.length=0
    ·have e0:((xs.length:Int)==0)=true:=by simp [hx0]
     rw [e0] at hcase
     exact ⟨0,by rw [hcase _ rfl];exact ak (beq_iff_eq.2 (by omega)) fz⟩
    ·have e0:((xs.length:Int)==0)=false:=by simpa using hx0
     rw [e0] at hcase hcase2
     refine dx (beq_eq_false_iff_ne.2 (by omega)) ?_
     cases hk2:(le.bK==2)
     ·simp only [hk2,bq] at hcase
      exact ⟨0,by rw [hcase _ rfl];exact ak (by simpa using hk2) fz⟩
     ·simp only [hk2,bq,bf] at hcase2
      refine dx (by simpa using hk2) (dI dt (dI dt ?_))
      have hip:Z49.md xs=true:=Z49.tl hp hx0
      rw [hcase2 _ rfl,hzz]
      exact ih lk0 (zs++[z]) mv le.bW xs hlk.1 hip h0 h3 (by omega) (by simp;omega)
   ·simp only [hk3,bf] at hcase hcase2 ⊢
    refine cx (Z50.aj (a0:=le.bI) hpl) ?_
    refine dI dt (dI dt (dI (by have :(le.bI.map cF).length=le.bI.length:=List.length_map ..;have :(xs.map cF).length=xs.length:=List.length_map ..;exact iJ (by omega)) ?_))
    by_cases hmv:mv>=3
    ·rw [decide_eq_true hmv] at hcase ⊢
     exact ⟨0,by rw [hcase _ rfl];exact fz⟩
    ·rw [decide_eq_false hmv] at hcase hcase2 ⊢
     simp only [bq] at hcase hcase2 ⊢
     have e:le.bI.map cF++xs.map cF=(le.bI++xs).map cF:=by simp
     rw [e]
     refine cx (Z49.aj (a0:=le.bI++xs) ⟨by rw [List.length_append];omega,fun y hy=>(List.mem_append.1 hy).elim (fun h=>le_trans (hpl.2 y h) (by decide)) (hxs y)⟩) ?_
     cases hip:Z49.md (le.bI++xs)
     ·rw [hip] at hcase
      exact ⟨0,by rw [hcase _ rfl];exact fz⟩
     ·rw [hip] at hcase2
      have ht:=Z49.tr hip
      rw [hcase2 _ rfl,hzz,wi _ (by omega)]
      exact ih lk0 (zs++[z]) (mv+1) le.bW (le.bI++xs) hlk.1 hip (by omega) (by omega) (by omega) (by simp;omega)
 unfold start md
 refine cx (Z46.aj (a0:=a0) H0) ?_
 refine cx (Z49.aj (a0:=a3) (bL.mono H3 (by decide) (fun y hy=>le_trans hy (by decide)))) ?_
 cases hp:Z49.md a3
 ·exact ⟨0,rfl⟩
 ·simp only [Bool.not_true,bq]
  refine cx (Z50.aj (a0:=a3) H3) ?_
  exact key 17 a0 [] 0 a2 a3 H0 hp (by decide) (by decide) (by have:=(Z49.tr hp).1;omega) (by simp)
def af:cw 28 aT:=L5 109 pid cg bZ live step start mix aE bt (.cons Z46.af (.cons Z49.af (.cons Z50.af (.cons Z102.af (.cons Z124.af (.cons Z125.af (.cons Z126.af .nil))))))) Tryz.func28
def zR {σ:Type}{look:σ->aq->Int->aB->bT×σ}{A B:Nat}(I:σ->Prop)(hI:∀c k z s,I c->I (look c k z s).2)(hl:∀c k z s,I c->Z108.Cz (look c k z s).1.bX.aJ<=Z108.Cz k.aJ+A/\Z108.Fz (look c k z s).1.bX.bp<=Z108.Fz k.bp+4*(2*(Z108.Cz k.aJ+A)+A)/\ah.size (look c k z s).1.aV<=A) :
  ∀(n:Nat) (c:σ) (k:aq) (zs:List Int) (mv z:Int) (p:List aB),I c->Z108.Cz k.aJ+n*A<=B->
   Z108.Cz (rs look n c k zs mv z p).1.bX.aJ<=B/\Z108.Fz (rs look n c k zs mv z p).1.bX.bp<=Z108.Fz k.bp+n*(8*B+12*A)/\ah.size (rs look n c k zs mv z p).1.aV<=A/\(rs look n c k zs mv z p).1.bG.length<=zs.length+n/\I (rs look n c k zs mv z p).2
 | 0,c,k,zs,mv,z,p,hi,hb=>⟨by show Z108.Cz k.aJ<=B;omega,Nat.le_add_right _ _,zero_le _,Nat.le_refl _,hi⟩
 | n+1,c,k,zs,mv,z,p,hi,hb=>by
  obtain ⟨h1,h2,h3⟩:=hl c k z (p.getD 0 ⟨#[]⟩) hi
  have hi2:=hI c k z (p.getD 0 ⟨#[]⟩) hi
  rw [Nat.succ_mul] at hb
  cases hn:nx (look c k z (p.getD 0 ⟨#[]⟩)).1 mv p with
  | inl q=>
   rw [vJ hn]
   have hq:ah.size q.2<=A:=by
    have e0:ah.size ⟨⟨#[]⟩,0,0,[]⟩=0:=rfl
    unfold nx at hn
    simp only [Bool.cond_eq_ite] at hn
    revert hn
    repeat' split
    all_goals (intro hn;first | (cases hn;done) | (injection hn with hn;subst hn;first | exact h3 | exact zero_le _))
   refine ⟨by simp only;omega,?_,hq,by simp,hi2⟩
   simp only
   rw [Nat.succ_mul]
   omega
  | inr q=>
   rw [vH hn]
   obtain ⟨g1,g2,g3,g4,g5⟩:=zR (A:=A) (B:=B) I hI hl n (look c k z (p.getD 0 ⟨#[]⟩)).2 (look c k z (p.getD 0 ⟨#[]⟩)).1.bX (zs++[z]) q.1 q.2.1 q.2.2 hi2 (by omega)
   rw [List.length_append,List.length_cons,List.length_nil] at g4
   refine ⟨g1,?_,g3,by omega,g5⟩
   rw [Nat.succ_mul]
   omega
def AT (s:List av)(now:Int)(k:aq)(z:Int)(l:aB){A:Nat}(hA:6*dO (fun y:av=>av.size y) s<=A) :
  Z108.Cz (lk s now () k z l).1.bX.aJ<=Z108.Cz k.aJ+A/\Z108.Fz (lk s now () k z l).1.bX.bp<=Z108.Fz k.bp+4*(2*(Z108.Cz k.aJ+A)+A)/\ah.size (lk s now () k z l).1.aV<=A:=by
 have hg:=Z124.grow z l now (Z102.md s z l) (k.aJ,k.bp,[])
 rw [<-Z124.qa] at hg
 obtain ⟨g1,g2,_,g4⟩:=hg
 have h1:=Z102.sz s z l
 have h2:=Z102.Bp s z l
 simp only at g1 g2
 have h3:=Nat.mul_le_mul_right (2*(Z108.Cz k.aJ+dO (fun y:ay=>ay.size y) (Z102.md s z l))+dO (fun y:ay=>ay.size y) (Z102.md s z l)) h2
 unfold lk
 refine ⟨by simp only;omega,by simp only;omega,by simp only;omega⟩
def sz (a0:aq)(a1:List av)(a2:Int)(a3:List aB)(a4:Int)(h0:aq.size a0<=2^20)(h1:dO (fun y:av=>av.size y) a1<=2^20):bA.size (md a0 a1 a2 a3 a4)<=2^40:=by
 have hk:aq.size a0=Z108.Cz a0.aJ+Z108.Fz a0.bp:=rfl
 unfold md
 cases Z49.md a3
 ·show bA.size ⟨a0,6,⟨⟨#[]⟩,0,0,[]⟩,[],0⟩<=_
  have :bA.size ⟨a0,6,⟨⟨#[]⟩,0,0,[]⟩,[],0⟩=aq.size a0:=rfl
  omega
 ·simp only [Bool.not_true,bq]
  obtain ⟨g1,g2,g3,g4,_⟩:=zR (look:=lk a1 a4) (A:=6*2^20) (B:=2^20+17*(6*2^20)) (fun _=>True) (fun _ _ _ _ _=>trivial) (fun _ k z s _=>AT a1 a4 k z s (by omega)) 17 () a0 [] 0 a2 a3 trivial (by omega)
  have hd:∀t:bA,bA.size t=Z108.Cz t.bX.aJ+Z108.Fz t.bX.bp+ah.size t.aV+t.bG.length:=by
   intro t
   unfold bA.size aq.size Z108.Cz Z108.Fz
   rw [pZ]
  rw [hd]
  simp only [List.length_nil] at g4
  omega
end Z127
namespace Z128
def F (x0:bu)(x1 x2:aC)(x3:aB)(x4:aC)(x5:Int):aH:=(call (Z40.R (x2,x3)) fun v1=>(cond (!v1.2) (call (Z46.R x0) fun v2=>ret ((⟨v2,6,(⟨(⟨#[]⟩:aB),0,0,[]⟩:aU),[],0⟩:cP):cP)) (call (Z127.R (x0,x1,v1.1,x4,x5)) fun v3=>ret (v3:cP))))
def md (a0:aq)(a1:List av)(a2:List bF)(a3:aB)(a4:List aB)(a5:Int):bA:=(cond (!(Z40.md a2 a3).2) (⟨a0,6,(⟨((⟨#[]⟩:aB):aB),0,0,[]⟩:ah),[],0⟩:bA) (Z127.md a0 a1 ((Z40.md a2 a3).1) a4 a5))
def gd (a0:aq)(a1:List av)(a2:List bF)(a3:aB)(a4:List aB)(a5:Int):Prop:=(aq.Sm (2^21) a0)/\(bL (2^21) (fun y:av=>av.Sm (2^21) y) a1)/\(bL (2^21) (fun y:bF=>bF.Sm (2^21) y) a2)/\(bL (2^21) (fun y:aB=>y.size<=(2^21)) a4)
def R:=RR (p6 gd) (u6 md)
def aj {a0 a1 a2 a3 a4 a5}(h:gd a0 a1 a2 a3 a4 a5):R ((aq.r a0),(a1.map av.row),(a2.map bF.row),a3,(a4.map cF),a5)=some (bA.r (md a0 a1 a2 a3 a4 a5)):=aN (a:=(a0,a1,a2,a3,a4,a5)) h
def aT:=CN [.agg rK,pL 88,pL 118,pS,pL 9,pI] (.agg f60) RT.dec R
def bt (a0)(a1)(a2)(a3)(a4)(a5)(hg:gd a0 a1 a2 a3 a4 a5):F (aq.r a0) (a1.map av.row) (a2.map bF.row) a3 (a4.map cF) a5=ret (bA.r (md a0 a1 a2 a3 a4 a5)):=by
 obtain ⟨H0,H1,H2,H4⟩:=hg
 unfold F md
 try simp only [SS]
 refine ct (Z40.aj H2) ?_
 refine au (fun b:bA=>ret ((bA.r b):cP)) (fun c1=>?_) (fun c1=>?_)
 ·refine ct (Z46.aj H0) ?_
  try simp only [SS]
  all_goals exact fz
 ·refine ct (Z127.aj ⟨H0,H1,H4⟩) ?_
  try simp only [SS]
  all_goals exact fz
def af:cw 34 aT:=W6 32 F mix aE bt (.cons Z40.af (.cons Z46.af (.cons Z127.af .nil))) Tryz.func34
end Z128
namespace Z129
def F (x0:bF)(x1:List L):aH:=ret ((x0.fName==(sDec x1)):Bool)
def pats:List fY:=[.agg [.str,aD],.ptr [.str]]
def res:RP:=.one (.rd (.bool))
def md (a0:bF)(a1:aB):Bool:=((a0.fName==a1):Bool)
def gd (a0:bF)(a1:aB):Prop:=True
def acc (ls:List L):bF×aB:=((bF.dec ls),(sDec (cH 1 (aA 2 ls))))
def R:(bF×aB)->Option Bool:=RR (p2 gd) (u2 md)
def aj {a0 a1}(h:gd a0 a1):R (a0,a1)=some (md a0 a1):=aN (a:=(a0,a1)) h
def aT:fQ:=CN pats res acc R
def bt (a0:bF)(a1:aB)(p1:List L)(e1:a1=(sDec p1))(hg:gd a0 a1):F a0 p1=ret ((md a0 a1):Bool):=by
 unfold F md
 try simp only [SS,<-e1]
 all_goals exact fz
def mB (ls:List L)(a:bF×aB)(e:acc ls=Im.im a)(hg:(p2 gd) a):∃n:Nat,F (bF.dec ls) (cH 1 (aA 2 ls))=ret (Im.im ((u2 md) a)):=by
 have e0:a.1=(bF.dec ls):=(congrArg (fun x=>x.1) e.symm)
 have hn:=bt a.1 a.2 (cH 1 (aA 2 ls)) (congrArg (fun x=>x.2) e.symm) hg
 refine ⟨0,?_⟩
 rw [<-e0]
 exact hn
def af:cw 141 aT:=VP (live:=fun _=>[]) (nt:=8) (accr:=fun ls=>((bF.dec ls),(cH 1 (aA 2 ls)))) (run:=fun _ x=>F x.1 x.2) mix aE .nil Tryz.func141 (by kernel_rfl) (fun _ _=>by kernel_rfl) (fun ls a _ e hg=>mB ls a e hg)
end Z129
namespace Z130
inductive Pt where
 | p0 (a:aC) (b:List L) (c d:Int)
def pid:Pt->Nat
 | .p0 ..=>2
def cg:Pt->List V
 | .p0 a b c d=>[.sl none 118 a,.fn 141 [.dF none [.str] b 0],.int .i64 c,.int .i64 d]
def bZ:Pt->List aW
 | .p0 a b c d=>[]
def step (J:Pt->aH):Pt->aH
 | .p0 a b c d=>(cond (decide (d<c)) (m2 d (a.length:Int) (call (Z129.R ((bF.at a (toNat d)),(sDec b))) fun v1=>(cond v1 (ret (d:Int)) (J (.p0 a b c (i64.wrap (d+1))))))) (ret ((-1):Int)))
def start (J:Pt->aH)(x0:aC)(x1:List L):aH:=J (.p0 x0 x1 (x0.length:Int) 0)
def live:Nat->Live:=fun i=>match i with | 2=>[(0,none),(1,none),(7,none),(8,none)] | _=>[]
def pats:List fY:=[.rd (.sl 118),.fn 141 [[.str]]]
def res:RP:=.one (.rd (.int .i64))
abbrev E:Env:={ T:=assoc kL,G:=dw [(141,Z129.aT)],nt:=19 }
def step_eq (I:cD)(p:Pt):cT E live I (pid p) (bO Tryz.f140) (fq (live (pid p)) (cg p) (bZ p)) (cE E Tryz.f140 res)=step (fun q=>I (pid q) (cg q) (bZ q)) p:=by
 cases p<;>kernel_rfl
def start_eq (I:cD)(ls:List L):eP E live I (bO Tryz.f140) (cV pats ls) (cE E Tryz.f140 res)=start (fun q=>I (pid q) (cg q) (bZ q)) (ls.headD .hole).aP (cH 1 (aA 1 ls)):=by kernel_rfl
def run_eq (n:Nat)(ls:List L):eJ E live Tryz.f140 res n (cV pats ls)=start (iter step n) (ls.headD .hole).aP (cH 1 (aA 1 ls)):=cy (id:=pid) (vs:=cg) (hs:=bZ) (step:=step) (start:=fun J=>start J (ls.headD .hole).aP (cH 1 (aA 1 ls))) step_eq (fun I=>start_eq I ls) n
def md (a0:List bF)(a1:aB):Int:=(dQ (S:=Unit) (β:=Int) (fun (i1:Nat) (y1:bF) (s3:Unit)=>(cond (Z129.md y1 a1) (.inr ((i1:Int):Int)) (.inl ()))) (fun (s3:Unit)=>((-1):Int)) 0 a0 ())
def gd (a0:List bF)(a1:aB):Prop:=(bL (2^21) (fun y:bF=>bF.Sm (2^21) y) a0)
def acc (ls:List L):aC×aB:=((ls.headD .hole).aP,(sDec (cH 1 (aA 1 ls))))
def R:(aC×aB)->Option Int:=RR (p2 gd) (u2 md)
def aj {a0 a1}(h:gd a0 a1):R ((a0.map bF.row),a1)=some (md a0 a1):=aN (a:=(a0,a1)) h
def aT:fQ:=CN pats res acc R
def bt (a0:List bF)(a1:aB)(p1:List L)(e1:a1=(sDec p1))(hg:gd a0 a1):∃n,start (iter step n) (a0.map bF.row) p1=ret ((md a0 a1):Int):=by
 unfold gd at hg
 have H0:=hg
 unfold start md
 try simp only [SS,<-e1]
 have Bh2:a0.length<=maxLen:=(by
   have:=(H0).1
   try simp only [maxLen] at *
   omega)
 refine ex_eq (out:=ret) (cR (z:=bF.zero)) ?_
 refine dK (p:=Pt.p0 (a0.map bF.row) p1 (a0.length:Int) 0) fz ?_
 refine cj (pt:=fun (i1:Nat) (s3:Unit)=>Pt.p0 (a0.map bF.row) p1 (a0.length:Int) (i1:Int)) (s:=(():Unit)) (out:=ret) (fun _ _=>True) (fun J i1 s3 h2 hih2=>?_) (fun s3 hih2=>?_) trivial
 ·simp only [step,SS,<-e1]
  have bb_:=Bh2
  simp only [maxLen] at bb_
  have:=(H0).1
  refine bz.yes (by apply decide_eq_true;omega) ?_
  refine bz.yes aI ?_
  refine bz.yes (aL h2) ?_
  refine cr (Z129.aj trivial) ?_
  refine bz.bif (fun c4=>?_) (fun c4=>?_)
  ·refine bz.inr ?_
   all_goals exact fz
  ·refine bz.inl trivial ?_
   rw [aG h2 Bh2]
   all_goals exact fz
 ·simp only [step,SS,<-e1]
  have:=(H0).1
  refine dx (by apply decide_eq_false;omega) ?_
  refine ⟨0,?_⟩
  all_goals exact fz
def mB (ls:List L)(a:List bF×aB)(e:acc ls=Im.im a)(hg:(p2 gd) a):∃n:Nat,start (iter step n) ((ls.headD .hole).aP) (cH 1 (aA 1 ls))=ret (Im.im ((u2 md) a)):=by
 have e0:(a.1.map bF.row)=(ls.headD .hole).aP:=(congrArg (fun x=>x.1) e.symm)
 obtain ⟨n,hn⟩:=bt a.1 a.2 (cH 1 (aA 1 ls)) (congrArg (fun x=>x.2) e.symm) hg
 refine ⟨n,?_⟩
 rw [<-e0]
 exact hn
def af:cw 140 aT:=VP (accr:=fun ls=>((ls.headD .hole).aP,(cH 1 (aA 1 ls)))) (run:=fun n x=>start (iter step n) x.1 x.2) mix aE (.cons Z129.af .nil) Tryz.func140 (by kernel_rfl) run_eq (fun ls a _ e hg=>mB ls a e hg)
def fa (a0:List bF)(a1:aB):-1<=md a0 a1/\md a0 a1<(a0.length:Int):=by
 unfold md
 refine fD ?_ _ _
 all_goals
  intro i x s b h
  revert h
  simp only [Bool.cond_eq_ite]
  repeat' split
  all_goals (intro h;first | (cases h;rfl) | cases h)
def idx_eq (a0:List bF)(a1:aB):md a0 a1=iF (fun y=>Z129.md y a1) 0 a0:=by
 unfold md
 exact gv
end Z130
namespace Z131
def F (x0:aC)(x1:aB):aH:=(call (Z130.R (x0,x1)) fun v1=>ret (v1:Int))
def md (a0:List bF)(a1:aB):Int:=((Z130.md a0 a1):Int)
def gd (a0:List bF)(a1:aB):Prop:=(bL (2^21) (fun y:bF=>bF.Sm (2^21) y) a0)
def R:=RR (p2 gd) (u2 md)
def aj {a0 a1}(h:gd a0 a1):R ((a0.map bF.row),a1)=some (md a0 a1):=aN (a:=(a0,a1)) h
def aT:=CN [pL 118,pS] oI RT.dec R
def bt (a0)(a1)(hg:gd a0 a1):F (a0.map bF.row) a1=ret (md a0 a1):=by
 unfold gd at hg
 have H0:=hg
 unfold F md
 try simp only [SS]
 refine ct (Z130.aj H0) ?_
 have fv1_:=Z130.fa a0 a1
 all_goals exact fz
def af:cw 112 aT:=W2 8 F mix aE bt (.cons Z130.af .nil) Tryz.func112
def fa (a0:List bF)(a1:aB):-1<=md a0 a1/\md a0 a1<(a0.length:Int):=by unfold md;exact Z130.fa _ _
def br (a0:List bF)(a1:aB):md a0 a1=Z39.md a0 a1:=by
 unfold md Z39.md
 first
 | (simp only [Z130.idx_eq];done)
 | (simp only [Z130.idx_eq];rfl)
 | rfl
end Z131
namespace Z132
def F (x0:aC)(x1:aB):aH:=(call (Z131.R (x0,x1)) fun v1=>(cond (decide (v1<0)) (ret (((-1),false):Int×Bool)) (m2 v1 (x0.length:Int) (ret (((bF.at x0 (toNat v1)).bC,true):Int×Bool)))))
def md (a0:List bF)(a1:aB):Int×Bool:=(cond (decide ((Z131.md a0 a1)<0)) ((-1),false) ((a0.getD (toNat (Z131.md a0 a1)) bF.zero).bC,true))
def gd (a0:List bF)(a1:aB):Prop:=(bL (2^21) (fun y:bF=>bF.Sm (2^21) y) a0)
def R:=RR (p2 gd) (u2 md)
def aj {a0 a1}(h:gd a0 a1):R ((a0.map bF.row),a1)=some ((md a0 a1).1,(md a0 a1).2):=aN (a:=(a0,a1)) h
def aT:=CN [pL 118,pS] (.iE [(false,[fI]),(false,[fB])]) RT.dec R
def bt (a0)(a1)(hg:gd a0 a1):F (a0.map bF.row) a1=ret ((md a0 a1).1,(md a0 a1).2):=by
 unfold gd at hg
 have H0:=hg
 unfold F md
 try simp only [SS]
 refine ct (Z131.aj H0) ?_
 have fv1_:=Z131.fa a0 a1
 refine au (fun b:Int×Bool=>ret ((b.1,b.2):Int×Bool)) (fun _=>rfl) (fun c1=>?_)
 have dc1:=c1
 try simp only [DC] at dc1
 refine ak dt ?_
 refine ak (have:=(H0).1;dt) ?_
 all_goals exact fz
def af:cw 79 aT:=W2 17 F mix aE bt (.cons Z131.af .nil) Tryz.func79
def br (a0:List bF)(a1:aB):md a0 a1=Z40.md a0 a1:=by
 unfold md Z40.md
 first
 | (simp only [Z131.br];done)
 | (simp only [Z131.br];rfl)
 | rfl
end Z132
namespace Z133
def F (x0:aC):aH:=(cond x0.isEmpty (either (ret ([]:aC)) ((ck (eT ((x0.length:Int)*8)) (ret (x0:aC))))) (ck (eT ((x0.length:Int)*8)) (ret (x0:aC))))
def md (a0:List Int):List Int:=a0
def gd (a0:List Int):Prop:=bL (2^38) (fun y:Int=>True) a0
def R:=RR gd md
def aj {a0}(h:gd a0):R (a0.map bh)=some (a0.map bh):=aN (a:=a0) h
def aT:=CN [pL 3] (oL 3) RT.dec R
def bt (a0)(hg:gd a0):F (a0.map bh)=ret ((md a0).map bh):=by
 have H0:=hg.1
 unfold F md
 have hl:eT (((a0.map bh).length:Int)*8)=true:=iJ (by simp only [List.length_map];omega)
 simp only [hl,bf]
 cases a0 with
 | nil=>exact kT
 | cons x xs=>rfl
def af:cw 225 aT:=W1 8 F mix aE bt .nil Tryz.func225
end Z133
namespace Z134
def F (x0:bD):aH:=(call (Z133.R x0.aX) fun v1=>ret ((⟨v1,x0.cC⟩:bD):bD))
def md (a0:aO):aO:=a0
def gd (a0:aO):Prop:=(aO.Sm (2^21) a0)
def R:=RR gd md
def aj {a0}(h:gd a0):R (aO.r a0)=some (aO.r a0):=aN (a:=a0) h
def aT:=CN [.agg iU] (.agg f136) RT.dec R
def bt (a0)(hg:gd a0):F (aO.r a0)=ret (aO.r (md a0)):=by
 unfold gd at hg
 have H0:=hg
 unfold F md
 try simp only [SS]
 refine ct (Z133.aj (H0.mono (by decide) (fun x hx=>trivial))) ?_
 try simp only [SS]
 all_goals exact fz
def af:cw 184 aT:=W1 9 F mix aE bt (.cons Z133.af .nil) Tryz.func184
end Z134
namespace Z135
def F (x0:bY):aH:=(call (Z134.R x0.bQ) fun v1=>(call (Z134.R x0.bB) fun v2=>(call (Z134.R x0.bw) fun v3=>ret ((⟨x0.bC,x0.cI,x0.bK,x0.cG,x0.cz,x0.cq,x0.cW,x0.dy,v1,v2,x0.cY,v3,x0.bE⟩:bY):bY))))
def md (a0:aF):aF:=a0
def gd (a0:aF):Prop:=(aF.Sm (2^21) a0)
def R:=RR gd md
def aj {a0}(h:gd a0):R (aF.r a0)=some (aF.r a0):=aN (a:=a0) h
def aT:=CN [.agg fW] (.agg f138) RT.dec R
def bt (a0)(hg:gd a0):F (aF.r a0)=ret (aF.r (md a0)):=by
 unfold gd at hg
 have H0:=hg
 unfold F md
 try simp only [SS]
 refine ct (Z134.aj H0.1) ?_
 try simp only [SS]
 refine ct (Z134.aj H0.2.1) ?_
 try simp only [SS]
 refine ct (Z134.aj H0.2.2) ?_
 try simp only [SS]
 all_goals exact fz
def af:cw 148 aT:=W1 16 F mix aE bt (.cons Z134.af .nil) Tryz.func148
end Z135
namespace Z136
def F (x0:aC):aH:=(cond x0.isEmpty (either (ret ([]:aC)) ((ck (eT ((x0.length:Int)*16)) (ret (x0:aC))))) (ck (eT ((x0.length:Int)*16)) (ret (x0:aC))))
def md (a0:List bn):List bn:=a0
def gd (a0:List bn):Prop:=bL (2^21) (fun y:bn=>bn.Sm (2^21) y) a0
def R:=RR gd md
def aj {a0}(h:gd a0):R (a0.map bn.row)=some (a0.map bn.row):=aN (a:=a0) h
def aT:=CN [pL 190] (oL 190) RT.dec R
def bt (a0)(hg:gd a0):F (a0.map bn.row)=ret ((md a0).map bn.row):=by
 have H0:=hg.1
 unfold F md
 have hl:eT (((a0.map bn.row).length:Int)*16)=true:=iJ (by simp only [List.length_map];omega)
 simp only [hl,bf]
 cases a0 with
 | nil=>exact kT
 | cons x xs=>rfl
def af:cw 149 aT:=W1 8 F mix aE bt .nil Tryz.func149
end Z136
namespace Z137
def F (x0:aR):aH:=(call (Z135.R x0.an) fun v1=>(call (Z136.R x0.cm) fun v2=>ret ((⟨v1,v2⟩:aR):aR)))
def md (a0:aa):aa:=a0
def gd (a0:aa):Prop:=(aa.Sm (2^21) a0)
def R:=RR gd md
def aj {a0}(h:gd a0):R (aa.r a0)=some (aa.r a0):=aN (a:=a0) h
def aT:=CN [.agg kE] (.agg f141) RT.dec R
def bt (a0)(hg:gd a0):F (aa.r a0)=ret (aa.r (md a0)):=by
 unfold gd at hg
 have H0:=hg
 unfold F md
 try simp only [SS]
 refine ct (Z135.aj H0.1) ?_
 try simp only [SS]
 refine ct (Z136.aj H0.2) ?_
 try simp only [SS]
 all_goals exact fz
def af:cw 118 aT:=W1 10 F mix aE bt (.cons Z135.af (.cons Z136.af .nil)) Tryz.func118
end Z137
namespace Z138
inductive Pt where
 | p0 (a:aC) (b c:Int) (d:aC)
def pid:Pt->Nat
 | .p0 ..=>3
def cg:Pt->List V
 | .p0 a b c d=>[.own 0,.sl none 141 a,.int .i64 b,.int .i64 c]
def bZ:Pt->List aW
 | .p0 a b c d=>[.row 141 d]
def step (J:Pt->aH):Pt->aH
 | .p0 a b c d=>(cond (decide (c<b)) (m2 c (a.length:Int) (call (Z137.R (aR.at a (toNat c))) fun v1=>(ck (eT (((d.length:Int)+1)*200)) (J (.p0 a b (i64.wrap (c+1)) (d++[(aR.enc v1)])))))) (ret (d:aC)))
def start (J:Pt->aH)(x0:aC):aH:=J (.p0 x0 (x0.length:Int) 0 [])
def live:Nat->Live:=fun i=>match i with | 3=>[(3,some 141),(7,none),(8,none),(9,none)] | _=>[]
def md (a0:List aa):List aa:=a0
def gd (a0:List aa):Prop:=(bL (2^21) (fun y:aa=>aa.Sm (2^21) y) a0)
def R:=RR gd md
def aj {a0}(h:gd a0):R (a0.map aa.row)=some (a0.map aa.row):=aN (a:=a0) h
def aT:=CN [pL 141] (oL 141) RT.dec R
def bt (a0)(hg:gd a0):∃n,start (iter step n) (a0.map aa.row)=ret ((md a0).map aa.row):=by
 unfold gd at hg
 have H0:=hg
 unfold start md
 try simp only [SS]
 have Bh2:a0.length<=maxLen:=(by
   have:=(H0).1
   try simp only [maxLen] at *
   omega)
 refine ex_eq (out:=(fun b:List aa=>ret ((b.map aa.row):aC))) (hO (xs:=a0) (z:=aa.zero) (t:=fun s3:List aa=>s3)) ?_
 refine dK (p:=Pt.p0 (a0.map aa.row) (a0.length:Int) 0 ([].map aa.row)) fz ?_
 refine cj (pt:=fun (i1:Nat) (s3:List aa)=>Pt.p0 (a0.map aa.row) (a0.length:Int) (i1:Int) (s3.map aa.row)) (s:=([]:List aa)) (out:=(fun b:List aa=>ret ((b.map aa.row):aC))) (fun (i1:Nat) (s3:List aa)=>s3.length<=([]:List Int).length+1*i1) (fun J i1 s3 h2 hih2=>?_) (fun s3 hih2=>?_) (by simp)
 ·simp only [step,SS]
  have gr_:=hih2
  try simp only [LN] at gr_
  have bb_:=Bh2
  simp only [maxLen] at bb_
  have:=(H0).1
  refine bz.yes (by apply decide_eq_true;omega) ?_
  refine bz.yes aI ?_
  refine bz.yes (aL h2) ?_
  refine cr (Z137.aj (bL.getD (z:=aa.zero) H0 h2)) ?_
  try simp only [SS]
  refine bz.yes lm ?_
  refine bz.inl (by
    have g_:=hih2
    try simp only [LN] at g_ ⊢
    first | omega | (simp;done) | (simp;omega)) ?_
  rw [aG h2 Bh2]
  all_goals exact fz
 ·simp only [step,SS]
  have gr_:=hih2
  try simp only [LN] at gr_
  have:=(H0).1
  refine dx (by apply decide_eq_false;omega) ?_
  refine ⟨0,?_⟩
  all_goals exact fz
def af:cw 89 aT:=L1 20 pid cg bZ live step start mix aE bt (.cons Z137.af .nil) Tryz.func89
end Z138
namespace Z139
def F (x0:bH):aH:=(call (Z137.R x0.aQ) fun v1=>(call (Z137.R x0.fA) fun v2=>(call (Z137.R x0.fB) fun v3=>ret ((⟨v1,v2,v3⟩:bH):bH))))
def md (a0:az):az:=a0
def gd (a0:az):Prop:=(az.Sm (2^21) a0)
def R:=RR gd md
def aj {a0}(h:gd a0):R (az.r a0)=some (az.r a0):=aN (a:=a0) h
def aT:=CN [.agg sO] (.agg f143) RT.dec R
def bt (a0)(hg:gd a0):F (az.r a0)=ret (az.r (md a0)):=by
 unfold gd at hg
 have H0:=hg
 unfold F md
 try simp only [SS]
 refine ct (Z137.aj H0.1) ?_
 try simp only [SS]
 refine ct (Z137.aj H0.2.1) ?_
 try simp only [SS]
 refine ct (Z137.aj H0.2.2) ?_
 try simp only [SS]
 all_goals exact fz
def af:cw 90 aT:=W1 13 F mix aE bt (.cons Z137.af .nil) Tryz.func90
end Z139
namespace Z140
inductive Pt where
 | p0 (a:aC) (b c:Int) (d:bu) (e:aC)
 | p1 (a:aC) (b c:Int) (d e:aC)
def pid:Pt->Nat
 | .p0 ..=>3
 | .p1 ..=>8
def cg:Pt->List V
 | .p0 a b c d e=>[.cQ 0 0,.cQ 1 0,.cQ 2 0,.sl none 134 a,.int .i64 b,.int .i64 c,.cQ 2 0]
 | .p1 a b c d e=>[.cQ 0 0,.cQ 1 0,.sl none 143 a,.int .i64 b,.int .i64 c,.cQ 1 0,.cQ 1 0]
def bZ:Pt->List aW
 | .p0 a b c d e=>[.box [.sl none 134 d.aJ,.sl none 143 d.bp],.box [.nil,.nil],.box [.own 3,.nil],.row 134 e]
 | .p1 a b c d e=>[.box [.nil,.nil],.box [.own 2,.own 3],.row 134 d,.row 143 e]
def step (J:Pt->aH):Pt->aH
 | .p0 a b c d e=>(cond (decide (c<b)) (m2 c (a.length:Int) (call (Z138.R (og a (toNat c))) fun v1=>(ck (eT (((e.length:Int)+1)*24)) (J (.p0 a b (i64.wrap (c+1)) d (e++[[L.sl v1]])))))) (J (.p1 d.bp (d.bp.length:Int) 0 e [])))
 | .p1 a b c d e=>(cond (decide (c<b)) (m2 c (a.length:Int) (call (Z139.R (bH.at a (toNat c))) fun v1=>(ck (eT (((e.length:Int)+1)*600)) (J (.p1 a b (i64.wrap (c+1)) d (e++[(bH.enc v1)])))))) (ret ((⟨d,e⟩:bu):bu)))
def start (J:Pt->aH)(x0:bu):aH:=J (.p0 x0.aJ (x0.aJ.length:Int) 0 x0 [])
def live:Nat->Live:=fun i=>match i with | 3=>[(1,none),(2,none),(3,none),(10,none),(11,none),(12,none),(3,some 134)] | 8=>[(2,none),(3,none),(25,none),(26,none),(27,none),(3,some 134),(3,some 1048719)] | _=>[]
def md (a0:aq):aq:=a0
def gd (a0:aq):Prop:=(aq.Sm (2^21) a0)
def R:=RR gd md
def aj {a0}(h:gd a0):R (aq.r a0)=some (aq.r a0):=aN (a:=a0) h
def aT:=CN [.agg rK] (.agg f37) RT.dec R
def bt (a0)(hg:gd a0):∃n,start (iter step n) (aq.r a0)=ret (aq.r (md a0)):=by
 unfold gd at hg
 have H0:=hg
 unfold start md
 try simp only [SS]
 have Bh2:a0.aJ.length<=maxLen:=(by
   have:=(H0.1).1
   try simp only [maxLen] at *
   omega)
 refine ex_eq (out:=(fun b:aq=>ret ((aq.r b):bu))) (hO (xs:=a0.aJ) (z:=[]) (t:=fun s3:List (List aa)=>(⟨s3,a0.bp⟩:aq))) ?_
 refine dK (p:=Pt.p0 (a0.aJ.map (dG aa.row)) (a0.aJ.length:Int) 0 (aq.r a0) ([].map (dG aa.row))) fz ?_
 refine cj (pt:=fun (i1:Nat) (s3:List (List aa))=>Pt.p0 (a0.aJ.map (dG aa.row)) (a0.aJ.length:Int) (i1:Int) (aq.r a0) (s3.map (dG aa.row))) (s:=([]:List (List aa))) (out:=(fun b:aq=>ret ((aq.r b):bu))) (fun (i1:Nat) (s3:List (List aa))=>s3.length<=([]:List Int).length+1*i1) (fun J i1 s3 h2 hih2=>?_) (fun s3 hih2=>?_) (by simp)
 ·simp only [step,SS]
  have gr_:=hih2
  try simp only [LN] at gr_
  have bb_:=Bh2
  simp only [maxLen] at bb_
  have:=(H0.1).1
  refine bz.yes (by apply decide_eq_true;omega) ?_
  refine bz.yes aI ?_
  refine bz.yes (aL h2) ?_
  refine cr (Z138.aj (bL.getD (z:=[]) H0.1 h2)) ?_
  try simp only [SS]
  refine bz.yes lm ?_
  refine bz.inl (by
    have g_:=hih2
    try simp only [LN] at g_ ⊢
    first | omega | (simp;done) | (simp;omega)) ?_
  rw [aG h2 Bh2]
  all_goals exact fz
 ·simp only [step,SS]
  have gr_:=hih2
  try simp only [LN] at gr_
  have:=(H0.1).1
  refine dx (by apply decide_eq_false;omega) ?_
  have Bh5:a0.bp.length<=maxLen:=(by
    have:=(H0.2).1
    try simp only [maxLen] at *
    omega)
  refine ex_eq (out:=(fun b:aq=>ret ((aq.r b):bu))) (hO (xs:=a0.bp) (z:=az.zero) (t:=fun s6:List az=>(⟨s3,s6⟩:aq))) ?_
  refine dK (p:=Pt.p1 (a0.bp.map az.row) (a0.bp.length:Int) 0 (s3.map (dG aa.row)) ([].map az.row)) fz ?_
  refine cj (pt:=fun (i4:Nat) (s6:List az)=>Pt.p1 (a0.bp.map az.row) (a0.bp.length:Int) (i4:Int) (s3.map (dG aa.row)) (s6.map az.row)) (s:=([]:List az)) (out:=(fun b:aq=>ret ((aq.r b):bu))) (fun (i4:Nat) (s6:List az)=>s6.length<=([]:List Int).length+1*i4) (fun J i4 s6 h5 hih5=>?_) (fun s6 hih5=>?_) (by simp)
  ·simp only [step,SS]
   have gr_:=hih5
   try simp only [LN] at gr_
   have bb_:=Bh5
   simp only [maxLen] at bb_
   have:=(H0.2).1
   refine bz.yes (by apply decide_eq_true;omega) ?_
   refine bz.yes aI ?_
   refine bz.yes (aL h5) ?_
   refine cr (Z139.aj (bL.getD (z:=az.zero) H0.2 h5)) ?_
   try simp only [SS]
   refine bz.yes lm ?_
   refine bz.inl (by
     have g_:=hih5
     try simp only [LN] at g_ ⊢
     first | omega | (simp;done) | (simp;omega)) ?_
   rw [aG h5 Bh5]
   all_goals exact fz
  ·simp only [step,SS]
   have gr_:=hih5
   try simp only [LN] at gr_
   have:=(H0.2).1
   refine dx (by apply decide_eq_false;omega) ?_
   refine ⟨0,?_⟩
   all_goals exact fz
def af:cw 48 aT:=L1 40 pid cg bZ live step start mix aE bt (.cons Z138.af (.cons Z139.af .nil)) Tryz.func48
end Z140
namespace Z141
def F (x0 x1 x2:Int):aH:=(cond (decide (x1<=x0)) (ret ((decide (x0<=x2)):Bool)) aY)
def md (a0 a1 a2:Int):Bool:=(cond (decide (a1<=a0)) ((decide (a0<=a2)):Bool) (false:Bool))
def gd (a0 a1 a2:Int):Prop:=True
def R:=RR (p3 gd) (u3 md)
def aj {a0 a1 a2}(h:gd a0 a1 a2):R (a0,a1,a2)=some (md a0 a1 a2):=aN (a:=(a0,a1,a2)) h
def aT:=CN [pI,pI,pI] oB RT.dec R
def bt (a0)(a1)(a2)(hg:gd a0 a1 a2):F a0 a1 a2=ret (md a0 a1 a2):=by
 unfold F md
 try simp only [SS]
 refine au ret (fun c1=>?_) (fun _=>rfl)
 all_goals exact fz
def af:cw 131 aT:=W3 15 F mix aE bt .nil Tryz.func131
def br (a0 a1 a2:Int):md a0 a1 a2=Z47.md a0 a1 a2:=by
 unfold md Z47.md
 first | rfl | (rw [Bool.eq_iff_iff];simp)
end Z141
namespace Z142
inductive Pt where
 | p0 (a:aB) (b c:Int)
def pid:Pt->Nat
 | .p0 ..=>2
def cg:Pt->List V
 | .p0 a b c=>[.str a,.int .i64 b,.int .i64 c]
def bZ:Pt->List aW
 | .p0 a b c=>[]
def step (J:Pt->aH):Pt->aH
 | .p0 a b c=>(cond (decide (c<b)) (m2 c (a.size:Int) (cond (decide ((dZ a (toNat c))>=97)) (cond (decide ((dZ a (toNat c))<=122)) (J (.p0 a b (i64.wrap (c+1)))) (cond (decide ((dZ a (toNat c))>=48)) (cond (decide ((dZ a (toNat c))<=57)) (J (.p0 a b (i64.wrap (c+1)))) (cond ((dZ a (toNat c))==45) (cond (decide (c>0)) (cond (!(decide (c<(i64.wrap ((a.size:Int) - 1))))) aY (J (.p0 a b (i64.wrap (c+1))))) aY) aY)) (cond ((dZ a (toNat c))==45) (cond (decide (c>0)) (cond (!(decide (c<(i64.wrap ((a.size:Int) - 1))))) aY (J (.p0 a b (i64.wrap (c+1))))) aY) aY))) (cond (decide ((dZ a (toNat c))>=48)) (cond (decide ((dZ a (toNat c))<=57)) (J (.p0 a b (i64.wrap (c+1)))) (cond ((dZ a (toNat c))==45) (cond (decide (c>0)) (cond (!(decide (c<(i64.wrap ((a.size:Int) - 1))))) aY (J (.p0 a b (i64.wrap (c+1))))) aY) aY)) (cond ((dZ a (toNat c))==45) (cond (decide (c>0)) (cond (!(decide (c<(i64.wrap ((a.size:Int) - 1))))) aY (J (.p0 a b (i64.wrap (c+1))))) aY) aY)))) (call (Z141.R ((a.size:Int),1,8)) fun v1=>ret (v1:Bool)))
def start (J:Pt->aH)(x0:aB):aH:=J (.p0 x0 (x0.size:Int) 0)
def live:Nat->Live:=fun i=>match i with | 2=>[(0,none),(6,none),(7,none)] | _=>[]
def md (a0:aB):Bool:=(eo (S:=Unit) (β:=Bool) (fun (i1:Nat) (s3:Unit)=>(cond (decide ((dZ a0 i1)>=97)) (cond (decide ((dZ a0 i1)<=122)) (.inl ()) (cond (decide ((dZ a0 i1)>=48)) (cond (decide ((dZ a0 i1)<=57)) (.inl ()) (cond ((dZ a0 i1)==45) (cond (decide ((i1:Int)>0)) (cond (!(decide ((i1:Int)<(i64.wrap ((a0.size:Int) - 1))))) (.inr (false:Bool)) (.inl ())) (.inr (false:Bool))) (.inr (false:Bool)))) (cond ((dZ a0 i1)==45) (cond (decide ((i1:Int)>0)) (cond (!(decide ((i1:Int)<(i64.wrap ((a0.size:Int) - 1))))) (.inr (false:Bool)) (.inl ())) (.inr (false:Bool))) (.inr (false:Bool))))) (cond (decide ((dZ a0 i1)>=48)) (cond (decide ((dZ a0 i1)<=57)) (.inl ()) (cond ((dZ a0 i1)==45) (cond (decide ((i1:Int)>0)) (cond (!(decide ((i1:Int)<(i64.wrap ((a0.size:Int) - 1))))) (.inr (false:Bool)) (.inl ())) (.inr (false:Bool))) (.inr (false:Bool)))) (cond ((dZ a0 i1)==45) (cond (decide ((i1:Int)>0)) (cond (!(decide ((i1:Int)<(i64.wrap ((a0.size:Int) - 1))))) (.inr (false:Bool)) (.inl ())) (.inr (false:Bool))) (.inr (false:Bool)))))) (fun (s3:Unit)=>((Z141.md (a0.size:Int) 1 8):Bool)) a0.size 0 ())
def gd (a0:aB):Prop:=(a0.size<=(2^22))
def R:=RR gd md
def aj {a0}(h:gd a0):R a0=some (md a0):=aN (a:=a0) h
def aT:=CN [pS] oB RT.dec R
def bt (a0)(hg:gd a0):∃n,start (iter step n) a0=ret (md a0):=by
 unfold gd at hg
 have H0:=hg
 unfold start md
 try simp only [SS]
 have Bh2:a0.size<=maxLen:=(by
   have:=H0
   try simp only [maxLen] at *
   omega)
 refine dK (p:=Pt.p0 a0 (a0.size:Int) 0) fz ?_
 refine cj (pt:=fun (i1:Nat) (s3:Unit)=>Pt.p0 a0 (a0.size:Int) (i1:Int)) (s:=(():Unit)) (out:=ret) (fun _ _=>True) (fun J i1 s3 h2 hih2=>?_) (fun s3 hih2=>?_) trivial
 ·simp only [step,SS]
  have bb_:=Bh2
  simp only [maxLen] at bb_
  have:=H0
  refine bz.yes (by apply decide_eq_true;omega) ?_
  refine bz.yes aI ?_
  refine bz.yes (aL h2) ?_
  refine bz.bif (fun c4=>?_) (fun c4=>?_)
  ·refine bz.bif (fun c5=>?_) (fun c5=>?_)
   ·refine bz.inl trivial ?_
    rw [aG h2 Bh2]
    all_goals exact fz
   ·refine bz.bif (fun c6=>?_) (fun c6=>?_)
    ·refine bz.bif (fun c7=>?_) (fun c7=>?_)
     ·refine bz.inl trivial ?_
      rw [aG h2 Bh2]
      all_goals exact fz
     ·refine bz.bif (fun c8=>?_) (fun _=>bz.inr rfl)
      refine bz.bif (fun c9=>?_) (fun _=>bz.inr rfl)
      refine bz.bif (fun _=>bz.inr rfl) (fun c10=>?_)
      refine bz.inl trivial ?_
      rw [aG h2 Bh2]
      all_goals exact fz
    ·refine bz.bif (fun c11=>?_) (fun _=>bz.inr rfl)
     refine bz.bif (fun c12=>?_) (fun _=>bz.inr rfl)
     refine bz.bif (fun _=>bz.inr rfl) (fun c13=>?_)
     refine bz.inl trivial ?_
     rw [aG h2 Bh2]
     all_goals exact fz
  ·refine bz.bif (fun c14=>?_) (fun c14=>?_)
   ·refine bz.bif (fun c15=>?_) (fun c15=>?_)
    ·refine bz.inl trivial ?_
     rw [aG h2 Bh2]
     all_goals exact fz
    ·refine bz.bif (fun c16=>?_) (fun _=>bz.inr rfl)
     refine bz.bif (fun c17=>?_) (fun _=>bz.inr rfl)
     refine bz.bif (fun _=>bz.inr rfl) (fun c18=>?_)
     refine bz.inl trivial ?_
     rw [aG h2 Bh2]
     all_goals exact fz
   ·refine bz.bif (fun c19=>?_) (fun _=>bz.inr rfl)
    refine bz.bif (fun c20=>?_) (fun _=>bz.inr rfl)
    refine bz.bif (fun _=>bz.inr rfl) (fun c21=>?_)
    refine bz.inl trivial ?_
    rw [aG h2 Bh2]
    all_goals exact fz
 ·simp only [step,SS]
  have:=H0
  refine dx (by apply decide_eq_false;omega) ?_
  refine cx (Z141.aj trivial) ?_
  refine ⟨0,?_⟩
  all_goals exact fz
def af:cw 134 aT:=L1 47 pid cg bZ live step start mix aE bt (.cons Z141.af .nil) Tryz.func134
def br (a0:aB):md a0=Z48.md a0:=by
 unfold md Z48.md
 by_cases hl:1<=a0.size/\a0.size<=8
 ·have e1:Z47.md (a0.size:Int) 1 8=true:=by simp [Z47.md];omega
  simp only [Z141.br,e1]
  have ew:i64.wrap ((a0.size:Int) - 1)=((a0.size - 1:Nat):Int):=by
   rw [Go.IntWalk.i64_in _ (by omega)];omega
  simp only [ew,cB]
  rw [Bool.eq_iff_iff]
  rw [jl (fun i=>(97<=dZ a0 i/\dZ a0 i<=122)∨(48<=dZ a0 i/\dZ a0 i<=57)∨(dZ a0 i=45/\0<i/\i<a0.size - 1)) (fun i hi h=>by simp;grind) (fun i hi h=>by simp;grind)]
  have e2:=jl (n:=a0.size) (f:=fun (i4:Nat) (s6:Unit)=>(cond (decide ((dZ a0 i4)<97)) (cond (decide ((dZ a0 i4)<48)) (cond ((dZ a0 i4) != 45) (.inr (false:Bool)) (.inl ())) (cond (decide ((dZ a0 i4)>57)) (cond ((dZ a0 i4) != 45) (.inr (false:Bool)) (.inl ())) (.inl ()))) (cond (decide ((dZ a0 i4)>122)) (cond (decide ((dZ a0 i4)<48)) (cond ((dZ a0 i4) != 45) (.inr (false:Bool)) (.inl ())) (cond (decide ((dZ a0 i4)>57)) (cond ((dZ a0 i4) != 45) (.inr (false:Bool)) (.inl ())) (.inl ()))) (.inl ())))) (t:=fun _=>true)
   (fun i=>(97<=dZ a0 i/\dZ a0 i<=122)∨(48<=dZ a0 i/\dZ a0 i<=57)∨dZ a0 i=45) (fun i hi h=>by simp;grind) (fun i hi h=>by simp;grind)
  have e3:∀b c d:Bool,(cond (!true) false (bif b then false else bif c then false else d))=true↔b=false/\c=false/\d=true:=by intro b c d;cases b<;>cases c<;>simp
  rw [e3,e2]
  simp only [beq_eq_false_iff_ne,ne_eq,and_true]
  constructor
  ·intro h
   refine ⟨fun h0=>?_,fun h0=>?_,fun i hi=>?_⟩
   ·have:=h 0 (by omega);omega
   ·have:=h (a0.size - 1) (by omega);omega
   ·have:=h i hi;omega
  ·intro ⟨h1,h2,h3⟩ i hi
   have:=h3 i hi
   by_cases h0:i=0
   ·subst h0;omega
   ·by_cases h9:i=a0.size - 1
    ·subst h9;omega
    ·omega
 ·have e1:Z47.md (a0.size:Int) 1 8=false:=by simp [Z47.md];omega
  simp only [Z141.br,e1]
  refine oJ ?_ _ _ _
  intro i s b h
  revert h
  simp only [Bool.cond_eq_ite]
  repeat' split
  all_goals (intro h;first | (cases h;rfl) | cases h)
end Z142
namespace Z143
def F (x0:aB):aH:=(call (Z142.R x0) fun v1=>ret ((!v1):Bool))
def md (a0:aB):Bool:=((!(Z142.md a0)):Bool)
def gd (a0:aB):Prop:=(a0.size<=(2^22))
def R:=RR gd md
def aj {a0}(h:gd a0):R a0=some (md a0):=aN (a:=a0) h
def aT:=CN [pS] oB RT.dec R
def bt (a0)(hg:gd a0):F a0=ret (md a0):=by
 unfold gd at hg
 have H0:=hg
 unfold F md
 try simp only [SS]
 refine ct (Z142.aj H0) ?_
 all_goals exact fz
def af:cw 133 aT:=W1 6 F mix aE bt (.cons Z142.af .nil) Tryz.func133
end Z143
namespace Z144
inductive Pt where
 | p0 (a:aC) (b c:Int)
def pid:Pt->Nat
 | .p0 ..=>2
def cg:Pt->List V
 | .p0 a b c=>[.sl none 9 a,.fn 133 [],.int .i64 b,.int .i64 c]
def bZ:Pt->List aW
 | .p0 a b c=>[]
def step (J:Pt->aH):Pt->aH
 | .p0 a b c=>(cond (decide (c<b)) (m2 c (a.length:Int) (call (Z143.R (pV a (toNat c))) fun v1=>(cond v1 (ret (c:Int)) (J (.p0 a b (i64.wrap (c+1))))))) (ret ((-1):Int)))
def start (J:Pt->aH)(x0:aC):aH:=J (.p0 x0 (x0.length:Int) 0)
def live:Nat->Live:=fun i=>match i with | 2=>[(0,none),(1,none),(7,none),(8,none)] | _=>[]
def pats:List fY:=[.rd (.sl 9),.fn 133 []]
def res:RP:=.one (.rd (.int .i64))
abbrev E:Env:={ T:=assoc kL,G:=dw [(133,Z143.aT)],nt:=19 }
def step_eq (I:cD)(p:Pt):cT E live I (pid p) (bO Tryz.f167) (fq (live (pid p)) (cg p) (bZ p)) (cE E Tryz.f167 res)=step (fun q=>I (pid q) (cg q) (bZ q)) p:=by
 cases p<;>kernel_rfl
def start_eq (I:cD)(ls:List L):eP E live I (bO Tryz.f167) (cV pats ls) (cE E Tryz.f167 res)=start (fun q=>I (pid q) (cg q) (bZ q)) (ls.headD .hole).aP:=by kernel_rfl
def run_eq (n:Nat)(ls:List L):eJ E live Tryz.f167 res n (cV pats ls)=start (iter step n) (ls.headD .hole).aP:=cy (id:=pid) (vs:=cg) (hs:=bZ) (step:=step) (start:=fun J=>start J (ls.headD .hole).aP) step_eq (fun I=>start_eq I ls) n
def md (a0:List aB):Int:=(dQ (S:=Unit) (β:=Int) (fun (i1:Nat) (y1:aB) (s3:Unit)=>(cond (Z143.md y1) (.inr ((i1:Int):Int)) (.inl ()))) (fun (s3:Unit)=>((-1):Int)) 0 a0 ())
def gd (a0:List aB):Prop:=(bL (2^22) (fun y:aB=>y.size<=(2^22)) a0)
def acc (ls:List L):aC:=(ls.headD .hole).aP
def R:(aC)->Option Int:=RR gd md
def aj {a0}(h:gd a0):R (a0.map cF)=some (md a0):=aN (a:=a0) h
def aT:fQ:=CN pats res acc R
def bt (a0:List aB)(hg:gd a0):∃n,start (iter step n) (a0.map cF)=ret ((md a0):Int):=by
 unfold gd at hg
 have H0:=hg
 unfold start md
 try simp only [SS]
 have Bh2:a0.length<=maxLen:=(by
   have:=(H0).1
   try simp only [maxLen] at *
   omega)
 refine ex_eq (out:=ret) (cR (z:=⟨#[]⟩)) ?_
 refine dK (p:=Pt.p0 (a0.map cF) (a0.length:Int) 0) fz ?_
 refine cj (pt:=fun (i1:Nat) (s3:Unit)=>Pt.p0 (a0.map cF) (a0.length:Int) (i1:Int)) (s:=(():Unit)) (out:=ret) (fun _ _=>True) (fun J i1 s3 h2 hih2=>?_) (fun s3 hih2=>?_) trivial
 ·simp only [step,SS]
  have bb_:=Bh2
  simp only [maxLen] at bb_
  have:=(H0).1
  refine bz.yes (by apply decide_eq_true;omega) ?_
  refine bz.yes aI ?_
  refine bz.yes (aL h2) ?_
  refine cr (Z143.aj (bL.getD (z:=⟨#[]⟩) H0 h2)) ?_
  refine bz.bif (fun c4=>?_) (fun c4=>?_)
  ·refine bz.inr ?_
   all_goals exact fz
  ·refine bz.inl trivial ?_
   rw [aG h2 Bh2]
   all_goals exact fz
 ·simp only [step,SS]
  have:=(H0).1
  refine dx (by apply decide_eq_false;omega) ?_
  refine ⟨0,?_⟩
  all_goals exact fz
def af:cw 167 aT:=VV (run:=fun n x=>start (iter step n) x) mix aE (.cons Z143.af .nil) Tryz.func167 (by kernel_rfl) run_eq (fun _ a _ _ hg=>bt a hg)
def fa (a0:List aB):-1<=md a0/\md a0<(a0.length:Int):=by
 unfold md
 refine fD ?_ _ _
 all_goals
  intro i x s b h
  revert h
  simp only [Bool.cond_eq_ite]
  repeat' split
  all_goals (intro h;first | (cases h;rfl) | cases h)
def idx_eq (a0:List aB):md a0=iF (fun y=>Z143.md y) 0 a0:=by
 unfold md
 exact gv
end Z144
namespace Z145
def F (x0:aC):aH:=(call (Z144.R x0) fun v1=>ret ((decide (v1>=0)):Bool))
def pats:List fY:=[.rd (.sl 9),.fn 133 []]
def res:RP:=.one (.rd (.bool))
def md (a0:List aB):Bool:=((decide ((Z144.md a0)>=0)):Bool)
def gd (a0:List aB):Prop:=(bL (2^22) (fun y:aB=>y.size<=(2^22)) a0)
def acc (ls:List L):aC:=(ls.headD .hole).aP
def R:(aC)->Option Bool:=RR gd md
def aj {a0}(h:gd a0):R (a0.map cF)=some (md a0):=aN (a:=a0) h
def aT:fQ:=CN pats res acc R
def bt (a0:List aB)(hg:gd a0):F (a0.map cF)=ret ((md a0):Bool):=by
 unfold gd at hg
 have H0:=hg
 unfold F md
 try simp only [SS]
 refine ct (Z144.aj H0) ?_
 have fv1_:=Z144.fa a0
 all_goals exact fz
def af:cw 132 aT:=VV (live:=fun _=>[]) (nt:=9) (run:=fun _ x=>F x) mix aE (.cons Z144.af .nil) Tryz.func132 (by kernel_rfl) (fun _ _=>by kernel_rfl) (fun _ a _ _ hg=>⟨0,bt a hg⟩)
def any_eq (a0:List aB):md a0=a0.any (fun y=>Z143.md y):=by
 unfold md
 rw [Z144.idx_eq]
 exact qj
end Z145
namespace Z146
def F (x0:aC):aH:=(call (Z141.R ((x0.length:Int),1,4)) fun v1=>(cond v1 (call (Z145.R x0) fun v2=>ret ((!v2):Bool)) aY))
def md (a0:List aB):Bool:=(cond (Z141.md (a0.length:Int) 1 4) ((!(Z145.md a0)):Bool) (false:Bool))
def gd (a0:List aB):Prop:=(bL (2^22) (fun y:aB=>y.size<=(2^22)) a0)
def R:=RR gd md
def aj {a0}(h:gd a0):R (a0.map cF)=some (md a0):=aN (a:=a0) h
def aT:=CN [pL 9] oB RT.dec R
def bt (a0)(hg:gd a0):F (a0.map cF)=ret (md a0):=by
 unfold gd at hg
 have H0:=hg
 unfold F md
 try simp only [SS]
 refine ct (Z141.aj trivial) ?_
 refine au ret (fun c1=>?_) (fun _=>rfl)
 refine ct (Z145.aj H0) ?_
 all_goals exact fz
def af:cw 107 aT:=W1 11 F mix aE bt (.cons Z141.af (.cons Z145.af .nil)) Tryz.func107
def br (a0:List aB):md a0=Z49.md a0:=by
 unfold md Z49.md
 rw [Z145.any_eq]
 have e:=lR (p:=fun y=>!(Z48.md y)) (b:=false) (c:=Z47.md (a0.length:Int) 1 4) (xs:=a0) (s:=())
 refine Eq.trans ?_ e.symm
 simp only [Z143.md,Z142.br,Z141.br]
 cases a0.any (fun y=>!(Z48.md y))<;>cases Z47.md (a0.length:Int) 1 4<;>rfl
end Z146
namespace Z147
def F (x0:Int):aH:=(call (Z141.R (x0,0,2147483646)) fun v1=>ret (v1:Bool))
def md (a0:Int):Bool:=((Z141.md a0 0 2147483646):Bool)
def gd (a0:Int):Prop:=True
def R:=RR gd md
def aj {a0}(h:gd a0):R a0=some (md a0):=aN (a:=a0) h
def aT:=CN [pI] oB RT.dec R
def bt (a0)(hg:gd a0):F a0=ret (md a0):=by
 unfold F md
 try simp only [SS]
 refine ct (Z141.aj trivial) ?_
 all_goals exact fz
def af:cw 281 aT:=W1 5 F mix aE bt (.cons Z141.af .nil) Tryz.func281
end Z147
namespace Z148
def F (x0:bY):aH:=(cond (decide (x0.cG>=0)) (cond (decide (x0.cG<=x0.cz)) (cond (decide (x0.cz<=100000)) (ret ((decide ((i64.wrap (x0.cz - x0.cG))<=200)):Bool)) aY) aY) aY)
def md (a0:aF):Bool:=(cond (decide (a0.cG>=0)) (cond (decide (a0.cG<=a0.cz)) (cond (decide (a0.cz<=100000)) ((decide ((i64.wrap (a0.cz - a0.cG))<=200)):Bool) (false:Bool)) (false:Bool)) (false:Bool))
def gd (a0:aF):Prop:=True
def R:=RR gd md
def aj {a0}(h:gd a0):R (aF.r a0)=some (md a0):=aN (a:=a0) h
def aT:=CN [.agg fW] oB RT.dec R
def bt (a0)(hg:gd a0):F (aF.r a0)=ret (md a0):=by
 unfold F md
 try simp only [SS]
 refine au ret (fun c1=>?_) (fun _=>rfl)
 refine au ret (fun c2=>?_) (fun _=>rfl)
 refine au ret (fun c3=>?_) (fun _=>rfl)
 all_goals exact fz
def af:cw 289 aT:=W1 26 F mix aE bt .nil Tryz.func289
end Z148
namespace Z149
inductive Pt where
 | p0 (a:aC) (b c:Int)
def pid:Pt->Nat
 | .p0 ..=>2
def cg:Pt->List V
 | .p0 a b c=>[.sl none 3 a,.int .i64 b,.int .i64 c]
def bZ:Pt->List aW
 | .p0 a b c=>[]
def step (J:Pt->aH):Pt->aH
 | .p0 a b c=>(cond (decide (c<b)) (cond (decide (c>0)) (m2 c (a.length:Int) (ck (decide ((0:Int)<=(i64.wrap (c - 1)))) (ck (decide ((i64.wrap (c - 1))<(a.length:Int))) (cond (decide ((je a (toNat c))<=(je a (toNat (i64.wrap (c - 1)))))) aY (J (.p0 a b (i64.wrap (c+1)))))))) (J (.p0 a b (i64.wrap (c+1))))) ep)
def start (J:Pt->aH)(x0:aC):aH:=J (.p0 x0 (x0.length:Int) 0)
def live:Nat->Live:=fun i=>match i with | 2=>[(0,none),(5,none),(6,none)] | _=>[]
def md (a0:List Int):Bool:=(dQ (S:=Unit) (β:=Bool) (fun (i1:Nat) (y1:Int) (s3:Unit)=>(cond (decide ((i1:Int)>0)) (cond (decide (y1<=(a0.getD (toNat (i64.wrap ((i1:Int) - 1))) 0))) (.inr (false:Bool)) (.inl ())) (.inl ()))) (fun (s3:Unit)=>(true:Bool)) 0 a0 ())
def gd (a0:List Int):Prop:=(bL (2^38) (fun y:Int=>True) a0)
def R:=RR gd md
def aj {a0}(h:gd a0):R (a0.map bh)=some (md a0):=aN (a:=a0) h
def aT:=CN [pL 3] oB RT.dec R
def bt (a0)(hg:gd a0):∃n,start (iter step n) (a0.map bh)=ret (md a0):=by
 unfold gd at hg
 have H0:=hg
 unfold start md
 try simp only [SS]
 have Bh2:a0.length<=maxLen:=(by
   have:=(H0).1
   try simp only [maxLen] at *
   omega)
 refine ex_eq (out:=ret) (cR (z:=0)) ?_
 refine dK (p:=Pt.p0 (a0.map bh) (a0.length:Int) 0) fz ?_
 refine cj (pt:=fun (i1:Nat) (s3:Unit)=>Pt.p0 (a0.map bh) (a0.length:Int) (i1:Int)) (s:=(():Unit)) (out:=ret) (fun _ _=>True) (fun J i1 s3 h2 hih2=>?_) (fun s3 hih2=>?_) trivial
 ·simp only [step,SS]
  have bb_:=Bh2
  simp only [maxLen] at bb_
  have:=(H0).1
  refine bz.yes (by apply decide_eq_true;omega) ?_
  refine bz.bif (fun c4=>?_) (fun c4=>?_)
  ·have dc4:=c4
   try simp only [DC] at dc4
   refine bz.yes aI ?_
   refine bz.yes (aL h2) ?_
   refine bz.yes dt ?_
   refine bz.yes (have:=(H0).1;dt) ?_
   refine bz.bif (fun _=>bz.inr rfl) (fun c5=>?_)
   refine bz.inl trivial ?_
   rw [aG h2 Bh2]
   all_goals exact fz
  ·refine bz.inl trivial ?_
   rw [aG h2 Bh2]
   all_goals exact fz
 ·simp only [step,SS]
  have:=(H0).1
  refine dx (by apply decide_eq_false;omega) ?_
  refine ⟨0,?_⟩
  all_goals exact fz
def af:cw 307 aT:=L1 24 pid cg bZ live step start mix aE bt .nil Tryz.func307
end Z149
namespace Z150
def F (x0:Int):aH:=(call (Z141.R (x0,1,99)) fun v1=>ret (v1:Bool))
def md (a0:Int):Bool:=((Z141.md a0 1 99):Bool)
def gd (a0:Int):Prop:=True
def R:=RR gd md
def aj {a0}(h:gd a0):R a0=some (md a0):=aN (a:=a0) h
def aT:=CN [pI] oB RT.dec R
def bt (a0)(hg:gd a0):F a0=ret (md a0):=by
 unfold F md
 try simp only [SS]
 refine ct (Z141.aj trivial) ?_
 all_goals exact fz
def af:cw 308 aT:=W1 5 F mix aE bt (.cons Z141.af .nil) Tryz.func308
end Z150
namespace Z151
def F (x0:bD):aH:=(call (Z141.R ((x0.aX.length:Int),1,4)) fun v1=>(cond v1 (call (Z149.R x0.aX) fun v2=>(cond v2 (ck (decide ((0:Int)<(x0.aX.length:Int))) (call (Z150.R (je x0.aX 0)) fun v3=>(cond v3 (ck (decide ((0:Int)<=(i64.wrap ((x0.aX.length:Int) - 1)))) (ck (decide ((i64.wrap ((x0.aX.length:Int) - 1))<(x0.aX.length:Int))) (call (Z150.R (je x0.aX (toNat (i64.wrap ((x0.aX.length:Int) - 1))))) fun v4=>(cond v4 (call (Z141.R (x0.cC,1,(x0.aX.length:Int))) fun v5=>ret (v5:Bool)) aY)))) aY))) aY)) aY))
def md (a0:aO):Bool:=(cond (Z141.md (a0.aX.length:Int) 1 4) (cond (Z149.md a0.aX) (cond (Z150.md (a0.aX.getD 0 0)) (cond (Z150.md (a0.aX.getD (toNat (i64.wrap ((a0.aX.length:Int) - 1))) 0)) ((Z141.md a0.cC 1 (a0.aX.length:Int)):Bool) (false:Bool)) (false:Bool)) (false:Bool)) (false:Bool))
def gd (a0:aO):Prop:=(aO.Sm (2^21) a0)
def R:=RR gd md
def aj {a0}(h:gd a0):R (aO.r a0)=some (md a0):=aN (a:=a0) h
def aT:=CN [.agg iU] oB RT.dec R
def bt (a0)(hg:gd a0):F (aO.r a0)=ret (md a0):=by
 unfold gd at hg
 have H0:=hg
 unfold F md
 try simp only [SS]
 refine ct (Z141.aj trivial) ?_
 refine au ret (fun c1=>?_) (fun _=>rfl)
 have Dc1:=c1
 try simp [Z141.md] at Dc1
 refine ct (Z149.aj (H0.mono (by decide) (fun x hx=>trivial))) ?_
 refine au ret (fun c2=>?_) (fun _=>rfl)
 refine ak (have:=(H0).1;dt) ?_
 refine ct (Z150.aj trivial) ?_
 refine au ret (fun c3=>?_) (fun _=>rfl)
 refine ak (have:=(H0).1;dt) ?_
 refine ak (have:=(H0).1;dt) ?_
 refine ct (Z150.aj trivial) ?_
 refine au ret (fun c4=>?_) (fun _=>rfl)
 refine ct (Z141.aj trivial) ?_
 all_goals exact fz
def af:cw 290 aT:=W1 38 F mix aE bt (.cons Z141.af (.cons Z149.af (.cons Z150.af .nil))) Tryz.func290
def BJ {l:List Int}(h:∀i:Nat,i<l.length->0<i->l.getD (i - 1) 0<l.getD i 0):∀(k i:Nat),i+k<l.length->l.getD i 0<=l.getD (i+k) 0
 | 0,i,_=>Int.le_refl _
 | k+1,i,hi=>by
  have h1:=BJ h k i (by omega)
  have h2:=h (i+(k+1)) hi (by omega)
  rw [show i+(k+1) - 1=i+k by omega] at h2
  omega
def br (a0:aO):md a0=Z51.md a0:=by
 unfold md Z51.md Z149.md
 simp only [Z141.br,Z150.md]
 by_cases hl:1<=a0.aX.length/\a0.aX.length<=4
 ·have e1:Z47.md (a0.aX.length:Int) 1 4=true:=by simp [Z47.md];omega
  rw [e1]
  have wp:∀i:Nat,0<i->i<=4->toNat (i64.wrap ((i:Int) - 1))=i - 1:=fun i h1 h2=>by
   rw [Go.IntWalk.i64_in _ (by omega)];omega
  rw [wp _ (by omega) (by omega)]
  generalize a0.cC=n
  generalize a0.aX=l at *
  have i1:∀x a b:Int,Z47.md x a b=true↔a<=x/\x<=b:=fun x a b=>by simp [Z47.md]
  have i2:∀x a b:Int,Z47.md x a b=false↔¬(a<=x/\x<=b):=fun x a b=>by rw [<-i1];simp
  have w2:∀i:Nat,i<l.length->0<i->toNat (i64.wrap ((i:Int) - 1))=i - 1:=fun i h1 h2=>wp i h2 (by omega)
  rw [Bool.eq_iff_iff,<-cR (z:=0),<-cR (z:=0)]
  have e3:∀a b c d:Bool,(cond true (cond a (cond b (cond c d false) false) false) false)=true↔a=true/\b=true/\c=true/\d=true:=by
   intro a b c d;cases a<;>cases b<;>cases c<;>simp
  have pos:∀i:Nat,0<i->decide ((i:Int)>0)=true:=fun i h=>by simpa using h
  have npos:∀i:Nat,¬0<i->decide ((i:Int)>0)=false:=fun i h=>by simpa using h
  rw [e3]
  rw [jl (fun i=>0<i->l.getD (i - 1) 0<l.getD i 0) (fun i hi h=>?_) (fun i hi h=>?_),jl (fun i=>(1<=l.getD i 0/\l.getD i 0<=99)/\(0<i->l.getD (i - 1) 0<l.getD i 0)) (fun i hi h=>?_) (fun i hi h=>?_)]
  ·simp only [i1,and_true,bf]
   constructor
   ·rintro ⟨h1,⟨h2,h3⟩,⟨h4,h5⟩,h6⟩
    refine ⟨fun i hi=>⟨⟨?_,?_⟩,h1 i hi⟩,h6⟩
    ·have:=BJ h1 i 0 (by omega)
     rw [Nat.zero_add] at this;omega
    ·have:=BJ h1 (l.length - 1 - i) i (by omega)
     rw [show i+(l.length - 1 - i)=l.length - 1 by omega] at this;omega
   ·rintro ⟨h1,h6⟩
    exact ⟨fun i hi=>(h1 i hi).2,(h1 0 (by omega)).1,(h1 (l.length - 1) (by omega)).1,h6⟩
  ·have e2:=(i1 (l.getD i 0) 1 99).2 h.1
   rw [e2]
   by_cases h0:0<i
   ·have:=h.2 h0
    rw [pos i h0,w2 i hi h0,decide_eq_false (by omega)];rfl
   ·rw [npos i h0];rfl
  ·by_cases h1:1<=l.getD i 0/\l.getD i 0<=99
   ·have e2:=(i1 (l.getD i 0) 1 99).2 h1
    have h0:0<i:=Classical.byContradiction fun hc=>h ⟨h1,fun h=>(hc h).elim⟩
    have h2:¬l.getD (i - 1) 0<l.getD i 0:=fun hc=>h ⟨h1,fun _=>hc⟩
    rw [e2,pos i h0,w2 i hi h0,decide_eq_true (by omega)];rfl
   ·rw [(i2 _ _ _).2 h1];rfl
  ·by_cases h0:0<i
   ·have:=h h0
    rw [pos i h0,w2 i hi h0,decide_eq_false (by omega)];rfl
   ·rw [npos i h0];rfl
  ·have h0:0<i:=Classical.byContradiction fun hc=>h fun h=>(hc h).elim
   have h2:¬l.getD (i - 1) 0<l.getD i 0:=fun hc=>h fun _=>hc
   rw [pos i h0,w2 i hi h0,decide_eq_true (by omega)];rfl
 ·have e1:Z47.md (a0.aX.length:Int) 1 4=false:=by simp [Z47.md];omega
  rw [e1]
  simp only [bq]
  symm
  exact lz (by
   intro i x s b h
   revert h
   simp only [Bool.cond_eq_ite]
   repeat' split
   all_goals (intro h;first | (cases h;rfl) | cases h)) _ _ _
end Z151
namespace Z152
def F (x0:bD):aH:=(cond (x0.cC==0) (ret (((x0.aX.length:Int)==0):Bool)) aY)
def md (a0:aO):Bool:=(cond (a0.cC==0) (((a0.aX.length:Int)==0):Bool) (false:Bool))
def gd (a0:aO):Prop:=True
def R:=RR gd md
def aj {a0}(h:gd a0):R (aO.r a0)=some (md a0):=aN (a:=a0) h
def aT:=CN [.agg iU] oB RT.dec R
def bt (a0)(hg:gd a0):F (aO.r a0)=ret (md a0):=by
 unfold F md
 try simp only [SS]
 refine au ret (fun c1=>?_) (fun _=>rfl)
 all_goals exact fz
def af:cw 293 aT:=W1 12 F mix aE bt .nil Tryz.func293
def br (a0:aO):md a0=Z52.md a0:=by
 unfold md Z52.md
 first
 | (simp only [id];done)
 | (simp only [id];rfl)
 | rfl
end Z152
namespace Z153
def F (x0:bD):aH:=(call (Z152.R x0) fun v1=>(cond v1 ep (call (Z151.R x0) fun v2=>ret (v2:Bool))))
def md (a0:aO):Bool:=(cond (Z152.md a0) (true:Bool) ((Z151.md a0):Bool))
def gd (a0:aO):Prop:=(aO.Sm (2^21) a0)
def R:=RR gd md
def aj {a0}(h:gd a0):R (aO.r a0)=some (md a0):=aN (a:=a0) h
def aT:=CN [.agg iU] oB RT.dec R
def bt (a0)(hg:gd a0):F (aO.r a0)=ret (md a0):=by
 unfold gd at hg
 have H0:=hg
 unfold F md
 try simp only [SS]
 refine ct (Z152.aj trivial) ?_
 refine au ret (fun _=>rfl) (fun c1=>?_)
 refine ct (Z151.aj H0) ?_
 all_goals exact fz
def af:cw 291 aT:=W1 9 F mix aE bt (.cons Z152.af (.cons Z151.af .nil)) Tryz.func291
end Z153
namespace Z154
def F (x0:Int)(x1:bD):aH:=(call (Z152.R x1) fun v1=>(cond v1 (ret ((x0==0):Bool)) (call (Z141.R (x0,1,500)) fun v2=>ret (v2:Bool))))
def md (a0:Int)(a1:aO):Bool:=(cond (Z152.md a1) ((a0==0):Bool) ((Z141.md a0 1 500):Bool))
def gd (a0:Int)(a1:aO):Prop:=True
def R:=RR (p2 gd) (u2 md)
def aj {a0 a1}(h:gd a0 a1):R (a0,(aO.r a1))=some (md a0 a1):=aN (a:=(a0,a1)) h
def aT:=CN [pI,.agg iU] oB RT.dec R
def bt (a0)(a1)(hg:gd a0 a1):F a0 (aO.r a1)=ret (md a0 a1):=by
 unfold F md
 try simp only [SS]
 refine ct (Z152.aj trivial) ?_
 refine au ret (fun c1=>?_) (fun c1=>?_)
 ·all_goals exact fz
 ·refine ct (Z141.aj trivial) ?_
  all_goals exact fz
def af:cw 292 aT:=W2 11 F mix aE bt (.cons Z152.af (.cons Z141.af .nil)) Tryz.func292
end Z154
namespace Z155
def F (x0:bY):aH:=(call (Z147.R x0.bC) fun v1=>(cond v1 (call (Z147.R x0.cW) fun v2=>(cond v2 (call (Z147.R x0.dy) fun v3=>(cond v3 (call (Z141.R (x0.cI,0,200)) fun v4=>(cond v4 (call (Z141.R (x0.bK,1,3)) fun v5=>(cond v5 (call (Z148.R x0) fun v6=>(cond v6 (call (Z141.R (x0.cq,0,12)) fun v7=>(cond v7 (call (Z151.R x0.bQ) fun v8=>(cond v8 (call (Z153.R x0.bB) fun v9=>(cond v9 (call (Z153.R x0.bw) fun v10=>(cond v10 (call (Z154.R (x0.cY,x0.bB)) fun v11=>(cond v11 (cond x0.bE (call (Z152.R x0.bw) fun v12=>ret ((!v12):Bool)) ep) aY)) aY)) aY)) aY)) aY)) aY)) aY)) aY)) aY)) aY)) aY))
def md (a0:aF):Bool:=(cond (Z147.md a0.bC) (cond (Z147.md a0.cW) (cond (Z147.md a0.dy) (cond (Z141.md a0.cI 0 200) (cond (Z141.md a0.bK 1 3) (cond (Z148.md a0) (cond (Z141.md a0.cq 0 12) (cond (Z151.md a0.bQ) (cond (Z153.md a0.bB) (cond (Z153.md a0.bw) (cond (Z154.md a0.cY a0.bB) (cond a0.bE ((!(Z152.md a0.bw)):Bool) (true:Bool)) (false:Bool)) (false:Bool)) (false:Bool)) (false:Bool)) (false:Bool)) (false:Bool)) (false:Bool)) (false:Bool)) (false:Bool)) (false:Bool)) (false:Bool))
def gd (a0:aF):Prop:=(aF.Sm (2^21) a0)
def R:=RR gd md
def aj {a0}(h:gd a0):R (aF.r a0)=some (md a0):=aN (a:=a0) h
def aT:=CN [.agg fW] oB RT.dec R
def bt (a0)(hg:gd a0):F (aF.r a0)=ret (md a0):=by
 unfold gd at hg
 have H0:=hg
 unfold F md
 try simp only [SS]
 refine ct (Z147.aj trivial) ?_
 refine au ret (fun c1=>?_) (fun _=>rfl)
 refine ct (Z147.aj trivial) ?_
 refine au ret (fun c2=>?_) (fun _=>rfl)
 refine ct (Z147.aj trivial) ?_
 refine au ret (fun c3=>?_) (fun _=>rfl)
 refine ct (Z141.aj trivial) ?_
 refine au ret (fun c4=>?_) (fun _=>rfl)
 refine ct (Z141.aj trivial) ?_
 refine au ret (fun c5=>?_) (fun _=>rfl)
 refine ct (Z148.aj trivial) ?_
 refine au ret (fun c6=>?_) (fun _=>rfl)
 refine ct (Z141.aj trivial) ?_
 refine au ret (fun c7=>?_) (fun _=>rfl)
 refine ct (Z151.aj H0.1) ?_
 refine au ret (fun c8=>?_) (fun _=>rfl)
 refine ct (Z153.aj H0.2.1) ?_
 refine au ret (fun c9=>?_) (fun _=>rfl)
 refine ct (Z153.aj H0.2.2) ?_
 refine au ret (fun c10=>?_) (fun _=>rfl)
 refine ct (Z154.aj trivial) ?_
 refine au ret (fun c11=>?_) (fun _=>rfl)
 refine au ret (fun c12=>?_) (fun _=>rfl)
 refine ct (Z152.aj trivial) ?_
 all_goals exact fz
def af:cw 269 aT:=W1 67 F mix aE bt (.cons Z147.af (.cons Z141.af (.cons Z148.af (.cons Z151.af (.cons Z153.af (.cons Z154.af (.cons Z152.af .nil))))))) Tryz.func269
def br (a0:aF):md a0=Z53.md a0:=by
 unfold md Z53.md
 simp only [Z151.br,Z141.br,Z147.md,Z153.md,Z154.md,Z152.br]
 have hs:Z148.md a0=(Z47.md a0.cG 0 100000&&(Z47.md a0.cz a0.cG 100000&&!decide ((i64.wrap (a0.cz - a0.cG))>200))):=by
  rw [Bool.eq_iff_iff]
  simp [Z148.md,Z47.md]
  omega
 have hk:Z51.md a0.bw=true->Z52.md a0.bw=false:=fun h=>by
  have:=Z51.tr h
  have e:((a0.bw.aX.length:Int)==0)=false:=beq_eq_false_iff_ne.2 (by omega)
  unfold Z52.md
  rw [e]
  cases a0.bw.cC==0<;>rfl
 rw [hs]
 revert hk
 simp only [AW,zW,Bool.and_assoc]
 generalize Z47.md a0.bC 0 2147483646=b1
 generalize Z47.md a0.cW 0 2147483646=b2
 generalize Z47.md a0.dy 0 2147483646=b3
 generalize Z47.md a0.cI 0 200=b4
 generalize Z47.md a0.bK 1 3=b5
 generalize Z47.md a0.cG 0 100000=b6
 generalize Z47.md a0.cz a0.cG 100000=b7
 generalize decide ((i64.wrap (a0.cz - a0.cG))>200)=b8
 generalize Z47.md a0.cq 0 12=b9
 generalize Z51.md a0.bQ=b10
 generalize Z51.md a0.bB=kh
 generalize Z52.md a0.bB=nh
 generalize Z51.md a0.bw=kj
 generalize Z52.md a0.bw=nj
 generalize Z47.md a0.cY 1 500=lw
 have hw:(a0.cY != 0)=!(a0.cY==0):=rfl
 rw [hw]
 generalize (a0.cY==0)=w0
 generalize a0.bE=fz
 intro hk
 cases b1;· rfl
 cases b2;· rfl
 cases b3;· rfl
 cases b4;· rfl
 cases b5;· rfl
 cases b6;· rfl
 cases b7;· rfl
 cases b8;rotate_left;· rfl
 cases b9;· rfl
 cases b10;· rfl
 revert hk
 revert kh nh kj nj lw w0 fz
 decide
end Z155
namespace Z156
def F (x0:bD):aH:=(ck (eT (((2:Int)+(x0.aX.length:Int))*8)) (ret (([[L.int x0.cC],[L.int (x0.aX.length:Int)]]++x0.aX):aC)))
def md (a0:aO):List Int:=([a0.cC,(a0.aX.length:Int)]++a0.aX)
def gd (a0:aO):Prop:=(aO.Sm (2^21) a0)
def R:=RR gd md
def aj {a0}(h:gd a0):R (aO.r a0)=some ((md a0).map bh):=aN (a:=a0) h
def aT:=CN [.agg iU] (oL 3) RT.dec R
def bt (a0)(hg:gd a0):F (aO.r a0)=ret ((md a0).map bh):=by
 unfold gd at hg
 have H0:=hg
 unfold F md
 try simp only [SS]
 refine ak (have:=(H0).1;lm) ?_
 all_goals exact fz
def af:cw 294 aT:=W1 12 F mix aE bt .nil Tryz.func294
def len (a0:aO):(md a0).length=2+a0.aX.length:=by simp [md];omega
def br (a0:aO):md a0=Z54.md a0:=by
 unfold md Z54.md
 first
 | (simp only [id];done)
 | (simp only [id];rfl)
 | rfl
end Z156
namespace Z157
def F (x0 x1:Int):aH:=(call (Z141.R (x1,1,1000000000000)) fun v1=>(cond (!v1) (ret (0:Int)) (cond (decide (x1=0)) none (cond (decide (x1=0)) none (ret ((Int.tmod (i64.wrap ((Int.tmod x0 x1)+x1)) x1):Int))))))
def md (a0 a1:Int):Int:=(cond (!(Z141.md a1 1 1000000000000)) (0:Int) ((Int.tmod (i64.wrap ((Int.tmod a0 a1)+a1)) a1):Int))
def gd (a0 a1:Int):Prop:=True
def R:=RR (p2 gd) (u2 md)
def aj {a0 a1}(h:gd a0 a1):R (a0,a1)=some (md a0 a1):=aN (a:=(a0,a1)) h
def aT:=CN [pI,pI] oI RT.dec R
def bt (a0)(a1)(hg:gd a0 a1):F a0 a1=ret (md a0 a1):=by
 unfold F md
 try simp only [SS]
 refine ct (Z141.aj trivial) ?_
 refine au ret (fun _=>rfl) (fun c1=>?_)
 have dc1:=c1
 try simp only [DC] at dc1
 have Dc1:=c1
 try simp [Z141.md] at Dc1
 refine cN df ?_
 refine cN df ?_
 all_goals exact fz
def af:cw 303 aT:=W2 15 F mix aE bt (.cons Z141.af .nil) Tryz.func303
def br (a0 a1:Int):md a0 a1=Z55.md a0 a1:=by
 unfold md Z55.md
 first
 | (simp only [Z141.br];done)
 | (simp only [Z141.br];rfl)
 | rfl
end Z157
namespace Z158
inductive Pt where
 | p0 (a:Int) (b:aC) (c d:Int)
def pid:Pt->Nat
 | .p0 ..=>3
def cg:Pt->List V
 | .p0 a b c d=>[.int .i64 a,.sl none 3 b,.int .i64 c,.int .i64 d]
def bZ:Pt->List aW
 | .p0 a b c d=>[]
def step (J:Pt->aH):Pt->aH
 | .p0 a b c d=>(cond (decide (d<c)) (m2 d (b.length:Int) (call (Z157.R ((je b (toNat d)),2147483647)) fun v1=>J (.p0 (Int.tmod (i64.wrap ((i64.wrap ((i64.wrap (a*1000003))+v1))+13)) 2147483647) b c (i64.wrap (d+1))))) (ret (a:Int)))
def start (J:Pt->aH)(x0:aC):aH:=J (.p0 11 x0 (x0.length:Int) 0)
def live:Nat->Live:=fun i=>match i with | 3=>[(3,none),(6,none),(7,none),(8,none)] | _=>[]
def md (a0:List Int):Int:=(dX (S:=Int) (β:=Int) (fun (y1:Int) (s3:Int)=>(.inl (Int.tmod (i64.wrap ((i64.wrap ((i64.wrap (s3*1000003))+(Z157.md y1 2147483647)))+13)) 2147483647))) (fun (s3:Int)=>(s3:Int)) a0 11)
def gd (a0:List Int):Prop:=(bL (2^43) (fun y:Int=>True) a0)
def R:=RR gd md
def aj {a0}(h:gd a0):R (a0.map bh)=some (md a0):=aN (a:=a0) h
def aT:=CN [pL 3] oI RT.dec R
def bt (a0)(hg:gd a0):∃n,start (iter step n) (a0.map bh)=ret (md a0):=by
 unfold gd at hg
 have H0:=hg
 unfold start md
 try simp only [SS]
 have Bh2:a0.length<=maxLen:=(by
   have:=(H0).1
   try simp only [maxLen] at *
   omega)
 refine ex_eq (out:=ret) (eG (z:=0)) ?_
 refine dK (p:=Pt.p0 11 (a0.map bh) (a0.length:Int) 0) fz ?_
 refine cj (pt:=fun (i1:Nat) (s3:Int)=>Pt.p0 s3 (a0.map bh) (a0.length:Int) (i1:Int)) (s:=(11:Int)) (out:=ret) (fun _ _=>True) (fun J i1 s3 h2 hih2=>?_) (fun s3 hih2=>?_) trivial
 ·simp only [step,SS]
  have bb_:=Bh2
  simp only [maxLen] at bb_
  have:=(H0).1
  refine bz.yes (by apply decide_eq_true;omega) ?_
  refine bz.yes aI ?_
  refine bz.yes (aL h2) ?_
  refine cr (Z157.aj trivial) ?_
  refine bz.inl trivial ?_
  rw [aG h2 Bh2]
  all_goals exact fz
 ·simp only [step,SS]
  have:=(H0).1
  refine dx (by apply decide_eq_false;omega) ?_
  refine ⟨0,?_⟩
  all_goals exact fz
def af:cw 279 aT:=L1 21 pid cg bZ live step start mix aE bt (.cons Z157.af .nil) Tryz.func279
def br (a0:List Int):md a0=Z56.md a0:=by
 unfold md Z56.md
 first
 | (simp only [Z157.br];done)
 | (simp only [Z157.br];rfl)
 | rfl
end Z158
namespace Z159
def F (x0:bD)(x1:Int):aH:=(call (Z156.R x0) fun v1=>(ck (eT (((2:Int)+(v1.length:Int))*8)) (call (Z158.R ([[L.int 239],[L.int x1]]++v1)) fun v2=>ret (v2:Int))))
def md (a0:aO)(a1:Int):Int:=((Z158.md ([239,a1]++(Z156.md a0))):Int)
def gd (a0:aO)(a1:Int):Prop:=(aO.Sm (2^21) a0)
def R:=RR (p2 gd) (u2 md)
def aj {a0 a1}(h:gd a0 a1):R ((aO.r a0),a1)=some (md a0 a1):=aN (a:=(a0,a1)) h
def aT:=CN [.agg iU,pI] oI RT.dec R
def bt (a0)(a1)(hg:gd a0 a1):F (aO.r a0) a1=ret (md a0 a1):=by
 unfold gd at hg
 have H0:=hg
 unfold F md
 try simp only [SS]
 refine ct (Z156.aj H0) ?_
 try simp only [SS]
 refine ak (have:=Z156.len a0;have:=(H0).1;lm) ?_
 refine aZ (Z158.md ([239,a1]++(Z156.md a0))) (rq (Z158.aj (a0:=([239,a1]++(Z156.md a0))) ⟨(have:=Z156.len a0;have:=(H0).1;om),fun _ _=>trivial⟩)) ?_
 all_goals exact fz
def af:cw 270 aT:=W2 11 F mix aE bt (.cons Z156.af (.cons Z158.af .nil)) Tryz.func270
def br (a0:aO)(a1:Int):md a0 a1=Z57.md a0 a1:=by
 unfold md Z57.md
 first
 | (simp only [Z156.br,Z158.br];done)
 | (simp only [Z156.br,Z158.br];rfl)
 | rfl
end Z159
namespace Z160
def F (x0:Bool):aH:=(cond x0 (ret (1:Int)) (ret (0:Int)))
def md (a0:Bool):Int:=(cond a0 (1:Int) (0:Int))
def gd (a0:Bool):Prop:=True
def R:=RR gd md
def aj {a0}(h:gd a0):R a0=some (md a0):=aN (a:=a0) h
def aT:=CN [pB] oI RT.dec R
def bt (a0)(hg:gd a0):F a0=ret (md a0):=by
 unfold F md
 try simp only [SS]
 refine au ret (fun _=>rfl) (fun _=>rfl)
def af:cw 301 aT:=W1 4 F mix aE bt .nil Tryz.func301
end Z160
namespace Z161
set_option maxHeartbeats 1000000 in
set_option maxRecDepth 100000 in
open Go.RowKit in
def Af (b:Option Addr)(w:World):Calls Tryz.prog 312 #[.slice b 0 0,.int .i64 0] w fun e w'=>e=.returned (.slice b 0 0)/\w'=w:=by
 go_enter Tryz.func312,Tryz.ntmps312
 go_wp2
 go_ret
 exact ⟨rfl,rfl⟩
def A3:Tryz.t3.size=1:=by kernel_rfl
def xT:Tryz.t3.bytes=8:=by kernel_rfl
set_option maxHeartbeats 1000000 in
set_option maxRecDepth 100000 in
open Go.RowKit in
def Ab (b:Option Addr)(n:Nat)(w:World)(h0:0<n)(h1:n*8<=140737488355328):Calls Tryz.prog 312 #[.slice b 0 0,.int .i64 n] w fun e w'=>e=.returned (.slice (some ⟨w.heap.size,0,none⟩) 0 (grownCap w n 0 3))/\w'=(w.drew.alloc (.cells (Builtin.zeroCells #[.int .i64 0] n++Builtin.zeroCells #[.int .i64 0] (grownCap w n 0 3 - n)) 3)):=by
 have hp:(0:Int)<n:=by omega
 have hnn:¬((n:Int)<0):=by omega
 have hold:(Builtin.firstCells Tryz.t3.size 0 (.slice b 0 0)).run Tryz.prog w.drew=.ok ([]:List Value).toArray w.drew:=by
  cases b with
  | none=>exact run_firstCells_none _ _ _ _ _
  | some b=>exact run_firstCells_some _ _ _ _ _ _ [] (by simp) (fun j v hj=>by simp at hj)
 have H:=fun ty=>Lib.run_append_grow_zeros (P:=Tryz.prog) w 58 3 ty 3 Tryz.t3 (.int .i64 0) .i64 .i64 (by kernel_rfl) (by kernel_rfl) (by kernel_rfl) (by kernel_rfl) b 0 0 [] hold n h0 (by rw [A3];omega) (by omega) (by omega) (by rw [xT];omega) (by
  rw [Nat.zero_add,nextslicecap_zero h0,xT];omega)
 simp only [Nat.zero_add,Array.empty_append] at H
 have H2:=Lib.hid H
 clear H hold
 go_enter Tryz.func312,Tryz.ntmps312
 go_wp2_with (at_builtin;refine Lib.wpList_append_run _ rfl _ _ _ _ rfl _ _ rfl rfl _ _ (H2.out _) ?_)
 go_ret
 exact ⟨rfl,rfl⟩
def R (x0:Int):Option (aC):=bif decide (0<=x0)&&decide (x0*8<=140737488355328) then some [] else none
def aj {a0:Int}(h:0<=a0/\a0*8<=140737488355328):R a0=some []:=by simp [R,h.1,h.2]
def sem:List L->Option (List L)
 | [y0]=>(R y0.toInt).map RT.enc
 | _=>none
def aT:fQ:=⟨[.nil,.rd (.int .i64)],.one (.fr 3),sem⟩
def Ai:Ev.cells 3=[aD]:=by kernel_rfl
def af:cw 312 aT:=by
 refine wC ⟨Tryz.f312,Tryz.func312,by kernel_rfl,by kernel_rfl⟩ rfl fun ls r w vs Z hs hf=>?_
 simp only [aT] at hs
 unfold sem at hs
 split at hs
 ·rename_i y
  obtain ⟨v,hv,hq⟩:=map_some hs
  unfold R at hv
  cases hc:(decide (0<=y.toInt)&&decide (y.toInt*8<=140737488355328))<;>simp only [hc,bf,bq] at hv
  ·cases hv
  injection hv with hv
  subst hv
  subst hq
  simp only [Bool.and_eq_true,decide_eq_true_eq] at hc
  cases hf with
  | cons h1 ht=>
   cases ht with
   | cons h2 ht=>
    cases ht
    obtain ⟨b,rfl⟩:=(show V0 Ev.cells w (A0 Z w) .nil _ from h1)
    have e2:_=Value.int .i64 y.toInt:=h2
    subst e2
    obtain ⟨n,hn⟩:∃n:Nat,y.toInt=n:=⟨y.toInt.toNat,by omega⟩
    rw [hn] at hc ⊢
    rcases Nat.eq_zero_or_pos n with h0 | h0
    ·subst h0
     exact (Af b w).mono fun e w' ⟨h3,h4⟩=>⟨_,fun _=>False,h3,by rw [h4];exact Fr.refl _ _,fun b hb=>hb.elim,.nil _ _ _ _ rfl⟩
    ·refine (Ab b n w h0 (by omega)).mono fun e w' ⟨h3,h4⟩=>⟨_,fun b=>b=w.heap.size,h3,?_,fun b hb=>?_,?_⟩
     ·rw [h4];exact ((Fr.refl w _).drew).alloc _
     ·subst hb;rw [h4];simp
     ·have hge:=grownCap_ge w n 0 3
      have hle:grownCap w n 0 3<=maxLen:=grownCap_le_maxLen w n 0 3 (by simp only [maxLen];omega)
      rw [h4]
      refine .sl _ 3 0 _ w.heap.size 3 _ _ (fun _ _=>Go.undef) (fun _ _ _=>False) rfl (zero_le _) hle (heap_alloc_new w.drew _) ?_ rfl (fun _ _ _ h=>h.elim) (fun _ _ _ _ _ h=>h.elim) (fun i j k hi=>by omega) (fun i j k hi=>by omega)
      rw [Ai]
      simp only [Array.size_append,size_zeroCells,List.length_singleton]
      simp
      omega
 ·cases hs
end Z161
namespace Z162
inductive Pt where
 | p0 (a:aC) (b:Int) (c:aC) (d e:Int)
 | p1 (a:aC) (b c:Int) (d:aC)
def pid:Pt->Nat
 | .p0 ..=>3
 | .p1 ..=>11
def cg:Pt->List V
 | .p0 a b c d e=>[.sl none 58 a,.int .i64 b,.sl none 58 c,.int .i64 d,.int .i64 e]
 | .p1 a b c d=>[.own 0,.sl none 58 a,.int .i64 b,.int .i64 c]
def bZ:Pt->List aW
 | .p0 a b c d e=>[]
 | .p1 a b c d=>[.row 3 d]
def step (J:Pt->aH):Pt->aH
 | .p0 a b c d e=>(cond (decide (e<d)) (m2 e (c.length:Int) (cond (decide ((i64.wrap (b+((og c (toNat e)).length:Int)))<0)) none (J (.p0 a (i64.wrap (b+((og c (toNat e)).length:Int))) c d (i64.wrap (e+1)))))) (call (Z161.R b) fun v1=>J (.p1 a (a.length:Int) 0 v1)))
 | .p1 a b c d=>(cond (decide (c<b)) (m2 c (a.length:Int) (ck (eT (((d.length:Int)+((og a (toNat c)).length:Int))*8)) (J (.p1 a b (i64.wrap (c+1)) (d++(og a (toNat c))))))) (ret (d:aC)))
def start (J:Pt->aH)(x0:aC):aH:=J (.p0 x0 0 x0 (x0.length:Int) 0)
def live:Nat->Live:=fun i=>match i with | 3=>[(0,none),(3,none),(9,none),(10,none),(11,none)] | 11=>[(6,none),(25,none),(26,none),(27,none)] | _=>[]
def md (a0:List (List Int)):List Int:=a0.flatten
def gd (a0:List (List Int)):Prop:=a0.length<=8/\∀x∈a0,x.length<=2^40
def R:=RR gd md
def aj {a0}(h:gd a0):R (a0.map (dG bh))=some ((md a0).map bh):=aN (a:=a0) h
def aT:=CN [pL 58] (oL 3) RT.dec R
def bt (a0)(hg:gd a0):∃n,start (iter step n) (a0.map (dG bh))=ret ((md a0).map bh):=by
 obtain ⟨hl,hx⟩:=hg
 have hs:∀i,i<=a0.length->((a0.take i).map List.length).sum<=i*2^40:=by
  intro i
  induction i with
  | zero=>intro _;simp
  | succ i ih=>
   intro hi
   rw [List.take_succ_eq_append_getElem (by omega)]
   have h1:=hx a0[i] (List.getElem_mem _)
   have h2:=ih (by omega)
   simp only [List.map_append,List.map_cons,List.map_nil,List.sum_append,List.sum_cons,List.sum_nil]
   omega
 have hstep:∀i (h:i<a0.length),((a0.take (i+1)).map List.length).sum=((a0.take i).map List.length).sum+a0[i].length:=by
  intro i hi
  rw [List.take_succ_eq_append_getElem (by omega)]
  simp only [List.map_append,List.map_cons,List.map_nil,List.sum_append,List.sum_cons,List.sum_nil]
  omega
 have hf:∀i,(a0.take i).flatten.length=((a0.take i).map List.length).sum:=fun i=>List.length_flatten
 have second:∀k i,i+k=a0.length->∃n,iter step n (Pt.p1 (a0.map (dG bh)) (a0.length:Int) (i:Int) ((a0.take i).flatten.map bh))=ret (a0.flatten.map bh:aC):=by
  intro k
  induction k with
  | zero=>
   intro i hi
   obtain rfl:i=a0.length:=by omega
   refine ⟨1,?_⟩
   show step (iter step 0) (Pt.p1 _ _ _ _)=_
   simp only [step]
   refine cN (by simp) ?_
   rw [List.take_length]
  | succ k ih=>
   intro i hi
   obtain ⟨n,hn⟩:=ih (i+1) (by omega)
   refine ⟨n+1,?_⟩
   show step (iter step n) (Pt.p1 _ _ _ _)=_
   have hlt:i<a0.length:=by omega
   have b1:=hs (i+1) (by omega)
   have b2:=hstep i hlt
   simp only [step,List.length_map,cB,qF]
   refine ak (by simp;omega) (ak (by simp) (ak (by simp;omega) (ak (iJ ?_) ?_)))
   ·rw [eK hlt,hf];omega
   ·rw [aG hlt (by simp only [maxLen];omega),eK hlt,<-List.map_append]
    have e:(a0.take i).flatten++a0[i]=(a0.take (i+1)).flatten:=by
     rw [List.take_succ_eq_append_getElem (by omega)]
     simp only [List.flatten_append,List.flatten_cons,List.flatten_nil,List.append_nil]
    rw [e];exact hn
 have first:∀k i,i+k=a0.length->∃n,iter step n (Pt.p0 (a0.map (dG bh)) ((((a0.take i).map List.length).sum:Nat):Int) (a0.map (dG bh)) (a0.length:Int) (i:Int))=ret (a0.flatten.map bh:aC):=by
  intro k
  induction k with
  | zero=>
   intro i hi
   obtain rfl:i=a0.length:=by omega
   obtain ⟨n,hn⟩:=second a0.length 0 (by omega)
   refine ⟨n+1,?_⟩
   show step (iter step n) (Pt.p0 _ _ _ _ _)=_
   have b1:=hs a0.length (by omega)
   simp only [step]
   refine cN (by simp) (aZ [] (Z161.aj ⟨by omega,by omega⟩) ?_)
   simpa using hn
  | succ k ih=>
   intro i hi
   obtain ⟨n,hn⟩:=ih (i+1) (by omega)
   refine ⟨n+1,?_⟩
   show step (iter step n) (Pt.p0 _ _ _ _ _)=_
   have hlt:i<a0.length:=by omega
   have b1:=hs (i+1) (by omega)
   have b2:=hstep i hlt
   simp only [step,List.length_map,cB,qF,eK hlt]
   have e:i64.wrap (((((a0.take i).map List.length).sum:Nat):Int)+(a0[i].length:Int))=((((a0.take (i+1)).map List.length).sum:Nat):Int):=by
    rw [Go.IntWalk.i64_in _ (by omega)];omega
   rw [e]
   refine ak (by simp;omega) (ak (by simp) (ak (by simp;omega) (cN (by simp) ?_)))
   rw [aG hlt (by simp only [maxLen];omega)]
   exact hn
 unfold md
 obtain ⟨n,hn⟩:=first a0.length 0 (by omega)
 refine ⟨n,?_⟩
 unfold start
 simpa using hn
def af:cw 300 aT:=L1 36 pid cg bZ live step start mix aE bt (.cons Z161.af .nil) Tryz.func300
def len (a0:List (List Int)):(md a0).length=(a0.map List.length).sum:=by simp [md]
end Z162
namespace Z163
def F (x0:bY):aH:=(call (Z156.R x0.bQ) fun v1=>(call (Z156.R x0.bB) fun v2=>(call (Z156.R x0.bw) fun v3=>(call (Z160.R x0.bE) fun v4=>(call (Z162.R [[L.sl [[L.int x0.bC],[L.int x0.cI],[L.int x0.bK],[L.int x0.cG],[L.int x0.cz],[L.int x0.cq],[L.int x0.cW],[L.int x0.dy]]],[L.sl v1],[L.sl v2],[L.sl [[L.int x0.cY]]],[L.sl v3],[L.sl [[L.int v4]]]]) fun v5=>ret (v5:aC))))))
def md (a0:aF):List Int:=(Z162.md [[a0.bC,a0.cI,a0.bK,a0.cG,a0.cz,a0.cq,a0.cW,a0.dy],(Z156.md a0.bQ),(Z156.md a0.bB),[a0.cY],(Z156.md a0.bw),[(Z160.md a0.bE)]])
def gd (a0:aF):Prop:=(aF.Sm (2^21) a0)
def R:=RR gd md
def aj {a0}(h:gd a0):R (aF.r a0)=some ((md a0).map bh):=aN (a:=a0) h
def aT:=CN [.agg fW] (oL 3) RT.dec R
def bt (a0)(hg:gd a0):F (aF.r a0)=ret ((md a0).map bh):=by
 unfold gd at hg
 have H0:=hg
 unfold F md
 try simp only [SS]
 refine ct (Z156.aj H0.1) ?_
 try simp only [SS]
 refine ct (Z156.aj H0.2.1) ?_
 try simp only [SS]
 refine ct (Z156.aj H0.2.2) ?_
 try simp only [SS]
 refine ct (Z160.aj trivial) ?_
 refine aZ ((Z162.md [[a0.bC,a0.cI,a0.bK,a0.cG,a0.cz,a0.cq,a0.cW,a0.dy],(Z156.md a0.bQ),(Z156.md a0.bB),[a0.cY],(Z156.md a0.bw),[(Z160.md a0.bE)]]).map bh) (rq (Z162.aj (a0:=[[a0.bC,a0.cI,a0.bK,a0.cG,a0.cz,a0.cq,a0.cW,a0.dy],(Z156.md a0.bQ),(Z156.md a0.bB),[a0.cY],(Z156.md a0.bw),[(Z160.md a0.bE)]]) ⟨(by simp),(by
   have:=Z156.len a0.bQ
   have:=(H0.1).1
   have:=Z156.len a0.bB
   have:=(H0.2.1).1
   have:=Z156.len a0.bw
   have:=(H0.2.2).1
   intro x_ hx_
   simp only [List.mem_cons,List.not_mem_nil,or_false] at hx_
   rcases hx_ with hx_ | hx_ | hx_ | hx_ | hx_ | hx_
   all_goals (subst hx_;first | omega | (simp only [LN];omega)))⟩)) ?_
 try simp only [SS]
 all_goals exact fz
def af:cw 275 aT:=W1 38 F mix aE bt (.cons Z156.af (.cons Z160.af (.cons Z162.af .nil))) Tryz.func275
def len (a0:aF):(md a0).length=16+a0.bQ.aX.length+a0.bB.aX.length+a0.bw.aX.length:=by unfold md;simp [Z162.md,Z156.len];omega
def br (a0:aF):md a0=Z58.md a0:=by
 rw [Z58.tu]
 unfold md Z162.md
 simp only [Z156.br,Z160.md,List.flatten_cons,List.flatten_nil,List.cons_append,List.nil_append,List.append_nil]
end Z163
namespace Z164
def F (x0:Int)(x1:aC):aH:=(call (Z162.R [[L.sl [[L.int x0]]],[L.sl x1],[L.sl [[L.int x0]]]]) fun v1=>(call (Z158.R v1) fun v2=>ret (v2:Int)))
def md (a0:Int)(a1:List Int):Int:=((Z158.md (Z162.md [[a0],a1,[a0]])):Int)
def gd (a0:Int)(a1:List Int):Prop:=(bL (2^40) (fun y:Int=>True) a1)
def R:=RR (p2 gd) (u2 md)
def aj {a0 a1}(h:gd a0 a1):R (a0,(a1.map bh))=some (md a0 a1):=aN (a:=(a0,a1)) h
def aT:=CN [pI,pL 3] oI RT.dec R
def bt (a0)(a1)(hg:gd a0 a1):F a0 (a1.map bh)=ret (md a0 a1):=by
 unfold gd at hg
 have H1:=hg
 unfold F md
 try simp only [SS]
 refine aZ ((Z162.md [[a0],a1,[a0]]).map bh) (rq (Z162.aj (a0:=[[a0],a1,[a0]]) ⟨(by simp),(by
   have:=(H1).1
   intro x_ hx_
   simp only [List.mem_cons,List.not_mem_nil,or_false] at hx_
   rcases hx_ with hx_ | hx_ | hx_
   all_goals (subst hx_;first | omega | (simp only [LN];omega)))⟩)) ?_
 try simp only [SS]
 refine ct (Z158.aj ⟨(by
   have:=Z162.len [[a0],a1,[a0]]
   try simp only [LN] at this
   have:=(H1).1
   exact om),fun _ _=>trivial⟩) ?_
 all_goals exact fz
def af:cw 321 aT:=W2 13 F mix aE bt (.cons Z162.af (.cons Z158.af .nil)) Tryz.func321
def br (a0:Int)(a1:List Int):md a0 a1=Z59.md a0 a1:=by
 unfold md Z59.md
 first
 | (simp only [Z158.br];done)
 | (simp only [Z158.br];rfl)
 | rfl
end Z164
namespace Z165
def F (x0:Int)(x1:aC):aH:=(ck (eT (((1:Int)+(x1.length:Int))*8)) (call (Z164.R (x0,([[L.int 223]]++x1))) fun v1=>ret (v1:Int)))
def md (a0:Int)(a1:List Int):Int:=((Z164.md a0 ([223]++a1)):Int)
def gd (a0:Int)(a1:List Int):Prop:=(bL (2^39) (fun y:Int=>True) a1)
def R:=RR (p2 gd) (u2 md)
def aj {a0 a1}(h:gd a0 a1):R (a0,(a1.map bh))=some (md a0 a1):=aN (a:=(a0,a1)) h
def aT:=CN [pI,pL 3] oI RT.dec R
def bt (a0)(a1)(hg:gd a0 a1):F a0 (a1.map bh)=ret (md a0 a1):=by
 unfold gd at hg
 have H1:=hg
 unfold F md
 try simp only [SS]
 refine ak (have:=(H1).1;lm) ?_
 refine aZ (Z164.md a0 ([223]++a1)) (rq (Z164.aj (a0:=a0) (a1:=([223]++a1)) ⟨(have:=(H1).1;om),fun _ _=>trivial⟩)) ?_
 all_goals exact fz
def af:cw 320 aT:=W2 10 F mix aE bt (.cons Z164.af .nil) Tryz.func320
def br (a0:Int)(a1:List Int):md a0 a1=Z60.md a0 a1:=by
 unfold md Z60.md
 first
 | (simp only [Z164.br];done)
 | (simp only [Z164.br];rfl)
 | rfl
end Z165
namespace Z166
def F (x0:bn)(x1:aC):aH:=(call (Z150.R x0.gJ) fun v1=>(cond v1 (call (Z165.R (x0.gJ,x1)) fun v2=>ret ((x0.jq==v2):Bool)) aY))
def md (a0:bn)(a1:List Int):Bool:=(cond (Z150.md a0.gJ) ((a0.jq==(Z165.md a0.gJ a1)):Bool) (false:Bool))
def gd (a0:bn)(a1:List Int):Prop:=(bL (2^38) (fun y:Int=>True) a1)
def R:=RR (p2 gd) (u2 md)
def aj {a0 a1}(h:gd a0 a1):R (a0,(a1.map bh))=some (md a0 a1):=aN (a:=(a0,a1)) h
def aT:=CN [.agg yN,pL 3] oB RT.dec R
def bt (a0)(a1)(hg:gd a0 a1):F a0 (a1.map bh)=ret (md a0 a1):=by
 unfold gd at hg
 have H1:=hg
 unfold F md
 try simp only [SS]
 refine ct (Z150.aj trivial) ?_
 refine au ret (fun c1=>?_) (fun _=>rfl)
 refine ct (Z165.aj (H1.mono (by decide) (fun x hx=>trivial))) ?_
 all_goals exact fz
def af:cw 318 aT:=W2 17 F mix aE bt (.cons Z150.af (.cons Z165.af .nil)) Tryz.func318
def br (a0:bn)(a1:List Int):md a0 a1=Z61.md a0 a1:=by
 unfold md Z61.md
 first
 | (simp only [Z165.br];done)
 | (simp only [Z165.br];rfl)
 | rfl
end Z166
namespace Z167
def F (x0:bn)(x1 x2:List L):aH:=(cond (x0.gJ==(gm x1)) (call (Z166.R (x0,(mh x2))) fun v1=>ret (v1:Bool)) aY)
def pats:List fY:=[.agg [aD,aD],.ptr [aD],.ptr [.sl 3]]
def res:RP:=.one (.rd (.bool))
def md (a0:bn)(a1:Int)(a2:List Int):Bool:=(cond (a0.gJ==a1) ((Z166.md a0 a2):Bool) (false:Bool))
def gd (a0:bn)(a1:Int)(a2:List Int):Prop:=(bL (2^38) (fun y:Int=>True) a2)
def acc (ls:List L):bn×Int×aC:=((bn.dec ls),(gm (cH 1 (aA 2 ls))),(mh (cH 1 (aA 3 ls))))
def R:(bn×Int×aC)->Option Bool:=RR (p3 gd) (u3 md)
def aj {a0 a1 a2}(h:gd a0 a1 a2):R (a0,a1,(a2.map bh))=some (md a0 a1 a2):=aN (a:=(a0,a1,a2)) h
def aT:fQ:=CN pats res acc R
def bt (a0:bn)(a1:Int)(a2:List Int)(p1 p2:List L)(e1:a1=(gm p1))(e2:(a2.map bh)=(mh p2))(hg:gd a0 a1 a2):F a0 p1 p2=ret ((md a0 a1 a2):Bool):=by
 unfold gd at hg
 have H2:=hg
 unfold F md
 try simp only [SS,<-e1,<-e2]
 refine au ret (fun c1=>?_) (fun _=>rfl)
 refine ct (Z166.aj H2) ?_
 all_goals exact fz
def mB (ls:List L)(a:bn×Int×List Int)(e:acc ls=Im.im a)(hg:(p3 gd) a):∃n:Nat,F (bn.dec ls) (cH 1 (aA 2 ls)) (cH 1 (aA 3 ls))=ret (Im.im ((u3 md) a)):=by
 have e0:a.1=(bn.dec ls):=(congrArg (fun x=>x.1) e.symm)
 have hn:=bt a.1 a.2.1 a.2.2 (cH 1 (aA 2 ls)) (cH 1 (aA 3 ls)) (congrArg (fun x=>x.2.1) e.symm) (congrArg (fun x=>x.2.2) e.symm) hg
 refine ⟨0,?_⟩
 rw [<-e0]
 exact hn
def af:cw 317 aT:=VP (live:=fun _=>[]) (nt:=14) (accr:=fun ls=>((bn.dec ls),(cH 1 (aA 2 ls)),(cH 1 (aA 3 ls)))) (run:=fun _ x=>F x.1 x.2.1 x.2.2) mix aE (.cons Z166.af .nil) Tryz.func317 (by kernel_rfl) (fun _ _=>by kernel_rfl) (fun ls a _ e hg=>mB ls a e hg)
end Z167
namespace Z168
inductive Pt where
 | p0 (a:aC) (b c:List L) (d e:Int)
def pid:Pt->Nat
 | .p0 ..=>2
def cg:Pt->List V
 | .p0 a b c d e=>[.sl none 190 a,.fn 317 [.dF none [aD] b 0,.dF none [.sl 3] c 0],.int .i64 d,.int .i64 e]
def bZ:Pt->List aW
 | .p0 a b c d e=>[]
def step (J:Pt->aH):Pt->aH
 | .p0 a b c d e=>(cond (decide (e<d)) (m2 e (a.length:Int) (call (Z167.R ((bn.at a (toNat e)),(gm b),(mh c))) fun v1=>(cond v1 (ret (e:Int)) (J (.p0 a b c d (i64.wrap (e+1))))))) (ret ((-1):Int)))
def start (J:Pt->aH)(x0:aC)(x1 x2:List L):aH:=J (.p0 x0 x1 x2 (x0.length:Int) 0)
def live:Nat->Live:=fun i=>match i with | 2=>[(0,none),(1,none),(7,none),(8,none)] | _=>[]
def pats:List fY:=[.rd (.sl 190),.fn 317 [[aD],[.sl 3]]]
def res:RP:=.one (.rd (.int .i64))
abbrev E:Env:={ T:=assoc kL,G:=dw [(317,Z167.aT)],nt:=19 }
def step_eq (I:cD)(p:Pt):cT E live I (pid p) (bO Tryz.f319) (fq (live (pid p)) (cg p) (bZ p)) (cE E Tryz.f319 res)=step (fun q=>I (pid q) (cg q) (bZ q)) p:=by
 cases p<;>kernel_rfl
def start_eq (I:cD)(ls:List L):eP E live I (bO Tryz.f319) (cV pats ls) (cE E Tryz.f319 res)=start (fun q=>I (pid q) (cg q) (bZ q)) (ls.headD .hole).aP (cH 1 (aA 1 ls)) (cH 1 (aA 2 ls)):=by kernel_rfl
def run_eq (n:Nat)(ls:List L):eJ E live Tryz.f319 res n (cV pats ls)=start (iter step n) (ls.headD .hole).aP (cH 1 (aA 1 ls)) (cH 1 (aA 2 ls)):=cy (id:=pid) (vs:=cg) (hs:=bZ) (step:=step) (start:=fun J=>start J (ls.headD .hole).aP (cH 1 (aA 1 ls)) (cH 1 (aA 2 ls))) step_eq (fun I=>start_eq I ls) n
def md (a0:List bn)(a1:Int)(a2:List Int):Int:=(dQ (S:=Unit) (β:=Int) (fun (i1:Nat) (y1:bn) (s3:Unit)=>(cond (Z167.md y1 a1 a2) (.inr ((i1:Int):Int)) (.inl ()))) (fun (s3:Unit)=>((-1):Int)) 0 a0 ())
def gd (a0:List bn)(a1:Int)(a2:List Int):Prop:=(bL (2^21) (fun y:bn=>bn.Sm (2^21) y) a0)/\(bL (2^38) (fun y:Int=>True) a2)
def acc (ls:List L):aC×Int×aC:=((ls.headD .hole).aP,(gm (cH 1 (aA 1 ls))),(mh (cH 1 (aA 2 ls))))
def R:(aC×Int×aC)->Option Int:=RR (p3 gd) (u3 md)
def aj {a0 a1 a2}(h:gd a0 a1 a2):R ((a0.map bn.row),a1,(a2.map bh))=some (md a0 a1 a2):=aN (a:=(a0,a1,a2)) h
def aT:fQ:=CN pats res acc R
def bt (a0:List bn)(a1:Int)(a2:List Int)(p1 p2:List L)(e1:a1=(gm p1))(e2:(a2.map bh)=(mh p2))(hg:gd a0 a1 a2):∃n,start (iter step n) (a0.map bn.row) p1 p2=ret ((md a0 a1 a2):Int):=by
 obtain ⟨H0,H2⟩:=hg
 unfold start md
 try simp only [SS,<-e1,<-e2]
 have Bh2:a0.length<=maxLen:=(by
   have:=(H0).1
   try simp only [maxLen] at *
   omega)
 refine ex_eq (out:=ret) (cR (z:=bn.zero)) ?_
 refine dK (p:=Pt.p0 (a0.map bn.row) p1 p2 (a0.length:Int) 0) fz ?_
 refine cj (pt:=fun (i1:Nat) (s3:Unit)=>Pt.p0 (a0.map bn.row) p1 p2 (a0.length:Int) (i1:Int)) (s:=(():Unit)) (out:=ret) (fun _ _=>True) (fun J i1 s3 h2 hih2=>?_) (fun s3 hih2=>?_) trivial
 ·simp only [step,SS,<-e1,<-e2]
  have bb_:=Bh2
  simp only [maxLen] at bb_
  have:=(H0).1
  refine bz.yes (by apply decide_eq_true;omega) ?_
  refine bz.yes aI ?_
  refine bz.yes (aL h2) ?_
  refine cr (Z167.aj H2) ?_
  refine bz.bif (fun c4=>?_) (fun c4=>?_)
  ·refine bz.inr ?_
   all_goals exact fz
  ·refine bz.inl trivial ?_
   rw [aG h2 Bh2]
   all_goals exact fz
 ·simp only [step,SS,<-e1,<-e2]
  have:=(H0).1
  refine dx (by apply decide_eq_false;omega) ?_
  refine ⟨0,?_⟩
  all_goals exact fz
def mB (ls:List L)(a:List bn×Int×List Int)(e:acc ls=Im.im a)(hg:(p3 gd) a):∃n:Nat,start (iter step n) ((ls.headD .hole).aP) (cH 1 (aA 1 ls)) (cH 1 (aA 2 ls))=ret (Im.im ((u3 md) a)):=by
 have e0:(a.1.map bn.row)=(ls.headD .hole).aP:=(congrArg (fun x=>x.1) e.symm)
 obtain ⟨n,hn⟩:=bt a.1 a.2.1 a.2.2 (cH 1 (aA 1 ls)) (cH 1 (aA 2 ls)) (congrArg (fun x=>x.2.1) e.symm) (congrArg (fun x=>x.2.2) e.symm) hg
 refine ⟨n,?_⟩
 rw [<-e0]
 exact hn
def af:cw 319 aT:=VP (accr:=fun ls=>((ls.headD .hole).aP,(cH 1 (aA 1 ls)),(cH 1 (aA 2 ls)))) (run:=fun n x=>start (iter step n) x.1 x.2.1 x.2.2) mix aE (.cons Z167.af .nil) Tryz.func319 (by kernel_rfl) run_eq (fun ls a _ e hg=>mB ls a e hg)
def fa (a0:List bn)(a1:Int)(a2:List Int):-1<=md a0 a1 a2/\md a0 a1 a2<(a0.length:Int):=by
 unfold md
 refine fD ?_ _ _
 all_goals
  intro i x s b h
  revert h
  simp only [Bool.cond_eq_ite]
  repeat' split
  all_goals (intro h;first | (cases h;rfl) | cases h)
def idx_eq (a0:List bn)(a1:Int)(a2:List Int):md a0 a1 a2=iF (fun y=>Z167.md y a1 a2) 0 a0:=by
 unfold md
 exact gv
end Z168
namespace Z169
def F (x0:aC)(x1 x2:List L):aH:=(call (Z168.R (x0,(gm x1),(mh x2))) fun v1=>ret ((decide (v1>=0)):Bool))
def pats:List fY:=[.rd (.sl 190),.fn 317 [[aD],[.sl 3]]]
def res:RP:=.one (.rd (.bool))
def md (a0:List bn)(a1:Int)(a2:List Int):Bool:=((decide ((Z168.md a0 a1 a2)>=0)):Bool)
def gd (a0:List bn)(a1:Int)(a2:List Int):Prop:=(bL (2^21) (fun y:bn=>bn.Sm (2^21) y) a0)/\(bL (2^38) (fun y:Int=>True) a2)
def acc (ls:List L):aC×Int×aC:=((ls.headD .hole).aP,(gm (cH 1 (aA 1 ls))),(mh (cH 1 (aA 2 ls))))
def R:(aC×Int×aC)->Option Bool:=RR (p3 gd) (u3 md)
def aj {a0 a1 a2}(h:gd a0 a1 a2):R ((a0.map bn.row),a1,(a2.map bh))=some (md a0 a1 a2):=aN (a:=(a0,a1,a2)) h
def aT:fQ:=CN pats res acc R
def bt (a0:List bn)(a1:Int)(a2:List Int)(p1 p2:List L)(e1:a1=(gm p1))(e2:(a2.map bh)=(mh p2))(hg:gd a0 a1 a2):F (a0.map bn.row) p1 p2=ret ((md a0 a1 a2):Bool):=by
 obtain ⟨H0,H2⟩:=hg
 unfold F md
 try simp only [SS,<-e1,<-e2]
 refine ct (Z168.aj ⟨H0,H2⟩) ?_
 have fv1_:=Z168.fa a0 a1 a2
 all_goals exact fz
def mB (ls:List L)(a:List bn×Int×List Int)(e:acc ls=Im.im a)(hg:(p3 gd) a):∃n:Nat,F ((ls.headD .hole).aP) (cH 1 (aA 1 ls)) (cH 1 (aA 2 ls))=ret (Im.im ((u3 md) a)):=by
 have e0:(a.1.map bn.row)=(ls.headD .hole).aP:=(congrArg (fun x=>x.1) e.symm)
 have hn:=bt a.1 a.2.1 a.2.2 (cH 1 (aA 1 ls)) (cH 1 (aA 2 ls)) (congrArg (fun x=>x.2.1) e.symm) (congrArg (fun x=>x.2.2) e.symm) hg
 refine ⟨0,?_⟩
 rw [<-e0]
 exact hn
def af:cw 316 aT:=VP (live:=fun _=>[]) (nt:=9) (accr:=fun ls=>((ls.headD .hole).aP,(cH 1 (aA 1 ls)),(cH 1 (aA 2 ls)))) (run:=fun _ x=>F x.1 x.2.1 x.2.2) mix aE (.cons Z168.af .nil) Tryz.func316 (by kernel_rfl) (fun _ _=>by kernel_rfl) (fun ls a _ e hg=>mB ls a e hg)
def any_eq (a0:List bn)(a1:Int)(a2:List Int):md a0 a1 a2=a0.any (fun y=>Z167.md y a1 a2):=by
 unfold md
 rw [Z168.idx_eq]
 exact qj
end Z169
namespace Z170
inductive Pt where
 | p0 (a:aC) (b:Int) (c:aC) (d e:Int) (f:aC)
def pid:Pt->Nat
 | .p0 ..=>3
def cg:Pt->List V
 | .p0 a b c d e f=>[.sl none 190 a,.cQ 0 0,.int .i64 b,.sl none 3 c,.int .i64 d,.int .i64 e]
def bZ:Pt->List aW
 | .p0 a b c d e f=>[.box [.sl none 3 f]]
def step (J:Pt->aH):Pt->aH
 | .p0 a b c d e f=>(cond (decide (e<d)) (m2 e (c.length:Int) (call (Z169.R (a,(je c (toNat e)),f)) fun v1=>(cond v1 (J (.p0 a (i64.wrap (b+1)) c d (i64.wrap (e+1)) f)) (J (.p0 a b c d (i64.wrap (e+1)) f))))) (ret (b:Int)))
def start (J:Pt->aH)(x0:bD)(x1 x2:aC):aH:=J (.p0 x2 0 x0.aX (x0.aX.length:Int) 0 x1)
def live:Nat->Live:=fun i=>match i with | 3=>[(2,none),(4,none),(7,none),(11,none),(12,none),(13,none)] | _=>[]
def md (a0:aO)(a1:List Int)(a2:List bn):Int:=(dX (S:=Int) (β:=Int) (fun (y1:Int) (s3:Int)=>(cond (Z169.md a2 y1 a1) (.inl (i64.wrap (s3+1))) (.inl s3))) (fun (s3:Int)=>(s3:Int)) a0.aX 0)
def gd (a0:aO)(a1:List Int)(a2:List bn):Prop:=(aO.Sm (2^21) a0)/\(bL (2^38) (fun y:Int=>True) a1)/\(bL (2^21) (fun y:bn=>bn.Sm (2^21) y) a2)
def R:=RR (p3 gd) (u3 md)
def aj {a0 a1 a2}(h:gd a0 a1 a2):R ((aO.r a0),(a1.map bh),(a2.map bn.row))=some (md a0 a1 a2):=aN (a:=(a0,a1,a2)) h
def aT:=CN [.agg iU,pL 3,pL 190] oI RT.dec R
def bt (a0)(a1)(a2)(hg:gd a0 a1 a2):∃n,start (iter step n) (aO.r a0) (a1.map bh) (a2.map bn.row)=ret (md a0 a1 a2):=by
 obtain ⟨H0,H1,H2⟩:=hg
 unfold start md
 try simp only [SS]
 have Bh2:a0.aX.length<=maxLen:=(by
   have:=(H0).1
   try simp only [maxLen] at *
   omega)
 refine ex_eq (out:=ret) (eG (z:=0)) ?_
 refine dK (p:=Pt.p0 (a2.map bn.row) 0 (a0.aX.map bh) (a0.aX.length:Int) 0 (a1.map bh)) fz ?_
 refine cj (pt:=fun (i1:Nat) (s3:Int)=>Pt.p0 (a2.map bn.row) s3 (a0.aX.map bh) (a0.aX.length:Int) (i1:Int) (a1.map bh)) (s:=(0:Int)) (out:=ret) (fun _ _=>True) (fun J i1 s3 h2 hih2=>?_) (fun s3 hih2=>?_) trivial
 ·simp only [step,SS]
  have bb_:=Bh2
  simp only [maxLen] at bb_
  have:=(H0).1
  refine bz.yes (by apply decide_eq_true;omega) ?_
  refine bz.yes aI ?_
  refine bz.yes (aL h2) ?_
  refine cr (Z169.aj ⟨H2,H1⟩) ?_
  refine bz.bif (fun c4=>?_) (fun c4=>?_)
  ·refine bz.inl trivial ?_
   rw [aG h2 Bh2]
   all_goals exact fz
  ·refine bz.inl trivial ?_
   rw [aG h2 Bh2]
   all_goals exact fz
 ·simp only [step,SS]
  have:=(H0).1
  refine dx (by apply decide_eq_false;omega) ?_
  refine ⟨0,?_⟩
  all_goals exact fz
def af:cw 309 aT:=L3 24 pid cg bZ live step start mix aE bt (.cons Z169.af .nil) Tryz.func309
def br (a0:aO)(a1:List Int)(a2:List bn):md a0 a1 a2=Z62.md a0 a1 a2:=by
 unfold md Z62.md
 refine pg (fun x _ s=>?_) (fun s=>rfl)
 rw [Z169.any_eq]
 refine Eq.trans ?_ (mJ (β:=Int⊕Int) (p:=fun y=>Z167.md y x a1) (b:=Sum.inl (i64.wrap (s+1))) (c:=Sum.inl s) (fun y s'=>?_) a2 ()).symm
 ·cases a2.any (fun y=>Z167.md y x a1)<;>rfl
 ·unfold Z167.md
  simp only [Z166.br]
  cases y.gJ==x<;>cases Z61.md y a1<;>rfl
end Z170
namespace Z171
def F (x0:bD)(x1 x2:aC):aH:=(call (Z151.R x0) fun v1=>(cond v1 (call (Z170.R (x0,x1,x2)) fun v2=>ret ((decide (v2>=x0.cC)):Bool)) aY))
def md (a0:aO)(a1:List Int)(a2:List bn):Bool:=(cond (Z151.md a0) ((decide ((Z170.md a0 a1 a2)>=a0.cC)):Bool) (false:Bool))
def gd (a0:aO)(a1:List Int)(a2:List bn):Prop:=(aO.Sm (2^21) a0)/\(bL (2^38) (fun y:Int=>True) a1)/\(bL (2^21) (fun y:bn=>bn.Sm (2^21) y) a2)
def R:=RR (p3 gd) (u3 md)
def aj {a0 a1 a2}(h:gd a0 a1 a2):R ((aO.r a0),(a1.map bh),(a2.map bn.row))=some (md a0 a1 a2):=aN (a:=(a0,a1,a2)) h
def aT:=CN [.agg iU,pL 3,pL 190] oB RT.dec R
def bt (a0)(a1)(a2)(hg:gd a0 a1 a2):F (aO.r a0) (a1.map bh) (a2.map bn.row)=ret (md a0 a1 a2):=by
 obtain ⟨H0,H1,H2⟩:=hg
 unfold F md
 try simp only [SS]
 refine ct (Z151.aj H0) ?_
 refine au ret (fun c1=>?_) (fun _=>rfl)
 refine ct (Z170.aj ⟨H0,H1,H2⟩) ?_
 all_goals exact fz
def af:cw 295 aT:=W3 18 F mix aE bt (.cons Z151.af (.cons Z170.af .nil)) Tryz.func295
def br (a0:aO)(a1:List Int)(a2:List bn):md a0 a1 a2=Z63.md a0 a1 a2:=by
 unfold md Z63.md
 first
 | (simp only [Z151.br,Z170.br];done)
 | (simp only [Z151.br,Z170.br];rfl)
 | rfl
end Z171
namespace Z172
def F (x0:aR)(x1:bD):aH:=(call (Z163.R x0.an) fun v1=>(call (Z171.R (x1,v1,x0.cm)) fun v2=>ret (v2:Bool)))
def md (a0:aa)(a1:aO):Bool:=((Z171.md a1 (Z163.md a0.an) a0.cm):Bool)
def gd (a0:aa)(a1:aO):Prop:=(aa.Sm (2^21) a0)/\(aO.Sm (2^21) a1)
def R:=RR (p2 gd) (u2 md)
def aj {a0 a1}(h:gd a0 a1):R ((aa.r a0),(aO.r a1))=some (md a0 a1):=aN (a:=(a0,a1)) h
def aT:=CN [.agg kE,.agg iU] oB RT.dec R
def bt (a0)(a1)(hg:gd a0 a1):F (aa.r a0) (aO.r a1)=ret (md a0 a1):=by
 obtain ⟨H0,H1⟩:=hg
 unfold F md
 try simp only [SS]
 refine ct (Z163.aj H0.1) ?_
 try simp only [SS]
 refine ct (Z171.aj ⟨H1,⟨(have:=Z163.len a0.an;have:=(H0.1.1).1;have:=(H0.1.2.1).1;have:=(H0.1.2.2).1;om),fun _ _=>trivial⟩,H0.2⟩) ?_
 all_goals exact fz
def af:cw 271 aT:=W2 12 F mix aE bt (.cons Z163.af (.cons Z171.af .nil)) Tryz.func271
end Z172
namespace Z173
def F (x0:aR):aH:=(call (Z155.R x0.an) fun v1=>(cond v1 (cond (x0.an.cI==0) (cond (x0.an.bK==1) (cond (!x0.an.bE) (call (Z159.R (x0.an.bQ,x0.an.dy)) fun v2=>(cond (x0.an.bC==v2) (call (Z172.R (x0,x0.an.bQ)) fun v3=>ret (v3:Bool)) aY)) aY) aY) aY) aY))
def md (a0:aa):Bool:=(cond (Z155.md a0.an) (cond (a0.an.cI==0) (cond (a0.an.bK==1) (cond (!a0.an.bE) (cond (a0.an.bC==(Z159.md a0.an.bQ a0.an.dy)) ((Z172.md a0 a0.an.bQ):Bool) (false:Bool)) (false:Bool)) (false:Bool)) (false:Bool)) (false:Bool))
def gd (a0:aa):Prop:=(aa.Sm (2^21) a0)
def R:=RR gd md
def aj {a0}(h:gd a0):R (aa.r a0)=some (md a0):=aN (a:=a0) h
def aT:=CN [.agg kE] oB RT.dec R
def bt (a0)(hg:gd a0):F (aa.r a0)=ret (md a0):=by
 unfold gd at hg
 have H0:=hg
 unfold F md
 try simp only [SS]
 refine ct (Z155.aj H0.1) ?_
 refine au ret (fun c1=>?_) (fun _=>rfl)
 refine au ret (fun c2=>?_) (fun _=>rfl)
 refine au ret (fun c3=>?_) (fun _=>rfl)
 refine au ret (fun c4=>?_) (fun _=>rfl)
 refine ct (Z159.aj H0.1.1) ?_
 refine au ret (fun c5=>?_) (fun _=>rfl)
 refine ct (Z172.aj ⟨H0,H0.1.1⟩) ?_
 all_goals exact fz
def af:cw 242 aT:=W1 39 F mix aE bt (.cons Z155.af (.cons Z159.af (.cons Z172.af .nil))) Tryz.func242
def br (a0:aa):md a0=Z64.md a0:=by
 unfold md Z64.md
 simp only [Z172.md,Z171.br,Z163.br,Z155.br,Z159.br]
end Z173
namespace Z174
def F (x0:bY):aH:=(call (Z163.R x0) fun v1=>(ck (eT (((1:Int)+(v1.length:Int))*8)) (call (Z158.R ([[L.int 233]]++v1)) fun v2=>ret (v2:Int))))
def md (a0:aF):Int:=((Z158.md ([233]++(Z163.md a0))):Int)
def gd (a0:aF):Prop:=(aF.Sm (2^21) a0)
def R:=RR gd md
def aj {a0}(h:gd a0):R (aF.r a0)=some (md a0):=aN (a:=a0) h
def aT:=CN [.agg fW] oI RT.dec R
def bt (a0)(hg:gd a0):F (aF.r a0)=ret (md a0):=by
 unfold gd at hg
 have H0:=hg
 unfold F md
 try simp only [SS]
 refine ct (Z163.aj H0) ?_
 try simp only [SS]
 refine ak (have:=Z163.len a0;have:=(H0.1).1;have:=(H0.2.1).1;have:=(H0.2.2).1;lm) ?_
 refine aZ (Z158.md ([233]++(Z163.md a0))) (rq (Z158.aj (a0:=([233]++(Z163.md a0))) ⟨(have:=Z163.len a0;have:=(H0.1).1;have:=(H0.2.1).1;have:=(H0.2.2).1;om),fun _ _=>trivial⟩)) ?_
 all_goals exact fz
def af:cw 310 aT:=W1 8 F mix aE bt (.cons Z163.af (.cons Z158.af .nil)) Tryz.func310
def br (a0:aF):md a0=Z65.md a0:=by
 unfold md Z65.md
 first
 | (simp only [Z163.br,Z158.br];done)
 | (simp only [Z163.br,Z158.br];rfl)
 | rfl
end Z174
namespace Z175
def F (x0 x1:bY):aH:=(cond (x1.bC==x0.bC) (cond (x1.cI==(i64.wrap (x0.cI+1))) (call (Z174.R x0) fun v1=>(cond (x1.dy==v1) (ret ((decide (x1.cG>=x0.cG)):Bool)) aY)) aY) aY)
def md (a0 a1:aF):Bool:=(cond (a1.bC==a0.bC) (cond (a1.cI==(i64.wrap (a0.cI+1))) (cond (a1.dy==(Z174.md a0)) ((decide (a1.cG>=a0.cG)):Bool) (false:Bool)) (false:Bool)) (false:Bool))
def gd (a0 a1:aF):Prop:=(aF.Sm (2^21) a0)
def R:=RR (p2 gd) (u2 md)
def aj {a0 a1}(h:gd a0 a1):R ((aF.r a0),(aF.r a1))=some (md a0 a1):=aN (a:=(a0,a1)) h
def aT:=CN [.agg fW,.agg fW] oB RT.dec R
def bt (a0)(a1)(hg:gd a0 a1):F (aF.r a0) (aF.r a1)=ret (md a0 a1):=by
 unfold gd at hg
 have H0:=hg
 unfold F md
 try simp only [SS]
 refine au ret (fun c1=>?_) (fun _=>rfl)
 refine au ret (fun c2=>?_) (fun _=>rfl)
 refine ct (Z174.aj H0) ?_
 refine au ret (fun c3=>?_) (fun _=>rfl)
 all_goals exact fz
def af:cw 296 aT:=W2 32 F mix aE bt (.cons Z174.af .nil) Tryz.func296
end Z175
namespace Z176
def F (x0:bY)(x1:aR):aH:=(cond x0.bE (ret (4:Int)) (cond x1.an.bE (ret (6:Int)) (call (Z172.R (x1,x0.bQ)) fun v1=>(cond (!v1) (ret (7:Int)) (ret (1:Int))))))
def md (a0:aF)(a1:aa):Int:=(cond a0.bE (4:Int) (cond a1.an.bE (6:Int) (cond (!(Z172.md a1 a0.bQ)) (7:Int) (1:Int))))
def gd (a0:aF)(a1:aa):Prop:=(aF.Sm (2^21) a0)/\(aa.Sm (2^21) a1)
def R:=RR (p2 gd) (u2 md)
def aj {a0 a1}(h:gd a0 a1):R ((aF.r a0),(aa.r a1))=some (md a0 a1):=aN (a:=(a0,a1)) h
def aT:=CN [.agg fW,.agg kE] oI RT.dec R
def bt (a0)(a1)(hg:gd a0 a1):F (aF.r a0) (aa.r a1)=ret (md a0 a1):=by
 obtain ⟨H0,H1⟩:=hg
 unfold F md
 try simp only [SS]
 refine au ret (fun _=>rfl) (fun c1=>?_)
 refine au ret (fun _=>rfl) (fun c2=>?_)
 refine ct (Z172.aj ⟨H1,H0.1⟩) ?_
 refine au ret (fun _=>rfl) (fun _=>rfl)
def af:cw 297 aT:=W2 18 F mix aE bt (.cons Z172.af .nil) Tryz.func297
end Z176
namespace Z177
inductive Pt where
 | p0 (a b:aC) (c d:Int)
def pid:Pt->Nat
 | .p0 ..=>4
def cg:Pt->List V
 | .p0 a b c d=>[.sl none 3 a,.sl none 3 b,.int .i64 c,.int .i64 d]
def bZ:Pt->List aW
 | .p0 a b c d=>[]
def step (J:Pt->aH):Pt->aH
 | .p0 a b c d=>(cond (decide (d<c)) (m2 d (a.length:Int) (m2 d (b.length:Int) (cond ((je a (toNat d)) != (je b (toNat d))) aY (J (.p0 a b c (i64.wrap (d+1))))))) ep)
def start (J:Pt->aH)(x0 x1:aC):aH:=(cond ((x0.length:Int) != (x1.length:Int)) aY (J (.p0 x0 x1 (x0.length:Int) 0)))
def live:Nat->Live:=fun i=>match i with | 4=>[(0,none),(1,none),(12,none),(13,none)] | _=>[]
def md (a0 a1:List Int):Bool:=(bif ((a0.length:Int) != (a1.length:Int)) then (false:Bool) else (eo (S:=Unit) (β:=Bool) (fun (i2:Nat) (s4:Unit)=>(cond ((a0.getD i2 0) != (a1.getD i2 0)) (.inr (false:Bool)) (.inl ()))) (fun (s4:Unit)=>(true:Bool)) a0.length 0 ()))
def gd (a0 a1:List Int):Prop:=(bL (2^38) (fun y:Int=>True) a0)/\(bL (2^38) (fun y:Int=>True) a1)
def R:=RR (p2 gd) (u2 md)
def aj {a0 a1}(h:gd a0 a1):R ((a0.map bh),(a1.map bh))=some (md a0 a1):=aN (a:=(a0,a1)) h
def aT:=CN [pL 3,pL 3] oB RT.dec R
def bt (a0)(a1)(hg:gd a0 a1):∃n,start (iter step n) (a0.map bh) (a1.map bh)=ret (md a0 a1):=by
 obtain ⟨H0,H1⟩:=hg
 unfold start md
 try simp only [SS]
 refine gR ret (fun _=>⟨0,rfl⟩) (fun c1=>?_)
 have dc1:=c1
 try simp only [DC] at dc1
 have Bh3:a0.length<=maxLen:=(by
   have:=(H0).1
   try simp only [maxLen] at *
   omega)
 refine dK (p:=Pt.p0 (a0.map bh) (a1.map bh) (a0.length:Int) 0) fz ?_
 refine cj (pt:=fun (i2:Nat) (s4:Unit)=>Pt.p0 (a0.map bh) (a1.map bh) (a0.length:Int) (i2:Int)) (s:=(():Unit)) (out:=ret) (fun _ _=>True) (fun J i2 s4 h3 hih3=>?_) (fun s4 hih3=>?_) trivial
 ·simp only [step,SS]
  have bb_:=Bh3
  simp only [maxLen] at bb_
  have:=(H0).1
  refine bz.yes (by apply decide_eq_true;omega) ?_
  refine bz.yes aI ?_
  refine bz.yes (aL h3) ?_
  refine bz.yes aI ?_
  refine bz.yes (have:=(H1).1;dt) ?_
  refine bz.bif (fun _=>bz.inr rfl) (fun c5=>?_)
  refine bz.inl trivial ?_
  rw [aG h3 Bh3]
  all_goals exact fz
 ·simp only [step,SS]
  have:=(H0).1
  refine dx (by apply decide_eq_false;omega) ?_
  refine ⟨0,?_⟩
  all_goals exact fz
def af:cw 274 aT:=L2 26 pid cg bZ live step start mix aE bt .nil Tryz.func274
def md_eq (a0 a1:List Int):md a0 a1=dW a0 a1:=by
 unfold md
 refine ke (0) (fun i s h h2=>?_) (fun s=>rfl)
 simp only [bne,eZ,bool_beq,eO]
 cases dW _ _<;>rfl
end Z177
namespace Z178
def F (x0 x1:bD):aH:=(call (Z177.R (x0.aX,x1.aX)) fun v1=>(cond v1 (ret ((x0.cC==x1.cC):Bool)) aY))
def md (a0 a1:aO):Bool:=(cond (Z177.md a0.aX a1.aX) ((a0.cC==a1.cC):Bool) (false:Bool))
def gd (a0 a1:aO):Prop:=(aO.Sm (2^21) a0)/\(aO.Sm (2^21) a1)
def R:=RR (p2 gd) (u2 md)
def aj {a0 a1}(h:gd a0 a1):R ((aO.r a0),(aO.r a1))=some (md a0 a1):=aN (a:=(a0,a1)) h
def aT:=CN [.agg iU,.agg iU] oB RT.dec R
def bt (a0)(a1)(hg:gd a0 a1):F (aO.r a0) (aO.r a1)=ret (md a0 a1):=by
 obtain ⟨H0,H1⟩:=hg
 unfold F md
 try simp only [SS]
 refine ct (Z177.aj ⟨(H0.mono (by decide) (fun x hx=>trivial)),(H1.mono (by decide) (fun x hx=>trivial))⟩) ?_
 refine au ret (fun c1=>?_) (fun _=>rfl)
 all_goals exact fz
def af:cw 273 aT:=W2 17 F mix aE bt (.cons Z177.af .nil) Tryz.func273
def md_eq (a0 a1:aO):md a0 a1=dW a0 a1:=by
 unfold md
 cases a0;cases a1
 rw [Bool.eq_iff_iff]
 simp [dc,eO,aO.mk.injEq,Z177.md_eq]
 try (constructor<;>(intro h;simp_all))
end Z178
namespace Z179
def F (x0 x1:bY):aH:=(cond (x0.cq==x1.cq) (ret ((x0.cW==x1.cW):Bool)) aY)
def md (a0 a1:aF):Bool:=(cond (a0.cq==a1.cq) ((a0.cW==a1.cW):Bool) (false:Bool))
def gd (a0 a1:aF):Prop:=True
def R:=RR (p2 gd) (u2 md)
def aj {a0 a1}(h:gd a0 a1):R ((aF.r a0),(aF.r a1))=some (md a0 a1):=aN (a:=(a0,a1)) h
def aT:=CN [.agg fW,.agg fW] oB RT.dec R
def bt (a0)(a1)(hg:gd a0 a1):F (aF.r a0) (aF.r a1)=ret (md a0 a1):=by
 unfold F md
 try simp only [SS]
 refine au ret (fun c1=>?_) (fun _=>rfl)
 all_goals exact fz
def af:cw 311 aT:=W2 17 F mix aE bt .nil Tryz.func311
def br (a0 a1:aF):md a0 a1=Z69.md a0 a1:=by
 unfold md Z69.md
 first
 | (simp only [id];done)
 | (simp only [id];rfl)
 | rfl
end Z179
namespace Z180
def F (x0:bY)(x1:aR):aH:=(cond x0.bE (ret (4:Int)) (call (Z152.R x0.bB) fun v1=>(cond v1 (ret (5:Int)) (cond (decide (x1.an.cG<(i64.wrap (x0.cz+x0.cY)))) (ret (5:Int)) (cond x1.an.bE (ret (6:Int)) (call (Z178.R (x1.an.bQ,x0.bB)) fun v2=>(cond (!v2) (ret (6:Int)) (call (Z179.R (x1.an,x0)) fun v3=>(cond (!v3) (ret (6:Int)) (call (Z172.R (x1,x0.bB)) fun v4=>(cond (!v4) (ret (7:Int)) (ret (1:Int)))))))))))))
def md (a0:aF)(a1:aa):Int:=(cond a0.bE (4:Int) (cond (Z152.md a0.bB) (5:Int) (cond (decide (a1.an.cG<(i64.wrap (a0.cz+a0.cY)))) (5:Int) (cond a1.an.bE (6:Int) (cond (!(Z178.md a1.an.bQ a0.bB)) (6:Int) (cond (!(Z179.md a1.an a0)) (6:Int) (cond (!(Z172.md a1 a0.bB)) (7:Int) (1:Int))))))))
def gd (a0:aF)(a1:aa):Prop:=(aF.Sm (2^21) a0)/\(aa.Sm (2^21) a1)
def R:=RR (p2 gd) (u2 md)
def aj {a0 a1}(h:gd a0 a1):R ((aF.r a0),(aa.r a1))=some (md a0 a1):=aN (a:=(a0,a1)) h
def aT:=CN [.agg fW,.agg kE] oI RT.dec R
def bt (a0)(a1)(hg:gd a0 a1):F (aF.r a0) (aa.r a1)=ret (md a0 a1):=by
 obtain ⟨H0,H1⟩:=hg
 unfold F md
 try simp only [SS]
 refine au ret (fun _=>rfl) (fun c1=>?_)
 refine ct (Z152.aj trivial) ?_
 refine au ret (fun _=>rfl) (fun c2=>?_)
 refine au ret (fun _=>rfl) (fun c3=>?_)
 refine au ret (fun _=>rfl) (fun c4=>?_)
 refine ct (Z178.aj ⟨H1.1.1,H0.2.1⟩) ?_
 refine au ret (fun _=>rfl) (fun c5=>?_)
 refine ct (Z179.aj trivial) ?_
 refine au ret (fun _=>rfl) (fun c6=>?_)
 refine ct (Z172.aj ⟨H1,H0.2.1⟩) ?_
 refine au ret (fun _=>rfl) (fun _=>rfl)
def af:cw 298 aT:=W2 48 F mix aE bt (.cons Z152.af (.cons Z178.af (.cons Z179.af (.cons Z172.af .nil)))) Tryz.func298
end Z180
namespace Z181
def F (x0:bY)(x1:aR):aH:=(call (Z179.R (x1.an,x0)) fun v1=>(cond v1 (call (Z178.R (x1.an.bw,x0.bw)) fun v2=>(cond v2 (call (Z178.R (x1.an.bB,x0.bB)) fun v3=>(cond v3 (call (Z152.R x0.bw) fun v4=>(cond v4 (ret (5:Int)) (cond (x1.an.bE==x0.bE) (ret (6:Int)) (cond (!(x1.an.cY==x0.cY)) (ret (6:Int)) (cond x1.an.bE (call (Z178.R (x1.an.bQ,x0.bQ)) fun v5=>(cond (!v5) (ret (6:Int)) (call (Z172.R (x1,x0.bw)) fun v6=>(cond (!v6) (ret (7:Int)) (ret (1:Int)))))) (call (Z172.R (x1,x0.bw)) fun v7=>(cond (!v7) (ret (7:Int)) (ret (1:Int))))))))) (call (Z152.R x0.bw) fun v8=>(cond v8 (ret (5:Int)) (cond (x1.an.bE==x0.bE) (ret (6:Int)) (ret (6:Int))))))) (call (Z152.R x0.bw) fun v9=>(cond v9 (ret (5:Int)) (cond (x1.an.bE==x0.bE) (ret (6:Int)) (ret (6:Int))))))) (call (Z152.R x0.bw) fun v10=>(cond v10 (ret (5:Int)) (cond (x1.an.bE==x0.bE) (ret (6:Int)) (ret (6:Int)))))))
def md (a0:aF)(a1:aa):Int:=(cond (Z179.md a1.an a0) (cond (Z178.md a1.an.bw a0.bw) (cond (Z178.md a1.an.bB a0.bB) (cond (Z152.md a0.bw) (5:Int) (cond (a1.an.bE==a0.bE) (6:Int) (cond (!(a1.an.cY==a0.cY)) (6:Int) (cond a1.an.bE (cond (!(Z178.md a1.an.bQ a0.bQ)) (6:Int) (cond (!(Z172.md a1 a0.bw)) (7:Int) (1:Int))) (cond (!(Z172.md a1 a0.bw)) (7:Int) (1:Int)))))) (cond (Z152.md a0.bw) (5:Int) (cond (a1.an.bE==a0.bE) (6:Int) (6:Int)))) (cond (Z152.md a0.bw) (5:Int) (cond (a1.an.bE==a0.bE) (6:Int) (6:Int)))) (cond (Z152.md a0.bw) (5:Int) (cond (a1.an.bE==a0.bE) (6:Int) (6:Int))))
def gd (a0:aF)(a1:aa):Prop:=(aF.Sm (2^21) a0)/\(aa.Sm (2^21) a1)
def R:=RR (p2 gd) (u2 md)
def aj {a0 a1}(h:gd a0 a1):R ((aF.r a0),(aa.r a1))=some (md a0 a1):=aN (a:=(a0,a1)) h
def aT:=CN [.agg fW,.agg kE] oI RT.dec R
def bt (a0)(a1)(hg:gd a0 a1):F (aF.r a0) (aa.r a1)=ret (md a0 a1):=by
 obtain ⟨H0,H1⟩:=hg
 unfold F md
 try simp only [SS]
 refine ct (Z179.aj trivial) ?_
 refine au ret (fun c1=>?_) (fun c1=>?_)
 ·refine ct (Z178.aj ⟨H1.1.2.2,H0.2.2⟩) ?_
  refine au ret (fun c2=>?_) (fun c2=>?_)
  ·refine ct (Z178.aj ⟨H1.1.2.1,H0.2.1⟩) ?_
   refine au ret (fun c3=>?_) (fun c3=>?_)
   ·refine ct (Z152.aj trivial) ?_
    refine au ret (fun _=>rfl) (fun c4=>?_)
    refine au ret (fun _=>rfl) (fun c5=>?_)
    refine au ret (fun _=>rfl) (fun c6=>?_)
    refine au ret (fun c7=>?_) (fun c7=>?_)
    ·refine ct (Z178.aj ⟨H1.1.1,H0.1⟩) ?_
     refine au ret (fun _=>rfl) (fun c8=>?_)
     refine ct (Z172.aj ⟨H1,H0.2.2⟩) ?_
     refine au ret (fun _=>rfl) (fun _=>rfl)
    ·refine ct (Z172.aj ⟨H1,H0.2.2⟩) ?_
     refine au ret (fun _=>rfl) (fun _=>rfl)
   ·refine ct (Z152.aj trivial) ?_
    refine au ret (fun _=>rfl) (fun c11=>?_)
    refine au ret (fun _=>rfl) (fun _=>rfl)
  ·refine ct (Z152.aj trivial) ?_
   refine au ret (fun _=>rfl) (fun c13=>?_)
   refine au ret (fun _=>rfl) (fun _=>rfl)
 ·refine ct (Z152.aj trivial) ?_
  refine au ret (fun _=>rfl) (fun c15=>?_)
  refine au ret (fun _=>rfl) (fun _=>rfl)
def af:cw 299 aT:=W2 65 F mix aE bt (.cons Z179.af (.cons Z178.af (.cons Z152.af (.cons Z172.af .nil)))) Tryz.func299
end Z181
namespace Z182
def F (x0:bY)(x1:aR):aH:=(call (Z155.R x0) fun v1=>(cond (!v1) (ret (2:Int)) (call (Z155.R x1.an) fun v2=>(cond (!v2) (ret (2:Int)) (call (Z175.R (x0,x1.an)) fun v3=>(cond (!v3) (ret (3:Int)) (cond (x1.an.bK==1) (call (Z176.R (x0,x1)) fun v4=>ret (v4:Int)) (cond (x1.an.bK==2) (call (Z180.R (x0,x1)) fun v5=>ret (v5:Int)) (call (Z181.R (x0,x1)) fun v6=>ret (v6:Int))))))))))
def md (a0:aF)(a1:aa):Int:=(cond (!(Z155.md a0)) (2:Int) (cond (!(Z155.md a1.an)) (2:Int) (cond (!(Z175.md a0 a1.an)) (3:Int) (cond (a1.an.bK==1) ((Z176.md a0 a1):Int) (cond (a1.an.bK==2) ((Z180.md a0 a1):Int) ((Z181.md a0 a1):Int))))))
def gd (a0:aF)(a1:aa):Prop:=(aF.Sm (2^21) a0)/\(aa.Sm (2^21) a1)
def R:=RR (p2 gd) (u2 md)
def aj {a0 a1}(h:gd a0 a1):R ((aF.r a0),(aa.r a1))=some (md a0 a1):=aN (a:=(a0,a1)) h
def aT:=CN [.agg fW,.agg kE] oI RT.dec R
def bt (a0)(a1)(hg:gd a0 a1):F (aF.r a0) (aa.r a1)=ret (md a0 a1):=by
 obtain ⟨H0,H1⟩:=hg
 unfold F md
 try simp only [SS]
 refine ct (Z155.aj H0) ?_
 refine au ret (fun _=>rfl) (fun c1=>?_)
 refine ct (Z155.aj H1.1) ?_
 refine au ret (fun _=>rfl) (fun c2=>?_)
 refine ct (Z175.aj H0) ?_
 refine au ret (fun _=>rfl) (fun c3=>?_)
 refine au ret (fun c4=>?_) (fun c4=>?_)
 ·refine ct (Z176.aj ⟨H0,H1⟩) ?_
  all_goals exact fz
 ·refine au ret (fun c5=>?_) (fun c5=>?_)
  ·refine ct (Z180.aj ⟨H0,H1⟩) ?_
   all_goals exact fz
  ·refine ct (Z181.aj ⟨H0,H1⟩) ?_
   all_goals exact fz
def af:cw 272 aT:=W2 40 F mix aE bt (.cons Z155.af (.cons Z175.af (.cons Z176.af (.cons Z180.af (.cons Z181.af .nil))))) Tryz.func272
def br (a0:aF)(a1:aa):md a0 a1=Z72.md a0 a1:=by
 unfold md Z72.md Z175.md Z176.md Z180.md Z181.md Z172.md Z66.md Z70.md Z71.md
 simp only [Z155.br,Z174.br,Z171.br,Z163.br,Z152.br,Z178.md_eq,Z68.md_eq,Z179.br,bne]
 cases Z53.md a0
 ·rfl
 cases h2:Z53.md a1.an
 ·rfl
 obtain ⟨⟨k1,k2⟩,_⟩:=Z53.tr h2
 have ht:decide (a1.an.cG<a0.cG)=!decide (a1.an.cG>=a0.cG):=by
  rw [Bool.eq_iff_iff];simp
 rw [ht]
 cases a1.an.bC==a0.bC
 ·rfl
 cases a1.an.cI==i64.wrap (a0.cI+1)
 ·rfl
 cases a1.an.dy==Z65.md a0
 ·rfl
 cases decide (a1.an.cG>=a0.cG)
 ·rfl
 have hk:a1.an.bK=1∨a1.an.bK=2∨a1.an.bK=3:=by omega
 generalize Z63.md a0.bQ (Z58.md a1.an) a1.cm=s1
 generalize Z63.md a0.bB (Z58.md a1.an) a1.cm=s2
 generalize Z63.md a0.bw (Z58.md a1.an) a1.cm=s3
 generalize Z52.md a0.bB=n1
 generalize Z52.md a0.bw=n2
 generalize decide (a1.an.cG<i64.wrap (a0.cz+a0.cY))=d1
 generalize dW a1.an.bQ a0.bB=e1
 generalize dW a1.an.bw a0.bw=e2
 generalize dW a1.an.bB a0.bB=e3
 generalize dW a1.an.bQ a0.bQ=e4
 generalize Z69.md a1.an a0=c1
 generalize (a1.an.cY==a0.cY)=w1
 generalize a1.an.bE=f1
 generalize a0.bE=f0
 rcases hk with hk | hk | hk<;>rw [hk]
 ·cases f0<;>cases f1<;>cases s1<;>rfl
 ·cases f0<;>cases n1<;>cases d1<;>cases f1<;>cases e1<;>cases c1<;>cases s2<;>rfl
 ·cases n2
  ·cases f1<;>cases f0<;>cases c1<;>cases e2<;>cases e3<;>cases w1<;>cases e4<;>cases s3<;>rfl
  ·cases c1<;>cases e2<;>cases e3<;>rfl
end Z182
namespace Z183
def F (x0:bY)(x1:aR):aH:=(call (Z182.R (x0,x1)) fun v1=>ret ((v1==1):Bool))
def md (a0:aF)(a1:aa):Bool:=(((Z182.md a0 a1)==1):Bool)
def gd (a0:aF)(a1:aa):Prop:=(aF.Sm (2^21) a0)/\(aa.Sm (2^21) a1)
def R:=RR (p2 gd) (u2 md)
def aj {a0 a1}(h:gd a0 a1):R ((aF.r a0),(aa.r a1))=some (md a0 a1):=aN (a:=(a0,a1)) h
def aT:=CN [.agg fW,.agg kE] oB RT.dec R
def bt (a0)(a1)(hg:gd a0 a1):F (aF.r a0) (aa.r a1)=ret (md a0 a1):=by
 obtain ⟨H0,H1⟩:=hg
 unfold F md
 try simp only [SS]
 refine ct (Z182.aj ⟨H0,H1⟩) ?_
 all_goals exact fz
def af:cw 243 aT:=W2 9 F mix aE bt (.cons Z182.af .nil) Tryz.func243
def br (a0:aF)(a1:aa):md a0 a1=Z73.md a0 a1:=by
 unfold md Z73.md
 first
 | (simp only [Z182.br];done)
 | (simp only [Z182.br];rfl)
 | rfl
end Z183
namespace Z184
inductive Pt where
 | p0 (a b:aC) (c d:Int)
def pid:Pt->Nat
 | .p0 ..=>2
def cg:Pt->List V
 | .p0 a b c d=>[.sl none 141 a,.sl none 141 b,.int .i64 c,.int .i64 d]
def bZ:Pt->List aW
 | .p0 a b c d=>[]
def step (J:Pt->aH):Pt->aH
 | .p0 a b c d=>(cond (decide (d<c)) (m2 d (b.length:Int) (cond (d==0) (call (Z173.R (aR.at b (toNat d))) fun v1=>(cond (!v1) (ret (d:Int)) (cond (decide (d>0)) (ck (decide ((0:Int)<=(i64.wrap (d - 1)))) (ck (decide ((i64.wrap (d - 1))<(a.length:Int))) (call (Z183.R ((aR.at a (toNat (i64.wrap (d - 1)))).an,(aR.at b (toNat d)))) fun v2=>(cond (!v2) (ret (d:Int)) (J (.p0 a b c (i64.wrap (d+1)))))))) (J (.p0 a b c (i64.wrap (d+1))))))) (cond (decide (d>0)) (ck (decide ((0:Int)<=(i64.wrap (d - 1)))) (ck (decide ((i64.wrap (d - 1))<(a.length:Int))) (call (Z183.R ((aR.at a (toNat (i64.wrap (d - 1)))).an,(aR.at b (toNat d)))) fun v3=>(cond (!v3) (ret (d:Int)) (J (.p0 a b c (i64.wrap (d+1)))))))) (J (.p0 a b c (i64.wrap (d+1))))))) (ret ((-1):Int)))
def start (J:Pt->aH)(x0:aC):aH:=J (.p0 x0 x0 (x0.length:Int) 0)
def live:Nat->Live:=fun i=>match i with | 2=>[(0,none),(5,none),(6,none),(7,none)] | _=>[]
def md (a0:List aa):Int:=(dQ (S:=Unit) (β:=Int) (fun (i1:Nat) (y1:aa) (s3:Unit)=>(cond ((i1:Int)==0) (cond (!(Z173.md y1)) (.inr ((i1:Int):Int)) (cond (decide ((i1:Int)>0)) (cond (!(Z183.md ((a0.getD (toNat (i64.wrap ((i1:Int) - 1))) aa.zero).an) y1)) (.inr ((i1:Int):Int)) (.inl ())) (.inl ()))) (cond (decide ((i1:Int)>0)) (cond (!(Z183.md ((a0.getD (toNat (i64.wrap ((i1:Int) - 1))) aa.zero).an) y1)) (.inr ((i1:Int):Int)) (.inl ())) (.inl ())))) (fun (s3:Unit)=>((-1):Int)) 0 a0 ())
def gd (a0:List aa):Prop:=(bL (2^21) (fun y:aa=>aa.Sm (2^21) y) a0)
def R:=RR gd md
def aj {a0}(h:gd a0):R (a0.map aa.row)=some (md a0):=aN (a:=a0) h
def aT:=CN [pL 141] oI RT.dec R
def bt (a0)(hg:gd a0):∃n,start (iter step n) (a0.map aa.row)=ret (md a0):=by
 unfold gd at hg
 have H0:=hg
 unfold start md
 try simp only [SS]
 have Bh2:a0.length<=maxLen:=(by
   have:=(H0).1
   try simp only [maxLen] at *
   omega)
 refine ex_eq (out:=ret) (cR (z:=aa.zero)) ?_
 refine dK (p:=Pt.p0 (a0.map aa.row) (a0.map aa.row) (a0.length:Int) 0) fz ?_
 refine cj (pt:=fun (i1:Nat) (s3:Unit)=>Pt.p0 (a0.map aa.row) (a0.map aa.row) (a0.length:Int) (i1:Int)) (s:=(():Unit)) (out:=ret) (fun _ _=>True) (fun J i1 s3 h2 hih2=>?_) (fun s3 hih2=>?_) trivial
 ·simp only [step,SS]
  have bb_:=Bh2
  simp only [maxLen] at bb_
  have:=(H0).1
  refine bz.yes (by apply decide_eq_true;omega) ?_
  refine bz.yes aI ?_
  refine bz.yes (aL h2) ?_
  refine bz.bif (fun c4=>?_) (fun c4=>?_)
  ·have dc4:=c4
   try simp only [DC] at dc4
   refine cr (Z173.aj (bL.getD (z:=aa.zero) H0 h2)) ?_
   refine bz.bif (fun c5=>?_) (fun c5=>?_)
   ·refine bz.inr ?_
    all_goals exact fz
   ·have dc5:=c5
    try simp only [DC] at dc5
    refine bz.bif (fun c6=>?_) (fun c6=>?_)
    ·have dc6:=c6
     try simp only [DC] at dc6
     refine bz.yes dt ?_
     refine bz.yes (have:=(H0).1;dt) ?_
     refine cr (Z183.aj ⟨(bL.getD (z:=aa.zero) H0 (by first | assumption | omega | (simp (disch:=omega) only [wi];omega) | (simp;omega))).1,(bL.getD (z:=aa.zero) H0 h2)⟩) ?_
     refine bz.bif (fun c7=>?_) (fun c7=>?_)
     ·refine bz.inr ?_
      all_goals exact fz
     ·refine bz.inl trivial ?_
      rw [aG h2 Bh2]
      all_goals exact fz
    ·refine bz.inl trivial ?_
     rw [aG h2 Bh2]
     all_goals exact fz
  ·have dc4:=c4
   try simp only [DC] at dc4
   refine bz.bif (fun c8=>?_) (fun c8=>?_)
   ·have dc8:=c8
    try simp only [DC] at dc8
    refine bz.yes dt ?_
    refine bz.yes (have:=(H0).1;dt) ?_
    refine cr (Z183.aj ⟨(bL.getD (z:=aa.zero) H0 (by first | assumption | omega | (simp (disch:=omega) only [wi];omega) | (simp;omega))).1,(bL.getD (z:=aa.zero) H0 h2)⟩) ?_
    refine bz.bif (fun c9=>?_) (fun c9=>?_)
    ·refine bz.inr ?_
     all_goals exact fz
    ·refine bz.inl trivial ?_
     rw [aG h2 Bh2]
     all_goals exact fz
   ·refine bz.inl trivial ?_
    rw [aG h2 Bh2]
    all_goals exact fz
 ·simp only [step,SS]
  have:=(H0).1
  refine dx (by apply decide_eq_false;omega) ?_
  refine ⟨0,?_⟩
  all_goals exact fz
def af:cw 208 aT:=L1 36 pid cg bZ live step start mix aE bt (.cons Z173.af (.cons Z183.af .nil)) Tryz.func208
def br (a0:List aa):md a0=Z74.md a0:=by
 unfold md Z74.md
 rw [<-cR (z:=aa.zero),<-cR (z:=aa.zero)]
 refine uF (fun _ _=>True) (fun i s hi _=>⟨?_,fun _ _=>trivial⟩) (fun _ _=>rfl) trivial
 simp only [Z173.br,Z183.br]
 by_cases h0:i=0
 ·subst h0;rfl
 ·have e:((i:Int)==0)=false:=beq_eq_false_iff_ne.2 (by omega)
  simp only [e,bq]
end Z184
namespace Z185
def F (x0:aC):aH:=(call (Z141.R ((x0.length:Int),1,12)) fun v1=>(cond v1 (call (Z184.R x0) fun v2=>ret ((decide (v2<0)):Bool)) aY))
def md (a0:List aa):Bool:=(cond (Z141.md (a0.length:Int) 1 12) ((decide ((Z184.md a0)<0)):Bool) (false:Bool))
def gd (a0:List aa):Prop:=(bL (2^21) (fun y:aa=>aa.Sm (2^21) y) a0)
def R:=RR gd md
def aj {a0}(h:gd a0):R (a0.map aa.row)=some (md a0):=aN (a:=a0) h
def aT:=CN [pL 141] oB RT.dec R
def bt (a0)(hg:gd a0):F (a0.map aa.row)=ret (md a0):=by
 unfold gd at hg
 have H0:=hg
 unfold F md
 try simp only [SS]
 refine ct (Z141.aj trivial) ?_
 refine au ret (fun c1=>?_) (fun _=>rfl)
 refine ct (Z184.aj H0) ?_
 all_goals exact fz
def af:cw 169 aT:=W1 11 F mix aE bt (.cons Z141.af (.cons Z184.af .nil)) Tryz.func169
def tr {a0:List aa}(h:md a0=true):1<=a0.length/\a0.length<=12:=by simp [md,Z141.md] at h;omega
def br (a0:List aa):md a0=Z75.md a0:=by
 unfold md Z75.md
 first
 | (simp only [Z141.br,Z184.br];done)
 | (simp only [Z141.br,Z184.br];rfl)
 | rfl
end Z185
namespace Z186
def F (x0:aC):aH:=(ck (decide ((0:Int)<=(i64.wrap ((x0.length:Int) - 1)))) (ck (decide ((i64.wrap ((x0.length:Int) - 1))<(x0.length:Int))) (ret ((aR.at x0 (toNat (i64.wrap ((x0.length:Int) - 1)))).an:bY))))
def md (a0:List aa):aF:=(a0.getD (toNat (i64.wrap ((a0.length:Int) - 1))) aa.zero).an
def gd (a0:List aa):Prop:=(bL (2^21) (fun y:aa=>aa.Sm (2^21) y) a0)/\(1<=a0.length)
def R:=RR gd md
def aj {a0}(h:gd a0):R (a0.map aa.row)=some (aF.r (md a0)):=aN (a:=a0) h
def aT:=CN [pL 141] (.agg [.rd (.int .i64),.rd (.int .i64),.rd (.int .i64),.rd (.int .i64),.rd (.int .i64),.rd (.int .i64),.rd (.int .i64),.rd (.int .i64),.rd (.sl 3),.rd (.int .i64),.rd (.sl 3),.rd (.int .i64),.rd (.int .i64),.rd (.sl 3),.rd (.int .i64),.rd (.bool)]) RT.dec R
def bt (a0)(hg:gd a0):F (a0.map aa.row)=ret (aF.r (md a0)):=by
 obtain ⟨H0,HX⟩:=hg
 unfold F md
 try simp only [SS]
 refine ak (have:=(H0).1;dt) ?_
 refine ak (have:=(H0).1;dt) ?_
 all_goals exact fz
def af:cw 215 aT:=W1 10 F mix aE bt .nil Tryz.func215
def gh {a0:List aa}(hg:gd a0):aF.Sm (2^21) (md a0):=by
 unfold gd at hg;unfold md
 have h1:=hg.1.1
 have h2:=hg.2
 exact (bL.getD hg.1 (by simp (disch:=omega) only [Go.IntWalk.i64_in];omega)).1
end Z186
namespace Z187
def F (x0:aU):aH:=(call (Z142.R x0.bk) fun v1=>(cond (!v1) aY (cond (x0.bK==1) (call (Z141.R (x0.bW,0,999999)) fun v2=>(cond v2 (ret (((x0.bI.length:Int)==0):Bool)) aY)) (cond (x0.bK==2) (call (Z147.R x0.bW) fun v3=>(cond v3 (ret (((x0.bI.length:Int)==0):Bool)) aY)) (cond (x0.bK==3) (call (Z147.R x0.bW) fun v4=>(cond v4 (call (Z146.R x0.bI) fun v5=>ret (v5:Bool)) aY)) aY)))))
def md (a0:ah):Bool:=(cond (!(Z142.md a0.bk)) (false:Bool) (cond (a0.bK==1) (cond (Z141.md a0.bW 0 999999) (((a0.bI.length:Int)==0):Bool) (false:Bool)) (cond (a0.bK==2) (cond (Z147.md a0.bW) (((a0.bI.length:Int)==0):Bool) (false:Bool)) (cond (a0.bK==3) (cond (Z147.md a0.bW) ((Z146.md a0.bI):Bool) (false:Bool)) (false:Bool)))))
def gd (a0:ah):Prop:=(ah.Sm (2^21) a0)
def R:=RR gd md
def aj {a0}(h:gd a0):R (ah.r a0)=some (md a0):=aN (a:=a0) h
def aT:=CN [.agg qX] oB RT.dec R
def bt (a0)(hg:gd a0):F (ah.r a0)=ret (md a0):=by
 unfold gd at hg
 have H0:=hg
 unfold F md
 try simp only [SS]
 refine ct (Z142.aj (le_trans H0.1 (by decide))) ?_
 refine au ret (fun _=>rfl) (fun c1=>?_)
 refine au ret (fun c2=>?_) (fun c2=>?_)
 ·refine ct (Z141.aj trivial) ?_
  refine au ret (fun c3=>?_) (fun _=>rfl)
  all_goals exact fz
 ·refine au ret (fun c4=>?_) (fun c4=>?_)
  ·refine ct (Z147.aj trivial) ?_
   refine au ret (fun c5=>?_) (fun _=>rfl)
   all_goals exact fz
  ·refine au ret (fun c6=>?_) (fun _=>rfl)
   refine ct (Z147.aj trivial) ?_
   refine au ret (fun c7=>?_) (fun _=>rfl)
   refine ct (Z146.aj (H0.2.mono (by decide) (fun x hx=>(le_trans hx (by decide))))) ?_
   all_goals exact fz
def af:cw 253 aT:=W1 41 F mix aE bt (.cons Z142.af (.cons Z141.af (.cons Z147.af (.cons Z146.af .nil)))) Tryz.func253
def br (a0:ah):md a0=Z77.md a0:=by
 unfold md Z77.md
 simp only [Z142.br,Z141.br,Z147.md,Z146.br]
 cases Z48.md a0.bk<;>simp
end Z187
namespace Z188
set_option maxHeartbeats 1000000 in
set_option maxRecDepth 100000 in
open Go.RowKit in
def calls (a b:aB)(w:World):Calls Tryz.prog 305 #[.string a,.string b] w fun e w'=>e=.returned (.int .i64 (Lib.compareBytes a.data.toList b.data.toList))/\w'=w:=by
 go_enter Tryz.func305,Tryz.ntmps305
 go_wp2
 rw [run_callFunc_extern Tryz.func314 (by kernel_rfl) (by kernel_rfl) (by kernel_rfl) (e:=Extern.BytealgCompare.compare) (by kernel_rfl),Lib.run_compareString]
 simp only [Result.andThen]
 rw [Oper.upon_value]
 go_wp2
 go_ret
 exact ⟨rfl,rfl⟩
def md (a0 a1:aB):Int:=Lib.compareBytes a0.data.toList a1.data.toList
def R (x:aB×aB):Option Int:=some (md x.1 x.2)
def aj {a0 a1:aB}(_:True):R (a0,a1)=some (md a0 a1):=rfl
def sem:List L->Option (List L)
 | [y0,y1]=>(R (y0.toStr,y1.toStr)).map RT.enc
 | _=>none
def aT:fQ:=⟨[.rd .str,.rd .str],.one (.rd (.int .i64)),sem⟩
def af:cw 305 aT:=by
 refine uo ⟨Tryz.f305,Tryz.func305,by kernel_rfl,by kernel_rfl⟩ rfl (fun _=>rfl) fun ls r w vs Z hs hf=>?_
 simp only [aT] at hs
 unfold sem at hs
 split at hs
 ·rename_i a b
  cases hf with
  | cons h1 ht=>
   cases ht with
   | cons h2 ht=>
    cases ht
    have e1:_=Value.string a.toStr:=h1
    have e2:_=Value.string b.toStr:=h2
    subst e1;subst e2
    refine (calls a.toStr b.toStr w).mono fun e w' ⟨h3,h4⟩=>⟨_,h3,h4,?_⟩
    injection hs with hs
    subst hs
    rfl
 ·cases hs
end Z188
namespace Z189
def F (x0 x1:aB):aH:=(call (Z188.R (x0,x1)) fun v1=>ret (v1:Int))
def md (a0 a1:aB):Int:=((Z188.md a0 a1):Int)
def gd (a0 a1:aB):Prop:=True
def R:=RR (p2 gd) (u2 md)
def aj {a0 a1}(h:gd a0 a1):R (a0,a1)=some (md a0 a1):=aN (a:=(a0,a1)) h
def aT:=CN [pS,pS] oI RT.dec R
def bt (a0)(a1)(hg:gd a0 a1):F a0 a1=ret (md a0 a1):=by
 unfold F md
 try simp only [SS]
 refine ct (Z188.aj trivial) ?_
 all_goals exact fz
def af:cw 282 aT:=W2 8 F mix aE bt (.cons Z188.af .nil) Tryz.func282
end Z189
namespace Z190
def F (x0 x1:aB):aH:=(call (Z189.R (x0,x1)) fun v1=>ret (v1:Int))
def md (a0 a1:aB):Int:=((Z189.md a0 a1):Int)
def gd (a0 a1:aB):Prop:=True
def R:=RR (p2 gd) (u2 md)
def aj {a0 a1}(h:gd a0 a1):R (a0,a1)=some (md a0 a1):=aN (a:=(a0,a1)) h
def aT:=CN [pS,pS] oI RT.dec R
def bt (a0)(a1)(hg:gd a0 a1):F a0 a1=ret (md a0 a1):=by
 unfold F md
 try simp only [SS]
 refine ct (Z189.aj trivial) ?_
 all_goals exact fz
def af:cw 254 aT:=W2 8 F mix aE bt (.cons Z189.af .nil) Tryz.func254
def cmp:∀a b:List UInt8,Lib.compareBytes a b=(cond (Op.bytesLess a b) ((-1):Int) (cond (!((Op.bytesLess a b)||(a==b))) (1:Int) (0:Int)))
 | [],[]=>by simp [Lib.compareBytes,Op.bytesLess]
 | [],_::_=>by simp [Lib.compareBytes,Op.bytesLess]
 | _::_,[]=>by simp [Lib.compareBytes,Op.bytesLess]
 | a::xs,b::ys=>by
  simp only [Lib.compareBytes,Op.bytesLess]
  rw [cmp xs ys]
  by_cases h1:a<b
  ·simp [h1]
  ·by_cases h2:b<a
   ·have hne:a≠b:=fun e=>by subst e;exact h1 h2
    have hb:(a==b)=false:=beq_eq_false_iff_ne.2 hne
    simp [h1,h2,hb,hne]
   ·have he:a=b:=by
     have:=UInt8.lt_or_eq_of_le (UInt8.not_lt.1 h1)
     rcases this with h | h
     ·exact (h2 h).elim
     ·exact h.symm
    subst he
    simp [h1]
def br (a0 a1:aB):md a0 a1=Z78.md a0 a1:=by
 unfold md Z78.md Z189.md Z188.md
 rw [cmp,ByteArray.toList_eq,ByteArray.toList_eq]
end Z190
namespace Z191
inductive Pt where
 | p0 (a b:aC) (c d:Int)
def pid:Pt->Nat
 | .p0 ..=>2
def cg:Pt->List V
 | .p0 a b c d=>[.sl none 57 a,.sl none 57 b,.int .i64 c,.int .i64 d]
def bZ:Pt->List aW
 | .p0 a b c d=>[]
def step (J:Pt->aH):Pt->aH
 | .p0 a b c d=>(cond (decide (d<c)) (m2 d (b.length:Int) (call (Z187.R (aU.at b (toNat d))) fun v1=>(cond (!v1) aY (cond (decide (d>0)) (ck (decide ((0:Int)<=(i64.wrap (d - 1)))) (ck (decide ((i64.wrap (d - 1))<(a.length:Int))) (call (Z190.R ((aU.at b (toNat d)).bk,(aU.at a (toNat (i64.wrap (d - 1)))).bk)) fun v2=>(cond (decide (v2<=0)) aY (J (.p0 a b c (i64.wrap (d+1)))))))) (J (.p0 a b c (i64.wrap (d+1)))))))) (ret ((decide ((a.length:Int)<=12)):Bool)))
def start (J:Pt->aH)(x0:aC):aH:=J (.p0 x0 x0 (x0.length:Int) 0)
def live:Nat->Live:=fun i=>match i with | 2=>[(0,none),(5,none),(6,none),(7,none)] | _=>[]
def md (a0:List ah):Bool:=(dQ (S:=Unit) (β:=Bool) (fun (i1:Nat) (y1:ah) (s3:Unit)=>(cond (!(Z187.md y1)) (.inr (false:Bool)) (cond (decide ((i1:Int)>0)) (cond (decide ((Z190.md (y1.bk) ((a0.getD (toNat (i64.wrap ((i1:Int) - 1))) ah.zero).bk))<=0)) (.inr (false:Bool)) (.inl ())) (.inl ())))) (fun (s3:Unit)=>((decide ((a0.length:Int)<=12)):Bool)) 0 a0 ())
def gd (a0:List ah):Prop:=(bL (2^21) (fun y:ah=>ah.Sm (2^21) y) a0)
def R:=RR gd md
def aj {a0}(h:gd a0):R (a0.map ah.row)=some (md a0):=aN (a:=a0) h
def aT:=CN [pL 57] oB RT.dec R
def bt (a0)(hg:gd a0):∃n,start (iter step n) (a0.map ah.row)=ret (md a0):=by
 unfold gd at hg
 have H0:=hg
 unfold start md
 try simp only [SS]
 have Bh2:a0.length<=maxLen:=(by
   have:=(H0).1
   try simp only [maxLen] at *
   omega)
 refine ex_eq (out:=ret) (cR (z:=ah.zero)) ?_
 refine dK (p:=Pt.p0 (a0.map ah.row) (a0.map ah.row) (a0.length:Int) 0) fz ?_
 refine cj (pt:=fun (i1:Nat) (s3:Unit)=>Pt.p0 (a0.map ah.row) (a0.map ah.row) (a0.length:Int) (i1:Int)) (s:=(():Unit)) (out:=ret) (fun _ _=>True) (fun J i1 s3 h2 hih2=>?_) (fun s3 hih2=>?_) trivial
 ·simp only [step,SS]
  have bb_:=Bh2
  simp only [maxLen] at bb_
  have:=(H0).1
  refine bz.yes (by apply decide_eq_true;omega) ?_
  refine bz.yes aI ?_
  refine bz.yes (aL h2) ?_
  refine cr (Z187.aj (bL.getD (z:=ah.zero) H0 h2)) ?_
  refine bz.bif (fun _=>bz.inr rfl) (fun c4=>?_)
  have dc4:=c4
  try simp only [DC] at dc4
  refine bz.bif (fun c5=>?_) (fun c5=>?_)
  ·have dc5:=c5
   try simp only [DC] at dc5
   refine bz.yes dt ?_
   refine bz.yes (have:=(H0).1;dt) ?_
   refine cr (Z190.aj trivial) ?_
   refine bz.bif (fun _=>bz.inr rfl) (fun c6=>?_)
   refine bz.inl trivial ?_
   rw [aG h2 Bh2]
   all_goals exact fz
  ·refine bz.inl trivial ?_
   rw [aG h2 Bh2]
   all_goals exact fz
 ·simp only [step,SS]
  have:=(H0).1
  refine dx (by apply decide_eq_false;omega) ?_
  refine ⟨0,?_⟩
  all_goals exact fz
def af:cw 221 aT:=L1 35 pid cg bZ live step start mix aE bt (.cons Z187.af (.cons Z190.af .nil)) Tryz.func221
def br (a0:List ah):md a0=Z79.md a0:=by
 unfold md Z79.md
 refine lp (fun i x _ s=>?_) (fun s=>rfl)
 simp only [Z187.br,Z190.br,Z78.swap]
end Z191
namespace Z192
inductive Pt where
 | p0 (a:aC) (b c:Int) (d:aC)
def pid:Pt->Nat
 | .p0 ..=>3
def cg:Pt->List V
 | .p0 a b c d=>[.own 0,.sl none 5 a,.int .i64 b,.int .i64 c]
def bZ:Pt->List aW
 | .p0 a b c d=>[.row 3 d]
def step (J:Pt->aH):Pt->aH
 | .p0 a b c d=>(cond (decide (c<b)) (m2 c (a.length:Int) (ck (eT (((d.length:Int)+1)*8)) (J (.p0 a b (i64.wrap (c+1)) (d++[[L.int (i64.wrap (je a (toNat c)))]]))))) (ret (d:aC)))
def start (J:Pt->aH)(x0:aC):aH:=J (.p0 x0 (x0.length:Int) 0 [[L.int (x0.length:Int)]])
def live:Nat->Live:=fun i=>match i with | 3=>[(3,none),(9,none),(10,none),(11,none)] | _=>[]
def md (a0:List Int):List Int:=([(a0.length:Int)]++a0.map (fun (y1:Int)=>(i64.wrap y1)))
def gd (a0:List Int):Prop:=(bL (2^38) (fun y:Int=>True) a0)
def R:=RR gd md
def aj {a0}(h:gd a0):R (a0.map bh)=some ((md a0).map bh):=aN (a:=a0) h
def aT:=CN [pL 5] (oL 3) RT.dec R
def bt (a0)(hg:gd a0):∃n,start (iter step n) (a0.map bh)=ret ((md a0).map bh):=by
 unfold gd at hg
 have H0:=hg
 unfold start md
 try simp only [SS]
 have Bh2:a0.length<=maxLen:=(by
   have:=(H0).1
   try simp only [maxLen] at *
   omega)
 refine ex_eq (out:=(fun b:List Int=>ret ((b.map bh):aC))) (lX (g:=fun (y1:Int)=>(i64.wrap y1)) (z:=0) (t:=fun (s3:List Int)=>s3) (s:=[(a0.length:Int)])) ?_
 refine dK (p:=Pt.p0 (a0.map bh) (a0.length:Int) 0 ([(a0.length:Int)].map bh)) fz ?_
 refine cj (pt:=fun (i1:Nat) (s3:List Int)=>Pt.p0 (a0.map bh) (a0.length:Int) (i1:Int) (s3.map bh)) (s:=([(a0.length:Int)]:List Int)) (out:=(fun b:List Int=>ret ((b.map bh):aC))) (fun (i1:Nat) (s3:List Int)=>s3.length<=[(a0.length:Int)].length+1*i1) (fun J i1 s3 h2 hih2=>?_) (fun s3 hih2=>?_) (by simp)
 ·simp only [step,SS]
  have gr_:=hih2
  try simp only [LN] at gr_
  have:=(H0).1
  have bb_:=Bh2
  simp only [maxLen] at bb_
  have:=(H0).1
  refine bz.yes (by apply decide_eq_true;omega) ?_
  refine bz.yes aI ?_
  refine bz.yes (aL h2) ?_
  refine bz.yes lm ?_
  refine bz.inl (by
    have g_:=hih2
    try simp only [LN] at g_ ⊢
    first | omega | (simp;done) | (simp;omega)) ?_
  rw [aG h2 Bh2]
  all_goals exact fz
 ·simp only [step,SS]
  have gr_:=hih2
  try simp only [LN] at gr_
  have:=(H0).1
  have:=(H0).1
  refine dx (by apply decide_eq_false;omega) ?_
  refine ⟨0,?_⟩
  all_goals exact fz
def af:cw 313 aT:=L1 22 pid cg bZ live step start mix aE bt .nil Tryz.func313
def len (a0:List Int):(md a0).length=1+a0.length:=by simp [md];omega
def br (a0:List Int):md a0=Z80.md a0:=by
 unfold md Z80.md
 first
 | (simp only [id];done)
 | (simp only [id];rfl)
 | rfl
end Z192
namespace Z193
def F (x0:aB):aH:=(ck (decide ((x0.size:Int)<=140737488355328)) (call (Z192.R (ig x0)) fun v1=>ret (v1:aC)))
def md (a0:aB):List Int:=(Z192.md (iL a0))
def gd (a0:aB):Prop:=(a0.size<=(2^21))
def R:=RR gd md
def aj {a0}(h:gd a0):R a0=some ((md a0).map bh):=aN (a:=a0) h
def aT:=CN [pS] (oL 3) RT.dec R
def bt (a0)(hg:gd a0):F a0=ret ((md a0).map bh):=by
 unfold gd at hg
 have H0:=hg
 unfold F md
 try simp only [SS]
 refine ak (have:=H0;dt) ?_
 refine aZ ((Z192.md (iL a0)).map bh) (rq (Z192.aj (a0:=(iL a0)) ⟨(have:=gL a0;have:=H0;om),fun _ _=>trivial⟩)) ?_
 try simp only [SS]
 all_goals exact fz
def af:cw 304 aT:=W1 6 F mix aE bt (.cons Z192.af .nil) Tryz.func304
def len (a0:aB):(md a0).length=1+a0.size:=by simp [md,Z192.len,gL]
def br (a0:aB):md a0=Z81.md a0:=by
 unfold md Z81.md
 first
 | (simp only [Z192.br];done)
 | (simp only [Z192.br];rfl)
 | rfl
end Z193
namespace Z194
inductive Pt where
 | p0 (a:aC) (b c:Int) (d:aC)
def pid:Pt->Nat
 | .p0 ..=>3
def cg:Pt->List V
 | .p0 a b c d=>[.own 0,.sl none 9 a,.int .i64 b,.int .i64 c]
def bZ:Pt->List aW
 | .p0 a b c d=>[.row 3 d]
def step (J:Pt->aH):Pt->aH
 | .p0 a b c d=>(cond (decide (c<b)) (m2 c (a.length:Int) (call (Z193.R (pV a (toNat c))) fun v1=>(ck (eT (((d.length:Int)+(v1.length:Int))*8)) (J (.p0 a b (i64.wrap (c+1)) (d++v1)))))) (ret (d:aC)))
def start (J:Pt->aH)(x0:aU):aH:=(call (Z193.R x0.bk) fun v1=>(ck (eT (((v1.length:Int)+3)*8)) (J (.p0 x0.bI (x0.bI.length:Int) 0 (v1++[[L.int x0.bK],[L.int x0.bW],[L.int (x0.bI.length:Int)]])))))
def live:Nat->Live:=fun i=>match i with | 3=>[(3,none),(19,none),(20,none),(21,none)] | _=>[]
def md (a0:ah):List Int:=(((Z193.md a0.bk)++[a0.bK,a0.bW,(a0.bI.length:Int)])++a0.bI.flatMap (fun (y1:aB)=>(Z193.md y1)))
def gd (a0:ah):Prop:=(ah.Sm (2^21) a0)
def R:=RR gd md
def aj {a0}(h:gd a0):R (ah.r a0)=some ((md a0).map bh):=aN (a:=a0) h
def aT:=CN [.agg qX] (oL 3) RT.dec R
def bt (a0)(hg:gd a0):∃n,start (iter step n) (ah.r a0)=ret ((md a0).map bh):=by
 unfold gd at hg
 have H0:=hg
 unfold start md
 try simp only [SS]
 refine cx (Z193.aj H0.1) ?_
 try simp only [SS]
 refine dI (have:=Z193.len a0.bk;have:=H0.1;lm) ?_
 have Bh2:a0.bI.length<=maxLen:=(by
   have:=(H0.2).1
   try simp only [maxLen] at *
   omega)
 refine ex_eq (out:=(fun b:List Int=>ret ((b.map bh):aC))) (qE (g:=fun (y1:aB)=>(Z193.md y1)) (z:=⟨#[]⟩) (t:=fun (s3:List Int)=>s3) (s:=((Z193.md a0.bk)++[a0.bK,a0.bW,(a0.bI.length:Int)]))) ?_
 refine dK (p:=Pt.p0 (a0.bI.map cF) (a0.bI.length:Int) 0 (((Z193.md a0.bk)++[a0.bK,a0.bW,(a0.bI.length:Int)]).map bh)) fz ?_
 refine cj (pt:=fun (i1:Nat) (s3:List Int)=>Pt.p0 (a0.bI.map cF) (a0.bI.length:Int) (i1:Int) (s3.map bh)) (s:=(((Z193.md a0.bk)++[a0.bK,a0.bW,(a0.bI.length:Int)]):List Int)) (out:=(fun b:List Int=>ret ((b.map bh):aC))) (fun (i1:Nat) (s3:List Int)=>s3.length<=4+a0.bk.size+i1*(2^21+1)) (fun J i1 s3 h2 hih2=>?_) (fun s3 hih2=>?_) (by
   have:=(H0.2).1
   have:=Z193.len a0.bk
   have:=H0.1
   try simp only [LN]
   try simp
   try omega)
 ·simp only [step,SS]
  have gr_:=hih2
  try simp only [LN] at gr_
  have:=H0.1
  have bb_:=Bh2
  simp only [maxLen] at bb_
  have:=(H0.2).1
  refine bz.yes (by apply decide_eq_true;omega) ?_
  refine bz.yes aI ?_
  refine bz.yes (aL h2) ?_
  refine cr (Z193.aj (bL.getD (z:=⟨#[]⟩) H0.2 h2)) ?_
  try simp only [SS]
  refine bz.yes (have:=Z193.len (a0.bI.getD i1 ⟨#[]⟩);have:=(bL.getD (z:=⟨#[]⟩) H0.2 h2);lm) ?_
  refine bz.inl (by
    have:=Z193.len (a0.bI.getD i1 ⟨#[]⟩)
    have:=(bL.getD (z:=⟨#[]⟩) H0.2 h2)
    have g_:=hih2
    try simp only [LN] at g_ ⊢
    first | omega | (simp;done) | (simp;omega)) ?_
  rw [aG h2 Bh2]
  all_goals exact fz
 ·simp only [step,SS]
  have gr_:=hih2
  try simp only [LN] at gr_
  have:=H0.1
  have:=(H0.2).1
  refine dx (by apply decide_eq_false;omega) ?_
  refine ⟨0,?_⟩
  all_goals exact fz
def af:cw 280 aT:=L1 31 pid cg bZ live step start mix aE bt (.cons Z193.af .nil) Tryz.func280
def gh {a0:ah}(hg:gd a0):bL (2^43 - 1) (fun y:Int=>True) (md a0):=by
 unfold gd at hg
 refine ⟨?_,fun _ _=>trivial⟩
 unfold md
 have h1:=lA (xs:=a0.bI) (g:=fun y=>Z193.md y) (n:=2^21+1) (fun x hx=>by rw [Z193.len];have:=hg.2.2 x hx;omega)
 have h2:=hg.1
 have h3:=hg.2.1
 have h4:=Z193.len a0.bk
 simp only [List.length_append,List.length_cons,List.length_nil]
 omega
def br (a0:ah):md a0=Z82.md a0:=by
 unfold md Z82.md
 first
 | (simp only [Z193.br];done)
 | (simp only [Z193.br];rfl)
 | rfl
end Z194
namespace Z195
def F (x0:aU):aH:=(call (Z194.R x0) fun v1=>(ck (eT (((1:Int)+(v1.length:Int))*8)) (call (Z158.R ([[L.int 227]]++v1)) fun v2=>ret (v2:Int))))
def md (a0:ah):Int:=((Z158.md ([227]++(Z194.md a0))):Int)
def gd (a0:ah):Prop:=(ah.Sm (2^21) a0)
def R:=RR gd md
def aj {a0}(h:gd a0):R (ah.r a0)=some (md a0):=aN (a:=a0) h
def aT:=CN [.agg qX] oI RT.dec R
def bt (a0)(hg:gd a0):F (ah.r a0)=ret (md a0):=by
 unfold gd at hg
 have H0:=hg
 unfold F md
 try simp only [SS]
 refine ct (Z194.aj H0) ?_
 try simp only [SS]
 refine ak (have:=((Z194.gh (a0:=a0) H0)).1;lm) ?_
 refine aZ (Z158.md ([227]++(Z194.md a0))) (rq (Z158.aj (a0:=([227]++(Z194.md a0))) ⟨(have:=((Z194.gh (a0:=a0) H0)).1;om),fun _ _=>trivial⟩)) ?_
 all_goals exact fz
def af:cw 252 aT:=W1 8 F mix aE bt (.cons Z194.af (.cons Z158.af .nil)) Tryz.func252
def br (a0:ah):md a0=Z83.md a0:=by
 unfold md Z83.md
 first
 | (simp only [Z194.br,Z158.br];done)
 | (simp only [Z194.br,Z158.br];rfl)
 | rfl
end Z195
namespace Z196
inductive Pt where
 | p0 (a:aC) (b c:Int) (d:aC)
def pid:Pt->Nat
 | .p0 ..=>3
def cg:Pt->List V
 | .p0 a b c d=>[.own 0,.sl none 57 a,.int .i64 b,.int .i64 c]
def bZ:Pt->List aW
 | .p0 a b c d=>[.row 3 d]
def step (J:Pt->aH):Pt->aH
 | .p0 a b c d=>(cond (decide (c<b)) (m2 c (a.length:Int) (call (Z195.R (aU.at a (toNat c))) fun v1=>(ck (eT (((d.length:Int)+1)*8)) (J (.p0 a b (i64.wrap (c+1)) (d++[[L.int v1]])))))) (ret (d:aC)))
def start (J:Pt->aH)(x0:aC):aH:=J (.p0 x0 (x0.length:Int) 0 [])
def live:Nat->Live:=fun i=>match i with | 3=>[(3,some 3),(7,none),(8,none),(9,none)] | _=>[]
def md (a0:List ah):List Int:=(a0.map (fun (y1:ah)=>(Z195.md y1)))
def gd (a0:List ah):Prop:=(bL (2^21) (fun y:ah=>ah.Sm (2^21) y) a0)
def R:=RR gd md
def aj {a0}(h:gd a0):R (a0.map ah.row)=some ((md a0).map bh):=aN (a:=a0) h
def aT:=CN [pL 57] (oL 3) RT.dec R
def bt (a0)(hg:gd a0):∃n,start (iter step n) (a0.map ah.row)=ret ((md a0).map bh):=by
 unfold gd at hg
 have H0:=hg
 unfold start md
 try simp only [SS]
 have Bh2:a0.length<=maxLen:=(by
   have:=(H0).1
   try simp only [maxLen] at *
   omega)
 refine ex_eq (out:=(fun b:List Int=>ret ((b.map bh):aC))) (mC (g:=fun (y1:ah)=>(Z195.md y1)) (z:=ah.zero) (t:=fun (s3:List Int)=>s3)) ?_
 refine dK (p:=Pt.p0 (a0.map ah.row) (a0.length:Int) 0 ([].map bh)) fz ?_
 refine cj (pt:=fun (i1:Nat) (s3:List Int)=>Pt.p0 (a0.map ah.row) (a0.length:Int) (i1:Int) (s3.map bh)) (s:=([]:List Int)) (out:=(fun b:List Int=>ret ((b.map bh):aC))) (fun (i1:Nat) (s3:List Int)=>s3.length<=([]:List Int).length+1*i1) (fun J i1 s3 h2 hih2=>?_) (fun s3 hih2=>?_) (by simp)
 ·simp only [step,SS]
  have gr_:=hih2
  try simp only [LN] at gr_
  have bb_:=Bh2
  simp only [maxLen] at bb_
  have:=(H0).1
  refine bz.yes (by apply decide_eq_true;omega) ?_
  refine bz.yes aI ?_
  refine bz.yes (aL h2) ?_
  refine cr (Z195.aj (bL.getD (z:=ah.zero) H0 h2)) ?_
  refine bz.yes lm ?_
  refine bz.inl (by
    have g_:=hih2
    try simp only [LN] at g_ ⊢
    first | omega | (simp;done) | (simp;omega)) ?_
  rw [aG h2 Bh2]
  all_goals exact fz
 ·simp only [step,SS]
  have gr_:=hih2
  try simp only [LN] at gr_
  have:=(H0).1
  refine dx (by apply decide_eq_false;omega) ?_
  refine ⟨0,?_⟩
  all_goals exact fz
def af:cw 220 aT:=L1 20 pid cg bZ live step start mix aE bt (.cons Z195.af .nil) Tryz.func220
def len (a0:List ah):(md a0).length=a0.length:=by simp [md]
def br (a0:List ah):md a0=Z84.md a0:=by
 unfold md Z84.md
 first
 | (simp only [Z195.br];done)
 | (simp only [Z195.br];rfl)
 | rfl
end Z196
namespace Z197
def F (x0:aC):aH:=(call (Z158.R x0) fun v1=>ret (v1:Int))
def md (a0:List Int):Int:=((Z158.md a0):Int)
def gd (a0:List Int):Prop:=(bL (2^42) (fun y:Int=>True) a0)
def R:=RR gd md
def aj {a0}(h:gd a0):R (a0.map bh)=some (md a0):=aN (a:=a0) h
def aT:=CN [pL 3] oI RT.dec R
def bt (a0)(hg:gd a0):F (a0.map bh)=ret (md a0):=by
 unfold gd at hg
 have H0:=hg
 unfold F md
 try simp only [SS]
 refine ct (Z158.aj (H0.mono (by decide) (fun x hx=>trivial))) ?_
 all_goals exact fz
def af:cw 287 aT:=W1 5 F mix aE bt (.cons Z158.af .nil) Tryz.func287
def br (a0:List Int):md a0=Z56.md a0:=by
 unfold md
 exact Z158.br a0
end Z197
namespace Z198
def F (x0 x1:Int):aH:=(call (Z197.R [[L.int 229],[L.int x0],[L.int x1]]) fun v1=>ret (v1:Int))
def md (a0 a1:Int):Int:=((Z197.md [229,a0,a1]):Int)
def gd (a0 a1:Int):Prop:=True
def R:=RR (p2 gd) (u2 md)
def aj {a0 a1}(h:gd a0 a1):R (a0,a1)=some (md a0 a1):=aN (a:=(a0,a1)) h
def aT:=CN [pI,pI] oI RT.dec R
def bt (a0)(a1)(hg:gd a0 a1):F a0 a1=ret (md a0 a1):=by
 unfold F md
 try simp only [SS]
 refine aZ (Z197.md [229,a0,a1]) (rq (Z197.aj (a0:=[229,a0,a1]) ⟨(om),fun _ _=>trivial⟩)) ?_
 all_goals exact fz
def af:cw 278 aT:=W2 9 F mix aE bt (.cons Z197.af .nil) Tryz.func278
def br (a0 a1:Int):md a0 a1=Z85.md a0 a1:=by
 unfold md Z85.md
 first
 | (simp only [Z197.br];done)
 | (simp only [Z197.br];rfl)
 | rfl
end Z198
namespace Z199
inductive Pt where
 | p0 (a:aC) (b:Int) (c:aC)
def pid:Pt->Nat
 | .p0 ..=>3
def cg:Pt->List V
 | .p0 a b c=>[.sl none 3 a,.own 0,.int .i64 b]
def bZ:Pt->List aW
 | .p0 a b c=>[.row 3 c]
def step (J:Pt->aH):Pt->aH
 | .p0 a b c=>(cond (decide (b<(a.length:Int))) (cond (decide ((i64.wrap (b+1))<(a.length:Int))) (m2 b (a.length:Int) (ck (decide ((0:Int)<=(i64.wrap (b+1)))) (ck (decide ((i64.wrap (b+1))<(a.length:Int))) (call (Z198.R ((je a (toNat b)),(je a (toNat (i64.wrap (b+1)))))) fun v1=>(ck (eT (((c.length:Int)+1)*8)) (J (.p0 a (i64.wrap (b+2)) (c++[[L.int v1]])))))))) (m2 b (a.length:Int) (ck (eT (((c.length:Int)+1)*8)) (J (.p0 a (i64.wrap (b+2)) (c++[[L.int (je a (toNat b))]])))))) (ret (c:aC)))
def start (J:Pt->aH)(x0:aC):aH:=J (.p0 x0 0 [])
def live:Nat->Live:=fun i=>match i with | 3=>[(0,none),(3,some 3),(4,none)] | _=>[]
def md (a0:List Int):List Int:=Z86.md a0
def gd (a0:List Int):Prop:=bL (2^38) (fun y:Int=>True) a0
def R:=RR gd md
def aj {a0}(h:gd a0):R (a0.map bh)=some ((md a0).map bh):=aN (a:=a0) h
def aT:=CN [pL 3] (oL 3) RT.dec R
def bt (a0)(hg:gd a0):∃n,start (iter step n) (a0.map bh)=ret ((md a0).map bh):=by
 obtain ⟨H1,_⟩:=hg
 have key:∀(k i:Nat) (c:List Int),i+k=a0.length->c.length<=i->∃n,iter step n (Pt.p0 (a0.map bh) (i:Int) (c.map bh))=ret ((c++Z86.up (a0.drop i)).map bh:aC):=by
  intro k
  induction k using Nat.strongRecOn with
  | _ k ih=>
  intro i c hi hc
  match k,hi,ih with
  | 0,hi,_=>
   refine ⟨1,?_⟩
   show step (iter step 0) (Pt.p0 _ _ _)=_
   simp only [step,List.length_map]
   refine cN (decide_eq_false (by omega)) ?_
   rw [List.drop_eq_nil_of_le (by omega)]
   simp only [Z86.up,List.append_nil]
  | 1,hi,ih=>
   obtain ⟨n,hn⟩:=ih 0 (by omega) (i+1) (c++[a0.getD i 0]) (by omega) (by simp;omega)
   have h2:∃n,iter step n (Pt.p0 (a0.map bh) (i64.wrap ((i:Int)+2)) ((c++[a0.getD i 0]).map bh))=ret ((c++[a0.getD i 0]).map bh:aC):=by
    refine ⟨1,?_⟩
    show step (iter step 0) (Pt.p0 _ _ _)=_
    simp only [step,List.length_map]
    refine cN (decide_eq_false ?_) rfl
    rw [Go.IntWalk.i64_in _ (by omega)];omega
   obtain ⟨n,hn⟩:=h2
   refine ⟨n+1,?_⟩
   show step (iter step n) (Pt.p0 _ _ _)=_
   simp only [step,List.length_map,cB,gN]
   refine ak (decide_eq_true (by omega)) (cN (decide_eq_false ?_) (ak (decide_eq_true (by omega)) (ak (decide_eq_true (by omega)) (ak (iJ (by omega)) ?_))))
   ·rw [Go.IntWalk.i64_in _ (by omega)];omega
   ·rw [List.map_append] at hn
    refine Eq.trans hn ?_
    rw [List.drop_eq_getElem_cons (by omega),List.drop_eq_nil_of_le (by omega),eK (by omega:i<a0.length)]
    simp only [Z86.up,List.map_append]
  | k+2,hi,ih=>
   obtain ⟨n,hn⟩:=ih k (by omega) (i+2) (c++[Z85.md (a0.getD i 0) (a0.getD (i+1) 0)]) (by omega) (by simp;omega)
   refine ⟨n+1,?_⟩
   show step (iter step n) (Pt.p0 _ _ _)=_
   have w1:i64.wrap ((i:Int)+1)=((i+1:Nat):Int):=by rw [Go.IntWalk.i64_in _ (by omega)];omega
   have w2:i64.wrap ((i:Int)+2)=((i+2:Nat):Int):=by rw [Go.IntWalk.i64_in _ (by omega)];omega
   simp only [step,List.length_map,w1,w2,cB,gN]
   refine ak (decide_eq_true (by omega)) (ak (decide_eq_true (by omega)) (ak (decide_eq_true (by omega)) (ak (decide_eq_true (by omega)) (ak (decide_eq_true (by omega)) (ak (decide_eq_true (by omega)) ?_)))))
   refine aZ (Z85.md (a0.getD i 0) (a0.getD (i+1) 0)) (by have:=Z198.aj (a0:=a0.getD i 0) (a1:=a0.getD (i+1) 0) trivial;rw [Z198.br] at this;exact this) (ak (iJ (by omega)) ?_)
   rw [List.map_append] at hn
   refine Eq.trans hn ?_
   rw [List.drop_eq_getElem_cons (by omega:i<a0.length),List.drop_eq_getElem_cons (by omega:i+1<a0.length),eK (by omega:i<a0.length),eK (by omega:i+1<a0.length)]
   simp only [Z86.up,List.append_assoc,List.cons_append,List.nil_append]
 have:=key a0.length 0 [] (by omega) (by simp)
 unfold start md Z86.md
 simpa using this
def af:cw 251 aT:=L1 38 pid cg bZ live step start mix aE bt (.cons Z198.af .nil) Tryz.func251
def br (a0:List Int):md a0=Z86.md a0:=by
 unfold md Z86.md
 first
 | (simp only [Z198.br];done)
 | (simp only [Z198.br];rfl)
 | rfl
end Z199
namespace Z200
inductive Pt where
 | p0 (a:aC)
 | p1 (a:aC)
def pid:Pt->Nat
 | .p0 ..=>3
 | .p1 ..=>3
def cg:Pt->List V
 | .p0 a=>[.sl none 3 a]
 | .p1 a=>[.own 0]
def bZ:Pt->List aW
 | .p0 a=>[]
 | .p1 a=>[.row 3 a]
def step (J:Pt->aH):Pt->aH
 | .p0 a=>(cond (decide ((a.length:Int)>1)) (call (Z199.R a) fun v1=>J (.p1 v1)) (ck (decide ((0:Int)<(a.length:Int))) (ret ((je a 0):Int))))
 | .p1 a=>(cond (decide ((a.length:Int)>1)) (call (Z199.R a) fun v1=>J (.p1 v1)) (ck (decide ((0:Int)<(a.length:Int))) (ret ((je a 0):Int))))
def start (J:Pt->aH)(x0:aC):aH:=(cond ((x0.length:Int)==0) (call (Z197.R [[L.int 229]]) fun v1=>ret (v1:Int)) (J (.p0 x0)))
def live:Nat->Live:=fun i=>match i with | 3=>[(0,none)] | _=>[]
def md (a0:List Int):Int:=Z87.md a0
def gd (a0:List Int):Prop:=bL (2^38) (fun y:Int=>True) a0
def R:=RR gd md
def aj {a0}(h:gd a0):R (a0.map bh)=some (md a0):=aN (a:=a0) h
def aT:=CN [pL 3] oI RT.dec R
def bt (a0)(hg:gd a0):∃n,start (iter step n) (a0.map bh)=ret (md a0):=by
 have one:∀(l:List Int) (r:Int) (n:Nat),bL (2^38) (fun y:Int=>True) l->0<l.length->(if l.length>1 then iter step n (Pt.p1 ((Z86.up l).map bh))=ret r else ret (l.getD 0 0:Int)=ret r)->step (iter step n) (Pt.p0 (l.map bh))=ret r/\step (iter step n) (Pt.p1 (l.map bh))=ret r:=by
  intro l r n hl hp h
  simp only [step,List.length_map,gN]
  by_cases h1:l.length>1
  ·rw [if_pos h1] at h
   have hx:∀y:aH,(cond (decide ((l.length:Int)>1)) (call (Z199.R (l.map bh)) (fun v1=>iter step n (Pt.p1 v1))) y)=ret r:=fun y=>
    ak (decide_eq_true (by omega)) (aZ ((Z86.up l).map bh) (Z199.aj hl) h)
   exact ⟨hx _,hx _⟩
  ·rw [if_neg h1] at h
   have hx:∀y:aH,(cond (decide ((l.length:Int)>1)) y (cond (decide ((0:Int)<(l.length:Int))) (ret (l.getD 0 0:Int)) none))=ret r:=fun y=>
    cN (decide_eq_false (by omega)) (ak (decide_eq_true (by omega)) h)
   exact ⟨hx _,hx _⟩
 have key:∀(k:Nat) (l:List Int),bL (2^38) (fun y:Int=>True) l->0<l.length->l.length<=k+1->∃n,step (iter step n) (Pt.p0 (l.map bh))=ret (Z87.top k l)/\step (iter step n) (Pt.p1 (l.map bh))=ret (Z87.top k l):=by
  intro k
  induction k with
  | zero=>
   intro l hl hp hk
   exact ⟨0,one l _ 0 hl hp (by rw [if_neg (by omega)];rfl)⟩
  | succ k ih=>
   intro l hl hp hk
   by_cases h1:l.length>1
   ·have hu:=Z86.jX l
    have hl1:=hl.1
    obtain ⟨n,_,hn⟩:=ih (Z86.up l) ⟨by omega,fun _ _=>trivial⟩ (by omega) (by omega)
    refine ⟨n+1,one l _ (n+1) hl hp ?_⟩
    rw [if_pos h1]
    refine Eq.trans hn ?_
    unfold Z87.top
    rw [if_pos h1]
    cases k<;>rfl
   ·refine ⟨0,one l _ 0 hl hp ?_⟩
    rw [if_neg h1]
    unfold Z87.top
    rw [if_neg h1]
 unfold md Z87.md
 unfold start
 simp only [List.length_map]
 by_cases h0:a0.length=0
 ·have e:((a0.length:Int)==0)=true:=by simpa using List.length_eq_zero_iff.1 h0
  refine ⟨0,?_⟩
  rw [e]
  refine aZ (Z56.md [229]) (by have:=Z197.aj (a0:=[229]) ⟨by decide,fun _ _=>trivial⟩;rw [Z197.br] at this;exact this) ?_
  rw [if_pos h0]
 ·have e:((a0.length:Int)==0)=false:=beq_eq_false_iff_ne.2 (by omega)
  obtain ⟨n,hn,_⟩:=key a0.length a0 hg (by omega) (by omega)
  refine ⟨n+1,?_⟩
  rw [e,if_neg h0]
  exact hn
def af:cw 277 aT:=L1 16 pid cg bZ live step start mix aE bt (.cons Z197.af (.cons Z199.af .nil)) Tryz.func277
def br (a0:List Int):md a0=Z87.md a0:=by
 unfold md Z87.md
 first
 | (simp only [Z197.br,Z199.br];done)
 | (simp only [Z197.br,Z199.br];rfl)
 | rfl
end Z200
namespace Z201
def F (x0 x1:Int):aH:=(call (Z197.R [[L.int 231],[L.int x0],[L.int x1]]) fun v1=>ret (v1:Int))
def md (a0 a1:Int):Int:=((Z197.md [231,a0,a1]):Int)
def gd (a0 a1:Int):Prop:=True
def R:=RR (p2 gd) (u2 md)
def aj {a0 a1}(h:gd a0 a1):R (a0,a1)=some (md a0 a1):=aN (a:=(a0,a1)) h
def aT:=CN [pI,pI] oI RT.dec R
def bt (a0)(a1)(hg:gd a0 a1):F a0 a1=ret (md a0 a1):=by
 unfold F md
 try simp only [SS]
 refine aZ (Z197.md [231,a0,a1]) (rq (Z197.aj (a0:=[231,a0,a1]) ⟨(om),fun _ _=>trivial⟩)) ?_
 all_goals exact fz
def af:cw 265 aT:=W2 9 F mix aE bt (.cons Z197.af .nil) Tryz.func265
def br (a0 a1:Int):md a0 a1=Z88.md a0 a1:=by
 unfold md Z88.md
 first
 | (simp only [Z197.br];done)
 | (simp only [Z197.br];rfl)
 | rfl
end Z201
namespace Z202
def F (x0:aC):aH:=(call (Z196.R x0) fun v1=>(call (Z200.R v1) fun v2=>(call (Z201.R ((x0.length:Int),v2)) fun v3=>ret (v3:Int))))
def md (a0:List ah):Int:=((Z201.md (a0.length:Int) (Z200.md (Z196.md a0))):Int)
def gd (a0:List ah):Prop:=(bL (2^21) (fun y:ah=>ah.Sm (2^21) y) a0)
def R:=RR gd md
def aj {a0}(h:gd a0):R (a0.map ah.row)=some (md a0):=aN (a:=a0) h
def aT:=CN [pL 57] oI RT.dec R
def bt (a0)(hg:gd a0):F (a0.map ah.row)=ret (md a0):=by
 unfold gd at hg
 have H0:=hg
 unfold F md
 try simp only [SS]
 refine ct (Z196.aj H0) ?_
 try simp only [SS]
 refine ct (Z200.aj ⟨(have:=Z196.len a0;have:=(H0).1;om),fun _ _=>trivial⟩) ?_
 refine ct (Z201.aj trivial) ?_
 all_goals exact fz
def af:cw 250 aT:=W1 9 F mix aE bt (.cons Z196.af (.cons Z200.af (.cons Z201.af .nil))) Tryz.func250
def br (a0:List ah):md a0=Z89.md a0:=by
 unfold md Z89.md
 first
 | (simp only [Z196.br,Z200.br,Z201.br];done)
 | (simp only [Z196.br,Z200.br,Z201.br];rfl)
 | rfl
end Z202
namespace Z203
def F (x0:Int)(x1:aC):aH:=(call (Z191.R x1) fun v1=>(cond v1 (call (Z202.R x1) fun v2=>ret ((v2==x0):Bool)) aY))
def md (a0:Int)(a1:List ah):Bool:=(cond (Z191.md a1) (((Z202.md a1)==a0):Bool) (false:Bool))
def gd (a0:Int)(a1:List ah):Prop:=(bL (2^21) (fun y:ah=>ah.Sm (2^21) y) a1)
def R:=RR (p2 gd) (u2 md)
def aj {a0 a1}(h:gd a0 a1):R (a0,(a1.map ah.row))=some (md a0 a1):=aN (a:=(a0,a1)) h
def aT:=CN [pI,pL 57] oB RT.dec R
def bt (a0)(a1)(hg:gd a0 a1):F a0 (a1.map ah.row)=ret (md a0 a1):=by
 unfold gd at hg
 have H1:=hg
 unfold F md
 try simp only [SS]
 refine ct (Z191.aj H1) ?_
 refine au ret (fun c1=>?_) (fun _=>rfl)
 refine ct (Z202.aj H1) ?_
 all_goals exact fz
def af:cw 216 aT:=W2 13 F mix aE bt (.cons Z191.af (.cons Z202.af .nil)) Tryz.func216
def br (a0:Int)(a1:List ah):md a0 a1=Z90.md a0 a1:=by
 unfold md Z90.md
 first
 | (simp only [Z191.br,Z202.br];done)
 | (simp only [Z191.br,Z202.br];rfl)
 | rfl
end Z203
namespace Z204
def F (x0:dL):aH:=(call (Z185.R x0.aS) fun v1=>(cond (!v1) aY (call (Z186.R x0.aS) fun v2=>(cond (v2.cq==(x0.bM.length:Int)) (call (Z203.R (v2.cW,x0.bM)) fun v3=>ret (v3:Bool)) aY))))
def md (a0:aK):Bool:=(cond (!(Z185.md a0.aS)) (false:Bool) (cond ((Z186.md a0.aS).cq==(a0.bM.length:Int)) ((Z203.md ((Z186.md a0.aS).cW) a0.bM):Bool) (false:Bool)))
def gd (a0:aK):Prop:=(aK.Sm (2^21) a0)
def R:=RR gd md
def aj {a0}(h:gd a0):R (aK.r a0)=some (md a0):=aN (a:=a0) h
def aT:=CN [.agg sG] oB RT.dec R
def bt (a0)(hg:gd a0):F (aK.r a0)=ret (md a0):=by
 unfold gd at hg
 have H0:=hg
 unfold F md
 try simp only [SS]
 refine ct (Z185.aj H0.1) ?_
 refine au ret (fun _=>rfl) (fun c1=>?_)
 have dc1:=c1
 try simp only [DC] at dc1
 try have tc1:=Z185.tr (by simpa using c1)
 refine ct (Z186.aj ⟨H0.1,(by
   have:=(H0.1).1
   first | assumption | exact om)⟩) ?_
 try simp only [SS]
 refine au ret (fun c2=>?_) (fun _=>rfl)
 refine ct (Z203.aj H0.2) ?_
 all_goals exact fz
def af:cw 175 aT:=W1 24 F mix aE bt (.cons Z185.af (.cons Z186.af (.cons Z203.af .nil))) Tryz.func175
def tr {a0:aK}(h:md a0=true):1<=a0.aS.length:=by
 unfold md at h
 cases hc:Z185.md a0.aS
 ·rw [hc] at h;cases h
 ·exact (Z185.tr hc).1
def br (a0:aK):md a0=Z91.md a0:=by
 unfold md Z91.md
 rw [Z185.br,Z203.br]
 unfold Z186.md Z76.md
 cases h:Z75.md a0.aS
 ·rfl
 ·rfl
end Z204
end Go.DM
end
