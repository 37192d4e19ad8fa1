/- What the functions compute that the law reaches, and that the law returns true. Conditions: none. -/
import Derived.Test.YtknikjmcpjaggaaGreatResolveAllTy
import Derived.Test.YtknikjmcpjaggaaGreatResolveAllFnA
set_option linter.all false
set_option maxRecDepth 100000
noncomputable section
namespace Go.DM
open Go.Proofs
open Go.IntKind (i64)
open Int (toNat)
open Nat (le_trans zero_le)
namespace Z105
inductive Pt where
 | p0 (a b:aD) (c d e f g h i j k l m n o:Int) (p:Bool) (q s t u v w y z w24 w25 w26 w27:Int) (w28:Bool) (w29 w30 w31 w32 w33 w34 w35 w36 w37 w38 w39 w40:Int) (w41:Bool)
def pid:Pt->Nat
 | .p0 ..=>4
def cg:Pt->List V
 | .p0 a b c d e f g h i j k l m n o p q s t u v w y z w24 w25 w26 w27 w28 w29 w30 w31 w32 w33 w34 w35 w36 w37 w38 w39 w40 w41=>[.sl none 123 a,.sl none 123 b,.dy 0 0,.int .i64 c]
def bZ:Pt->List aZ
 | .p0 a b c d e f g h i j k l m n o p q s t u v w y z w24 w25 w26 w27 w28 w29 w30 w31 w32 w33 w34 w35 w36 w37 w38 w39 w40 w41=>[.box [.int .i64 d,.int .i64 e,.int .i64 f,.int .i64 g,.int .i64 h,.int .i64 i,.int .i64 j,.int .i64 k,.nil,.int .i64 l,.nil,.int .i64 m,.int .i64 n,.nil,.int .i64 o,.bool p,.nil,.int .i64 q,.int .i64 s,.int .i64 t,.int .i64 u,.int .i64 v,.int .i64 w,.int .i64 y,.int .i64 z,.nil,.int .i64 w24,.nil,.int .i64 w25,.int .i64 w26,.nil,.int .i64 w27,.bool w28,.nil,.int .i64 w29,.int .i64 w30,.int .i64 w31,.int .i64 w32,.int .i64 w33,.int .i64 w34,.int .i64 w35,.int .i64 w36,.nil,.int .i64 w37,.nil,.int .i64 w38,.int .i64 w39,.nil,.int .i64 w40,.bool w41,.nil]]
def step (J:Pt->aK):Pt->aK
 | .p0 a b c d e f g h i j k l m n o p q s t u v w y z w24 w25 w26 w27 w28 w29 w30 w31 w32 w33 w34 w35 w36 w37 w38 w39 w40 w41=>(cond (decide (c<(a.length:Int))) (cond (decide (c<(b.length:Int))) (m2 c (a.length:Int) (m2 c (b.length:Int) (call (Z102.R ((aT.at a (toNat c)).au,(aT.at b (toNat c)).au)) fun v1=>(cond v1 (J (.p0 a b (i64.wrap (c+1)) d e f g h i j k l m n o p q s t u v w y z w24 w25 w26 w27 w28 w29 w30 w31 w32 w33 w34 w35 w36 w37 w38 w39 w40 w41)) (m2 c (a.length:Int) (call (Z41.R (aT.at a (toNat c))) fun v2=>(m2 c (b.length:Int) (call (Z41.R (aT.at b (toNat c))) fun v3=>(cond (decide (c>0)) (cm (decide ((0:Int)<=(i64.wrap (c - 1)))) (cm (decide ((i64.wrap (c - 1))<(a.length:Int))) (call (Z41.R (aT.at a (toNat (i64.wrap (c - 1))))) fun v4=>ret (((⟨v4,v2,v3⟩:bL),true):bL×Bool)))) (ret (((⟨(⟨(⟨0,0,0,0,0,0,0,0,(⟨[],0⟩:bF),(⟨[],0⟩:bF),0,(⟨[],0⟩:bF),false⟩:ck),[]⟩:aT),v2,v3⟩:bL),true):bL×Bool))))))))))) (m2 c (a.length:Int) (call (Z41.R (aT.at a (toNat c))) fun v5=>(m2 c (b.length:Int) (call (Z41.R (aT.at b (toNat c))) fun v6=>(cond (decide (c>0)) (cm (decide ((0:Int)<=(i64.wrap (c - 1)))) (cm (decide ((i64.wrap (c - 1))<(a.length:Int))) (call (Z41.R (aT.at a (toNat (i64.wrap (c - 1))))) fun v7=>ret (((⟨v7,v5,v6⟩:bL),true):bL×Bool)))) (ret (((⟨(⟨(⟨0,0,0,0,0,0,0,0,(⟨[],0⟩:bF),(⟨[],0⟩:bF),0,(⟨[],0⟩:bF),false⟩:ck),[]⟩:aT),v5,v6⟩:bL),true):bL×Bool)))))))) (m2 c (a.length:Int) (call (Z41.R (aT.at a (toNat c))) fun v8=>(m2 c (b.length:Int) (call (Z41.R (aT.at b (toNat c))) fun v9=>(cond (decide (c>0)) (cm (decide ((0:Int)<=(i64.wrap (c - 1)))) (cm (decide ((i64.wrap (c - 1))<(a.length:Int))) (call (Z41.R (aT.at a (toNat (i64.wrap (c - 1))))) fun v10=>ret (((⟨v10,v8,v9⟩:bL),true):bL×Bool)))) (ret (((⟨(⟨(⟨0,0,0,0,0,0,0,0,(⟨[],0⟩:bF),(⟨[],0⟩:bF),0,(⟨[],0⟩:bF),false⟩:ck),[]⟩:aT),v8,v9⟩:bL),true):bL×Bool))))))))
def start (J:Pt->aK)(x0 x1:aD):aK:=(call (Z73.R x0) fun v1=>(cond (!v1) (ret (((⟨(⟨(⟨0,0,0,0,0,0,0,0,(⟨[],0⟩:bF),(⟨[],0⟩:bF),0,(⟨[],0⟩:bF),false⟩:ck),[]⟩:aT),(⟨(⟨0,0,0,0,0,0,0,0,(⟨[],0⟩:bF),(⟨[],0⟩:bF),0,(⟨[],0⟩:bF),false⟩:ck),[]⟩:aT),(⟨(⟨0,0,0,0,0,0,0,0,(⟨[],0⟩:bF),(⟨[],0⟩:bF),0,(⟨[],0⟩:bF),false⟩:ck),[]⟩:aT)⟩:bL),false):bL×Bool)) (call (Z73.R x1) fun v2=>(cond (!v2) (ret (((⟨(⟨(⟨0,0,0,0,0,0,0,0,(⟨[],0⟩:bF),(⟨[],0⟩:bF),0,(⟨[],0⟩:bF),false⟩:ck),[]⟩:aT),(⟨(⟨0,0,0,0,0,0,0,0,(⟨[],0⟩:bF),(⟨[],0⟩:bF),0,(⟨[],0⟩:bF),false⟩:ck),[]⟩:aT),(⟨(⟨0,0,0,0,0,0,0,0,(⟨[],0⟩:bF),(⟨[],0⟩:bF),0,(⟨[],0⟩:bF),false⟩:ck),[]⟩:aT)⟩:bL),false):bL×Bool)) (cm (decide ((0:Int)<(x0.length:Int))) (cm (decide ((0:Int)<(x1.length:Int))) (cond ((aT.at x0 0).au.bz != (aT.at x1 0).au.bz) (ret (((⟨(⟨(⟨0,0,0,0,0,0,0,0,(⟨[],0⟩:bF),(⟨[],0⟩:bF),0,(⟨[],0⟩:bF),false⟩:ck),[]⟩:aT),(⟨(⟨0,0,0,0,0,0,0,0,(⟨[],0⟩:bF),(⟨[],0⟩:bF),0,(⟨[],0⟩:bF),false⟩:ck),[]⟩:aT),(⟨(⟨0,0,0,0,0,0,0,0,(⟨[],0⟩:bF),(⟨[],0⟩:bF),0,(⟨[],0⟩:bF),false⟩:ck),[]⟩:aT)⟩:bL),false):bL×Bool)) (call (Z103.R (x0,x1)) fun v3=>(cond v3 (ret (((⟨(⟨(⟨0,0,0,0,0,0,0,0,(⟨[],0⟩:bF),(⟨[],0⟩:bF),0,(⟨[],0⟩:bF),false⟩:ck),[]⟩:aT),(⟨(⟨0,0,0,0,0,0,0,0,(⟨[],0⟩:bF),(⟨[],0⟩:bF),0,(⟨[],0⟩:bF),false⟩:ck),[]⟩:aT),(⟨(⟨0,0,0,0,0,0,0,0,(⟨[],0⟩:bF),(⟨[],0⟩:bF),0,(⟨[],0⟩:bF),false⟩:ck),[]⟩:aT)⟩:bL),false):bL×Bool)) (call (Z103.R (x1,x0)) fun v4=>(cond v4 (ret (((⟨(⟨(⟨0,0,0,0,0,0,0,0,(⟨[],0⟩:bF),(⟨[],0⟩:bF),0,(⟨[],0⟩:bF),false⟩:ck),[]⟩:aT),(⟨(⟨0,0,0,0,0,0,0,0,(⟨[],0⟩:bF),(⟨[],0⟩:bF),0,(⟨[],0⟩:bF),false⟩:ck),[]⟩:aT),(⟨(⟨0,0,0,0,0,0,0,0,(⟨[],0⟩:bF),(⟨[],0⟩:bF),0,(⟨[],0⟩:bF),false⟩:ck),[]⟩:aT)⟩:bL),false):bL×Bool)) (J (.p0 x0 x1 0 0 0 0 0 0 0 0 0 0 0 0 0 false 0 0 0 0 0 0 0 0 0 0 0 0 false 0 0 0 0 0 0 0 0 0 0 0 0 false)))))))))))))
def live:Nat->Live:=fun i=>match i with | 4=>[(0,none),(1,none),(4,none),(6,none)] | _=>[]
def pt (a b:aD)(c:Int):Pt:=Pt.p0 a b c 0 0 0 0 0 0 0 0 0 0 0 0 false 0 0 0 0 0 0 0 0 0 0 0 0 false 0 0 0 0 0 0 0 0 0 0 0 0 false
def fk:List aa->List aa->Nat
 | x::xs,y::ys=>bif Z102.md x.au y.au then fk xs ys+1 else 0
 | _,_=>0
def qg:∀a b:List aa,(∀i,i<fk a b->Z102.md (a.getD i aa.zero).au (b.getD i aa.zero).au=true)/\
    ((fk a b<a.length/\fk a b<b.length/\Z102.md (a.getD (fk a b) aa.zero).au (b.getD (fk a b) aa.zero).au=false)∨
     (a.length<=b.length/\∀i,i<a.length->Z102.md (a.getD i aa.zero).au (b.getD i aa.zero).au=true)∨
     (b.length<=a.length/\∀i,i<b.length->Z102.md (a.getD i aa.zero).au (b.getD i aa.zero).au=true))
  | [],b=>⟨fun i hi=>by simp [fk] at hi,.inr (.inl ⟨zero_le _,fun i hi=>by simp at hi⟩)⟩
  | x::xs,[]=>⟨fun i hi=>by simp [fk] at hi,.inr (.inr ⟨zero_le _,fun i hi=>by simp at hi⟩)⟩
  | x::xs,y::ys=>by
    obtain ⟨h1,h2⟩:=qg xs ys
    cases h:Z102.md x.au y.au
    · have e:fk (x::xs) (y::ys)=0:=by simp [fk,h]
      rw [e]
      exact ⟨fun i hi=>by omega,.inl ⟨by simp,by simp,h⟩⟩
    · have e:fk (x::xs) (y::ys)=fk xs ys+1:=by simp [fk,h]
      rw [e]
      have up:∀{m:Nat},(∀i,i<m->Z102.md (xs.getD i aa.zero).au (ys.getD i aa.zero).au=true)->∀i,i<m+1->Z102.md ((x::xs).getD i aa.zero).au ((y::ys).getD i aa.zero).au=true:=by
        intro m hm i hi
        cases i with
        | zero=>exact h
        | succ i=>exact hm i (by omega)
      refine ⟨up h1,?_⟩
      rcases h2 with ⟨a,b,c⟩ | ⟨a,b⟩ | ⟨a,b⟩
      · exact .inl ⟨by simpa using a,by simpa using b,c⟩
      · exact .inr (.inl ⟨by simpa using a,up b⟩)
      · exact .inr (.inr ⟨by simpa using a,up b⟩)
def yq {a b:List aa}(hl:a.length<=b.length)(h:∀i,i<a.length->Z102.md (a.getD i aa.zero).au (b.getD i aa.zero).au=true):Z103.md a b=true:=by
 unfold Z103.md
 rw [decide_eq_false (by omega),bA]
 refine (jC (fun i=>Z102.md (a.getD i aa.zero).au (b.getD i aa.zero).au=true) (fun i _ hi=>?_) (fun i _ hi=>?_)).2 ⟨h,rfl⟩
 ·simp only [hi,Bool.not_true,bA]
 ·rw [Bool.not_eq_true] at hi
  simp only [hi,Bool.not_false,bq]
def eq_comm {a b:aG}(h:Z102.md a b=true):Z102.md b a=true:=by
 rw [Z102.md_eq,dA] at h ⊢
 exact h.symm
def lT {a b:List aa}(h1:Z103.md a b=false)(h2:Z103.md b a=false):fk a b<a.length/\fk a b<b.length/\Z102.md (a.getD (fk a b) aa.zero).au (b.getD (fk a b) aa.zero).au=false:=by
 rcases (qg a b).2 with h | ⟨h3,h4⟩ | ⟨h3,h4⟩
 ·exact h
 ·rw [yq h3 h4] at h1;cases h1
 ·rw [yq h3 fun i hi=>eq_comm (h4 i hi)] at h2;cases h2
def uM (a b:List aa):Nat->aB
 | 0=>⟨aa.zero,a.getD 0 aa.zero,b.getD 0 aa.zero⟩
 | k+1=>⟨a.getD k aa.zero,a.getD (k+1) aa.zero,b.getD (k+1) aa.zero⟩
def wj {a b:List aa}(h0:bO (2^21) (fun y:aa=>aa.Sm (2^21) y) a)(h1:bO (2^21) (fun y:aa=>aa.Sm (2^21) y) b){k:Nat}(hk:k<a.length)(hk2:k<b.length):aB.Sm (2^21) (uM a b k):=by
 cases k with
 | zero=>exact ⟨⟨⟨bO.nil,bO.nil,bO.nil⟩,bO.nil⟩,bO.getD h0 hk,bO.getD h1 hk2⟩
 | succ k=>exact ⟨bO.getD h0 (by omega),bO.getD h0 hk,bO.getD h1 hk2⟩
def zN {a b:List aa}{k:Nat}(hk:k<a.length)(hk2:k<b.length):aB.size (uM a b k)<=2*dP (fun y:aa=>aa.size y) a+dP (fun y:aa=>aa.size y) b:=by
 have h1:=nG (f:=fun y:aa=>aa.size y) (xs:=b) (i:=k) (z:=aa.zero) hk2
 have h2:=nG (f:=fun y:aa=>aa.size y) (xs:=a) (i:=k) (z:=aa.zero) hk
 have h0:aa.size aa.zero=0:=rfl
 cases k with
 | zero=>simp only [uM,aB.size];omega
 | succ k=>
  have h3:=nG (f:=fun y:aa=>aa.size y) (xs:=a) (i:=k) (z:=aa.zero) (by omega)
  simp only [uM,aB.size];omega
def md (a0 a1:List aa):aB×Bool:=(cond (!(Z73.md a0)) (aB.zero,false) (cond (!(Z73.md a1)) (aB.zero,false) (cond (((a0.getD 0 aa.zero).au).bz != ((a1.getD 0 aa.zero).au).bz) (aB.zero,false) (cond (Z103.md a0 a1) (aB.zero,false) (cond (Z103.md a1 a0) (aB.zero,false) (uM a0 a1 (fk a0 a1),true))))))
def gd (a0 a1:List aa):Prop:=bO (2^21) (fun y:aa=>aa.Sm (2^21) y) a0/\bO (2^21) (fun y:aa=>aa.Sm (2^21) y) a1
def R:=RR (p2 gd) (u2 md)
def aq {a0 a1}(h:gd a0 a1):R ((a0.map aa.row),(a1.map aa.row))=some ((aB.r (md a0 a1).1),(md a0 a1).2):=aR (a:=(a0,a1)) h
def aW:=CN [pL 123,pL 123] (.iW [(true,f280),(false,[fB])]) RT.dec R
def bB (a0)(a1)(hg:gd a0 a1):∃n,start (iter step n) (a0.map aa.row) (a1.map aa.row)=ret ((aB.r (md a0 a1).1),(md a0 a1).2):=by
 unfold gd at hg
 obtain ⟨H0,H1⟩:=hg
 have hl0:=H0.1
 have hl1:=H1.1
 have key:fk a0 a1<a0.length->fk a0 a1<a1.length->Z102.md (a0.getD (fk a0 a1) aa.zero).au (a1.getD (fk a0 a1) aa.zero).au=false->∀d k,k+d=fk a0 a1->∃n,iter step n (pt (a0.map aa.row) (a1.map aa.row) (k:Int))=ret ((aB.r (uM a0 a1 (fk a0 a1)),true):bL×Bool):=by
  intro hn0 hn1 hne d
  have hR:∀k,k<a0.length->k<a1.length->Z102.R (aG.r (a0.getD k aa.zero).au,aG.r (a1.getD k aa.zero).au)=some (Z102.md (a0.getD k aa.zero).au (a1.getD k aa.zero).au):=by
   intro k h0 h1
   rw [Z102.aq ⟨(bO.getD (z:=aa.zero) H0 h0).1,(bO.getD (z:=aa.zero) H1 h1).1⟩]
  induction d with
  | zero=>
   intro k hk
   obtain rfl:k=fk a0 a1:=by omega
   generalize hkk:fk a0 a1=k at hn0 hn1 hne ⊢
   refine ⟨1,?_⟩
   show step (iter step 0) _=_
   have q1:(0:Int)<=(k:Int):=by omega
   have q2:(k:Int)<(a0.length:Int):=by omega
   have q3:(k:Int)<(a1.length:Int):=by omega
   simp only [pt,step,MM,S0,aa.rs,aG.rs,q1,q2,q3,decide_true,bq]
   rw [call_eq (hR k hn0 hn1),hne,bA,call_eq (Z41.aq (a0:=a0.getD k aa.zero) (bO.getD (z:=aa.zero) H0 hn0)),call_eq (Z41.aq (a0:=a1.getD k aa.zero) (bO.getD (z:=aa.zero) H1 hn1))]
   cases k with
   | zero=>rfl
   | succ k=>
    have q4:((k+1:Nat):Int)>0:=by omega
    have q5:i64.wrap (((k+1:Nat):Int) - 1)=(k:Int):=by rw [wi _ (by omega)];omega
    have q6:(0:Int)<=(k:Int):=by omega
    have q7:(k:Int)<(a0.length:Int):=by omega
    simp only [q4,q5,q6,q7,decide_true,bq,S0,aa.rs]
    rw [call_eq (Z41.aq (a0:=a0.getD k aa.zero) (bO.getD (z:=aa.zero) H0 (by omega)))]
    rfl
  | succ d ih=>
   intro k hk
   obtain ⟨n,hn⟩:=ih (k+1) (by omega)
   refine ⟨n+1,?_⟩
   show step (iter step n) _=_
   have q1:(0:Int)<=(k:Int):=by omega
   have q2:(k:Int)<(a0.length:Int):=by omega
   have q3:(k:Int)<(a1.length:Int):=by omega
   simp only [pt,step,MM,S0,aa.rs,aG.rs,q1,q2,q3,decide_true,bq]
   rw [call_eq (hR k (by omega) (by omega)),(qg a0 a1).1 k (by omega),bq,wi _ (by omega)]
   exact hn
 unfold start md
 simp only [S0,aa.rs,aG.rs]
 refine fo (Z73.md a0) (Z73.aq H0) ?_
 cases hc0:Z73.md a0
 ·exact ⟨0,rfl⟩
 simp only [Bool.not_true,bA]
 refine fo (Z73.md a1) (Z73.aq H1) ?_
 cases hc1:Z73.md a1
 ·exact ⟨0,rfl⟩
 have t0:=Z73.tr hc0
 have t1:=Z73.tr hc1
 simp only [Bool.not_true,bA]
 refine dK (decide_eq_true (by omega)) (dK (decide_eq_true (by omega)) ?_)
 cases ((a0.getD 0 aa.zero).au.bz != (a1.getD 0 aa.zero).au.bz)
 case true=>exact ⟨0,rfl⟩
 simp only [bA]
 refine fo (Z103.md a0 a1) (Z103.aq ⟨H0,H1⟩) ?_
 cases hp0:Z103.md a0 a1
 case true=>exact ⟨0,rfl⟩
 simp only [bA]
 refine fo (Z103.md a1 a0) (Z103.aq ⟨H1,H0⟩) ?_
 cases hp1:Z103.md a1 a0
 case true=>exact ⟨0,rfl⟩
 simp only [bA]
 obtain ⟨h1,h2,h3⟩:=lT hp0 hp1
 exact key h1 h2 h3 (fk a0 a1) 0 (by omega)
def af:cG 246 aW:=L2 86 pid cg bZ live step start mix aF bB (.cons Z73.af (.cons Z103.af (.cons Z102.af (.cons Z41.af .nil)))) Tryz.func246
def fW {a0 a1:List aa}(hg:gd a0 a1):aB.Sm (2^21) ((md a0 a1).1):=by
 unfold gd at hg;unfold md
 have z:aB.Sm (2^21) aB.zero:=⟨⟨⟨bO.nil,bO.nil,bO.nil⟩,bO.nil⟩,⟨⟨bO.nil,bO.nil,bO.nil⟩,bO.nil⟩,⟨⟨bO.nil,bO.nil,bO.nil⟩,bO.nil⟩⟩
 cases Z73.md a0
 ·exact z
 cases Z73.md a1
 ·exact z
 cases ((a0.getD 0 aa.zero).au.bz != (a1.getD 0 aa.zero).au.bz)
 case true=>exact z
 cases h1:Z103.md a0 a1
 case true=>exact z
 cases h2:Z103.md a1 a0
 case true=>exact z
 obtain ⟨h3,h4,_⟩:=Z105.lT h1 h2
 exact Z105.wj hg.1 hg.2 h3 h4
end Z105
namespace Z106
def F (x0:bt)(x1:aD):aK:=(call (Z44.R x0) fun v1=>(call (Z104.R (x0,x1)) fun v2=>(cond (v2==1) (cond (decide ((x0.aH.length:Int)>=8)) (ret ((v1,6):bt×Int)) (call (Z42.R x1) fun v3=>(cm (ff (((v1.aH.length:Int)+1)*24)) (ret (((⟨(v1.aH++[[L.sl v3]]),v1.aY⟩:bt),v2):bt×Int))))) (cond (v2==3) (cm (decide ((0:Int)<(x1.length:Int))) (call (Z101.R (x0,(aT.at x1 0).au.bz)) fun v4=>(call (Z42.R x1) fun v5=>(m2 v4 (v1.aH.length:Int) (ret (((⟨(List.set v1.aH (toNat v4) [L.sl v5]),v1.aY⟩:bt),v2):bt×Int)))))) (cond (v2==5) (cm (decide ((0:Int)<(x1.length:Int))) (call (Z101.R (x0,(aT.at x1 0).au.bz)) fun v6=>(m2 v6 (x0.aH.length:Int) (call (Z105.R ((oT x0.aH (toNat v6)),x1)) fun v7=>(cond v7.2 (cond (decide ((x0.aY.length:Int)<8)) (cm (ff (((v1.aY.length:Int)+1)*600)) (ret (((⟨v1.aH,(v1.aY++[(bL.enc v7.1)])⟩:bt),v2):bt×Int))) (ret ((v1,v2):bt×Int))) (ret ((v1,v2):bt×Int))))))) (ret ((v1,v2):bt×Int)))))))
def md (a0:aj)(a1:List aa):aj×Int:=(cond ((Z104.md a0 a1)==1) (cond (decide ((a0.aH.length:Int)>=8)) (a0,6) ((⟨(a0.aH++[a1]),a0.aY⟩:aj),(Z104.md a0 a1))) (cond ((Z104.md a0 a1)==3) ((⟨(List.set a0.aH (toNat (Z101.md a0 (((a1.getD 0 aa.zero).au).bz))) a1),a0.aY⟩:aj),(Z104.md a0 a1)) (cond ((Z104.md a0 a1)==5) (cond ((Z105.md (a0.aH.getD (toNat (Z101.md a0 (((a1.getD 0 aa.zero).au).bz))) []) a1).2) (cond (decide ((a0.aY.length:Int)<8)) ((⟨a0.aH,(a0.aY++[(Z105.md (a0.aH.getD (toNat (Z101.md a0 (((a1.getD 0 aa.zero).au).bz))) []) a1).1])⟩:aj),(Z104.md a0 a1)) (a0,(Z104.md a0 a1))) (a0,(Z104.md a0 a1))) (a0,(Z104.md a0 a1)))))
def gd (a0:aj)(a1:List aa):Prop:=(aj.Sm (2^21) a0)/\(bO (2^21) (fun y:aa=>aa.Sm (2^21) y) a1)
def R:=RR (p2 gd) (u2 md)
def aq {a0 a1}(h:gd a0 a1):R ((aj.r a0),(a1.map aa.row))=some ((aj.r (md a0 a1).1),(md a0 a1).2):=aR (a:=(a0,a1)) h
def aW:=CN [.agg rU,pL 123] (.iW [(true,f37),(false,[fI])]) RT.dec R
def bB (a0)(a1)(hg:gd a0 a1):F (aj.r a0) (a1.map aa.row)=ret ((aj.r (md a0 a1).1),(md a0 a1).2):=by
 obtain ⟨H0,H1⟩:=hg
 unfold F md
 try simp only [SS]
 refine ct (Z44.aq H0) ?_
 try simp only [SS]
 refine ct (Z104.aq ⟨H0,H1⟩) ?_
 have fv2_:=Z104.fa a0 a1
 refine ay (fun b:aj×Int=>ret (((aj.r b.1),b.2):bt×Int)) (fun c1=>?_) (fun c1=>?_)
 ·have dc1:=c1
  try simp only [DC] at dc1
  refine ay (fun b:aj×Int=>ret (((aj.r b.1),b.2):bt×Int)) (fun c2=>?_) (fun c2=>?_)
  ·all_goals exact fz
  ·have dc2:=c2
   try simp only [DC] at dc2
   refine ct (Z42.aq H1) ?_
   try simp only [SS]
   refine ak (have:=(H0.1).1;lm) ?_
   all_goals exact fz
 ·have dc1:=c1
  try simp only [DC] at dc1
  refine ay (fun b:aj×Int=>ret (((aj.r b.1),b.2):bt×Int)) (fun c3=>?_) (fun c3=>?_)
  ·have dc3:=c3
   try simp only [DC] at dc3
   refine ak (have:=(H1).1;dt) ?_
   refine ct (Z101.aq H0) ?_
   have fv4_:=Z101.fa a0 (((a1.getD 0 aa.zero).au).bz)
   refine ct (Z42.aq H1) ?_
   try simp only [SS]
   refine ak dt ?_
   refine ak (have:=(H0.1).1;dt) ?_
   all_goals exact fz
  ·have dc3:=c3
   try simp only [DC] at dc3
   refine ay (fun b:aj×Int=>ret (((aj.r b.1),b.2):bt×Int)) (fun c4=>?_) (fun c4=>?_)
   ·have dc4:=c4
    try simp only [DC] at dc4
    refine ak (have:=(H1).1;dt) ?_
    refine ct (Z101.aq H0) ?_
    have fv6_:=Z101.fa a0 (((a1.getD 0 aa.zero).au).bz)
    refine ak dt ?_
    refine ak (have:=(H0.1).1;dt) ?_
    refine ct (Z105.aq ⟨(bO.getD (z:=[]) H0.1 (by first | assumption | omega | (simp (disch:=omega) only [wi];omega) | (simp;omega))),H1⟩) ?_
    try simp only [SS]
    refine ay (fun b:aj×Int=>ret (((aj.r b.1),b.2):bt×Int)) (fun c5=>?_) (fun c5=>?_)
    ·refine ay (fun b:aj×Int=>ret (((aj.r b.1),b.2):bt×Int)) (fun c6=>?_) (fun c6=>?_)
     ·have dc6:=c6
      try simp only [DC] at dc6
      refine ak (have:=(H0.2).1;lm) ?_
      all_goals exact fz
     ·all_goals exact fz
    ·all_goals exact fz
   ·all_goals exact fz
def af:cG 83 aW:=W2 77 F mix aF bB (.cons Z44.af (.cons Z104.af (.cons Z42.af (.cons Z101.af (.cons Z105.af .nil))))) Tryz.func83
def fW {a0:aj}{a1:List aa}(hg:gd a0 a1):aj.Sm (2^21) ((md a0 a1).1):=by
 unfold gd at hg;unfold md
 obtain ⟨⟨h1,h2⟩,h3⟩:=hg
 simp only [Bool.cond_eq_ite]
 repeat' split
 all_goals (try simp only [decide_eq_true_eq,ge_iff_le] at *)
 all_goals first
  | exact ⟨h1,h2⟩
  | exact ⟨bO.app (a:=7) (b:=1) ⟨by omega,h1.2⟩ (bO.one h3) (by decide),h2⟩
  | exact ⟨bO.set h1 h3,h2⟩
  | exact ⟨h1,bO.app (a:=7) (b:=1) ⟨by omega,h2.2⟩ (bO.one (Z105.fW ⟨bO.wg h1 bO.nil,h3⟩)) (by decide)⟩
def Cz (c:List (List aa)):Nat:=dP (fun y:List aa=>dP (fun y:aa=>aa.size y) y) c
def Fz (c:List aB):Nat:=dP (fun y:aB=>aB.size y) c
def zx (X a1:List aa):aB.size (Z105.md X a1).1<=2*dP (fun y:aa=>aa.size y) X+dP (fun y:aa=>aa.size y) a1:=by
 unfold Z105.md
 have z:aB.size aB.zero=0:=rfl
 cases Z73.md X
 ·exact zero_le _
 cases Z73.md a1
 ·exact zero_le _
 cases ((X.getD 0 aa.zero).au.bz != (a1.getD 0 aa.zero).au.bz)
 case true=>exact zero_le _
 cases h1:Z103.md X a1
 case true=>exact zero_le _
 cases h2:Z103.md a1 X
 case true=>exact zero_le _
 obtain ⟨h3,h4,_⟩:=Z105.lT h1 h2
 exact Z105.zN h3 h4
def grow (a0:aj)(a1:List aa):Cz (md a0 a1).1.aH<=Cz a0.aH+(dP (fun y:aa=>aa.size y) a1+1)/\
  Fz (md a0 a1).1.aY<=Fz a0.aY+(2*Cz a0.aH+dP (fun y:aa=>aa.size y) a1+1):=by
 unfold md Cz Fz
 have hs:=wA (f:=fun y:List aa=>dP (fun y:aa=>aa.size y) y) a0.aH (toNat (Z101.md a0 ((a1.getD 0 aa.zero).au.bz))) a1
 have ha:=uu (f:=fun y:List aa=>dP (fun y:aa=>aa.size y) y) a0.aH a1
 have hk:=uu (f:=fun y:aB=>aB.size y) a0.aY (Z105.md (a0.aH.getD (toNat (Z101.md a0 ((a1.getD 0 aa.zero).au.bz))) []) a1).1
 have hf1:=zx (a0.aH.getD (toNat (Z101.md a0 ((a1.getD 0 aa.zero).au.bz))) []) a1
 have hg1:=nB (f:=fun y:List aa=>dP (fun y:aa=>aa.size y) y) (xs:=a0.aH) (i:=toNat (Z101.md a0 ((a1.getD 0 aa.zero).au.bz))) (z:=[]) rfl
 (try simp only at hs);(try simp only at ha);(try simp only at hk);(try simp only at hg1)
 simp only [Bool.cond_eq_ite]
 repeat' split
 all_goals constructor<;>(try simp only)<;>omega
end Z106
namespace Z107
def F (x0:ck)(x1:Int):aK:=(call (Z45.R (x1,x0.cK,x0.cF)) fun v1=>ret (v1:Bool))
def md (a0:aG)(a1:Int):Bool:=((Z45.md a1 a0.cK a0.cF):Bool)
def gd (a0:aG)(a1:Int):Prop:=True
def R:=RR (p2 gd) (u2 md)
def aq {a0 a1}(h:gd a0 a1):R ((aG.r a0),a1)=some (md a0 a1):=aR (a:=(a0,a1)) h
def aW:=CN [.agg gi,pI] oB RT.dec R
def bB (a0)(a1)(hg:gd a0 a1):F (aG.r a0) a1=ret (md a0 a1):=by
 unfold F md
 try simp only [SS]
 refine ct (Z45.aq trivial) ?_
 all_goals exact fz
def af:cG 271 aW:=W2 11 F mix aF bB (.cons Z45.af .nil) Tryz.func271
end Z107
namespace Z108
inductive Pt where
 | p0 (a b c:Int) (d:aD) (e:Int)
def pid:Pt->Nat
 | .p0 ..=>4
def cg:Pt->List V
 | .p0 a b c d e=>[.int .i64 a,.int .i64 b,.int .i64 c,.sl none 3 d,.int .i64 e]
def bZ:Pt->List aZ
 | .p0 a b c d e=>[]
def step (J:Pt->aK):Pt->aK
 | .p0 a b c d e=>(cond (decide (c>1)) (cond ((Int.tmod b 2)==1) (cond (decide (e>=(d.length:Int))) (ret ((0,false):Int×Bool)) (cond ((Int.tmod b 2)==1) (m2 e (d.length:Int) (call (Z83.R ((jG d (toNat e)),a)) fun v1=>J (.p0 v1 (i64.wrap (Int.tdiv b 2)) (i64.wrap (Int.tdiv (i64.wrap (c+1)) 2)) d (i64.wrap (e+1))))) (m2 e (d.length:Int) (call (Z83.R (a,(jG d (toNat e)))) fun v2=>J (.p0 v2 (i64.wrap (Int.tdiv b 2)) (i64.wrap (Int.tdiv (i64.wrap (c+1)) 2)) d (i64.wrap (e+1))))))) (cond (decide ((i64.wrap (b+1))<c)) (cond (decide (e>=(d.length:Int))) (ret ((0,false):Int×Bool)) (cond ((Int.tmod b 2)==1) (m2 e (d.length:Int) (call (Z83.R ((jG d (toNat e)),a)) fun v3=>J (.p0 v3 (i64.wrap (Int.tdiv b 2)) (i64.wrap (Int.tdiv (i64.wrap (c+1)) 2)) d (i64.wrap (e+1))))) (m2 e (d.length:Int) (call (Z83.R (a,(jG d (toNat e)))) fun v4=>J (.p0 v4 (i64.wrap (Int.tdiv b 2)) (i64.wrap (Int.tdiv (i64.wrap (c+1)) 2)) d (i64.wrap (e+1))))))) (J (.p0 a (i64.wrap (Int.tdiv b 2)) (i64.wrap (Int.tdiv (i64.wrap (c+1)) 2)) d e)))) (cond (e != (d.length:Int)) (ret ((0,false):Int×Bool)) (ret ((a,true):Int×Bool))))
def start (J:Pt->aK)(x0 x1 x2:Int)(x3:aD):aK:=(call (Z45.R (x2,1,12)) fun v1=>(cond (!v1) (ret ((0,false):Int×Bool)) (call (Z45.R (x1,0,(i64.wrap (x2 - 1)))) fun v2=>(cond (!v2) (ret ((0,false):Int×Bool)) (J (.p0 x0 x1 x2 x3 0))))))
def live:Nat->Live:=fun i=>match i with | 4=>[(0,none),(1,none),(2,none),(3,none),(10,none)] | _=>[]
def tf:Nat->Int->Int->Int->List Int->Int×Bool
 | 0,_,_,_,_=>(0,false)
 | k+1,leaf,i,n,path=>
  if n>1 then
   if i % 2=1∨i+1<n then
    match path with
    | []=>(0,false)
    | p::ps=>tf k (if i % 2=1 then Z83.md p leaf else Z83.md leaf p) (i / 2) ((n+1) / 2) ps
   else tf k leaf (i / 2) ((n+1) / 2) path
  else if path.isEmpty then (leaf,true) else (0,false)
def md (a0 a1 a2:Int)(a3:List Int):Int×Bool:=(cond (!(Z45.md a2 1 12)) (0,false) (bif !(Z45.md a1 0 (i64.wrap (a2 - 1))) then (0,false) else tf 5 a0 a1 a2 a3))
def gd (a0 a1 a2:Int)(a3:List Int):Prop:=bO (2^38) (fun y:Int=>True) a3
def R:=RR (p4 gd) (u4 md)
def aq {a0 a1 a2 a3}(h:gd a0 a1 a2 a3):R (a0,a1,a2,(a3.map bu))=some ((md a0 a1 a2 a3).1,(md a0 a1 a2 a3).2):=aR (a:=(a0,a1,a2,a3)) h
def aW:=CN [pI,pI,pI,pL 3] (.iW [(false,[fI]),(false,[fB])]) RT.dec R
def bB (a0)(a1)(a2)(a3)(hg:gd a0 a1 a2 a3):∃n,start (iter step n) a0 a1 a2 (a3.map bu)=ret ((md a0 a1 a2 a3).1,(md a0 a1 a2 a3).2):=by
 have tm:∀b:Int,0<=b->b<=11->Int.tmod b 2=b % 2:=fun b h1 h2=>Int.tmod_eq_emod_of_nonneg h1
 have td:∀b:Int,0<=b->b<=13->i64.wrap (Int.tdiv b 2)=b / 2:=fun b h1 h2=>by
  rw [Int.tdiv_eq_ediv_of_nonneg h1,Go.IntWalk.i64_in _ (by omega)]
 have t1:∀b:Int,0<=b->b<=13->i64.wrap (b+1)=b+1:=fun b h1 h2=>Go.IntWalk.i64_in _ (by omega)
 obtain ⟨H3,_⟩:=hg
 have key:∀(k:Nat) (leaf i n:Int) (u:Nat),0<=i->i<n->n<=12->n<=2^k->u<=a3.length->∃m,iter step m (Pt.p0 leaf i n (a3.map bu) (u:Int))=ret ((tf (k+1) leaf i n (a3.drop u)).1,(tf (k+1) leaf i n (a3.drop u)).2):=by
  intro k
  induction k with
  | zero=>
   intro leaf i n u h1 h2 h3 h4 h5
   refine ⟨1,?_⟩
   show step (iter step 0) (Pt.p0 _ _ _ _ _)=_
   have hn:n=1:=by omega
   subst hn
   simp only [step,List.length_map]
   refine cM (by decide) ?_
   unfold tf
   rw [if_neg (by omega)]
   by_cases hu:u=a3.length
   ·rw [List.drop_eq_nil_of_le (by omega),show ((u:Int) != (a3.length:Int))=false from bne_eq_false_iff_eq.2 (by omega)];rfl
   ·have hne:(a3.drop u).isEmpty=false:=by
     rw [List.drop_eq_getElem_cons (by omega)];rfl
    rw [hne,show ((u:Int) != (a3.length:Int))=true from bne_iff_ne.2 (by omega)];rfl
  | succ k ih=>
   intro leaf i n u h1 h2 h3 h4 h5
   have hk:n<=2*2^k:=by rw [Int.pow_succ] at h4;omega
   unfold tf
   by_cases hn:n>1
   ·have e1:=tm i h1 (by omega)
    have e2:=td i h1 (by omega)
    have e3:=t1 n (by omega) (by omega)
    have e4:=td (n+1) (by omega) (by omega)
    have e5:=t1 i h1 (by omega)
    rw [if_pos hn]
    by_cases hc:i % 2=1∨i+1<n
    ·rw [if_pos hc]
     by_cases hu:u=a3.length
     ·refine ⟨1,?_⟩
      show step (iter step 0) (Pt.p0 _ _ _ _ _)=_
      rw [List.drop_eq_nil_of_le (by omega)]
      simp only [step,List.length_map,e1,e5]
      refine ak (decide_eq_true (by omega)) ?_
      by_cases hm:i % 2=1
      ·rw [hm]
       exact ak rfl (ak (decide_eq_true (by omega)) rfl)
      ·refine cM (beq_eq_false_iff_ne.2 hm) (ak (decide_eq_true (by omega)) (ak (decide_eq_true (by omega)) rfl))
     ·have hlt:u<a3.length:=by omega
      rw [List.drop_eq_getElem_cons hlt]
      obtain ⟨m,hm⟩:=ih (if i % 2=1 then Z83.md a3[u] leaf else Z83.md leaf a3[u]) (i / 2) ((n+1) / 2) (u+1) (by omega) (by omega) (by omega) (by omega) (by omega)
      refine ⟨m+1,?_⟩
      show step (iter step m) (Pt.p0 _ _ _ _ _)=_
      have w:i64.wrap ((u:Int)+1)=((u+1:Nat):Int):=by rw [Go.IntWalk.i64_in _ (by omega)];omega
      simp only [step,List.length_map,e1,e2,e3,e4,e5,w,cB,gU,eS hlt]
      refine ak (decide_eq_true (by omega)) ?_
      by_cases hp:i % 2=1
      ·rw [if_pos hp] at hm
       rw [hp]
       refine ak rfl (cM (decide_eq_false (by omega)) (ak rfl (ak (decide_eq_true (by omega)) (ak (decide_eq_true (by omega)) (bg _ (Z83.aq trivial) ?_)))))
       rw [if_pos rfl]
       exact hm
      ·rw [if_neg hp] at hm
       have hb:(i % 2==1)=false:=beq_eq_false_iff_ne.2 hp
       rw [hb]
       refine cM rfl (ak (decide_eq_true (by omega)) (cM (decide_eq_false (by omega)) (cM rfl (ak (decide_eq_true (by omega)) (ak (decide_eq_true (by omega)) (bg _ (Z83.aq trivial) ?_))))))
       rw [if_neg hp]
       exact hm
    ·rw [if_neg hc]
     obtain ⟨m,hm⟩:=ih leaf (i / 2) ((n+1) / 2) u (by omega) (by omega) (by omega) (by omega) h5
     refine ⟨m+1,?_⟩
     show step (iter step m) (Pt.p0 _ _ _ _ _)=_
     simp only [step,List.length_map,e1,e2,e3,e4,e5]
     have hb:(i % 2==1)=false:=beq_eq_false_iff_ne.2 (by omega)
     rw [hb]
     exact ak (decide_eq_true (by omega)) (cM rfl (cM (decide_eq_false (by omega)) hm))
   ·refine ⟨1,?_⟩
    show step (iter step 0) (Pt.p0 _ _ _ _ _)=_
    have hn1:n=1:=by omega
    subst hn1
    simp only [step,List.length_map]
    refine cM (by decide) ?_
    rw [if_neg (by omega)]
    by_cases hu:u=a3.length
    ·rw [List.drop_eq_nil_of_le (by omega),show ((u:Int) != (a3.length:Int))=false from bne_eq_false_iff_eq.2 (by omega)];rfl
    ·have hne:(a3.drop u).isEmpty=false:=by
      rw [List.drop_eq_getElem_cons (by omega)];rfl
     rw [hne,show ((u:Int) != (a3.length:Int))=true from bne_iff_ne.2 (by omega)];rfl
 unfold start md
 refine fo (Z45.md a2 1 12) (Z45.aq trivial) ?_
 cases hc:Z45.md a2 1 12
 ·exact ⟨0,rfl⟩
 simp only [Bool.not_true,bA]
 refine fo (Z45.md a1 0 (i64.wrap (a2 - 1))) (Z45.aq trivial) ?_
 cases hd:Z45.md a1 0 (i64.wrap (a2 - 1))
 ·exact ⟨0,rfl⟩
 have i1:1<=a2/\a2<=12:=by simpa [Z45.md] using hc
 rw [Go.IntWalk.i64_in _ (by omega)] at hd
 have i2:0<=a1/\a1<=a2 - 1:=by simpa [Z45.md] using hd
 exact key 4 a0 a1 a2 0 (by omega) (by omega) (by omega) (by omega) (by omega)
def af:cG 469 aW:=L4 63 pid cg bZ live step start mix aF bB (.cons Z45.af (.cons Z83.af .nil)) Tryz.func469
end Z108
namespace Z109
def F (x0 x1:Int)(x2:bf)(x3:bT):aK:=(call (Z81.R x2) fun v1=>(call (Z108.R (v1,x3.eG,x1,x3.bH)) fun v2=>(call (Z75.R x2) fun v3=>(cond v3 (cond v2.2 (call (Z86.R (x1,v2.1)) fun v4=>ret ((v4==x0):Bool)) bh) bh))))
def md (a0 a1:Int)(a2:ah)(a3:aP):Bool:=(cond (Z75.md a2) (cond ((Z108.md (Z81.md a2) a3.eG a1 a3.bH).2) (((Z86.md a1 ((Z108.md (Z81.md a2) a3.eG a1 a3.bH).1))==a0):Bool) (false:Bool)) (false:Bool))
def gd (a0 a1:Int)(a2:ah)(a3:aP):Prop:=(ah.Sm (2^21) a2)/\(aP.Sm (2^21) a3)
def R:=RR (p4 gd) (u4 md)
def aq {a0 a1 a2 a3}(h:gd a0 a1 a2 a3):R (a0,a1,(ah.r a2),(aP.r a3))=some (md a0 a1 a2 a3):=aR (a:=(a0,a1,a2,a3)) h
def aW:=CN [pI,pI,.agg sn,.agg rE] oB RT.dec R
def bB (a0)(a1)(a2)(a3)(hg:gd a0 a1 a2 a3):F a0 a1 (ah.r a2) (aP.r a3)=ret (md a0 a1 a2 a3):=by
 obtain ⟨H2,H3⟩:=hg
 unfold F md
 try simp only [SS]
 refine ct (Z81.aq H2) ?_
 refine ct (Z108.aq (H3.mono (by decide) (fun x hx=>trivial))) ?_
 refine ct (Z75.aq H2) ?_
 refine ay ret (fun c1=>?_) (fun _=>rfl)
 refine ay ret (fun c2=>?_) (fun _=>rfl)
 refine ct (Z86.aq trivial) ?_
 all_goals exact fz
def af:cG 391 aW:=W4 34 F mix aF bB (.cons Z81.af (.cons Z108.af (.cons Z75.af (.cons Z86.af .nil)))) Tryz.func391
end Z109
namespace Z110
inductive Pt where
 | p0 (a b:aD) (c:Int)
def pid:Pt->Nat
 | .p0 ..=>4
def cg:Pt->List V
 | .p0 a b c=>[.sl none 9 a,.sl none 9 b,.int .i64 c]
def bZ:Pt->List aZ
 | .p0 a b c=>[]
def step (J:Pt->aK):Pt->aK
 | .p0 a b c=>(cond (decide (c<(a.length:Int))) (m2 c (a.length:Int) (m2 c (b.length:Int) (cond (!((qk a (toNat c))==(qk b (toNat c)))) bh (J (.p0 a b (i64.wrap (c+1))))))) eF)
def start (J:Pt->aK)(x0 x1:aD):aK:=(cond ((x0.length:Int) != (x1.length:Int)) bh (J (.p0 x0 x1 0)))
def live:Nat->Live:=fun i=>match i with | 4=>[(0,none),(1,none),(5,none)] | _=>[]
def md (a0 a1:List aE):Bool:=(bif ((a0.length:Int) != (a1.length:Int)) then (false:Bool) else (eC (S:=Unit) (β:=Bool) (fun (i2:Nat) (s4:Unit)=>(cond (!((a0.getD i2 ⟨#[]⟩)==(a1.getD i2 ⟨#[]⟩))) (.inr (false:Bool)) (.inl ()))) (fun (s4:Unit)=>(true:Bool)) a0.length 0 ()))
def gd (a0 a1:List aE):Prop:=(bO (2^21) (fun y:aE=>y.size<=(2^21)) a0)/\(bO (2^21) (fun y:aE=>y.size<=(2^21)) a1)
def R:=RR (p2 gd) (u2 md)
def aq {a0 a1}(h:gd a0 a1):R ((a0.map cI),(a1.map cI))=some (md a0 a1):=aR (a:=(a0,a1)) h
def aW:=CN [pL 9,pL 9] oB RT.dec R
def bB (a0)(a1)(hg:gd a0 a1):∃n,start (iter step n) (a0.map cI) (a1.map cI)=ret (md a0 a1):=by
 obtain ⟨H0,H1⟩:=hg
 unfold start md
 try simp only [SS]
 refine hU ret (fun _=>⟨0,rfl⟩) (fun c1=>?_)
 have dc1:=c1
 try simp only [DC] at dc1
 have Bh3:a0.length<=maxLen:=(by
   have:=(H0).1
   try simp only [maxLen] at *
   omega)
 refine dR (p:=Pt.p0 (a0.map cI) (a1.map cI) 0) fz ?_
 refine cu (pt:=fun (i2:Nat) (s4:Unit)=>Pt.p0 (a0.map cI) (a1.map cI) (i2:Int)) (s:=(():Unit)) (out:=ret) (fun _ _=>True) (fun J i2 s4 h3 hih3=>?_) (fun s4 hih3=>?_) trivial
 ·simp only [step,SS]
  have bb_:=Bh3
  simp only [maxLen] at bb_
  have:=(H0).1
  refine bD.yes (by apply decide_eq_true;omega) ?_
  refine bD.yes aJ ?_
  refine bD.yes (aL h3) ?_
  refine bD.yes aJ ?_
  refine bD.yes (have:=(H1).1;dt) ?_
  refine bD.bif (fun _=>bD.inr rfl) (fun c5=>?_)
  refine bD.inl trivial ?_
  rw [aI h3 Bh3]
  all_goals exact fz
 ·simp only [step,SS]
  have:=(H0).1
  refine dF (by apply decide_eq_false;omega) ?_
  refine ⟨0,?_⟩
  all_goals exact fz
def af:cG 407 aW:=L2 26 pid cg bZ live step start mix aF bB .nil Tryz.func407
def md_eq (a0 a1:List aE):md a0 a1=eo a0 a1:=by
 unfold md
 refine kA (⟨#[]⟩) (fun i s h h2=>?_) (fun s=>rfl)
 simp only [bne,fq,bool_beq,eW]
 cases eo _ _<;>rfl
end Z110
namespace Z111
def F (x0 x1:bf):aK:=(cond (x0.bn==x1.bn) (cond (x0.bM==x1.bM) (cond (x0.cq==x1.cq) (call (Z110.R (x0.bH,x1.bH)) fun v1=>ret (v1:Bool)) bh) bh) bh)
def md (a0 a1:ah):Bool:=(cond (a0.bn==a1.bn) (cond (a0.bM==a1.bM) (cond (a0.cq==a1.cq) ((Z110.md a0.bH a1.bH):Bool) (false:Bool)) (false:Bool)) (false:Bool))
def gd (a0 a1:ah):Prop:=(ah.Sm (2^21) a0)/\(ah.Sm (2^21) a1)
def R:=RR (p2 gd) (u2 md)
def aq {a0 a1}(h:gd a0 a1):R ((ah.r a0),(ah.r a1))=some (md a0 a1):=aR (a:=(a0,a1)) h
def aW:=CN [.agg sn,.agg sn] oB RT.dec R
def bB (a0)(a1)(hg:gd a0 a1):F (ah.r a0) (ah.r a1)=ret (md a0 a1):=by
 obtain ⟨H0,H1⟩:=hg
 unfold F md
 try simp only [SS]
 refine ay ret (fun c1=>?_) (fun _=>rfl)
 refine ay ret (fun c2=>?_) (fun _=>rfl)
 refine ay ret (fun c3=>?_) (fun _=>rfl)
 refine ct (Z110.aq ⟨H0.2,H1.2⟩) ?_
 all_goals exact fz
def af:cG 403 aW:=W2 31 F mix aF bB (.cons Z110.af .nil) Tryz.func403
def md_eq (a0 a1:ah):md a0 a1=eo a0 a1:=by
 unfold md
 cases a0;cases a1
 rw [Bool.eq_iff_iff]
 simp [dA,eW,ah.mk.injEq,Z110.md_eq]
 try (constructor<;>(intro h;simp_all))
end Z111
namespace Z112
def F (x0 x1:bT):aK:=(cond (x0.eG==x1.eG) (call (Z65.R (x0.bH,x1.bH)) fun v1=>ret (v1:Bool)) bh)
def md (a0 a1:aP):Bool:=(cond (a0.eG==a1.eG) ((Z65.md a0.bH a1.bH):Bool) (false:Bool))
def gd (a0 a1:aP):Prop:=(aP.Sm (2^21) a0)/\(aP.Sm (2^21) a1)
def R:=RR (p2 gd) (u2 md)
def aq {a0 a1}(h:gd a0 a1):R ((aP.r a0),(aP.r a1))=some (md a0 a1):=aR (a:=(a0,a1)) h
def aW:=CN [.agg rE,.agg rE] oB RT.dec R
def bB (a0)(a1)(hg:gd a0 a1):F (aP.r a0) (aP.r a1)=ret (md a0 a1):=by
 obtain ⟨H0,H1⟩:=hg
 unfold F md
 try simp only [SS]
 refine ay ret (fun c1=>?_) (fun _=>rfl)
 refine ct (Z65.aq ⟨(H0.mono (by decide) (fun x hx=>trivial)),(H1.mono (by decide) (fun x hx=>trivial))⟩) ?_
 all_goals exact fz
def af:cG 472 aW:=W2 17 F mix aF bB (.cons Z65.af .nil) Tryz.func472
def md_eq (a0 a1:aP):md a0 a1=eo a0 a1:=by
 unfold md
 cases a0;cases a1
 rw [Bool.eq_iff_iff]
 simp [dA,eW,aP.mk.injEq,Z65.md_eq]
 try (constructor<;>(intro h;simp_all))
end Z112
namespace Z113
def F (x0 x1:dV):aK:=(cond (x0.eG==x1.eG) (call (Z111.R (x0.aS,x1.aS)) fun v1=>(cond v1 (call (Z111.R (x0.cJ,x1.cJ)) fun v2=>(cond v2 (call (Z112.R (x0.eI,x1.eI)) fun v3=>(cond v3 (call (Z112.R (x0.dh,x1.dh)) fun v4=>ret (v4:Bool)) bh)) bh)) bh)) bh)
def md (a0 a1:bW):Bool:=(cond (a0.eG==a1.eG) (cond (Z111.md a0.aS a1.aS) (cond (Z111.md a0.cJ a1.cJ) (cond (Z112.md a0.eI a1.eI) ((Z112.md a0.dh a1.dh):Bool) (false:Bool)) (false:Bool)) (false:Bool)) (false:Bool))
def gd (a0 a1:bW):Prop:=(bW.Sm (2^21) a0)/\(bW.Sm (2^21) a1)
def R:=RR (p2 gd) (u2 md)
def aq {a0 a1}(h:gd a0 a1):R ((bW.r a0),(bW.r a1))=some (md a0 a1):=aR (a:=(a0,a1)) h
def aW:=CN [.agg vW,.agg vW] oB RT.dec R
def bB (a0)(a1)(hg:gd a0 a1):F (bW.r a0) (bW.r a1)=ret (md a0 a1):=by
 obtain ⟨H0,H1⟩:=hg
 unfold F md
 try simp only [SS]
 refine ay ret (fun c1=>?_) (fun _=>rfl)
 refine ct (Z111.aq ⟨H0.1,H1.1⟩) ?_
 refine ay ret (fun c2=>?_) (fun _=>rfl)
 refine ct (Z111.aq ⟨H0.2.1,H1.2.1⟩) ?_
 refine ay ret (fun c3=>?_) (fun _=>rfl)
 refine ct (Z112.aq ⟨H0.2.2.1,H1.2.2.1⟩) ?_
 refine ay ret (fun c4=>?_) (fun _=>rfl)
 refine ct (Z112.aq ⟨H0.2.2.2,H1.2.2.2⟩) ?_
 all_goals exact fz
def af:cG 392 aW:=W2 38 F mix aF bB (.cons Z111.af (.cons Z112.af .nil)) Tryz.func392
def md_eq (a0 a1:bW):md a0 a1=eo a0 a1:=by
 unfold md
 cases a0;cases a1
 rw [Bool.eq_iff_iff]
 simp [dA,eW,bW.mk.injEq,Z111.md_eq,Z112.md_eq]
 try (constructor<;>(intro h;simp_all))
end Z113
namespace Z114
def F (x0:bf)(x1:bT):aK:=(call (Z111.R (x0,(⟨(⟨#[]⟩:aE),0,0,[]⟩:bf))) fun v1=>(cond v1 (call (Z112.R (x1,(⟨0,[]⟩:bT))) fun v2=>ret (v2:Bool)) bh))
def md (a0:ah)(a1:aP):Bool:=(cond (Z111.md a0 (⟨((⟨#[]⟩:aE):aE),0,0,[]⟩:ah)) ((Z112.md a1 (⟨0,[]⟩:aP)):Bool) (false:Bool))
def gd (a0:ah)(a1:aP):Prop:=(ah.Sm (2^21) a0)/\(aP.Sm (2^21) a1)
def R:=RR (p2 gd) (u2 md)
def aq {a0 a1}(h:gd a0 a1):R ((ah.r a0),(aP.r a1))=some (md a0 a1):=aR (a:=(a0,a1)) h
def aW:=CN [.agg sn,.agg rE] oB RT.dec R
def bB (a0)(a1)(hg:gd a0 a1):F (ah.r a0) (aP.r a1)=ret (md a0 a1):=by
 obtain ⟨H0,H1⟩:=hg
 unfold F md
 try simp only [SS]
 refine ct (Z111.aq (a1:=(⟨((⟨#[]⟩:aE):aE),0,0,[]⟩:ah)) ⟨H0,⟨(by decide),bO.nil⟩⟩) ?_
 refine ay ret (fun c1=>?_) (fun _=>rfl)
 refine ct (Z112.aq (a1:=(⟨0,[]⟩:aP)) ⟨H1,bO.nil⟩) ?_
 all_goals exact fz
def af:cG 394 aW:=W2 13 F mix aF bB (.cons Z111.af (.cons Z112.af .nil)) Tryz.func394
end Z114
namespace Z115
def F (x0 x1:Int)(x2:aE)(x3:dV):aK:=(call (Z46.R x2) fun v1=>(cond (!v1) bh (call (Z45.R (x3.eG,0,x1)) fun v2=>(cond (!v2) bh (cond (x1==0) (call (Z87.R []) fun v3=>(cond (x0 != v3) bh (cond (x3.eG==0) (call (Z114.R (x3.aS,x3.eI)) fun v4=>(cond (!v4) bh (cond (x3.eG==x1) (call (Z114.R (x3.cJ,x3.dh)) fun v5=>ret (v5:Bool)) (call (Z109.R (x0,x1,x3.cJ,x3.dh)) fun v6=>(cond v6 (cond (x3.dh.eG==x3.eG) (call (Z76.R (x3.cJ.bn,x2)) fun v7=>ret ((v7==1):Bool)) bh) bh))))) (call (Z109.R (x0,x1,x3.aS,x3.eI)) fun v8=>(cond (!v8) bh (cond (x3.eI.eG != (i64.wrap (x3.eG - 1))) bh (call (Z76.R (x3.aS.bn,x2)) fun v9=>(cond (v9 != (-1)) bh (cond (x3.eG==x1) (call (Z114.R (x3.cJ,x3.dh)) fun v10=>ret (v10:Bool)) (call (Z109.R (x0,x1,x3.cJ,x3.dh)) fun v11=>(cond v11 (cond (x3.dh.eG==x3.eG) (call (Z76.R (x3.cJ.bn,x2)) fun v12=>ret ((v12==1):Bool)) bh) bh))))))))))) (cond (x3.eG==0) (call (Z114.R (x3.aS,x3.eI)) fun v13=>(cond (!v13) bh (cond (x3.eG==x1) (call (Z114.R (x3.cJ,x3.dh)) fun v14=>ret (v14:Bool)) (call (Z109.R (x0,x1,x3.cJ,x3.dh)) fun v15=>(cond v15 (cond (x3.dh.eG==x3.eG) (call (Z76.R (x3.cJ.bn,x2)) fun v16=>ret ((v16==1):Bool)) bh) bh))))) (call (Z109.R (x0,x1,x3.aS,x3.eI)) fun v17=>(cond (!v17) bh (cond (x3.eI.eG != (i64.wrap (x3.eG - 1))) bh (call (Z76.R (x3.aS.bn,x2)) fun v18=>(cond (v18 != (-1)) bh (cond (x3.eG==x1) (call (Z114.R (x3.cJ,x3.dh)) fun v19=>ret (v19:Bool)) (call (Z109.R (x0,x1,x3.cJ,x3.dh)) fun v20=>(cond v20 (cond (x3.dh.eG==x3.eG) (call (Z76.R (x3.cJ.bn,x2)) fun v21=>ret ((v21==1):Bool)) bh) bh))))))))))))))
def md (a0 a1:Int)(a2:aE)(a3:bW):Bool:=(cond (!(Z46.md a2)) (false:Bool) (cond (!(Z45.md a3.eG 0 a1)) (false:Bool) (cond (a1==0) (cond (a0 != (Z87.md [])) (false:Bool) (cond (a3.eG==0) (cond (!(Z114.md a3.aS a3.eI)) (false:Bool) (cond (a3.eG==a1) ((Z114.md a3.cJ a3.dh):Bool) (cond (Z109.md a0 a1 a3.cJ a3.dh) (cond (a3.dh.eG==a3.eG) (((Z76.md a3.cJ.bn a2)==1):Bool) (false:Bool)) (false:Bool)))) (cond (!(Z109.md a0 a1 a3.aS a3.eI)) (false:Bool) (cond (a3.eI.eG != (i64.wrap (a3.eG - 1))) (false:Bool) (cond ((Z76.md a3.aS.bn a2) != (-1)) (false:Bool) (cond (a3.eG==a1) ((Z114.md a3.cJ a3.dh):Bool) (cond (Z109.md a0 a1 a3.cJ a3.dh) (cond (a3.dh.eG==a3.eG) (((Z76.md a3.cJ.bn a2)==1):Bool) (false:Bool)) (false:Bool)))))))) (cond (a3.eG==0) (cond (!(Z114.md a3.aS a3.eI)) (false:Bool) (cond (a3.eG==a1) ((Z114.md a3.cJ a3.dh):Bool) (cond (Z109.md a0 a1 a3.cJ a3.dh) (cond (a3.dh.eG==a3.eG) (((Z76.md a3.cJ.bn a2)==1):Bool) (false:Bool)) (false:Bool)))) (cond (!(Z109.md a0 a1 a3.aS a3.eI)) (false:Bool) (cond (a3.eI.eG != (i64.wrap (a3.eG - 1))) (false:Bool) (cond ((Z76.md a3.aS.bn a2) != (-1)) (false:Bool) (cond (a3.eG==a1) ((Z114.md a3.cJ a3.dh):Bool) (cond (Z109.md a0 a1 a3.cJ a3.dh) (cond (a3.dh.eG==a3.eG) (((Z76.md a3.cJ.bn a2)==1):Bool) (false:Bool)) (false:Bool))))))))))
def gd (a0 a1:Int)(a2:aE)(a3:bW):Prop:=(a2.size<=(2^21))/\(bW.Sm (2^21) a3)
def R:=RR (p4 gd) (u4 md)
def aq {a0 a1 a2 a3}(h:gd a0 a1 a2 a3):R (a0,a1,a2,(bW.r a3))=some (md a0 a1 a2 a3):=aR (a:=(a0,a1,a2,a3)) h
def aW:=CN [pI,pI,pS,.agg vW] oB RT.dec R
def bB (a0)(a1)(a2)(a3)(hg:gd a0 a1 a2 a3):F a0 a1 a2 (bW.r a3)=ret (md a0 a1 a2 a3):=by
 obtain ⟨H2,H3⟩:=hg
 unfold F md
 try simp only [SS]
 refine ct (Z46.aq (le_trans H2 (by decide))) ?_
 refine ay ret (fun _=>rfl) (fun c1=>?_)
 refine ct (Z45.aq trivial) ?_
 refine ay ret (fun _=>rfl) (fun c2=>?_)
 refine ay ret (fun c3=>?_) (fun c3=>?_)
 ·refine bg (Z87.md []) (rq (Z87.aq (a0:=[]) bO.nil)) ?_
  refine ay ret (fun _=>rfl) (fun c4=>?_)
  refine ay ret (fun c5=>?_) (fun c5=>?_)
  ·refine ct (Z114.aq ⟨H3.1,H3.2.2.1⟩) ?_
   refine ay ret (fun _=>rfl) (fun c6=>?_)
   refine ay ret (fun c7=>?_) (fun c7=>?_)
   ·refine ct (Z114.aq ⟨H3.2.1,H3.2.2.2⟩) ?_
    all_goals exact fz
   ·refine ct (Z109.aq ⟨H3.2.1,H3.2.2.2⟩) ?_
    refine ay ret (fun c8=>?_) (fun _=>rfl)
    refine ay ret (fun c9=>?_) (fun _=>rfl)
    refine ct (Z76.aq trivial) ?_
    all_goals exact fz
  ·refine ct (Z109.aq ⟨H3.1,H3.2.2.1⟩) ?_
   refine ay ret (fun _=>rfl) (fun c10=>?_)
   refine ay ret (fun _=>rfl) (fun c11=>?_)
   refine ct (Z76.aq trivial) ?_
   refine ay ret (fun _=>rfl) (fun c12=>?_)
   refine ay ret (fun c13=>?_) (fun c13=>?_)
   ·refine ct (Z114.aq ⟨H3.2.1,H3.2.2.2⟩) ?_
    all_goals exact fz
   ·refine ct (Z109.aq ⟨H3.2.1,H3.2.2.2⟩) ?_
    refine ay ret (fun c14=>?_) (fun _=>rfl)
    refine ay ret (fun c15=>?_) (fun _=>rfl)
    refine ct (Z76.aq trivial) ?_
    all_goals exact fz
 ·refine ay ret (fun c16=>?_) (fun c16=>?_)
  ·refine ct (Z114.aq ⟨H3.1,H3.2.2.1⟩) ?_
   refine ay ret (fun _=>rfl) (fun c17=>?_)
   refine ay ret (fun c18=>?_) (fun c18=>?_)
   ·refine ct (Z114.aq ⟨H3.2.1,H3.2.2.2⟩) ?_
    all_goals exact fz
   ·refine ct (Z109.aq ⟨H3.2.1,H3.2.2.2⟩) ?_
    refine ay ret (fun c19=>?_) (fun _=>rfl)
    refine ay ret (fun c20=>?_) (fun _=>rfl)
    refine ct (Z76.aq trivial) ?_
    all_goals exact fz
  ·refine ct (Z109.aq ⟨H3.1,H3.2.2.1⟩) ?_
   refine ay ret (fun _=>rfl) (fun c21=>?_)
   refine ay ret (fun _=>rfl) (fun c22=>?_)
   refine ct (Z76.aq trivial) ?_
   refine ay ret (fun _=>rfl) (fun c23=>?_)
   refine ay ret (fun c24=>?_) (fun c24=>?_)
   ·refine ct (Z114.aq ⟨H3.2.1,H3.2.2.2⟩) ?_
    all_goals exact fz
   ·refine ct (Z109.aq ⟨H3.2.1,H3.2.2.2⟩) ?_
    refine ay ret (fun c25=>?_) (fun _=>rfl)
    refine ay ret (fun c26=>?_) (fun _=>rfl)
    refine ct (Z76.aq trivial) ?_
    all_goals exact fz
def af:cG 393 aW:=W4 95 F mix aF bB (.cons Z46.af (.cons Z45.af (.cons Z87.af (.cons Z114.af (.cons Z109.af (.cons Z76.af .nil)))))) Tryz.func393
end Z115
namespace Z116
def F (x0:ck)(x1:aE)(x2:bp):aK:=(cond x2.cA (cond (x2.aV.bn==x1) (call (Z109.R (x0.dm,x0.cz,x2.aV,x2.eE)) fun v1=>(cond v1 (call (Z113.R (x2.fc,(⟨0,(⟨(⟨#[]⟩:aE),0,0,[]⟩:bf),(⟨(⟨#[]⟩:aE),0,0,[]⟩:bf),(⟨0,[]⟩:bT),(⟨0,[]⟩:bT)⟩:dV))) fun v2=>ret (v2:Bool)) bh)) bh) (call (Z115.R (x0.dm,x0.cz,x1,x2.fc)) fun v3=>(cond v3 (call (Z114.R (x2.aV,x2.eE)) fun v4=>ret (v4:Bool)) bh)))
def md (a0:aG)(a1:aE)(a2:az):Bool:=(cond a2.cA (cond (a2.aV.bn==a1) (cond (Z109.md a0.dm a0.cz a2.aV a2.eE) ((Z113.md a2.fc (⟨0,(⟨((⟨#[]⟩:aE):aE),0,0,[]⟩:ah),(⟨((⟨#[]⟩:aE):aE),0,0,[]⟩:ah),(⟨0,[]⟩:aP),(⟨0,[]⟩:aP)⟩:bW)):Bool) (false:Bool)) (false:Bool)) (cond (Z115.md a0.dm a0.cz a1 a2.fc) ((Z114.md a2.aV a2.eE):Bool) (false:Bool)))
def gd (a0:aG)(a1:aE)(a2:az):Prop:=(a1.size<=(2^21))/\(az.Sm (2^21) a2)
def R:=RR (p3 gd) (u3 md)
def aq {a0 a1 a2}(h:gd a0 a1 a2):R ((aG.r a0),a1,(az.r a2))=some (md a0 a1 a2):=aR (a:=(a0,a1,a2)) h
def aW:=CN [.agg gi,pS,.agg xL] oB RT.dec R
def bB (a0)(a1)(a2)(hg:gd a0 a1 a2):F (aG.r a0) a1 (az.r a2)=ret (md a0 a1 a2):=by
 obtain ⟨H1,H2⟩:=hg
 unfold F md
 try simp only [SS]
 refine ay ret (fun c1=>?_) (fun c1=>?_)
 ·refine ay ret (fun c2=>?_) (fun _=>rfl)
  refine ct (Z109.aq ⟨H2.2.1,H2.2.2.1⟩) ?_
  refine ay ret (fun c3=>?_) (fun _=>rfl)
  refine ct (Z113.aq (a1:=(⟨0,(⟨((⟨#[]⟩:aE):aE),0,0,[]⟩:ah),(⟨((⟨#[]⟩:aE):aE),0,0,[]⟩:ah),(⟨0,[]⟩:aP),(⟨0,[]⟩:aP)⟩:bW)) ⟨H2.2.2.2,⟨⟨(by decide),bO.nil⟩,⟨(by decide),bO.nil⟩,bO.nil,bO.nil⟩⟩) ?_
  all_goals exact fz
 ·refine ct (Z115.aq ⟨H1,H2.2.2.2⟩) ?_
  refine ay ret (fun c4=>?_) (fun _=>rfl)
  refine ct (Z114.aq ⟨H2.2.1,H2.2.2.1⟩) ?_
  all_goals exact fz
def af:cG 272 aW:=W3 46 F mix aF bB (.cons Z109.af (.cons Z113.af (.cons Z115.af (.cons Z114.af .nil)))) Tryz.func272
end Z116
namespace Z117
def F (x0:Int)(x1:aE)(x2:bp)(x3:Int):aK:=(call (Z74.R x2.aU) fun v1=>(cond (!v1.2) (ret (3:Int)) (cond (v1.1.bz != x0) (ret (2:Int)) (call (Z107.R (v1.1,x3)) fun v2=>(cond (!v2) (ret (4:Int)) (cond v1.1.bG (ret (5:Int)) (call (Z116.R (v1.1,x1,x2)) fun v3=>(cond (!v3) (ret (6:Int)) (ret (1:Int))))))))))
def md (a0:Int)(a1:aE)(a2:az)(a3:Int):Int:=(cond (!(Z74.md a2.aU).2) (3:Int) (cond ((Z74.md a2.aU).1.bz != a0) (2:Int) (cond (!(Z107.md ((Z74.md a2.aU).1) a3)) (4:Int) (cond ((Z74.md a2.aU).1.bG) (5:Int) (cond (!(Z116.md ((Z74.md a2.aU).1) a1 a2)) (6:Int) (1:Int))))))
def gd (a0:Int)(a1:aE)(a2:az)(a3:Int):Prop:=(a1.size<=(2^21))/\(az.Sm (2^21) a2)
def R:=RR (p4 gd) (u4 md)
def aq {a0 a1 a2 a3}(h:gd a0 a1 a2 a3):R (a0,a1,(az.r a2),a3)=some (md a0 a1 a2 a3):=aR (a:=(a0,a1,a2,a3)) h
def aW:=CN [pI,pS,.agg xL,pI] oI RT.dec R
def bB (a0)(a1)(a2)(a3)(hg:gd a0 a1 a2 a3):F a0 a1 (az.r a2) a3=ret (md a0 a1 a2 a3):=by
 obtain ⟨H1,H2⟩:=hg
 unfold F md
 try simp only [SS]
 refine ct (Z74.aq H2.1) ?_
 try simp only [SS]
 refine ay ret (fun _=>rfl) (fun c1=>?_)
 refine ay ret (fun _=>rfl) (fun c2=>?_)
 refine ct (Z107.aq trivial) ?_
 refine ay ret (fun _=>rfl) (fun c3=>?_)
 refine ay ret (fun _=>rfl) (fun c4=>?_)
 refine ct (Z116.aq ⟨H1,H2⟩) ?_
 refine ay ret (fun _=>rfl) (fun _=>rfl)
def af:cG 95 aW:=W4 39 F mix aF bB (.cons Z74.af (.cons Z107.af (.cons Z116.af .nil))) Tryz.func95
end Z117
namespace Z118
inductive Pt where
 | p0 (a:Int) (b c:aT)
def pid:Pt->Nat
 | .p0 ..=>4
def cg:Pt->List V
 | .p0 a b c=>[.dy 0 0,.dy 1 0,.int .i64 a]
def bZ:Pt->List aZ
 | .p0 a b c=>[.box [.int .i64 b.au.bz,.int .i64 b.au.cN,.int .i64 b.au.bM,.int .i64 b.au.cK,.int .i64 b.au.cF,.int .i64 b.au.cz,.int .i64 b.au.dm,.int .i64 b.au.dH,.sl none 3 b.au.bQ.aX,.int .i64 b.au.bQ.cH,.sl none 3 b.au.bE.aX,.int .i64 b.au.bE.cH,.int .i64 b.au.dw,.sl none 3 b.au.bC.aX,.int .i64 b.au.bC.cH,.bool b.au.bG,.sl none 428 b.cw],.box [.int .i64 c.au.bz,.int .i64 c.au.cN,.int .i64 c.au.bM,.int .i64 c.au.cK,.int .i64 c.au.cF,.int .i64 c.au.cz,.int .i64 c.au.dm,.int .i64 c.au.dH,.sl none 3 c.au.bQ.aX,.int .i64 c.au.bQ.cH,.sl none 3 c.au.bE.aX,.int .i64 c.au.bE.cH,.int .i64 c.au.dw,.sl none 3 c.au.bC.aX,.int .i64 c.au.bC.cH,.bool c.au.bG,.sl none 428 c.cw]]
def step (J:Pt->aK):Pt->aK
 | .p0 a b c=>(cond (decide (a<(b.cw.length:Int))) (m2 a (b.cw.length:Int) (m2 a (c.cw.length:Int) (cond (!((((bw.at b.cw (toNat a)).gW:Int)==(bw.at c.cw (toNat a)).gW)&&((((bw.at b.cw (toNat a)).jD:Int)==(bw.at c.cw (toNat a)).jD)&&true))) bh (J (.p0 (i64.wrap (a+1)) b c))))) eF)
def start (J:Pt->aK)(x0 x1:aT):aK:=(call (Z102.R (x0.au,x1.au)) fun v1=>(cond (!v1) bh (cond ((x0.cw.length:Int) != (x1.cw.length:Int)) bh (J (.p0 0 x0 x1)))))
def live:Nat->Live:=fun i=>match i with | 4=>[(2,none),(3,none),(5,none)] | _=>[]
def md (a0 a1:aa):Bool:=(bif (!(Z102.md a0.au a1.au)) then (false:Bool) else (bif ((a0.cw.length:Int) != (a1.cw.length:Int)) then (false:Bool) else (eC (S:=Unit) (β:=Bool) (fun (i3:Nat) (s5:Unit)=>(cond (!((((a0.cw.getD i3 bw.zero).gW:Int)==(a1.cw.getD i3 bw.zero).gW)&&((((a0.cw.getD i3 bw.zero).jD:Int)==(a1.cw.getD i3 bw.zero).jD)&&true))) (.inr (false:Bool)) (.inl ()))) (fun (s5:Unit)=>(true:Bool)) a0.cw.length 0 ())))
def gd (a0 a1:aa):Prop:=(aa.Sm (2^21) a0)/\(aa.Sm (2^21) a1)
def R:=RR (p2 gd) (u2 md)
def aq {a0 a1}(h:gd a0 a1):R ((aa.r a0),(aa.r a1))=some (md a0 a1):=aR (a:=(a0,a1)) h
def aW:=CN [.agg kT,.agg kT] oB RT.dec R
def bB (a0)(a1)(hg:gd a0 a1):∃n,start (iter step n) (aa.r a0) (aa.r a1)=ret (md a0 a1):=by
 obtain ⟨H0,H1⟩:=hg
 unfold start md
 try simp only [SS]
 refine cx (Z102.aq ⟨H0.1,H1.1⟩) ?_
 refine hU ret (fun _=>⟨0,rfl⟩) (fun c1=>?_)
 have dc1:=c1
 try simp only [DC] at dc1
 refine hU ret (fun _=>⟨0,rfl⟩) (fun c2=>?_)
 have dc2:=c2
 try simp only [DC] at dc2
 have Bh4:a0.cw.length<=maxLen:=(by
   have:=(H0.2).1
   try simp only [maxLen] at *
   omega)
 refine dR (p:=Pt.p0 0 (aa.r a0) (aa.r a1)) fz ?_
 refine cu (pt:=fun (i3:Nat) (s5:Unit)=>Pt.p0 (i3:Int) (aa.r a0) (aa.r a1)) (s:=(():Unit)) (out:=ret) (fun _ _=>True) (fun J i3 s5 h4 hih4=>?_) (fun s5 hih4=>?_) trivial
 ·simp only [step,SS]
  have bb_:=Bh4
  simp only [maxLen] at bb_
  have:=(H0.2).1
  refine bD.yes (by apply decide_eq_true;omega) ?_
  refine bD.yes aJ ?_
  refine bD.yes (aL h4) ?_
  refine bD.yes aJ ?_
  refine bD.yes (have:=(H1.2).1;dt) ?_
  refine bD.bif (fun _=>bD.inr rfl) (fun c6=>?_)
  refine bD.inl trivial ?_
  rw [aI h4 Bh4]
  all_goals exact fz
 ·simp only [step,SS]
  have:=(H0.2).1
  refine dF (by apply decide_eq_false;omega) ?_
  refine ⟨0,?_⟩
  all_goals exact fz
def af:cG 374 aW:=L2 39 pid cg bZ live step start mix aF bB (.cons Z102.af .nil) Tryz.func374
def md_eq (a0 a1:aa):md a0 a1=eo a0 a1:=by
 unfold md
 simp only [Z102.md_eq,fq,bw.eqc]
 rw [kA bw.zero (fun i s h h2=>by cases eo (a0.cw.getD i bw.zero) (a1.cw.getD i bw.zero)<;>rfl) (fun s=>rfl)]
 rw [Bool.eq_iff_iff]
 cases a0;cases a1
 simp [dA]
end Z118
namespace Z119
def F (x0:bL):aK:=(call (Z102.R (x0.fA.au,x0.fB.au)) fun v1=>(cond v1 bh (call (Z118.R (x0.aS,(⟨(⟨0,0,0,0,0,0,0,0,(⟨[],0⟩:bF),(⟨[],0⟩:bF),0,(⟨[],0⟩:bF),false⟩:ck),[]⟩:aT))) fun v2=>(cond v2 (call (Z62.R x0.fA) fun v3=>(cond v3 (call (Z62.R x0.fB) fun v4=>(cond v4 (ret ((x0.fA.au.bz==x0.fB.au.bz):Bool)) bh)) bh)) (call (Z71.R (x0.aS.au,x0.fA)) fun v5=>(cond v5 (call (Z71.R (x0.aS.au,x0.fB)) fun v6=>ret (v6:Bool)) bh))))))
def md (a0:aB):Bool:=(cond (Z102.md a0.fA.au a0.fB.au) (false:Bool) (cond (Z118.md a0.aS (⟨(⟨0,0,0,0,0,0,0,0,(⟨[],0⟩:aO),(⟨[],0⟩:aO),0,(⟨[],0⟩:aO),false⟩:aG),[]⟩:aa)) (cond (Z62.md a0.fA) (cond (Z62.md a0.fB) ((a0.fA.au.bz==a0.fB.au.bz):Bool) (false:Bool)) (false:Bool)) (cond (Z71.md a0.aS.au a0.fA) ((Z71.md a0.aS.au a0.fB):Bool) (false:Bool))))
def gd (a0:aB):Prop:=(aB.Sm (2^21) a0)
def R:=RR gd md
def aq {a0}(h:gd a0):R (aB.r a0)=some (md a0):=aR (a:=a0) h
def aW:=CN [.agg sV] oB RT.dec R
def bB (a0)(hg:gd a0):F (aB.r a0)=ret (md a0):=by
 unfold gd at hg
 have H0:=hg
 unfold F md
 try simp only [SS]
 refine ct (Z102.aq ⟨H0.2.1.1,H0.2.2.1⟩) ?_
 refine ay ret (fun _=>rfl) (fun c1=>?_)
 refine ct (Z118.aq (a1:=(⟨(⟨0,0,0,0,0,0,0,0,(⟨[],0⟩:aO),(⟨[],0⟩:aO),0,(⟨[],0⟩:aO),false⟩:aG),[]⟩:aa)) ⟨H0.1,⟨⟨bO.nil,bO.nil,bO.nil⟩,bO.nil⟩⟩) ?_
 refine ay ret (fun c2=>?_) (fun c2=>?_)
 ·refine ct (Z62.aq H0.2.1) ?_
  refine ay ret (fun c3=>?_) (fun _=>rfl)
  refine ct (Z62.aq H0.2.2) ?_
  refine ay ret (fun c4=>?_) (fun _=>rfl)
  all_goals exact fz
 ·refine ct (Z71.aq ⟨H0.1.1,H0.2.1⟩) ?_
  refine ay ret (fun c5=>?_) (fun _=>rfl)
  refine ct (Z71.aq ⟨H0.1.1,H0.2.2⟩) ?_
  all_goals exact fz
def af:cG 254 aW:=W1 47 F mix aF bB (.cons Z102.af (.cons Z118.af (.cons Z62.af (.cons Z71.af .nil)))) Tryz.func254
end Z119
namespace Z120
def F (x0:bL):aK:=(call (Z119.R x0) fun v1=>(cond (!v1) (ret ((-1):Int)) (ret (x0.fA.au.bz:Int))))
def md (a0:aB):Int:=(cond (!(Z119.md a0)) ((-1):Int) (a0.fA.au.bz:Int))
def gd (a0:aB):Prop:=(aB.Sm (2^21) a0)
def R:=RR gd md
def aq {a0}(h:gd a0):R (aB.r a0)=some (md a0):=aR (a:=a0) h
def aW:=CN [.agg sV] oI RT.dec R
def bB (a0)(hg:gd a0):F (aB.r a0)=ret (md a0):=by
 unfold gd at hg
 have H0:=hg
 unfold F md
 try simp only [SS]
 refine ct (Z119.aq H0) ?_
 refine ay ret (fun _=>rfl) (fun c1=>?_)
 all_goals exact fz
def af:cG 416 aW:=W1 10 F mix aF bB (.cons Z119.af .nil) Tryz.func416
end Z120
namespace Z121
inductive Pt where
 | p0 (a b:Int) (c:bt)
def pid:Pt->Nat
 | .p0 ..=>2
def cg:Pt->List V
 | .p0 a b c=>[.int .i64 a,.dy 0 0,.int .i64 b]
def bZ:Pt->List aZ
 | .p0 a b c=>[.box [.sl none 92 c.aH,.sl none 280 c.aY]]
def step (J:Pt->aK):Pt->aK
 | .p0 a b c=>(cond (decide (b<(c.aY.length:Int))) (m2 b (c.aY.length:Int) (call (Z120.R (bL.at c.aY (toNat b))) fun v1=>(cond (v1==a) (cond (decide (a>=0)) eF (J (.p0 a (i64.wrap (b+1)) c))) (J (.p0 a (i64.wrap (b+1)) c))))) bh)
def start (J:Pt->aK)(x0:bt)(x1:Int):aK:=J (.p0 x1 0 x0)
def live:Nat->Live:=fun i=>match i with | 2=>[(1,none),(2,none),(5,none)] | _=>[]
def md (a0:aj)(a1:Int):Bool:=(dW (S:=Unit) (β:=Bool) (fun (y1:aB) (s3:Unit)=>(cond ((Z120.md y1)==a1) (cond (decide (a1>=0)) (.inr (true:Bool)) (.inl ())) (.inl ()))) (fun (s3:Unit)=>(false:Bool)) a0.aY ())
def gd (a0:aj)(a1:Int):Prop:=(aj.Sm (2^21) a0)
def R:=RR (p2 gd) (u2 md)
def aq {a0 a1}(h:gd a0 a1):R ((aj.r a0),a1)=some (md a0 a1):=aR (a:=(a0,a1)) h
def aW:=CN [.agg rU,pI] oB RT.dec R
def bB (a0)(a1)(hg:gd a0 a1):∃n,start (iter step n) (aj.r a0) a1=ret (md a0 a1):=by
 unfold gd at hg
 have H0:=hg
 unfold start md
 try simp only [SS]
 have Bh2:a0.aY.length<=maxLen:=(by
   have:=(H0.2).1
   try simp only [maxLen] at *
   omega)
 refine ex_eq (out:=ret) (eJ (z:=aB.zero)) ?_
 refine dR (p:=Pt.p0 a1 0 (aj.r a0)) fz ?_
 refine cu (pt:=fun (i1:Nat) (s3:Unit)=>Pt.p0 a1 (i1:Int) (aj.r a0)) (s:=(():Unit)) (out:=ret) (fun _ _=>True) (fun J i1 s3 h2 hih2=>?_) (fun s3 hih2=>?_) trivial
 ·simp only [step,SS]
  have bb_:=Bh2
  simp only [maxLen] at bb_
  have:=(H0.2).1
  refine bD.yes (by apply decide_eq_true;omega) ?_
  refine bD.yes aJ ?_
  refine bD.yes (aL h2) ?_
  refine cr (Z120.aq (bO.getD (z:=aB.zero) H0.2 h2)) ?_
  refine bD.bif (fun c4=>?_) (fun c4=>?_)
  ·refine bD.bif (fun _=>bD.inr rfl) (fun c5=>?_)
   refine bD.inl trivial ?_
   rw [aI h2 Bh2]
   all_goals exact fz
  ·refine bD.inl trivial ?_
   rw [aI h2 Bh2]
   all_goals exact fz
 ·simp only [step,SS]
  have:=(H0.2).1
  refine dF (by apply decide_eq_false;omega) ?_
  refine ⟨0,?_⟩
  all_goals exact fz
def af:cG 301 aW:=L2 25 pid cg bZ live step start mix aF bB (.cons Z120.af .nil) Tryz.func301
end Z121
namespace Z122
inductive Pt where
 | p0 (a:aD) (b:Int) (c:aE) (d e:Int) (f:Bool) (g:aE) (h i:Int) (j k:Bool) (l:aE) (m n:Int) (o:Bool) (p q s:aD)
def pid:Pt->Nat
 | .p0 ..=>3
def cg:Pt->List V
 | .p0 a b c d e f g h i j k l m n o p q s=>[.sl none 132 a,.int .i64 b,.str c,.int .i64 d,.dy 0 0,.dy 1 0,.int .i64 e,.dy 1 0]
def bZ:Pt->List aZ
 | .p0 a b c d e f g h i j k l m n o p q s=>[.box [.nil,.nil,.bool f,.str g,.int .i64 h,.int .i64 i,.nil,.bool j,.nil],.box [.own 2,.own 3,.bool k,.str l,.int .i64 m,.int .i64 n,.nil,.bool o,.own 4],.row 92 p,.row 280 q,.row 3 s]
def step (J:Pt->aK):Pt->aK
 | .p0 a b c d e f g h i j k l m n o p q s=>(cond (decide (e<(a.length:Int))) (m2 e (a.length:Int) (call (Z74.R ((bp.at a (toNat e)).aU)) fun v1=>(cond v1.2 (cond (v1.1.bz==b) (call (Z106.R ((⟨p,q⟩:bt),(bp.at a (toNat e)).aU)) fun v2=>(call (Z117.R (b,c,(bp.at a (toNat e)),d)) fun v3=>(cond (v2.2==1) (cond (v3==1) (call (Z121.R (v2.1,b)) fun v4=>(cond v4 (cm (ff (((s.length:Int)+1)*8)) (J (.p0 a b c d (i64.wrap (e+1)) f g h i j k l m n o v2.1.aH v2.1.aY (s++[[L.int 3]])))) (cm (ff (((s.length:Int)+1)*8)) (cond (v3==1) (call (Z93.R ((bp.at a (toNat e)).aV)) fun v5=>ret ((⟨v2.1,(bp.at a (toNat e)).cA,v5,true,(s++[[L.int v3]])⟩:dx):dx)) (J (.p0 a b c d (i64.wrap (e+1)) f g h i j k l m n o v2.1.aH v2.1.aY (s++[[L.int v3]]))))))) (cm (ff (((s.length:Int)+1)*8)) (cond (v3==1) (call (Z93.R ((bp.at a (toNat e)).aV)) fun v6=>ret ((⟨v2.1,(bp.at a (toNat e)).cA,v6,true,(s++[[L.int v3]])⟩:dx):dx)) (J (.p0 a b c d (i64.wrap (e+1)) f g h i j k l m n o v2.1.aH v2.1.aY (s++[[L.int v3]])))))) (cond (v2.2==2) (cond (v3==1) (call (Z121.R (v2.1,b)) fun v7=>(cond v7 (cm (ff (((s.length:Int)+1)*8)) (J (.p0 a b c d (i64.wrap (e+1)) f g h i j k l m n o v2.1.aH v2.1.aY (s++[[L.int 3]])))) (cm (ff (((s.length:Int)+1)*8)) (cond (v3==1) (call (Z93.R ((bp.at a (toNat e)).aV)) fun v8=>ret ((⟨v2.1,(bp.at a (toNat e)).cA,v8,true,(s++[[L.int v3]])⟩:dx):dx)) (J (.p0 a b c d (i64.wrap (e+1)) f g h i j k l m n o v2.1.aH v2.1.aY (s++[[L.int v3]]))))))) (cm (ff (((s.length:Int)+1)*8)) (cond (v3==1) (call (Z93.R ((bp.at a (toNat e)).aV)) fun v9=>ret ((⟨v2.1,(bp.at a (toNat e)).cA,v9,true,(s++[[L.int v3]])⟩:dx):dx)) (J (.p0 a b c d (i64.wrap (e+1)) f g h i j k l m n o v2.1.aH v2.1.aY (s++[[L.int v3]])))))) (cond (v3==1) (cond (!(v2.2==3)) (cm (ff (((s.length:Int)+1)*8)) (J (.p0 a b c d (i64.wrap (e+1)) f g h i j k l m n o v2.1.aH v2.1.aY (s++[[L.int 3]])))) (call (Z121.R (v2.1,b)) fun v10=>(cond v10 (cm (ff (((s.length:Int)+1)*8)) (J (.p0 a b c d (i64.wrap (e+1)) f g h i j k l m n o v2.1.aH v2.1.aY (s++[[L.int 3]])))) (cm (ff (((s.length:Int)+1)*8)) (cond (v3==1) (call (Z93.R ((bp.at a (toNat e)).aV)) fun v11=>ret ((⟨v2.1,(bp.at a (toNat e)).cA,v11,true,(s++[[L.int v3]])⟩:dx):dx)) (J (.p0 a b c d (i64.wrap (e+1)) f g h i j k l m n o v2.1.aH v2.1.aY (s++[[L.int v3]])))))))) (cm (ff (((s.length:Int)+1)*8)) (cond (v3==1) (call (Z93.R ((bp.at a (toNat e)).aV)) fun v12=>ret ((⟨v2.1,(bp.at a (toNat e)).cA,v12,true,(s++[[L.int v3]])⟩:dx):dx)) (J (.p0 a b c d (i64.wrap (e+1)) f g h i j k l m n o v2.1.aH v2.1.aY (s++[[L.int v3]])))))))))) (call (Z117.R (b,c,(bp.at a (toNat e)),d)) fun v13=>(cond (v13==1) (cm (ff (((s.length:Int)+1)*8)) (J (.p0 a b c d (i64.wrap (e+1)) f g h i j k l m n o p q (s++[[L.int 3]])))) (cm (ff (((s.length:Int)+1)*8)) (cond (v13==1) (call (Z93.R ((bp.at a (toNat e)).aV)) fun v14=>ret ((⟨(⟨p,q⟩:bt),(bp.at a (toNat e)).cA,v14,true,(s++[[L.int v13]])⟩:dx):dx)) (J (.p0 a b c d (i64.wrap (e+1)) f g h i j k l m n o p q (s++[[L.int v13]])))))))) (call (Z117.R (b,c,(bp.at a (toNat e)),d)) fun v15=>(cond (v15==1) (cm (ff (((s.length:Int)+1)*8)) (J (.p0 a b c d (i64.wrap (e+1)) f g h i j k l m n o p q (s++[[L.int 3]])))) (cm (ff (((s.length:Int)+1)*8)) (cond (v15==1) (call (Z93.R ((bp.at a (toNat e)).aV)) fun v16=>ret ((⟨(⟨p,q⟩:bt),(bp.at a (toNat e)).cA,v16,true,(s++[[L.int v15]])⟩:dx):dx)) (J (.p0 a b c d (i64.wrap (e+1)) f g h i j k l m n o p q (s++[[L.int v15]])))))))))) (ret ((⟨(⟨p,q⟩:bt),k,(⟨l,m,n,[]⟩:bf),o,s⟩:dx):dx)))
def start (J:Pt->aK)(x0:bt)(x1:aD)(x2:Int)(x3:aE)(x4:Int):aK:=(call (Z44.R x0) fun v1=>J (.p0 x1 x2 x3 x4 0 false ⟨#[]⟩ 0 0 false false ⟨#[]⟩ 0 0 false v1.aH v1.aY []))
def live:Nat->Live:=fun i=>match i with | 3=>[(1,none),(2,none),(3,none),(4,none),(10,none),(11,none),(12,none),(11,some 8388611)] | _=>[]
def md (a0:aj)(a1:List az)(a2:Int)(a3:aE)(a4:Int):bU:=(dW (S:=List (List aa)×List aB×List Int) (β:=bU) (fun (y1:az) (s3:List (List aa)×List aB×List Int)=>(cond ((Z74.md (y1.aU)).2) (cond ((Z74.md (y1.aU)).1.bz==a2) (cond ((Z106.md (⟨s3.1,s3.2.1⟩:aj) (y1.aU)).2==1) (cond ((Z117.md a2 a3 y1 a4)==1) (cond (Z121.md ((Z106.md (⟨s3.1,s3.2.1⟩:aj) (y1.aU)).1) a2) (.inl ((Z106.md (⟨s3.1,s3.2.1⟩:aj) (y1.aU)).1.aH,(Z106.md (⟨s3.1,s3.2.1⟩:aj) (y1.aU)).1.aY,(s3.2.2++[3]))) (cond ((Z117.md a2 a3 y1 a4)==1) (.inr (⟨(Z106.md (⟨s3.1,s3.2.1⟩:aj) (y1.aU)).1,y1.cA,(y1.aV),true,(s3.2.2++[(Z117.md a2 a3 y1 a4)])⟩:bU)) (.inl ((Z106.md (⟨s3.1,s3.2.1⟩:aj) (y1.aU)).1.aH,(Z106.md (⟨s3.1,s3.2.1⟩:aj) (y1.aU)).1.aY,(s3.2.2++[(Z117.md a2 a3 y1 a4)]))))) (cond ((Z117.md a2 a3 y1 a4)==1) (.inr (⟨(Z106.md (⟨s3.1,s3.2.1⟩:aj) (y1.aU)).1,y1.cA,(y1.aV),true,(s3.2.2++[(Z117.md a2 a3 y1 a4)])⟩:bU)) (.inl ((Z106.md (⟨s3.1,s3.2.1⟩:aj) (y1.aU)).1.aH,(Z106.md (⟨s3.1,s3.2.1⟩:aj) (y1.aU)).1.aY,(s3.2.2++[(Z117.md a2 a3 y1 a4)]))))) (cond ((Z106.md (⟨s3.1,s3.2.1⟩:aj) (y1.aU)).2==2) (cond ((Z117.md a2 a3 y1 a4)==1) (cond (Z121.md ((Z106.md (⟨s3.1,s3.2.1⟩:aj) (y1.aU)).1) a2) (.inl ((Z106.md (⟨s3.1,s3.2.1⟩:aj) (y1.aU)).1.aH,(Z106.md (⟨s3.1,s3.2.1⟩:aj) (y1.aU)).1.aY,(s3.2.2++[3]))) (cond ((Z117.md a2 a3 y1 a4)==1) (.inr (⟨(Z106.md (⟨s3.1,s3.2.1⟩:aj) (y1.aU)).1,y1.cA,(y1.aV),true,(s3.2.2++[(Z117.md a2 a3 y1 a4)])⟩:bU)) (.inl ((Z106.md (⟨s3.1,s3.2.1⟩:aj) (y1.aU)).1.aH,(Z106.md (⟨s3.1,s3.2.1⟩:aj) (y1.aU)).1.aY,(s3.2.2++[(Z117.md a2 a3 y1 a4)]))))) (cond ((Z117.md a2 a3 y1 a4)==1) (.inr (⟨(Z106.md (⟨s3.1,s3.2.1⟩:aj) (y1.aU)).1,y1.cA,(y1.aV),true,(s3.2.2++[(Z117.md a2 a3 y1 a4)])⟩:bU)) (.inl ((Z106.md (⟨s3.1,s3.2.1⟩:aj) (y1.aU)).1.aH,(Z106.md (⟨s3.1,s3.2.1⟩:aj) (y1.aU)).1.aY,(s3.2.2++[(Z117.md a2 a3 y1 a4)]))))) (cond ((Z117.md a2 a3 y1 a4)==1) (cond (!((Z106.md (⟨s3.1,s3.2.1⟩:aj) (y1.aU)).2==3)) (.inl ((Z106.md (⟨s3.1,s3.2.1⟩:aj) (y1.aU)).1.aH,(Z106.md (⟨s3.1,s3.2.1⟩:aj) (y1.aU)).1.aY,(s3.2.2++[3]))) (cond (Z121.md ((Z106.md (⟨s3.1,s3.2.1⟩:aj) (y1.aU)).1) a2) (.inl ((Z106.md (⟨s3.1,s3.2.1⟩:aj) (y1.aU)).1.aH,(Z106.md (⟨s3.1,s3.2.1⟩:aj) (y1.aU)).1.aY,(s3.2.2++[3]))) (cond ((Z117.md a2 a3 y1 a4)==1) (.inr (⟨(Z106.md (⟨s3.1,s3.2.1⟩:aj) (y1.aU)).1,y1.cA,(y1.aV),true,(s3.2.2++[(Z117.md a2 a3 y1 a4)])⟩:bU)) (.inl ((Z106.md (⟨s3.1,s3.2.1⟩:aj) (y1.aU)).1.aH,(Z106.md (⟨s3.1,s3.2.1⟩:aj) (y1.aU)).1.aY,(s3.2.2++[(Z117.md a2 a3 y1 a4)])))))) (cond ((Z117.md a2 a3 y1 a4)==1) (.inr (⟨(Z106.md (⟨s3.1,s3.2.1⟩:aj) (y1.aU)).1,y1.cA,(y1.aV),true,(s3.2.2++[(Z117.md a2 a3 y1 a4)])⟩:bU)) (.inl ((Z106.md (⟨s3.1,s3.2.1⟩:aj) (y1.aU)).1.aH,(Z106.md (⟨s3.1,s3.2.1⟩:aj) (y1.aU)).1.aY,(s3.2.2++[(Z117.md a2 a3 y1 a4)]))))))) (cond ((Z117.md a2 a3 y1 a4)==1) (.inl (s3.1,s3.2.1,(s3.2.2++[3]))) (cond ((Z117.md a2 a3 y1 a4)==1) (.inr (⟨(⟨s3.1,s3.2.1⟩:aj),y1.cA,(y1.aV),true,(s3.2.2++[(Z117.md a2 a3 y1 a4)])⟩:bU)) (.inl (s3.1,s3.2.1,(s3.2.2++[(Z117.md a2 a3 y1 a4)])))))) (cond ((Z117.md a2 a3 y1 a4)==1) (.inl (s3.1,s3.2.1,(s3.2.2++[3]))) (cond ((Z117.md a2 a3 y1 a4)==1) (.inr (⟨(⟨s3.1,s3.2.1⟩:aj),y1.cA,(y1.aV),true,(s3.2.2++[(Z117.md a2 a3 y1 a4)])⟩:bU)) (.inl (s3.1,s3.2.1,(s3.2.2++[(Z117.md a2 a3 y1 a4)]))))))) (fun (s3:List (List aa)×List aB×List Int)=>(⟨(⟨s3.1,s3.2.1⟩:aj),false,(⟨(⟨#[]⟩:aE),0,0,[]⟩:ah),false,s3.2.2⟩:bU)) a1 (a0.aH,a0.aY,[]))
def gd (a0:aj)(a1:List az)(a2:Int)(a3:aE)(a4:Int):Prop:=(aj.Sm (2^21) a0)/\(bO (2^21) (fun y:az=>az.Sm (2^21) y) a1)/\(a3.size<=(2^21))
def R:=RR (p5 gd) (u5 md)
def aq {a0 a1 a2 a3 a4}(h:gd a0 a1 a2 a3 a4):R ((aj.r a0),(a1.map az.row),a2,a3,a4)=some (bU.r (md a0 a1 a2 a3 a4)):=aR (a:=(a0,a1,a2,a3,a4)) h
def aW:=CN [.agg rU,pL 132,pI,pS,pI] (.agg f169) RT.dec R
def bB (a0)(a1)(a2)(a3)(a4)(hg:gd a0 a1 a2 a3 a4):∃n,start (iter step n) (aj.r a0) (a1.map az.row) a2 a3 a4=ret (bU.r (md a0 a1 a2 a3 a4)):=by
 obtain ⟨H0,H1,H3⟩:=hg
 unfold start md
 try simp only [SS]
 refine cx (Z44.aq H0) ?_
 try simp only [SS]
 have Bh2:a1.length<=maxLen:=(by
   have:=(H1).1
   try simp only [maxLen] at *
   omega)
 refine ex_eq (out:=(fun b:bU=>ret ((bU.r b):dx))) (eJ (z:=az.zero)) ?_
 refine dR (p:=Pt.p0 (a1.map az.row) a2 a3 a4 0 false (⟨#[]⟩:aE) 0 0 false false (⟨#[]⟩:aE) 0 0 false (a0.aH.map (dO aa.row)) (a0.aY.map aB.row) ([].map bu)) fz ?_
 refine cu (pt:=fun (i1:Nat) (s3:List (List aa)×List aB×List Int)=>Pt.p0 (a1.map az.row) a2 a3 a4 (i1:Int) false (⟨#[]⟩:aE) 0 0 false false (⟨#[]⟩:aE) 0 0 false (s3.1.map (dO aa.row)) (s3.2.1.map aB.row) (s3.2.2.map bu)) (s:=((a0.aH,a0.aY,[]):List (List aa)×List aB×List Int)) (out:=(fun b:bU=>ret ((bU.r b):dx))) (fun (i1:Nat) (s3:List (List aa)×List aB×List Int)=>aj.Sm (2^21) (⟨s3.1,s3.2.1⟩:aj)/\s3.2.2.length<=i1) (fun J i1 s3 h2 hih2=>?_) (fun s3 hih2=>?_) ⟨H0,zero_le _⟩
 ·simp only [step,SS]
  have gr_:=hih2
  try simp only [LN] at gr_
  have bb_:=Bh2
  simp only [maxLen] at bb_
  have:=(H1).1
  refine bD.yes (by apply decide_eq_true;omega) ?_
  refine bD.yes aJ ?_
  refine bD.yes (aL h2) ?_
  refine cr (Z74.aq (bO.getD (z:=az.zero) H1 h2).1) ?_
  try simp only [SS]
  refine bD.bif (fun c4=>?_) (fun c4=>?_)
  ·refine bD.bif (fun c5=>?_) (fun c5=>?_)
   ·have dc5:=c5
    try simp only [DC] at dc5
    refine cr (Z106.aq (a0:=(⟨s3.1,s3.2.1⟩:aj)) ⟨⟨hih2.1.1,hih2.1.2⟩,(bO.getD (z:=az.zero) H1 h2).1⟩) ?_
    try simp only [SS]
    refine cr (Z117.aq ⟨H3,(bO.getD (z:=az.zero) H1 h2)⟩) ?_
    refine bD.bif (fun c6=>?_) (fun c6=>?_)
    ·have dc6:=c6
     try simp only [DC] at dc6
     refine bD.bif (fun c7=>?_) (fun c7=>?_)
     ·have dc7:=c7
      try simp only [DC] at dc7
      refine cr (Z121.aq (a0:=(Z106.md (⟨s3.1,s3.2.1⟩:aj) ((a1.getD i1 az.zero).aU)).1) (Z106.fW (a0:=(⟨s3.1,s3.2.1⟩:aj)) (a1:=(a1.getD i1 az.zero).aU) ⟨⟨hih2.1.1,hih2.1.2⟩,(bO.getD (z:=az.zero) H1 h2).1⟩)) ?_
      refine bD.bif (fun c8=>?_) (fun c8=>?_)
      ·refine bD.yes lm ?_
       refine bD.inl (by first | exact ⟨hih2.1,iA hih2.2⟩ | exact ⟨Z106.fW ⟨hih2.1,(bO.getD H1 h2).1⟩,iA hih2.2⟩) ?_
       rw [aI h2 Bh2]
       all_goals exact fz
      ·refine bD.yes lm ?_
       refine bD.bif (fun c9=>?_) (fun c9=>?_)
       ·refine cr (Z93.aq (bO.getD (z:=az.zero) H1 h2).2.1) ?_
        try simp only [SS]
        refine bD.inr ?_
        all_goals exact fz
       ·refine bD.inl (by first | exact ⟨hih2.1,iA hih2.2⟩ | exact ⟨Z106.fW ⟨hih2.1,(bO.getD H1 h2).1⟩,iA hih2.2⟩) ?_
        rw [aI h2 Bh2]
        all_goals exact fz
     ·have dc7:=c7
      try simp only [DC] at dc7
      refine bD.yes lm ?_
      refine bD.bif (fun c10=>?_) (fun c10=>?_)
      ·refine cr (Z93.aq (bO.getD (z:=az.zero) H1 h2).2.1) ?_
       try simp only [SS]
       refine bD.inr ?_
       all_goals exact fz
      ·refine bD.inl (by first | exact ⟨hih2.1,iA hih2.2⟩ | exact ⟨Z106.fW ⟨hih2.1,(bO.getD H1 h2).1⟩,iA hih2.2⟩) ?_
       rw [aI h2 Bh2]
       all_goals exact fz
    ·have dc6:=c6
     try simp only [DC] at dc6
     refine bD.bif (fun c11=>?_) (fun c11=>?_)
     ·have dc11:=c11
      try simp only [DC] at dc11
      refine bD.bif (fun c12=>?_) (fun c12=>?_)
      ·have dc12:=c12
       try simp only [DC] at dc12
       refine cr (Z121.aq (a0:=(Z106.md (⟨s3.1,s3.2.1⟩:aj) ((a1.getD i1 az.zero).aU)).1) (Z106.fW (a0:=(⟨s3.1,s3.2.1⟩:aj)) (a1:=(a1.getD i1 az.zero).aU) ⟨⟨hih2.1.1,hih2.1.2⟩,(bO.getD (z:=az.zero) H1 h2).1⟩)) ?_
       refine bD.bif (fun c13=>?_) (fun c13=>?_)
       ·refine bD.yes lm ?_
        refine bD.inl (by first | exact ⟨hih2.1,iA hih2.2⟩ | exact ⟨Z106.fW ⟨hih2.1,(bO.getD H1 h2).1⟩,iA hih2.2⟩) ?_
        rw [aI h2 Bh2]
        all_goals exact fz
       ·refine bD.yes lm ?_
        refine bD.bif (fun c14=>?_) (fun c14=>?_)
        ·refine cr (Z93.aq (bO.getD (z:=az.zero) H1 h2).2.1) ?_
         try simp only [SS]
         refine bD.inr ?_
         all_goals exact fz
        ·refine bD.inl (by first | exact ⟨hih2.1,iA hih2.2⟩ | exact ⟨Z106.fW ⟨hih2.1,(bO.getD H1 h2).1⟩,iA hih2.2⟩) ?_
         rw [aI h2 Bh2]
         all_goals exact fz
      ·have dc12:=c12
       try simp only [DC] at dc12
       refine bD.yes lm ?_
       refine bD.bif (fun c15=>?_) (fun c15=>?_)
       ·refine cr (Z93.aq (bO.getD (z:=az.zero) H1 h2).2.1) ?_
        try simp only [SS]
        refine bD.inr ?_
        all_goals exact fz
       ·refine bD.inl (by first | exact ⟨hih2.1,iA hih2.2⟩ | exact ⟨Z106.fW ⟨hih2.1,(bO.getD H1 h2).1⟩,iA hih2.2⟩) ?_
        rw [aI h2 Bh2]
        all_goals exact fz
     ·have dc11:=c11
      try simp only [DC] at dc11
      refine bD.bif (fun c16=>?_) (fun c16=>?_)
      ·have dc16:=c16
       try simp only [DC] at dc16
       refine bD.bif (fun c17=>?_) (fun c17=>?_)
       ·have dc17:=c17
        try simp only [DC] at dc17
        refine bD.yes lm ?_
        refine bD.inl (by first | exact ⟨hih2.1,iA hih2.2⟩ | exact ⟨Z106.fW ⟨hih2.1,(bO.getD H1 h2).1⟩,iA hih2.2⟩) ?_
        rw [aI h2 Bh2]
        all_goals exact fz
       ·have dc17:=c17
        try simp only [DC] at dc17
        refine cr (Z121.aq (a0:=(Z106.md (⟨s3.1,s3.2.1⟩:aj) ((a1.getD i1 az.zero).aU)).1) (Z106.fW (a0:=(⟨s3.1,s3.2.1⟩:aj)) (a1:=(a1.getD i1 az.zero).aU) ⟨⟨hih2.1.1,hih2.1.2⟩,(bO.getD (z:=az.zero) H1 h2).1⟩)) ?_
        refine bD.bif (fun c18=>?_) (fun c18=>?_)
        ·refine bD.yes lm ?_
         refine bD.inl (by first | exact ⟨hih2.1,iA hih2.2⟩ | exact ⟨Z106.fW ⟨hih2.1,(bO.getD H1 h2).1⟩,iA hih2.2⟩) ?_
         rw [aI h2 Bh2]
         all_goals exact fz
        ·refine bD.yes lm ?_
         refine bD.bif (fun c19=>?_) (fun c19=>?_)
         ·refine cr (Z93.aq (bO.getD (z:=az.zero) H1 h2).2.1) ?_
          try simp only [SS]
          refine bD.inr ?_
          all_goals exact fz
         ·refine bD.inl (by first | exact ⟨hih2.1,iA hih2.2⟩ | exact ⟨Z106.fW ⟨hih2.1,(bO.getD H1 h2).1⟩,iA hih2.2⟩) ?_
          rw [aI h2 Bh2]
          all_goals exact fz
      ·have dc16:=c16
       try simp only [DC] at dc16
       refine bD.yes lm ?_
       refine bD.bif (fun c20=>?_) (fun c20=>?_)
       ·refine cr (Z93.aq (bO.getD (z:=az.zero) H1 h2).2.1) ?_
        try simp only [SS]
        refine bD.inr ?_
        all_goals exact fz
       ·refine bD.inl (by first | exact ⟨hih2.1,iA hih2.2⟩ | exact ⟨Z106.fW ⟨hih2.1,(bO.getD H1 h2).1⟩,iA hih2.2⟩) ?_
        rw [aI h2 Bh2]
        all_goals exact fz
   ·have dc5:=c5
    try simp only [DC] at dc5
    refine cr (Z117.aq ⟨H3,(bO.getD (z:=az.zero) H1 h2)⟩) ?_
    refine bD.bif (fun c21=>?_) (fun c21=>?_)
    ·have dc21:=c21
     try simp only [DC] at dc21
     refine bD.yes lm ?_
     refine bD.inl (by first | exact ⟨hih2.1,iA hih2.2⟩ | exact ⟨Z106.fW ⟨hih2.1,(bO.getD H1 h2).1⟩,iA hih2.2⟩) ?_
     rw [aI h2 Bh2]
     all_goals exact fz
    ·have dc21:=c21
     try simp only [DC] at dc21
     refine bD.yes lm ?_
     refine bD.bif (fun c22=>?_) (fun c22=>?_)
     ·refine cr (Z93.aq (bO.getD (z:=az.zero) H1 h2).2.1) ?_
      try simp only [SS]
      refine bD.inr ?_
      all_goals exact fz
     ·refine bD.inl (by first | exact ⟨hih2.1,iA hih2.2⟩ | exact ⟨Z106.fW ⟨hih2.1,(bO.getD H1 h2).1⟩,iA hih2.2⟩) ?_
      rw [aI h2 Bh2]
      all_goals exact fz
  ·refine cr (Z117.aq ⟨H3,(bO.getD (z:=az.zero) H1 h2)⟩) ?_
   refine bD.bif (fun c23=>?_) (fun c23=>?_)
   ·have dc23:=c23
    try simp only [DC] at dc23
    refine bD.yes lm ?_
    refine bD.inl (by first | exact ⟨hih2.1,iA hih2.2⟩ | exact ⟨Z106.fW ⟨hih2.1,(bO.getD H1 h2).1⟩,iA hih2.2⟩) ?_
    rw [aI h2 Bh2]
    all_goals exact fz
   ·have dc23:=c23
    try simp only [DC] at dc23
    refine bD.yes lm ?_
    refine bD.bif (fun c24=>?_) (fun c24=>?_)
    ·refine cr (Z93.aq (bO.getD (z:=az.zero) H1 h2).2.1) ?_
     try simp only [SS]
     refine bD.inr ?_
     all_goals exact fz
    ·refine bD.inl (by first | exact ⟨hih2.1,iA hih2.2⟩ | exact ⟨Z106.fW ⟨hih2.1,(bO.getD H1 h2).1⟩,iA hih2.2⟩) ?_
     rw [aI h2 Bh2]
     all_goals exact fz
 ·simp only [step,SS]
  have gr_:=hih2
  try simp only [LN] at gr_
  have:=(H1).1
  refine dF (by apply decide_eq_false;omega) ?_
  refine ⟨0,?_⟩
  all_goals exact fz
def af:cG 120 aW:=L5 99 pid cg bZ live step start mix aF bB (.cons Z44.af (.cons Z74.af (.cons Z106.af (.cons Z117.af (.cons Z121.af (.cons Z93.af .nil)))))) Tryz.func120
def nF (z:Int)(l:aE)(now:Int)(y:az)(k:aj):aj×Int:=
 let kn:=bif (Z74.md y.aU).2&&((Z74.md y.aU).1.bz==z) then Z106.md k y.aU else (k,6)
 (kn.1,bif (Z117.md z l y now==1)&&!((kn.2==1||(kn.2==2||kn.2==3))&&!Z121.md kn.1 z) then 3 else Z117.md z l y now)
def pX (z:Int)(l:aE)(now:Int)(y:az)(s:List (List aa)×List aB×List Int):List (List aa)×List aB×List Int⊕bU:=
 bif (nF z l now y ⟨s.1,s.2.1⟩).2==1 then .inr ⟨(nF z l now y ⟨s.1,s.2.1⟩).1,y.cA,y.aV,true,s.2.2++[(nF z l now y ⟨s.1,s.2.1⟩).2]⟩
 else .inl ((nF z l now y ⟨s.1,s.2.1⟩).1.aH,(nF z l now y ⟨s.1,s.2.1⟩).1.aY,s.2.2++[(nF z l now y ⟨s.1,s.2.1⟩).2])
def fin (s:List (List aa)×List aB×List Int):bU:=⟨⟨s.1,s.2.1⟩,false,⟨⟨#[]⟩,0,0,[]⟩,false,s.2.2⟩
def ry (a0:aj)(a1:List az)(a2:Int)(a3:aE)(a4:Int):md a0 a1 a2 a3 a4=dW (pX a2 a3 a4) fin a1 (a0.aH,a0.aY,[]):=by
 unfold md
 refine oZ (fun y _ s=>?_) (fun s=>rfl)
 have h31:((3:Int)==1)=false:=rfl
 have h61:((6:Int)==1)=false:=rfl
 have h62:((6:Int)==2)=false:=rfl
 have h63:((6:Int)==3)=false:=rfl
 unfold pX nF
 cases g1:(Z74.md y.aU).2
 ·cases g2:(Z117.md a2 a3 y a4==1)<;>simp [g2,h31,h61,h62,h63]
 cases g3:((Z74.md y.aU).1.bz==a2)
 ·cases g2:(Z117.md a2 a3 y a4==1)<;>simp [g2,h31,h61,h62,h63]
 generalize Z106.md (⟨s.1,s.2.1⟩:aj) y.aU=r
 cases g2:(Z117.md a2 a3 y a4==1)<;>cases g4:(r.2==1)<;>cases g5:(r.2==2)<;>cases g6:(r.2==3)<;>cases g7:Z121.md r.1 a2<;>simp [g2,g4,g5,g6,g7,h31]
def yQ (z:Int)(l:aE)(now:Int)(y:az)(k:aj):Z106.Cz (nF z l now y k).1.aH<=Z106.Cz k.aH+(az.size y+1)/\
  Z106.Fz (nF z l now y k).1.aY<=Z106.Fz k.aY+(2*Z106.Cz k.aH+az.size y+1):=by
 have h:=Z106.grow k y.aU
 have hs:dP (fun y:aa=>aa.size y) y.aU<=az.size y:=by unfold az.size;omega
 unfold nF
 cases (Z74.md y.aU).2&&((Z74.md y.aU).1.bz==z)
 ·simp only [bA];omega
 ·simp only [bq];omega
def qO {α:Type}(f:α->Nat)(x:α)(xs:List α):dP f (x::xs)=dP f xs+(f x+1):=by simp [dP];omega
def grow (z:Int)(l:aE)(now:Int):∀(xs:List az) (s:List (List aa)×List aB×List Int),
  Z106.Cz (dW (pX z l now) fin xs s).bR.aH<=Z106.Cz s.1+dP (fun y:az=>az.size y) xs/\
  Z106.Fz (dW (pX z l now) fin xs s).bR.aY<=Z106.Fz s.2.1+xs.length*(2*(Z106.Cz s.1+dP (fun y:az=>az.size y) xs)+dP (fun y:az=>az.size y) xs)/\
  (dW (pX z l now) fin xs s).kQ.length<=s.2.2.length+xs.length/\ah.size (dW (pX z l now) fin xs s).aV<=dP (fun y:az=>az.size y) xs
 | [],s=>⟨Nat.le_add_right _ _,Nat.le_add_right _ _,Nat.le_refl _,zero_le _⟩
 | y::xs,s=>by
  have hg:=yQ z l now y ⟨s.1,s.2.1⟩
  have hy:ah.size y.aV<=az.size y:=by unfold az.size;omega
  rw [qO]
  unfold dW
  cases hb:(nF z l now y ⟨s.1,s.2.1⟩).2==1
  ·have e:pX z l now y s=.inl ((nF z l now y ⟨s.1,s.2.1⟩).1.aH,(nF z l now y ⟨s.1,s.2.1⟩).1.aY,s.2.2++[(nF z l now y ⟨s.1,s.2.1⟩).2]):=by unfold pX;rw [hb];rfl
   rw [e]
   obtain ⟨h1,h2,h3,h4⟩:=grow z l now xs ((nF z l now y ⟨s.1,s.2.1⟩).1.aH,(nF z l now y ⟨s.1,s.2.1⟩).1.aY,s.2.2++[(nF z l now y ⟨s.1,s.2.1⟩).2])
   simp only at h1 h2 h3 h4 hg ⊢
   generalize dP (fun y:az=>az.size y) xs=w at *
   generalize az.size y=q at *
   generalize Z106.Cz (nF z l now y ⟨s.1,s.2.1⟩).1.aH=c1 at *
   generalize Z106.Cz s.1=c0 at *
   have hm:xs.length*(2*(c1+w)+w)<=xs.length*(2*(c0+(w+(q+1)))+(w+(q+1))):=Nat.mul_le_mul_left _ (by omega)
   rw [List.length_cons,Nat.succ_mul]
   rw [List.length_append] at h3
   refine ⟨by omega,by omega,by simp only [List.length_cons,List.length_nil] at h3;omega,by omega⟩
  ·have e:pX z l now y s=.inr ⟨(nF z l now y ⟨s.1,s.2.1⟩).1,y.cA,y.aV,true,s.2.2++[(nF z l now y ⟨s.1,s.2.1⟩).2]⟩:=by unfold pX;rw [hb];rfl
   rw [e]
   simp only at hg ⊢
   generalize dP (fun y:az=>az.size y) xs=w at *
   generalize az.size y=q at *
   generalize Z106.Cz s.1=c0 at *
   rw [List.length_cons,Nat.succ_mul,List.length_append]
   refine ⟨by omega,by omega,by simp only [List.length_cons,List.length_nil];omega,by omega⟩
def AM {z:Int}{l:aE}{now:Int}{y:az}{k:aj}(hk:aj.Sm (2^21) k)(hy:az.Sm (2^21) y):aj.Sm (2^21) (nF z l now y k).1:=by
 unfold nF
 cases (Z74.md y.aU).2&&((Z74.md y.aU).1.bz==z)
 ·exact hk
 ·exact Z106.fW ⟨hk,hy.1⟩
def uT {z:Int}{l:aE}{now:Int}:∀(xs:List az) (s:List (List aa)×List aB×List Int),aj.Sm (2^21) ⟨s.1,s.2.1⟩->(∀y∈xs,az.Sm (2^21) y)->s.2.2.length+xs.length<=2^21->bU.Sm (2^21) (dW (pX z l now) fin xs s)
 | [],s,hk,_,hc=>⟨hk,⟨zero_le _,bO.nil⟩,hc,fun _ _=>trivial⟩
 | y::xs,s,hk,hx,hc=>by
  have hy:=hx y (by simp)
  have he:=AM (z:=z) (l:=l) (now:=now) hk hy
  simp only [List.length_cons] at hc
  unfold dW
  cases hb:(nF z l now y ⟨s.1,s.2.1⟩).2==1
  ·have e:pX z l now y s=.inl ((nF z l now y ⟨s.1,s.2.1⟩).1.aH,(nF z l now y ⟨s.1,s.2.1⟩).1.aY,s.2.2++[(nF z l now y ⟨s.1,s.2.1⟩).2]):=by unfold pX;rw [hb];rfl
   rw [e]
   exact uT xs _ he (fun y hy=>hx y (by simp [hy])) (by simp only [List.length_append,List.length_cons,List.length_nil];omega)
  ·have e:pX z l now y s=.inr ⟨(nF z l now y ⟨s.1,s.2.1⟩).1,y.cA,y.aV,true,s.2.2++[(nF z l now y ⟨s.1,s.2.1⟩).2]⟩:=by unfold pX;rw [hb];rfl
   rw [e]
   exact ⟨he,hy.2.1,by simp only [List.length_append,List.length_cons,List.length_nil];omega,fun _ _=>trivial⟩
def fW {a0:aj}{a1:List az}{a2:Int}{a3:aE}{a4:Int}(hg:gd a0 a1 a2 a3 a4):bU.Sm (2^21) (md a0 a1 a2 a3 a4):=by
 unfold gd at hg
 rw [ry]
 exact uT a1 _ hg.1 hg.2.1.2 (by have:=hg.2.1.1;simp only [List.length_nil];omega)
end Z122
namespace Z123
def F (x0:dx):aK:=(cond (!x0.kC) (ret (((⟨(⟨#[]⟩:aE),0,0,[]⟩:bf),false):bf×Bool)) (cond (!x0.cA) (ret (((⟨(⟨#[]⟩:aE),0,0,[]⟩:bf),false):bf×Bool)) (call (Z93.R x0.aV) fun v1=>ret ((v1,true):bf×Bool))))
def md (a0:bU):ah×Bool:=(cond (!a0.kC) ((⟨((⟨#[]⟩:aE):aE),0,0,[]⟩:ah),false) (cond (!a0.cA) ((⟨((⟨#[]⟩:aE):aE),0,0,[]⟩:ah),false) (a0.aV,true)))
def gd (a0:bU):Prop:=(bU.Sm (2^21) a0)
def R:=RR gd md
def aq {a0}(h:gd a0):R (bU.r a0)=some ((ah.r (md a0).1),(md a0).2):=aR (a:=a0) h
def aW:=CN [.agg Av] (.iW [(true,f61),(false,[fB])]) RT.dec R
def bB (a0)(hg:gd a0):F (bU.r a0)=ret ((ah.r (md a0).1),(md a0).2):=by
 unfold gd at hg
 have H0:=hg
 unfold F md
 try simp only [SS]
 refine ay (fun b:ah×Bool=>ret (((ah.r b.1),b.2):bf×Bool)) (fun c1=>?_) (fun c1=>?_)
 ·all_goals exact fz
 ·refine ay (fun b:ah×Bool=>ret (((ah.r b.1),b.2):bf×Bool)) (fun c2=>?_) (fun c2=>?_)
  ·all_goals exact fz
  ·refine ct (Z93.aq H0.2.1) ?_
   try simp only [SS]
   all_goals exact fz
def af:cG 211 aW:=W1 16 F mix aF bB (.cons Z93.af .nil) Tryz.func211
end Z123
namespace Z124
def F (x0:dx):aK:=(cond x0.kC (ret ((!x0.cA):Bool)) bh)
def md (a0:bU):Bool:=(cond a0.kC ((!a0.cA):Bool) (false:Bool))
def gd (a0:bU):Prop:=True
def R:=RR gd md
def aq {a0}(h:gd a0):R (bU.r a0)=some (md a0):=aR (a:=a0) h
def aW:=CN [.agg Av] oB RT.dec R
def bB (a0)(hg:gd a0):F (bU.r a0)=ret (md a0):=by
 unfold F md
 try simp only [SS]
 refine ay ret (fun c1=>?_) (fun _=>rfl)
 all_goals exact fz
def af:cG 212 aW:=W1 10 F mix aF bB .nil Tryz.func212
end Z124
namespace Z125
inductive Pt where
 | p0 (a:aD) (b c:Int) (d:aD) (e:Int) (f:aE) (g h i j:Int) (k:aE) (l m n:Int) (o p q:aD)
def pid:Pt->Nat
 | .p0 ..=>6
def cg:Pt->List V
 | .p0 a b c d e f g h i j k l m n o p q=>[.sl none 227 a,.int .i64 b,.dy 0 0,.dy 1 0,.int .i64 c,.sl none 9 d,.dy 1 0]
def bZ:Pt->List aZ
 | .p0 a b c d e f g h i j k l m n o p q=>[.box [.nil,.nil,.int .i64 e,.str f,.int .i64 g,.int .i64 h,.nil,.nil,.int .i64 i],.box [.own 2,.own 3,.int .i64 j,.str k,.int .i64 l,.int .i64 m,.nil,.own 4,.int .i64 n],.row 92 o,.row 280 p,.row 3 q]
def step (J:Pt->aK):Pt->aK
 | .p0 a b c d e f g h i j k l m n o p q=>(cm (ff (((q.length:Int)+1)*8)) (cm (decide ((0:Int)<(d.length:Int))) (call (Z100.R (a,c,(qk d 0))) fun v1=>(cm (decide ((0:Int)<(d.length:Int))) (call (Z122.R ((⟨o,p⟩:bt),v1,c,(qk d 0),b)) fun v2=>(call (Z123.R v2) fun v3=>(call (Z124.R v2) fun v4=>(cond v4 (ret ((⟨v2.bR,2,(⟨k,l,m,[]⟩:bf),(q++[[L.int c]]),n⟩:cO):cO)) (cond (!v3.2) (ret ((⟨v2.bR,3,(⟨k,l,m,[]⟩:bf),(q++[[L.int c]]),n⟩:cO):cO)) (cond (v3.1.bM==3) (call (Z48.R v3.1.bH) fun v5=>(cm (decide ((1:Int)<=(d.length:Int))) (cm (decide ((d.length:Int)<=(d.length:Int))) (cm (ff (((v5.length:Int)+((List.take (toNat ((d.length:Int) - 1)) (List.drop 1 d)).length:Int))*16)) (cond (decide (n>=3)) (ret ((⟨v2.bR,5,(⟨k,l,m,[]⟩:bf),(q++[[L.int c]]),n⟩:cO):cO)) (call (Z47.R (v5++(List.take (toNat ((d.length:Int) - 1)) (List.drop 1 d)))) fun v6=>(cond (!v6) (ret ((⟨v2.bR,5,(⟨k,l,m,[]⟩:bf),(q++[[L.int c]]),n⟩:cO):cO)) (J (.p0 a b v3.1.cq (v5++(List.take (toNat ((d.length:Int) - 1)) (List.drop 1 d))) e f g h i j k l m (i64.wrap (n+1)) v2.bR.aH v2.bR.aY (q++[[L.int c]])))))))))) (cond ((d.length:Int)==1) (ret ((⟨v2.bR,1,v3.1,(q++[[L.int c]]),n⟩:cO):cO)) (cond (v3.1.bM != 2) (ret ((⟨v2.bR,4,(⟨k,l,m,[]⟩:bf),(q++[[L.int c]]),n⟩:cO):cO)) (cm (decide ((1:Int)<=(d.length:Int))) (cm (decide ((d.length:Int)<=(d.length:Int))) (J (.p0 a b v3.1.cq (List.take (toNat ((d.length:Int) - 1)) (List.drop 1 d)) e f g h i j k l m n v2.bR.aH v2.bR.aY (q++[[L.int c]])))))))))))))))))
def start (J:Pt->aK)(x0:bt)(x1:aD)(x2:Int)(x3:aD)(x4:Int):aK:=(call (Z44.R x0) fun v1=>(call (Z47.R x3) fun v2=>(cond (!v2) (ret ((⟨v1,6,(⟨(⟨#[]⟩:aE),0,0,[]⟩:bf),[],0⟩:cO):cO)) (call (Z48.R x3) fun v3=>J (.p0 x1 x4 x2 v3 0 ⟨#[]⟩ 0 0 0 6 ⟨#[]⟩ 0 0 0 v1.aH v1.aY [])))))
def live:Nat->Live:=fun i=>match i with | 6=>[(1,none),(4,none),(10,none),(11,none),(12,none),(13,some 1099511627785),(11,some 7340035)] | _=>[]
def nx (l:bU)(mv:Int)(p:List aE):(Int×ah)⊕(Int×Int×List aE):=
 bif !l.kC then .inl (3,⟨⟨#[]⟩,0,0,[]⟩) else bif !l.cA then .inl (2,⟨⟨#[]⟩,0,0,[]⟩)
 else bif l.aV.bM==3 then (cond (decide (mv>=3)) (.inl (5,⟨⟨#[]⟩,0,0,[]⟩)) (bif !Z47.md (l.aV.bH++p.tail) then .inl (5,⟨⟨#[]⟩,0,0,[]⟩) else .inr (mv+1,l.aV.cq,l.aV.bH++p.tail)))
 else bif (p.tail.length:Int)==0 then .inl (1,l.aV) else bif l.aV.bM==2 then .inr (mv,l.aV.cq,p.tail) else .inl (4,⟨⟨#[]⟩,0,0,[]⟩)
def rs {σ:Type}(look:σ->aj->Int->aE->bU×σ):Nat->σ->aj->List Int->Int->Int->List aE->aM×σ
 | 0,c,k,zs,mv,_,_=>(⟨k,0,⟨⟨#[]⟩,0,0,[]⟩,zs,mv⟩,c)
 | n+1,c,k,zs,mv,z,p=>match nx (look c k z (p.getD 0 ⟨#[]⟩)).1 mv p with
  | .inl q=>(⟨(look c k z (p.getD 0 ⟨#[]⟩)).1.bR,q.1,q.2,zs++[z],mv⟩,(look c k z (p.getD 0 ⟨#[]⟩)).2)
  | .inr q=>rs look n (look c k z (p.getD 0 ⟨#[]⟩)).2 (look c k z (p.getD 0 ⟨#[]⟩)).1.bR (zs++[z]) q.1 q.2.1 q.2.2
def lk (s:List av)(now:Int)(_:Unit)(k:aj)(z:Int)(l:aE):bU×Unit:=(Z122.md k (Z100.md s z l) z l now,())
def tP {σ:Type}{look:σ->aj->Int->aE->bU×σ}{n:Nat}{c:σ}{k:aj}{zs:List Int}{mv z:Int}{p:List aE}{q:Int×ah}(h:nx (look c k z (p.getD 0 ⟨#[]⟩)).1 mv p=.inl q) :
  rs look (n+1) c k zs mv z p=(⟨(look c k z (p.getD 0 ⟨#[]⟩)).1.bR,q.1,q.2,zs++[z],mv⟩,(look c k z (p.getD 0 ⟨#[]⟩)).2):=by
 show (match nx (look c k z (p.getD 0 ⟨#[]⟩)).1 mv p with | .inl q=>_ | .inr q=>_)=_
 rw [h]
def tu {σ:Type}{look:σ->aj->Int->aE->bU×σ}{n:Nat}{c:σ}{k:aj}{zs:List Int}{mv z:Int}{p:List aE}{q:Int×Int×List aE}(h:nx (look c k z (p.getD 0 ⟨#[]⟩)).1 mv p=.inr q) :
  rs look (n+1) c k zs mv z p=rs look n (look c k z (p.getD 0 ⟨#[]⟩)).2 (look c k z (p.getD 0 ⟨#[]⟩)).1.bR (zs++[z]) q.1 q.2.1 q.2.2:=by
 show (match nx (look c k z (p.getD 0 ⟨#[]⟩)).1 mv p with | .inl q=>_ | .inr q=>_)=_
 rw [h]
def wo {Pt:Type}{step:(Pt->aK)->Pt->aK}{p:Pt}{r:aK}(h:∃m,step (iter step m) p=r):∃m,iter step m p=r:=h.elim fun m h=>⟨m+1,h⟩
def md (a0:aj)(a1:List av)(a2:Int)(a3:List aE)(a4:Int):aM:=(cond (!Z47.md a3) ⟨a0,6,⟨⟨#[]⟩,0,0,[]⟩,[],0⟩ ((rs (lk a1 a4) 17 () a0 [] 0 a2 a3).1))
def gd (a0:aj)(a1:List av)(a2:Int)(a3:List aE)(a4:Int):Prop:=(aj.Sm (2^21) a0)/\(bO (2^21) (fun y:av=>av.Sm (2^21) y) a1)/\(bO (2^21) (fun y:aE=>y.size<=(2^21)) a3)
def R:=RR (p5 gd) (u5 md)
def aq {a0 a1 a2 a3 a4}(h:gd a0 a1 a2 a3 a4):R ((aj.r a0),(a1.map av.row),a2,(a3.map cI),a4)=some (aM.r (md a0 a1 a2 a3 a4)):=aR (a:=(a0,a1,a2,a3,a4)) h
def aW:=CN [.agg rU,pL 227,pI,pL 9,pI] (.agg f64) RT.dec R
def bB (a0)(a1)(a2)(a3)(a4)(hg:gd a0 a1 a2 a3 a4):∃n,start (iter step n) (aj.r a0) (a1.map av.row) a2 (a3.map cI) a4=ret (aM.r (md a0 a1 a2 a3 a4)):=by
 obtain ⟨H0,H1,H3⟩:=hg
 have key:∀(n:Nat) (k:aj) (zs:List Int) (mv z:Int) (p:List aE),aj.Sm (2^21) k->Z47.md p=true->0<=mv->mv<=3->(3 - mv)*4+(p.length:Int)<=n->zs.length+n<=100->
   ∃m,iter step m (Pt.p0 (a1.map av.row) a4 z (p.map cI) 0 ⟨#[]⟩ 0 0 0 6 ⟨#[]⟩ 0 0 mv (k.aH.map (dO aa.row)) (k.aY.map aB.row) (zs.map bu))=ret (aM.r (rs (lk a1 a4) n () k zs mv z p).1):=by
  intro n
  induction n with
  | zero=>intro k zs mv z p _ hp _ _ hm _;have:=(Z47.tr hp).1;omega
  | succ n ih=>
   intro k zs mv z p hk hp h0 h3 hm hz
   obtain ⟨⟨p1,p4⟩,p8⟩:=Z47.tr hp
   obtain ⟨x,xs,rfl⟩:∃x xs,p=x::xs:=by
    cases p with
    | nil=>simp at p1
    | cons x xs=>exact ⟨x,xs,rfl⟩
   have hx:x.size<=2^21:=le_trans (p8 x (by simp)) (by decide)
   have hxs:∀y∈xs,y.size<=2^22:=fun y hy=>le_trans (p8 y (by simp [hy])) (by decide)
   have hask:=Z100.fW (a0:=a1) (a1:=z) (a2:=x) ⟨H1,hx⟩
   have hlk:=Z122.fW (a0:=k) (a1:=Z100.md a1 z x) (a2:=z) (a3:=x) (a4:=a4) ⟨hk,hask,hx⟩
   have hat:qk ((x::xs).map cI) 0=x:=rfl
   have hg0:(x::xs).getD 0 ⟨#[]⟩=x:=rfl
   have ht:List.take (toNat (((xs.length+1:Nat):Int) - 1)) (List.drop 1 ((x::xs).map cI))=xs.map cI:=by
    simp only [List.map_cons,List.drop_succ_cons,List.drop_zero]
    exact List.take_of_length_le (by simp)
   have hkn:(lk a1 a4 () k z ((x::xs).getD 0 ⟨#[]⟩)).1=Z122.md k (Z100.md a1 z x) z x a4:=rfl
   simp only [List.length_cons] at p4 hm
   refine wo ?_
   simp only [step,hat,List.length_map,List.length_cons,ht]
   refine dK lm ?_
   refine dK dt ?_
   refine cx (Z100.aq (a0:=a1) ⟨H1,hx⟩) ?_
   refine dK dt ?_
   refine cx (Z122.aq (a0:=k) (a1:=Z100.md a1 z x) ⟨hk,hask,hx⟩) ?_
   have hcase:∀q,nx (Z122.md k (Z100.md a1 z x) z x a4) mv (x::xs)=.inl q->rs (lk a1 a4) (n+1) () k zs mv z (x::xs)=(⟨(Z122.md k (Z100.md a1 z x) z x a4).bR,q.1,q.2,zs++[z],mv⟩,()):=fun q hq=>tP hq
   have hcase2:∀q,nx (Z122.md k (Z100.md a1 z x) z x a4) mv (x::xs)=.inr q->rs (lk a1 a4) (n+1) () k zs mv z (x::xs)=rs (lk a1 a4) n () (Z122.md k (Z100.md a1 z x) z x a4).bR (zs++[z]) q.1 q.2.1 q.2.2:=fun q hq=>tu hq
   revert hcase hcase2 hlk
   generalize Z122.md k (Z100.md a1 z x) z x a4=l
   intro hlk hcase hcase2
   refine cx (Z123.aq (a0:=l) hlk) ?_
   refine cx (Z124.aq (a0:=l) trivial) ?_
   obtain ⟨lk0,lf,le,ld,lc⟩:=l
   unfold nx at hcase hcase2
   unfold Z124.md Z123.md
   cases ld
   ·exact ⟨0,by rw [hcase _ rfl];exact fz⟩
   cases lf
   ·exact ⟨0,by rw [hcase _ rfl];exact fz⟩
   simp only [Bool.not_true,bA,bq,List.tail_cons] at hcase hcase2 ⊢
   have hpl:bO (2^21) (fun y:aE=>y.size<=(2^21)) le.bH:=hlk.2.1.2
   have hpl1:le.bH.length<=2^21:=hpl.1
   have hzz:zs.map bu++[[L.int z]]=(zs++[z]).map bu:=by simp [bu]
   try simp only [SS]
   cases hk3:(le.bM==3)
   ·simp only [hk3,bA] at hcase hcase2 ⊢
    by_cases hx0:xs.length=0
    ·have e0:((xs.length:Int)==0)=true:=by simp [hx0]
     rw [e0] at hcase
     exact ⟨0,by rw [hcase _ rfl];exact ak (beq_iff_eq.2 (by omega)) fz⟩
    ·have e0:((xs.length:Int)==0)=false:=by simpa using hx0
     rw [e0] at hcase hcase2
     refine dF (beq_eq_false_iff_ne.2 (by omega)) ?_
     cases hk2:(le.bM==2)
     ·simp only [hk2,bA] at hcase
      exact ⟨0,by rw [hcase _ rfl];exact ak (by simpa using hk2) fz⟩
     ·simp only [hk2,bA,bq] at hcase2
      refine dF (by simpa using hk2) (dK dt (dK dt ?_))
      have hip:Z47.md xs=true:=Z47.tl hp hx0
      rw [hcase2 _ rfl,hzz]
      exact ih lk0 (zs++[z]) mv le.cq xs hlk.1 hip h0 h3 (by omega) (by simp;omega)
   ·simp only [hk3,bq] at hcase hcase2 ⊢
    refine cx (Z48.aq (a0:=le.bH) hpl) ?_
    refine dK dt (dK dt (dK (by have :(le.bH.map cI).length=le.bH.length:=List.length_map ..;have :(xs.map cI).length=xs.length:=List.length_map ..;exact je (by omega)) ?_))
    by_cases hmv:mv>=3
    ·rw [decide_eq_true hmv] at hcase ⊢
     exact ⟨0,by rw [hcase _ rfl];exact fz⟩
    ·rw [decide_eq_false hmv] at hcase hcase2 ⊢
     simp only [bA] at hcase hcase2 ⊢
     have e:le.bH.map cI++xs.map cI=(le.bH++xs).map cI:=by simp
     rw [e]
     refine cx (Z47.aq (a0:=le.bH++xs) ⟨by rw [List.length_append];omega,fun y hy=>(List.mem_append.1 hy).elim (fun h=>le_trans (hpl.2 y h) (by decide)) (hxs y)⟩) ?_
     cases hip:Z47.md (le.bH++xs)
     ·rw [hip] at hcase
      exact ⟨0,by rw [hcase _ rfl];exact fz⟩
     ·rw [hip] at hcase2
      have ht:=Z47.tr hip
      rw [hcase2 _ rfl,hzz,wi _ (by omega)]
      exact ih lk0 (zs++[z]) (mv+1) le.cq (le.bH++xs) hlk.1 hip (by omega) (by omega) (by omega) (by simp;omega)
 unfold start md
 refine cx (Z44.aq (a0:=a0) H0) ?_
 refine cx (Z47.aq (a0:=a3) (bO.mono H3 (by decide) (fun y hy=>le_trans hy (by decide)))) ?_
 cases hp:Z47.md a3
 ·exact ⟨0,rfl⟩
 ·simp only [Bool.not_true,bA]
  refine cx (Z48.aq (a0:=a3) H3) ?_
  exact key 17 a0 [] 0 a2 a3 H0 hp (by decide) (by decide) (by have:=(Z47.tr hp).1;omega) (by simp)
def af:cG 129 aW:=L5 109 pid cg bZ live step start mix aF bB (.cons Z44.af (.cons Z47.af (.cons Z48.af (.cons Z100.af (.cons Z122.af (.cons Z123.af (.cons Z124.af .nil))))))) Tryz.func129
def Ah {σ:Type}{look:σ->aj->Int->aE->bU×σ}{A B:Nat}(I:σ->Prop)(hI:∀c k z s,I c->I (look c k z s).2)(hl:∀c k z s,I c->Z106.Cz (look c k z s).1.bR.aH<=Z106.Cz k.aH+A/\Z106.Fz (look c k z s).1.bR.aY<=Z106.Fz k.aY+4*(2*(Z106.Cz k.aH+A)+A)/\ah.size (look c k z s).1.aV<=A) :
  ∀(n:Nat) (c:σ) (k:aj) (zs:List Int) (mv z:Int) (p:List aE),I c->Z106.Cz k.aH+n*A<=B->
   Z106.Cz (rs look n c k zs mv z p).1.bR.aH<=B/\Z106.Fz (rs look n c k zs mv z p).1.bR.aY<=Z106.Fz k.aY+n*(8*B+12*A)/\ah.size (rs look n c k zs mv z p).1.aV<=A/\(rs look n c k zs mv z p).1.bK.length<=zs.length+n/\I (rs look n c k zs mv z p).2
 | 0,c,k,zs,mv,z,p,hi,hb=>⟨by show Z106.Cz k.aH<=B;omega,Nat.le_add_right _ _,zero_le _,Nat.le_refl _,hi⟩
 | n+1,c,k,zs,mv,z,p,hi,hb=>by
  obtain ⟨h1,h2,h3⟩:=hl c k z (p.getD 0 ⟨#[]⟩) hi
  have hi2:=hI c k z (p.getD 0 ⟨#[]⟩) hi
  rw [Nat.succ_mul] at hb
  cases hn:nx (look c k z (p.getD 0 ⟨#[]⟩)).1 mv p with
  | inl q=>
   rw [tP hn]
   have hq:ah.size q.2<=A:=by
    have e0:ah.size ⟨⟨#[]⟩,0,0,[]⟩=0:=rfl
    unfold nx at hn
    simp only [Bool.cond_eq_ite] at hn
    revert hn
    repeat' split
    all_goals (intro hn;first | (cases hn;done) | (injection hn with hn;subst hn;first | exact h3 | exact zero_le _))
   refine ⟨by simp only;omega,?_,hq,by simp,hi2⟩
   simp only
   rw [Nat.succ_mul]
   omega
  | inr q=>
   rw [tu hn]
   obtain ⟨g1,g2,g3,g4,g5⟩:=Ah (A:=A) (B:=B) I hI hl n (look c k z (p.getD 0 ⟨#[]⟩)).2 (look c k z (p.getD 0 ⟨#[]⟩)).1.bR (zs++[z]) q.1 q.2.1 q.2.2 hi2 (by omega)
   rw [List.length_append,List.length_cons,List.length_nil] at g4
   refine ⟨g1,?_,g3,by omega,g5⟩
   rw [Nat.succ_mul]
   omega
def Bs (s:List av)(now:Int)(k:aj)(z:Int)(l:aE){A:Nat}(hA:6*dP (fun y:av=>av.size y) s<=A) :
  Z106.Cz (lk s now () k z l).1.bR.aH<=Z106.Cz k.aH+A/\Z106.Fz (lk s now () k z l).1.bR.aY<=Z106.Fz k.aY+4*(2*(Z106.Cz k.aH+A)+A)/\ah.size (lk s now () k z l).1.aV<=A:=by
 have hg:=Z122.grow z l now (Z100.md s z l) (k.aH,k.aY,[])
 rw [<-Z122.ry] at hg
 obtain ⟨g1,g2,_,g4⟩:=hg
 have h1:=Z100.sz s z l
 have h2:=Z100.B5 s z l
 simp only at g1 g2
 have h3:=Nat.mul_le_mul_right (2*(Z106.Cz k.aH+dP (fun y:az=>az.size y) (Z100.md s z l))+dP (fun y:az=>az.size y) (Z100.md s z l)) h2
 unfold lk
 refine ⟨by simp only;omega,by simp only;omega,by simp only;omega⟩
def Bc {l:bU}{mv:Int}{p:List aE}{q:Int×ah}(h:nx l mv p=.inl q)(hl:ah.Sm (2^21) l.aV):ah.Sm (2^21) q.2:=by
 have ez:ah.Sm (2^21) ⟨⟨#[]⟩,0,0,[]⟩:=⟨zero_le _,bO.nil⟩
 unfold nx at h
 simp only [Bool.cond_eq_ite] at h
 revert h
 repeat' split
 all_goals (intro h;first | (cases h;done) | (injection h with h;subst h;first | exact hl | exact ez))
def zZ {l:bU}{mv:Int}{p:List aE}{q:Int×Int×List aE}(h:nx l mv p=.inr q)(hp:Z47.md p=true):Z47.md q.2.2=true:=by
 cases p with
 | nil=>have:=(Z47.tr hp).1;simp at this
 | cons x xs=>
  unfold nx at h
  simp only [Bool.cond_eq_ite,List.tail_cons] at h
  revert h
  repeat' split
  all_goals (intro h;first | (cases h;done) | (injection h with h;subst h;first | (rename_i h0 _;exact Z47.tl hp (by intro e;simp [e] at h0)) | simp_all))
def Ad {σ:Type}{look:σ->aj->Int->aE->bU×σ}(I:σ->Prop)(hl:∀c k z s,I c->aj.Sm (2^21) k->s.size<=2^21->bU.Sm (2^21) (look c k z s).1/\I (look c k z s).2) :
  ∀(n:Nat) (c:σ) (k:aj) (zs:List Int) (mv z:Int) (p:List aE),I c->aj.Sm (2^21) k->Z47.md p=true->zs.length+n<=2^21->
   aM.Sm (2^21) (rs look n c k zs mv z p).1/\I (rs look n c k zs mv z p).2
 | 0,c,k,zs,mv,z,p,hi,hk,_,hz=>⟨⟨hk,⟨zero_le _,bO.nil⟩,hz,fun _ _=>trivial⟩,hi⟩
 | n+1,c,k,zs,mv,z,p,hi,hk,hp,hz=>by
  have h8:=(Z47.tr hp).2
  have hx:(p.getD 0 ⟨#[]⟩).size<=2^21:=by
   cases p with
   | nil=>exact zero_le _
   | cons x xs=>exact le_trans (h8 x (by simp)) (by decide)
  obtain ⟨h1,h2⟩:=hl c k z (p.getD 0 ⟨#[]⟩) hi hk hx
  cases hn:nx (look c k z (p.getD 0 ⟨#[]⟩)).1 mv p with
  | inl q=>
   rw [tP hn]
   exact ⟨⟨h1.1,Bc hn h1.2.1,by simp only [List.length_append,List.length_cons,List.length_nil];omega,fun _ _=>trivial⟩,h2⟩
  | inr q=>
   rw [tu hn]
   exact Ad I hl n _ _ _ _ _ _ h2 h1.1 (zZ hn hp) (by simp only [List.length_append,List.length_cons,List.length_nil];omega)
def fW {a0:aj}{a1:List av}{a2:Int}{a3:List aE}{a4:Int}(hg:gd a0 a1 a2 a3 a4):aM.Sm (2^21) (md a0 a1 a2 a3 a4):=by
 unfold gd at hg
 unfold md
 cases hp:Z47.md a3
 ·exact ⟨hg.1,⟨zero_le _,bO.nil⟩,zero_le _,fun _ _=>trivial⟩
 ·simp only [Bool.not_true,bA]
  exact (Ad (look:=lk a1 a4) (fun _=>True) (fun c k z s _ hk hs=>⟨Z122.fW ⟨hk,Z100.fW ⟨hg.2.1,hs⟩,hs⟩,trivial⟩) 17 () a0 [] 0 a2 a3 trivial hg.1 hp (show 0+17<=2^21 by omega)).1
def Bk (t:aM):aM.size t=Z106.Cz t.bR.aH+Z106.Fz t.bR.aY+ah.size t.aV+t.bK.length:=by
 unfold aM.size aj.size Z106.Cz Z106.Fz
 rw [qF]
def gr (a0:aj)(a1:List av)(a2:Int)(a3:List aE)(a4:Int){B:Nat}(h1:dP (fun y:av=>av.size y) a1<=2^20)(hB:Z106.Cz a0.aH+106954752<=B) :
  Z106.Cz (md a0 a1 a2 a3 a4).bR.aH<=Z106.Cz a0.aH+106954752/\Z106.Fz (md a0 a1 a2 a3 a4).bR.aY<=Z106.Fz a0.aY+(136*B+1283457024)/\ah.size (md a0 a1 a2 a3 a4).aV<=6291456/\(md a0 a1 a2 a3 a4).bK.length<=17:=by
 unfold md
 cases Z47.md a3
 ·exact ⟨Nat.le_add_right _ _,Nat.le_add_right _ _,zero_le _,zero_le _⟩
 ·simp only [Bool.not_true,bA]
  obtain ⟨A,hA⟩:∃A,A=6291456:=⟨_,rfl⟩
  obtain ⟨D,hD⟩:∃D,D=Z106.Cz a0.aH+17*A:=⟨_,rfl⟩
  obtain ⟨g1,g2,g3,g4,_⟩:=Ah (look:=lk a1 a4) (A:=A) (B:=D) (fun _=>True) (fun _ _ _ _ _=>trivial) (fun _ k z s _=>Bs a1 a4 k z s (by omega)) 17 () a0 [] 0 a2 a3 trivial (by omega)
  revert g1 g2 g3 g4
  generalize (rs (lk a1 a4) 17 () a0 [] 0 a2 a3).1=t
  intro g1 g2 g3 g4
  simp only [List.length_nil] at g4
  refine ⟨by omega,by omega,by omega,by omega⟩
end Z125
namespace Z126
inductive Pt where
 | p0 (a b c:aD) (d e:Int) (f g h:aD)
def pid:Pt->Nat
 | .p0 ..=>4
def cg:Pt->List V
 | .p0 a b c d e f g h=>[.sl none 227 a,.sl none 222 b,.sl none 9 c,.int .i64 d,.dy 0 0,.own 1,.dy 2 0,.int .i64 e]
def bZ:Pt->List aZ
 | .p0 a b c d e f g h=>[.box [.nil,.nil],.row 64 f,.box [.own 3,.own 4],.row 92 g,.row 280 h]
def step (J:Pt->aK):Pt->aK
 | .p0 a b c d e f g h=>(cond (decide (e<(b.length:Int))) (cond (decide (e<3)) (m2 e (b.length:Int) (call (Z125.R ((⟨g,h⟩:bt),a,(bk.at b (toNat e)).bz,c,d)) fun v1=>(call (Z44.R v1.bR) fun v2=>(cm (ff (((f.length:Int)+1)*144)) (J (.p0 a b c d (i64.wrap (e+1)) (f++[(cO.enc v1)]) v2.aH v2.aY)))))) (ret ((f,(⟨g,h⟩:bt)):aD×bt))) (ret ((f,(⟨g,h⟩:bt)):aD×bt)))
def start (J:Pt->aK)(x0:bt)(x1 x2 x3:aD)(x4:Int):aK:=(call (Z44.R x0) fun v1=>J (.p0 x1 x2 x3 x4 0 [] v1.aH v1.aY))
def live:Nat->Live:=fun i=>match i with | 4=>[(1,none),(2,none),(3,none),(4,none),(11,none),(12,some 64),(13,none),(14,none)] | _=>[]
def md (a0:aj)(a1:List av)(a2:List bk)(a3:List aE)(a4:Int):List aM×aj:=(dJ (S:=List aM×List (List aa)×List aB) (β:=List aM×aj) (fun (i1:Nat) (y1:bk) (s3:List aM×List (List aa)×List aB)=>(cond (decide ((i1:Int)<3)) (.inl ((s3.1++[(Z125.md (⟨s3.2.1,s3.2.2⟩:aj) a1 (y1.bz) a3 a4)]),((Z125.md (⟨s3.2.1,s3.2.2⟩:aj) a1 (y1.bz) a3 a4).bR).aH,((Z125.md (⟨s3.2.1,s3.2.2⟩:aj) a1 (y1.bz) a3 a4).bR).aY)) (.inr (s3.1,(⟨s3.2.1,s3.2.2⟩:aj))))) (fun (s3:List aM×List (List aa)×List aB)=>(s3.1,(⟨s3.2.1,s3.2.2⟩:aj))) 0 a2 ([],a0.aH,a0.aY))
def gd (a0:aj)(a1:List av)(a2:List bk)(a3:List aE)(a4:Int):Prop:=(aj.Sm (2^21) a0)/\(bO (2^21) (fun y:av=>av.Sm (2^21) y) a1)/\(bO (2^21) (fun y:bk=>bk.Sm (2^21) y) a2)/\(bO (2^21) (fun y:aE=>y.size<=(2^21)) a3)
def R:=RR (p5 gd) (u5 md)
def aq {a0 a1 a2 a3 a4}(h:gd a0 a1 a2 a3 a4):R ((aj.r a0),(a1.map av.row),(a2.map bk.row),(a3.map cI),a4)=some (((md a0 a1 a2 a3 a4).1.map aM.row),(aj.r (md a0 a1 a2 a3 a4).2)):=aR (a:=(a0,a1,a2,a3,a4)) h
def aW:=CN [.agg rU,pL 227,pL 222,pL 9,pI] (.iW [(false,[.fr 64]),(true,f37)]) RT.dec R
def bB (a0)(a1)(a2)(a3)(a4)(hg:gd a0 a1 a2 a3 a4):∃n,start (iter step n) (aj.r a0) (a1.map av.row) (a2.map bk.row) (a3.map cI) a4=ret (((md a0 a1 a2 a3 a4).1.map aM.row),(aj.r (md a0 a1 a2 a3 a4).2)):=by
 obtain ⟨H0,H1,H2,H3⟩:=hg
 unfold start md
 try simp only [SS]
 refine cx (Z44.aq H0) ?_
 try simp only [SS]
 have Bh2:a2.length<=maxLen:=(by
   have:=(H2).1
   try simp only [maxLen] at *
   omega)
 refine ex_eq (out:=(fun b:List aM×aj=>ret (((b.1.map aM.row),(aj.r b.2)):aD×bt))) (dc (z:=bk.zero)) ?_
 refine dR (p:=Pt.p0 (a1.map av.row) (a2.map bk.row) (a3.map cI) a4 0 ([].map aM.row) (a0.aH.map (dO aa.row)) (a0.aY.map aB.row)) fz ?_
 refine cu (pt:=fun (i1:Nat) (s3:List aM×List (List aa)×List aB)=>Pt.p0 (a1.map av.row) (a2.map bk.row) (a3.map cI) a4 (i1:Int) (s3.1.map aM.row) (s3.2.1.map (dO aa.row)) (s3.2.2.map aB.row)) (s:=(([],a0.aH,a0.aY):List aM×List (List aa)×List aB)) (out:=(fun b:List aM×aj=>ret (((b.1.map aM.row),(aj.r b.2)):aD×bt))) (fun (i1:Nat) (s3:List aM×List (List aa)×List aB)=>aj.Sm (2^21) (⟨s3.2.1,s3.2.2⟩:aj)/\s3.1.length<=i1) (fun J i1 s3 h2 hih2=>?_) (fun s3 hih2=>?_) ⟨H0,zero_le _⟩
 ·simp only [step,SS]
  have gr_:=hih2
  try simp only [LN] at gr_
  have bb_:=Bh2
  simp only [maxLen] at bb_
  have:=(H2).1
  refine bD.yes (by apply decide_eq_true;omega) ?_
  refine bD.bif (fun c4=>?_) (fun c4=>?_)
  ·have dc4:=c4
   try simp only [DC] at dc4
   refine bD.yes aJ ?_
   refine bD.yes (aL h2) ?_
   refine cr (Z125.aq (a0:=(⟨s3.2.1,s3.2.2⟩:aj)) ⟨⟨hih2.1.1,hih2.1.2⟩,H1,H3⟩) ?_
   try simp only [SS]
   refine cr (Z44.aq (a0:=(Z125.md (⟨s3.2.1,s3.2.2⟩:aj) a1 ((a2.getD i1 bk.zero).bz) a3 a4).bR) (Z125.fW (a0:=(⟨s3.2.1,s3.2.2⟩:aj)) (a1:=a1) (a2:=(a2.getD i1 bk.zero).bz) (a3:=a3) (a4:=a4) ⟨⟨hih2.1.1,hih2.1.2⟩,H1,H3⟩).1) ?_
   try simp only [SS]
   refine bD.yes lm ?_
   refine bD.inl (by exact ⟨(Z125.fW ⟨hih2.1,H1,H3⟩).1,iA hih2.2⟩) ?_
   rw [aI h2 Bh2]
   all_goals exact fz
  ·refine bD.inr ?_
   all_goals exact fz
 ·simp only [step,SS]
  have gr_:=hih2
  try simp only [LN] at gr_
  have:=(H2).1
  refine dF (by apply decide_eq_false;omega) ?_
  refine ⟨0,?_⟩
  all_goals exact fz
def af:cG 25 aW:=L5 48 pid cg bZ live step start mix aF bB (.cons Z44.af (.cons Z125.af .nil)) Tryz.func25
def pX (a1:List av)(a3:List aE)(a4:Int)(i:Nat)(y:bk)(s:List aM×List (List aa)×List aB):(List aM×List (List aa)×List aB)⊕(List aM×aj):=
 bif (decide ((i:Int)<3)) then (.inl ((s.1++[(Z125.md (⟨s.2.1,s.2.2⟩:aj) a1 (y.bz) a3 a4)]),((Z125.md (⟨s.2.1,s.2.2⟩:aj) a1 (y.bz) a3 a4).bR).aH,((Z125.md (⟨s.2.1,s.2.2⟩:aj) a1 (y.bz) a3 a4).bR).aY)) else (.inr (s.1,(⟨s.2.1,s.2.2⟩:aj)))
def wv {α:Type}(f:α->Nat)(x:α):∀xs:List α,dP f (xs++[x])=dP f xs+(f x+1)
 | []=>by simp [dP];omega
 | y::ys=>by
  have:=wv f x ys
  rw [List.cons_append,Z122.qO,Z122.qO,this]
  omega
def AL {K F T:Nat}(hK:K=106954752)(hF:F=2^37)(hT:T=2^40+1)(a1:List av)(a3:List aE)(a4:Int)(h1:dP (fun y:av=>av.size y) a1<=2^20):∀(xs:List bk) (i:Nat) (s:List aM×List (List aa)×List aB),i<=3->
  Z106.Cz s.2.1<=2^20+i*K->Z106.Fz s.2.2<=2^20+i*F->dP (fun y:aM=>aM.size y) s.1<=i*T->
  dP (fun y:aM=>aM.size y) (dJ (pX a1 a3 a4) (fun s=>(s.1,(⟨s.2.1,s.2.2⟩:aj))) i xs s).1<=3*T/\aj.size (dJ (pX a1 a3 a4) (fun s=>(s.1,(⟨s.2.1,s.2.2⟩:aj))) i xs s).2<=2^40:=by
 have hk:∀s:List aM×List (List aa)×List aB,aj.size ⟨s.2.1,s.2.2⟩=Z106.Cz s.2.1+Z106.Fz s.2.2:=fun _=>rfl
 intro xs
 induction xs with
 | nil=>
  intro i s hi hc hf ht
  have e1:=Nat.mul_le_mul_right K hi
  have e2:=Nat.mul_le_mul_right F hi
  have e3:=Nat.mul_le_mul_right T hi
  unfold dJ
  refine ⟨le_trans ht e3,?_⟩
  rw [hk]
  generalize Z106.Cz s.2.1=c at *
  generalize Z106.Fz s.2.2=f at *
  omega
 | cons y xs ih=>
  intro i s hi hc hf ht
  have e1:=Nat.mul_le_mul_right K hi
  have e2:=Nat.mul_le_mul_right F hi
  have e3:=Nat.mul_le_mul_right T hi
  unfold dJ
  by_cases h:i<3
  ·have e:pX a1 a3 a4 i y s=.inl ((s.1++[(Z125.md (⟨s.2.1,s.2.2⟩:aj) a1 (y.bz) a3 a4)]),((Z125.md (⟨s.2.1,s.2.2⟩:aj) a1 (y.bz) a3 a4).bR).aH,((Z125.md (⟨s.2.1,s.2.2⟩:aj) a1 (y.bz) a3 a4).bR).aY):=by
    unfold pX
    rw [decide_eq_true (by omega)]
    rfl
   rw [e]
   obtain ⟨B,hB⟩:∃B,B=2^29:=⟨_,rfl⟩
   have hg:=Z125.gr ⟨s.2.1,s.2.2⟩ a1 y.bz a3 a4 (B:=B) h1
   have hts:=Z125.Bk (Z125.md (⟨s.2.1,s.2.2⟩:aj) a1 (y.bz) a3 a4)
   have hse:=wv (fun y:aM=>aM.size y) (Z125.md (⟨s.2.1,s.2.2⟩:aj) a1 (y.bz) a3 a4) s.1
   revert hg hts hse
   generalize Z125.md (⟨s.2.1,s.2.2⟩:aj) a1 (y.bz) a3 a4=t
   intro hg hts hse
   simp only at hg
   have c1:(i+1)*K=i*K+K:=Nat.succ_mul i K
   have c2:(i+1)*F=i*F+F:=Nat.succ_mul i F
   have c3:(i+1)*T=i*T+T:=Nat.succ_mul i T
   rw [<-hK] at hg
   obtain ⟨g1,g2,g3,g4⟩:=hg (by omega)
   refine ih (i+1) _ (by omega) ?_ ?_ ?_
   ·show Z106.Cz t.bR.aH<=_
    omega
   ·show Z106.Fz t.bR.aY<=_
    omega
   ·show dP _ (s.1++[t])<=_
    rw [hse,hts]
    omega
  ·have e:pX a1 a3 a4 i y s=.inr (s.1,(⟨s.2.1,s.2.2⟩:aj)):=by
    unfold pX
    rw [decide_eq_false (by omega)]
    rfl
   rw [e]
   refine ⟨le_trans ht e3,?_⟩
   rw [hk]
   generalize Z106.Cz s.2.1=c at *
   generalize Z106.Fz s.2.2=f at *
   omega
def sz (a0:aj)(a1:List av)(a2:List bk)(a3:List aE)(a4:Int)(h0:aj.size a0<=2^20)(h1:dP (fun y:av=>av.size y) a1<=2^20) :
  dP (fun y:aM=>aM.size y) (md a0 a1 a2 a3 a4).1<=3298534883331/\aj.size (md a0 a1 a2 a3 a4).2<=2^40:=by
 have hk:aj.size a0=Z106.Cz a0.aH+Z106.Fz a0.aY:=rfl
 have h:=AL rfl rfl rfl a1 a3 a4 h1 a2 0 ([],a0.aH,a0.aY) (by omega) (by simp only;omega) (by simp only;omega) (zero_le _)
 exact h
end Z126
namespace Z127
def F (x0:aD):aK:=(cond x0.isEmpty (either (ret ([]:aD)) ((cm (ff ((x0.length:Int)*8)) (ret (x0:aD))))) (cm (ff ((x0.length:Int)*8)) (ret (x0:aD))))
def md (a0:List Int):List Int:=a0
def gd (a0:List Int):Prop:=bO (2^38) (fun y:Int=>True) a0
def R:=RR gd md
def aq {a0}(h:gd a0):R (a0.map bu)=some (a0.map bu):=aR (a:=a0) h
def aW:=CN [pL 3] (oL 3) RT.dec R
def bB (a0)(hg:gd a0):F (a0.map bu)=ret ((md a0).map bu):=by
 have H0:=hg.1
 unfold F md
 have hl:ff (((a0.map bu).length:Int)*8)=true:=je (by simp only [List.length_map];omega)
 simp only [hl,bq]
 cases a0 with
 | nil=>exact lG
 | cons x xs=>rfl
def af:cG 350 aW:=W1 8 F mix aF bB .nil Tryz.func350
end Z127
namespace Z128
def F (x0:bF):aK:=(call (Z127.R x0.aX) fun v1=>ret ((⟨v1,x0.cH⟩:bF):bF))
def md (a0:aO):aO:=a0
def gd (a0:aO):Prop:=(aO.Sm (2^21) a0)
def R:=RR gd md
def aq {a0}(h:gd a0):R (aO.r a0)=some (aO.r a0):=aR (a:=a0) h
def aW:=CN [.agg pZ] (.agg f98) RT.dec R
def bB (a0)(hg:gd a0):F (aO.r a0)=ret (aO.r (md a0)):=by
 unfold gd at hg
 have H0:=hg
 unfold F md
 try simp only [SS]
 refine ct (Z127.aq (H0.mono (by decide) (fun x hx=>trivial))) ?_
 try simp only [SS]
 all_goals exact fz
def af:cG 220 aW:=W1 9 F mix aF bB (.cons Z127.af .nil) Tryz.func220
end Z128
namespace Z129
def F (x0:ck):aK:=(call (Z128.R x0.bQ) fun v1=>(call (Z128.R x0.bE) fun v2=>(call (Z128.R x0.bC) fun v3=>ret ((⟨x0.bz,x0.cN,x0.bM,x0.cK,x0.cF,x0.cz,x0.dm,x0.dH,v1,v2,x0.dw,v3,x0.bG⟩:ck):ck))))
def md (a0:aG):aG:=a0
def gd (a0:aG):Prop:=(aG.Sm (2^21) a0)
def R:=RR gd md
def aq {a0}(h:gd a0):R (aG.r a0)=some (aG.r a0):=aR (a:=a0) h
def aW:=CN [.agg gi] (.agg f102) RT.dec R
def bB (a0)(hg:gd a0):F (aG.r a0)=ret (aG.r (md a0)):=by
 unfold gd at hg
 have H0:=hg
 unfold F md
 try simp only [SS]
 refine ct (Z128.aq H0.1) ?_
 try simp only [SS]
 refine ct (Z128.aq H0.2.1) ?_
 try simp only [SS]
 refine ct (Z128.aq H0.2.2) ?_
 try simp only [SS]
 all_goals exact fz
def af:cG 351 aW:=W1 16 F mix aF bB (.cons Z128.af .nil) Tryz.func351
end Z129
namespace Z130
def F (x0:aD):aK:=(cond x0.isEmpty (either (ret ([]:aD)) ((cm (ff ((x0.length:Int)*16)) (ret (x0:aD))))) (cm (ff ((x0.length:Int)*16)) (ret (x0:aD))))
def md (a0:List bw):List bw:=a0
def gd (a0:List bw):Prop:=bO (2^21) (fun y:bw=>bw.Sm (2^21) y) a0
def R:=RR gd md
def aq {a0}(h:gd a0):R (a0.map bw.row)=some (a0.map bw.row):=aR (a:=a0) h
def aW:=CN [pL 428] (oL 428) RT.dec R
def bB (a0)(hg:gd a0):F (a0.map bw.row)=ret ((md a0).map bw.row):=by
 have H0:=hg.1
 unfold F md
 have hl:ff (((a0.map bw.row).length:Int)*16)=true:=je (by simp only [List.length_map];omega)
 simp only [hl,bq]
 cases a0 with
 | nil=>exact lG
 | cons x xs=>rfl
def af:cG 451 aW:=W1 8 F mix aF bB .nil Tryz.func451
end Z130
namespace Z131
def F (x0:aT):aK:=(call (Z129.R x0.au) fun v1=>(call (Z130.R x0.cw) fun v2=>ret ((⟨v1,v2⟩:aT):aT)))
def md (a0:aa):aa:=a0
def gd (a0:aa):Prop:=(aa.Sm (2^21) a0)
def R:=RR gd md
def aq {a0}(h:gd a0):R (aa.r a0)=some (aa.r a0):=aR (a:=a0) h
def aW:=CN [.agg kT] (.agg f123) RT.dec R
def bB (a0)(hg:gd a0):F (aa.r a0)=ret (aa.r (md a0)):=by
 unfold gd at hg
 have H0:=hg
 unfold F md
 try simp only [SS]
 refine ct (Z129.aq H0.1) ?_
 try simp only [SS]
 refine ct (Z130.aq H0.2) ?_
 try simp only [SS]
 all_goals exact fz
def af:cG 364 aW:=W1 10 F mix aF bB (.cons Z129.af (.cons Z130.af .nil)) Tryz.func364
end Z131
namespace Z132
inductive Pt where
 | p0 (a:aD) (b c:Int) (d:aD)
def pid:Pt->Nat
 | .p0 ..=>3
def cg:Pt->List V
 | .p0 a b c d=>[.own 0,.sl none 123 a,.int .i64 b,.int .i64 c]
def bZ:Pt->List aZ
 | .p0 a b c d=>[.row 123 d]
def step (J:Pt->aK):Pt->aK
 | .p0 a b c d=>(cond (decide (c<b)) (m2 c (a.length:Int) (call (Z131.R (aT.at a (toNat c))) fun v1=>(cm (ff (((d.length:Int)+1)*200)) (J (.p0 a b (i64.wrap (c+1)) (d++[(aT.enc v1)])))))) (ret (d:aD)))
def start (J:Pt->aK)(x0:aD):aK:=J (.p0 x0 (x0.length:Int) 0 [])
def live:Nat->Live:=fun i=>match i with | 3=>[(3,some 123),(7,none),(8,none),(9,none)] | _=>[]
def md (a0:List aa):List aa:=a0
def gd (a0:List aa):Prop:=(bO (2^21) (fun y:aa=>aa.Sm (2^21) y) a0)
def R:=RR gd md
def aq {a0}(h:gd a0):R (a0.map aa.row)=some (a0.map aa.row):=aR (a:=a0) h
def aW:=CN [pL 123] (oL 123) RT.dec R
def bB (a0)(hg:gd a0):∃n,start (iter step n) (a0.map aa.row)=ret ((md a0).map aa.row):=by
 unfold gd at hg
 have H0:=hg
 unfold start md
 try simp only [SS]
 have Bh2:a0.length<=maxLen:=(by
   have:=(H0).1
   try simp only [maxLen] at *
   omega)
 refine ex_eq (out:=(fun b:List aa=>ret ((b.map aa.row):aD))) (iM (xs:=a0) (z:=aa.zero) (t:=fun s3:List aa=>s3)) ?_
 refine dR (p:=Pt.p0 (a0.map aa.row) (a0.length:Int) 0 ([].map aa.row)) fz ?_
 refine cu (pt:=fun (i1:Nat) (s3:List aa)=>Pt.p0 (a0.map aa.row) (a0.length:Int) (i1:Int) (s3.map aa.row)) (s:=([]:List aa)) (out:=(fun b:List aa=>ret ((b.map aa.row):aD))) (fun (i1:Nat) (s3:List aa)=>s3.length<=([]:List Int).length+1*i1) (fun J i1 s3 h2 hih2=>?_) (fun s3 hih2=>?_) (by simp)
 ·simp only [step,SS]
  have gr_:=hih2
  try simp only [LN] at gr_
  have bb_:=Bh2
  simp only [maxLen] at bb_
  have:=(H0).1
  refine bD.yes (by apply decide_eq_true;omega) ?_
  refine bD.yes aJ ?_
  refine bD.yes (aL h2) ?_
  refine cr (Z131.aq (bO.getD (z:=aa.zero) H0 h2)) ?_
  try simp only [SS]
  refine bD.yes lm ?_
  refine bD.inl (by
    have g_:=hih2
    try simp only [LN] at g_ ⊢
    first | omega | (simp;done) | (simp;omega)) ?_
  rw [aI h2 Bh2]
  all_goals exact fz
 ·simp only [step,SS]
  have gr_:=hih2
  try simp only [LN] at gr_
  have:=(H0).1
  refine dF (by apply decide_eq_false;omega) ?_
  refine ⟨0,?_⟩
  all_goals exact fz
def af:cG 241 aW:=L1 20 pid cg bZ live step start mix aF bB (.cons Z131.af .nil) Tryz.func241
end Z132
namespace Z133
def F (x0:bL):aK:=(call (Z131.R x0.aS) fun v1=>(call (Z131.R x0.fA) fun v2=>(call (Z131.R x0.fB) fun v3=>ret ((⟨v1,v2,v3⟩:bL):bL))))
def md (a0:aB):aB:=a0
def gd (a0:aB):Prop:=(aB.Sm (2^21) a0)
def R:=RR gd md
def aq {a0}(h:gd a0):R (aB.r a0)=some (aB.r a0):=aR (a:=a0) h
def aW:=CN [.agg sV] (.agg f280) RT.dec R
def bB (a0)(hg:gd a0):F (aB.r a0)=ret (aB.r (md a0)):=by
 unfold gd at hg
 have H0:=hg
 unfold F md
 try simp only [SS]
 refine ct (Z131.aq H0.1) ?_
 try simp only [SS]
 refine ct (Z131.aq H0.2.1) ?_
 try simp only [SS]
 refine ct (Z131.aq H0.2.2) ?_
 try simp only [SS]
 all_goals exact fz
def af:cG 327 aW:=W1 13 F mix aF bB (.cons Z131.af .nil) Tryz.func327
end Z133
namespace Z134
inductive Pt where
 | p0 (a:aD) (b c:Int) (d:bt) (e:aD)
 | p1 (a:aD) (b c:Int) (d e:aD)
def pid:Pt->Nat
 | .p0 ..=>3
 | .p1 ..=>8
def cg:Pt->List V
 | .p0 a b c d e=>[.dy 0 0,.dy 1 0,.dy 2 0,.sl none 92 a,.int .i64 b,.int .i64 c,.dy 2 0]
 | .p1 a b c d e=>[.dy 0 0,.dy 1 0,.sl none 280 a,.int .i64 b,.int .i64 c,.dy 1 0,.dy 1 0]
def bZ:Pt->List aZ
 | .p0 a b c d e=>[.box [.sl none 92 d.aH,.sl none 280 d.aY],.box [.nil,.nil],.box [.own 3,.nil],.row 92 e]
 | .p1 a b c d e=>[.box [.nil,.nil],.box [.own 2,.own 3],.row 92 d,.row 280 e]
def step (J:Pt->aK):Pt->aK
 | .p0 a b c d e=>(cond (decide (c<b)) (m2 c (a.length:Int) (call (Z132.R (oT a (toNat c))) fun v1=>(cm (ff (((e.length:Int)+1)*24)) (J (.p0 a b (i64.wrap (c+1)) d (e++[[L.sl v1]])))))) (J (.p1 d.aY (d.aY.length:Int) 0 e [])))
 | .p1 a b c d e=>(cond (decide (c<b)) (m2 c (a.length:Int) (call (Z133.R (bL.at a (toNat c))) fun v1=>(cm (ff (((e.length:Int)+1)*600)) (J (.p1 a b (i64.wrap (c+1)) d (e++[(bL.enc v1)])))))) (ret ((⟨d,e⟩:bt):bt)))
def start (J:Pt->aK)(x0:bt):aK:=J (.p0 x0.aH (x0.aH.length:Int) 0 x0 [])
def live:Nat->Live:=fun i=>match i with | 3=>[(1,none),(2,none),(3,none),(10,none),(11,none),(12,none),(3,some 92)] | 8=>[(2,none),(3,none),(25,none),(26,none),(27,none),(3,some 92),(3,some 1048856)] | _=>[]
def md (a0:aj):aj:=a0
def gd (a0:aj):Prop:=(aj.Sm (2^21) a0)
def R:=RR gd md
def aq {a0}(h:gd a0):R (aj.r a0)=some (aj.r a0):=aR (a:=a0) h
def aW:=CN [.agg rU] (.agg f37) RT.dec R
def bB (a0)(hg:gd a0):∃n,start (iter step n) (aj.r a0)=ret (aj.r (md a0)):=by
 unfold gd at hg
 have H0:=hg
 unfold start md
 try simp only [SS]
 have Bh2:a0.aH.length<=maxLen:=(by
   have:=(H0.1).1
   try simp only [maxLen] at *
   omega)
 refine ex_eq (out:=(fun b:aj=>ret ((aj.r b):bt))) (iM (xs:=a0.aH) (z:=[]) (t:=fun s3:List (List aa)=>(⟨s3,a0.aY⟩:aj))) ?_
 refine dR (p:=Pt.p0 (a0.aH.map (dO aa.row)) (a0.aH.length:Int) 0 (aj.r a0) ([].map (dO aa.row))) fz ?_
 refine cu (pt:=fun (i1:Nat) (s3:List (List aa))=>Pt.p0 (a0.aH.map (dO aa.row)) (a0.aH.length:Int) (i1:Int) (aj.r a0) (s3.map (dO aa.row))) (s:=([]:List (List aa))) (out:=(fun b:aj=>ret ((aj.r b):bt))) (fun (i1:Nat) (s3:List (List aa))=>s3.length<=([]:List Int).length+1*i1) (fun J i1 s3 h2 hih2=>?_) (fun s3 hih2=>?_) (by simp)
 ·simp only [step,SS]
  have gr_:=hih2
  try simp only [LN] at gr_
  have bb_:=Bh2
  simp only [maxLen] at bb_
  have:=(H0.1).1
  refine bD.yes (by apply decide_eq_true;omega) ?_
  refine bD.yes aJ ?_
  refine bD.yes (aL h2) ?_
  refine cr (Z132.aq (bO.getD (z:=[]) H0.1 h2)) ?_
  try simp only [SS]
  refine bD.yes lm ?_
  refine bD.inl (by
    have g_:=hih2
    try simp only [LN] at g_ ⊢
    first | omega | (simp;done) | (simp;omega)) ?_
  rw [aI h2 Bh2]
  all_goals exact fz
 ·simp only [step,SS]
  have gr_:=hih2
  try simp only [LN] at gr_
  have:=(H0.1).1
  refine dF (by apply decide_eq_false;omega) ?_
  have Bh5:a0.aY.length<=maxLen:=(by
    have:=(H0.2).1
    try simp only [maxLen] at *
    omega)
  refine ex_eq (out:=(fun b:aj=>ret ((aj.r b):bt))) (iM (xs:=a0.aY) (z:=aB.zero) (t:=fun s6:List aB=>(⟨s3,s6⟩:aj))) ?_
  refine dR (p:=Pt.p1 (a0.aY.map aB.row) (a0.aY.length:Int) 0 (s3.map (dO aa.row)) ([].map aB.row)) fz ?_
  refine cu (pt:=fun (i4:Nat) (s6:List aB)=>Pt.p1 (a0.aY.map aB.row) (a0.aY.length:Int) (i4:Int) (s3.map (dO aa.row)) (s6.map aB.row)) (s:=([]:List aB)) (out:=(fun b:aj=>ret ((aj.r b):bt))) (fun (i4:Nat) (s6:List aB)=>s6.length<=([]:List Int).length+1*i4) (fun J i4 s6 h5 hih5=>?_) (fun s6 hih5=>?_) (by simp)
  ·simp only [step,SS]
   have gr_:=hih5
   try simp only [LN] at gr_
   have bb_:=Bh5
   simp only [maxLen] at bb_
   have:=(H0.2).1
   refine bD.yes (by apply decide_eq_true;omega) ?_
   refine bD.yes aJ ?_
   refine bD.yes (aL h5) ?_
   refine cr (Z133.aq (bO.getD (z:=aB.zero) H0.2 h5)) ?_
   try simp only [SS]
   refine bD.yes lm ?_
   refine bD.inl (by
     have g_:=hih5
     try simp only [LN] at g_ ⊢
     first | omega | (simp;done) | (simp;omega)) ?_
   rw [aI h5 Bh5]
   all_goals exact fz
  ·simp only [step,SS]
   have gr_:=hih5
   try simp only [LN] at gr_
   have:=(H0.2).1
   refine dF (by apply decide_eq_false;omega) ?_
   refine ⟨0,?_⟩
   all_goals exact fz
def af:cG 170 aW:=L1 40 pid cg bZ live step start mix aF bB (.cons Z132.af (.cons Z133.af .nil)) Tryz.func170
end Z134
namespace Z135
def F (x0 x1 x2:Int):aK:=(cond (decide (x1<=x0)) (ret ((decide (x0<=x2)):Bool)) bh)
def md (a0 a1 a2:Int):Bool:=(cond (decide (a1<=a0)) ((decide (a0<=a2)):Bool) (false:Bool))
def gd (a0 a1 a2:Int):Prop:=True
def R:=RR (p3 gd) (u3 md)
def aq {a0 a1 a2}(h:gd a0 a1 a2):R (a0,a1,a2)=some (md a0 a1 a2):=aR (a:=(a0,a1,a2)) h
def aW:=CN [pI,pI,pI] oB RT.dec R
def bB (a0)(a1)(a2)(hg:gd a0 a1 a2):F a0 a1 a2=ret (md a0 a1 a2):=by
 unfold F md
 try simp only [SS]
 refine ay ret (fun c1=>?_) (fun _=>rfl)
 all_goals exact fz
def af:cG 348 aW:=W3 15 F mix aF bB .nil Tryz.func348
def br (a0 a1 a2:Int):md a0 a1 a2=Z45.md a0 a1 a2:=by
 unfold md Z45.md
 first | rfl | (rw [Bool.eq_iff_iff];simp)
end Z135
namespace Z136
inductive Pt where
 | p0 (a:aE) (b c:Int)
def pid:Pt->Nat
 | .p0 ..=>2
def cg:Pt->List V
 | .p0 a b c=>[.str a,.int .i64 b,.int .i64 c]
def bZ:Pt->List aZ
 | .p0 a b c=>[]
def step (J:Pt->aK):Pt->aK
 | .p0 a b c=>(cond (decide (c<b)) (m2 c (a.size:Int) (cond (decide ((eB a (toNat c))>=97)) (cond (decide ((eB a (toNat c))<=122)) (J (.p0 a b (i64.wrap (c+1)))) (cond (decide ((eB a (toNat c))>=48)) (cond (decide ((eB a (toNat c))<=57)) (J (.p0 a b (i64.wrap (c+1)))) (cond ((eB a (toNat c))==45) (cond (decide (c>0)) (cond (!(decide (c<(i64.wrap ((a.size:Int) - 1))))) bh (J (.p0 a b (i64.wrap (c+1))))) bh) bh)) (cond ((eB a (toNat c))==45) (cond (decide (c>0)) (cond (!(decide (c<(i64.wrap ((a.size:Int) - 1))))) bh (J (.p0 a b (i64.wrap (c+1))))) bh) bh))) (cond (decide ((eB a (toNat c))>=48)) (cond (decide ((eB a (toNat c))<=57)) (J (.p0 a b (i64.wrap (c+1)))) (cond ((eB a (toNat c))==45) (cond (decide (c>0)) (cond (!(decide (c<(i64.wrap ((a.size:Int) - 1))))) bh (J (.p0 a b (i64.wrap (c+1))))) bh) bh)) (cond ((eB a (toNat c))==45) (cond (decide (c>0)) (cond (!(decide (c<(i64.wrap ((a.size:Int) - 1))))) bh (J (.p0 a b (i64.wrap (c+1))))) bh) bh)))) (call (Z135.R ((a.size:Int),1,8)) fun v1=>ret (v1:Bool)))
def start (J:Pt->aK)(x0:aE):aK:=J (.p0 x0 (x0.size:Int) 0)
def live:Nat->Live:=fun i=>match i with | 2=>[(0,none),(6,none),(7,none)] | _=>[]
def md (a0:aE):Bool:=(eC (S:=Unit) (β:=Bool) (fun (i1:Nat) (s3:Unit)=>(cond (decide ((eB a0 i1)>=97)) (cond (decide ((eB a0 i1)<=122)) (.inl ()) (cond (decide ((eB a0 i1)>=48)) (cond (decide ((eB a0 i1)<=57)) (.inl ()) (cond ((eB a0 i1)==45) (cond (decide ((i1:Int)>0)) (cond (!(decide ((i1:Int)<(i64.wrap ((a0.size:Int) - 1))))) (.inr (false:Bool)) (.inl ())) (.inr (false:Bool))) (.inr (false:Bool)))) (cond ((eB a0 i1)==45) (cond (decide ((i1:Int)>0)) (cond (!(decide ((i1:Int)<(i64.wrap ((a0.size:Int) - 1))))) (.inr (false:Bool)) (.inl ())) (.inr (false:Bool))) (.inr (false:Bool))))) (cond (decide ((eB a0 i1)>=48)) (cond (decide ((eB a0 i1)<=57)) (.inl ()) (cond ((eB a0 i1)==45) (cond (decide ((i1:Int)>0)) (cond (!(decide ((i1:Int)<(i64.wrap ((a0.size:Int) - 1))))) (.inr (false:Bool)) (.inl ())) (.inr (false:Bool))) (.inr (false:Bool)))) (cond ((eB a0 i1)==45) (cond (decide ((i1:Int)>0)) (cond (!(decide ((i1:Int)<(i64.wrap ((a0.size:Int) - 1))))) (.inr (false:Bool)) (.inl ())) (.inr (false:Bool))) (.inr (false:Bool)))))) (fun (s3:Unit)=>((Z135.md (a0.size:Int) 1 8):Bool)) a0.size 0 ())
def gd (a0:aE):Prop:=(a0.size<=(2^22))
def R:=RR gd md
def aq {a0}(h:gd a0):R a0=some (md a0):=aR (a:=a0) h
def aW:=CN [pS] oB RT.dec R
def bB (a0)(hg:gd a0):∃n,start (iter step n) a0=ret (md a0):=by
 unfold gd at hg
 have H0:=hg
 unfold start md
 try simp only [SS]
 have Bh2:a0.size<=maxLen:=(by
   have:=H0
   try simp only [maxLen] at *
   omega)
 refine dR (p:=Pt.p0 a0 (a0.size:Int) 0) fz ?_
 refine cu (pt:=fun (i1:Nat) (s3:Unit)=>Pt.p0 a0 (a0.size:Int) (i1:Int)) (s:=(():Unit)) (out:=ret) (fun _ _=>True) (fun J i1 s3 h2 hih2=>?_) (fun s3 hih2=>?_) trivial
 ·simp only [step,SS]
  have bb_:=Bh2
  simp only [maxLen] at bb_
  have:=H0
  refine bD.yes (by apply decide_eq_true;omega) ?_
  refine bD.yes aJ ?_
  refine bD.yes (aL h2) ?_
  refine bD.bif (fun c4=>?_) (fun c4=>?_)
  ·refine bD.bif (fun c5=>?_) (fun c5=>?_)
   ·refine bD.inl trivial ?_
    rw [aI h2 Bh2]
    all_goals exact fz
   ·refine bD.bif (fun c6=>?_) (fun c6=>?_)
    ·refine bD.bif (fun c7=>?_) (fun c7=>?_)
     ·refine bD.inl trivial ?_
      rw [aI h2 Bh2]
      all_goals exact fz
     ·refine bD.bif (fun c8=>?_) (fun _=>bD.inr rfl)
      refine bD.bif (fun c9=>?_) (fun _=>bD.inr rfl)
      refine bD.bif (fun _=>bD.inr rfl) (fun c10=>?_)
      refine bD.inl trivial ?_
      rw [aI h2 Bh2]
      all_goals exact fz
    ·refine bD.bif (fun c11=>?_) (fun _=>bD.inr rfl)
     refine bD.bif (fun c12=>?_) (fun _=>bD.inr rfl)
     refine bD.bif (fun _=>bD.inr rfl) (fun c13=>?_)
     refine bD.inl trivial ?_
     rw [aI h2 Bh2]
     all_goals exact fz
  ·refine bD.bif (fun c14=>?_) (fun c14=>?_)
   ·refine bD.bif (fun c15=>?_) (fun c15=>?_)
    ·refine bD.inl trivial ?_
     rw [aI h2 Bh2]
     all_goals exact fz
    ·refine bD.bif (fun c16=>?_) (fun _=>bD.inr rfl)
     refine bD.bif (fun c17=>?_) (fun _=>bD.inr rfl)
     refine bD.bif (fun _=>bD.inr rfl) (fun c18=>?_)
     refine bD.inl trivial ?_
     rw [aI h2 Bh2]
     all_goals exact fz
   ·refine bD.bif (fun c19=>?_) (fun _=>bD.inr rfl)
    refine bD.bif (fun c20=>?_) (fun _=>bD.inr rfl)
    refine bD.bif (fun _=>bD.inr rfl) (fun c21=>?_)
    refine bD.inl trivial ?_
    rw [aI h2 Bh2]
    all_goals exact fz
 ·simp only [step,SS]
  have:=H0
  refine dF (by apply decide_eq_false;omega) ?_
  refine cx (Z135.aq trivial) ?_
  refine ⟨0,?_⟩
  all_goals exact fz
def af:cG 311 aW:=L1 47 pid cg bZ live step start mix aF bB (.cons Z135.af .nil) Tryz.func311
def br (a0:aE):md a0=Z46.md a0:=by
 unfold md Z46.md
 by_cases hl:1<=a0.size/\a0.size<=8
 ·have e1:Z45.md (a0.size:Int) 1 8=true:=by simp [Z45.md];omega
  simp only [Z135.br,e1]
  have ew:i64.wrap ((a0.size:Int) - 1)=((a0.size - 1:Nat):Int):=by
   rw [Go.IntWalk.i64_in _ (by omega)];omega
  simp only [ew,cB]
  rw [Bool.eq_iff_iff]
  rw [jC (fun i=>(97<=eB a0 i/\eB a0 i<=122)∨(48<=eB a0 i/\eB a0 i<=57)∨(eB a0 i=45/\0<i/\i<a0.size - 1)) (fun i hi h=>by simp;grind) (fun i hi h=>by simp;grind)]
  have e2:=jC (n:=a0.size) (f:=fun (i4:Nat) (s6:Unit)=>(cond (decide ((eB a0 i4)<97)) (cond (decide ((eB a0 i4)<48)) (cond ((eB a0 i4) != 45) (.inr (false:Bool)) (.inl ())) (cond (decide ((eB a0 i4)>57)) (cond ((eB a0 i4) != 45) (.inr (false:Bool)) (.inl ())) (.inl ()))) (cond (decide ((eB a0 i4)>122)) (cond (decide ((eB a0 i4)<48)) (cond ((eB a0 i4) != 45) (.inr (false:Bool)) (.inl ())) (cond (decide ((eB a0 i4)>57)) (cond ((eB a0 i4) != 45) (.inr (false:Bool)) (.inl ())) (.inl ()))) (.inl ())))) (t:=fun _=>true)
   (fun i=>(97<=eB a0 i/\eB a0 i<=122)∨(48<=eB a0 i/\eB a0 i<=57)∨eB a0 i=45) (fun i hi h=>by simp;grind) (fun i hi h=>by simp;grind)
  have e3:∀b c d:Bool,(cond (!true) false (bif b then false else bif c then false else d))=true↔b=false/\c=false/\d=true:=by intro b c d;cases b<;>cases c<;>simp
  rw [e3,e2]
  simp only [beq_eq_false_iff_ne,ne_eq,and_true]
  constructor
  ·intro h
   refine ⟨fun h0=>?_,fun h0=>?_,fun i hi=>?_⟩
   ·have:=h 0 (by omega);omega
   ·have:=h (a0.size - 1) (by omega);omega
   ·have:=h i hi;omega
  ·intro ⟨h1,h2,h3⟩ i hi
   have:=h3 i hi
   by_cases h0:i=0
   ·subst h0;omega
   ·by_cases h9:i=a0.size - 1
    ·subst h9;omega
    ·omega
 ·have e1:Z45.md (a0.size:Int) 1 8=false:=by simp [Z45.md];omega
  simp only [Z135.br,e1]
  refine pQ ?_ _ _ _
  intro i s b h
  revert h
  simp only [Bool.cond_eq_ite]
  repeat' split
  all_goals (intro h;first | (cases h;rfl) | cases h)
end Z136
namespace Z137
def F (x0:aE):aK:=(call (Z136.R x0) fun v1=>ret ((!v1):Bool))
def md (a0:aE):Bool:=((!(Z136.md a0)):Bool)
def gd (a0:aE):Prop:=(a0.size<=(2^22))
def R:=RR gd md
def aq {a0}(h:gd a0):R a0=some (md a0):=aR (a:=a0) h
def aW:=CN [pS] oB RT.dec R
def bB (a0)(hg:gd a0):F a0=ret (md a0):=by
 unfold gd at hg
 have H0:=hg
 unfold F md
 try simp only [SS]
 refine ct (Z136.aq H0) ?_
 all_goals exact fz
def af:cG 410 aW:=W1 6 F mix aF bB (.cons Z136.af .nil) Tryz.func410
end Z137
namespace Z138
inductive Pt where
 | p0 (a:aD) (b c:Int)
def pid:Pt->Nat
 | .p0 ..=>2
def cg:Pt->List V
 | .p0 a b c=>[.sl none 9 a,.fn 410 [],.int .i64 b,.int .i64 c]
def bZ:Pt->List aZ
 | .p0 a b c=>[]
def step (J:Pt->aK):Pt->aK
 | .p0 a b c=>(cond (decide (c<b)) (m2 c (a.length:Int) (call (Z137.R (qk a (toNat c))) fun v1=>(cond v1 (ret (c:Int)) (J (.p0 a b (i64.wrap (c+1))))))) (ret ((-1):Int)))
def start (J:Pt->aK)(x0:aD):aK:=J (.p0 x0 (x0.length:Int) 0)
def live:Nat->Live:=fun i=>match i with | 2=>[(0,none),(1,none),(7,none),(8,none)] | _=>[]
def pats:List gk:=[.rd (.sl 9),.fn 410 []]
def res:RP:=.one (.rd (.int .i64))
abbrev E:Env:={ T:=assoc kB,G:=dD [(410,Z137.aW)],nt:=19 }
def step_eq (I:cD)(p:Pt):cV E live I (pid p) (bN Tryz.f474) (fD (live (pid p)) (cg p) (bZ p)) (cE E Tryz.f474 res)=step (fun q=>I (pid q) (cg q) (bZ q)) p:=by
 cases p<;>kernel_rfl
def start_eq (I:cD)(ls:List L):eT E live I (bN Tryz.f474) (cZ pats ls) (cE E Tryz.f474 res)=start (fun q=>I (pid q) (cg q) (bZ q)) (ls.headD .hole).aQ:=by kernel_rfl
def run_eq (n:Nat)(ls:List L):eN E live Tryz.f474 res n (cZ pats ls)=start (iter step n) (ls.headD .hole).aQ:=cy (id:=pid) (vs:=cg) (hs:=bZ) (step:=step) (start:=fun J=>start J (ls.headD .hole).aQ) step_eq (fun I=>start_eq I ls) n
def md (a0:List aE):Int:=(dJ (S:=Unit) (β:=Int) (fun (i1:Nat) (y1:aE) (s3:Unit)=>(cond (Z137.md y1) (.inr ((i1:Int):Int)) (.inl ()))) (fun (s3:Unit)=>((-1):Int)) 0 a0 ())
def gd (a0:List aE):Prop:=(bO (2^22) (fun y:aE=>y.size<=(2^22)) a0)
def acc (ls:List L):aD:=(ls.headD .hole).aQ
def R:(aD)->Option Int:=RR gd md
def aq {a0}(h:gd a0):R (a0.map cI)=some (md a0):=aR (a:=a0) h
def aW:ga:=CN pats res acc R
def bB (a0:List aE)(hg:gd a0):∃n,start (iter step n) (a0.map cI)=ret ((md a0):Int):=by
 unfold gd at hg
 have H0:=hg
 unfold start md
 try simp only [SS]
 have Bh2:a0.length<=maxLen:=(by
   have:=(H0).1
   try simp only [maxLen] at *
   omega)
 refine ex_eq (out:=ret) (dc (z:=⟨#[]⟩)) ?_
 refine dR (p:=Pt.p0 (a0.map cI) (a0.length:Int) 0) fz ?_
 refine cu (pt:=fun (i1:Nat) (s3:Unit)=>Pt.p0 (a0.map cI) (a0.length:Int) (i1:Int)) (s:=(():Unit)) (out:=ret) (fun _ _=>True) (fun J i1 s3 h2 hih2=>?_) (fun s3 hih2=>?_) trivial
 ·simp only [step,SS]
  have bb_:=Bh2
  simp only [maxLen] at bb_
  have:=(H0).1
  refine bD.yes (by apply decide_eq_true;omega) ?_
  refine bD.yes aJ ?_
  refine bD.yes (aL h2) ?_
  refine cr (Z137.aq (bO.getD (z:=⟨#[]⟩) H0 h2)) ?_
  refine bD.bif (fun c4=>?_) (fun c4=>?_)
  ·refine bD.inr ?_
   all_goals exact fz
  ·refine bD.inl trivial ?_
   rw [aI h2 Bh2]
   all_goals exact fz
 ·simp only [step,SS]
  have:=(H0).1
  refine dF (by apply decide_eq_false;omega) ?_
  refine ⟨0,?_⟩
  all_goals exact fz
def af:cG 474 aW:=VV (run:=fun n x=>start (iter step n) x) mix aF (.cons Z137.af .nil) Tryz.func474 (by kernel_rfl) run_eq (fun _ a _ _ hg=>bB a hg)
def fa (a0:List aE):-1<=md a0/\md a0<(a0.length:Int):=by
 unfold md
 refine gx ?_ _ _
 all_goals
  intro i x s b h
  revert h
  simp only [Bool.cond_eq_ite]
  repeat' split
  all_goals (intro h;first | (cases h;rfl) | cases h)
def idx_eq (a0:List aE):md a0=ju (fun y=>Z137.md y) 0 a0:=by
 unfold md
 exact ia
end Z138
namespace Z139
def F (x0:aD):aK:=(call (Z138.R x0) fun v1=>ret ((decide (v1>=0)):Bool))
def pats:List gk:=[.rd (.sl 9),.fn 410 []]
def res:RP:=.one (.rd (.bool))
def md (a0:List aE):Bool:=((decide ((Z138.md a0)>=0)):Bool)
def gd (a0:List aE):Prop:=(bO (2^22) (fun y:aE=>y.size<=(2^22)) a0)
def acc (ls:List L):aD:=(ls.headD .hole).aQ
def R:(aD)->Option Bool:=RR gd md
def aq {a0}(h:gd a0):R (a0.map cI)=some (md a0):=aR (a:=a0) h
def aW:ga:=CN pats res acc R
def bB (a0:List aE)(hg:gd a0):F (a0.map cI)=ret ((md a0):Bool):=by
 unfold gd at hg
 have H0:=hg
 unfold F md
 try simp only [SS]
 refine ct (Z138.aq H0) ?_
 have fv1_:=Z138.fa a0
 all_goals exact fz
def af:cG 409 aW:=VV (live:=fun _=>[]) (nt:=9) (run:=fun _ x=>F x) mix aF (.cons Z138.af .nil) Tryz.func409 (by kernel_rfl) (fun _ _=>by kernel_rfl) (fun _ a _ _ hg=>⟨0,bB a hg⟩)
def any_eq (a0:List aE):md a0=a0.any (fun y=>Z137.md y):=by
 unfold md
 rw [Z138.idx_eq]
 exact qQ
end Z139
namespace Z140
def F (x0:aD):aK:=(call (Z135.R ((x0.length:Int),1,4)) fun v1=>(cond v1 (call (Z139.R x0) fun v2=>ret ((!v2):Bool)) bh))
def md (a0:List aE):Bool:=(cond (Z135.md (a0.length:Int) 1 4) ((!(Z139.md a0)):Bool) (false:Bool))
def gd (a0:List aE):Prop:=(bO (2^22) (fun y:aE=>y.size<=(2^22)) a0)
def R:=RR gd md
def aq {a0}(h:gd a0):R (a0.map cI)=some (md a0):=aR (a:=a0) h
def aW:=CN [pL 9] oB RT.dec R
def bB (a0)(hg:gd a0):F (a0.map cI)=ret (md a0):=by
 unfold gd at hg
 have H0:=hg
 unfold F md
 try simp only [SS]
 refine ct (Z135.aq trivial) ?_
 refine ay ret (fun c1=>?_) (fun _=>rfl)
 refine ct (Z139.aq H0) ?_
 all_goals exact fz
def af:cG 298 aW:=W1 11 F mix aF bB (.cons Z135.af (.cons Z139.af .nil)) Tryz.func298
def br (a0:List aE):md a0=Z47.md a0:=by
 unfold md Z47.md
 rw [Z139.any_eq]
 have e:=lV (p:=fun y=>!(Z46.md y)) (b:=false) (c:=Z45.md (a0.length:Int) 1 4) (xs:=a0) (s:=())
 refine Eq.trans ?_ e.symm
 simp only [Z137.md,Z136.br,Z135.br]
 cases a0.any (fun y=>!(Z46.md y))<;>cases Z45.md (a0.length:Int) 1 4<;>rfl
end Z140
namespace Z141
def F (x0:Int):aK:=(call (Z135.R (x0,0,2147483646)) fun v1=>ret (v1:Bool))
def md (a0:Int):Bool:=((Z135.md a0 0 2147483646):Bool)
def gd (a0:Int):Prop:=True
def R:=RR gd md
def aq {a0}(h:gd a0):R a0=some (md a0):=aR (a:=a0) h
def aW:=CN [pI] oB RT.dec R
def bB (a0)(hg:gd a0):F a0=ret (md a0):=by
 unfold F md
 try simp only [SS]
 refine ct (Z135.aq trivial) ?_
 all_goals exact fz
def af:cG 312 aW:=W1 5 F mix aF bB (.cons Z135.af .nil) Tryz.func312
end Z141
namespace Z142
def F (x0:ck):aK:=(cond (decide (x0.cK>=0)) (cond (decide (x0.cK<=x0.cF)) (cond (decide (x0.cF<=100000)) (ret ((decide ((i64.wrap (x0.cF - x0.cK))<=200)):Bool)) bh) bh) bh)
def md (a0:aG):Bool:=(cond (decide (a0.cK>=0)) (cond (decide (a0.cK<=a0.cF)) (cond (decide (a0.cF<=100000)) ((decide ((i64.wrap (a0.cF - a0.cK))<=200)):Bool) (false:Bool)) (false:Bool)) (false:Bool))
def gd (a0:aG):Prop:=True
def R:=RR gd md
def aq {a0}(h:gd a0):R (aG.r a0)=some (md a0):=aR (a:=a0) h
def aW:=CN [.agg gi] oB RT.dec R
def bB (a0)(hg:gd a0):F (aG.r a0)=ret (md a0):=by
 unfold F md
 try simp only [SS]
 refine ay ret (fun c1=>?_) (fun _=>rfl)
 refine ay ret (fun c2=>?_) (fun _=>rfl)
 refine ay ret (fun c3=>?_) (fun _=>rfl)
 all_goals exact fz
def af:cG 528 aW:=W1 26 F mix aF bB .nil Tryz.func528
end Z142
namespace Z143
inductive Pt where
 | p0 (a:aD) (b c:Int)
def pid:Pt->Nat
 | .p0 ..=>2
def cg:Pt->List V
 | .p0 a b c=>[.sl none 3 a,.int .i64 b,.int .i64 c]
def bZ:Pt->List aZ
 | .p0 a b c=>[]
def step (J:Pt->aK):Pt->aK
 | .p0 a b c=>(cond (decide (c<b)) (cond (decide (c>0)) (m2 c (a.length:Int) (cm (decide ((0:Int)<=(i64.wrap (c - 1)))) (cm (decide ((i64.wrap (c - 1))<(a.length:Int))) (cond (decide ((jG a (toNat c))<=(jG a (toNat (i64.wrap (c - 1)))))) bh (J (.p0 a b (i64.wrap (c+1)))))))) (J (.p0 a b (i64.wrap (c+1))))) eF)
def start (J:Pt->aK)(x0:aD):aK:=J (.p0 x0 (x0.length:Int) 0)
def live:Nat->Live:=fun i=>match i with | 2=>[(0,none),(5,none),(6,none)] | _=>[]
def md (a0:List Int):Bool:=(dJ (S:=Unit) (β:=Bool) (fun (i1:Nat) (y1:Int) (s3:Unit)=>(cond (decide ((i1:Int)>0)) (cond (decide (y1<=(a0.getD (toNat (i64.wrap ((i1:Int) - 1))) 0))) (.inr (false:Bool)) (.inl ())) (.inl ()))) (fun (s3:Unit)=>(true:Bool)) 0 a0 ())
def gd (a0:List Int):Prop:=(bO (2^38) (fun y:Int=>True) a0)
def R:=RR gd md
def aq {a0}(h:gd a0):R (a0.map bu)=some (md a0):=aR (a:=a0) h
def aW:=CN [pL 3] oB RT.dec R
def bB (a0)(hg:gd a0):∃n,start (iter step n) (a0.map bu)=ret (md a0):=by
 unfold gd at hg
 have H0:=hg
 unfold start md
 try simp only [SS]
 have Bh2:a0.length<=maxLen:=(by
   have:=(H0).1
   try simp only [maxLen] at *
   omega)
 refine ex_eq (out:=ret) (dc (z:=0)) ?_
 refine dR (p:=Pt.p0 (a0.map bu) (a0.length:Int) 0) fz ?_
 refine cu (pt:=fun (i1:Nat) (s3:Unit)=>Pt.p0 (a0.map bu) (a0.length:Int) (i1:Int)) (s:=(():Unit)) (out:=ret) (fun _ _=>True) (fun J i1 s3 h2 hih2=>?_) (fun s3 hih2=>?_) trivial
 ·simp only [step,SS]
  have bb_:=Bh2
  simp only [maxLen] at bb_
  have:=(H0).1
  refine bD.yes (by apply decide_eq_true;omega) ?_
  refine bD.bif (fun c4=>?_) (fun c4=>?_)
  ·have dc4:=c4
   try simp only [DC] at dc4
   refine bD.yes aJ ?_
   refine bD.yes (aL h2) ?_
   refine bD.yes dt ?_
   refine bD.yes (have:=(H0).1;dt) ?_
   refine bD.bif (fun _=>bD.inr rfl) (fun c5=>?_)
   refine bD.inl trivial ?_
   rw [aI h2 Bh2]
   all_goals exact fz
  ·refine bD.inl trivial ?_
   rw [aI h2 Bh2]
   all_goals exact fz
 ·simp only [step,SS]
  have:=(H0).1
  refine dF (by apply decide_eq_false;omega) ?_
  refine ⟨0,?_⟩
  all_goals exact fz
def af:cG 357 aW:=L1 24 pid cg bZ live step start mix aF bB .nil Tryz.func357
end Z143
namespace Z144
def F (x0:Int):aK:=(call (Z135.R (x0,1,99)) fun v1=>ret (v1:Bool))
def md (a0:Int):Bool:=((Z135.md a0 1 99):Bool)
def gd (a0:Int):Prop:=True
def R:=RR gd md
def aq {a0}(h:gd a0):R a0=some (md a0):=aR (a:=a0) h
def aW:=CN [pI] oB RT.dec R
def bB (a0)(hg:gd a0):F a0=ret (md a0):=by
 unfold F md
 try simp only [SS]
 refine ct (Z135.aq trivial) ?_
 all_goals exact fz
def af:cG 358 aW:=W1 5 F mix aF bB (.cons Z135.af .nil) Tryz.func358
end Z144
namespace Z145
def F (x0:bF):aK:=(call (Z135.R ((x0.aX.length:Int),1,4)) fun v1=>(cond v1 (call (Z143.R x0.aX) fun v2=>(cond v2 (cm (decide ((0:Int)<(x0.aX.length:Int))) (call (Z144.R (jG x0.aX 0)) fun v3=>(cond v3 (cm (decide ((0:Int)<=(i64.wrap ((x0.aX.length:Int) - 1)))) (cm (decide ((i64.wrap ((x0.aX.length:Int) - 1))<(x0.aX.length:Int))) (call (Z144.R (jG x0.aX (toNat (i64.wrap ((x0.aX.length:Int) - 1))))) fun v4=>(cond v4 (call (Z135.R (x0.cH,1,(x0.aX.length:Int))) fun v5=>ret (v5:Bool)) bh)))) bh))) bh)) bh))
def md (a0:aO):Bool:=(cond (Z135.md (a0.aX.length:Int) 1 4) (cond (Z143.md a0.aX) (cond (Z144.md (a0.aX.getD 0 0)) (cond (Z144.md (a0.aX.getD (toNat (i64.wrap ((a0.aX.length:Int) - 1))) 0)) ((Z135.md a0.cH 1 (a0.aX.length:Int)):Bool) (false:Bool)) (false:Bool)) (false:Bool)) (false:Bool))
def gd (a0:aO):Prop:=(aO.Sm (2^21) a0)
def R:=RR gd md
def aq {a0}(h:gd a0):R (aO.r a0)=some (md a0):=aR (a:=a0) h
def aW:=CN [.agg pZ] oB RT.dec R
def bB (a0)(hg:gd a0):F (aO.r a0)=ret (md a0):=by
 unfold gd at hg
 have H0:=hg
 unfold F md
 try simp only [SS]
 refine ct (Z135.aq trivial) ?_
 refine ay ret (fun c1=>?_) (fun _=>rfl)
 have Dc1:=c1
 try simp [Z135.md] at Dc1
 refine ct (Z143.aq (H0.mono (by decide) (fun x hx=>trivial))) ?_
 refine ay ret (fun c2=>?_) (fun _=>rfl)
 refine ak (have:=(H0).1;dt) ?_
 refine ct (Z144.aq trivial) ?_
 refine ay ret (fun c3=>?_) (fun _=>rfl)
 refine ak (have:=(H0).1;dt) ?_
 refine ak (have:=(H0).1;dt) ?_
 refine ct (Z144.aq trivial) ?_
 refine ay ret (fun c4=>?_) (fun _=>rfl)
 refine ct (Z135.aq trivial) ?_
 all_goals exact fz
def af:cG 232 aW:=W1 38 F mix aF bB (.cons Z135.af (.cons Z143.af (.cons Z144.af .nil))) Tryz.func232
-- uses Z49
def BJ {l:List Int}(h:∀i:Nat,i<l.length->0<i->l.getD (i - 1) 0<l.getD i 0):∀(k i:Nat),i+k<l.length->l.getD i 0<=l.getD (i+k) 0
 | 0,i,_=>Int.le_refl _
 | k+1,i,hi=>by
  have h1:=BJ h k i (by omega)
  have h2:=h (i+(k+1)) hi (by omega)
  rw [show i+(k+1) - 1=i+k by omega] at h2
  omega
def br (a0:aO):md a0=Z49.md a0:=by
 unfold md Z49.md Z143.md
 simp only [Z135.br,Z144.md]
 by_cases hl:1<=a0.aX.length/\a0.aX.length<=4
 ·have e1:Z45.md (a0.aX.length:Int) 1 4=true:=by simp [Z45.md];omega
  rw [e1]
  have wp:∀i:Nat,0<i->i<=4->toNat (i64.wrap ((i:Int) - 1))=i - 1:=fun i h1 h2=>by
   rw [Go.IntWalk.i64_in _ (by omega)];omega
  rw [wp _ (by omega) (by omega)]
  generalize a0.cH=n
  generalize a0.aX=l at *
  have i1:∀x a b:Int,Z45.md x a b=true↔a<=x/\x<=b:=fun x a b=>by simp [Z45.md]
  have i2:∀x a b:Int,Z45.md x a b=false↔¬(a<=x/\x<=b):=fun x a b=>by rw [<-i1];simp
  have w2:∀i:Nat,i<l.length->0<i->toNat (i64.wrap ((i:Int) - 1))=i - 1:=fun i h1 h2=>wp i h2 (by omega)
  rw [Bool.eq_iff_iff,<-dc (z:=0),<-dc (z:=0)]
  have e3:∀a b c d:Bool,(cond true (cond a (cond b (cond c d false) false) false) false)=true↔a=true/\b=true/\c=true/\d=true:=by
   intro a b c d;cases a<;>cases b<;>cases c<;>simp
  have pos:∀i:Nat,0<i->decide ((i:Int)>0)=true:=fun i h=>by simpa using h
  have npos:∀i:Nat,¬0<i->decide ((i:Int)>0)=false:=fun i h=>by simpa using h
  rw [e3]
  rw [jC (fun i=>0<i->l.getD (i - 1) 0<l.getD i 0) (fun i hi h=>?_) (fun i hi h=>?_),jC (fun i=>(1<=l.getD i 0/\l.getD i 0<=99)/\(0<i->l.getD (i - 1) 0<l.getD i 0)) (fun i hi h=>?_) (fun i hi h=>?_)]
  ·simp only [i1,and_true,bq]
   constructor
   ·rintro ⟨h1,⟨h2,h3⟩,⟨h4,h5⟩,h6⟩
    refine ⟨fun i hi=>⟨⟨?_,?_⟩,h1 i hi⟩,h6⟩
    ·have:=BJ h1 i 0 (by omega)
     rw [Nat.zero_add] at this;omega
    ·have:=BJ h1 (l.length - 1 - i) i (by omega)
     rw [show i+(l.length - 1 - i)=l.length - 1 by omega] at this;omega
   ·rintro ⟨h1,h6⟩
    exact ⟨fun i hi=>(h1 i hi).2,(h1 0 (by omega)).1,(h1 (l.length - 1) (by omega)).1,h6⟩
  ·have e2:=(i1 (l.getD i 0) 1 99).2 h.1
   rw [e2]
   by_cases h0:0<i
   ·have:=h.2 h0
    rw [pos i h0,w2 i hi h0,decide_eq_false (by omega)];rfl
   ·rw [npos i h0];rfl
  ·by_cases h1:1<=l.getD i 0/\l.getD i 0<=99
   ·have e2:=(i1 (l.getD i 0) 1 99).2 h1
    have h0:0<i:=Classical.byContradiction fun hc=>h ⟨h1,fun h=>(hc h).elim⟩
    have h2:¬l.getD (i - 1) 0<l.getD i 0:=fun hc=>h ⟨h1,fun _=>hc⟩
    rw [e2,pos i h0,w2 i hi h0,decide_eq_true (by omega)];rfl
   ·rw [(i2 _ _ _).2 h1];rfl
  ·by_cases h0:0<i
   ·have:=h h0
    rw [pos i h0,w2 i hi h0,decide_eq_false (by omega)];rfl
   ·rw [npos i h0];rfl
  ·have h0:0<i:=Classical.byContradiction fun hc=>h fun h=>(hc h).elim
   have h2:¬l.getD (i - 1) 0<l.getD i 0:=fun hc=>h fun _=>hc
   rw [pos i h0,w2 i hi h0,decide_eq_true (by omega)];rfl
 ·have e1:Z45.md (a0.aX.length:Int) 1 4=false:=by simp [Z45.md];omega
  rw [e1]
  simp only [bA]
  symm
  exact lB (by
   intro i x s b h
   revert h
   simp only [Bool.cond_eq_ite]
   repeat' split
   all_goals (intro h;first | (cases h;rfl) | cases h)) _ _ _
end Z145
namespace Z146
def F (x0:bF):aK:=(cond (x0.cH==0) (ret (((x0.aX.length:Int)==0):Bool)) bh)
def md (a0:aO):Bool:=(cond (a0.cH==0) (((a0.aX.length:Int)==0):Bool) (false:Bool))
def gd (a0:aO):Prop:=True
def R:=RR gd md
def aq {a0}(h:gd a0):R (aO.r a0)=some (md a0):=aR (a:=a0) h
def aW:=CN [.agg pZ] oB RT.dec R
def bB (a0)(hg:gd a0):F (aO.r a0)=ret (md a0):=by
 unfold F md
 try simp only [SS]
 refine ay ret (fun c1=>?_) (fun _=>rfl)
 all_goals exact fz
def af:cG 531 aW:=W1 12 F mix aF bB .nil Tryz.func531
def br (a0:aO):md a0=Z50.md a0:=by
 unfold md Z50.md
 first
 | (simp only [id];done)
 | (simp only [id];rfl)
 | rfl
end Z146
namespace Z147
def F (x0:bF):aK:=(call (Z146.R x0) fun v1=>(cond v1 eF (call (Z145.R x0) fun v2=>ret (v2:Bool))))
def md (a0:aO):Bool:=(cond (Z146.md a0) (true:Bool) ((Z145.md a0):Bool))
def gd (a0:aO):Prop:=(aO.Sm (2^21) a0)
def R:=RR gd md
def aq {a0}(h:gd a0):R (aO.r a0)=some (md a0):=aR (a:=a0) h
def aW:=CN [.agg pZ] oB RT.dec R
def bB (a0)(hg:gd a0):F (aO.r a0)=ret (md a0):=by
 unfold gd at hg
 have H0:=hg
 unfold F md
 try simp only [SS]
 refine ct (Z146.aq trivial) ?_
 refine ay ret (fun _=>rfl) (fun c1=>?_)
 refine ct (Z145.aq H0) ?_
 all_goals exact fz
def af:cG 529 aW:=W1 9 F mix aF bB (.cons Z146.af (.cons Z145.af .nil)) Tryz.func529
end Z147
namespace Z148
def F (x0:Int)(x1:bF):aK:=(call (Z146.R x1) fun v1=>(cond v1 (ret ((x0==0):Bool)) (call (Z135.R (x0,1,500)) fun v2=>ret (v2:Bool))))
def md (a0:Int)(a1:aO):Bool:=(cond (Z146.md a1) ((a0==0):Bool) ((Z135.md a0 1 500):Bool))
def gd (a0:Int)(a1:aO):Prop:=True
def R:=RR (p2 gd) (u2 md)
def aq {a0 a1}(h:gd a0 a1):R (a0,(aO.r a1))=some (md a0 a1):=aR (a:=(a0,a1)) h
def aW:=CN [pI,.agg pZ] oB RT.dec R
def bB (a0)(a1)(hg:gd a0 a1):F a0 (aO.r a1)=ret (md a0 a1):=by
 unfold F md
 try simp only [SS]
 refine ct (Z146.aq trivial) ?_
 refine ay ret (fun c1=>?_) (fun c1=>?_)
 ·all_goals exact fz
 ·refine ct (Z135.aq trivial) ?_
  all_goals exact fz
def af:cG 530 aW:=W2 11 F mix aF bB (.cons Z146.af (.cons Z135.af .nil)) Tryz.func530
end Z148
namespace Z149
def F (x0:ck):aK:=(call (Z141.R x0.bz) fun v1=>(cond v1 (call (Z141.R x0.dm) fun v2=>(cond v2 (call (Z141.R x0.dH) fun v3=>(cond v3 (call (Z135.R (x0.cN,0,200)) fun v4=>(cond v4 (call (Z135.R (x0.bM,1,3)) fun v5=>(cond v5 (call (Z142.R x0) fun v6=>(cond v6 (call (Z135.R (x0.cz,0,12)) fun v7=>(cond v7 (call (Z145.R x0.bQ) fun v8=>(cond v8 (call (Z147.R x0.bE) fun v9=>(cond v9 (call (Z147.R x0.bC) fun v10=>(cond v10 (call (Z148.R (x0.dw,x0.bE)) fun v11=>(cond v11 (cond x0.bG (call (Z146.R x0.bC) fun v12=>ret ((!v12):Bool)) eF) bh)) bh)) bh)) bh)) bh)) bh)) bh)) bh)) bh)) bh)) bh))
def md (a0:aG):Bool:=(cond (Z141.md a0.bz) (cond (Z141.md a0.dm) (cond (Z141.md a0.dH) (cond (Z135.md a0.cN 0 200) (cond (Z135.md a0.bM 1 3) (cond (Z142.md a0) (cond (Z135.md a0.cz 0 12) (cond (Z145.md a0.bQ) (cond (Z147.md a0.bE) (cond (Z147.md a0.bC) (cond (Z148.md a0.dw a0.bE) (cond a0.bG ((!(Z146.md a0.bC)):Bool) (true:Bool)) (false:Bool)) (false:Bool)) (false:Bool)) (false:Bool)) (false:Bool)) (false:Bool)) (false:Bool)) (false:Bool)) (false:Bool)) (false:Bool)) (false:Bool))
def gd (a0:aG):Prop:=(aG.Sm (2^21) a0)
def R:=RR gd md
def aq {a0}(h:gd a0):R (aG.r a0)=some (md a0):=aR (a:=a0) h
def aW:=CN [.agg gi] oB RT.dec R
def bB (a0)(hg:gd a0):F (aG.r a0)=ret (md a0):=by
 unfold gd at hg
 have H0:=hg
 unfold F md
 try simp only [SS]
 refine ct (Z141.aq trivial) ?_
 refine ay ret (fun c1=>?_) (fun _=>rfl)
 refine ct (Z141.aq trivial) ?_
 refine ay ret (fun c2=>?_) (fun _=>rfl)
 refine ct (Z141.aq trivial) ?_
 refine ay ret (fun c3=>?_) (fun _=>rfl)
 refine ct (Z135.aq trivial) ?_
 refine ay ret (fun c4=>?_) (fun _=>rfl)
 refine ct (Z135.aq trivial) ?_
 refine ay ret (fun c5=>?_) (fun _=>rfl)
 refine ct (Z142.aq trivial) ?_
 refine ay ret (fun c6=>?_) (fun _=>rfl)
 refine ct (Z135.aq trivial) ?_
 refine ay ret (fun c7=>?_) (fun _=>rfl)
 refine ct (Z145.aq H0.1) ?_
 refine ay ret (fun c8=>?_) (fun _=>rfl)
 refine ct (Z147.aq H0.2.1) ?_
 refine ay ret (fun c9=>?_) (fun _=>rfl)
 refine ct (Z147.aq H0.2.2) ?_
 refine ay ret (fun c10=>?_) (fun _=>rfl)
 refine ct (Z148.aq trivial) ?_
 refine ay ret (fun c11=>?_) (fun _=>rfl)
 refine ay ret (fun c12=>?_) (fun _=>rfl)
 refine ct (Z146.aq trivial) ?_
 all_goals exact fz
def af:cG 454 aW:=W1 67 F mix aF bB (.cons Z141.af (.cons Z135.af (.cons Z142.af (.cons Z145.af (.cons Z147.af (.cons Z148.af (.cons Z146.af .nil))))))) Tryz.func454
def br (a0:aG):md a0=Z51.md a0:=by
 unfold md Z51.md
 simp only [Z145.br,Z135.br,Z141.md,Z147.md,Z148.md,Z146.br]
 have hs:Z142.md a0=(Z45.md a0.cK 0 100000&&(Z45.md a0.cF a0.cK 100000&&!decide ((i64.wrap (a0.cF - a0.cK))>200))):=by
  rw [Bool.eq_iff_iff]
  simp [Z142.md,Z45.md]
  omega
 have hk:Z49.md a0.bC=true->Z50.md a0.bC=false:=fun h=>by
  have:=Z49.tr h
  have e:((a0.bC.aX.length:Int)==0)=false:=beq_eq_false_iff_ne.2 (by omega)
  unfold Z50.md
  rw [e]
  cases a0.bC.cH==0<;>rfl
 rw [hs]
 revert hk
 simp only [Br,Af,Bool.and_assoc]
 generalize Z45.md a0.bz 0 2147483646=b1
 generalize Z45.md a0.dm 0 2147483646=b2
 generalize Z45.md a0.dH 0 2147483646=b3
 generalize Z45.md a0.cN 0 200=b4
 generalize Z45.md a0.bM 1 3=b5
 generalize Z45.md a0.cK 0 100000=b6
 generalize Z45.md a0.cF a0.cK 100000=b7
 generalize decide ((i64.wrap (a0.cF - a0.cK))>200)=b8
 generalize Z45.md a0.cz 0 12=b9
 generalize Z49.md a0.bQ=b10
 generalize Z49.md a0.bE=kh
 generalize Z50.md a0.bE=nh
 generalize Z49.md a0.bC=kj
 generalize Z50.md a0.bC=nj
 generalize Z45.md a0.dw 1 500=lw
 have hw:(a0.dw != 0)=!(a0.dw==0):=rfl
 rw [hw]
 generalize (a0.dw==0)=w0
 generalize a0.bG=fz
 intro hk
 cases b1;· rfl
 cases b2;· rfl
 cases b3;· rfl
 cases b4;· rfl
 cases b5;· rfl
 cases b6;· rfl
 cases b7;· rfl
 cases b8;rotate_left;· rfl
 cases b9;· rfl
 cases b10;· rfl
 revert hk
 revert kh nh kj nj lw w0 fz
 decide
end Z149
namespace Z150
def F (x0:bF):aK:=(cm (ff (((2:Int)+(x0.aX.length:Int))*8)) (ret (([[L.int x0.cH],[L.int (x0.aX.length:Int)]]++x0.aX):aD)))
def md (a0:aO):List Int:=([a0.cH,(a0.aX.length:Int)]++a0.aX)
def gd (a0:aO):Prop:=(aO.Sm (2^21) a0)
def R:=RR gd md
def aq {a0}(h:gd a0):R (aO.r a0)=some ((md a0).map bu):=aR (a:=a0) h
def aW:=CN [.agg pZ] (oL 3) RT.dec R
def bB (a0)(hg:gd a0):F (aO.r a0)=ret ((md a0).map bu):=by
 unfold gd at hg
 have H0:=hg
 unfold F md
 try simp only [SS]
 refine ak (have:=(H0).1;lm) ?_
 all_goals exact fz
def af:cG 459 aW:=W1 12 F mix aF bB .nil Tryz.func459
def len (a0:aO):(md a0).length=2+a0.aX.length:=by simp [md];omega
def br (a0:aO):md a0=Z52.md a0:=by
 unfold md Z52.md
 first
 | (simp only [id];done)
 | (simp only [id];rfl)
 | rfl
end Z150
namespace Z151
def F (x0 x1:Int):aK:=(call (Z135.R (x1,1,1000000000000)) fun v1=>(cond (!v1) (ret (0:Int)) (cond (decide (x1=0)) none (cond (decide (x1=0)) none (ret ((Int.tmod (i64.wrap ((Int.tmod x0 x1)+x1)) x1):Int))))))
def md (a0 a1:Int):Int:=(cond (!(Z135.md a1 1 1000000000000)) (0:Int) ((Int.tmod (i64.wrap ((Int.tmod a0 a1)+a1)) a1):Int))
def gd (a0 a1:Int):Prop:=True
def R:=RR (p2 gd) (u2 md)
def aq {a0 a1}(h:gd a0 a1):R (a0,a1)=some (md a0 a1):=aR (a:=(a0,a1)) h
def aW:=CN [pI,pI] oI RT.dec R
def bB (a0)(a1)(hg:gd a0 a1):F a0 a1=ret (md a0 a1):=by
 unfold F md
 try simp only [SS]
 refine ct (Z135.aq trivial) ?_
 refine ay ret (fun _=>rfl) (fun c1=>?_)
 have dc1:=c1
 try simp only [DC] at dc1
 have Dc1:=c1
 try simp [Z135.md] at Dc1
 refine cM df ?_
 refine cM df ?_
 all_goals exact fz
def af:cG 572 aW:=W2 15 F mix aF bB (.cons Z135.af .nil) Tryz.func572
def br (a0 a1:Int):md a0 a1=Z53.md a0 a1:=by
 unfold md Z53.md
 first
 | (simp only [Z135.br];done)
 | (simp only [Z135.br];rfl)
 | rfl
end Z151
namespace Z152
inductive Pt where
 | p0 (a:Int) (b:aD) (c d:Int)
def pid:Pt->Nat
 | .p0 ..=>3
def cg:Pt->List V
 | .p0 a b c d=>[.int .i64 a,.sl none 3 b,.int .i64 c,.int .i64 d]
def bZ:Pt->List aZ
 | .p0 a b c d=>[]
def step (J:Pt->aK):Pt->aK
 | .p0 a b c d=>(cond (decide (d<c)) (m2 d (b.length:Int) (call (Z151.R ((jG b (toNat d)),2147483647)) fun v1=>J (.p0 (Int.tmod (i64.wrap ((i64.wrap ((i64.wrap (a*1000003))+v1))+13)) 2147483647) b c (i64.wrap (d+1))))) (ret (a:Int)))
def start (J:Pt->aK)(x0:aD):aK:=J (.p0 11 x0 (x0.length:Int) 0)
def live:Nat->Live:=fun i=>match i with | 3=>[(3,none),(6,none),(7,none),(8,none)] | _=>[]
def md (a0:List Int):Int:=(dW (S:=Int) (β:=Int) (fun (y1:Int) (s3:Int)=>(.inl (Int.tmod (i64.wrap ((i64.wrap ((i64.wrap (s3*1000003))+(Z151.md y1 2147483647)))+13)) 2147483647))) (fun (s3:Int)=>(s3:Int)) a0 11)
def gd (a0:List Int):Prop:=(bO (2^43) (fun y:Int=>True) a0)
def R:=RR gd md
def aq {a0}(h:gd a0):R (a0.map bu)=some (md a0):=aR (a:=a0) h
def aW:=CN [pL 3] oI RT.dec R
def bB (a0)(hg:gd a0):∃n,start (iter step n) (a0.map bu)=ret (md a0):=by
 unfold gd at hg
 have H0:=hg
 unfold start md
 try simp only [SS]
 have Bh2:a0.length<=maxLen:=(by
   have:=(H0).1
   try simp only [maxLen] at *
   omega)
 refine ex_eq (out:=ret) (eJ (z:=0)) ?_
 refine dR (p:=Pt.p0 11 (a0.map bu) (a0.length:Int) 0) fz ?_
 refine cu (pt:=fun (i1:Nat) (s3:Int)=>Pt.p0 s3 (a0.map bu) (a0.length:Int) (i1:Int)) (s:=(11:Int)) (out:=ret) (fun _ _=>True) (fun J i1 s3 h2 hih2=>?_) (fun s3 hih2=>?_) trivial
 ·simp only [step,SS]
  have bb_:=Bh2
  simp only [maxLen] at bb_
  have:=(H0).1
  refine bD.yes (by apply decide_eq_true;omega) ?_
  refine bD.yes aJ ?_
  refine bD.yes (aL h2) ?_
  refine cr (Z151.aq trivial) ?_
  refine bD.inl trivial ?_
  rw [aI h2 Bh2]
  all_goals exact fz
 ·simp only [step,SS]
  have:=(H0).1
  refine dF (by apply decide_eq_false;omega) ?_
  refine ⟨0,?_⟩
  all_goals exact fz
def af:cG 532 aW:=L1 21 pid cg bZ live step start mix aF bB (.cons Z151.af .nil) Tryz.func532
def br (a0:List Int):md a0=Z54.md a0:=by
 unfold md Z54.md
 first
 | (simp only [Z151.br];done)
 | (simp only [Z151.br];rfl)
 | rfl
end Z152
namespace Z153
def F (x0:bF)(x1:Int):aK:=(call (Z150.R x0) fun v1=>(cm (ff (((2:Int)+(v1.length:Int))*8)) (call (Z152.R ([[L.int 239],[L.int x1]]++v1)) fun v2=>ret (v2:Int))))
def md (a0:aO)(a1:Int):Int:=((Z152.md ([239,a1]++(Z150.md a0))):Int)
def gd (a0:aO)(a1:Int):Prop:=(aO.Sm (2^21) a0)
def R:=RR (p2 gd) (u2 md)
def aq {a0 a1}(h:gd a0 a1):R ((aO.r a0),a1)=some (md a0 a1):=aR (a:=(a0,a1)) h
def aW:=CN [.agg pZ,pI] oI RT.dec R
def bB (a0)(a1)(hg:gd a0 a1):F (aO.r a0) a1=ret (md a0 a1):=by
 unfold gd at hg
 have H0:=hg
 unfold F md
 try simp only [SS]
 refine ct (Z150.aq H0) ?_
 try simp only [SS]
 refine ak (have:=Z150.len a0;have:=(H0).1;lm) ?_
 refine bg (Z152.md ([239,a1]++(Z150.md a0))) (rq (Z152.aq (a0:=([239,a1]++(Z150.md a0))) ⟨(have:=Z150.len a0;have:=(H0).1;om),fun _ _=>trivial⟩)) ?_
 all_goals exact fz
def af:cG 455 aW:=W2 11 F mix aF bB (.cons Z150.af (.cons Z152.af .nil)) Tryz.func455
def br (a0:aO)(a1:Int):md a0 a1=Z55.md a0 a1:=by
 unfold md Z55.md
 first
 | (simp only [Z150.br,Z152.br];done)
 | (simp only [Z150.br,Z152.br];rfl)
 | rfl
end Z153
namespace Z154
def F (x0:Bool):aK:=(cond x0 (ret (1:Int)) (ret (0:Int)))
def md (a0:Bool):Int:=(cond a0 (1:Int) (0:Int))
def gd (a0:Bool):Prop:=True
def R:=RR gd md
def aq {a0}(h:gd a0):R a0=some (md a0):=aR (a:=a0) h
def aW:=CN [pB] oI RT.dec R
def bB (a0)(hg:gd a0):F a0=ret (md a0):=by
 unfold F md
 try simp only [SS]
 refine ay ret (fun _=>rfl) (fun _=>rfl)
def af:cG 237 aW:=W1 4 F mix aF bB .nil Tryz.func237
end Z154
namespace Z155
set_option maxHeartbeats 1000000 in
set_option maxRecDepth 100000 in
open Go.RowKit in
def AG (b:Option Addr)(w:World):Calls Tryz.prog 538 #[.slice b 0 0,.int .i64 0] w fun e w'=>e=.returned (.slice b 0 0)/\w'=w:=by
 go_enter Tryz.func538,Tryz.ntmps538
 go_wp2
 go_ret
 exact ⟨rfl,rfl⟩
def Bi:Tryz.t3.size=1:=by kernel_rfl
def yB:Tryz.t3.bytes=8:=by kernel_rfl
set_option maxHeartbeats 1000000 in
set_option maxRecDepth 100000 in
open Go.RowKit in
def Aq (b:Option Addr)(n:Nat)(w:World)(h0:0<n)(h1:n*8<=140737488355328):Calls Tryz.prog 538 #[.slice b 0 0,.int .i64 n] w fun e w'=>e=.returned (.slice (some ⟨w.heap.size,0,none⟩) 0 (grownCap w n 0 3))/\w'=(w.drew.alloc (.cells (Builtin.zeroCells #[.int .i64 0] n++Builtin.zeroCells #[.int .i64 0] (grownCap w n 0 3 - n)) 3)):=by
 have hp:(0:Int)<n:=by omega
 have hnn:¬((n:Int)<0):=by omega
 have hold:(Builtin.firstCells Tryz.t3.size 0 (.slice b 0 0)).run Tryz.prog w.drew=.ok ([]:List Value).toArray w.drew:=by
  cases b with
  | none=>exact run_firstCells_none _ _ _ _ _
  | some b=>exact run_firstCells_some _ _ _ _ _ _ [] (by simp) (fun j v hj=>by simp at hj)
 have H:=fun ty=>Lib.run_append_grow_zeros (P:=Tryz.prog) w 62 3 ty 3 Tryz.t3 (.int .i64 0) .i64 .i64 (by kernel_rfl) (by kernel_rfl) (by kernel_rfl) (by kernel_rfl) b 0 0 [] hold n h0 (by rw [Bi];omega) (by omega) (by omega) (by rw [yB];omega) (by
  rw [Nat.zero_add,nextslicecap_zero h0,yB];omega)
 simp only [Nat.zero_add,Array.empty_append] at H
 have H2:=Lib.hid H
 clear H hold
 go_enter Tryz.func538,Tryz.ntmps538
 go_wp2_with (at_builtin;refine Lib.wpList_append_run _ rfl _ _ _ _ rfl _ _ rfl rfl _ _ (H2.out _) ?_)
 go_ret
 exact ⟨rfl,rfl⟩
def R (x0:Int):Option (aD):=bif decide (0<=x0)&&decide (x0*8<=140737488355328) then some [] else none
def aq {a0:Int}(h:0<=a0/\a0*8<=140737488355328):R a0=some []:=by simp [R,h.1,h.2]
def sem:List L->Option (List L)
 | [y0]=>(R y0.toInt).map RT.enc
 | _=>none
def aW:ga:=⟨[.nil,.rd (.int .i64)],.one (.fr 3),sem⟩
def Ap:Ev.cells 3=[aC]:=by kernel_rfl
def af:cG 538 aW:=by
 refine wS ⟨Tryz.f538,Tryz.func538,by kernel_rfl,by kernel_rfl⟩ rfl fun ls r w vs Z hs hf=>?_
 simp only [aW] at hs
 unfold sem at hs
 split at hs
 ·rename_i y
  obtain ⟨v,hv,hq⟩:=map_some hs
  unfold R at hv
  cases hc:(decide (0<=y.toInt)&&decide (y.toInt*8<=140737488355328))<;>simp only [hc,bq,bA] at hv
  ·cases hv
  injection hv with hv
  subst hv
  subst hq
  simp only [Bool.and_eq_true,decide_eq_true_eq] at hc
  cases hf with
  | cons h1 ht=>
   cases ht with
   | cons h2 ht=>
    cases ht
    obtain ⟨b,rfl⟩:=(show V0 Ev.cells w (A0 Z w) .nil _ from h1)
    have e2:_=Value.int .i64 y.toInt:=h2
    subst e2
    obtain ⟨n,hn⟩:∃n:Nat,y.toInt=n:=⟨y.toInt.toNat,by omega⟩
    rw [hn] at hc ⊢
    rcases Nat.eq_zero_or_pos n with h0 | h0
    ·subst h0
     exact (AG b w).mono fun e w' ⟨h3,h4⟩=>⟨_,fun _=>False,h3,by rw [h4];exact Fr.refl _ _,fun b hb=>hb.elim,.nil _ _ _ _ rfl⟩
    ·refine (Aq b n w h0 (by omega)).mono fun e w' ⟨h3,h4⟩=>⟨_,fun b=>b=w.heap.size,h3,?_,fun b hb=>?_,?_⟩
     ·rw [h4];exact ((Fr.refl w _).drew).alloc _
     ·subst hb;rw [h4];simp
     ·have hge:=grownCap_ge w n 0 3
      have hle:grownCap w n 0 3<=maxLen:=grownCap_le_maxLen w n 0 3 (by simp only [maxLen];omega)
      rw [h4]
      refine .sl _ 3 0 _ w.heap.size 3 _ _ (fun _ _=>Go.undef) (fun _ _ _=>False) rfl (zero_le _) hle (heap_alloc_new w.drew _) ?_ rfl (fun _ _ _ h=>h.elim) (fun _ _ _ _ _ h=>h.elim) (fun i j k hi=>by omega) (fun i j k hi=>by omega)
      rw [Ap]
      simp only [Array.size_append,size_zeroCells,List.length_singleton]
      simp
      omega
 ·cases hs
end Z155
namespace Z156
inductive Pt where
 | p0 (a:aD) (b:Int) (c:aD) (d e:Int)
 | p1 (a:aD) (b c:Int) (d:aD)
def pid:Pt->Nat
 | .p0 ..=>3
 | .p1 ..=>11
def cg:Pt->List V
 | .p0 a b c d e=>[.sl none 62 a,.int .i64 b,.sl none 62 c,.int .i64 d,.int .i64 e]
 | .p1 a b c d=>[.own 0,.sl none 62 a,.int .i64 b,.int .i64 c]
def bZ:Pt->List aZ
 | .p0 a b c d e=>[]
 | .p1 a b c d=>[.row 3 d]
def step (J:Pt->aK):Pt->aK
 | .p0 a b c d e=>(cond (decide (e<d)) (m2 e (c.length:Int) (cond (decide ((i64.wrap (b+((oT c (toNat e)).length:Int)))<0)) none (J (.p0 a (i64.wrap (b+((oT c (toNat e)).length:Int))) c d (i64.wrap (e+1)))))) (call (Z155.R b) fun v1=>J (.p1 a (a.length:Int) 0 v1)))
 | .p1 a b c d=>(cond (decide (c<b)) (m2 c (a.length:Int) (cm (ff (((d.length:Int)+((oT a (toNat c)).length:Int))*8)) (J (.p1 a b (i64.wrap (c+1)) (d++(oT a (toNat c))))))) (ret (d:aD)))
def start (J:Pt->aK)(x0:aD):aK:=J (.p0 x0 0 x0 (x0.length:Int) 0)
def live:Nat->Live:=fun i=>match i with | 3=>[(0,none),(3,none),(9,none),(10,none),(11,none)] | 11=>[(6,none),(25,none),(26,none),(27,none)] | _=>[]
def md (a0:List (List Int)):List Int:=a0.flatten
def gd (a0:List (List Int)):Prop:=a0.length<=8/\∀x∈a0,x.length<=2^40
def R:=RR gd md
def aq {a0}(h:gd a0):R (a0.map (dO bu))=some ((md a0).map bu):=aR (a:=a0) h
def aW:=CN [pL 62] (oL 3) RT.dec R
def bB (a0)(hg:gd a0):∃n,start (iter step n) (a0.map (dO bu))=ret ((md a0).map bu):=by
 obtain ⟨hl,hx⟩:=hg
 have hs:∀i,i<=a0.length->((a0.take i).map List.length).sum<=i*2^40:=by
  intro i
  induction i with
  | zero=>intro _;simp
  | succ i ih=>
   intro hi
   rw [List.take_succ_eq_append_getElem (by omega)]
   have h1:=hx a0[i] (List.getElem_mem _)
   have h2:=ih (by omega)
   simp only [List.map_append,List.map_cons,List.map_nil,List.sum_append,List.sum_cons,List.sum_nil]
   omega
 have hstep:∀i (h:i<a0.length),((a0.take (i+1)).map List.length).sum=((a0.take i).map List.length).sum+a0[i].length:=by
  intro i hi
  rw [List.take_succ_eq_append_getElem (by omega)]
  simp only [List.map_append,List.map_cons,List.map_nil,List.sum_append,List.sum_cons,List.sum_nil]
  omega
 have hf:∀i,(a0.take i).flatten.length=((a0.take i).map List.length).sum:=fun i=>List.length_flatten
 have second:∀k i,i+k=a0.length->∃n,iter step n (Pt.p1 (a0.map (dO bu)) (a0.length:Int) (i:Int) ((a0.take i).flatten.map bu))=ret (a0.flatten.map bu:aD):=by
  intro k
  induction k with
  | zero=>
   intro i hi
   obtain rfl:i=a0.length:=by omega
   refine ⟨1,?_⟩
   show step (iter step 0) (Pt.p1 _ _ _ _)=_
   simp only [step]
   refine cM (by simp) ?_
   rw [List.take_length]
  | succ k ih=>
   intro i hi
   obtain ⟨n,hn⟩:=ih (i+1) (by omega)
   refine ⟨n+1,?_⟩
   show step (iter step n) (Pt.p1 _ _ _ _)=_
   have hlt:i<a0.length:=by omega
   have b1:=hs (i+1) (by omega)
   have b2:=hstep i hlt
   simp only [step,List.length_map,cB,qT]
   refine ak (by simp;omega) (ak (by simp) (ak (by simp;omega) (ak (je ?_) ?_)))
   ·rw [eS hlt,hf];omega
   ·rw [aI hlt (by simp only [maxLen];omega),eS hlt,<-List.map_append]
    have e:(a0.take i).flatten++a0[i]=(a0.take (i+1)).flatten:=by
     rw [List.take_succ_eq_append_getElem (by omega)]
     simp only [List.flatten_append,List.flatten_cons,List.flatten_nil,List.append_nil]
    rw [e];exact hn
 have first:∀k i,i+k=a0.length->∃n,iter step n (Pt.p0 (a0.map (dO bu)) ((((a0.take i).map List.length).sum:Nat):Int) (a0.map (dO bu)) (a0.length:Int) (i:Int))=ret (a0.flatten.map bu:aD):=by
  intro k
  induction k with
  | zero=>
   intro i hi
   obtain rfl:i=a0.length:=by omega
   obtain ⟨n,hn⟩:=second a0.length 0 (by omega)
   refine ⟨n+1,?_⟩
   show step (iter step n) (Pt.p0 _ _ _ _ _)=_
   have b1:=hs a0.length (by omega)
   simp only [step]
   refine cM (by simp) (bg [] (Z155.aq ⟨by omega,by omega⟩) ?_)
   simpa using hn
  | succ k ih=>
   intro i hi
   obtain ⟨n,hn⟩:=ih (i+1) (by omega)
   refine ⟨n+1,?_⟩
   show step (iter step n) (Pt.p0 _ _ _ _ _)=_
   have hlt:i<a0.length:=by omega
   have b1:=hs (i+1) (by omega)
   have b2:=hstep i hlt
   simp only [step,List.length_map,cB,qT,eS hlt]
   have e:i64.wrap (((((a0.take i).map List.length).sum:Nat):Int)+(a0[i].length:Int))=((((a0.take (i+1)).map List.length).sum:Nat):Int):=by
    rw [Go.IntWalk.i64_in _ (by omega)];omega
   rw [e]
   refine ak (by simp;omega) (ak (by simp) (ak (by simp;omega) (cM (by simp) ?_)))
   rw [aI hlt (by simp only [maxLen];omega)]
   exact hn
 unfold md
 obtain ⟨n,hn⟩:=first a0.length 0 (by omega)
 refine ⟨n,?_⟩
 unfold start
 simpa using hn
def af:cG 458 aW:=L1 36 pid cg bZ live step start mix aF bB (.cons Z155.af .nil) Tryz.func458
def len (a0:List (List Int)):(md a0).length=(a0.map List.length).sum:=by simp [md]
end Z156
namespace Z157
def F (x0:ck):aK:=(call (Z150.R x0.bQ) fun v1=>(call (Z150.R x0.bE) fun v2=>(call (Z150.R x0.bC) fun v3=>(call (Z154.R x0.bG) fun v4=>(call (Z156.R [[L.sl [[L.int x0.bz],[L.int x0.cN],[L.int x0.bM],[L.int x0.cK],[L.int x0.cF],[L.int x0.cz],[L.int x0.dm],[L.int x0.dH]]],[L.sl v1],[L.sl v2],[L.sl [[L.int x0.dw]]],[L.sl v3],[L.sl [[L.int v4]]]]) fun v5=>ret (v5:aD))))))
def md (a0:aG):List Int:=(Z156.md [[a0.bz,a0.cN,a0.bM,a0.cK,a0.cF,a0.cz,a0.dm,a0.dH],(Z150.md a0.bQ),(Z150.md a0.bE),[a0.dw],(Z150.md a0.bC),[(Z154.md a0.bG)]])
def gd (a0:aG):Prop:=(aG.Sm (2^21) a0)
def R:=RR gd md
def aq {a0}(h:gd a0):R (aG.r a0)=some ((md a0).map bu):=aR (a:=a0) h
def aW:=CN [.agg gi] (oL 3) RT.dec R
def bB (a0)(hg:gd a0):F (aG.r a0)=ret ((md a0).map bu):=by
 unfold gd at hg
 have H0:=hg
 unfold F md
 try simp only [SS]
 refine ct (Z150.aq H0.1) ?_
 try simp only [SS]
 refine ct (Z150.aq H0.2.1) ?_
 try simp only [SS]
 refine ct (Z150.aq H0.2.2) ?_
 try simp only [SS]
 refine ct (Z154.aq trivial) ?_
 refine bg ((Z156.md [[a0.bz,a0.cN,a0.bM,a0.cK,a0.cF,a0.cz,a0.dm,a0.dH],(Z150.md a0.bQ),(Z150.md a0.bE),[a0.dw],(Z150.md a0.bC),[(Z154.md a0.bG)]]).map bu) (rq (Z156.aq (a0:=[[a0.bz,a0.cN,a0.bM,a0.cK,a0.cF,a0.cz,a0.dm,a0.dH],(Z150.md a0.bQ),(Z150.md a0.bE),[a0.dw],(Z150.md a0.bC),[(Z154.md a0.bG)]]) ⟨(by simp),(by
   have:=Z150.len a0.bQ
   have:=(H0.1).1
   have:=Z150.len a0.bE
   have:=(H0.2.1).1
   have:=Z150.len a0.bC
   have:=(H0.2.2).1
   intro x_ hx_
   simp only [List.mem_cons,List.not_mem_nil,or_false] at hx_
   rcases hx_ with hx_ | hx_ | hx_ | hx_ | hx_ | hx_
   all_goals (subst hx_;first | omega | (simp only [LN];omega)))⟩)) ?_
 try simp only [SS]
 all_goals exact fz
def af:cG 375 aW:=W1 38 F mix aF bB (.cons Z150.af (.cons Z154.af (.cons Z156.af .nil))) Tryz.func375
def len (a0:aG):(md a0).length=16+a0.bQ.aX.length+a0.bE.aX.length+a0.bC.aX.length:=by unfold md;simp [Z156.md,Z150.len];omega
def br (a0:aG):md a0=Z56.md a0:=by
 rw [Z56.tN]
 unfold md Z156.md
 simp only [Z150.br,Z154.md,List.flatten_cons,List.flatten_nil,List.cons_append,List.nil_append,List.append_nil]
end Z157
namespace Z158
def F (x0:Int)(x1:aD):aK:=(call (Z156.R [[L.sl [[L.int x0]]],[L.sl x1],[L.sl [[L.int x0]]]]) fun v1=>(call (Z152.R v1) fun v2=>ret (v2:Int)))
def md (a0:Int)(a1:List Int):Int:=((Z152.md (Z156.md [[a0],a1,[a0]])):Int)
def gd (a0:Int)(a1:List Int):Prop:=(bO (2^40) (fun y:Int=>True) a1)
def R:=RR (p2 gd) (u2 md)
def aq {a0 a1}(h:gd a0 a1):R (a0,(a1.map bu))=some (md a0 a1):=aR (a:=(a0,a1)) h
def aW:=CN [pI,pL 3] oI RT.dec R
def bB (a0)(a1)(hg:gd a0 a1):F a0 (a1.map bu)=ret (md a0 a1):=by
 unfold gd at hg
 have H1:=hg
 unfold F md
 try simp only [SS]
 refine bg ((Z156.md [[a0],a1,[a0]]).map bu) (rq (Z156.aq (a0:=[[a0],a1,[a0]]) ⟨(by simp),(by
   have:=(H1).1
   intro x_ hx_
   simp only [List.mem_cons,List.not_mem_nil,or_false] at hx_
   rcases hx_ with hx_ | hx_ | hx_
   all_goals (subst hx_;first | omega | (simp only [LN];omega)))⟩)) ?_
 try simp only [SS]
 refine ct (Z152.aq ⟨(by
   have:=Z156.len [[a0],a1,[a0]]
   try simp only [LN] at this
   have:=(H1).1
   exact om),fun _ _=>trivial⟩) ?_
 all_goals exact fz
def af:cG 613 aW:=W2 13 F mix aF bB (.cons Z156.af (.cons Z152.af .nil)) Tryz.func613
def br (a0:Int)(a1:List Int):md a0 a1=Z57.md a0 a1:=by
 unfold md Z57.md
 first
 | (simp only [Z152.br];done)
 | (simp only [Z152.br];rfl)
 | rfl
end Z158
namespace Z159
def F (x0:Int)(x1:aD):aK:=(cm (ff (((1:Int)+(x1.length:Int))*8)) (call (Z158.R (x0,([[L.int 223]]++x1))) fun v1=>ret (v1:Int)))
def md (a0:Int)(a1:List Int):Int:=((Z158.md a0 ([223]++a1)):Int)
def gd (a0:Int)(a1:List Int):Prop:=(bO (2^39) (fun y:Int=>True) a1)
def R:=RR (p2 gd) (u2 md)
def aq {a0 a1}(h:gd a0 a1):R (a0,(a1.map bu))=some (md a0 a1):=aR (a:=(a0,a1)) h
def aW:=CN [pI,pL 3] oI RT.dec R
def bB (a0)(a1)(hg:gd a0 a1):F a0 (a1.map bu)=ret (md a0 a1):=by
 unfold gd at hg
 have H1:=hg
 unfold F md
 try simp only [SS]
 refine ak (have:=(H1).1;lm) ?_
 refine bg (Z158.md a0 ([223]++a1)) (rq (Z158.aq (a0:=a0) (a1:=([223]++a1)) ⟨(have:=(H1).1;om),fun _ _=>trivial⟩)) ?_
 all_goals exact fz
def af:cG 601 aW:=W2 10 F mix aF bB (.cons Z158.af .nil) Tryz.func601
def br (a0:Int)(a1:List Int):md a0 a1=Z58.md a0 a1:=by
 unfold md Z58.md
 first
 | (simp only [Z158.br];done)
 | (simp only [Z158.br];rfl)
 | rfl
end Z159
namespace Z160
def F (x0:bw)(x1:aD):aK:=(call (Z144.R x0.gW) fun v1=>(cond v1 (call (Z159.R (x0.gW,x1)) fun v2=>ret ((x0.jD==v2):Bool)) bh))
def md (a0:bw)(a1:List Int):Bool:=(cond (Z144.md a0.gW) ((a0.jD==(Z159.md a0.gW a1)):Bool) (false:Bool))
def gd (a0:bw)(a1:List Int):Prop:=(bO (2^38) (fun y:Int=>True) a1)
def R:=RR (p2 gd) (u2 md)
def aq {a0 a1}(h:gd a0 a1):R (a0,(a1.map bu))=some (md a0 a1):=aR (a:=(a0,a1)) h
def aW:=CN [.agg yL,pL 3] oB RT.dec R
def bB (a0)(a1)(hg:gd a0 a1):F a0 (a1.map bu)=ret (md a0 a1):=by
 unfold gd at hg
 have H1:=hg
 unfold F md
 try simp only [SS]
 refine ct (Z144.aq trivial) ?_
 refine ay ret (fun c1=>?_) (fun _=>rfl)
 refine ct (Z159.aq (H1.mono (by decide) (fun x hx=>trivial))) ?_
 all_goals exact fz
def af:cG 591 aW:=W2 17 F mix aF bB (.cons Z144.af (.cons Z159.af .nil)) Tryz.func591
def br (a0:bw)(a1:List Int):md a0 a1=Z59.md a0 a1:=by
 unfold md Z59.md
 first
 | (simp only [Z159.br];done)
 | (simp only [Z159.br];rfl)
 | rfl
end Z160
namespace Z161
def F (x0:bw)(x1 x2:List L):aK:=(cond (x0.gW==(gy x1)) (call (Z160.R (x0,(mw x2))) fun v1=>ret (v1:Bool)) bh)
def pats:List gk:=[.agg [aC,aC],.ptr [aC],.ptr [.sl 3]]
def res:RP:=.one (.rd (.bool))
def md (a0:bw)(a1:Int)(a2:List Int):Bool:=(cond (a0.gW==a1) ((Z160.md a0 a2):Bool) (false:Bool))
def gd (a0:bw)(a1:Int)(a2:List Int):Prop:=(bO (2^38) (fun y:Int=>True) a2)
def acc (ls:List L):bw×Int×aD:=((bw.dec ls),(gy (cT 1 (aA 2 ls))),(mw (cT 1 (aA 3 ls))))
def R:(bw×Int×aD)->Option Bool:=RR (p3 gd) (u3 md)
def aq {a0 a1 a2}(h:gd a0 a1 a2):R (a0,a1,(a2.map bu))=some (md a0 a1 a2):=aR (a:=(a0,a1,a2)) h
def aW:ga:=CN pats res acc R
def bB (a0:bw)(a1:Int)(a2:List Int)(p1 p2:List L)(e1:a1=(gy p1))(e2:(a2.map bu)=(mw p2))(hg:gd a0 a1 a2):F a0 p1 p2=ret ((md a0 a1 a2):Bool):=by
 unfold gd at hg
 have H2:=hg
 unfold F md
 try simp only [SS,<-e1,<-e2]
 refine ay ret (fun c1=>?_) (fun _=>rfl)
 refine ct (Z160.aq H2) ?_
 all_goals exact fz
def oR (ls:List L)(a:bw×Int×List Int)(e:acc ls=Im.im a)(hg:(p3 gd) a):∃n:Nat,F (bw.dec ls) (cT 1 (aA 2 ls)) (cT 1 (aA 3 ls))=ret (Im.im ((u3 md) a)):=by
 have e0:a.1=(bw.dec ls):=(congrArg (fun x=>x.1) e.symm)
 have hn:=bB a.1 a.2.1 a.2.2 (cT 1 (aA 2 ls)) (cT 1 (aA 3 ls)) (congrArg (fun x=>x.2.1) e.symm) (congrArg (fun x=>x.2.2) e.symm) hg
 refine ⟨0,?_⟩
 rw [<-e0]
 exact hn
def af:cG 590 aW:=VP (live:=fun _=>[]) (nt:=14) (accr:=fun ls=>((bw.dec ls),(cT 1 (aA 2 ls)),(cT 1 (aA 3 ls)))) (run:=fun _ x=>F x.1 x.2.1 x.2.2) mix aF (.cons Z160.af .nil) Tryz.func590 (by kernel_rfl) (fun _ _=>by kernel_rfl) (fun ls a _ e hg=>oR ls a e hg)
end Z161
namespace Z162
inductive Pt where
 | p0 (a:aD) (b c:List L) (d e:Int)
def pid:Pt->Nat
 | .p0 ..=>2
def cg:Pt->List V
 | .p0 a b c d e=>[.sl none 428 a,.fn 590 [.dL none [aC] b 0,.dL none [.sl 3] c 0],.int .i64 d,.int .i64 e]
def bZ:Pt->List aZ
 | .p0 a b c d e=>[]
def step (J:Pt->aK):Pt->aK
 | .p0 a b c d e=>(cond (decide (e<d)) (m2 e (a.length:Int) (call (Z161.R ((bw.at a (toNat e)),(gy b),(mw c))) fun v1=>(cond v1 (ret (e:Int)) (J (.p0 a b c d (i64.wrap (e+1))))))) (ret ((-1):Int)))
def start (J:Pt->aK)(x0:aD)(x1 x2:List L):aK:=J (.p0 x0 x1 x2 (x0.length:Int) 0)
def live:Nat->Live:=fun i=>match i with | 2=>[(0,none),(1,none),(7,none),(8,none)] | _=>[]
def pats:List gk:=[.rd (.sl 428),.fn 590 [[aC],[.sl 3]]]
def res:RP:=.one (.rd (.int .i64))
abbrev E:Env:={ T:=assoc kB,G:=dD [(590,Z161.aW)],nt:=19 }
def step_eq (I:cD)(p:Pt):cV E live I (pid p) (bN Tryz.f600) (fD (live (pid p)) (cg p) (bZ p)) (cE E Tryz.f600 res)=step (fun q=>I (pid q) (cg q) (bZ q)) p:=by
 cases p<;>kernel_rfl
def start_eq (I:cD)(ls:List L):eT E live I (bN Tryz.f600) (cZ pats ls) (cE E Tryz.f600 res)=start (fun q=>I (pid q) (cg q) (bZ q)) (ls.headD .hole).aQ (cT 1 (aA 1 ls)) (cT 1 (aA 2 ls)):=by kernel_rfl
def run_eq (n:Nat)(ls:List L):eN E live Tryz.f600 res n (cZ pats ls)=start (iter step n) (ls.headD .hole).aQ (cT 1 (aA 1 ls)) (cT 1 (aA 2 ls)):=cy (id:=pid) (vs:=cg) (hs:=bZ) (step:=step) (start:=fun J=>start J (ls.headD .hole).aQ (cT 1 (aA 1 ls)) (cT 1 (aA 2 ls))) step_eq (fun I=>start_eq I ls) n
def md (a0:List bw)(a1:Int)(a2:List Int):Int:=(dJ (S:=Unit) (β:=Int) (fun (i1:Nat) (y1:bw) (s3:Unit)=>(cond (Z161.md y1 a1 a2) (.inr ((i1:Int):Int)) (.inl ()))) (fun (s3:Unit)=>((-1):Int)) 0 a0 ())
def gd (a0:List bw)(a1:Int)(a2:List Int):Prop:=(bO (2^21) (fun y:bw=>bw.Sm (2^21) y) a0)/\(bO (2^38) (fun y:Int=>True) a2)
def acc (ls:List L):aD×Int×aD:=((ls.headD .hole).aQ,(gy (cT 1 (aA 1 ls))),(mw (cT 1 (aA 2 ls))))
def R:(aD×Int×aD)->Option Int:=RR (p3 gd) (u3 md)
def aq {a0 a1 a2}(h:gd a0 a1 a2):R ((a0.map bw.row),a1,(a2.map bu))=some (md a0 a1 a2):=aR (a:=(a0,a1,a2)) h
def aW:ga:=CN pats res acc R
def bB (a0:List bw)(a1:Int)(a2:List Int)(p1 p2:List L)(e1:a1=(gy p1))(e2:(a2.map bu)=(mw p2))(hg:gd a0 a1 a2):∃n,start (iter step n) (a0.map bw.row) p1 p2=ret ((md a0 a1 a2):Int):=by
 obtain ⟨H0,H2⟩:=hg
 unfold start md
 try simp only [SS,<-e1,<-e2]
 have Bh2:a0.length<=maxLen:=(by
   have:=(H0).1
   try simp only [maxLen] at *
   omega)
 refine ex_eq (out:=ret) (dc (z:=bw.zero)) ?_
 refine dR (p:=Pt.p0 (a0.map bw.row) p1 p2 (a0.length:Int) 0) fz ?_
 refine cu (pt:=fun (i1:Nat) (s3:Unit)=>Pt.p0 (a0.map bw.row) p1 p2 (a0.length:Int) (i1:Int)) (s:=(():Unit)) (out:=ret) (fun _ _=>True) (fun J i1 s3 h2 hih2=>?_) (fun s3 hih2=>?_) trivial
 ·simp only [step,SS,<-e1,<-e2]
  have bb_:=Bh2
  simp only [maxLen] at bb_
  have:=(H0).1
  refine bD.yes (by apply decide_eq_true;omega) ?_
  refine bD.yes aJ ?_
  refine bD.yes (aL h2) ?_
  refine cr (Z161.aq H2) ?_
  refine bD.bif (fun c4=>?_) (fun c4=>?_)
  ·refine bD.inr ?_
   all_goals exact fz
  ·refine bD.inl trivial ?_
   rw [aI h2 Bh2]
   all_goals exact fz
 ·simp only [step,SS,<-e1,<-e2]
  have:=(H0).1
  refine dF (by apply decide_eq_false;omega) ?_
  refine ⟨0,?_⟩
  all_goals exact fz
def oR (ls:List L)(a:List bw×Int×List Int)(e:acc ls=Im.im a)(hg:(p3 gd) a):∃n:Nat,start (iter step n) ((ls.headD .hole).aQ) (cT 1 (aA 1 ls)) (cT 1 (aA 2 ls))=ret (Im.im ((u3 md) a)):=by
 have e0:(a.1.map bw.row)=(ls.headD .hole).aQ:=(congrArg (fun x=>x.1) e.symm)
 obtain ⟨n,hn⟩:=bB a.1 a.2.1 a.2.2 (cT 1 (aA 1 ls)) (cT 1 (aA 2 ls)) (congrArg (fun x=>x.2.1) e.symm) (congrArg (fun x=>x.2.2) e.symm) hg
 refine ⟨n,?_⟩
 rw [<-e0]
 exact hn
def af:cG 600 aW:=VP (accr:=fun ls=>((ls.headD .hole).aQ,(cT 1 (aA 1 ls)),(cT 1 (aA 2 ls)))) (run:=fun n x=>start (iter step n) x.1 x.2.1 x.2.2) mix aF (.cons Z161.af .nil) Tryz.func600 (by kernel_rfl) run_eq (fun ls a _ e hg=>oR ls a e hg)
def fa (a0:List bw)(a1:Int)(a2:List Int):-1<=md a0 a1 a2/\md a0 a1 a2<(a0.length:Int):=by
 unfold md
 refine gx ?_ _ _
 all_goals
  intro i x s b h
  revert h
  simp only [Bool.cond_eq_ite]
  repeat' split
  all_goals (intro h;first | (cases h;rfl) | cases h)
def idx_eq (a0:List bw)(a1:Int)(a2:List Int):md a0 a1 a2=ju (fun y=>Z161.md y a1 a2) 0 a0:=by
 unfold md
 exact ia
end Z162
namespace Z163
def F (x0:aD)(x1 x2:List L):aK:=(call (Z162.R (x0,(gy x1),(mw x2))) fun v1=>ret ((decide (v1>=0)):Bool))
def pats:List gk:=[.rd (.sl 428),.fn 590 [[aC],[.sl 3]]]
def res:RP:=.one (.rd (.bool))
def md (a0:List bw)(a1:Int)(a2:List Int):Bool:=((decide ((Z162.md a0 a1 a2)>=0)):Bool)
def gd (a0:List bw)(a1:Int)(a2:List Int):Prop:=(bO (2^21) (fun y:bw=>bw.Sm (2^21) y) a0)/\(bO (2^38) (fun y:Int=>True) a2)
def acc (ls:List L):aD×Int×aD:=((ls.headD .hole).aQ,(gy (cT 1 (aA 1 ls))),(mw (cT 1 (aA 2 ls))))
def R:(aD×Int×aD)->Option Bool:=RR (p3 gd) (u3 md)
def aq {a0 a1 a2}(h:gd a0 a1 a2):R ((a0.map bw.row),a1,(a2.map bu))=some (md a0 a1 a2):=aR (a:=(a0,a1,a2)) h
def aW:ga:=CN pats res acc R
def bB (a0:List bw)(a1:Int)(a2:List Int)(p1 p2:List L)(e1:a1=(gy p1))(e2:(a2.map bu)=(mw p2))(hg:gd a0 a1 a2):F (a0.map bw.row) p1 p2=ret ((md a0 a1 a2):Bool):=by
 obtain ⟨H0,H2⟩:=hg
 unfold F md
 try simp only [SS,<-e1,<-e2]
 refine ct (Z162.aq ⟨H0,H2⟩) ?_
 have fv1_:=Z162.fa a0 a1 a2
 all_goals exact fz
def oR (ls:List L)(a:List bw×Int×List Int)(e:acc ls=Im.im a)(hg:(p3 gd) a):∃n:Nat,F ((ls.headD .hole).aQ) (cT 1 (aA 1 ls)) (cT 1 (aA 2 ls))=ret (Im.im ((u3 md) a)):=by
 have e0:(a.1.map bw.row)=(ls.headD .hole).aQ:=(congrArg (fun x=>x.1) e.symm)
 have hn:=bB a.1 a.2.1 a.2.2 (cT 1 (aA 1 ls)) (cT 1 (aA 2 ls)) (congrArg (fun x=>x.2.1) e.symm) (congrArg (fun x=>x.2.2) e.symm) hg
 refine ⟨0,?_⟩
 rw [<-e0]
 exact hn
def af:cG 589 aW:=VP (live:=fun _=>[]) (nt:=9) (accr:=fun ls=>((ls.headD .hole).aQ,(cT 1 (aA 1 ls)),(cT 1 (aA 2 ls)))) (run:=fun _ x=>F x.1 x.2.1 x.2.2) mix aF (.cons Z162.af .nil) Tryz.func589 (by kernel_rfl) (fun _ _=>by kernel_rfl) (fun ls a _ e hg=>oR ls a e hg)
def any_eq (a0:List bw)(a1:Int)(a2:List Int):md a0 a1 a2=a0.any (fun y=>Z161.md y a1 a2):=by
 unfold md
 rw [Z162.idx_eq]
 exact qQ
end Z163
namespace Z164
inductive Pt where
 | p0 (a:aD) (b:Int) (c:aD) (d e:Int) (f:aD)
def pid:Pt->Nat
 | .p0 ..=>3
def cg:Pt->List V
 | .p0 a b c d e f=>[.sl none 428 a,.dy 0 0,.int .i64 b,.sl none 3 c,.int .i64 d,.int .i64 e]
def bZ:Pt->List aZ
 | .p0 a b c d e f=>[.box [.sl none 3 f]]
def step (J:Pt->aK):Pt->aK
 | .p0 a b c d e f=>(cond (decide (e<d)) (m2 e (c.length:Int) (call (Z163.R (a,(jG c (toNat e)),f)) fun v1=>(cond v1 (J (.p0 a (i64.wrap (b+1)) c d (i64.wrap (e+1)) f)) (J (.p0 a b c d (i64.wrap (e+1)) f))))) (ret (b:Int)))
def start (J:Pt->aK)(x0:bF)(x1 x2:aD):aK:=J (.p0 x2 0 x0.aX (x0.aX.length:Int) 0 x1)
def live:Nat->Live:=fun i=>match i with | 3=>[(2,none),(4,none),(7,none),(11,none),(12,none),(13,none)] | _=>[]
def md (a0:aO)(a1:List Int)(a2:List bw):Int:=(dW (S:=Int) (β:=Int) (fun (y1:Int) (s3:Int)=>(cond (Z163.md a2 y1 a1) (.inl (i64.wrap (s3+1))) (.inl s3))) (fun (s3:Int)=>(s3:Int)) a0.aX 0)
def gd (a0:aO)(a1:List Int)(a2:List bw):Prop:=(aO.Sm (2^21) a0)/\(bO (2^38) (fun y:Int=>True) a1)/\(bO (2^21) (fun y:bw=>bw.Sm (2^21) y) a2)
def R:=RR (p3 gd) (u3 md)
def aq {a0 a1 a2}(h:gd a0 a1 a2):R ((aO.r a0),(a1.map bu),(a2.map bw.row))=some (md a0 a1 a2):=aR (a:=(a0,a1,a2)) h
def aW:=CN [.agg pZ,pL 3,pL 428] oI RT.dec R
def bB (a0)(a1)(a2)(hg:gd a0 a1 a2):∃n,start (iter step n) (aO.r a0) (a1.map bu) (a2.map bw.row)=ret (md a0 a1 a2):=by
 obtain ⟨H0,H1,H2⟩:=hg
 unfold start md
 try simp only [SS]
 have Bh2:a0.aX.length<=maxLen:=(by
   have:=(H0).1
   try simp only [maxLen] at *
   omega)
 refine ex_eq (out:=ret) (eJ (z:=0)) ?_
 refine dR (p:=Pt.p0 (a2.map bw.row) 0 (a0.aX.map bu) (a0.aX.length:Int) 0 (a1.map bu)) fz ?_
 refine cu (pt:=fun (i1:Nat) (s3:Int)=>Pt.p0 (a2.map bw.row) s3 (a0.aX.map bu) (a0.aX.length:Int) (i1:Int) (a1.map bu)) (s:=(0:Int)) (out:=ret) (fun _ _=>True) (fun J i1 s3 h2 hih2=>?_) (fun s3 hih2=>?_) trivial
 ·simp only [step,SS]
  have bb_:=Bh2
  simp only [maxLen] at bb_
  have:=(H0).1
  refine bD.yes (by apply decide_eq_true;omega) ?_
  refine bD.yes aJ ?_
  refine bD.yes (aL h2) ?_
  refine cr (Z163.aq ⟨H2,H1⟩) ?_
  refine bD.bif (fun c4=>?_) (fun c4=>?_)
  ·refine bD.inl trivial ?_
   rw [aI h2 Bh2]
   all_goals exact fz
  ·refine bD.inl trivial ?_
   rw [aI h2 Bh2]
   all_goals exact fz
 ·simp only [step,SS]
  have:=(H0).1
  refine dF (by apply decide_eq_false;omega) ?_
  refine ⟨0,?_⟩
  all_goals exact fz
def af:cG 573 aW:=L3 24 pid cg bZ live step start mix aF bB (.cons Z163.af .nil) Tryz.func573
def br (a0:aO)(a1:List Int)(a2:List bw):md a0 a1 a2=Z60.md a0 a1 a2:=by
 unfold md Z60.md
 refine oZ (fun x _ s=>?_) (fun s=>rfl)
 rw [Z163.any_eq]
 refine Eq.trans ?_ (mN (β:=Int⊕Int) (p:=fun y=>Z161.md y x a1) (b:=Sum.inl (i64.wrap (s+1))) (c:=Sum.inl s) (fun y s'=>?_) a2 ()).symm
 ·cases a2.any (fun y=>Z161.md y x a1)<;>rfl
 ·unfold Z161.md
  simp only [Z160.br]
  cases y.gW==x<;>cases Z59.md y a1<;>rfl
end Z164
namespace Z165
def F (x0:bF)(x1 x2:aD):aK:=(call (Z145.R x0) fun v1=>(cond v1 (call (Z164.R (x0,x1,x2)) fun v2=>ret ((decide (v2>=x0.cH)):Bool)) bh))
def md (a0:aO)(a1:List Int)(a2:List bw):Bool:=(cond (Z145.md a0) ((decide ((Z164.md a0 a1 a2)>=a0.cH)):Bool) (false:Bool))
def gd (a0:aO)(a1:List Int)(a2:List bw):Prop:=(aO.Sm (2^21) a0)/\(bO (2^38) (fun y:Int=>True) a1)/\(bO (2^21) (fun y:bw=>bw.Sm (2^21) y) a2)
def R:=RR (p3 gd) (u3 md)
def aq {a0 a1 a2}(h:gd a0 a1 a2):R ((aO.r a0),(a1.map bu),(a2.map bw.row))=some (md a0 a1 a2):=aR (a:=(a0,a1,a2)) h
def aW:=CN [.agg pZ,pL 3,pL 428] oB RT.dec R
def bB (a0)(a1)(a2)(hg:gd a0 a1 a2):F (aO.r a0) (a1.map bu) (a2.map bw.row)=ret (md a0 a1 a2):=by
 obtain ⟨H0,H1,H2⟩:=hg
 unfold F md
 try simp only [SS]
 refine ct (Z145.aq H0) ?_
 refine ay ret (fun c1=>?_) (fun _=>rfl)
 refine ct (Z164.aq ⟨H0,H1,H2⟩) ?_
 all_goals exact fz
def af:cG 533 aW:=W3 18 F mix aF bB (.cons Z145.af (.cons Z164.af .nil)) Tryz.func533
def br (a0:aO)(a1:List Int)(a2:List bw):md a0 a1 a2=Z61.md a0 a1 a2:=by
 unfold md Z61.md
 first
 | (simp only [Z145.br,Z164.br];done)
 | (simp only [Z145.br,Z164.br];rfl)
 | rfl
end Z165
namespace Z166
def F (x0:aT)(x1:bF):aK:=(call (Z157.R x0.au) fun v1=>(call (Z165.R (x1,v1,x0.cw)) fun v2=>ret (v2:Bool)))
def md (a0:aa)(a1:aO):Bool:=((Z165.md a1 (Z157.md a0.au) a0.cw):Bool)
def gd (a0:aa)(a1:aO):Prop:=(aa.Sm (2^21) a0)/\(aO.Sm (2^21) a1)
def R:=RR (p2 gd) (u2 md)
def aq {a0 a1}(h:gd a0 a1):R ((aa.r a0),(aO.r a1))=some (md a0 a1):=aR (a:=(a0,a1)) h
def aW:=CN [.agg kT,.agg pZ] oB RT.dec R
def bB (a0)(a1)(hg:gd a0 a1):F (aa.r a0) (aO.r a1)=ret (md a0 a1):=by
 obtain ⟨H0,H1⟩:=hg
 unfold F md
 try simp only [SS]
 refine ct (Z157.aq H0.1) ?_
 try simp only [SS]
 refine ct (Z165.aq ⟨H1,⟨(have:=Z157.len a0.au;have:=(H0.1.1).1;have:=(H0.1.2.1).1;have:=(H0.1.2.2).1;om),fun _ _=>trivial⟩,H0.2⟩) ?_
 all_goals exact fz
def af:cG 456 aW:=W2 12 F mix aF bB (.cons Z157.af (.cons Z165.af .nil)) Tryz.func456
end Z166
namespace Z167
def F (x0:aT):aK:=(call (Z149.R x0.au) fun v1=>(cond v1 (cond (x0.au.cN==0) (cond (x0.au.bM==1) (cond (!x0.au.bG) (call (Z153.R (x0.au.bQ,x0.au.dH)) fun v2=>(cond (x0.au.bz==v2) (call (Z166.R (x0,x0.au.bQ)) fun v3=>ret (v3:Bool)) bh)) bh) bh) bh) bh))
def md (a0:aa):Bool:=(cond (Z149.md a0.au) (cond (a0.au.cN==0) (cond (a0.au.bM==1) (cond (!a0.au.bG) (cond (a0.au.bz==(Z153.md a0.au.bQ a0.au.dH)) ((Z166.md a0 a0.au.bQ):Bool) (false:Bool)) (false:Bool)) (false:Bool)) (false:Bool)) (false:Bool))
def gd (a0:aa):Prop:=(aa.Sm (2^21) a0)
def R:=RR gd md
def aq {a0}(h:gd a0):R (aa.r a0)=some (md a0):=aR (a:=a0) h
def aW:=CN [.agg kT] oB RT.dec R
def bB (a0)(hg:gd a0):F (aa.r a0)=ret (md a0):=by
 unfold gd at hg
 have H0:=hg
 unfold F md
 try simp only [SS]
 refine ct (Z149.aq H0.1) ?_
 refine ay ret (fun c1=>?_) (fun _=>rfl)
 refine ay ret (fun c2=>?_) (fun _=>rfl)
 refine ay ret (fun c3=>?_) (fun _=>rfl)
 refine ay ret (fun c4=>?_) (fun _=>rfl)
 refine ct (Z153.aq H0.1.1) ?_
 refine ay ret (fun c5=>?_) (fun _=>rfl)
 refine ct (Z166.aq ⟨H0,H0.1.1⟩) ?_
 all_goals exact fz
def af:cG 372 aW:=W1 39 F mix aF bB (.cons Z149.af (.cons Z153.af (.cons Z166.af .nil))) Tryz.func372
def br (a0:aa):md a0=Z62.md a0:=by
 unfold md Z62.md
 simp only [Z166.md,Z165.br,Z157.br,Z149.br,Z153.br]
end Z167
namespace Z168
def F (x0:ck):aK:=(call (Z157.R x0) fun v1=>(cm (ff (((1:Int)+(v1.length:Int))*8)) (call (Z152.R ([[L.int 233]]++v1)) fun v2=>ret (v2:Int))))
def md (a0:aG):Int:=((Z152.md ([233]++(Z157.md a0))):Int)
def gd (a0:aG):Prop:=(aG.Sm (2^21) a0)
def R:=RR gd md
def aq {a0}(h:gd a0):R (aG.r a0)=some (md a0):=aR (a:=a0) h
def aW:=CN [.agg gi] oI RT.dec R
def bB (a0)(hg:gd a0):F (aG.r a0)=ret (md a0):=by
 unfold gd at hg
 have H0:=hg
 unfold F md
 try simp only [SS]
 refine ct (Z157.aq H0) ?_
 try simp only [SS]
 refine ak (have:=Z157.len a0;have:=(H0.1).1;have:=(H0.2.1).1;have:=(H0.2.2).1;lm) ?_
 refine bg (Z152.md ([233]++(Z157.md a0))) (rq (Z152.aq (a0:=([233]++(Z157.md a0))) ⟨(have:=Z157.len a0;have:=(H0.1).1;have:=(H0.2.1).1;have:=(H0.2.2).1;om),fun _ _=>trivial⟩)) ?_
 all_goals exact fz
def af:cG 574 aW:=W1 8 F mix aF bB (.cons Z157.af (.cons Z152.af .nil)) Tryz.func574
def br (a0:aG):md a0=Z63.md a0:=by
 unfold md Z63.md
 first
 | (simp only [Z157.br,Z152.br];done)
 | (simp only [Z157.br,Z152.br];rfl)
 | rfl
end Z168
namespace Z169
def F (x0 x1:ck):aK:=(cond (x1.bz==x0.bz) (cond (x1.cN==(i64.wrap (x0.cN+1))) (call (Z168.R x0) fun v1=>(cond (x1.dH==v1) (ret ((decide (x1.cK>=x0.cK)):Bool)) bh)) bh) bh)
def md (a0 a1:aG):Bool:=(cond (a1.bz==a0.bz) (cond (a1.cN==(i64.wrap (a0.cN+1))) (cond (a1.dH==(Z168.md a0)) ((decide (a1.cK>=a0.cK)):Bool) (false:Bool)) (false:Bool)) (false:Bool))
def gd (a0 a1:aG):Prop:=(aG.Sm (2^21) a0)
def R:=RR (p2 gd) (u2 md)
def aq {a0 a1}(h:gd a0 a1):R ((aG.r a0),(aG.r a1))=some (md a0 a1):=aR (a:=(a0,a1)) h
def aW:=CN [.agg gi,.agg gi] oB RT.dec R
def bB (a0)(a1)(hg:gd a0 a1):F (aG.r a0) (aG.r a1)=ret (md a0 a1):=by
 unfold gd at hg
 have H0:=hg
 unfold F md
 try simp only [SS]
 refine ay ret (fun c1=>?_) (fun _=>rfl)
 refine ay ret (fun c2=>?_) (fun _=>rfl)
 refine ct (Z168.aq H0) ?_
 refine ay ret (fun c3=>?_) (fun _=>rfl)
 all_goals exact fz
def af:cG 534 aW:=W2 32 F mix aF bB (.cons Z168.af .nil) Tryz.func534
end Z169
namespace Z170
def F (x0:ck)(x1:aT):aK:=(cond x0.bG (ret (4:Int)) (cond x1.au.bG (ret (6:Int)) (call (Z166.R (x1,x0.bQ)) fun v1=>(cond (!v1) (ret (7:Int)) (ret (1:Int))))))
def md (a0:aG)(a1:aa):Int:=(cond a0.bG (4:Int) (cond a1.au.bG (6:Int) (cond (!(Z166.md a1 a0.bQ)) (7:Int) (1:Int))))
def gd (a0:aG)(a1:aa):Prop:=(aG.Sm (2^21) a0)/\(aa.Sm (2^21) a1)
def R:=RR (p2 gd) (u2 md)
def aq {a0 a1}(h:gd a0 a1):R ((aG.r a0),(aa.r a1))=some (md a0 a1):=aR (a:=(a0,a1)) h
def aW:=CN [.agg gi,.agg kT] oI RT.dec R
def bB (a0)(a1)(hg:gd a0 a1):F (aG.r a0) (aa.r a1)=ret (md a0 a1):=by
 obtain ⟨H0,H1⟩:=hg
 unfold F md
 try simp only [SS]
 refine ay ret (fun _=>rfl) (fun c1=>?_)
 refine ay ret (fun _=>rfl) (fun c2=>?_)
 refine ct (Z166.aq ⟨H1,H0.1⟩) ?_
 refine ay ret (fun _=>rfl) (fun _=>rfl)
def af:cG 535 aW:=W2 18 F mix aF bB (.cons Z166.af .nil) Tryz.func535
end Z170
namespace Z171
inductive Pt where
 | p0 (a b:aD) (c d:Int)
def pid:Pt->Nat
 | .p0 ..=>4
def cg:Pt->List V
 | .p0 a b c d=>[.sl none 3 a,.sl none 3 b,.int .i64 c,.int .i64 d]
def bZ:Pt->List aZ
 | .p0 a b c d=>[]
def step (J:Pt->aK):Pt->aK
 | .p0 a b c d=>(cond (decide (d<c)) (m2 d (a.length:Int) (m2 d (b.length:Int) (cond ((jG a (toNat d)) != (jG b (toNat d))) bh (J (.p0 a b c (i64.wrap (d+1))))))) eF)
def start (J:Pt->aK)(x0 x1:aD):aK:=(cond ((x0.length:Int) != (x1.length:Int)) bh (J (.p0 x0 x1 (x0.length:Int) 0)))
def live:Nat->Live:=fun i=>match i with | 4=>[(0,none),(1,none),(12,none),(13,none)] | _=>[]
def md (a0 a1:List Int):Bool:=(bif ((a0.length:Int) != (a1.length:Int)) then (false:Bool) else (eC (S:=Unit) (β:=Bool) (fun (i2:Nat) (s4:Unit)=>(cond ((a0.getD i2 0) != (a1.getD i2 0)) (.inr (false:Bool)) (.inl ()))) (fun (s4:Unit)=>(true:Bool)) a0.length 0 ()))
def gd (a0 a1:List Int):Prop:=(bO (2^38) (fun y:Int=>True) a0)/\(bO (2^38) (fun y:Int=>True) a1)
def R:=RR (p2 gd) (u2 md)
def aq {a0 a1}(h:gd a0 a1):R ((a0.map bu),(a1.map bu))=some (md a0 a1):=aR (a:=(a0,a1)) h
def aW:=CN [pL 3,pL 3] oB RT.dec R
def bB (a0)(a1)(hg:gd a0 a1):∃n,start (iter step n) (a0.map bu) (a1.map bu)=ret (md a0 a1):=by
 obtain ⟨H0,H1⟩:=hg
 unfold start md
 try simp only [SS]
 refine hU ret (fun _=>⟨0,rfl⟩) (fun c1=>?_)
 have dc1:=c1
 try simp only [DC] at dc1
 have Bh3:a0.length<=maxLen:=(by
   have:=(H0).1
   try simp only [maxLen] at *
   omega)
 refine dR (p:=Pt.p0 (a0.map bu) (a1.map bu) (a0.length:Int) 0) fz ?_
 refine cu (pt:=fun (i2:Nat) (s4:Unit)=>Pt.p0 (a0.map bu) (a1.map bu) (a0.length:Int) (i2:Int)) (s:=(():Unit)) (out:=ret) (fun _ _=>True) (fun J i2 s4 h3 hih3=>?_) (fun s4 hih3=>?_) trivial
 ·simp only [step,SS]
  have bb_:=Bh3
  simp only [maxLen] at bb_
  have:=(H0).1
  refine bD.yes (by apply decide_eq_true;omega) ?_
  refine bD.yes aJ ?_
  refine bD.yes (aL h3) ?_
  refine bD.yes aJ ?_
  refine bD.yes (have:=(H1).1;dt) ?_
  refine bD.bif (fun _=>bD.inr rfl) (fun c5=>?_)
  refine bD.inl trivial ?_
  rw [aI h3 Bh3]
  all_goals exact fz
 ·simp only [step,SS]
  have:=(H0).1
  refine dF (by apply decide_eq_false;omega) ?_
  refine ⟨0,?_⟩
  all_goals exact fz
def af:cG 223 aW:=L2 26 pid cg bZ live step start mix aF bB .nil Tryz.func223
def md_eq (a0 a1:List Int):md a0 a1=eo a0 a1:=by
 unfold md
 refine kA (0) (fun i s h h2=>?_) (fun s=>rfl)
 simp only [bne,fq,bool_beq,eW]
 cases eo _ _<;>rfl
end Z171
namespace Z172
def F (x0 x1:bF):aK:=(call (Z171.R (x0.aX,x1.aX)) fun v1=>(cond v1 (ret ((x0.cH==x1.cH):Bool)) bh))
def md (a0 a1:aO):Bool:=(cond (Z171.md a0.aX a1.aX) ((a0.cH==a1.cH):Bool) (false:Bool))
def gd (a0 a1:aO):Prop:=(aO.Sm (2^21) a0)/\(aO.Sm (2^21) a1)
def R:=RR (p2 gd) (u2 md)
def aq {a0 a1}(h:gd a0 a1):R ((aO.r a0),(aO.r a1))=some (md a0 a1):=aR (a:=(a0,a1)) h
def aW:=CN [.agg pZ,.agg pZ] oB RT.dec R
def bB (a0)(a1)(hg:gd a0 a1):F (aO.r a0) (aO.r a1)=ret (md a0 a1):=by
 obtain ⟨H0,H1⟩:=hg
 unfold F md
 try simp only [SS]
 refine ct (Z171.aq ⟨(H0.mono (by decide) (fun x hx=>trivial)),(H1.mono (by decide) (fun x hx=>trivial))⟩) ?_
 refine ay ret (fun c1=>?_) (fun _=>rfl)
 all_goals exact fz
def af:cG 69 aW:=W2 17 F mix aF bB (.cons Z171.af .nil) Tryz.func69
def md_eq (a0 a1:aO):md a0 a1=eo a0 a1:=by
 unfold md
 cases a0;cases a1
 rw [Bool.eq_iff_iff]
 simp [dA,eW,aO.mk.injEq,Z171.md_eq]
 try (constructor<;>(intro h;simp_all))
end Z172
namespace Z173
def F (x0 x1:ck):aK:=(cond (x0.cz==x1.cz) (ret ((x0.dm==x1.dm):Bool)) bh)
def md (a0 a1:aG):Bool:=(cond (a0.cz==a1.cz) ((a0.dm==a1.dm):Bool) (false:Bool))
def gd (a0 a1:aG):Prop:=True
def R:=RR (p2 gd) (u2 md)
def aq {a0 a1}(h:gd a0 a1):R ((aG.r a0),(aG.r a1))=some (md a0 a1):=aR (a:=(a0,a1)) h
def aW:=CN [.agg gi,.agg gi] oB RT.dec R
def bB (a0)(a1)(hg:gd a0 a1):F (aG.r a0) (aG.r a1)=ret (md a0 a1):=by
 unfold F md
 try simp only [SS]
 refine ay ret (fun c1=>?_) (fun _=>rfl)
 all_goals exact fz
def af:cG 575 aW:=W2 17 F mix aF bB .nil Tryz.func575
def br (a0 a1:aG):md a0 a1=Z67.md a0 a1:=by
 unfold md Z67.md
 first
 | (simp only [id];done)
 | (simp only [id];rfl)
 | rfl
end Z173
namespace Z174
def F (x0:ck)(x1:aT):aK:=(cond x0.bG (ret (4:Int)) (call (Z146.R x0.bE) fun v1=>(cond v1 (ret (5:Int)) (cond (decide (x1.au.cK<(i64.wrap (x0.cF+x0.dw)))) (ret (5:Int)) (cond x1.au.bG (ret (6:Int)) (call (Z172.R (x1.au.bQ,x0.bE)) fun v2=>(cond (!v2) (ret (6:Int)) (call (Z173.R (x1.au,x0)) fun v3=>(cond (!v3) (ret (6:Int)) (call (Z166.R (x1,x0.bE)) fun v4=>(cond (!v4) (ret (7:Int)) (ret (1:Int)))))))))))))
def md (a0:aG)(a1:aa):Int:=(cond a0.bG (4:Int) (cond (Z146.md a0.bE) (5:Int) (cond (decide (a1.au.cK<(i64.wrap (a0.cF+a0.dw)))) (5:Int) (cond a1.au.bG (6:Int) (cond (!(Z172.md a1.au.bQ a0.bE)) (6:Int) (cond (!(Z173.md a1.au a0)) (6:Int) (cond (!(Z166.md a1 a0.bE)) (7:Int) (1:Int))))))))
def gd (a0:aG)(a1:aa):Prop:=(aG.Sm (2^21) a0)/\(aa.Sm (2^21) a1)
def R:=RR (p2 gd) (u2 md)
def aq {a0 a1}(h:gd a0 a1):R ((aG.r a0),(aa.r a1))=some (md a0 a1):=aR (a:=(a0,a1)) h
def aW:=CN [.agg gi,.agg kT] oI RT.dec R
def bB (a0)(a1)(hg:gd a0 a1):F (aG.r a0) (aa.r a1)=ret (md a0 a1):=by
 obtain ⟨H0,H1⟩:=hg
 unfold F md
 try simp only [SS]
 refine ay ret (fun _=>rfl) (fun c1=>?_)
 refine ct (Z146.aq trivial) ?_
 refine ay ret (fun _=>rfl) (fun c2=>?_)
 refine ay ret (fun _=>rfl) (fun c3=>?_)
 refine ay ret (fun _=>rfl) (fun c4=>?_)
 refine ct (Z172.aq ⟨H1.1.1,H0.2.1⟩) ?_
 refine ay ret (fun _=>rfl) (fun c5=>?_)
 refine ct (Z173.aq trivial) ?_
 refine ay ret (fun _=>rfl) (fun c6=>?_)
 refine ct (Z166.aq ⟨H1,H0.2.1⟩) ?_
 refine ay ret (fun _=>rfl) (fun _=>rfl)
def af:cG 536 aW:=W2 48 F mix aF bB (.cons Z146.af (.cons Z172.af (.cons Z173.af (.cons Z166.af .nil)))) Tryz.func536
end Z174
namespace Z175
def F (x0:ck)(x1:aT):aK:=(call (Z173.R (x1.au,x0)) fun v1=>(cond v1 (call (Z172.R (x1.au.bC,x0.bC)) fun v2=>(cond v2 (call (Z172.R (x1.au.bE,x0.bE)) fun v3=>(cond v3 (call (Z146.R x0.bC) fun v4=>(cond v4 (ret (5:Int)) (cond (x1.au.bG==x0.bG) (ret (6:Int)) (cond (!(x1.au.dw==x0.dw)) (ret (6:Int)) (cond x1.au.bG (call (Z172.R (x1.au.bQ,x0.bQ)) fun v5=>(cond (!v5) (ret (6:Int)) (call (Z166.R (x1,x0.bC)) fun v6=>(cond (!v6) (ret (7:Int)) (ret (1:Int)))))) (call (Z166.R (x1,x0.bC)) fun v7=>(cond (!v7) (ret (7:Int)) (ret (1:Int))))))))) (call (Z146.R x0.bC) fun v8=>(cond v8 (ret (5:Int)) (cond (x1.au.bG==x0.bG) (ret (6:Int)) (ret (6:Int))))))) (call (Z146.R x0.bC) fun v9=>(cond v9 (ret (5:Int)) (cond (x1.au.bG==x0.bG) (ret (6:Int)) (ret (6:Int))))))) (call (Z146.R x0.bC) fun v10=>(cond v10 (ret (5:Int)) (cond (x1.au.bG==x0.bG) (ret (6:Int)) (ret (6:Int)))))))
def md (a0:aG)(a1:aa):Int:=(cond (Z173.md a1.au a0) (cond (Z172.md a1.au.bC a0.bC) (cond (Z172.md a1.au.bE a0.bE) (cond (Z146.md a0.bC) (5:Int) (cond (a1.au.bG==a0.bG) (6:Int) (cond (!(a1.au.dw==a0.dw)) (6:Int) (cond a1.au.bG (cond (!(Z172.md a1.au.bQ a0.bQ)) (6:Int) (cond (!(Z166.md a1 a0.bC)) (7:Int) (1:Int))) (cond (!(Z166.md a1 a0.bC)) (7:Int) (1:Int)))))) (cond (Z146.md a0.bC) (5:Int) (cond (a1.au.bG==a0.bG) (6:Int) (6:Int)))) (cond (Z146.md a0.bC) (5:Int) (cond (a1.au.bG==a0.bG) (6:Int) (6:Int)))) (cond (Z146.md a0.bC) (5:Int) (cond (a1.au.bG==a0.bG) (6:Int) (6:Int))))
def gd (a0:aG)(a1:aa):Prop:=(aG.Sm (2^21) a0)/\(aa.Sm (2^21) a1)
def R:=RR (p2 gd) (u2 md)
def aq {a0 a1}(h:gd a0 a1):R ((aG.r a0),(aa.r a1))=some (md a0 a1):=aR (a:=(a0,a1)) h
def aW:=CN [.agg gi,.agg kT] oI RT.dec R
def bB (a0)(a1)(hg:gd a0 a1):F (aG.r a0) (aa.r a1)=ret (md a0 a1):=by
 obtain ⟨H0,H1⟩:=hg
 unfold F md
 try simp only [SS]
 refine ct (Z173.aq trivial) ?_
 refine ay ret (fun c1=>?_) (fun c1=>?_)
 ·refine ct (Z172.aq ⟨H1.1.2.2,H0.2.2⟩) ?_
  refine ay ret (fun c2=>?_) (fun c2=>?_)
  ·refine ct (Z172.aq ⟨H1.1.2.1,H0.2.1⟩) ?_
   refine ay ret (fun c3=>?_) (fun c3=>?_)
   ·refine ct (Z146.aq trivial) ?_
    refine ay ret (fun _=>rfl) (fun c4=>?_)
    refine ay ret (fun _=>rfl) (fun c5=>?_)
    refine ay ret (fun _=>rfl) (fun c6=>?_)
    refine ay ret (fun c7=>?_) (fun c7=>?_)
    ·refine ct (Z172.aq ⟨H1.1.1,H0.1⟩) ?_
     refine ay ret (fun _=>rfl) (fun c8=>?_)
     refine ct (Z166.aq ⟨H1,H0.2.2⟩) ?_
     refine ay ret (fun _=>rfl) (fun _=>rfl)
    ·refine ct (Z166.aq ⟨H1,H0.2.2⟩) ?_
     refine ay ret (fun _=>rfl) (fun _=>rfl)
   ·refine ct (Z146.aq trivial) ?_
    refine ay ret (fun _=>rfl) (fun c11=>?_)
    refine ay ret (fun _=>rfl) (fun _=>rfl)
  ·refine ct (Z146.aq trivial) ?_
   refine ay ret (fun _=>rfl) (fun c13=>?_)
   refine ay ret (fun _=>rfl) (fun _=>rfl)
 ·refine ct (Z146.aq trivial) ?_
  refine ay ret (fun _=>rfl) (fun c15=>?_)
  refine ay ret (fun _=>rfl) (fun _=>rfl)
def af:cG 537 aW:=W2 65 F mix aF bB (.cons Z173.af (.cons Z172.af (.cons Z146.af (.cons Z166.af .nil)))) Tryz.func537
end Z175
namespace Z176
def F (x0:ck)(x1:aT):aK:=(call (Z149.R x0) fun v1=>(cond (!v1) (ret (2:Int)) (call (Z149.R x1.au) fun v2=>(cond (!v2) (ret (2:Int)) (call (Z169.R (x0,x1.au)) fun v3=>(cond (!v3) (ret (3:Int)) (cond (x1.au.bM==1) (call (Z170.R (x0,x1)) fun v4=>ret (v4:Int)) (cond (x1.au.bM==2) (call (Z174.R (x0,x1)) fun v5=>ret (v5:Int)) (call (Z175.R (x0,x1)) fun v6=>ret (v6:Int))))))))))
def md (a0:aG)(a1:aa):Int:=(cond (!(Z149.md a0)) (2:Int) (cond (!(Z149.md a1.au)) (2:Int) (cond (!(Z169.md a0 a1.au)) (3:Int) (cond (a1.au.bM==1) ((Z170.md a0 a1):Int) (cond (a1.au.bM==2) ((Z174.md a0 a1):Int) ((Z175.md a0 a1):Int))))))
def gd (a0:aG)(a1:aa):Prop:=(aG.Sm (2^21) a0)/\(aa.Sm (2^21) a1)
def R:=RR (p2 gd) (u2 md)
def aq {a0 a1}(h:gd a0 a1):R ((aG.r a0),(aa.r a1))=some (md a0 a1):=aR (a:=(a0,a1)) h
def aW:=CN [.agg gi,.agg kT] oI RT.dec R
def bB (a0)(a1)(hg:gd a0 a1):F (aG.r a0) (aa.r a1)=ret (md a0 a1):=by
 obtain ⟨H0,H1⟩:=hg
 unfold F md
 try simp only [SS]
 refine ct (Z149.aq H0) ?_
 refine ay ret (fun _=>rfl) (fun c1=>?_)
 refine ct (Z149.aq H1.1) ?_
 refine ay ret (fun _=>rfl) (fun c2=>?_)
 refine ct (Z169.aq H0) ?_
 refine ay ret (fun _=>rfl) (fun c3=>?_)
 refine ay ret (fun c4=>?_) (fun c4=>?_)
 ·refine ct (Z170.aq ⟨H0,H1⟩) ?_
  all_goals exact fz
 ·refine ay ret (fun c5=>?_) (fun c5=>?_)
  ·refine ct (Z174.aq ⟨H0,H1⟩) ?_
   all_goals exact fz
  ·refine ct (Z175.aq ⟨H0,H1⟩) ?_
   all_goals exact fz
def af:cG 457 aW:=W2 40 F mix aF bB (.cons Z149.af (.cons Z169.af (.cons Z170.af (.cons Z174.af (.cons Z175.af .nil))))) Tryz.func457
def br (a0:aG)(a1:aa):md a0 a1=Z70.md a0 a1:=by
 unfold md Z70.md Z169.md Z170.md Z174.md Z175.md Z166.md Z64.md Z68.md Z69.md
 simp only [Z149.br,Z168.br,Z165.br,Z157.br,Z146.br,Z172.md_eq,Z66.md_eq,Z173.br,bne]
 cases Z51.md a0
 ·rfl
 cases h2:Z51.md a1.au
 ·rfl
 obtain ⟨⟨k1,k2⟩,_⟩:=Z51.tr h2
 have ht:decide (a1.au.cK<a0.cK)=!decide (a1.au.cK>=a0.cK):=by
  rw [Bool.eq_iff_iff];simp
 rw [ht]
 cases a1.au.bz==a0.bz
 ·rfl
 cases a1.au.cN==i64.wrap (a0.cN+1)
 ·rfl
 cases a1.au.dH==Z63.md a0
 ·rfl
 cases decide (a1.au.cK>=a0.cK)
 ·rfl
 have hk:a1.au.bM=1∨a1.au.bM=2∨a1.au.bM=3:=by omega
 generalize Z61.md a0.bQ (Z56.md a1.au) a1.cw=s1
 generalize Z61.md a0.bE (Z56.md a1.au) a1.cw=s2
 generalize Z61.md a0.bC (Z56.md a1.au) a1.cw=s3
 generalize Z50.md a0.bE=n1
 generalize Z50.md a0.bC=n2
 generalize decide (a1.au.cK<i64.wrap (a0.cF+a0.dw))=d1
 generalize eo a1.au.bQ a0.bE=e1
 generalize eo a1.au.bC a0.bC=e2
 generalize eo a1.au.bE a0.bE=e3
 generalize eo a1.au.bQ a0.bQ=e4
 generalize Z67.md a1.au a0=c1
 generalize (a1.au.dw==a0.dw)=w1
 generalize a1.au.bG=f1
 generalize a0.bG=f0
 rcases hk with hk | hk | hk<;>rw [hk]
 ·cases f0<;>cases f1<;>cases s1<;>rfl
 ·cases f0<;>cases n1<;>cases d1<;>cases f1<;>cases e1<;>cases c1<;>cases s2<;>rfl
 ·cases n2
  ·cases f1<;>cases f0<;>cases c1<;>cases e2<;>cases e3<;>cases w1<;>cases e4<;>cases s3<;>rfl
  ·cases c1<;>cases e2<;>cases e3<;>rfl
end Z176
namespace Z177
def F (x0:ck)(x1:aT):aK:=(call (Z176.R (x0,x1)) fun v1=>ret ((v1==1):Bool))
def md (a0:aG)(a1:aa):Bool:=(((Z176.md a0 a1)==1):Bool)
def gd (a0:aG)(a1:aa):Prop:=(aG.Sm (2^21) a0)/\(aa.Sm (2^21) a1)
def R:=RR (p2 gd) (u2 md)
def aq {a0 a1}(h:gd a0 a1):R ((aG.r a0),(aa.r a1))=some (md a0 a1):=aR (a:=(a0,a1)) h
def aW:=CN [.agg gi,.agg kT] oB RT.dec R
def bB (a0)(a1)(hg:gd a0 a1):F (aG.r a0) (aa.r a1)=ret (md a0 a1):=by
 obtain ⟨H0,H1⟩:=hg
 unfold F md
 try simp only [SS]
 refine ct (Z176.aq ⟨H0,H1⟩) ?_
 all_goals exact fz
def af:cG 373 aW:=W2 9 F mix aF bB (.cons Z176.af .nil) Tryz.func373
def br (a0:aG)(a1:aa):md a0 a1=Z71.md a0 a1:=by
 unfold md Z71.md
 first
 | (simp only [Z176.br];done)
 | (simp only [Z176.br];rfl)
 | rfl
end Z177
namespace Z178
inductive Pt where
 | p0 (a b:aD) (c d:Int)
def pid:Pt->Nat
 | .p0 ..=>2
def cg:Pt->List V
 | .p0 a b c d=>[.sl none 123 a,.sl none 123 b,.int .i64 c,.int .i64 d]
def bZ:Pt->List aZ
 | .p0 a b c d=>[]
def step (J:Pt->aK):Pt->aK
 | .p0 a b c d=>(cond (decide (d<c)) (m2 d (b.length:Int) (cond (d==0) (call (Z167.R (aT.at b (toNat d))) fun v1=>(cond (!v1) (ret (d:Int)) (cond (decide (d>0)) (cm (decide ((0:Int)<=(i64.wrap (d - 1)))) (cm (decide ((i64.wrap (d - 1))<(a.length:Int))) (call (Z177.R ((aT.at a (toNat (i64.wrap (d - 1)))).au,(aT.at b (toNat d)))) fun v2=>(cond (!v2) (ret (d:Int)) (J (.p0 a b c (i64.wrap (d+1)))))))) (J (.p0 a b c (i64.wrap (d+1))))))) (cond (decide (d>0)) (cm (decide ((0:Int)<=(i64.wrap (d - 1)))) (cm (decide ((i64.wrap (d - 1))<(a.length:Int))) (call (Z177.R ((aT.at a (toNat (i64.wrap (d - 1)))).au,(aT.at b (toNat d)))) fun v3=>(cond (!v3) (ret (d:Int)) (J (.p0 a b c (i64.wrap (d+1)))))))) (J (.p0 a b c (i64.wrap (d+1))))))) (ret ((-1):Int)))
def start (J:Pt->aK)(x0:aD):aK:=J (.p0 x0 x0 (x0.length:Int) 0)
def live:Nat->Live:=fun i=>match i with | 2=>[(0,none),(5,none),(6,none),(7,none)] | _=>[]
def md (a0:List aa):Int:=(dJ (S:=Unit) (β:=Int) (fun (i1:Nat) (y1:aa) (s3:Unit)=>(cond ((i1:Int)==0) (cond (!(Z167.md y1)) (.inr ((i1:Int):Int)) (cond (decide ((i1:Int)>0)) (cond (!(Z177.md ((a0.getD (toNat (i64.wrap ((i1:Int) - 1))) aa.zero).au) y1)) (.inr ((i1:Int):Int)) (.inl ())) (.inl ()))) (cond (decide ((i1:Int)>0)) (cond (!(Z177.md ((a0.getD (toNat (i64.wrap ((i1:Int) - 1))) aa.zero).au) y1)) (.inr ((i1:Int):Int)) (.inl ())) (.inl ())))) (fun (s3:Unit)=>((-1):Int)) 0 a0 ())
def gd (a0:List aa):Prop:=(bO (2^21) (fun y:aa=>aa.Sm (2^21) y) a0)
def R:=RR gd md
def aq {a0}(h:gd a0):R (a0.map aa.row)=some (md a0):=aR (a:=a0) h
def aW:=CN [pL 123] oI RT.dec R
def bB (a0)(hg:gd a0):∃n,start (iter step n) (a0.map aa.row)=ret (md a0):=by
 unfold gd at hg
 have H0:=hg
 unfold start md
 try simp only [SS]
 have Bh2:a0.length<=maxLen:=(by
   have:=(H0).1
   try simp only [maxLen] at *
   omega)
 refine ex_eq (out:=ret) (dc (z:=aa.zero)) ?_
 refine dR (p:=Pt.p0 (a0.map aa.row) (a0.map aa.row) (a0.length:Int) 0) fz ?_
 refine cu (pt:=fun (i1:Nat) (s3:Unit)=>Pt.p0 (a0.map aa.row) (a0.map aa.row) (a0.length:Int) (i1:Int)) (s:=(():Unit)) (out:=ret) (fun _ _=>True) (fun J i1 s3 h2 hih2=>?_) (fun s3 hih2=>?_) trivial
 ·simp only [step,SS]
  have bb_:=Bh2
  simp only [maxLen] at bb_
  have:=(H0).1
  refine bD.yes (by apply decide_eq_true;omega) ?_
  refine bD.yes aJ ?_
  refine bD.yes (aL h2) ?_
  refine bD.bif (fun c4=>?_) (fun c4=>?_)
  ·have dc4:=c4
   try simp only [DC] at dc4
   refine cr (Z167.aq (bO.getD (z:=aa.zero) H0 h2)) ?_
   refine bD.bif (fun c5=>?_) (fun c5=>?_)
   ·refine bD.inr ?_
    all_goals exact fz
   ·have dc5:=c5
    try simp only [DC] at dc5
    refine bD.bif (fun c6=>?_) (fun c6=>?_)
    ·have dc6:=c6
     try simp only [DC] at dc6
     refine bD.yes dt ?_
     refine bD.yes (have:=(H0).1;dt) ?_
     refine cr (Z177.aq ⟨(bO.getD (z:=aa.zero) H0 (by first | assumption | omega | (simp (disch:=omega) only [wi];omega) | (simp;omega))).1,(bO.getD (z:=aa.zero) H0 h2)⟩) ?_
     refine bD.bif (fun c7=>?_) (fun c7=>?_)
     ·refine bD.inr ?_
      all_goals exact fz
     ·refine bD.inl trivial ?_
      rw [aI h2 Bh2]
      all_goals exact fz
    ·refine bD.inl trivial ?_
     rw [aI h2 Bh2]
     all_goals exact fz
  ·have dc4:=c4
   try simp only [DC] at dc4
   refine bD.bif (fun c8=>?_) (fun c8=>?_)
   ·have dc8:=c8
    try simp only [DC] at dc8
    refine bD.yes dt ?_
    refine bD.yes (have:=(H0).1;dt) ?_
    refine cr (Z177.aq ⟨(bO.getD (z:=aa.zero) H0 (by first | assumption | omega | (simp (disch:=omega) only [wi];omega) | (simp;omega))).1,(bO.getD (z:=aa.zero) H0 h2)⟩) ?_
    refine bD.bif (fun c9=>?_) (fun c9=>?_)
    ·refine bD.inr ?_
     all_goals exact fz
    ·refine bD.inl trivial ?_
     rw [aI h2 Bh2]
     all_goals exact fz
   ·refine bD.inl trivial ?_
    rw [aI h2 Bh2]
    all_goals exact fz
 ·simp only [step,SS]
  have:=(H0).1
  refine dF (by apply decide_eq_false;omega) ?_
  refine ⟨0,?_⟩
  all_goals exact fz
def af:cG 349 aW:=L1 36 pid cg bZ live step start mix aF bB (.cons Z167.af (.cons Z177.af .nil)) Tryz.func349
def br (a0:List aa):md a0=Z72.md a0:=by
 unfold md Z72.md
 rw [<-dc (z:=aa.zero),<-dc (z:=aa.zero)]
 refine vr (fun _ _=>True) (fun i s hi _=>⟨?_,fun _ _=>trivial⟩) (fun _ _=>rfl) trivial
 simp only [Z167.br,Z177.br]
 by_cases h0:i=0
 ·subst h0;rfl
 ·have e:((i:Int)==0)=false:=beq_eq_false_iff_ne.2 (by omega)
  simp only [e,bA]
end Z178
namespace Z179
def F (x0:aD):aK:=(call (Z135.R ((x0.length:Int),1,12)) fun v1=>(cond v1 (call (Z178.R x0) fun v2=>ret ((decide (v2<0)):Bool)) bh))
def md (a0:List aa):Bool:=(cond (Z135.md (a0.length:Int) 1 12) ((decide ((Z178.md a0)<0)):Bool) (false:Bool))
def gd (a0:List aa):Prop:=(bO (2^21) (fun y:aa=>aa.Sm (2^21) y) a0)
def R:=RR gd md
def aq {a0}(h:gd a0):R (a0.map aa.row)=some (md a0):=aR (a:=a0) h
def aW:=CN [pL 123] oB RT.dec R
def bB (a0)(hg:gd a0):F (a0.map aa.row)=ret (md a0):=by
 unfold gd at hg
 have H0:=hg
 unfold F md
 try simp only [SS]
 refine ct (Z135.aq trivial) ?_
 refine ay ret (fun c1=>?_) (fun _=>rfl)
 refine ct (Z178.aq H0) ?_
 all_goals exact fz
def af:cG 219 aW:=W1 11 F mix aF bB (.cons Z135.af (.cons Z178.af .nil)) Tryz.func219
def tr {a0:List aa}(h:md a0=true):1<=a0.length/\a0.length<=12:=by simp [md,Z135.md] at h;omega
def br (a0:List aa):md a0=Z73.md a0:=by
 unfold md Z73.md
 first
 | (simp only [Z135.br,Z178.br];done)
 | (simp only [Z135.br,Z178.br];rfl)
 | rfl
end Z179
namespace Z180
def F (x0:aD):aK:=(cm (decide ((0:Int)<=(i64.wrap ((x0.length:Int) - 1)))) (cm (decide ((i64.wrap ((x0.length:Int) - 1))<(x0.length:Int))) (ret ((aT.at x0 (toNat (i64.wrap ((x0.length:Int) - 1)))).au:ck))))
def md (a0:List aa):aG:=(a0.getD (toNat (i64.wrap ((a0.length:Int) - 1))) aa.zero).au
def gd (a0:List aa):Prop:=(bO (2^21) (fun y:aa=>aa.Sm (2^21) y) a0)/\(1<=a0.length)
def R:=RR gd md
def aq {a0}(h:gd a0):R (a0.map aa.row)=some (aG.r (md a0)):=aR (a:=a0) h
def aW:=CN [pL 123] (.agg [.rd (.int .i64),.rd (.int .i64),.rd (.int .i64),.rd (.int .i64),.rd (.int .i64),.rd (.int .i64),.rd (.int .i64),.rd (.int .i64),.rd (.sl 3),.rd (.int .i64),.rd (.sl 3),.rd (.int .i64),.rd (.int .i64),.rd (.sl 3),.rd (.int .i64),.rd (.bool)]) RT.dec R
def bB (a0)(hg:gd a0):F (a0.map aa.row)=ret (aG.r (md a0)):=by
 obtain ⟨H0,HX⟩:=hg
 unfold F md
 try simp only [SS]
 refine ak (have:=(H0).1;dt) ?_
 refine ak (have:=(H0).1;dt) ?_
 all_goals exact fz
def af:cG 228 aW:=W1 10 F mix aF bB .nil Tryz.func228
def fW {a0:List aa}(hg:gd a0):aG.Sm (2^21) (md a0):=by
 unfold gd at hg;unfold md
 have h1:=hg.1.1
 have h2:=hg.2
 exact (bO.getD hg.1 (by simp (disch:=omega) only [Go.IntWalk.i64_in];omega)).1
end Z180
namespace Z181
def F (x0:bf):aK:=(call (Z136.R x0.bn) fun v1=>(cond (!v1) bh (cond (x0.bM==1) (call (Z135.R (x0.cq,0,999999)) fun v2=>(cond v2 (ret (((x0.bH.length:Int)==0):Bool)) bh)) (cond (x0.bM==2) (call (Z141.R x0.cq) fun v3=>(cond v3 (ret (((x0.bH.length:Int)==0):Bool)) bh)) (cond (x0.bM==3) (call (Z141.R x0.cq) fun v4=>(cond v4 (call (Z140.R x0.bH) fun v5=>ret (v5:Bool)) bh)) bh)))))
def md (a0:ah):Bool:=(cond (!(Z136.md a0.bn)) (false:Bool) (cond (a0.bM==1) (cond (Z135.md a0.cq 0 999999) (((a0.bH.length:Int)==0):Bool) (false:Bool)) (cond (a0.bM==2) (cond (Z141.md a0.cq) (((a0.bH.length:Int)==0):Bool) (false:Bool)) (cond (a0.bM==3) (cond (Z141.md a0.cq) ((Z140.md a0.bH):Bool) (false:Bool)) (false:Bool)))))
def gd (a0:ah):Prop:=(ah.Sm (2^21) a0)
def R:=RR gd md
def aq {a0}(h:gd a0):R (ah.r a0)=some (md a0):=aR (a:=a0) h
def aW:=CN [.agg sn] oB RT.dec R
def bB (a0)(hg:gd a0):F (ah.r a0)=ret (md a0):=by
 unfold gd at hg
 have H0:=hg
 unfold F md
 try simp only [SS]
 refine ct (Z136.aq (le_trans H0.1 (by decide))) ?_
 refine ay ret (fun _=>rfl) (fun c1=>?_)
 refine ay ret (fun c2=>?_) (fun c2=>?_)
 ·refine ct (Z135.aq trivial) ?_
  refine ay ret (fun c3=>?_) (fun _=>rfl)
  all_goals exact fz
 ·refine ay ret (fun c4=>?_) (fun c4=>?_)
  ·refine ct (Z141.aq trivial) ?_
   refine ay ret (fun c5=>?_) (fun _=>rfl)
   all_goals exact fz
  ·refine ay ret (fun c6=>?_) (fun _=>rfl)
   refine ct (Z141.aq trivial) ?_
   refine ay ret (fun c7=>?_) (fun _=>rfl)
   refine ct (Z140.aq (H0.2.mono (by decide) (fun x hx=>(le_trans hx (by decide))))) ?_
   all_goals exact fz
def af:cG 299 aW:=W1 41 F mix aF bB (.cons Z136.af (.cons Z135.af (.cons Z141.af (.cons Z140.af .nil)))) Tryz.func299
def br (a0:ah):md a0=Z75.md a0:=by
 unfold md Z75.md
 simp only [Z136.br,Z135.br,Z141.md,Z140.br]
 cases Z46.md a0.bn<;>simp
end Z181
namespace Z182
set_option maxHeartbeats 1000000 in
set_option maxRecDepth 100000 in
open Go.RowKit in
def calls (a b:aE)(w:World):Calls Tryz.prog 433 #[.string a,.string b] w fun e w'=>e=.returned (.int .i64 (Lib.compareBytes a.data.toList b.data.toList))/\w'=w:=by
 go_enter Tryz.func433,Tryz.ntmps433
 go_wp2
 rw [run_callFunc_extern Tryz.func505 (by kernel_rfl) (by kernel_rfl) (by kernel_rfl) (e:=Extern.BytealgCompare.compare) (by kernel_rfl),Lib.run_compareString]
 simp only [Result.andThen]
 rw [Oper.upon_value]
 go_wp2
 go_ret
 exact ⟨rfl,rfl⟩
def md (a0 a1:aE):Int:=Lib.compareBytes a0.data.toList a1.data.toList
def R (x:aE×aE):Option Int:=some (md x.1 x.2)
def aq {a0 a1:aE}(_:True):R (a0,a1)=some (md a0 a1):=rfl
def sem:List L->Option (List L)
 | [y0,y1]=>(R (y0.toStr,y1.toStr)).map RT.enc
 | _=>none
def aW:ga:=⟨[.rd .str,.rd .str],.one (.rd (.int .i64)),sem⟩
def af:cG 433 aW:=by
 refine uA ⟨Tryz.f433,Tryz.func433,by kernel_rfl,by kernel_rfl⟩ rfl (fun _=>rfl) fun ls r w vs Z hs hf=>?_
 simp only [aW] at hs
 unfold sem at hs
 split at hs
 ·rename_i a b
  cases hf with
  | cons h1 ht=>
   cases ht with
   | cons h2 ht=>
    cases ht
    have e1:_=Value.string a.toStr:=h1
    have e2:_=Value.string b.toStr:=h2
    subst e1;subst e2
    refine (calls a.toStr b.toStr w).mono fun e w' ⟨h3,h4⟩=>⟨_,h3,h4,?_⟩
    injection hs with hs
    subst hs
    rfl
 ·cases hs
end Z182
namespace Z183
def F (x0 x1:aE):aK:=(call (Z182.R (x0,x1)) fun v1=>ret (v1:Int))
def md (a0 a1:aE):Int:=((Z182.md a0 a1):Int)
def gd (a0 a1:aE):Prop:=True
def R:=RR (p2 gd) (u2 md)
def aq {a0 a1}(h:gd a0 a1):R (a0,a1)=some (md a0 a1):=aR (a:=(a0,a1)) h
def aW:=CN [pS,pS] oI RT.dec R
def bB (a0)(a1)(hg:gd a0 a1):F a0 a1=ret (md a0 a1):=by
 unfold F md
 try simp only [SS]
 refine ct (Z182.aq trivial) ?_
 all_goals exact fz
def af:cG 340 aW:=W2 8 F mix aF bB (.cons Z182.af .nil) Tryz.func340
end Z183
namespace Z184
def F (x0 x1:aE):aK:=(call (Z183.R (x0,x1)) fun v1=>ret (v1:Int))
def md (a0 a1:aE):Int:=((Z183.md a0 a1):Int)
def gd (a0 a1:aE):Prop:=True
def R:=RR (p2 gd) (u2 md)
def aq {a0 a1}(h:gd a0 a1):R (a0,a1)=some (md a0 a1):=aR (a:=(a0,a1)) h
def aW:=CN [pS,pS] oI RT.dec R
def bB (a0)(a1)(hg:gd a0 a1):F a0 a1=ret (md a0 a1):=by
 unfold F md
 try simp only [SS]
 refine ct (Z183.aq trivial) ?_
 all_goals exact fz
def af:cG 204 aW:=W2 8 F mix aF bB (.cons Z183.af .nil) Tryz.func204
def cmp:∀a b:List UInt8,Lib.compareBytes a b=(cond (Op.bytesLess a b) ((-1):Int) (cond (!((Op.bytesLess a b)||(a==b))) (1:Int) (0:Int)))
 | [],[]=>by simp [Lib.compareBytes,Op.bytesLess]
 | [],_::_=>by simp [Lib.compareBytes,Op.bytesLess]
 | _::_,[]=>by simp [Lib.compareBytes,Op.bytesLess]
 | a::xs,b::ys=>by
  simp only [Lib.compareBytes,Op.bytesLess]
  rw [cmp xs ys]
  by_cases h1:a<b
  ·simp [h1]
  ·by_cases h2:b<a
   ·have hne:a≠b:=fun e=>by subst e;exact h1 h2
    have hb:(a==b)=false:=beq_eq_false_iff_ne.2 hne
    simp [h1,h2,hb,hne]
   ·have he:a=b:=by
     have:=UInt8.lt_or_eq_of_le (UInt8.not_lt.1 h1)
     rcases this with h | h
     ·exact (h2 h).elim
     ·exact h.symm
    subst he
    simp [h1]
def br (a0 a1:aE):md a0 a1=Z76.md a0 a1:=by
 unfold md Z76.md Z183.md Z182.md
 rw [cmp,ByteArray.toList_eq,ByteArray.toList_eq]
end Z184
namespace Z185
inductive Pt where
 | p0 (a b:aD) (c d:Int)
def pid:Pt->Nat
 | .p0 ..=>2
def cg:Pt->List V
 | .p0 a b c d=>[.sl none 61 a,.sl none 61 b,.int .i64 c,.int .i64 d]
def bZ:Pt->List aZ
 | .p0 a b c d=>[]
def step (J:Pt->aK):Pt->aK
 | .p0 a b c d=>(cond (decide (d<c)) (m2 d (b.length:Int) (call (Z181.R (bf.at b (toNat d))) fun v1=>(cond (!v1) bh (cond (decide (d>0)) (cm (decide ((0:Int)<=(i64.wrap (d - 1)))) (cm (decide ((i64.wrap (d - 1))<(a.length:Int))) (call (Z184.R ((bf.at b (toNat d)).bn,(bf.at a (toNat (i64.wrap (d - 1)))).bn)) fun v2=>(cond (decide (v2<=0)) bh (J (.p0 a b c (i64.wrap (d+1)))))))) (J (.p0 a b c (i64.wrap (d+1)))))))) (ret ((decide ((a.length:Int)<=12)):Bool)))
def start (J:Pt->aK)(x0:aD):aK:=J (.p0 x0 x0 (x0.length:Int) 0)
def live:Nat->Live:=fun i=>match i with | 2=>[(0,none),(5,none),(6,none),(7,none)] | _=>[]
def md (a0:List ah):Bool:=(dJ (S:=Unit) (β:=Bool) (fun (i1:Nat) (y1:ah) (s3:Unit)=>(cond (!(Z181.md y1)) (.inr (false:Bool)) (cond (decide ((i1:Int)>0)) (cond (decide ((Z184.md (y1.bn) ((a0.getD (toNat (i64.wrap ((i1:Int) - 1))) ah.zero).bn))<=0)) (.inr (false:Bool)) (.inl ())) (.inl ())))) (fun (s3:Unit)=>((decide ((a0.length:Int)<=12)):Bool)) 0 a0 ())
def gd (a0:List ah):Prop:=(bO (2^21) (fun y:ah=>ah.Sm (2^21) y) a0)
def R:=RR gd md
def aq {a0}(h:gd a0):R (a0.map ah.row)=some (md a0):=aR (a:=a0) h
def aW:=CN [pL 61] oB RT.dec R
def bB (a0)(hg:gd a0):∃n,start (iter step n) (a0.map ah.row)=ret (md a0):=by
 unfold gd at hg
 have H0:=hg
 unfold start md
 try simp only [SS]
 have Bh2:a0.length<=maxLen:=(by
   have:=(H0).1
   try simp only [maxLen] at *
   omega)
 refine ex_eq (out:=ret) (dc (z:=ah.zero)) ?_
 refine dR (p:=Pt.p0 (a0.map ah.row) (a0.map ah.row) (a0.length:Int) 0) fz ?_
 refine cu (pt:=fun (i1:Nat) (s3:Unit)=>Pt.p0 (a0.map ah.row) (a0.map ah.row) (a0.length:Int) (i1:Int)) (s:=(():Unit)) (out:=ret) (fun _ _=>True) (fun J i1 s3 h2 hih2=>?_) (fun s3 hih2=>?_) trivial
 ·simp only [step,SS]
  have bb_:=Bh2
  simp only [maxLen] at bb_
  have:=(H0).1
  refine bD.yes (by apply decide_eq_true;omega) ?_
  refine bD.yes aJ ?_
  refine bD.yes (aL h2) ?_
  refine cr (Z181.aq (bO.getD (z:=ah.zero) H0 h2)) ?_
  refine bD.bif (fun _=>bD.inr rfl) (fun c4=>?_)
  have dc4:=c4
  try simp only [DC] at dc4
  refine bD.bif (fun c5=>?_) (fun c5=>?_)
  ·have dc5:=c5
   try simp only [DC] at dc5
   refine bD.yes dt ?_
   refine bD.yes (have:=(H0).1;dt) ?_
   refine cr (Z184.aq trivial) ?_
   refine bD.bif (fun _=>bD.inr rfl) (fun c6=>?_)
   refine bD.inl trivial ?_
   rw [aI h2 Bh2]
   all_goals exact fz
  ·refine bD.inl trivial ?_
   rw [aI h2 Bh2]
   all_goals exact fz
 ·simp only [step,SS]
  have:=(H0).1
  refine dF (by apply decide_eq_false;omega) ?_
  refine ⟨0,?_⟩
  all_goals exact fz
def af:cG 565 aW:=L1 35 pid cg bZ live step start mix aF bB (.cons Z181.af (.cons Z184.af .nil)) Tryz.func565
def br (a0:List ah):md a0=Z77.md a0:=by
 unfold md Z77.md
 refine lS (fun i x _ s=>?_) (fun s=>rfl)
 simp only [Z181.br,Z184.br,Z76.swap]
end Z185
namespace Z186
inductive Pt where
 | p0 (a:aD) (b c:Int) (d:aD)
def pid:Pt->Nat
 | .p0 ..=>3
def cg:Pt->List V
 | .p0 a b c d=>[.own 0,.sl none 5 a,.int .i64 b,.int .i64 c]
def bZ:Pt->List aZ
 | .p0 a b c d=>[.row 3 d]
def step (J:Pt->aK):Pt->aK
 | .p0 a b c d=>(cond (decide (c<b)) (m2 c (a.length:Int) (cm (ff (((d.length:Int)+1)*8)) (J (.p0 a b (i64.wrap (c+1)) (d++[[L.int (i64.wrap (jG a (toNat c)))]]))))) (ret (d:aD)))
def start (J:Pt->aK)(x0:aD):aK:=J (.p0 x0 (x0.length:Int) 0 [[L.int (x0.length:Int)]])
def live:Nat->Live:=fun i=>match i with | 3=>[(3,none),(9,none),(10,none),(11,none)] | _=>[]
def md (a0:List Int):List Int:=([(a0.length:Int)]++a0.map (fun (y1:Int)=>(i64.wrap y1)))
def gd (a0:List Int):Prop:=(bO (2^38) (fun y:Int=>True) a0)
def R:=RR gd md
def aq {a0}(h:gd a0):R (a0.map bu)=some ((md a0).map bu):=aR (a:=a0) h
def aW:=CN [pL 5] (oL 3) RT.dec R
def bB (a0)(hg:gd a0):∃n,start (iter step n) (a0.map bu)=ret ((md a0).map bu):=by
 unfold gd at hg
 have H0:=hg
 unfold start md
 try simp only [SS]
 have Bh2:a0.length<=maxLen:=(by
   have:=(H0).1
   try simp only [maxLen] at *
   omega)
 refine ex_eq (out:=(fun b:List Int=>ret ((b.map bu):aD))) (mo (g:=fun (y1:Int)=>(i64.wrap y1)) (z:=0) (t:=fun (s3:List Int)=>s3) (s:=[(a0.length:Int)])) ?_
 refine dR (p:=Pt.p0 (a0.map bu) (a0.length:Int) 0 ([(a0.length:Int)].map bu)) fz ?_
 refine cu (pt:=fun (i1:Nat) (s3:List Int)=>Pt.p0 (a0.map bu) (a0.length:Int) (i1:Int) (s3.map bu)) (s:=([(a0.length:Int)]:List Int)) (out:=(fun b:List Int=>ret ((b.map bu):aD))) (fun (i1:Nat) (s3:List Int)=>s3.length<=[(a0.length:Int)].length+1*i1) (fun J i1 s3 h2 hih2=>?_) (fun s3 hih2=>?_) (by simp)
 ·simp only [step,SS]
  have gr_:=hih2
  try simp only [LN] at gr_
  have:=(H0).1
  have bb_:=Bh2
  simp only [maxLen] at bb_
  have:=(H0).1
  refine bD.yes (by apply decide_eq_true;omega) ?_
  refine bD.yes aJ ?_
  refine bD.yes (aL h2) ?_
  refine bD.yes lm ?_
  refine bD.inl (by
    have g_:=hih2
    try simp only [LN] at g_ ⊢
    first | omega | (simp;done) | (simp;omega)) ?_
  rw [aI h2 Bh2]
  all_goals exact fz
 ·simp only [step,SS]
  have gr_:=hih2
  try simp only [LN] at gr_
  have:=(H0).1
  have:=(H0).1
  refine dF (by apply decide_eq_false;omega) ?_
  refine ⟨0,?_⟩
  all_goals exact fz
def af:cG 602 aW:=L1 22 pid cg bZ live step start mix aF bB .nil Tryz.func602
def len (a0:List Int):(md a0).length=1+a0.length:=by simp [md];omega
def br (a0:List Int):md a0=Z78.md a0:=by
 unfold md Z78.md
 first
 | (simp only [id];done)
 | (simp only [id];rfl)
 | rfl
end Z186
namespace Z187
def F (x0:aE):aK:=(cm (decide ((x0.size:Int)<=140737488355328)) (call (Z186.R (iH x0)) fun v1=>ret (v1:aD)))
def md (a0:aE):List Int:=(Z186.md (jh a0))
def gd (a0:aE):Prop:=(a0.size<=(2^21))
def R:=RR gd md
def aq {a0}(h:gd a0):R a0=some ((md a0).map bu):=aR (a:=a0) h
def aW:=CN [pS] (oL 3) RT.dec R
def bB (a0)(hg:gd a0):F a0=ret ((md a0).map bu):=by
 unfold gd at hg
 have H0:=hg
 unfold F md
 try simp only [SS]
 refine ak (have:=H0;dt) ?_
 refine bg ((Z186.md (jh a0)).map bu) (rq (Z186.aq (a0:=(jh a0)) ⟨(have:=gX a0;have:=H0;om),fun _ _=>trivial⟩)) ?_
 try simp only [SS]
 all_goals exact fz
def af:cG 592 aW:=W1 6 F mix aF bB (.cons Z186.af .nil) Tryz.func592
def len (a0:aE):(md a0).length=1+a0.size:=by simp [md,Z186.len,gX]
def br (a0:aE):md a0=Z79.md a0:=by
 unfold md Z79.md
 first
 | (simp only [Z186.br];done)
 | (simp only [Z186.br];rfl)
 | rfl
end Z187
namespace Z188
inductive Pt where
 | p0 (a:aD) (b c:Int) (d:aD)
def pid:Pt->Nat
 | .p0 ..=>3
def cg:Pt->List V
 | .p0 a b c d=>[.own 0,.sl none 9 a,.int .i64 b,.int .i64 c]
def bZ:Pt->List aZ
 | .p0 a b c d=>[.row 3 d]
def step (J:Pt->aK):Pt->aK
 | .p0 a b c d=>(cond (decide (c<b)) (m2 c (a.length:Int) (call (Z187.R (qk a (toNat c))) fun v1=>(cm (ff (((d.length:Int)+(v1.length:Int))*8)) (J (.p0 a b (i64.wrap (c+1)) (d++v1)))))) (ret (d:aD)))
def start (J:Pt->aK)(x0:bf):aK:=(call (Z187.R x0.bn) fun v1=>(cm (ff (((v1.length:Int)+3)*8)) (J (.p0 x0.bH (x0.bH.length:Int) 0 (v1++[[L.int x0.bM],[L.int x0.cq],[L.int (x0.bH.length:Int)]])))))
def live:Nat->Live:=fun i=>match i with | 3=>[(3,none),(19,none),(20,none),(21,none)] | _=>[]
def md (a0:ah):List Int:=(((Z187.md a0.bn)++[a0.bM,a0.cq,(a0.bH.length:Int)])++a0.bH.flatMap (fun (y1:aE)=>(Z187.md y1)))
def gd (a0:ah):Prop:=(ah.Sm (2^21) a0)
def R:=RR gd md
def aq {a0}(h:gd a0):R (ah.r a0)=some ((md a0).map bu):=aR (a:=a0) h
def aW:=CN [.agg sn] (oL 3) RT.dec R
def bB (a0)(hg:gd a0):∃n,start (iter step n) (ah.r a0)=ret ((md a0).map bu):=by
 unfold gd at hg
 have H0:=hg
 unfold start md
 try simp only [SS]
 refine cx (Z187.aq H0.1) ?_
 try simp only [SS]
 refine dK (have:=Z187.len a0.bn;have:=H0.1;lm) ?_
 have Bh2:a0.bH.length<=maxLen:=(by
   have:=(H0.2).1
   try simp only [maxLen] at *
   omega)
 refine ex_eq (out:=(fun b:List Int=>ret ((b.map bu):aD))) (qG (g:=fun (y1:aE)=>(Z187.md y1)) (z:=⟨#[]⟩) (t:=fun (s3:List Int)=>s3) (s:=((Z187.md a0.bn)++[a0.bM,a0.cq,(a0.bH.length:Int)]))) ?_
 refine dR (p:=Pt.p0 (a0.bH.map cI) (a0.bH.length:Int) 0 (((Z187.md a0.bn)++[a0.bM,a0.cq,(a0.bH.length:Int)]).map bu)) fz ?_
 refine cu (pt:=fun (i1:Nat) (s3:List Int)=>Pt.p0 (a0.bH.map cI) (a0.bH.length:Int) (i1:Int) (s3.map bu)) (s:=(((Z187.md a0.bn)++[a0.bM,a0.cq,(a0.bH.length:Int)]):List Int)) (out:=(fun b:List Int=>ret ((b.map bu):aD))) (fun (i1:Nat) (s3:List Int)=>s3.length<=4+a0.bn.size+i1*(2^21+1)) (fun J i1 s3 h2 hih2=>?_) (fun s3 hih2=>?_) (by
   have:=(H0.2).1
   have:=Z187.len a0.bn
   have:=H0.1
   try simp only [LN]
   try simp
   try omega)
 ·simp only [step,SS]
  have gr_:=hih2
  try simp only [LN] at gr_
  have:=H0.1
  have bb_:=Bh2
  simp only [maxLen] at bb_
  have:=(H0.2).1
  refine bD.yes (by apply decide_eq_true;omega) ?_
  refine bD.yes aJ ?_
  refine bD.yes (aL h2) ?_
  refine cr (Z187.aq (bO.getD (z:=⟨#[]⟩) H0.2 h2)) ?_
  try simp only [SS]
  refine bD.yes (have:=Z187.len (a0.bH.getD i1 ⟨#[]⟩);have:=(bO.getD (z:=⟨#[]⟩) H0.2 h2);lm) ?_
  refine bD.inl (by
    have:=Z187.len (a0.bH.getD i1 ⟨#[]⟩)
    have:=(bO.getD (z:=⟨#[]⟩) H0.2 h2)
    have g_:=hih2
    try simp only [LN] at g_ ⊢
    first | omega | (simp;done) | (simp;omega)) ?_
  rw [aI h2 Bh2]
  all_goals exact fz
 ·simp only [step,SS]
  have gr_:=hih2
  try simp only [LN] at gr_
  have:=H0.1
  have:=(H0.2).1
  refine dF (by apply decide_eq_false;omega) ?_
  refine ⟨0,?_⟩
  all_goals exact fz
def af:cG 577 aW:=L1 31 pid cg bZ live step start mix aF bB (.cons Z187.af .nil) Tryz.func577
def fW {a0:ah}(hg:gd a0):bO (2^43 - 1) (fun y:Int=>True) (md a0):=by
 unfold gd at hg
 refine ⟨?_,fun _ _=>trivial⟩
 unfold md
 have h1:=lM (xs:=a0.bH) (g:=fun y=>Z187.md y) (n:=2^21+1) (fun x hx=>by rw [Z187.len];have:=hg.2.2 x hx;omega)
 have h2:=hg.1
 have h3:=hg.2.1
 have h4:=Z187.len a0.bn
 simp only [List.length_append,List.length_cons,List.length_nil]
 omega
def br (a0:ah):md a0=Z80.md a0:=by
 unfold md Z80.md
 first
 | (simp only [Z187.br];done)
 | (simp only [Z187.br];rfl)
 | rfl
end Z188
namespace Z189
def F (x0:bf):aK:=(call (Z188.R x0) fun v1=>(cm (ff (((1:Int)+(v1.length:Int))*8)) (call (Z152.R ([[L.int 227]]++v1)) fun v2=>ret (v2:Int))))
def md (a0:ah):Int:=((Z152.md ([227]++(Z188.md a0))):Int)
def gd (a0:ah):Prop:=(ah.Sm (2^21) a0)
def R:=RR gd md
def aq {a0}(h:gd a0):R (ah.r a0)=some (md a0):=aR (a:=a0) h
def aW:=CN [.agg sn] oI RT.dec R
def bB (a0)(hg:gd a0):F (ah.r a0)=ret (md a0):=by
 unfold gd at hg
 have H0:=hg
 unfold F md
 try simp only [SS]
 refine ct (Z188.aq H0) ?_
 try simp only [SS]
 refine ak (have:=((Z188.fW (a0:=a0) H0)).1;lm) ?_
 refine bg (Z152.md ([227]++(Z188.md a0))) (rq (Z152.aq (a0:=([227]++(Z188.md a0))) ⟨(have:=((Z188.fW (a0:=a0) H0)).1;om),fun _ _=>trivial⟩)) ?_
 all_goals exact fz
def af:cG 541 aW:=W1 8 F mix aF bB (.cons Z188.af (.cons Z152.af .nil)) Tryz.func541
def br (a0:ah):md a0=Z81.md a0:=by
 unfold md Z81.md
 first
 | (simp only [Z188.br,Z152.br];done)
 | (simp only [Z188.br,Z152.br];rfl)
 | rfl
end Z189
namespace Z190
inductive Pt where
 | p0 (a:aD) (b c:Int) (d:aD)
def pid:Pt->Nat
 | .p0 ..=>3
def cg:Pt->List V
 | .p0 a b c d=>[.own 0,.sl none 61 a,.int .i64 b,.int .i64 c]
def bZ:Pt->List aZ
 | .p0 a b c d=>[.row 3 d]
def step (J:Pt->aK):Pt->aK
 | .p0 a b c d=>(cond (decide (c<b)) (m2 c (a.length:Int) (call (Z189.R (bf.at a (toNat c))) fun v1=>(cm (ff (((d.length:Int)+1)*8)) (J (.p0 a b (i64.wrap (c+1)) (d++[[L.int v1]])))))) (ret (d:aD)))
def start (J:Pt->aK)(x0:aD):aK:=J (.p0 x0 (x0.length:Int) 0 [])
def live:Nat->Live:=fun i=>match i with | 3=>[(3,some 3),(7,none),(8,none),(9,none)] | _=>[]
def md (a0:List ah):List Int:=(a0.map (fun (y1:ah)=>(Z189.md y1)))
def gd (a0:List ah):Prop:=(bO (2^21) (fun y:ah=>ah.Sm (2^21) y) a0)
def R:=RR gd md
def aq {a0}(h:gd a0):R (a0.map ah.row)=some ((md a0).map bu):=aR (a:=a0) h
def aW:=CN [pL 61] (oL 3) RT.dec R
def bB (a0)(hg:gd a0):∃n,start (iter step n) (a0.map ah.row)=ret ((md a0).map bu):=by
 unfold gd at hg
 have H0:=hg
 unfold start md
 try simp only [SS]
 have Bh2:a0.length<=maxLen:=(by
   have:=(H0).1
   try simp only [maxLen] at *
   omega)
 refine ex_eq (out:=(fun b:List Int=>ret ((b.map bu):aD))) (ng (g:=fun (y1:ah)=>(Z189.md y1)) (z:=ah.zero) (t:=fun (s3:List Int)=>s3)) ?_
 refine dR (p:=Pt.p0 (a0.map ah.row) (a0.length:Int) 0 ([].map bu)) fz ?_
 refine cu (pt:=fun (i1:Nat) (s3:List Int)=>Pt.p0 (a0.map ah.row) (a0.length:Int) (i1:Int) (s3.map bu)) (s:=([]:List Int)) (out:=(fun b:List Int=>ret ((b.map bu):aD))) (fun (i1:Nat) (s3:List Int)=>s3.length<=([]:List Int).length+1*i1) (fun J i1 s3 h2 hih2=>?_) (fun s3 hih2=>?_) (by simp)
 ·simp only [step,SS]
  have gr_:=hih2
  try simp only [LN] at gr_
  have bb_:=Bh2
  simp only [maxLen] at bb_
  have:=(H0).1
  refine bD.yes (by apply decide_eq_true;omega) ?_
  refine bD.yes aJ ?_
  refine bD.yes (aL h2) ?_
  refine cr (Z189.aq (bO.getD (z:=ah.zero) H0 h2)) ?_
  refine bD.yes lm ?_
  refine bD.inl (by
    have g_:=hih2
    try simp only [LN] at g_ ⊢
    first | omega | (simp;done) | (simp;omega)) ?_
  rw [aI h2 Bh2]
  all_goals exact fz
 ·simp only [step,SS]
  have gr_:=hih2
  try simp only [LN] at gr_
  have:=(H0).1
  refine dF (by apply decide_eq_false;omega) ?_
  refine ⟨0,?_⟩
  all_goals exact fz
def af:cG 564 aW:=L1 20 pid cg bZ live step start mix aF bB (.cons Z189.af .nil) Tryz.func564
def len (a0:List ah):(md a0).length=a0.length:=by simp [md]
def br (a0:List ah):md a0=Z82.md a0:=by
 unfold md Z82.md
 first
 | (simp only [Z189.br];done)
 | (simp only [Z189.br];rfl)
 | rfl
end Z190
namespace Z191
def F (x0:aD):aK:=(call (Z152.R x0) fun v1=>ret (v1:Int))
def md (a0:List Int):Int:=((Z152.md a0):Int)
def gd (a0:List Int):Prop:=(bO (2^42) (fun y:Int=>True) a0)
def R:=RR gd md
def aq {a0}(h:gd a0):R (a0.map bu)=some (md a0):=aR (a:=a0) h
def aW:=CN [pL 3] oI RT.dec R
def bB (a0)(hg:gd a0):F (a0.map bu)=ret (md a0):=by
 unfold gd at hg
 have H0:=hg
 unfold F md
 try simp only [SS]
 refine ct (Z152.aq (H0.mono (by decide) (fun x hx=>trivial))) ?_
 all_goals exact fz
def af:cG 578 aW:=W1 5 F mix aF bB (.cons Z152.af .nil) Tryz.func578
def br (a0:List Int):md a0=Z54.md a0:=by
 unfold md
 exact Z152.br a0
end Z191
namespace Z192
def F (x0 x1:Int):aK:=(call (Z191.R [[L.int 229],[L.int x0],[L.int x1]]) fun v1=>ret (v1:Int))
def md (a0 a1:Int):Int:=((Z191.md [229,a0,a1]):Int)
def gd (a0 a1:Int):Prop:=True
def R:=RR (p2 gd) (u2 md)
def aq {a0 a1}(h:gd a0 a1):R (a0,a1)=some (md a0 a1):=aR (a:=(a0,a1)) h
def aW:=CN [pI,pI] oI RT.dec R
def bB (a0)(a1)(hg:gd a0 a1):F a0 a1=ret (md a0 a1):=by
 unfold F md
 try simp only [SS]
 refine bg (Z191.md [229,a0,a1]) (rq (Z191.aq (a0:=[229,a0,a1]) ⟨(om),fun _ _=>trivial⟩)) ?_
 all_goals exact fz
def af:cG 576 aW:=W2 9 F mix aF bB (.cons Z191.af .nil) Tryz.func576
def br (a0 a1:Int):md a0 a1=Z83.md a0 a1:=by
 unfold md Z83.md
 first
 | (simp only [Z191.br];done)
 | (simp only [Z191.br];rfl)
 | rfl
end Z192
namespace Z193
inductive Pt where
 | p0 (a:aD) (b:Int) (c:aD)
def pid:Pt->Nat
 | .p0 ..=>3
def cg:Pt->List V
 | .p0 a b c=>[.sl none 3 a,.own 0,.int .i64 b]
def bZ:Pt->List aZ
 | .p0 a b c=>[.row 3 c]
def step (J:Pt->aK):Pt->aK
 | .p0 a b c=>(cond (decide (b<(a.length:Int))) (cond (decide ((i64.wrap (b+1))<(a.length:Int))) (m2 b (a.length:Int) (cm (decide ((0:Int)<=(i64.wrap (b+1)))) (cm (decide ((i64.wrap (b+1))<(a.length:Int))) (call (Z192.R ((jG a (toNat b)),(jG a (toNat (i64.wrap (b+1)))))) fun v1=>(cm (ff (((c.length:Int)+1)*8)) (J (.p0 a (i64.wrap (b+2)) (c++[[L.int v1]])))))))) (m2 b (a.length:Int) (cm (ff (((c.length:Int)+1)*8)) (J (.p0 a (i64.wrap (b+2)) (c++[[L.int (jG a (toNat b))]])))))) (ret (c:aD)))
def start (J:Pt->aK)(x0:aD):aK:=J (.p0 x0 0 [])
def live:Nat->Live:=fun i=>match i with | 3=>[(0,none),(3,some 3),(4,none)] | _=>[]
def md (a0:List Int):List Int:=Z84.md a0
def gd (a0:List Int):Prop:=bO (2^38) (fun y:Int=>True) a0
def R:=RR gd md
def aq {a0}(h:gd a0):R (a0.map bu)=some ((md a0).map bu):=aR (a:=a0) h
def aW:=CN [pL 3] (oL 3) RT.dec R
def bB (a0)(hg:gd a0):∃n,start (iter step n) (a0.map bu)=ret ((md a0).map bu):=by
 obtain ⟨H1,_⟩:=hg
 have key:∀(k i:Nat) (c:List Int),i+k=a0.length->c.length<=i->∃n,iter step n (Pt.p0 (a0.map bu) (i:Int) (c.map bu))=ret ((c++Z84.up (a0.drop i)).map bu:aD):=by
  intro k
  induction k using Nat.strongRecOn with
  | _ k ih=>
  intro i c hi hc
  match k,hi,ih with
  | 0,hi,_=>
   refine ⟨1,?_⟩
   show step (iter step 0) (Pt.p0 _ _ _)=_
   simp only [step,List.length_map]
   refine cM (decide_eq_false (by omega)) ?_
   rw [List.drop_eq_nil_of_le (by omega)]
   simp only [Z84.up,List.append_nil]
  | 1,hi,ih=>
   obtain ⟨n,hn⟩:=ih 0 (by omega) (i+1) (c++[a0.getD i 0]) (by omega) (by simp;omega)
   have h2:∃n,iter step n (Pt.p0 (a0.map bu) (i64.wrap ((i:Int)+2)) ((c++[a0.getD i 0]).map bu))=ret ((c++[a0.getD i 0]).map bu:aD):=by
    refine ⟨1,?_⟩
    show step (iter step 0) (Pt.p0 _ _ _)=_
    simp only [step,List.length_map]
    refine cM (decide_eq_false ?_) rfl
    rw [Go.IntWalk.i64_in _ (by omega)];omega
   obtain ⟨n,hn⟩:=h2
   refine ⟨n+1,?_⟩
   show step (iter step n) (Pt.p0 _ _ _)=_
   simp only [step,List.length_map,cB,gU]
   refine ak (decide_eq_true (by omega)) (cM (decide_eq_false ?_) (ak (decide_eq_true (by omega)) (ak (decide_eq_true (by omega)) (ak (je (by omega)) ?_))))
   ·rw [Go.IntWalk.i64_in _ (by omega)];omega
   ·rw [List.map_append] at hn
    refine Eq.trans hn ?_
    rw [List.drop_eq_getElem_cons (by omega),List.drop_eq_nil_of_le (by omega),eS (by omega:i<a0.length)]
    simp only [Z84.up,List.map_append]
  | k+2,hi,ih=>
   obtain ⟨n,hn⟩:=ih k (by omega) (i+2) (c++[Z83.md (a0.getD i 0) (a0.getD (i+1) 0)]) (by omega) (by simp;omega)
   refine ⟨n+1,?_⟩
   show step (iter step n) (Pt.p0 _ _ _)=_
   have w1:i64.wrap ((i:Int)+1)=((i+1:Nat):Int):=by rw [Go.IntWalk.i64_in _ (by omega)];omega
   have w2:i64.wrap ((i:Int)+2)=((i+2:Nat):Int):=by rw [Go.IntWalk.i64_in _ (by omega)];omega
   simp only [step,List.length_map,w1,w2,cB,gU]
   refine ak (decide_eq_true (by omega)) (ak (decide_eq_true (by omega)) (ak (decide_eq_true (by omega)) (ak (decide_eq_true (by omega)) (ak (decide_eq_true (by omega)) (ak (decide_eq_true (by omega)) ?_)))))
   refine bg (Z83.md (a0.getD i 0) (a0.getD (i+1) 0)) (by have:=Z192.aq (a0:=a0.getD i 0) (a1:=a0.getD (i+1) 0) trivial;rw [Z192.br] at this;exact this) (ak (je (by omega)) ?_)
   rw [List.map_append] at hn
   refine Eq.trans hn ?_
   rw [List.drop_eq_getElem_cons (by omega:i<a0.length),List.drop_eq_getElem_cons (by omega:i+1<a0.length),eS (by omega:i<a0.length),eS (by omega:i+1<a0.length)]
   simp only [Z84.up,List.append_assoc,List.cons_append,List.nil_append]
 have:=key a0.length 0 [] (by omega) (by simp)
 unfold start md Z84.md
 simpa using this
def af:cG 587 aW:=L1 38 pid cg bZ live step start mix aF bB (.cons Z192.af .nil) Tryz.func587
def br (a0:List Int):md a0=Z84.md a0:=by
 unfold md Z84.md
 first
 | (simp only [Z192.br];done)
 | (simp only [Z192.br];rfl)
 | rfl
end Z193
namespace Z194
inductive Pt where
 | p0 (a:aD)
 | p1 (a:aD)
def pid:Pt->Nat
 | .p0 ..=>3
 | .p1 ..=>3
def cg:Pt->List V
 | .p0 a=>[.sl none 3 a]
 | .p1 a=>[.own 0]
def bZ:Pt->List aZ
 | .p0 a=>[]
 | .p1 a=>[.row 3 a]
def step (J:Pt->aK):Pt->aK
 | .p0 a=>(cond (decide ((a.length:Int)>1)) (call (Z193.R a) fun v1=>J (.p1 v1)) (cm (decide ((0:Int)<(a.length:Int))) (ret ((jG a 0):Int))))
 | .p1 a=>(cond (decide ((a.length:Int)>1)) (call (Z193.R a) fun v1=>J (.p1 v1)) (cm (decide ((0:Int)<(a.length:Int))) (ret ((jG a 0):Int))))
def start (J:Pt->aK)(x0:aD):aK:=(cond ((x0.length:Int)==0) (call (Z191.R [[L.int 229]]) fun v1=>ret (v1:Int)) (J (.p0 x0)))
def live:Nat->Live:=fun i=>match i with | 3=>[(0,none)] | _=>[]
def md (a0:List Int):Int:=Z85.md a0
def gd (a0:List Int):Prop:=bO (2^38) (fun y:Int=>True) a0
def R:=RR gd md
def aq {a0}(h:gd a0):R (a0.map bu)=some (md a0):=aR (a:=a0) h
def aW:=CN [pL 3] oI RT.dec R
def bB (a0)(hg:gd a0):∃n,start (iter step n) (a0.map bu)=ret (md a0):=by
 have one:∀(l:List Int) (r:Int) (n:Nat),bO (2^38) (fun y:Int=>True) l->0<l.length->(if l.length>1 then iter step n (Pt.p1 ((Z84.up l).map bu))=ret r else ret (l.getD 0 0:Int)=ret r)->step (iter step n) (Pt.p0 (l.map bu))=ret r/\step (iter step n) (Pt.p1 (l.map bu))=ret r:=by
  intro l r n hl hp h
  simp only [step,List.length_map,gU]
  by_cases h1:l.length>1
  ·rw [if_pos h1] at h
   have hx:∀y:aK,(cond (decide ((l.length:Int)>1)) (call (Z193.R (l.map bu)) (fun v1=>iter step n (Pt.p1 v1))) y)=ret r:=fun y=>
    ak (decide_eq_true (by omega)) (bg ((Z84.up l).map bu) (Z193.aq hl) h)
   exact ⟨hx _,hx _⟩
  ·rw [if_neg h1] at h
   have hx:∀y:aK,(cond (decide ((l.length:Int)>1)) y (cond (decide ((0:Int)<(l.length:Int))) (ret (l.getD 0 0:Int)) none))=ret r:=fun y=>
    cM (decide_eq_false (by omega)) (ak (decide_eq_true (by omega)) h)
   exact ⟨hx _,hx _⟩
 have key:∀(k:Nat) (l:List Int),bO (2^38) (fun y:Int=>True) l->0<l.length->l.length<=k+1->∃n,step (iter step n) (Pt.p0 (l.map bu))=ret (Z85.top k l)/\step (iter step n) (Pt.p1 (l.map bu))=ret (Z85.top k l):=by
  intro k
  induction k with
  | zero=>
   intro l hl hp hk
   exact ⟨0,one l _ 0 hl hp (by rw [if_neg (by omega)];rfl)⟩
  | succ k ih=>
   intro l hl hp hk
   by_cases h1:l.length>1
   ·have hu:=Z84.ku l
    have hl1:=hl.1
    obtain ⟨n,_,hn⟩:=ih (Z84.up l) ⟨by omega,fun _ _=>trivial⟩ (by omega) (by omega)
    refine ⟨n+1,one l _ (n+1) hl hp ?_⟩
    rw [if_pos h1]
    refine Eq.trans hn ?_
    unfold Z85.top
    rw [if_pos h1]
    cases k<;>rfl
   ·refine ⟨0,one l _ 0 hl hp ?_⟩
    rw [if_neg h1]
    unfold Z85.top
    rw [if_neg h1]
 unfold md Z85.md
 unfold start
 simp only [List.length_map]
 by_cases h0:a0.length=0
 ·have e:((a0.length:Int)==0)=true:=by simpa using List.length_eq_zero_iff.1 h0
  refine ⟨0,?_⟩
  rw [e]
  refine bg (Z54.md [229]) (by have:=Z191.aq (a0:=[229]) ⟨by decide,fun _ _=>trivial⟩;rw [Z191.br] at this;exact this) ?_
  rw [if_pos h0]
 ·have e:((a0.length:Int)==0)=false:=beq_eq_false_iff_ne.2 (by omega)
  obtain ⟨n,hn,_⟩:=key a0.length a0 hg (by omega) (by omega)
  refine ⟨n+1,?_⟩
  rw [e,if_neg h0]
  exact hn
def af:cG 579 aW:=L1 16 pid cg bZ live step start mix aF bB (.cons Z191.af (.cons Z193.af .nil)) Tryz.func579
def br (a0:List Int):md a0=Z85.md a0:=by
 unfold md Z85.md
 first
 | (simp only [Z191.br,Z193.br];done)
 | (simp only [Z191.br,Z193.br];rfl)
 | rfl
end Z194
namespace Z195
def F (x0 x1:Int):aK:=(call (Z191.R [[L.int 231],[L.int x0],[L.int x1]]) fun v1=>ret (v1:Int))
def md (a0 a1:Int):Int:=((Z191.md [231,a0,a1]):Int)
def gd (a0 a1:Int):Prop:=True
def R:=RR (p2 gd) (u2 md)
def aq {a0 a1}(h:gd a0 a1):R (a0,a1)=some (md a0 a1):=aR (a:=(a0,a1)) h
def aW:=CN [pI,pI] oI RT.dec R
def bB (a0)(a1)(hg:gd a0 a1):F a0 a1=ret (md a0 a1):=by
 unfold F md
 try simp only [SS]
 refine bg (Z191.md [231,a0,a1]) (rq (Z191.aq (a0:=[231,a0,a1]) ⟨(om),fun _ _=>trivial⟩)) ?_
 all_goals exact fz
def af:cG 542 aW:=W2 9 F mix aF bB (.cons Z191.af .nil) Tryz.func542
def br (a0 a1:Int):md a0 a1=Z86.md a0 a1:=by
 unfold md Z86.md
 first
 | (simp only [Z191.br];done)
 | (simp only [Z191.br];rfl)
 | rfl
end Z195
namespace Z196
def F (x0:aD):aK:=(call (Z190.R x0) fun v1=>(call (Z194.R v1) fun v2=>(call (Z195.R ((x0.length:Int),v2)) fun v3=>ret (v3:Int))))
def md (a0:List ah):Int:=((Z195.md (a0.length:Int) (Z194.md (Z190.md a0))):Int)
def gd (a0:List ah):Prop:=(bO (2^21) (fun y:ah=>ah.Sm (2^21) y) a0)
def R:=RR gd md
def aq {a0}(h:gd a0):R (a0.map ah.row)=some (md a0):=aR (a:=a0) h
def aW:=CN [pL 61] oI RT.dec R
def bB (a0)(hg:gd a0):F (a0.map ah.row)=ret (md a0):=by
 unfold gd at hg
 have H0:=hg
 unfold F md
 try simp only [SS]
 refine ct (Z190.aq H0) ?_
 try simp only [SS]
 refine ct (Z194.aq ⟨(have:=Z190.len a0;have:=(H0).1;om),fun _ _=>trivial⟩) ?_
 refine ct (Z195.aq trivial) ?_
 all_goals exact fz
def af:cG 543 aW:=W1 9 F mix aF bB (.cons Z190.af (.cons Z194.af (.cons Z195.af .nil))) Tryz.func543
def br (a0:List ah):md a0=Z87.md a0:=by
 unfold md Z87.md
 first
 | (simp only [Z190.br,Z194.br,Z195.br];done)
 | (simp only [Z190.br,Z194.br,Z195.br];rfl)
 | rfl
end Z196
namespace Z197
def F (x0:Int)(x1:aD):aK:=(call (Z185.R x1) fun v1=>(cond v1 (call (Z196.R x1) fun v2=>ret ((v2==x0):Bool)) bh))
def md (a0:Int)(a1:List ah):Bool:=(cond (Z185.md a1) (((Z196.md a1)==a0):Bool) (false:Bool))
def gd (a0:Int)(a1:List ah):Prop:=(bO (2^21) (fun y:ah=>ah.Sm (2^21) y) a1)
def R:=RR (p2 gd) (u2 md)
def aq {a0 a1}(h:gd a0 a1):R (a0,(a1.map ah.row))=some (md a0 a1):=aR (a:=(a0,a1)) h
def aW:=CN [pI,pL 61] oB RT.dec R
def bB (a0)(a1)(hg:gd a0 a1):F a0 (a1.map ah.row)=ret (md a0 a1):=by
 unfold gd at hg
 have H1:=hg
 unfold F md
 try simp only [SS]
 refine ct (Z185.aq H1) ?_
 refine ay ret (fun c1=>?_) (fun _=>rfl)
 refine ct (Z196.aq H1) ?_
 all_goals exact fz
def af:cG 560 aW:=W2 13 F mix aF bB (.cons Z185.af (.cons Z196.af .nil)) Tryz.func560
def br (a0:Int)(a1:List ah):md a0 a1=Z88.md a0 a1:=by
 unfold md Z88.md
 first
 | (simp only [Z185.br,Z196.br];done)
 | (simp only [Z185.br,Z196.br];rfl)
 | rfl
end Z197
end Go.DM
end
