/- What the functions compute that the law reaches, and that the law returns true. Conditions: none. -/
import Derived.Test.YtbojpakoeellaaaGreatResolveAllTy
import Derived.Test.YtbojpakoeellaaaGreatResolveAllFnA
set_option linter.all false
set_option maxRecDepth 100000
noncomputable section
namespace Go.DM
open Go.Proofs
open Go.IntKind (i64)
open Int (toNat)
open Nat (le_trans zero_le)
namespace Z105
inductive Pt where
 | p0 (a b:aB) (c d e f g h i j k l m n o:Int) (p:Bool) (q s t u v w y z w24 w25 w26 w27:Int) (w28:Bool) (w29 w30 w31 w32 w33 w34 w35 w36 w37 w38 w39 w40:Int) (w41:Bool)
def pid:Pt->Nat
 | .p0 ..=>4
def bY:Pt->List V
 | .p0 a b c d e f g h i j k l m n o p q s t u v w y z w24 w25 w26 w27 w28 w29 w30 w31 w32 w33 w34 w35 w36 w37 w38 w39 w40 w41=>[.sl none 141 a,.sl none 141 b,.cN 0 0,.int .i64 c]
def bX:Pt->List aV
 | .p0 a b c d e f g h i j k l m n o p q s t u v w y z w24 w25 w26 w27 w28 w29 w30 w31 w32 w33 w34 w35 w36 w37 w38 w39 w40 w41=>[.box [.int .i64 d,.int .i64 e,.int .i64 f,.int .i64 g,.int .i64 h,.int .i64 i,.int .i64 j,.int .i64 k,.nil,.int .i64 l,.nil,.int .i64 m,.int .i64 n,.nil,.int .i64 o,.bool p,.nil,.int .i64 q,.int .i64 s,.int .i64 t,.int .i64 u,.int .i64 v,.int .i64 w,.int .i64 y,.int .i64 z,.nil,.int .i64 w24,.nil,.int .i64 w25,.int .i64 w26,.nil,.int .i64 w27,.bool w28,.nil,.int .i64 w29,.int .i64 w30,.int .i64 w31,.int .i64 w32,.int .i64 w33,.int .i64 w34,.int .i64 w35,.int .i64 w36,.nil,.int .i64 w37,.nil,.int .i64 w38,.int .i64 w39,.nil,.int .i64 w40,.bool w41,.nil]]
def step (J:Pt->aJ):Pt->aJ
 | .p0 a b c d e f g h i j k l m n o p q s t u v w y z w24 w25 w26 w27 w28 w29 w30 w31 w32 w33 w34 w35 w36 w37 w38 w39 w40 w41=>(cond (decide (c<(a.length:Int))) (cond (decide (c<(b.length:Int))) (m2 c (a.length:Int) (m2 c (b.length:Int) (call (Z102.R ((aR.at a (toNat c)).aq,(aR.at b (toNat c)).aq)) fun v1=>(cond v1 (J (.p0 a b (i64.wrap (c+1)) d e f g h i j k l m n o p q s t u v w y z w24 w25 w26 w27 w28 w29 w30 w31 w32 w33 w34 w35 w36 w37 w38 w39 w40 w41)) (m2 c (a.length:Int) (call (Z41.R (aR.at a (toNat c))) fun v2=>(m2 c (b.length:Int) (call (Z41.R (aR.at b (toNat c))) fun v3=>(cond (decide (c>0)) (cj (decide ((0:Int)<=(i64.wrap (c - 1)))) (cj (decide ((i64.wrap (c - 1))<(a.length:Int))) (call (Z41.R (aR.at a (toNat (i64.wrap (c - 1))))) fun v4=>ret (((⟨v4,v2,v3⟩:bJ),true):bJ×Bool)))) (ret (((⟨(⟨(⟨0,0,0,0,0,0,0,0,(⟨[],0⟩:bE),(⟨[],0⟩:bE),0,(⟨[],0⟩:bE),false⟩:cg),[]⟩:aR),v2,v3⟩:bJ),true):bJ×Bool))))))))))) (m2 c (a.length:Int) (call (Z41.R (aR.at a (toNat c))) fun v5=>(m2 c (b.length:Int) (call (Z41.R (aR.at b (toNat c))) fun v6=>(cond (decide (c>0)) (cj (decide ((0:Int)<=(i64.wrap (c - 1)))) (cj (decide ((i64.wrap (c - 1))<(a.length:Int))) (call (Z41.R (aR.at a (toNat (i64.wrap (c - 1))))) fun v7=>ret (((⟨v7,v5,v6⟩:bJ),true):bJ×Bool)))) (ret (((⟨(⟨(⟨0,0,0,0,0,0,0,0,(⟨[],0⟩:bE),(⟨[],0⟩:bE),0,(⟨[],0⟩:bE),false⟩:cg),[]⟩:aR),v5,v6⟩:bJ),true):bJ×Bool)))))))) (m2 c (a.length:Int) (call (Z41.R (aR.at a (toNat c))) fun v8=>(m2 c (b.length:Int) (call (Z41.R (aR.at b (toNat c))) fun v9=>(cond (decide (c>0)) (cj (decide ((0:Int)<=(i64.wrap (c - 1)))) (cj (decide ((i64.wrap (c - 1))<(a.length:Int))) (call (Z41.R (aR.at a (toNat (i64.wrap (c - 1))))) fun v10=>ret (((⟨v10,v8,v9⟩:bJ),true):bJ×Bool)))) (ret (((⟨(⟨(⟨0,0,0,0,0,0,0,0,(⟨[],0⟩:bE),(⟨[],0⟩:bE),0,(⟨[],0⟩:bE),false⟩:cg),[]⟩:aR),v8,v9⟩:bJ),true):bJ×Bool))))))))
def start (J:Pt->aJ)(x0 x1:aB):aJ:=(call (Z73.R x0) fun v1=>(cond (!v1) (ret (((⟨(⟨(⟨0,0,0,0,0,0,0,0,(⟨[],0⟩:bE),(⟨[],0⟩:bE),0,(⟨[],0⟩:bE),false⟩:cg),[]⟩:aR),(⟨(⟨0,0,0,0,0,0,0,0,(⟨[],0⟩:bE),(⟨[],0⟩:bE),0,(⟨[],0⟩:bE),false⟩:cg),[]⟩:aR),(⟨(⟨0,0,0,0,0,0,0,0,(⟨[],0⟩:bE),(⟨[],0⟩:bE),0,(⟨[],0⟩:bE),false⟩:cg),[]⟩:aR)⟩:bJ),false):bJ×Bool)) (call (Z73.R x1) fun v2=>(cond (!v2) (ret (((⟨(⟨(⟨0,0,0,0,0,0,0,0,(⟨[],0⟩:bE),(⟨[],0⟩:bE),0,(⟨[],0⟩:bE),false⟩:cg),[]⟩:aR),(⟨(⟨0,0,0,0,0,0,0,0,(⟨[],0⟩:bE),(⟨[],0⟩:bE),0,(⟨[],0⟩:bE),false⟩:cg),[]⟩:aR),(⟨(⟨0,0,0,0,0,0,0,0,(⟨[],0⟩:bE),(⟨[],0⟩:bE),0,(⟨[],0⟩:bE),false⟩:cg),[]⟩:aR)⟩:bJ),false):bJ×Bool)) (cj (decide ((0:Int)<(x0.length:Int))) (cj (decide ((0:Int)<(x1.length:Int))) (cond ((aR.at x0 0).aq.bz != (aR.at x1 0).aq.bz) (ret (((⟨(⟨(⟨0,0,0,0,0,0,0,0,(⟨[],0⟩:bE),(⟨[],0⟩:bE),0,(⟨[],0⟩:bE),false⟩:cg),[]⟩:aR),(⟨(⟨0,0,0,0,0,0,0,0,(⟨[],0⟩:bE),(⟨[],0⟩:bE),0,(⟨[],0⟩:bE),false⟩:cg),[]⟩:aR),(⟨(⟨0,0,0,0,0,0,0,0,(⟨[],0⟩:bE),(⟨[],0⟩:bE),0,(⟨[],0⟩:bE),false⟩:cg),[]⟩:aR)⟩:bJ),false):bJ×Bool)) (call (Z103.R (x0,x1)) fun v3=>(cond v3 (ret (((⟨(⟨(⟨0,0,0,0,0,0,0,0,(⟨[],0⟩:bE),(⟨[],0⟩:bE),0,(⟨[],0⟩:bE),false⟩:cg),[]⟩:aR),(⟨(⟨0,0,0,0,0,0,0,0,(⟨[],0⟩:bE),(⟨[],0⟩:bE),0,(⟨[],0⟩:bE),false⟩:cg),[]⟩:aR),(⟨(⟨0,0,0,0,0,0,0,0,(⟨[],0⟩:bE),(⟨[],0⟩:bE),0,(⟨[],0⟩:bE),false⟩:cg),[]⟩:aR)⟩:bJ),false):bJ×Bool)) (call (Z103.R (x1,x0)) fun v4=>(cond v4 (ret (((⟨(⟨(⟨0,0,0,0,0,0,0,0,(⟨[],0⟩:bE),(⟨[],0⟩:bE),0,(⟨[],0⟩:bE),false⟩:cg),[]⟩:aR),(⟨(⟨0,0,0,0,0,0,0,0,(⟨[],0⟩:bE),(⟨[],0⟩:bE),0,(⟨[],0⟩:bE),false⟩:cg),[]⟩:aR),(⟨(⟨0,0,0,0,0,0,0,0,(⟨[],0⟩:bE),(⟨[],0⟩:bE),0,(⟨[],0⟩:bE),false⟩:cg),[]⟩:aR)⟩:bJ),false):bJ×Bool)) (J (.p0 x0 x1 0 0 0 0 0 0 0 0 0 0 0 0 0 false 0 0 0 0 0 0 0 0 0 0 0 0 false 0 0 0 0 0 0 0 0 0 0 0 0 false)))))))))))))
def live:Nat->Live:=fun i=>match i with | 4=>[(0,none),(1,none),(4,none),(6,none)] | _=>[]
def pt (a b:aB)(c:Int):Pt:=Pt.p0 a b c 0 0 0 0 0 0 0 0 0 0 0 0 false 0 0 0 0 0 0 0 0 0 0 0 0 false 0 0 0 0 0 0 0 0 0 0 0 0 false
def fk:List aa->List aa->Nat
 | x::xs,y::ys=>bif Z102.md x.aq y.aq then fk xs ys+1 else 0
 | _,_=>0
def pY:∀a b:List aa,(∀i,i<fk a b->Z102.md (a.getD i aa.zero).aq (b.getD i aa.zero).aq=true)/\
    ((fk a b<a.length/\fk a b<b.length/\Z102.md (a.getD (fk a b) aa.zero).aq (b.getD (fk a b) aa.zero).aq=false)∨
     (a.length<=b.length/\∀i,i<a.length->Z102.md (a.getD i aa.zero).aq (b.getD i aa.zero).aq=true)∨
     (b.length<=a.length/\∀i,i<b.length->Z102.md (a.getD i aa.zero).aq (b.getD i aa.zero).aq=true))
  | [],b=>⟨fun i hi=>by simp [fk] at hi,.inr (.inl ⟨zero_le _,fun i hi=>by simp at hi⟩)⟩
  | x::xs,[]=>⟨fun i hi=>by simp [fk] at hi,.inr (.inr ⟨zero_le _,fun i hi=>by simp at hi⟩)⟩
  | x::xs,y::ys=>by
    obtain ⟨h1,h2⟩:=pY xs ys
    cases h:Z102.md x.aq y.aq
    · have e:fk (x::xs) (y::ys)=0:=by simp [fk,h]
      rw [e]
      exact ⟨fun i hi=>by omega,.inl ⟨by simp,by simp,h⟩⟩
    · have e:fk (x::xs) (y::ys)=fk xs ys+1:=by simp [fk,h]
      rw [e]
      have up:∀{m:Nat},(∀i,i<m->Z102.md (xs.getD i aa.zero).aq (ys.getD i aa.zero).aq=true)->∀i,i<m+1->Z102.md ((x::xs).getD i aa.zero).aq ((y::ys).getD i aa.zero).aq=true:=by
        intro m hm i hi
        cases i with
        | zero=>exact h
        | succ i=>exact hm i (by omega)
      refine ⟨up h1,?_⟩
      rcases h2 with ⟨a,b,c⟩ | ⟨a,b⟩ | ⟨a,b⟩
      · exact .inl ⟨by simpa using a,by simpa using b,c⟩
      · exact .inr (.inl ⟨by simpa using a,up b⟩)
      · exact .inr (.inr ⟨by simpa using a,up b⟩)
def yH {a b:List aa}(hl:a.length<=b.length)(h:∀i,i<a.length->Z102.md (a.getD i aa.zero).aq (b.getD i aa.zero).aq=true):Z103.md a b=true:=by
 unfold Z103.md
 rw [decide_eq_false (by omega),bu]
 refine (jh (fun i=>Z102.md (a.getD i aa.zero).aq (b.getD i aa.zero).aq=true) (fun i _ hi=>?_) (fun i _ hi=>?_)).2 ⟨h,rfl⟩
 ·simp only [hi,Bool.not_true,bu]
 ·rw [Bool.not_eq_true] at hi
  simp only [hi,Bool.not_false,bh]
def eq_comm {a b:aF}(h:Z102.md a b=true):Z102.md b a=true:=by
 rw [Z102.md_eq,dh] at h ⊢
 exact h.symm
def lK {a b:List aa}(h1:Z103.md a b=false)(h2:Z103.md b a=false):fk a b<a.length/\fk a b<b.length/\Z102.md (a.getD (fk a b) aa.zero).aq (b.getD (fk a b) aa.zero).aq=false:=by
 rcases (pY a b).2 with h | ⟨h3,h4⟩ | ⟨h3,h4⟩
 ·exact h
 ·rw [yH h3 h4] at h1;cases h1
 ·rw [yH h3 fun i hi=>eq_comm (h4 i hi)] at h2;cases h2
def tK (a b:List aa):Nat->az
 | 0=>⟨aa.zero,a.getD 0 aa.zero,b.getD 0 aa.zero⟩
 | k+1=>⟨a.getD k aa.zero,a.getD (k+1) aa.zero,b.getD (k+1) aa.zero⟩
def vV {a b:List aa}(h0:bM (2^21) (fun y:aa=>aa.Sm (2^21) y) a)(h1:bM (2^21) (fun y:aa=>aa.Sm (2^21) y) b){k:Nat}(hk:k<a.length)(hk2:k<b.length):az.Sm (2^21) (tK a b k):=by
 cases k with
 | zero=>exact ⟨⟨⟨bM.nil,bM.nil,bM.nil⟩,bM.nil⟩,bM.getD h0 hk,bM.getD h1 hk2⟩
 | succ k=>exact ⟨bM.getD h0 (by omega),bM.getD h0 hk,bM.getD h1 hk2⟩
def zT {a b:List aa}{k:Nat}(hk:k<a.length)(hk2:k<b.length):az.size (tK a b k)<=2*dJ (fun y:aa=>aa.size y) a+dJ (fun y:aa=>aa.size y) b:=by
 have h1:=nA (f:=fun y:aa=>aa.size y) (xs:=b) (i:=k) (z:=aa.zero) hk2
 have h2:=nA (f:=fun y:aa=>aa.size y) (xs:=a) (i:=k) (z:=aa.zero) hk
 have h0:aa.size aa.zero=0:=rfl
 cases k with
 | zero=>simp only [tK,az.size];omega
 | succ k=>
  have h3:=nA (f:=fun y:aa=>aa.size y) (xs:=a) (i:=k) (z:=aa.zero) (by omega)
  simp only [tK,az.size];omega
def md (a0 a1:List aa):az×Bool:=(cond (!(Z73.md a0)) (az.zero,false) (cond (!(Z73.md a1)) (az.zero,false) (cond (((a0.getD 0 aa.zero).aq).bz != ((a1.getD 0 aa.zero).aq).bz) (az.zero,false) (cond (Z103.md a0 a1) (az.zero,false) (cond (Z103.md a1 a0) (az.zero,false) (tK a0 a1 (fk a0 a1),true))))))
def gd (a0 a1:List aa):Prop:=bM (2^21) (fun y:aa=>aa.Sm (2^21) y) a0/\bM (2^21) (fun y:aa=>aa.Sm (2^21) y) a1
def R:=RR (p2 gd) (u2 md)
def an {a0 a1}(h:gd a0 a1):R ((a0.map aa.row),(a1.map aa.row))=some ((az.r (md a0 a1).1),(md a0 a1).2):=aP (a:=(a0,a1)) h
def aU:=CN [pL 141,pL 141] (.iJ [(true,f143),(false,[fB])]) RT.dec R
def bA (a0)(a1)(hg:gd a0 a1):∃n,start (iter step n) (a0.map aa.row) (a1.map aa.row)=ret ((az.r (md a0 a1).1),(md a0 a1).2):=by
 unfold gd at hg
 obtain ⟨H0,H1⟩:=hg
 have hl0:=H0.1
 have hl1:=H1.1
 have key:fk a0 a1<a0.length->fk a0 a1<a1.length->Z102.md (a0.getD (fk a0 a1) aa.zero).aq (a1.getD (fk a0 a1) aa.zero).aq=false->∀d k,k+d=fk a0 a1->∃n,iter step n (pt (a0.map aa.row) (a1.map aa.row) (k:Int))=ret ((az.r (tK a0 a1 (fk a0 a1)),true):bJ×Bool):=by
  intro hn0 hn1 hne d
  have hR:∀k,k<a0.length->k<a1.length->Z102.R (aF.r (a0.getD k aa.zero).aq,aF.r (a1.getD k aa.zero).aq)=some (Z102.md (a0.getD k aa.zero).aq (a1.getD k aa.zero).aq):=by
   intro k h0 h1
   rw [Z102.an ⟨(bM.getD (z:=aa.zero) H0 h0).1,(bM.getD (z:=aa.zero) H1 h1).1⟩]
  induction d with
  | zero=>
   intro k hk
   obtain rfl:k=fk a0 a1:=by omega
   generalize hkk:fk a0 a1=k at hn0 hn1 hne ⊢
   refine ⟨1,?_⟩
   show step (iter step 0) _=_
   have q1:(0:Int)<=(k:Int):=by omega
   have q2:(k:Int)<(a0.length:Int):=by omega
   have q3:(k:Int)<(a1.length:Int):=by omega
   simp only [pt,step,MM,S0,aa.rs,aF.rs,q1,q2,q3,decide_true,bh]
   rw [call_eq (hR k hn0 hn1),hne,bu,call_eq (Z41.an (a0:=a0.getD k aa.zero) (bM.getD (z:=aa.zero) H0 hn0)),call_eq (Z41.an (a0:=a1.getD k aa.zero) (bM.getD (z:=aa.zero) H1 hn1))]
   cases k with
   | zero=>rfl
   | succ k=>
    have q4:((k+1:Nat):Int)>0:=by omega
    have q5:i64.wrap (((k+1:Nat):Int) - 1)=(k:Int):=by rw [wi _ (by omega)];omega
    have q6:(0:Int)<=(k:Int):=by omega
    have q7:(k:Int)<(a0.length:Int):=by omega
    simp only [q4,q5,q6,q7,decide_true,bh,S0,aa.rs]
    rw [call_eq (Z41.an (a0:=a0.getD k aa.zero) (bM.getD (z:=aa.zero) H0 (by omega)))]
    rfl
  | succ d ih=>
   intro k hk
   obtain ⟨n,hn⟩:=ih (k+1) (by omega)
   refine ⟨n+1,?_⟩
   show step (iter step n) _=_
   have q1:(0:Int)<=(k:Int):=by omega
   have q2:(k:Int)<(a0.length:Int):=by omega
   have q3:(k:Int)<(a1.length:Int):=by omega
   simp only [pt,step,MM,S0,aa.rs,aF.rs,q1,q2,q3,decide_true,bh]
   rw [call_eq (hR k (by omega) (by omega)),(pY a0 a1).1 k (by omega),bh,wi _ (by omega)]
   exact hn
 unfold start md
 simp only [S0,aa.rs,aF.rs]
 refine eV (Z73.md a0) (Z73.an H0) ?_
 cases hc0:Z73.md a0
 ·exact ⟨0,rfl⟩
 simp only [Bool.not_true,bu]
 refine eV (Z73.md a1) (Z73.an H1) ?_
 cases hc1:Z73.md a1
 ·exact ⟨0,rfl⟩
 have t0:=Z73.tr hc0
 have t1:=Z73.tr hc1
 simp only [Bool.not_true,bu]
 refine dF (decide_eq_true (by omega)) (dF (decide_eq_true (by omega)) ?_)
 cases ((a0.getD 0 aa.zero).aq.bz != (a1.getD 0 aa.zero).aq.bz)
 case true=>exact ⟨0,rfl⟩
 simp only [bu]
 refine eV (Z103.md a0 a1) (Z103.an ⟨H0,H1⟩) ?_
 cases hp0:Z103.md a0 a1
 case true=>exact ⟨0,rfl⟩
 simp only [bu]
 refine eV (Z103.md a1 a0) (Z103.an ⟨H1,H0⟩) ?_
 cases hp1:Z103.md a1 a0
 case true=>exact ⟨0,rfl⟩
 simp only [bu]
 obtain ⟨h1,h2,h3⟩:=lK hp0 hp1
 exact key h1 h2 h3 (fk a0 a1) 0 (by omega)
def af:cD 125 aU:=L2 86 pid bY bX live step start mix aE bA (.cons Z73.af (.cons Z103.af (.cons Z102.af (.cons Z41.af .nil)))) Tryz.func125
def fL {a0 a1:List aa}(hg:gd a0 a1):az.Sm (2^21) ((md a0 a1).1):=by
 unfold gd at hg;unfold md
 have z:az.Sm (2^21) az.zero:=⟨⟨⟨bM.nil,bM.nil,bM.nil⟩,bM.nil⟩,⟨⟨bM.nil,bM.nil,bM.nil⟩,bM.nil⟩,⟨⟨bM.nil,bM.nil,bM.nil⟩,bM.nil⟩⟩
 cases Z73.md a0
 ·exact z
 cases Z73.md a1
 ·exact z
 cases ((a0.getD 0 aa.zero).aq.bz != (a1.getD 0 aa.zero).aq.bz)
 case true=>exact z
 cases h1:Z103.md a0 a1
 case true=>exact z
 cases h2:Z103.md a1 a0
 case true=>exact z
 obtain ⟨h3,h4,_⟩:=Z105.lK h1 h2
 exact Z105.vV hg.1 hg.2 h3 h4
end Z105
namespace Z106
def F (x0:bn)(x1:aB):aJ:=(call (Z44.R x0) fun v1=>(call (Z104.R (x0,x1)) fun v2=>(cond (v2==1) (cond (decide ((x0.aG.length:Int)>=8)) (ret ((v1,6):bn×Int)) (call (Z42.R x1) fun v3=>(cj (eS (((v1.aG.length:Int)+1)*24)) (ret (((⟨(v1.aG++[[L.sl v3]]),v1.aW⟩:bn),v2):bn×Int))))) (cond (v2==3) (cj (decide ((0:Int)<(x1.length:Int))) (call (Z101.R (x0,(aR.at x1 0).aq.bz)) fun v4=>(call (Z42.R x1) fun v5=>(m2 v4 (v1.aG.length:Int) (ret (((⟨(List.set v1.aG (toNat v4) [L.sl v5]),v1.aW⟩:bn),v2):bn×Int)))))) (cond (v2==5) (cj (decide ((0:Int)<(x1.length:Int))) (call (Z101.R (x0,(aR.at x1 0).aq.bz)) fun v6=>(m2 v6 (x0.aG.length:Int) (call (Z105.R ((oq x0.aG (toNat v6)),x1)) fun v7=>(cond v7.2 (cond (decide ((x0.aW.length:Int)<8)) (cj (eS (((v1.aW.length:Int)+1)*600)) (ret (((⟨v1.aG,(v1.aW++[(bJ.enc v7.1)])⟩:bn),v2):bn×Int))) (ret ((v1,v2):bn×Int))) (ret ((v1,v2):bn×Int))))))) (ret ((v1,v2):bn×Int)))))))
def md (a0:aj)(a1:List aa):aj×Int:=(cond ((Z104.md a0 a1)==1) (cond (decide ((a0.aG.length:Int)>=8)) (a0,6) ((⟨(a0.aG++[a1]),a0.aW⟩:aj),(Z104.md a0 a1))) (cond ((Z104.md a0 a1)==3) ((⟨(List.set a0.aG (toNat (Z101.md a0 (((a1.getD 0 aa.zero).aq).bz))) a1),a0.aW⟩:aj),(Z104.md a0 a1)) (cond ((Z104.md a0 a1)==5) (cond ((Z105.md (a0.aG.getD (toNat (Z101.md a0 (((a1.getD 0 aa.zero).aq).bz))) []) a1).2) (cond (decide ((a0.aW.length:Int)<8)) ((⟨a0.aG,(a0.aW++[(Z105.md (a0.aG.getD (toNat (Z101.md a0 (((a1.getD 0 aa.zero).aq).bz))) []) a1).1])⟩:aj),(Z104.md a0 a1)) (a0,(Z104.md a0 a1))) (a0,(Z104.md a0 a1))) (a0,(Z104.md a0 a1)))))
def gd (a0:aj)(a1:List aa):Prop:=(aj.Sm (2^21) a0)/\(bM (2^21) (fun y:aa=>aa.Sm (2^21) y) a1)
def R:=RR (p2 gd) (u2 md)
def an {a0 a1}(h:gd a0 a1):R ((aj.r a0),(a1.map aa.row))=some ((aj.r (md a0 a1).1),(md a0 a1).2):=aP (a:=(a0,a1)) h
def aU:=CN [.agg rT,pL 141] (.iJ [(true,f37),(false,[fI])]) RT.dec R
def bA (a0)(a1)(hg:gd a0 a1):F (aj.r a0) (a1.map aa.row)=ret ((aj.r (md a0 a1).1),(md a0 a1).2):=by
 obtain ⟨H0,H1⟩:=hg
 unfold F md
 try simp only [SS]
 refine ct (Z44.an H0) ?_
 try simp only [SS]
 refine ct (Z104.an ⟨H0,H1⟩) ?_
 have fv2_:=Z104.fa a0 a1
 refine av (fun b:aj×Int=>ret (((aj.r b.1),b.2):bn×Int)) (fun c1=>?_) (fun c1=>?_)
 ·have dc1:=c1
  try simp only [DC] at dc1
  refine av (fun b:aj×Int=>ret (((aj.r b.1),b.2):bn×Int)) (fun c2=>?_) (fun c2=>?_)
  ·all_goals exact fz
  ·have dc2:=c2
   try simp only [DC] at dc2
   refine ct (Z42.an H1) ?_
   try simp only [SS]
   refine ak (have:=(H0.1).1;lm) ?_
   all_goals exact fz
 ·have dc1:=c1
  try simp only [DC] at dc1
  refine av (fun b:aj×Int=>ret (((aj.r b.1),b.2):bn×Int)) (fun c3=>?_) (fun c3=>?_)
  ·have dc3:=c3
   try simp only [DC] at dc3
   refine ak (have:=(H1).1;dt) ?_
   refine ct (Z101.an H0) ?_
   have fv4_:=Z101.fa a0 (((a1.getD 0 aa.zero).aq).bz)
   refine ct (Z42.an H1) ?_
   try simp only [SS]
   refine ak dt ?_
   refine ak (have:=(H0.1).1;dt) ?_
   all_goals exact fz
  ·have dc3:=c3
   try simp only [DC] at dc3
   refine av (fun b:aj×Int=>ret (((aj.r b.1),b.2):bn×Int)) (fun c4=>?_) (fun c4=>?_)
   ·have dc4:=c4
    try simp only [DC] at dc4
    refine ak (have:=(H1).1;dt) ?_
    refine ct (Z101.an H0) ?_
    have fv6_:=Z101.fa a0 (((a1.getD 0 aa.zero).aq).bz)
    refine ak dt ?_
    refine ak (have:=(H0.1).1;dt) ?_
    refine ct (Z105.an ⟨(bM.getD (z:=[]) H0.1 (by first | assumption | omega | (simp (disch:=omega) only [wi];omega) | (simp;omega))),H1⟩) ?_
    try simp only [SS]
    refine av (fun b:aj×Int=>ret (((aj.r b.1),b.2):bn×Int)) (fun c5=>?_) (fun c5=>?_)
    ·refine av (fun b:aj×Int=>ret (((aj.r b.1),b.2):bn×Int)) (fun c6=>?_) (fun c6=>?_)
     ·have dc6:=c6
      try simp only [DC] at dc6
      refine ak (have:=(H0.2).1;lm) ?_
      all_goals exact fz
     ·all_goals exact fz
    ·all_goals exact fz
   ·all_goals exact fz
def af:cD 102 aU:=W2 77 F mix aE bA (.cons Z44.af (.cons Z104.af (.cons Z42.af (.cons Z101.af (.cons Z105.af .nil))))) Tryz.func102
def fL {a0:aj}{a1:List aa}(hg:gd a0 a1):aj.Sm (2^21) ((md a0 a1).1):=by
 unfold gd at hg;unfold md
 obtain ⟨⟨h1,h2⟩,h3⟩:=hg
 simp only [Bool.cond_eq_ite]
 repeat' split
 all_goals (try simp only [decide_eq_true_eq,ge_iff_le] at *)
 all_goals first
  | exact ⟨h1,h2⟩
  | exact ⟨bM.app (a:=7) (b:=1) ⟨by omega,h1.2⟩ (bM.one h3) (by decide),h2⟩
  | exact ⟨bM.set h1 h3,h2⟩
  | exact ⟨h1,bM.app (a:=7) (b:=1) ⟨by omega,h2.2⟩ (bM.one (Z105.fL ⟨bM.vG h1 bM.nil,h3⟩)) (by decide)⟩
def Cz (c:List (List aa)):Nat:=dJ (fun y:List aa=>dJ (fun y:aa=>aa.size y) y) c
def Fz (c:List az):Nat:=dJ (fun y:az=>az.size y) c
def zo (X a1:List aa):az.size (Z105.md X a1).1<=2*dJ (fun y:aa=>aa.size y) X+dJ (fun y:aa=>aa.size y) a1:=by
 unfold Z105.md
 have z:az.size az.zero=0:=rfl
 cases Z73.md X
 ·exact zero_le _
 cases Z73.md a1
 ·exact zero_le _
 cases ((X.getD 0 aa.zero).aq.bz != (a1.getD 0 aa.zero).aq.bz)
 case true=>exact zero_le _
 cases h1:Z103.md X a1
 case true=>exact zero_le _
 cases h2:Z103.md a1 X
 case true=>exact zero_le _
 obtain ⟨h3,h4,_⟩:=Z105.lK h1 h2
 exact Z105.zT h3 h4
def grow (a0:aj)(a1:List aa):Cz (md a0 a1).1.aG<=Cz a0.aG+(dJ (fun y:aa=>aa.size y) a1+1)/\
  Fz (md a0 a1).1.aW<=Fz a0.aW+(2*Cz a0.aG+dJ (fun y:aa=>aa.size y) a1+1):=by
 unfold md Cz Fz
 have hs:=vY (f:=fun y:List aa=>dJ (fun y:aa=>aa.size y) y) a0.aG (toNat (Z101.md a0 ((a1.getD 0 aa.zero).aq.bz))) a1
 have ha:=vg (f:=fun y:List aa=>dJ (fun y:aa=>aa.size y) y) a0.aG a1
 have hk:=vg (f:=fun y:az=>az.size y) a0.aW (Z105.md (a0.aG.getD (toNat (Z101.md a0 ((a1.getD 0 aa.zero).aq.bz))) []) a1).1
 have hf1:=zo (a0.aG.getD (toNat (Z101.md a0 ((a1.getD 0 aa.zero).aq.bz))) []) a1
 have hg1:=nD (f:=fun y:List aa=>dJ (fun y:aa=>aa.size y) y) (xs:=a0.aG) (i:=toNat (Z101.md a0 ((a1.getD 0 aa.zero).aq.bz))) (z:=[]) rfl
 (try simp only at hs);(try simp only at ha);(try simp only at hk);(try simp only at hg1)
 simp only [Bool.cond_eq_ite]
 repeat' split
 all_goals constructor<;>(try simp only)<;>omega
end Z106
namespace Z107
def F (x0:cg)(x1:Int):aJ:=(call (Z45.R (x1,x0.cF,x0.cC)) fun v1=>ret (v1:Bool))
def md (a0:aF)(a1:Int):Bool:=((Z45.md a1 a0.cF a0.cC):Bool)
def gd (a0:aF)(a1:Int):Prop:=True
def R:=RR (p2 gd) (u2 md)
def an {a0 a1}(h:gd a0 a1):R ((aF.r a0),a1)=some (md a0 a1):=aP (a:=(a0,a1)) h
def aU:=CN [.agg fX,pI] oB RT.dec R
def bA (a0)(a1)(hg:gd a0 a1):F (aF.r a0) a1=ret (md a0 a1):=by
 unfold F md
 try simp only [SS]
 refine ct (Z45.an trivial) ?_
 all_goals exact fz
def af:cD 126 aU:=W2 11 F mix aE bA (.cons Z45.af .nil) Tryz.func126
end Z107
namespace Z108
inductive Pt where
 | p0 (a b c:Int) (d:aB) (e:Int)
def pid:Pt->Nat
 | .p0 ..=>4
def bY:Pt->List V
 | .p0 a b c d e=>[.int .i64 a,.int .i64 b,.int .i64 c,.sl none 3 d,.int .i64 e]
def bX:Pt->List aV
 | .p0 a b c d e=>[]
def step (J:Pt->aJ):Pt->aJ
 | .p0 a b c d e=>(cond (decide (c>1)) (cond ((Int.tmod b 2)==1) (cond (decide (e>=(d.length:Int))) (ret ((0,false):Int×Bool)) (cond ((Int.tmod b 2)==1) (m2 e (d.length:Int) (call (Z83.R ((jt d (toNat e)),a)) fun v1=>J (.p0 v1 (i64.wrap (Int.tdiv b 2)) (i64.wrap (Int.tdiv (i64.wrap (c+1)) 2)) d (i64.wrap (e+1))))) (m2 e (d.length:Int) (call (Z83.R (a,(jt d (toNat e)))) fun v2=>J (.p0 v2 (i64.wrap (Int.tdiv b 2)) (i64.wrap (Int.tdiv (i64.wrap (c+1)) 2)) d (i64.wrap (e+1))))))) (cond (decide ((i64.wrap (b+1))<c)) (cond (decide (e>=(d.length:Int))) (ret ((0,false):Int×Bool)) (cond ((Int.tmod b 2)==1) (m2 e (d.length:Int) (call (Z83.R ((jt d (toNat e)),a)) fun v3=>J (.p0 v3 (i64.wrap (Int.tdiv b 2)) (i64.wrap (Int.tdiv (i64.wrap (c+1)) 2)) d (i64.wrap (e+1))))) (m2 e (d.length:Int) (call (Z83.R (a,(jt d (toNat e)))) fun v4=>J (.p0 v4 (i64.wrap (Int.tdiv b 2)) (i64.wrap (Int.tdiv (i64.wrap (c+1)) 2)) d (i64.wrap (e+1))))))) (J (.p0 a (i64.wrap (Int.tdiv b 2)) (i64.wrap (Int.tdiv (i64.wrap (c+1)) 2)) d e)))) (cond (e != (d.length:Int)) (ret ((0,false):Int×Bool)) (ret ((a,true):Int×Bool))))
def start (J:Pt->aJ)(x0 x1 x2:Int)(x3:aB):aJ:=(call (Z45.R (x2,1,12)) fun v1=>(cond (!v1) (ret ((0,false):Int×Bool)) (call (Z45.R (x1,0,(i64.wrap (x2 - 1)))) fun v2=>(cond (!v2) (ret ((0,false):Int×Bool)) (J (.p0 x0 x1 x2 x3 0))))))
def live:Nat->Live:=fun i=>match i with | 4=>[(0,none),(1,none),(2,none),(3,none),(10,none)] | _=>[]
def tf:Nat->Int->Int->Int->List Int->Int×Bool
 | 0,_,_,_,_=>(0,false)
 | k+1,leaf,i,n,path=>
  if n>1 then
   if i % 2=1∨i+1<n then
    match path with
    | []=>(0,false)
    | p::ps=>tf k (if i % 2=1 then Z83.md p leaf else Z83.md leaf p) (i / 2) ((n+1) / 2) ps
   else tf k leaf (i / 2) ((n+1) / 2) path
  else if path.isEmpty then (leaf,true) else (0,false)
def md (a0 a1 a2:Int)(a3:List Int):Int×Bool:=(cond (!(Z45.md a2 1 12)) (0,false) (bif !(Z45.md a1 0 (i64.wrap (a2 - 1))) then (0,false) else tf 5 a0 a1 a2 a3))
def gd (a0 a1 a2:Int)(a3:List Int):Prop:=bM (2^38) (fun y:Int=>True) a3
def R:=RR (p4 gd) (u4 md)
def an {a0 a1 a2 a3}(h:gd a0 a1 a2 a3):R (a0,a1,a2,(a3.map bq))=some ((md a0 a1 a2 a3).1,(md a0 a1 a2 a3).2):=aP (a:=(a0,a1,a2,a3)) h
def aU:=CN [pI,pI,pI,pL 3] (.iJ [(false,[fI]),(false,[fB])]) RT.dec R
def bA (a0)(a1)(a2)(a3)(hg:gd a0 a1 a2 a3):∃n,start (iter step n) a0 a1 a2 (a3.map bq)=ret ((md a0 a1 a2 a3).1,(md a0 a1 a2 a3).2):=by
 have tm:∀b:Int,0<=b->b<=11->Int.tmod b 2=b % 2:=fun b h1 h2=>Int.tmod_eq_emod_of_nonneg h1
 have td:∀b:Int,0<=b->b<=13->i64.wrap (Int.tdiv b 2)=b / 2:=fun b h1 h2=>by
  rw [Int.tdiv_eq_ediv_of_nonneg h1,Go.IntWalk.i64_in _ (by omega)]
 have t1:∀b:Int,0<=b->b<=13->i64.wrap (b+1)=b+1:=fun b h1 h2=>Go.IntWalk.i64_in _ (by omega)
 obtain ⟨H3,_⟩:=hg
 have key:∀(k:Nat) (leaf i n:Int) (u:Nat),0<=i->i<n->n<=12->n<=2^k->u<=a3.length->∃m,iter step m (Pt.p0 leaf i n (a3.map bq) (u:Int))=ret ((tf (k+1) leaf i n (a3.drop u)).1,(tf (k+1) leaf i n (a3.drop u)).2):=by
  intro k
  induction k with
  | zero=>
   intro leaf i n u h1 h2 h3 h4 h5
   refine ⟨1,?_⟩
   show step (iter step 0) (Pt.p0 _ _ _ _ _)=_
   have hn:n=1:=by omega
   subst hn
   simp only [step,List.length_map]
   refine cH (by decide) ?_
   unfold tf
   rw [if_neg (by omega)]
   by_cases hu:u=a3.length
   ·rw [List.drop_eq_nil_of_le (by omega),show ((u:Int) != (a3.length:Int))=false from bne_eq_false_iff_eq.2 (by omega)];rfl
   ·have hne:(a3.drop u).isEmpty=false:=by
     rw [List.drop_eq_getElem_cons (by omega)];rfl
    rw [hne,show ((u:Int) != (a3.length:Int))=true from bne_iff_ne.2 (by omega)];rfl
  | succ k ih=>
   intro leaf i n u h1 h2 h3 h4 h5
   have hk:n<=2*2^k:=by rw [Int.pow_succ] at h4;omega
   unfold tf
   by_cases hn:n>1
   ·have e1:=tm i h1 (by omega)
    have e2:=td i h1 (by omega)
    have e3:=t1 n (by omega) (by omega)
    have e4:=td (n+1) (by omega) (by omega)
    have e5:=t1 i h1 (by omega)
    rw [if_pos hn]
    by_cases hc:i % 2=1∨i+1<n
    ·rw [if_pos hc]
     by_cases hu:u=a3.length
     ·refine ⟨1,?_⟩
      show step (iter step 0) (Pt.p0 _ _ _ _ _)=_
      rw [List.drop_eq_nil_of_le (by omega)]
      simp only [step,List.length_map,e1,e5]
      refine ak (decide_eq_true (by omega)) ?_
      by_cases hm:i % 2=1
      ·rw [hm]
       exact ak rfl (ak (decide_eq_true (by omega)) rfl)
      ·refine cH (beq_eq_false_iff_ne.2 hm) (ak (decide_eq_true (by omega)) (ak (decide_eq_true (by omega)) rfl))
     ·have hlt:u<a3.length:=by omega
      rw [List.drop_eq_getElem_cons hlt]
      obtain ⟨m,hm⟩:=ih (if i % 2=1 then Z83.md a3[u] leaf else Z83.md leaf a3[u]) (i / 2) ((n+1) / 2) (u+1) (by omega) (by omega) (by omega) (by omega) (by omega)
      refine ⟨m+1,?_⟩
      show step (iter step m) (Pt.p0 _ _ _ _ _)=_
      have w:i64.wrap ((u:Int)+1)=((u+1:Nat):Int):=by rw [Go.IntWalk.i64_in _ (by omega)];omega
      simp only [step,List.length_map,e1,e2,e3,e4,e5,w,cz,gL,eJ hlt]
      refine ak (decide_eq_true (by omega)) ?_
      by_cases hp:i % 2=1
      ·rw [if_pos hp] at hm
       rw [hp]
       refine ak rfl (cH (decide_eq_false (by omega)) (ak rfl (ak (decide_eq_true (by omega)) (ak (decide_eq_true (by omega)) (aZ _ (Z83.an trivial) ?_)))))
       rw [if_pos rfl]
       exact hm
      ·rw [if_neg hp] at hm
       have hb:(i % 2==1)=false:=beq_eq_false_iff_ne.2 hp
       rw [hb]
       refine cH rfl (ak (decide_eq_true (by omega)) (cH (decide_eq_false (by omega)) (cH rfl (ak (decide_eq_true (by omega)) (ak (decide_eq_true (by omega)) (aZ _ (Z83.an trivial) ?_))))))
       rw [if_neg hp]
       exact hm
    ·rw [if_neg hc]
     obtain ⟨m,hm⟩:=ih leaf (i / 2) ((n+1) / 2) u (by omega) (by omega) (by omega) (by omega) h5
     refine ⟨m+1,?_⟩
     show step (iter step m) (Pt.p0 _ _ _ _ _)=_
     simp only [step,List.length_map,e1,e2,e3,e4,e5]
     have hb:(i % 2==1)=false:=beq_eq_false_iff_ne.2 (by omega)
     rw [hb]
     exact ak (decide_eq_true (by omega)) (cH rfl (cH (decide_eq_false (by omega)) hm))
   ·refine ⟨1,?_⟩
    show step (iter step 0) (Pt.p0 _ _ _ _ _)=_
    have hn1:n=1:=by omega
    subst hn1
    simp only [step,List.length_map]
    refine cH (by decide) ?_
    rw [if_neg (by omega)]
    by_cases hu:u=a3.length
    ·rw [List.drop_eq_nil_of_le (by omega),show ((u:Int) != (a3.length:Int))=false from bne_eq_false_iff_eq.2 (by omega)];rfl
    ·have hne:(a3.drop u).isEmpty=false:=by
      rw [List.drop_eq_getElem_cons (by omega)];rfl
     rw [hne,show ((u:Int) != (a3.length:Int))=true from bne_iff_ne.2 (by omega)];rfl
 unfold start md
 refine eV (Z45.md a2 1 12) (Z45.an trivial) ?_
 cases hc:Z45.md a2 1 12
 ·exact ⟨0,rfl⟩
 simp only [Bool.not_true,bu]
 refine eV (Z45.md a1 0 (i64.wrap (a2 - 1))) (Z45.an trivial) ?_
 cases hd:Z45.md a1 0 (i64.wrap (a2 - 1))
 ·exact ⟨0,rfl⟩
 have i1:1<=a2/\a2<=12:=by simpa [Z45.md] using hc
 rw [Go.IntWalk.i64_in _ (by omega)] at hd
 have i2:0<=a1/\a1<=a2 - 1:=by simpa [Z45.md] using hd
 exact key 4 a0 a1 a2 0 (by omega) (by omega) (by omega) (by omega) (by omega)
def af:cD 191 aU:=L4 63 pid bY bX live step start mix aE bA (.cons Z45.af (.cons Z83.af .nil)) Tryz.func191
end Z108
namespace Z109
def F (x0 x1:Int)(x2:aY)(x3:bT):aJ:=(call (Z81.R x2) fun v1=>(call (Z108.R (v1,x3.eB,x1,x3.bK)) fun v2=>(call (Z75.R x2) fun v3=>(cond v3 (cond v2.2 (call (Z86.R (x1,v2.1)) fun v4=>ret ((v4==x0):Bool)) bf) bf))))
def md (a0 a1:Int)(a2:ah)(a3:aN):Bool:=(cond (Z75.md a2) (cond ((Z108.md (Z81.md a2) a3.eB a1 a3.bK).2) (((Z86.md a1 ((Z108.md (Z81.md a2) a3.eB a1 a3.bK).1))==a0):Bool) (false:Bool)) (false:Bool))
def gd (a0 a1:Int)(a2:ah)(a3:aN):Prop:=(ah.Sm (2^21) a2)/\(aN.Sm (2^21) a3)
def R:=RR (p4 gd) (u4 md)
def an {a0 a1 a2 a3}(h:gd a0 a1 a2 a3):R (a0,a1,(ah.r a2),(aN.r a3))=some (md a0 a1 a2 a3):=aP (a:=(a0,a1,a2,a3)) h
def aU:=CN [pI,pI,.agg rV,.agg rm] oB RT.dec R
def bA (a0)(a1)(a2)(a3)(hg:gd a0 a1 a2 a3):F a0 a1 (ah.r a2) (aN.r a3)=ret (md a0 a1 a2 a3):=by
 obtain ⟨H2,H3⟩:=hg
 unfold F md
 try simp only [SS]
 refine ct (Z81.an H2) ?_
 refine ct (Z108.an (H3.mono (by decide) (fun x hx=>trivial))) ?_
 refine ct (Z75.an H2) ?_
 refine av ret (fun c1=>?_) (fun _=>rfl)
 refine av ret (fun c2=>?_) (fun _=>rfl)
 refine ct (Z86.an trivial) ?_
 all_goals exact fz
def af:cD 157 aU:=W4 34 F mix aE bA (.cons Z81.af (.cons Z108.af (.cons Z75.af (.cons Z86.af .nil)))) Tryz.func157
end Z109
namespace Z110
inductive Pt where
 | p0 (a b:aB) (c:Int)
def pid:Pt->Nat
 | .p0 ..=>4
def bY:Pt->List V
 | .p0 a b c=>[.sl none 9 a,.sl none 9 b,.int .i64 c]
def bX:Pt->List aV
 | .p0 a b c=>[]
def step (J:Pt->aJ):Pt->aJ
 | .p0 a b c=>(cond (decide (c<(a.length:Int))) (m2 c (a.length:Int) (m2 c (b.length:Int) (cond (!((pV a (toNat c))==(pV b (toNat c)))) bf (J (.p0 a b (i64.wrap (c+1))))))) eu)
def start (J:Pt->aJ)(x0 x1:aB):aJ:=(cond ((x0.length:Int) != (x1.length:Int)) bf (J (.p0 x0 x1 0)))
def live:Nat->Live:=fun i=>match i with | 4=>[(0,none),(1,none),(5,none)] | _=>[]
def md (a0 a1:List aD):Bool:=(bif ((a0.length:Int) != (a1.length:Int)) then (false:Bool) else (eo (S:=Unit) (β:=Bool) (fun (i2:Nat) (s4:Unit)=>(cond (!((a0.getD i2 ⟨#[]⟩)==(a1.getD i2 ⟨#[]⟩))) (.inr (false:Bool)) (.inl ()))) (fun (s4:Unit)=>(true:Bool)) a0.length 0 ()))
def gd (a0 a1:List aD):Prop:=(bM (2^21) (fun y:aD=>y.size<=(2^21)) a0)/\(bM (2^21) (fun y:aD=>y.size<=(2^21)) a1)
def R:=RR (p2 gd) (u2 md)
def an {a0 a1}(h:gd a0 a1):R ((a0.map cG),(a1.map cG))=some (md a0 a1):=aP (a:=(a0,a1)) h
def aU:=CN [pL 9,pL 9] oB RT.dec R
def bA (a0)(a1)(hg:gd a0 a1):∃n,start (iter step n) (a0.map cG) (a1.map cG)=ret (md a0 a1):=by
 obtain ⟨H0,H1⟩:=hg
 unfold start md
 try simp only [SS]
 refine gR ret (fun _=>⟨0,rfl⟩) (fun c1=>?_)
 have dc1:=c1
 try simp only [DC] at dc1
 have Bh3:a0.length<=maxLen:=(by
   have:=(H0).1
   try simp only [maxLen] at *
   omega)
 refine dM (p:=Pt.p0 (a0.map cG) (a1.map cG) 0) fz ?_
 refine ck (pt:=fun (i2:Nat) (s4:Unit)=>Pt.p0 (a0.map cG) (a1.map cG) (i2:Int)) (s:=(():Unit)) (out:=ret) (fun _ _=>True) (fun J i2 s4 h3 hih3=>?_) (fun s4 hih3=>?_) trivial
 ·simp only [step,SS]
  have bb_:=Bh3
  simp only [maxLen] at bb_
  have:=(H0).1
  refine bC.yes (by apply decide_eq_true;omega) ?_
  refine bC.yes aI ?_
  refine bC.yes (aK h3) ?_
  refine bC.yes aI ?_
  refine bC.yes (have:=(H1).1;dt) ?_
  refine bC.bif (fun _=>bC.inr rfl) (fun c5=>?_)
  refine bC.inl trivial ?_
  rw [aH h3 Bh3]
  all_goals exact fz
 ·simp only [step,SS]
  have:=(H0).1
  refine dx (by apply decide_eq_false;omega) ?_
  refine ⟨0,?_⟩
  all_goals exact fz
def af:cD 234 aU:=L2 26 pid bY bX live step start mix aE bA .nil Tryz.func234
def md_eq (a0 a1:List aD):md a0 a1=dY a0 a1:=by
 unfold md
 refine ke (⟨#[]⟩) (fun i s h h2=>?_) (fun s=>rfl)
 simp only [bne,fc,bool_beq,eO]
 cases dY _ _<;>rfl
end Z110
namespace Z111
def F (x0 x1:aY):aJ:=(cond (x0.bw==x1.bw) (cond (x0.bQ==x1.bQ) (cond (x0.cw==x1.cw) (call (Z110.R (x0.bK,x1.bK)) fun v1=>ret (v1:Bool)) bf) bf) bf)
def md (a0 a1:ah):Bool:=(cond (a0.bw==a1.bw) (cond (a0.bQ==a1.bQ) (cond (a0.cw==a1.cw) ((Z110.md a0.bK a1.bK):Bool) (false:Bool)) (false:Bool)) (false:Bool))
def gd (a0 a1:ah):Prop:=(ah.Sm (2^21) a0)/\(ah.Sm (2^21) a1)
def R:=RR (p2 gd) (u2 md)
def an {a0 a1}(h:gd a0 a1):R ((ah.r a0),(ah.r a1))=some (md a0 a1):=aP (a:=(a0,a1)) h
def aU:=CN [.agg rV,.agg rV] oB RT.dec R
def bA (a0)(a1)(hg:gd a0 a1):F (ah.r a0) (ah.r a1)=ret (md a0 a1):=by
 obtain ⟨H0,H1⟩:=hg
 unfold F md
 try simp only [SS]
 refine av ret (fun c1=>?_) (fun _=>rfl)
 refine av ret (fun c2=>?_) (fun _=>rfl)
 refine av ret (fun c3=>?_) (fun _=>rfl)
 refine ct (Z110.an ⟨H0.2,H1.2⟩) ?_
 all_goals exact fz
def af:cD 195 aU:=W2 31 F mix aE bA (.cons Z110.af .nil) Tryz.func195
def md_eq (a0 a1:ah):md a0 a1=dY a0 a1:=by
 unfold md
 cases a0;cases a1
 rw [Bool.eq_iff_iff]
 simp [dh,eO,ah.mk.injEq,Z110.md_eq]
 try (constructor<;>(intro h;simp_all))
end Z111
namespace Z112
def F (x0 x1:bT):aJ:=(cond (x0.eB==x1.eB) (call (Z65.R (x0.bK,x1.bK)) fun v1=>ret (v1:Bool)) bf)
def md (a0 a1:aN):Bool:=(cond (a0.eB==a1.eB) ((Z65.md a0.bK a1.bK):Bool) (false:Bool))
def gd (a0 a1:aN):Prop:=(aN.Sm (2^21) a0)/\(aN.Sm (2^21) a1)
def R:=RR (p2 gd) (u2 md)
def an {a0 a1}(h:gd a0 a1):R ((aN.r a0),(aN.r a1))=some (md a0 a1):=aP (a:=(a0,a1)) h
def aU:=CN [.agg rm,.agg rm] oB RT.dec R
def bA (a0)(a1)(hg:gd a0 a1):F (aN.r a0) (aN.r a1)=ret (md a0 a1):=by
 obtain ⟨H0,H1⟩:=hg
 unfold F md
 try simp only [SS]
 refine av ret (fun c1=>?_) (fun _=>rfl)
 refine ct (Z65.an ⟨(H0.mono (by decide) (fun x hx=>trivial)),(H1.mono (by decide) (fun x hx=>trivial))⟩) ?_
 all_goals exact fz
def af:cD 196 aU:=W2 17 F mix aE bA (.cons Z65.af .nil) Tryz.func196
def md_eq (a0 a1:aN):md a0 a1=dY a0 a1:=by
 unfold md
 cases a0;cases a1
 rw [Bool.eq_iff_iff]
 simp [dh,eO,aN.mk.injEq,Z65.md_eq]
 try (constructor<;>(intro h;simp_all))
end Z112
namespace Z113
def F (x0 x1:dO):aJ:=(cond (x0.eB==x1.eB) (call (Z111.R (x0.aS,x1.aS)) fun v1=>(cond v1 (call (Z111.R (x0.cJ,x1.cJ)) fun v2=>(cond v2 (call (Z112.R (x0.eC,x1.eC)) fun v3=>(cond v3 (call (Z112.R (x0.cX,x1.cX)) fun v4=>ret (v4:Bool)) bf)) bf)) bf)) bf)
def md (a0 a1:bV):Bool:=(cond (a0.eB==a1.eB) (cond (Z111.md a0.aS a1.aS) (cond (Z111.md a0.cJ a1.cJ) (cond (Z112.md a0.eC a1.eC) ((Z112.md a0.cX a1.cX):Bool) (false:Bool)) (false:Bool)) (false:Bool)) (false:Bool))
def gd (a0 a1:bV):Prop:=(bV.Sm (2^21) a0)/\(bV.Sm (2^21) a1)
def R:=RR (p2 gd) (u2 md)
def an {a0 a1}(h:gd a0 a1):R ((bV.r a0),(bV.r a1))=some (md a0 a1):=aP (a:=(a0,a1)) h
def aU:=CN [.agg vQ,.agg vQ] oB RT.dec R
def bA (a0)(a1)(hg:gd a0 a1):F (bV.r a0) (bV.r a1)=ret (md a0 a1):=by
 obtain ⟨H0,H1⟩:=hg
 unfold F md
 try simp only [SS]
 refine av ret (fun c1=>?_) (fun _=>rfl)
 refine ct (Z111.an ⟨H0.1,H1.1⟩) ?_
 refine av ret (fun c2=>?_) (fun _=>rfl)
 refine ct (Z111.an ⟨H0.2.1,H1.2.1⟩) ?_
 refine av ret (fun c3=>?_) (fun _=>rfl)
 refine ct (Z112.an ⟨H0.2.2.1,H1.2.2.1⟩) ?_
 refine av ret (fun c4=>?_) (fun _=>rfl)
 refine ct (Z112.an ⟨H0.2.2.2,H1.2.2.2⟩) ?_
 all_goals exact fz
def af:cD 158 aU:=W2 38 F mix aE bA (.cons Z111.af (.cons Z112.af .nil)) Tryz.func158
def md_eq (a0 a1:bV):md a0 a1=dY a0 a1:=by
 unfold md
 cases a0;cases a1
 rw [Bool.eq_iff_iff]
 simp [dh,eO,bV.mk.injEq,Z111.md_eq,Z112.md_eq]
 try (constructor<;>(intro h;simp_all))
end Z113
namespace Z114
def F (x0:aY)(x1:bT):aJ:=(call (Z111.R (x0,(⟨(⟨#[]⟩:aD),0,0,[]⟩:aY))) fun v1=>(cond v1 (call (Z112.R (x1,(⟨0,[]⟩:bT))) fun v2=>ret (v2:Bool)) bf))
def md (a0:ah)(a1:aN):Bool:=(cond (Z111.md a0 (⟨((⟨#[]⟩:aD):aD),0,0,[]⟩:ah)) ((Z112.md a1 (⟨0,[]⟩:aN)):Bool) (false:Bool))
def gd (a0:ah)(a1:aN):Prop:=(ah.Sm (2^21) a0)/\(aN.Sm (2^21) a1)
def R:=RR (p2 gd) (u2 md)
def an {a0 a1}(h:gd a0 a1):R ((ah.r a0),(aN.r a1))=some (md a0 a1):=aP (a:=(a0,a1)) h
def aU:=CN [.agg rV,.agg rm] oB RT.dec R
def bA (a0)(a1)(hg:gd a0 a1):F (ah.r a0) (aN.r a1)=ret (md a0 a1):=by
 obtain ⟨H0,H1⟩:=hg
 unfold F md
 try simp only [SS]
 refine ct (Z111.an (a1:=(⟨((⟨#[]⟩:aD):aD),0,0,[]⟩:ah)) ⟨H0,⟨(by decide),bM.nil⟩⟩) ?_
 refine av ret (fun c1=>?_) (fun _=>rfl)
 refine ct (Z112.an (a1:=(⟨0,[]⟩:aN)) ⟨H1,bM.nil⟩) ?_
 all_goals exact fz
def af:cD 160 aU:=W2 13 F mix aE bA (.cons Z111.af (.cons Z112.af .nil)) Tryz.func160
end Z114
namespace Z115
def F (x0 x1:Int)(x2:aD)(x3:dO):aJ:=(call (Z46.R x2) fun v1=>(cond (!v1) bf (call (Z45.R (x3.eB,0,x1)) fun v2=>(cond (!v2) bf (cond (x1==0) (call (Z87.R []) fun v3=>(cond (x0 != v3) bf (cond (x3.eB==0) (call (Z114.R (x3.aS,x3.eC)) fun v4=>(cond (!v4) bf (cond (x3.eB==x1) (call (Z114.R (x3.cJ,x3.cX)) fun v5=>ret (v5:Bool)) (call (Z109.R (x0,x1,x3.cJ,x3.cX)) fun v6=>(cond v6 (cond (x3.cX.eB==x3.eB) (call (Z76.R (x3.cJ.bw,x2)) fun v7=>ret ((v7==1):Bool)) bf) bf))))) (call (Z109.R (x0,x1,x3.aS,x3.eC)) fun v8=>(cond (!v8) bf (cond (x3.eC.eB != (i64.wrap (x3.eB - 1))) bf (call (Z76.R (x3.aS.bw,x2)) fun v9=>(cond (v9 != (-1)) bf (cond (x3.eB==x1) (call (Z114.R (x3.cJ,x3.cX)) fun v10=>ret (v10:Bool)) (call (Z109.R (x0,x1,x3.cJ,x3.cX)) fun v11=>(cond v11 (cond (x3.cX.eB==x3.eB) (call (Z76.R (x3.cJ.bw,x2)) fun v12=>ret ((v12==1):Bool)) bf) bf))))))))))) (cond (x3.eB==0) (call (Z114.R (x3.aS,x3.eC)) fun v13=>(cond (!v13) bf (cond (x3.eB==x1) (call (Z114.R (x3.cJ,x3.cX)) fun v14=>ret (v14:Bool)) (call (Z109.R (x0,x1,x3.cJ,x3.cX)) fun v15=>(cond v15 (cond (x3.cX.eB==x3.eB) (call (Z76.R (x3.cJ.bw,x2)) fun v16=>ret ((v16==1):Bool)) bf) bf))))) (call (Z109.R (x0,x1,x3.aS,x3.eC)) fun v17=>(cond (!v17) bf (cond (x3.eC.eB != (i64.wrap (x3.eB - 1))) bf (call (Z76.R (x3.aS.bw,x2)) fun v18=>(cond (v18 != (-1)) bf (cond (x3.eB==x1) (call (Z114.R (x3.cJ,x3.cX)) fun v19=>ret (v19:Bool)) (call (Z109.R (x0,x1,x3.cJ,x3.cX)) fun v20=>(cond v20 (cond (x3.cX.eB==x3.eB) (call (Z76.R (x3.cJ.bw,x2)) fun v21=>ret ((v21==1):Bool)) bf) bf))))))))))))))
def md (a0 a1:Int)(a2:aD)(a3:bV):Bool:=(cond (!(Z46.md a2)) (false:Bool) (cond (!(Z45.md a3.eB 0 a1)) (false:Bool) (cond (a1==0) (cond (a0 != (Z87.md [])) (false:Bool) (cond (a3.eB==0) (cond (!(Z114.md a3.aS a3.eC)) (false:Bool) (cond (a3.eB==a1) ((Z114.md a3.cJ a3.cX):Bool) (cond (Z109.md a0 a1 a3.cJ a3.cX) (cond (a3.cX.eB==a3.eB) (((Z76.md a3.cJ.bw a2)==1):Bool) (false:Bool)) (false:Bool)))) (cond (!(Z109.md a0 a1 a3.aS a3.eC)) (false:Bool) (cond (a3.eC.eB != (i64.wrap (a3.eB - 1))) (false:Bool) (cond ((Z76.md a3.aS.bw a2) != (-1)) (false:Bool) (cond (a3.eB==a1) ((Z114.md a3.cJ a3.cX):Bool) (cond (Z109.md a0 a1 a3.cJ a3.cX) (cond (a3.cX.eB==a3.eB) (((Z76.md a3.cJ.bw a2)==1):Bool) (false:Bool)) (false:Bool)))))))) (cond (a3.eB==0) (cond (!(Z114.md a3.aS a3.eC)) (false:Bool) (cond (a3.eB==a1) ((Z114.md a3.cJ a3.cX):Bool) (cond (Z109.md a0 a1 a3.cJ a3.cX) (cond (a3.cX.eB==a3.eB) (((Z76.md a3.cJ.bw a2)==1):Bool) (false:Bool)) (false:Bool)))) (cond (!(Z109.md a0 a1 a3.aS a3.eC)) (false:Bool) (cond (a3.eC.eB != (i64.wrap (a3.eB - 1))) (false:Bool) (cond ((Z76.md a3.aS.bw a2) != (-1)) (false:Bool) (cond (a3.eB==a1) ((Z114.md a3.cJ a3.cX):Bool) (cond (Z109.md a0 a1 a3.cJ a3.cX) (cond (a3.cX.eB==a3.eB) (((Z76.md a3.cJ.bw a2)==1):Bool) (false:Bool)) (false:Bool))))))))))
def gd (a0 a1:Int)(a2:aD)(a3:bV):Prop:=(a2.size<=(2^21))/\(bV.Sm (2^21) a3)
def R:=RR (p4 gd) (u4 md)
def an {a0 a1 a2 a3}(h:gd a0 a1 a2 a3):R (a0,a1,a2,(bV.r a3))=some (md a0 a1 a2 a3):=aP (a:=(a0,a1,a2,a3)) h
def aU:=CN [pI,pI,pS,.agg vQ] oB RT.dec R
def bA (a0)(a1)(a2)(a3)(hg:gd a0 a1 a2 a3):F a0 a1 a2 (bV.r a3)=ret (md a0 a1 a2 a3):=by
 obtain ⟨H2,H3⟩:=hg
 unfold F md
 try simp only [SS]
 refine ct (Z46.an (le_trans H2 (by decide))) ?_
 refine av ret (fun _=>rfl) (fun c1=>?_)
 refine ct (Z45.an trivial) ?_
 refine av ret (fun _=>rfl) (fun c2=>?_)
 refine av ret (fun c3=>?_) (fun c3=>?_)
 ·refine aZ (Z87.md []) (rq (Z87.an (a0:=[]) bM.nil)) ?_
  refine av ret (fun _=>rfl) (fun c4=>?_)
  refine av ret (fun c5=>?_) (fun c5=>?_)
  ·refine ct (Z114.an ⟨H3.1,H3.2.2.1⟩) ?_
   refine av ret (fun _=>rfl) (fun c6=>?_)
   refine av ret (fun c7=>?_) (fun c7=>?_)
   ·refine ct (Z114.an ⟨H3.2.1,H3.2.2.2⟩) ?_
    all_goals exact fz
   ·refine ct (Z109.an ⟨H3.2.1,H3.2.2.2⟩) ?_
    refine av ret (fun c8=>?_) (fun _=>rfl)
    refine av ret (fun c9=>?_) (fun _=>rfl)
    refine ct (Z76.an trivial) ?_
    all_goals exact fz
  ·refine ct (Z109.an ⟨H3.1,H3.2.2.1⟩) ?_
   refine av ret (fun _=>rfl) (fun c10=>?_)
   refine av ret (fun _=>rfl) (fun c11=>?_)
   refine ct (Z76.an trivial) ?_
   refine av ret (fun _=>rfl) (fun c12=>?_)
   refine av ret (fun c13=>?_) (fun c13=>?_)
   ·refine ct (Z114.an ⟨H3.2.1,H3.2.2.2⟩) ?_
    all_goals exact fz
   ·refine ct (Z109.an ⟨H3.2.1,H3.2.2.2⟩) ?_
    refine av ret (fun c14=>?_) (fun _=>rfl)
    refine av ret (fun c15=>?_) (fun _=>rfl)
    refine ct (Z76.an trivial) ?_
    all_goals exact fz
 ·refine av ret (fun c16=>?_) (fun c16=>?_)
  ·refine ct (Z114.an ⟨H3.1,H3.2.2.1⟩) ?_
   refine av ret (fun _=>rfl) (fun c17=>?_)
   refine av ret (fun c18=>?_) (fun c18=>?_)
   ·refine ct (Z114.an ⟨H3.2.1,H3.2.2.2⟩) ?_
    all_goals exact fz
   ·refine ct (Z109.an ⟨H3.2.1,H3.2.2.2⟩) ?_
    refine av ret (fun c19=>?_) (fun _=>rfl)
    refine av ret (fun c20=>?_) (fun _=>rfl)
    refine ct (Z76.an trivial) ?_
    all_goals exact fz
  ·refine ct (Z109.an ⟨H3.1,H3.2.2.1⟩) ?_
   refine av ret (fun _=>rfl) (fun c21=>?_)
   refine av ret (fun _=>rfl) (fun c22=>?_)
   refine ct (Z76.an trivial) ?_
   refine av ret (fun _=>rfl) (fun c23=>?_)
   refine av ret (fun c24=>?_) (fun c24=>?_)
   ·refine ct (Z114.an ⟨H3.2.1,H3.2.2.2⟩) ?_
    all_goals exact fz
   ·refine ct (Z109.an ⟨H3.2.1,H3.2.2.2⟩) ?_
    refine av ret (fun c25=>?_) (fun _=>rfl)
    refine av ret (fun c26=>?_) (fun _=>rfl)
    refine ct (Z76.an trivial) ?_
    all_goals exact fz
def af:cD 159 aU:=W4 95 F mix aE bA (.cons Z46.af (.cons Z45.af (.cons Z87.af (.cons Z114.af (.cons Z109.af (.cons Z76.af .nil)))))) Tryz.func159
end Z115
namespace Z116
def F (x0:cg)(x1:aD)(x2:bk):aJ:=(cond x2.cy (cond (x2.bp.bw==x1) (call (Z109.R (x0.cW,x0.cu,x2.bp,x2.eE)) fun v1=>(cond v1 (call (Z113.R (x2.fU,(⟨0,(⟨(⟨#[]⟩:aD),0,0,[]⟩:aY),(⟨(⟨#[]⟩:aD),0,0,[]⟩:aY),(⟨0,[]⟩:bT),(⟨0,[]⟩:bT)⟩:dO))) fun v2=>ret (v2:Bool)) bf)) bf) (call (Z115.R (x0.cW,x0.cu,x1,x2.fU)) fun v3=>(cond v3 (call (Z114.R (x2.bp,x2.eE)) fun v4=>ret (v4:Bool)) bf)))
def md (a0:aF)(a1:aD)(a2:ay):Bool:=(cond a2.cy (cond (a2.bp.bw==a1) (cond (Z109.md a0.cW a0.cu a2.bp a2.eE) ((Z113.md a2.fU (⟨0,(⟨((⟨#[]⟩:aD):aD),0,0,[]⟩:ah),(⟨((⟨#[]⟩:aD):aD),0,0,[]⟩:ah),(⟨0,[]⟩:aN),(⟨0,[]⟩:aN)⟩:bV)):Bool) (false:Bool)) (false:Bool)) (cond (Z115.md a0.cW a0.cu a1 a2.fU) ((Z114.md a2.bp a2.eE):Bool) (false:Bool)))
def gd (a0:aF)(a1:aD)(a2:ay):Prop:=(a1.size<=(2^21))/\(ay.Sm (2^21) a2)
def R:=RR (p3 gd) (u3 md)
def an {a0 a1 a2}(h:gd a0 a1 a2):R ((aF.r a0),a1,(ay.r a2))=some (md a0 a1 a2):=aP (a:=(a0,a1,a2)) h
def aU:=CN [.agg fX,pS,.agg yu] oB RT.dec R
def bA (a0)(a1)(a2)(hg:gd a0 a1 a2):F (aF.r a0) a1 (ay.r a2)=ret (md a0 a1 a2):=by
 obtain ⟨H1,H2⟩:=hg
 unfold F md
 try simp only [SS]
 refine av ret (fun c1=>?_) (fun c1=>?_)
 ·refine av ret (fun c2=>?_) (fun _=>rfl)
  refine ct (Z109.an ⟨H2.2.1,H2.2.2.1⟩) ?_
  refine av ret (fun c3=>?_) (fun _=>rfl)
  refine ct (Z113.an (a1:=(⟨0,(⟨((⟨#[]⟩:aD):aD),0,0,[]⟩:ah),(⟨((⟨#[]⟩:aD):aD),0,0,[]⟩:ah),(⟨0,[]⟩:aN),(⟨0,[]⟩:aN)⟩:bV)) ⟨H2.2.2.2,⟨⟨(by decide),bM.nil⟩,⟨(by decide),bM.nil⟩,bM.nil,bM.nil⟩⟩) ?_
  all_goals exact fz
 ·refine ct (Z115.an ⟨H1,H2.2.2.2⟩) ?_
  refine av ret (fun c4=>?_) (fun _=>rfl)
  refine ct (Z114.an ⟨H2.2.1,H2.2.2.1⟩) ?_
  all_goals exact fz
def af:cD 127 aU:=W3 46 F mix aE bA (.cons Z109.af (.cons Z113.af (.cons Z115.af (.cons Z114.af .nil)))) Tryz.func127
end Z116
namespace Z117
def F (x0:Int)(x1:aD)(x2:bk)(x3:Int):aJ:=(call (Z74.R x2.aT) fun v1=>(cond (!v1.2) (ret (3:Int)) (cond (v1.1.bz != x0) (ret (2:Int)) (call (Z107.R (v1.1,x3)) fun v2=>(cond (!v2) (ret (4:Int)) (cond v1.1.bF (ret (5:Int)) (call (Z116.R (v1.1,x1,x2)) fun v3=>(cond (!v3) (ret (6:Int)) (ret (1:Int))))))))))
def md (a0:Int)(a1:aD)(a2:ay)(a3:Int):Int:=(cond (!(Z74.md a2.aT).2) (3:Int) (cond ((Z74.md a2.aT).1.bz != a0) (2:Int) (cond (!(Z107.md ((Z74.md a2.aT).1) a3)) (4:Int) (cond ((Z74.md a2.aT).1.bF) (5:Int) (cond (!(Z116.md ((Z74.md a2.aT).1) a1 a2)) (6:Int) (1:Int))))))
def gd (a0:Int)(a1:aD)(a2:ay)(a3:Int):Prop:=(a1.size<=(2^21))/\(ay.Sm (2^21) a2)
def R:=RR (p4 gd) (u4 md)
def an {a0 a1 a2 a3}(h:gd a0 a1 a2 a3):R (a0,a1,(ay.r a2),a3)=some (md a0 a1 a2 a3):=aP (a:=(a0,a1,a2,a3)) h
def aU:=CN [pI,pS,.agg yu,pI] oI RT.dec R
def bA (a0)(a1)(a2)(a3)(hg:gd a0 a1 a2 a3):F a0 a1 (ay.r a2) a3=ret (md a0 a1 a2 a3):=by
 obtain ⟨H1,H2⟩:=hg
 unfold F md
 try simp only [SS]
 refine ct (Z74.an H2.1) ?_
 try simp only [SS]
 refine av ret (fun _=>rfl) (fun c1=>?_)
 refine av ret (fun _=>rfl) (fun c2=>?_)
 refine ct (Z107.an trivial) ?_
 refine av ret (fun _=>rfl) (fun c3=>?_)
 refine av ret (fun _=>rfl) (fun c4=>?_)
 refine ct (Z116.an ⟨H1,H2⟩) ?_
 refine av ret (fun _=>rfl) (fun _=>rfl)
def af:cD 103 aU:=W4 39 F mix aE bA (.cons Z74.af (.cons Z107.af (.cons Z116.af .nil))) Tryz.func103
end Z117
namespace Z118
inductive Pt where
 | p0 (a:Int) (b c:aR)
def pid:Pt->Nat
 | .p0 ..=>4
def bY:Pt->List V
 | .p0 a b c=>[.cN 0 0,.cN 1 0,.int .i64 a]
def bX:Pt->List aV
 | .p0 a b c=>[.box [.int .i64 b.aq.bz,.int .i64 b.aq.cI,.int .i64 b.aq.bQ,.int .i64 b.aq.cF,.int .i64 b.aq.cC,.int .i64 b.aq.cu,.int .i64 b.aq.cW,.int .i64 b.aq.dy,.sl none 3 b.aq.bR.aX,.int .i64 b.aq.bR.cE,.sl none 3 b.aq.bD.aX,.int .i64 b.aq.bD.cE,.int .i64 b.aq.cY,.sl none 3 b.aq.bB.aX,.int .i64 b.aq.bB.cE,.bool b.aq.bF,.sl none 190 b.cm],.box [.int .i64 c.aq.bz,.int .i64 c.aq.cI,.int .i64 c.aq.bQ,.int .i64 c.aq.cF,.int .i64 c.aq.cC,.int .i64 c.aq.cu,.int .i64 c.aq.cW,.int .i64 c.aq.dy,.sl none 3 c.aq.bR.aX,.int .i64 c.aq.bR.cE,.sl none 3 c.aq.bD.aX,.int .i64 c.aq.bD.cE,.int .i64 c.aq.cY,.sl none 3 c.aq.bB.aX,.int .i64 c.aq.bB.cE,.bool c.aq.bF,.sl none 190 c.cm]]
def step (J:Pt->aJ):Pt->aJ
 | .p0 a b c=>(cond (decide (a<(b.cm.length:Int))) (m2 a (b.cm.length:Int) (m2 a (c.cm.length:Int) (cond (!((((bt.at b.cm (toNat a)).gM:Int)==(bt.at c.cm (toNat a)).gM)&&((((bt.at b.cm (toNat a)).ju:Int)==(bt.at c.cm (toNat a)).ju)&&true))) bf (J (.p0 (i64.wrap (a+1)) b c))))) eu)
def start (J:Pt->aJ)(x0 x1:aR):aJ:=(call (Z102.R (x0.aq,x1.aq)) fun v1=>(cond (!v1) bf (cond ((x0.cm.length:Int) != (x1.cm.length:Int)) bf (J (.p0 0 x0 x1)))))
def live:Nat->Live:=fun i=>match i with | 4=>[(2,none),(3,none),(5,none)] | _=>[]
def md (a0 a1:aa):Bool:=(bif (!(Z102.md a0.aq a1.aq)) then (false:Bool) else (bif ((a0.cm.length:Int) != (a1.cm.length:Int)) then (false:Bool) else (eo (S:=Unit) (β:=Bool) (fun (i3:Nat) (s5:Unit)=>(cond (!((((a0.cm.getD i3 bt.zero).gM:Int)==(a1.cm.getD i3 bt.zero).gM)&&((((a0.cm.getD i3 bt.zero).ju:Int)==(a1.cm.getD i3 bt.zero).ju)&&true))) (.inr (false:Bool)) (.inl ()))) (fun (s5:Unit)=>(true:Bool)) a0.cm.length 0 ())))
def gd (a0 a1:aa):Prop:=(aa.Sm (2^21) a0)/\(aa.Sm (2^21) a1)
def R:=RR (p2 gd) (u2 md)
def an {a0 a1}(h:gd a0 a1):R ((aa.r a0),(aa.r a1))=some (md a0 a1):=aP (a:=(a0,a1)) h
def aU:=CN [.agg ku,.agg ku] oB RT.dec R
def bA (a0)(a1)(hg:gd a0 a1):∃n,start (iter step n) (aa.r a0) (aa.r a1)=ret (md a0 a1):=by
 obtain ⟨H0,H1⟩:=hg
 unfold start md
 try simp only [SS]
 refine cx (Z102.an ⟨H0.1,H1.1⟩) ?_
 refine gR ret (fun _=>⟨0,rfl⟩) (fun c1=>?_)
 have dc1:=c1
 try simp only [DC] at dc1
 refine gR ret (fun _=>⟨0,rfl⟩) (fun c2=>?_)
 have dc2:=c2
 try simp only [DC] at dc2
 have Bh4:a0.cm.length<=maxLen:=(by
   have:=(H0.2).1
   try simp only [maxLen] at *
   omega)
 refine dM (p:=Pt.p0 0 (aa.r a0) (aa.r a1)) fz ?_
 refine ck (pt:=fun (i3:Nat) (s5:Unit)=>Pt.p0 (i3:Int) (aa.r a0) (aa.r a1)) (s:=(():Unit)) (out:=ret) (fun _ _=>True) (fun J i3 s5 h4 hih4=>?_) (fun s5 hih4=>?_) trivial
 ·simp only [step,SS]
  have bb_:=Bh4
  simp only [maxLen] at bb_
  have:=(H0.2).1
  refine bC.yes (by apply decide_eq_true;omega) ?_
  refine bC.yes aI ?_
  refine bC.yes (aK h4) ?_
  refine bC.yes aI ?_
  refine bC.yes (have:=(H1.2).1;dt) ?_
  refine bC.bif (fun _=>bC.inr rfl) (fun c6=>?_)
  refine bC.inl trivial ?_
  rw [aH h4 Bh4]
  all_goals exact fz
 ·simp only [step,SS]
  have:=(H0.2).1
  refine dx (by apply decide_eq_false;omega) ?_
  refine ⟨0,?_⟩
  all_goals exact fz
def af:cD 199 aU:=L2 39 pid bY bX live step start mix aE bA (.cons Z102.af .nil) Tryz.func199
def md_eq (a0 a1:aa):md a0 a1=dY a0 a1:=by
 unfold md
 simp only [Z102.md_eq,fc,bt.eqc]
 rw [ke bt.zero (fun i s h h2=>by cases dY (a0.cm.getD i bt.zero) (a1.cm.getD i bt.zero)<;>rfl) (fun s=>rfl)]
 rw [Bool.eq_iff_iff]
 cases a0;cases a1
 simp [dh]
end Z118
namespace Z119
def F (x0:bJ):aJ:=(call (Z102.R (x0.fA.aq,x0.fB.aq)) fun v1=>(cond v1 bf (call (Z118.R (x0.aS,(⟨(⟨0,0,0,0,0,0,0,0,(⟨[],0⟩:bE),(⟨[],0⟩:bE),0,(⟨[],0⟩:bE),false⟩:cg),[]⟩:aR))) fun v2=>(cond v2 (call (Z62.R x0.fA) fun v3=>(cond v3 (call (Z62.R x0.fB) fun v4=>(cond v4 (ret ((x0.fA.aq.bz==x0.fB.aq.bz):Bool)) bf)) bf)) (call (Z71.R (x0.aS.aq,x0.fA)) fun v5=>(cond v5 (call (Z71.R (x0.aS.aq,x0.fB)) fun v6=>ret (v6:Bool)) bf))))))
def md (a0:az):Bool:=(cond (Z102.md a0.fA.aq a0.fB.aq) (false:Bool) (cond (Z118.md a0.aS (⟨(⟨0,0,0,0,0,0,0,0,(⟨[],0⟩:aO),(⟨[],0⟩:aO),0,(⟨[],0⟩:aO),false⟩:aF),[]⟩:aa)) (cond (Z62.md a0.fA) (cond (Z62.md a0.fB) ((a0.fA.aq.bz==a0.fB.aq.bz):Bool) (false:Bool)) (false:Bool)) (cond (Z71.md a0.aS.aq a0.fA) ((Z71.md a0.aS.aq a0.fB):Bool) (false:Bool))))
def gd (a0:az):Prop:=(az.Sm (2^21) a0)
def R:=RR gd md
def an {a0}(h:gd a0):R (az.r a0)=some (md a0):=aP (a:=a0) h
def aU:=CN [.agg sQ] oB RT.dec R
def bA (a0)(hg:gd a0):F (az.r a0)=ret (md a0):=by
 unfold gd at hg
 have H0:=hg
 unfold F md
 try simp only [SS]
 refine ct (Z102.an ⟨H0.2.1.1,H0.2.2.1⟩) ?_
 refine av ret (fun _=>rfl) (fun c1=>?_)
 refine ct (Z118.an (a1:=(⟨(⟨0,0,0,0,0,0,0,0,(⟨[],0⟩:aO),(⟨[],0⟩:aO),0,(⟨[],0⟩:aO),false⟩:aF),[]⟩:aa)) ⟨H0.1,⟨⟨bM.nil,bM.nil,bM.nil⟩,bM.nil⟩⟩) ?_
 refine av ret (fun c2=>?_) (fun c2=>?_)
 ·refine ct (Z62.an H0.2.1) ?_
  refine av ret (fun c3=>?_) (fun _=>rfl)
  refine ct (Z62.an H0.2.2) ?_
  refine av ret (fun c4=>?_) (fun _=>rfl)
  all_goals exact fz
 ·refine ct (Z71.an ⟨H0.1.1,H0.2.1⟩) ?_
  refine av ret (fun c5=>?_) (fun _=>rfl)
  refine ct (Z71.an ⟨H0.1.1,H0.2.2⟩) ?_
  all_goals exact fz
def af:cD 161 aU:=W1 47 F mix aE bA (.cons Z102.af (.cons Z118.af (.cons Z62.af (.cons Z71.af .nil)))) Tryz.func161
end Z119
namespace Z120
def F (x0:bJ):aJ:=(call (Z119.R x0) fun v1=>(cond (!v1) (ret ((-1):Int)) (ret (x0.fA.aq.bz:Int))))
def md (a0:az):Int:=(cond (!(Z119.md a0)) ((-1):Int) (a0.fA.aq.bz:Int))
def gd (a0:az):Prop:=(az.Sm (2^21) a0)
def R:=RR gd md
def an {a0}(h:gd a0):R (az.r a0)=some (md a0):=aP (a:=a0) h
def aU:=CN [.agg sQ] oI RT.dec R
def bA (a0)(hg:gd a0):F (az.r a0)=ret (md a0):=by
 unfold gd at hg
 have H0:=hg
 unfold F md
 try simp only [SS]
 refine ct (Z119.an H0) ?_
 refine av ret (fun _=>rfl) (fun c1=>?_)
 all_goals exact fz
def af:cD 128 aU:=W1 10 F mix aE bA (.cons Z119.af .nil) Tryz.func128
end Z120
namespace Z121
inductive Pt where
 | p0 (a b:Int) (c:bn)
def pid:Pt->Nat
 | .p0 ..=>2
def bY:Pt->List V
 | .p0 a b c=>[.int .i64 a,.cN 0 0,.int .i64 b]
def bX:Pt->List aV
 | .p0 a b c=>[.box [.sl none 134 c.aG,.sl none 143 c.aW]]
def step (J:Pt->aJ):Pt->aJ
 | .p0 a b c=>(cond (decide (b<(c.aW.length:Int))) (m2 b (c.aW.length:Int) (call (Z120.R (bJ.at c.aW (toNat b))) fun v1=>(cond (v1==a) (cond (decide (a>=0)) eu (J (.p0 a (i64.wrap (b+1)) c))) (J (.p0 a (i64.wrap (b+1)) c))))) bf)
def start (J:Pt->aJ)(x0:bn)(x1:Int):aJ:=J (.p0 x1 0 x0)
def live:Nat->Live:=fun i=>match i with | 2=>[(1,none),(2,none),(5,none)] | _=>[]
def md (a0:aj)(a1:Int):Bool:=(dQ (S:=Unit) (β:=Bool) (fun (y1:az) (s3:Unit)=>(cond ((Z120.md y1)==a1) (cond (decide (a1>=0)) (.inr (true:Bool)) (.inl ())) (.inl ()))) (fun (s3:Unit)=>(false:Bool)) a0.aW ())
def gd (a0:aj)(a1:Int):Prop:=(aj.Sm (2^21) a0)
def R:=RR (p2 gd) (u2 md)
def an {a0 a1}(h:gd a0 a1):R ((aj.r a0),a1)=some (md a0 a1):=aP (a:=(a0,a1)) h
def aU:=CN [.agg rT,pI] oB RT.dec R
def bA (a0)(a1)(hg:gd a0 a1):∃n,start (iter step n) (aj.r a0) a1=ret (md a0 a1):=by
 unfold gd at hg
 have H0:=hg
 unfold start md
 try simp only [SS]
 have Bh2:a0.aW.length<=maxLen:=(by
   have:=(H0.2).1
   try simp only [maxLen] at *
   omega)
 refine ex_eq (out:=ret) (ep (z:=az.zero)) ?_
 refine dM (p:=Pt.p0 a1 0 (aj.r a0)) fz ?_
 refine ck (pt:=fun (i1:Nat) (s3:Unit)=>Pt.p0 a1 (i1:Int) (aj.r a0)) (s:=(():Unit)) (out:=ret) (fun _ _=>True) (fun J i1 s3 h2 hih2=>?_) (fun s3 hih2=>?_) trivial
 ·simp only [step,SS]
  have bb_:=Bh2
  simp only [maxLen] at bb_
  have:=(H0.2).1
  refine bC.yes (by apply decide_eq_true;omega) ?_
  refine bC.yes aI ?_
  refine bC.yes (aK h2) ?_
  refine cr (Z120.an (bM.getD (z:=az.zero) H0.2 h2)) ?_
  refine bC.bif (fun c4=>?_) (fun c4=>?_)
  ·refine bC.bif (fun _=>bC.inr rfl) (fun c5=>?_)
   refine bC.inl trivial ?_
   rw [aH h2 Bh2]
   all_goals exact fz
  ·refine bC.inl trivial ?_
   rw [aH h2 Bh2]
   all_goals exact fz
 ·simp only [step,SS]
  have:=(H0.2).1
  refine dx (by apply decide_eq_false;omega) ?_
  refine ⟨0,?_⟩
  all_goals exact fz
def af:cD 104 aU:=L2 25 pid bY bX live step start mix aE bA (.cons Z120.af .nil) Tryz.func104
end Z121
namespace Z122
inductive Pt where
 | p0 (a:aB) (b:Int) (c:aD) (d e:Int) (f:Bool) (g:aD) (h i:Int) (j k:Bool) (l:aD) (m n:Int) (o:Bool) (p q s:aB)
def pid:Pt->Nat
 | .p0 ..=>3
def bY:Pt->List V
 | .p0 a b c d e f g h i j k l m n o p q s=>[.sl none 165 a,.int .i64 b,.str c,.int .i64 d,.cN 0 0,.cN 1 0,.int .i64 e,.cN 1 0]
def bX:Pt->List aV
 | .p0 a b c d e f g h i j k l m n o p q s=>[.box [.nil,.nil,.bool f,.str g,.int .i64 h,.int .i64 i,.nil,.bool j,.nil],.box [.own 2,.own 3,.bool k,.str l,.int .i64 m,.int .i64 n,.nil,.bool o,.own 4],.row 134 p,.row 143 q,.row 3 s]
def step (J:Pt->aJ):Pt->aJ
 | .p0 a b c d e f g h i j k l m n o p q s=>(cond (decide (e<(a.length:Int))) (m2 e (a.length:Int) (call (Z74.R ((bk.at a (toNat e)).aT)) fun v1=>(cond v1.2 (cond (v1.1.bz==b) (call (Z106.R ((⟨p,q⟩:bn),(bk.at a (toNat e)).aT)) fun v2=>(call (Z117.R (b,c,(bk.at a (toNat e)),d)) fun v3=>(cond (v2.2==1) (cond (v3==1) (call (Z121.R (v2.1,b)) fun v4=>(cond v4 (cj (eS (((s.length:Int)+1)*8)) (J (.p0 a b c d (i64.wrap (e+1)) f g h i j k l m n o v2.1.aG v2.1.aW (s++[[L.int 3]])))) (cj (eS (((s.length:Int)+1)*8)) (cond (v3==1) (call (Z93.R ((bk.at a (toNat e)).bp)) fun v5=>ret ((⟨v2.1,(bk.at a (toNat e)).cy,v5,true,(s++[[L.int v3]])⟩:cZ):cZ)) (J (.p0 a b c d (i64.wrap (e+1)) f g h i j k l m n o v2.1.aG v2.1.aW (s++[[L.int v3]]))))))) (cj (eS (((s.length:Int)+1)*8)) (cond (v3==1) (call (Z93.R ((bk.at a (toNat e)).bp)) fun v6=>ret ((⟨v2.1,(bk.at a (toNat e)).cy,v6,true,(s++[[L.int v3]])⟩:cZ):cZ)) (J (.p0 a b c d (i64.wrap (e+1)) f g h i j k l m n o v2.1.aG v2.1.aW (s++[[L.int v3]])))))) (cond (v2.2==2) (cond (v3==1) (call (Z121.R (v2.1,b)) fun v7=>(cond v7 (cj (eS (((s.length:Int)+1)*8)) (J (.p0 a b c d (i64.wrap (e+1)) f g h i j k l m n o v2.1.aG v2.1.aW (s++[[L.int 3]])))) (cj (eS (((s.length:Int)+1)*8)) (cond (v3==1) (call (Z93.R ((bk.at a (toNat e)).bp)) fun v8=>ret ((⟨v2.1,(bk.at a (toNat e)).cy,v8,true,(s++[[L.int v3]])⟩:cZ):cZ)) (J (.p0 a b c d (i64.wrap (e+1)) f g h i j k l m n o v2.1.aG v2.1.aW (s++[[L.int v3]]))))))) (cj (eS (((s.length:Int)+1)*8)) (cond (v3==1) (call (Z93.R ((bk.at a (toNat e)).bp)) fun v9=>ret ((⟨v2.1,(bk.at a (toNat e)).cy,v9,true,(s++[[L.int v3]])⟩:cZ):cZ)) (J (.p0 a b c d (i64.wrap (e+1)) f g h i j k l m n o v2.1.aG v2.1.aW (s++[[L.int v3]])))))) (cond (v3==1) (cond (!(v2.2==3)) (cj (eS (((s.length:Int)+1)*8)) (J (.p0 a b c d (i64.wrap (e+1)) f g h i j k l m n o v2.1.aG v2.1.aW (s++[[L.int 3]])))) (call (Z121.R (v2.1,b)) fun v10=>(cond v10 (cj (eS (((s.length:Int)+1)*8)) (J (.p0 a b c d (i64.wrap (e+1)) f g h i j k l m n o v2.1.aG v2.1.aW (s++[[L.int 3]])))) (cj (eS (((s.length:Int)+1)*8)) (cond (v3==1) (call (Z93.R ((bk.at a (toNat e)).bp)) fun v11=>ret ((⟨v2.1,(bk.at a (toNat e)).cy,v11,true,(s++[[L.int v3]])⟩:cZ):cZ)) (J (.p0 a b c d (i64.wrap (e+1)) f g h i j k l m n o v2.1.aG v2.1.aW (s++[[L.int v3]])))))))) (cj (eS (((s.length:Int)+1)*8)) (cond (v3==1) (call (Z93.R ((bk.at a (toNat e)).bp)) fun v12=>ret ((⟨v2.1,(bk.at a (toNat e)).cy,v12,true,(s++[[L.int v3]])⟩:cZ):cZ)) (J (.p0 a b c d (i64.wrap (e+1)) f g h i j k l m n o v2.1.aG v2.1.aW (s++[[L.int v3]])))))))))) (call (Z117.R (b,c,(bk.at a (toNat e)),d)) fun v13=>(cond (v13==1) (cj (eS (((s.length:Int)+1)*8)) (J (.p0 a b c d (i64.wrap (e+1)) f g h i j k l m n o p q (s++[[L.int 3]])))) (cj (eS (((s.length:Int)+1)*8)) (cond (v13==1) (call (Z93.R ((bk.at a (toNat e)).bp)) fun v14=>ret ((⟨(⟨p,q⟩:bn),(bk.at a (toNat e)).cy,v14,true,(s++[[L.int v13]])⟩:cZ):cZ)) (J (.p0 a b c d (i64.wrap (e+1)) f g h i j k l m n o p q (s++[[L.int v13]])))))))) (call (Z117.R (b,c,(bk.at a (toNat e)),d)) fun v15=>(cond (v15==1) (cj (eS (((s.length:Int)+1)*8)) (J (.p0 a b c d (i64.wrap (e+1)) f g h i j k l m n o p q (s++[[L.int 3]])))) (cj (eS (((s.length:Int)+1)*8)) (cond (v15==1) (call (Z93.R ((bk.at a (toNat e)).bp)) fun v16=>ret ((⟨(⟨p,q⟩:bn),(bk.at a (toNat e)).cy,v16,true,(s++[[L.int v15]])⟩:cZ):cZ)) (J (.p0 a b c d (i64.wrap (e+1)) f g h i j k l m n o p q (s++[[L.int v15]])))))))))) (ret ((⟨(⟨p,q⟩:bn),k,(⟨l,m,n,[]⟩:aY),o,s⟩:cZ):cZ)))
def start (J:Pt->aJ)(x0:bn)(x1:aB)(x2:Int)(x3:aD)(x4:Int):aJ:=(call (Z44.R x0) fun v1=>J (.p0 x1 x2 x3 x4 0 false ⟨#[]⟩ 0 0 false false ⟨#[]⟩ 0 0 false v1.aG v1.aW []))
def live:Nat->Live:=fun i=>match i with | 3=>[(1,none),(2,none),(3,none),(4,none),(10,none),(11,none),(12,none),(11,some 8388611)] | _=>[]
def md (a0:aj)(a1:List ay)(a2:Int)(a3:aD)(a4:Int):bU:=(dQ (S:=List (List aa)×List az×List Int) (β:=bU) (fun (y1:ay) (s3:List (List aa)×List az×List Int)=>(cond ((Z74.md (y1.aT)).2) (cond ((Z74.md (y1.aT)).1.bz==a2) (cond ((Z106.md (⟨s3.1,s3.2.1⟩:aj) (y1.aT)).2==1) (cond ((Z117.md a2 a3 y1 a4)==1) (cond (Z121.md ((Z106.md (⟨s3.1,s3.2.1⟩:aj) (y1.aT)).1) a2) (.inl ((Z106.md (⟨s3.1,s3.2.1⟩:aj) (y1.aT)).1.aG,(Z106.md (⟨s3.1,s3.2.1⟩:aj) (y1.aT)).1.aW,(s3.2.2++[3]))) (cond ((Z117.md a2 a3 y1 a4)==1) (.inr (⟨(Z106.md (⟨s3.1,s3.2.1⟩:aj) (y1.aT)).1,y1.cy,(y1.bp),true,(s3.2.2++[(Z117.md a2 a3 y1 a4)])⟩:bU)) (.inl ((Z106.md (⟨s3.1,s3.2.1⟩:aj) (y1.aT)).1.aG,(Z106.md (⟨s3.1,s3.2.1⟩:aj) (y1.aT)).1.aW,(s3.2.2++[(Z117.md a2 a3 y1 a4)]))))) (cond ((Z117.md a2 a3 y1 a4)==1) (.inr (⟨(Z106.md (⟨s3.1,s3.2.1⟩:aj) (y1.aT)).1,y1.cy,(y1.bp),true,(s3.2.2++[(Z117.md a2 a3 y1 a4)])⟩:bU)) (.inl ((Z106.md (⟨s3.1,s3.2.1⟩:aj) (y1.aT)).1.aG,(Z106.md (⟨s3.1,s3.2.1⟩:aj) (y1.aT)).1.aW,(s3.2.2++[(Z117.md a2 a3 y1 a4)]))))) (cond ((Z106.md (⟨s3.1,s3.2.1⟩:aj) (y1.aT)).2==2) (cond ((Z117.md a2 a3 y1 a4)==1) (cond (Z121.md ((Z106.md (⟨s3.1,s3.2.1⟩:aj) (y1.aT)).1) a2) (.inl ((Z106.md (⟨s3.1,s3.2.1⟩:aj) (y1.aT)).1.aG,(Z106.md (⟨s3.1,s3.2.1⟩:aj) (y1.aT)).1.aW,(s3.2.2++[3]))) (cond ((Z117.md a2 a3 y1 a4)==1) (.inr (⟨(Z106.md (⟨s3.1,s3.2.1⟩:aj) (y1.aT)).1,y1.cy,(y1.bp),true,(s3.2.2++[(Z117.md a2 a3 y1 a4)])⟩:bU)) (.inl ((Z106.md (⟨s3.1,s3.2.1⟩:aj) (y1.aT)).1.aG,(Z106.md (⟨s3.1,s3.2.1⟩:aj) (y1.aT)).1.aW,(s3.2.2++[(Z117.md a2 a3 y1 a4)]))))) (cond ((Z117.md a2 a3 y1 a4)==1) (.inr (⟨(Z106.md (⟨s3.1,s3.2.1⟩:aj) (y1.aT)).1,y1.cy,(y1.bp),true,(s3.2.2++[(Z117.md a2 a3 y1 a4)])⟩:bU)) (.inl ((Z106.md (⟨s3.1,s3.2.1⟩:aj) (y1.aT)).1.aG,(Z106.md (⟨s3.1,s3.2.1⟩:aj) (y1.aT)).1.aW,(s3.2.2++[(Z117.md a2 a3 y1 a4)]))))) (cond ((Z117.md a2 a3 y1 a4)==1) (cond (!((Z106.md (⟨s3.1,s3.2.1⟩:aj) (y1.aT)).2==3)) (.inl ((Z106.md (⟨s3.1,s3.2.1⟩:aj) (y1.aT)).1.aG,(Z106.md (⟨s3.1,s3.2.1⟩:aj) (y1.aT)).1.aW,(s3.2.2++[3]))) (cond (Z121.md ((Z106.md (⟨s3.1,s3.2.1⟩:aj) (y1.aT)).1) a2) (.inl ((Z106.md (⟨s3.1,s3.2.1⟩:aj) (y1.aT)).1.aG,(Z106.md (⟨s3.1,s3.2.1⟩:aj) (y1.aT)).1.aW,(s3.2.2++[3]))) (cond ((Z117.md a2 a3 y1 a4)==1) (.inr (⟨(Z106.md (⟨s3.1,s3.2.1⟩:aj) (y1.aT)).1,y1.cy,(y1.bp),true,(s3.2.2++[(Z117.md a2 a3 y1 a4)])⟩:bU)) (.inl ((Z106.md (⟨s3.1,s3.2.1⟩:aj) (y1.aT)).1.aG,(Z106.md (⟨s3.1,s3.2.1⟩:aj) (y1.aT)).1.aW,(s3.2.2++[(Z117.md a2 a3 y1 a4)])))))) (cond ((Z117.md a2 a3 y1 a4)==1) (.inr (⟨(Z106.md (⟨s3.1,s3.2.1⟩:aj) (y1.aT)).1,y1.cy,(y1.bp),true,(s3.2.2++[(Z117.md a2 a3 y1 a4)])⟩:bU)) (.inl ((Z106.md (⟨s3.1,s3.2.1⟩:aj) (y1.aT)).1.aG,(Z106.md (⟨s3.1,s3.2.1⟩:aj) (y1.aT)).1.aW,(s3.2.2++[(Z117.md a2 a3 y1 a4)]))))))) (cond ((Z117.md a2 a3 y1 a4)==1) (.inl (s3.1,s3.2.1,(s3.2.2++[3]))) (cond ((Z117.md a2 a3 y1 a4)==1) (.inr (⟨(⟨s3.1,s3.2.1⟩:aj),y1.cy,(y1.bp),true,(s3.2.2++[(Z117.md a2 a3 y1 a4)])⟩:bU)) (.inl (s3.1,s3.2.1,(s3.2.2++[(Z117.md a2 a3 y1 a4)])))))) (cond ((Z117.md a2 a3 y1 a4)==1) (.inl (s3.1,s3.2.1,(s3.2.2++[3]))) (cond ((Z117.md a2 a3 y1 a4)==1) (.inr (⟨(⟨s3.1,s3.2.1⟩:aj),y1.cy,(y1.bp),true,(s3.2.2++[(Z117.md a2 a3 y1 a4)])⟩:bU)) (.inl (s3.1,s3.2.1,(s3.2.2++[(Z117.md a2 a3 y1 a4)]))))))) (fun (s3:List (List aa)×List az×List Int)=>(⟨(⟨s3.1,s3.2.1⟩:aj),false,(⟨(⟨#[]⟩:aD),0,0,[]⟩:ah),false,s3.2.2⟩:bU)) a1 (a0.aG,a0.aW,[]))
def gd (a0:aj)(a1:List ay)(a2:Int)(a3:aD)(a4:Int):Prop:=(aj.Sm (2^21) a0)/\(bM (2^21) (fun y:ay=>ay.Sm (2^21) y) a1)/\(a3.size<=(2^21))
def R:=RR (p5 gd) (u5 md)
def an {a0 a1 a2 a3 a4}(h:gd a0 a1 a2 a3 a4):R ((aj.r a0),(a1.map ay.row),a2,a3,a4)=some (bU.r (md a0 a1 a2 a3 a4)):=aP (a:=(a0,a1,a2,a3,a4)) h
def aU:=CN [.agg rT,pL 165,pI,pS,pI] (.agg f102) RT.dec R
def bA (a0)(a1)(a2)(a3)(a4)(hg:gd a0 a1 a2 a3 a4):∃n,start (iter step n) (aj.r a0) (a1.map ay.row) a2 a3 a4=ret (bU.r (md a0 a1 a2 a3 a4)):=by
 obtain ⟨H0,H1,H3⟩:=hg
 unfold start md
 try simp only [SS]
 refine cx (Z44.an H0) ?_
 try simp only [SS]
 have Bh2:a1.length<=maxLen:=(by
   have:=(H1).1
   try simp only [maxLen] at *
   omega)
 refine ex_eq (out:=(fun b:bU=>ret ((bU.r b):cZ))) (ep (z:=ay.zero)) ?_
 refine dM (p:=Pt.p0 (a1.map ay.row) a2 a3 a4 0 false (⟨#[]⟩:aD) 0 0 false false (⟨#[]⟩:aD) 0 0 false (a0.aG.map (dI aa.row)) (a0.aW.map az.row) ([].map bq)) fz ?_
 refine ck (pt:=fun (i1:Nat) (s3:List (List aa)×List az×List Int)=>Pt.p0 (a1.map ay.row) a2 a3 a4 (i1:Int) false (⟨#[]⟩:aD) 0 0 false false (⟨#[]⟩:aD) 0 0 false (s3.1.map (dI aa.row)) (s3.2.1.map az.row) (s3.2.2.map bq)) (s:=((a0.aG,a0.aW,[]):List (List aa)×List az×List Int)) (out:=(fun b:bU=>ret ((bU.r b):cZ))) (fun (i1:Nat) (s3:List (List aa)×List az×List Int)=>aj.Sm (2^21) (⟨s3.1,s3.2.1⟩:aj)/\s3.2.2.length<=i1) (fun J i1 s3 h2 hih2=>?_) (fun s3 hih2=>?_) ⟨H0,zero_le _⟩
 ·simp only [step,SS]
  have gr_:=hih2
  try simp only [LN] at gr_
  have bb_:=Bh2
  simp only [maxLen] at bb_
  have:=(H1).1
  refine bC.yes (by apply decide_eq_true;omega) ?_
  refine bC.yes aI ?_
  refine bC.yes (aK h2) ?_
  refine cr (Z74.an (bM.getD (z:=ay.zero) H1 h2).1) ?_
  try simp only [SS]
  refine bC.bif (fun c4=>?_) (fun c4=>?_)
  ·refine bC.bif (fun c5=>?_) (fun c5=>?_)
   ·have dc5:=c5
    try simp only [DC] at dc5
    refine cr (Z106.an (a0:=(⟨s3.1,s3.2.1⟩:aj)) ⟨⟨hih2.1.1,hih2.1.2⟩,(bM.getD (z:=ay.zero) H1 h2).1⟩) ?_
    try simp only [SS]
    refine cr (Z117.an ⟨H3,(bM.getD (z:=ay.zero) H1 h2)⟩) ?_
    refine bC.bif (fun c6=>?_) (fun c6=>?_)
    ·have dc6:=c6
     try simp only [DC] at dc6
     refine bC.bif (fun c7=>?_) (fun c7=>?_)
     ·have dc7:=c7
      try simp only [DC] at dc7
      refine cr (Z121.an (a0:=(Z106.md (⟨s3.1,s3.2.1⟩:aj) ((a1.getD i1 ay.zero).aT)).1) (Z106.fL (a0:=(⟨s3.1,s3.2.1⟩:aj)) (a1:=(a1.getD i1 ay.zero).aT) ⟨⟨hih2.1.1,hih2.1.2⟩,(bM.getD (z:=ay.zero) H1 h2).1⟩)) ?_
      refine bC.bif (fun c8=>?_) (fun c8=>?_)
      ·refine bC.yes lm ?_
       refine bC.inl (by first | exact ⟨hih2.1,gW hih2.2⟩ | exact ⟨Z106.fL ⟨hih2.1,(bM.getD H1 h2).1⟩,gW hih2.2⟩) ?_
       rw [aH h2 Bh2]
       all_goals exact fz
      ·refine bC.yes lm ?_
       refine bC.bif (fun c9=>?_) (fun c9=>?_)
       ·refine cr (Z93.an (bM.getD (z:=ay.zero) H1 h2).2.1) ?_
        try simp only [SS]
        refine bC.inr ?_
        all_goals exact fz
       ·refine bC.inl (by first | exact ⟨hih2.1,gW hih2.2⟩ | exact ⟨Z106.fL ⟨hih2.1,(bM.getD H1 h2).1⟩,gW hih2.2⟩) ?_
        rw [aH h2 Bh2]
        all_goals exact fz
     ·have dc7:=c7
      try simp only [DC] at dc7
      refine bC.yes lm ?_
      refine bC.bif (fun c10=>?_) (fun c10=>?_)
      ·refine cr (Z93.an (bM.getD (z:=ay.zero) H1 h2).2.1) ?_
       try simp only [SS]
       refine bC.inr ?_
       all_goals exact fz
      ·refine bC.inl (by first | exact ⟨hih2.1,gW hih2.2⟩ | exact ⟨Z106.fL ⟨hih2.1,(bM.getD H1 h2).1⟩,gW hih2.2⟩) ?_
       rw [aH h2 Bh2]
       all_goals exact fz
    ·have dc6:=c6
     try simp only [DC] at dc6
     refine bC.bif (fun c11=>?_) (fun c11=>?_)
     ·have dc11:=c11
      try simp only [DC] at dc11
      refine bC.bif (fun c12=>?_) (fun c12=>?_)
      ·have dc12:=c12
       try simp only [DC] at dc12
       refine cr (Z121.an (a0:=(Z106.md (⟨s3.1,s3.2.1⟩:aj) ((a1.getD i1 ay.zero).aT)).1) (Z106.fL (a0:=(⟨s3.1,s3.2.1⟩:aj)) (a1:=(a1.getD i1 ay.zero).aT) ⟨⟨hih2.1.1,hih2.1.2⟩,(bM.getD (z:=ay.zero) H1 h2).1⟩)) ?_
       refine bC.bif (fun c13=>?_) (fun c13=>?_)
       ·refine bC.yes lm ?_
        refine bC.inl (by first | exact ⟨hih2.1,gW hih2.2⟩ | exact ⟨Z106.fL ⟨hih2.1,(bM.getD H1 h2).1⟩,gW hih2.2⟩) ?_
        rw [aH h2 Bh2]
        all_goals exact fz
       ·refine bC.yes lm ?_
        refine bC.bif (fun c14=>?_) (fun c14=>?_)
        ·refine cr (Z93.an (bM.getD (z:=ay.zero) H1 h2).2.1) ?_
         try simp only [SS]
         refine bC.inr ?_
         all_goals exact fz
        ·refine bC.inl (by first | exact ⟨hih2.1,gW hih2.2⟩ | exact ⟨Z106.fL ⟨hih2.1,(bM.getD H1 h2).1⟩,gW hih2.2⟩) ?_
         rw [aH h2 Bh2]
         all_goals exact fz
      ·have dc12:=c12
       try simp only [DC] at dc12
       refine bC.yes lm ?_
       refine bC.bif (fun c15=>?_) (fun c15=>?_)
       ·refine cr (Z93.an (bM.getD (z:=ay.zero) H1 h2).2.1) ?_
        try simp only [SS]
        refine bC.inr ?_
        all_goals exact fz
       ·refine bC.inl (by first | exact ⟨hih2.1,gW hih2.2⟩ | exact ⟨Z106.fL ⟨hih2.1,(bM.getD H1 h2).1⟩,gW hih2.2⟩) ?_
        rw [aH h2 Bh2]
        all_goals exact fz
     ·have dc11:=c11
      try simp only [DC] at dc11
      refine bC.bif (fun c16=>?_) (fun c16=>?_)
      ·have dc16:=c16
       try simp only [DC] at dc16
       refine bC.bif (fun c17=>?_) (fun c17=>?_)
       ·have dc17:=c17
        try simp only [DC] at dc17
        refine bC.yes lm ?_
        refine bC.inl (by first | exact ⟨hih2.1,gW hih2.2⟩ | exact ⟨Z106.fL ⟨hih2.1,(bM.getD H1 h2).1⟩,gW hih2.2⟩) ?_
        rw [aH h2 Bh2]
        all_goals exact fz
       ·have dc17:=c17
        try simp only [DC] at dc17
        refine cr (Z121.an (a0:=(Z106.md (⟨s3.1,s3.2.1⟩:aj) ((a1.getD i1 ay.zero).aT)).1) (Z106.fL (a0:=(⟨s3.1,s3.2.1⟩:aj)) (a1:=(a1.getD i1 ay.zero).aT) ⟨⟨hih2.1.1,hih2.1.2⟩,(bM.getD (z:=ay.zero) H1 h2).1⟩)) ?_
        refine bC.bif (fun c18=>?_) (fun c18=>?_)
        ·refine bC.yes lm ?_
         refine bC.inl (by first | exact ⟨hih2.1,gW hih2.2⟩ | exact ⟨Z106.fL ⟨hih2.1,(bM.getD H1 h2).1⟩,gW hih2.2⟩) ?_
         rw [aH h2 Bh2]
         all_goals exact fz
        ·refine bC.yes lm ?_
         refine bC.bif (fun c19=>?_) (fun c19=>?_)
         ·refine cr (Z93.an (bM.getD (z:=ay.zero) H1 h2).2.1) ?_
          try simp only [SS]
          refine bC.inr ?_
          all_goals exact fz
         ·refine bC.inl (by first | exact ⟨hih2.1,gW hih2.2⟩ | exact ⟨Z106.fL ⟨hih2.1,(bM.getD H1 h2).1⟩,gW hih2.2⟩) ?_
          rw [aH h2 Bh2]
          all_goals exact fz
      ·have dc16:=c16
       try simp only [DC] at dc16
       refine bC.yes lm ?_
       refine bC.bif (fun c20=>?_) (fun c20=>?_)
       ·refine cr (Z93.an (bM.getD (z:=ay.zero) H1 h2).2.1) ?_
        try simp only [SS]
        refine bC.inr ?_
        all_goals exact fz
       ·refine bC.inl (by first | exact ⟨hih2.1,gW hih2.2⟩ | exact ⟨Z106.fL ⟨hih2.1,(bM.getD H1 h2).1⟩,gW hih2.2⟩) ?_
        rw [aH h2 Bh2]
        all_goals exact fz
   ·have dc5:=c5
    try simp only [DC] at dc5
    refine cr (Z117.an ⟨H3,(bM.getD (z:=ay.zero) H1 h2)⟩) ?_
    refine bC.bif (fun c21=>?_) (fun c21=>?_)
    ·have dc21:=c21
     try simp only [DC] at dc21
     refine bC.yes lm ?_
     refine bC.inl (by first | exact ⟨hih2.1,gW hih2.2⟩ | exact ⟨Z106.fL ⟨hih2.1,(bM.getD H1 h2).1⟩,gW hih2.2⟩) ?_
     rw [aH h2 Bh2]
     all_goals exact fz
    ·have dc21:=c21
     try simp only [DC] at dc21
     refine bC.yes lm ?_
     refine bC.bif (fun c22=>?_) (fun c22=>?_)
     ·refine cr (Z93.an (bM.getD (z:=ay.zero) H1 h2).2.1) ?_
      try simp only [SS]
      refine bC.inr ?_
      all_goals exact fz
     ·refine bC.inl (by first | exact ⟨hih2.1,gW hih2.2⟩ | exact ⟨Z106.fL ⟨hih2.1,(bM.getD H1 h2).1⟩,gW hih2.2⟩) ?_
      rw [aH h2 Bh2]
      all_goals exact fz
  ·refine cr (Z117.an ⟨H3,(bM.getD (z:=ay.zero) H1 h2)⟩) ?_
   refine bC.bif (fun c23=>?_) (fun c23=>?_)
   ·have dc23:=c23
    try simp only [DC] at dc23
    refine bC.yes lm ?_
    refine bC.inl (by first | exact ⟨hih2.1,gW hih2.2⟩ | exact ⟨Z106.fL ⟨hih2.1,(bM.getD H1 h2).1⟩,gW hih2.2⟩) ?_
    rw [aH h2 Bh2]
    all_goals exact fz
   ·have dc23:=c23
    try simp only [DC] at dc23
    refine bC.yes lm ?_
    refine bC.bif (fun c24=>?_) (fun c24=>?_)
    ·refine cr (Z93.an (bM.getD (z:=ay.zero) H1 h2).2.1) ?_
     try simp only [SS]
     refine bC.inr ?_
     all_goals exact fz
    ·refine bC.inl (by first | exact ⟨hih2.1,gW hih2.2⟩ | exact ⟨Z106.fL ⟨hih2.1,(bM.getD H1 h2).1⟩,gW hih2.2⟩) ?_
     rw [aH h2 Bh2]
     all_goals exact fz
 ·simp only [step,SS]
  have gr_:=hih2
  try simp only [LN] at gr_
  have:=(H1).1
  refine dx (by apply decide_eq_false;omega) ?_
  refine ⟨0,?_⟩
  all_goals exact fz
def af:cD 64 aU:=L5 99 pid bY bX live step start mix aE bA (.cons Z44.af (.cons Z74.af (.cons Z106.af (.cons Z117.af (.cons Z121.af (.cons Z93.af .nil)))))) Tryz.func64
def nS (z:Int)(l:aD)(now:Int)(y:ay)(k:aj):aj×Int:=
 let kn:=bif (Z74.md y.aT).2&&((Z74.md y.aT).1.bz==z) then Z106.md k y.aT else (k,6)
 (kn.1,bif (Z117.md z l y now==1)&&!((kn.2==1||(kn.2==2||kn.2==3))&&!Z121.md kn.1 z) then 3 else Z117.md z l y now)
def pK (z:Int)(l:aD)(now:Int)(y:ay)(s:List (List aa)×List az×List Int):List (List aa)×List az×List Int⊕bU:=
 bif (nS z l now y ⟨s.1,s.2.1⟩).2==1 then .inr ⟨(nS z l now y ⟨s.1,s.2.1⟩).1,y.cy,y.bp,true,s.2.2++[(nS z l now y ⟨s.1,s.2.1⟩).2]⟩
 else .inl ((nS z l now y ⟨s.1,s.2.1⟩).1.aG,(nS z l now y ⟨s.1,s.2.1⟩).1.aW,s.2.2++[(nS z l now y ⟨s.1,s.2.1⟩).2])
def fin (s:List (List aa)×List az×List Int):bU:=⟨⟨s.1,s.2.1⟩,false,⟨⟨#[]⟩,0,0,[]⟩,false,s.2.2⟩
def qS (a0:aj)(a1:List ay)(a2:Int)(a3:aD)(a4:Int):md a0 a1 a2 a3 a4=dQ (pK a2 a3 a4) fin a1 (a0.aG,a0.aW,[]):=by
 unfold md
 refine oZ (fun y _ s=>?_) (fun s=>rfl)
 have h31:((3:Int)==1)=false:=rfl
 have h61:((6:Int)==1)=false:=rfl
 have h62:((6:Int)==2)=false:=rfl
 have h63:((6:Int)==3)=false:=rfl
 unfold pK nS
 cases g1:(Z74.md y.aT).2
 ·cases g2:(Z117.md a2 a3 y a4==1)<;>simp [g2,h31,h61,h62,h63]
 cases g3:((Z74.md y.aT).1.bz==a2)
 ·cases g2:(Z117.md a2 a3 y a4==1)<;>simp [g2,h31,h61,h62,h63]
 generalize Z106.md (⟨s.1,s.2.1⟩:aj) y.aT=r
 cases g2:(Z117.md a2 a3 y a4==1)<;>cases g4:(r.2==1)<;>cases g5:(r.2==2)<;>cases g6:(r.2==3)<;>cases g7:Z121.md r.1 a2<;>simp [g2,g4,g5,g6,g7,h31]
def yS (z:Int)(l:aD)(now:Int)(y:ay)(k:aj):Z106.Cz (nS z l now y k).1.aG<=Z106.Cz k.aG+(ay.size y+1)/\
  Z106.Fz (nS z l now y k).1.aW<=Z106.Fz k.aW+(2*Z106.Cz k.aG+ay.size y+1):=by
 have h:=Z106.grow k y.aT
 have hs:dJ (fun y:aa=>aa.size y) y.aT<=ay.size y:=by unfold ay.size;omega
 unfold nS
 cases (Z74.md y.aT).2&&((Z74.md y.aT).1.bz==z)
 ·simp only [bu];omega
 ·simp only [bh];omega
def qJ {α:Type}(f:α->Nat)(x:α)(xs:List α):dJ f (x::xs)=dJ f xs+(f x+1):=by simp [dJ];omega
def grow (z:Int)(l:aD)(now:Int):∀(xs:List ay) (s:List (List aa)×List az×List Int),
  Z106.Cz (dQ (pK z l now) fin xs s).bP.aG<=Z106.Cz s.1+dJ (fun y:ay=>ay.size y) xs/\
  Z106.Fz (dQ (pK z l now) fin xs s).bP.aW<=Z106.Fz s.2.1+xs.length*(2*(Z106.Cz s.1+dJ (fun y:ay=>ay.size y) xs)+dJ (fun y:ay=>ay.size y) xs)/\
  (dQ (pK z l now) fin xs s).kF.length<=s.2.2.length+xs.length/\ah.size (dQ (pK z l now) fin xs s).bp<=dJ (fun y:ay=>ay.size y) xs
 | [],s=>⟨Nat.le_add_right _ _,Nat.le_add_right _ _,Nat.le_refl _,zero_le _⟩
 | y::xs,s=>by
  have hg:=yS z l now y ⟨s.1,s.2.1⟩
  have hy:ah.size y.bp<=ay.size y:=by unfold ay.size;omega
  rw [qJ]
  unfold dQ
  cases hb:(nS z l now y ⟨s.1,s.2.1⟩).2==1
  ·have e:pK z l now y s=.inl ((nS z l now y ⟨s.1,s.2.1⟩).1.aG,(nS z l now y ⟨s.1,s.2.1⟩).1.aW,s.2.2++[(nS z l now y ⟨s.1,s.2.1⟩).2]):=by unfold pK;rw [hb];rfl
   rw [e]
   obtain ⟨h1,h2,h3,h4⟩:=grow z l now xs ((nS z l now y ⟨s.1,s.2.1⟩).1.aG,(nS z l now y ⟨s.1,s.2.1⟩).1.aW,s.2.2++[(nS z l now y ⟨s.1,s.2.1⟩).2])
   simp only at h1 h2 h3 h4 hg ⊢
   generalize dJ (fun y:ay=>ay.size y) xs=w at *
   generalize ay.size y=q at *
   generalize Z106.Cz (nS z l now y ⟨s.1,s.2.1⟩).1.aG=c1 at *
   generalize Z106.Cz s.1=c0 at *
   have hm:xs.length*(2*(c1+w)+w)<=xs.length*(2*(c0+(w+(q+1)))+(w+(q+1))):=Nat.mul_le_mul_left _ (by omega)
   rw [List.length_cons,Nat.succ_mul]
   rw [List.length_append] at h3
   refine ⟨by omega,by omega,by simp only [List.length_cons,List.length_nil] at h3;omega,by omega⟩
  ·have e:pK z l now y s=.inr ⟨(nS z l now y ⟨s.1,s.2.1⟩).1,y.cy,y.bp,true,s.2.2++[(nS z l now y ⟨s.1,s.2.1⟩).2]⟩:=by unfold pK;rw [hb];rfl
   rw [e]
   simp only at hg ⊢
   generalize dJ (fun y:ay=>ay.size y) xs=w at *
   generalize ay.size y=q at *
   generalize Z106.Cz s.1=c0 at *
   rw [List.length_cons,Nat.succ_mul,List.length_append]
   refine ⟨by omega,by omega,by simp only [List.length_cons,List.length_nil];omega,by omega⟩
def Az {z:Int}{l:aD}{now:Int}{y:ay}{k:aj}(hk:aj.Sm (2^21) k)(hy:ay.Sm (2^21) y):aj.Sm (2^21) (nS z l now y k).1:=by
 unfold nS
 cases (Z74.md y.aT).2&&((Z74.md y.aT).1.bz==z)
 ·exact hk
 ·exact Z106.fL ⟨hk,hy.1⟩
def uT {z:Int}{l:aD}{now:Int}:∀(xs:List ay) (s:List (List aa)×List az×List Int),aj.Sm (2^21) ⟨s.1,s.2.1⟩->(∀y∈xs,ay.Sm (2^21) y)->s.2.2.length+xs.length<=2^21->bU.Sm (2^21) (dQ (pK z l now) fin xs s)
 | [],s,hk,_,hc=>⟨hk,⟨zero_le _,bM.nil⟩,hc,fun _ _=>trivial⟩
 | y::xs,s,hk,hx,hc=>by
  have hy:=hx y (by simp)
  have he:=Az (z:=z) (l:=l) (now:=now) hk hy
  simp only [List.length_cons] at hc
  unfold dQ
  cases hb:(nS z l now y ⟨s.1,s.2.1⟩).2==1
  ·have e:pK z l now y s=.inl ((nS z l now y ⟨s.1,s.2.1⟩).1.aG,(nS z l now y ⟨s.1,s.2.1⟩).1.aW,s.2.2++[(nS z l now y ⟨s.1,s.2.1⟩).2]):=by unfold pK;rw [hb];rfl
   rw [e]
   exact uT xs _ he (fun y hy=>hx y (by simp [hy])) (by simp only [List.length_append,List.length_cons,List.length_nil];omega)
  ·have e:pK z l now y s=.inr ⟨(nS z l now y ⟨s.1,s.2.1⟩).1,y.cy,y.bp,true,s.2.2++[(nS z l now y ⟨s.1,s.2.1⟩).2]⟩:=by unfold pK;rw [hb];rfl
   rw [e]
   exact ⟨he,hy.2.1,by simp only [List.length_append,List.length_cons,List.length_nil];omega,fun _ _=>trivial⟩
def fL {a0:aj}{a1:List ay}{a2:Int}{a3:aD}{a4:Int}(hg:gd a0 a1 a2 a3 a4):bU.Sm (2^21) (md a0 a1 a2 a3 a4):=by
 unfold gd at hg
 rw [qS]
 exact uT a1 _ hg.1 hg.2.1.2 (by have:=hg.2.1.1;simp only [List.length_nil];omega)
end Z122
namespace Z123
def F (x0:cZ):aJ:=(cond (!x0.jW) (ret (((⟨(⟨#[]⟩:aD),0,0,[]⟩:aY),false):aY×Bool)) (cond (!x0.cy) (ret (((⟨(⟨#[]⟩:aD),0,0,[]⟩:aY),false):aY×Bool)) (call (Z93.R x0.bp) fun v1=>ret ((v1,true):aY×Bool))))
def md (a0:bU):ah×Bool:=(cond (!a0.jW) ((⟨((⟨#[]⟩:aD):aD),0,0,[]⟩:ah),false) (cond (!a0.cy) ((⟨((⟨#[]⟩:aD):aD),0,0,[]⟩:ah),false) (a0.bp,true)))
def gd (a0:bU):Prop:=(bU.Sm (2^21) a0)
def R:=RR gd md
def an {a0}(h:gd a0):R (bU.r a0)=some ((ah.r (md a0).1),(md a0).2):=aP (a:=a0) h
def aU:=CN [.agg AQ] (.iJ [(true,f57),(false,[fB])]) RT.dec R
def bA (a0)(hg:gd a0):F (bU.r a0)=ret ((ah.r (md a0).1),(md a0).2):=by
 unfold gd at hg
 have H0:=hg
 unfold F md
 try simp only [SS]
 refine av (fun b:ah×Bool=>ret (((ah.r b.1),b.2):aY×Bool)) (fun c1=>?_) (fun c1=>?_)
 ·all_goals exact fz
 ·refine av (fun b:ah×Bool=>ret (((ah.r b.1),b.2):aY×Bool)) (fun c2=>?_) (fun c2=>?_)
  ·all_goals exact fz
  ·refine ct (Z93.an H0.2.1) ?_
   try simp only [SS]
   all_goals exact fz
def af:cD 66 aU:=W1 16 F mix aE bA (.cons Z93.af .nil) Tryz.func66
end Z123
namespace Z124
def F (x0:cZ):aJ:=(cond x0.jW (ret ((!x0.cy):Bool)) bf)
def md (a0:bU):Bool:=(cond a0.jW ((!a0.cy):Bool) (false:Bool))
def gd (a0:bU):Prop:=True
def R:=RR gd md
def an {a0}(h:gd a0):R (bU.r a0)=some (md a0):=aP (a:=a0) h
def aU:=CN [.agg AQ] oB RT.dec R
def bA (a0)(hg:gd a0):F (bU.r a0)=ret (md a0):=by
 unfold F md
 try simp only [SS]
 refine av ret (fun c1=>?_) (fun _=>rfl)
 all_goals exact fz
def af:cD 67 aU:=W1 10 F mix aE bA .nil Tryz.func67
end Z124
namespace Z125
inductive Pt where
 | p0 (a:aB) (b c:Int) (d:aB) (e:Int) (f:aD) (g h i j:Int) (k:aD) (l m n:Int) (o p q:aB)
def pid:Pt->Nat
 | .p0 ..=>6
def bY:Pt->List V
 | .p0 a b c d e f g h i j k l m n o p q=>[.sl none 88 a,.int .i64 b,.cN 0 0,.cN 1 0,.int .i64 c,.sl none 9 d,.cN 1 0]
def bX:Pt->List aV
 | .p0 a b c d e f g h i j k l m n o p q=>[.box [.nil,.nil,.int .i64 e,.str f,.int .i64 g,.int .i64 h,.nil,.nil,.int .i64 i],.box [.own 2,.own 3,.int .i64 j,.str k,.int .i64 l,.int .i64 m,.nil,.own 4,.int .i64 n],.row 134 o,.row 143 p,.row 3 q]
def step (J:Pt->aJ):Pt->aJ
 | .p0 a b c d e f g h i j k l m n o p q=>(cj (eS (((q.length:Int)+1)*8)) (cj (decide ((0:Int)<(d.length:Int))) (call (Z100.R (a,c,(pV d 0))) fun v1=>(cj (decide ((0:Int)<(d.length:Int))) (call (Z122.R ((⟨o,p⟩:bn),v1,c,(pV d 0),b)) fun v2=>(call (Z123.R v2) fun v3=>(call (Z124.R v2) fun v4=>(cond v4 (ret ((⟨v2.bP,2,(⟨k,l,m,[]⟩:aY),(q++[[L.int c]]),n⟩:cK):cK)) (cond (!v3.2) (ret ((⟨v2.bP,3,(⟨k,l,m,[]⟩:aY),(q++[[L.int c]]),n⟩:cK):cK)) (cond (v3.1.bQ==3) (call (Z48.R v3.1.bK) fun v5=>(cj (decide ((1:Int)<=(d.length:Int))) (cj (decide ((d.length:Int)<=(d.length:Int))) (cj (eS (((v5.length:Int)+((List.take (toNat ((d.length:Int) - 1)) (List.drop 1 d)).length:Int))*16)) (cond (decide (n>=3)) (ret ((⟨v2.bP,5,(⟨k,l,m,[]⟩:aY),(q++[[L.int c]]),n⟩:cK):cK)) (call (Z47.R (v5++(List.take (toNat ((d.length:Int) - 1)) (List.drop 1 d)))) fun v6=>(cond (!v6) (ret ((⟨v2.bP,5,(⟨k,l,m,[]⟩:aY),(q++[[L.int c]]),n⟩:cK):cK)) (J (.p0 a b v3.1.cw (v5++(List.take (toNat ((d.length:Int) - 1)) (List.drop 1 d))) e f g h i j k l m (i64.wrap (n+1)) v2.bP.aG v2.bP.aW (q++[[L.int c]])))))))))) (cond ((d.length:Int)==1) (ret ((⟨v2.bP,1,v3.1,(q++[[L.int c]]),n⟩:cK):cK)) (cond (v3.1.bQ != 2) (ret ((⟨v2.bP,4,(⟨k,l,m,[]⟩:aY),(q++[[L.int c]]),n⟩:cK):cK)) (cj (decide ((1:Int)<=(d.length:Int))) (cj (decide ((d.length:Int)<=(d.length:Int))) (J (.p0 a b v3.1.cw (List.take (toNat ((d.length:Int) - 1)) (List.drop 1 d)) e f g h i j k l m n v2.bP.aG v2.bP.aW (q++[[L.int c]])))))))))))))))))
def start (J:Pt->aJ)(x0:bn)(x1:aB)(x2:Int)(x3:aB)(x4:Int):aJ:=(call (Z44.R x0) fun v1=>(call (Z47.R x3) fun v2=>(cond (!v2) (ret ((⟨v1,6,(⟨(⟨#[]⟩:aD),0,0,[]⟩:aY),[],0⟩:cK):cK)) (call (Z48.R x3) fun v3=>J (.p0 x1 x4 x2 v3 0 ⟨#[]⟩ 0 0 0 6 ⟨#[]⟩ 0 0 0 v1.aG v1.aW [])))))
def live:Nat->Live:=fun i=>match i with | 6=>[(1,none),(4,none),(10,none),(11,none),(12,none),(13,some 1099511627785),(11,some 7340035)] | _=>[]
def nx (l:bU)(mv:Int)(p:List aD):(Int×ah)⊕(Int×Int×List aD):=
 bif !l.jW then .inl (3,⟨⟨#[]⟩,0,0,[]⟩) else bif !l.cy then .inl (2,⟨⟨#[]⟩,0,0,[]⟩)
 else bif l.bp.bQ==3 then (cond (decide (mv>=3)) (.inl (5,⟨⟨#[]⟩,0,0,[]⟩)) (bif !Z47.md (l.bp.bK++p.tail) then .inl (5,⟨⟨#[]⟩,0,0,[]⟩) else .inr (mv+1,l.bp.cw,l.bp.bK++p.tail)))
 else bif (p.tail.length:Int)==0 then .inl (1,l.bp) else bif l.bp.bQ==2 then .inr (mv,l.bp.cw,p.tail) else .inl (4,⟨⟨#[]⟩,0,0,[]⟩)
def rs {σ:Type}(look:σ->aj->Int->aD->bU×σ):Nat->σ->aj->List Int->Int->Int->List aD->aL×σ
 | 0,c,k,zs,mv,_,_=>(⟨k,0,⟨⟨#[]⟩,0,0,[]⟩,zs,mv⟩,c)
 | n+1,c,k,zs,mv,z,p=>match nx (look c k z (p.getD 0 ⟨#[]⟩)).1 mv p with
  | .inl q=>(⟨(look c k z (p.getD 0 ⟨#[]⟩)).1.bP,q.1,q.2,zs++[z],mv⟩,(look c k z (p.getD 0 ⟨#[]⟩)).2)
  | .inr q=>rs look n (look c k z (p.getD 0 ⟨#[]⟩)).2 (look c k z (p.getD 0 ⟨#[]⟩)).1.bP (zs++[z]) q.1 q.2.1 q.2.2
def lk (s:List au)(now:Int)(_:Unit)(k:aj)(z:Int)(l:aD):bU×Unit:=(Z122.md k (Z100.md s z l) z l now,())
def tA {σ:Type}{look:σ->aj->Int->aD->bU×σ}{n:Nat}{c:σ}{k:aj}{zs:List Int}{mv z:Int}{p:List aD}{q:Int×ah}(h:nx (look c k z (p.getD 0 ⟨#[]⟩)).1 mv p=.inl q) :
  rs look (n+1) c k zs mv z p=(⟨(look c k z (p.getD 0 ⟨#[]⟩)).1.bP,q.1,q.2,zs++[z],mv⟩,(look c k z (p.getD 0 ⟨#[]⟩)).2):=by
 show (match nx (look c k z (p.getD 0 ⟨#[]⟩)).1 mv p with | .inl q=>_ | .inr q=>_)=_
 rw [h]
def sL {σ:Type}{look:σ->aj->Int->aD->bU×σ}{n:Nat}{c:σ}{k:aj}{zs:List Int}{mv z:Int}{p:List aD}{q:Int×Int×List aD}(h:nx (look c k z (p.getD 0 ⟨#[]⟩)).1 mv p=.inr q) :
  rs look (n+1) c k zs mv z p=rs look n (look c k z (p.getD 0 ⟨#[]⟩)).2 (look c k z (p.getD 0 ⟨#[]⟩)).1.bP (zs++[z]) q.1 q.2.1 q.2.2:=by
 show (match nx (look c k z (p.getD 0 ⟨#[]⟩)).1 mv p with | .inl q=>_ | .inr q=>_)=_
 rw [h]
def wq {Pt:Type}{step:(Pt->aJ)->Pt->aJ}{p:Pt}{r:aJ}(h:∃m,step (iter step m) p=r):∃m,iter step m p=r:=h.elim fun m h=>⟨m+1,h⟩
def md (a0:aj)(a1:List au)(a2:Int)(a3:List aD)(a4:Int):aL:=(cond (!Z47.md a3) ⟨a0,6,⟨⟨#[]⟩,0,0,[]⟩,[],0⟩ ((rs (lk a1 a4) 17 () a0 [] 0 a2 a3).1))
def gd (a0:aj)(a1:List au)(a2:Int)(a3:List aD)(a4:Int):Prop:=(aj.Sm (2^21) a0)/\(bM (2^21) (fun y:au=>au.Sm (2^21) y) a1)/\(bM (2^21) (fun y:aD=>y.size<=(2^21)) a3)
def R:=RR (p5 gd) (u5 md)
def an {a0 a1 a2 a3 a4}(h:gd a0 a1 a2 a3 a4):R ((aj.r a0),(a1.map au.row),a2,(a3.map cG),a4)=some (aL.r (md a0 a1 a2 a3 a4)):=aP (a:=(a0,a1,a2,a3,a4)) h
def aU:=CN [.agg rT,pL 88,pI,pL 9,pI] (.agg f60) RT.dec R
def bA (a0)(a1)(a2)(a3)(a4)(hg:gd a0 a1 a2 a3 a4):∃n,start (iter step n) (aj.r a0) (a1.map au.row) a2 (a3.map cG) a4=ret (aL.r (md a0 a1 a2 a3 a4)):=by
 obtain ⟨H0,H1,H3⟩:=hg
 have key:∀(n:Nat) (k:aj) (zs:List Int) (mv z:Int) (p:List aD),aj.Sm (2^21) k->Z47.md p=true->0<=mv->mv<=3->(3 - mv)*4+(p.length:Int)<=n->zs.length+n<=100->
   ∃m,iter step m (Pt.p0 (a1.map au.row) a4 z (p.map cG) 0 ⟨#[]⟩ 0 0 0 6 ⟨#[]⟩ 0 0 mv (k.aG.map (dI aa.row)) (k.aW.map az.row) (zs.map bq))=ret (aL.r (rs (lk a1 a4) n () k zs mv z p).1):=by
  intro n
  induction n with
  | zero=>intro k zs mv z p _ hp _ _ hm _;have:=(Z47.tr hp).1;omega
  | succ n ih=>
   intro k zs mv z p hk hp h0 h3 hm hz
   obtain ⟨⟨p1,p4⟩,p8⟩:=Z47.tr hp
   obtain ⟨x,xs,rfl⟩:∃x xs,p=x::xs:=by
    cases p with
    | nil=>simp at p1
    | cons x xs=>exact ⟨x,xs,rfl⟩
   have hx:x.size<=2^21:=le_trans (p8 x (by simp)) (by decide)
   have hxs:∀y∈xs,y.size<=2^22:=fun y hy=>le_trans (p8 y (by simp [hy])) (by decide)
   have hask:=Z100.fL (a0:=a1) (a1:=z) (a2:=x) ⟨H1,hx⟩
   have hlk:=Z122.fL (a0:=k) (a1:=Z100.md a1 z x) (a2:=z) (a3:=x) (a4:=a4) ⟨hk,hask,hx⟩
   have hat:pV ((x::xs).map cG) 0=x:=rfl
   have hg0:(x::xs).getD 0 ⟨#[]⟩=x:=rfl
   have ht:List.take (toNat (((xs.length+1:Nat):Int) - 1)) (List.drop 1 ((x::xs).map cG))=xs.map cG:=by
    simp only [List.map_cons,List.drop_succ_cons,List.drop_zero]
    exact List.take_of_length_le (by simp)
   have hkn:(lk a1 a4 () k z ((x::xs).getD 0 ⟨#[]⟩)).1=Z122.md k (Z100.md a1 z x) z x a4:=rfl
   simp only [List.length_cons] at p4 hm
   refine wq ?_
   simp only [step,hat,List.length_map,List.length_cons,ht]
   refine dF lm ?_
   refine dF dt ?_
   refine cx (Z100.an (a0:=a1) ⟨H1,hx⟩) ?_
   refine dF dt ?_
   refine cx (Z122.an (a0:=k) (a1:=Z100.md a1 z x) ⟨hk,hask,hx⟩) ?_
   have hcase:∀q,nx (Z122.md k (Z100.md a1 z x) z x a4) mv (x::xs)=.inl q->rs (lk a1 a4) (n+1) () k zs mv z (x::xs)=(⟨(Z122.md k (Z100.md a1 z x) z x a4).bP,q.1,q.2,zs++[z],mv⟩,()):=fun q hq=>tA hq
   have hcase2:∀q,nx (Z122.md k (Z100.md a1 z x) z x a4) mv (x::xs)=.inr q->rs (lk a1 a4) (n+1) () k zs mv z (x::xs)=rs (lk a1 a4) n () (Z122.md k (Z100.md a1 z x) z x a4).bP (zs++[z]) q.1 q.2.1 q.2.2:=fun q hq=>sL hq
   revert hcase hcase2 hlk
   generalize Z122.md k (Z100.md a1 z x) z x a4=l
   intro hlk hcase hcase2
   refine cx (Z123.an (a0:=l) hlk) ?_
   refine cx (Z124.an (a0:=l) trivial) ?_
   obtain ⟨lk0,lf,le,ld,lc⟩:=l
   unfold nx at hcase hcase2
   unfold Z124.md Z123.md
   cases ld
   ·exact ⟨0,by rw [hcase _ rfl];exact fz⟩
   cases lf
   ·exact ⟨0,by rw [hcase _ rfl];exact fz⟩
   simp only [Bool.not_true,bu,bh,List.tail_cons] at hcase hcase2 ⊢
   have hpl:bM (2^21) (fun y:aD=>y.size<=(2^21)) le.bK:=hlk.2.1.2
   have hpl1:le.bK.length<=2^21:=hpl.1
   have hzz:zs.map bq++[[L.int z]]=(zs++[z]).map bq:=by simp [bq]
   try simp only [SS]
   cases hk3:(le.bQ==3)
   ·simp only [hk3,bu] at hcase hcase2 ⊢
    by_cases hx0:xs.length=0
    ·have e0:((xs.length:Int)==0)=true:=by simp [hx0]
     rw [e0] at hcase
     exact ⟨0,by rw [hcase _ rfl];exact ak (beq_iff_eq.2 (by omega)) fz⟩
    ·have e0:((xs.length:Int)==0)=false:=by simpa using hx0
     rw [e0] at hcase hcase2
     refine dx (beq_eq_false_iff_ne.2 (by omega)) ?_
     cases hk2:(le.bQ==2)
     ·simp only [hk2,bu] at hcase
      exact ⟨0,by rw [hcase _ rfl];exact ak (by simpa using hk2) fz⟩
     ·simp only [hk2,bu,bh] at hcase2
      refine dx (by simpa using hk2) (dF dt (dF dt ?_))
      have hip:Z47.md xs=true:=Z47.tl hp hx0
      rw [hcase2 _ rfl,hzz]
      exact ih lk0 (zs++[z]) mv le.cw xs hlk.1 hip h0 h3 (by omega) (by simp;omega)
   ·simp only [hk3,bh] at hcase hcase2 ⊢
    refine cx (Z48.an (a0:=le.bK) hpl) ?_
    refine dF dt (dF dt (dF (by have :(le.bK.map cG).length=le.bK.length:=List.length_map ..;have :(xs.map cG).length=xs.length:=List.length_map ..;exact iF (by omega)) ?_))
    by_cases hmv:mv>=3
    ·rw [decide_eq_true hmv] at hcase ⊢
     exact ⟨0,by rw [hcase _ rfl];exact fz⟩
    ·rw [decide_eq_false hmv] at hcase hcase2 ⊢
     simp only [bu] at hcase hcase2 ⊢
     have e:le.bK.map cG++xs.map cG=(le.bK++xs).map cG:=by simp
     rw [e]
     refine cx (Z47.an (a0:=le.bK++xs) ⟨by rw [List.length_append];omega,fun y hy=>(List.mem_append.1 hy).elim (fun h=>le_trans (hpl.2 y h) (by decide)) (hxs y)⟩) ?_
     cases hip:Z47.md (le.bK++xs)
     ·rw [hip] at hcase
      exact ⟨0,by rw [hcase _ rfl];exact fz⟩
     ·rw [hip] at hcase2
      have ht:=Z47.tr hip
      rw [hcase2 _ rfl,hzz,wi _ (by omega)]
      exact ih lk0 (zs++[z]) (mv+1) le.cw (le.bK++xs) hlk.1 hip (by omega) (by omega) (by omega) (by simp;omega)
 unfold start md
 refine cx (Z44.an (a0:=a0) H0) ?_
 refine cx (Z47.an (a0:=a3) (bM.mono H3 (by decide) (fun y hy=>le_trans hy (by decide)))) ?_
 cases hp:Z47.md a3
 ·exact ⟨0,rfl⟩
 ·simp only [Bool.not_true,bu]
  refine cx (Z48.an (a0:=a3) H3) ?_
  exact key 17 a0 [] 0 a2 a3 H0 hp (by decide) (by decide) (by have:=(Z47.tr hp).1;omega) (by simp)
def af:cD 28 aU:=L5 109 pid bY bX live step start mix aE bA (.cons Z44.af (.cons Z47.af (.cons Z48.af (.cons Z100.af (.cons Z122.af (.cons Z123.af (.cons Z124.af .nil))))))) Tryz.func28
def Ab {σ:Type}{look:σ->aj->Int->aD->bU×σ}{A B:Nat}(I:σ->Prop)(hI:∀c k z s,I c->I (look c k z s).2)(hl:∀c k z s,I c->Z106.Cz (look c k z s).1.bP.aG<=Z106.Cz k.aG+A/\Z106.Fz (look c k z s).1.bP.aW<=Z106.Fz k.aW+4*(2*(Z106.Cz k.aG+A)+A)/\ah.size (look c k z s).1.bp<=A) :
  ∀(n:Nat) (c:σ) (k:aj) (zs:List Int) (mv z:Int) (p:List aD),I c->Z106.Cz k.aG+n*A<=B->
   Z106.Cz (rs look n c k zs mv z p).1.bP.aG<=B/\Z106.Fz (rs look n c k zs mv z p).1.bP.aW<=Z106.Fz k.aW+n*(8*B+12*A)/\ah.size (rs look n c k zs mv z p).1.bp<=A/\(rs look n c k zs mv z p).1.bI.length<=zs.length+n/\I (rs look n c k zs mv z p).2
 | 0,c,k,zs,mv,z,p,hi,hb=>⟨by show Z106.Cz k.aG<=B;omega,Nat.le_add_right _ _,zero_le _,Nat.le_refl _,hi⟩
 | n+1,c,k,zs,mv,z,p,hi,hb=>by
  obtain ⟨h1,h2,h3⟩:=hl c k z (p.getD 0 ⟨#[]⟩) hi
  have hi2:=hI c k z (p.getD 0 ⟨#[]⟩) hi
  rw [Nat.succ_mul] at hb
  cases hn:nx (look c k z (p.getD 0 ⟨#[]⟩)).1 mv p with
  | inl q=>
   rw [tA hn]
   have hq:ah.size q.2<=A:=by
    have e0:ah.size ⟨⟨#[]⟩,0,0,[]⟩=0:=rfl
    unfold nx at hn
    simp only [Bool.cond_eq_ite] at hn
    revert hn
    repeat' split
    all_goals (intro hn;first | (cases hn;done) | (injection hn with hn;subst hn;first | exact h3 | exact zero_le _))
   refine ⟨by simp only;omega,?_,hq,by simp,hi2⟩
   simp only
   rw [Nat.succ_mul]
   omega
  | inr q=>
   rw [sL hn]
   obtain ⟨g1,g2,g3,g4,g5⟩:=Ab (A:=A) (B:=B) I hI hl n (look c k z (p.getD 0 ⟨#[]⟩)).2 (look c k z (p.getD 0 ⟨#[]⟩)).1.bP (zs++[z]) q.1 q.2.1 q.2.2 hi2 (by omega)
   rw [List.length_append,List.length_cons,List.length_nil] at g4
   refine ⟨g1,?_,g3,by omega,g5⟩
   rw [Nat.succ_mul]
   omega
def A6 (s:List au)(now:Int)(k:aj)(z:Int)(l:aD){A:Nat}(hA:6*dJ (fun y:au=>au.size y) s<=A) :
  Z106.Cz (lk s now () k z l).1.bP.aG<=Z106.Cz k.aG+A/\Z106.Fz (lk s now () k z l).1.bP.aW<=Z106.Fz k.aW+4*(2*(Z106.Cz k.aG+A)+A)/\ah.size (lk s now () k z l).1.bp<=A:=by
 have hg:=Z122.grow z l now (Z100.md s z l) (k.aG,k.aW,[])
 rw [<-Z122.qS] at hg
 obtain ⟨g1,g2,_,g4⟩:=hg
 have h1:=Z100.sz s z l
 have h2:=Z100.BK s z l
 simp only at g1 g2
 have h3:=Nat.mul_le_mul_right (2*(Z106.Cz k.aG+dJ (fun y:ay=>ay.size y) (Z100.md s z l))+dJ (fun y:ay=>ay.size y) (Z100.md s z l)) h2
 unfold lk
 refine ⟨by simp only;omega,by simp only;omega,by simp only;omega⟩
def Bg {l:bU}{mv:Int}{p:List aD}{q:Int×ah}(h:nx l mv p=.inl q)(hl:ah.Sm (2^21) l.bp):ah.Sm (2^21) q.2:=by
 have ez:ah.Sm (2^21) ⟨⟨#[]⟩,0,0,[]⟩:=⟨zero_le _,bM.nil⟩
 unfold nx at h
 simp only [Bool.cond_eq_ite] at h
 revert h
 repeat' split
 all_goals (intro h;first | (cases h;done) | (injection h with h;subst h;first | exact hl | exact ez))
def zl {l:bU}{mv:Int}{p:List aD}{q:Int×Int×List aD}(h:nx l mv p=.inr q)(hp:Z47.md p=true):Z47.md q.2.2=true:=by
 cases p with
 | nil=>have:=(Z47.tr hp).1;simp at this
 | cons x xs=>
  unfold nx at h
  simp only [Bool.cond_eq_ite,List.tail_cons] at h
  revert h
  repeat' split
  all_goals (intro h;first | (cases h;done) | (injection h with h;subst h;first | (rename_i h0 _;exact Z47.tl hp (by intro e;simp [e] at h0)) | simp_all))
def zX {σ:Type}{look:σ->aj->Int->aD->bU×σ}(I:σ->Prop)(hl:∀c k z s,I c->aj.Sm (2^21) k->s.size<=2^21->bU.Sm (2^21) (look c k z s).1/\I (look c k z s).2) :
  ∀(n:Nat) (c:σ) (k:aj) (zs:List Int) (mv z:Int) (p:List aD),I c->aj.Sm (2^21) k->Z47.md p=true->zs.length+n<=2^21->
   aL.Sm (2^21) (rs look n c k zs mv z p).1/\I (rs look n c k zs mv z p).2
 | 0,c,k,zs,mv,z,p,hi,hk,_,hz=>⟨⟨hk,⟨zero_le _,bM.nil⟩,hz,fun _ _=>trivial⟩,hi⟩
 | n+1,c,k,zs,mv,z,p,hi,hk,hp,hz=>by
  have h8:=(Z47.tr hp).2
  have hx:(p.getD 0 ⟨#[]⟩).size<=2^21:=by
   cases p with
   | nil=>exact zero_le _
   | cons x xs=>exact le_trans (h8 x (by simp)) (by decide)
  obtain ⟨h1,h2⟩:=hl c k z (p.getD 0 ⟨#[]⟩) hi hk hx
  cases hn:nx (look c k z (p.getD 0 ⟨#[]⟩)).1 mv p with
  | inl q=>
   rw [tA hn]
   exact ⟨⟨h1.1,Bg hn h1.2.1,by simp only [List.length_append,List.length_cons,List.length_nil];omega,fun _ _=>trivial⟩,h2⟩
  | inr q=>
   rw [sL hn]
   exact zX I hl n _ _ _ _ _ _ h2 h1.1 (zl hn hp) (by simp only [List.length_append,List.length_cons,List.length_nil];omega)
def fL {a0:aj}{a1:List au}{a2:Int}{a3:List aD}{a4:Int}(hg:gd a0 a1 a2 a3 a4):aL.Sm (2^21) (md a0 a1 a2 a3 a4):=by
 unfold gd at hg
 unfold md
 cases hp:Z47.md a3
 ·exact ⟨hg.1,⟨zero_le _,bM.nil⟩,zero_le _,fun _ _=>trivial⟩
 ·simp only [Bool.not_true,bu]
  exact (zX (look:=lk a1 a4) (fun _=>True) (fun c k z s _ hk hs=>⟨Z122.fL ⟨hk,Z100.fL ⟨hg.2.1,hs⟩,hs⟩,trivial⟩) 17 () a0 [] 0 a2 a3 trivial hg.1 hp (show 0+17<=2^21 by omega)).1
def AX (t:aL):aL.size t=Z106.Cz t.bP.aG+Z106.Fz t.bP.aW+ah.size t.bp+t.bI.length:=by
 unfold aL.size aj.size Z106.Cz Z106.Fz
 rw [qQ]
def gr (a0:aj)(a1:List au)(a2:Int)(a3:List aD)(a4:Int){B:Nat}(h1:dJ (fun y:au=>au.size y) a1<=2^20)(hB:Z106.Cz a0.aG+106954752<=B) :
  Z106.Cz (md a0 a1 a2 a3 a4).bP.aG<=Z106.Cz a0.aG+106954752/\Z106.Fz (md a0 a1 a2 a3 a4).bP.aW<=Z106.Fz a0.aW+(136*B+1283457024)/\ah.size (md a0 a1 a2 a3 a4).bp<=6291456/\(md a0 a1 a2 a3 a4).bI.length<=17:=by
 unfold md
 cases Z47.md a3
 ·exact ⟨Nat.le_add_right _ _,Nat.le_add_right _ _,zero_le _,zero_le _⟩
 ·simp only [Bool.not_true,bu]
  obtain ⟨A,hA⟩:∃A,A=6291456:=⟨_,rfl⟩
  obtain ⟨D,hD⟩:∃D,D=Z106.Cz a0.aG+17*A:=⟨_,rfl⟩
  obtain ⟨g1,g2,g3,g4,_⟩:=Ab (look:=lk a1 a4) (A:=A) (B:=D) (fun _=>True) (fun _ _ _ _ _=>trivial) (fun _ k z s _=>A6 a1 a4 k z s (by omega)) 17 () a0 [] 0 a2 a3 trivial (by omega)
  revert g1 g2 g3 g4
  generalize (rs (lk a1 a4) 17 () a0 [] 0 a2 a3).1=t
  intro g1 g2 g3 g4
  simp only [List.length_nil] at g4
  refine ⟨by omega,by omega,by omega,by omega⟩
end Z125
namespace Z126
inductive Pt where
 | p0 (a b c:aB) (d e:Int) (f g h:aB)
def pid:Pt->Nat
 | .p0 ..=>4
def bY:Pt->List V
 | .p0 a b c d e f g h=>[.sl none 88 a,.sl none 83 b,.sl none 9 c,.int .i64 d,.cN 0 0,.own 1,.cN 2 0,.int .i64 e]
def bX:Pt->List aV
 | .p0 a b c d e f g h=>[.box [.nil,.nil],.row 60 f,.box [.own 3,.own 4],.row 134 g,.row 143 h]
def step (J:Pt->aJ):Pt->aJ
 | .p0 a b c d e f g h=>(cond (decide (e<(b.length:Int))) (cond (decide (e<3)) (m2 e (b.length:Int) (call (Z125.R ((⟨g,h⟩:bn),a,(bg.at b (toNat e)).bz,c,d)) fun v1=>(call (Z44.R v1.bP) fun v2=>(cj (eS (((f.length:Int)+1)*144)) (J (.p0 a b c d (i64.wrap (e+1)) (f++[(cK.enc v1)]) v2.aG v2.aW)))))) (ret ((f,(⟨g,h⟩:bn)):aB×bn))) (ret ((f,(⟨g,h⟩:bn)):aB×bn)))
def start (J:Pt->aJ)(x0:bn)(x1 x2 x3:aB)(x4:Int):aJ:=(call (Z44.R x0) fun v1=>J (.p0 x1 x2 x3 x4 0 [] v1.aG v1.aW))
def live:Nat->Live:=fun i=>match i with | 4=>[(1,none),(2,none),(3,none),(4,none),(11,none),(12,some 60),(13,none),(14,none)] | _=>[]
def md (a0:aj)(a1:List au)(a2:List bg)(a3:List aD)(a4:Int):List aL×aj:=(dD (S:=List aL×List (List aa)×List az) (β:=List aL×aj) (fun (i1:Nat) (y1:bg) (s3:List aL×List (List aa)×List az)=>(cond (decide ((i1:Int)<3)) (.inl ((s3.1++[(Z125.md (⟨s3.2.1,s3.2.2⟩:aj) a1 (y1.bz) a3 a4)]),((Z125.md (⟨s3.2.1,s3.2.2⟩:aj) a1 (y1.bz) a3 a4).bP).aG,((Z125.md (⟨s3.2.1,s3.2.2⟩:aj) a1 (y1.bz) a3 a4).bP).aW)) (.inr (s3.1,(⟨s3.2.1,s3.2.2⟩:aj))))) (fun (s3:List aL×List (List aa)×List az)=>(s3.1,(⟨s3.2.1,s3.2.2⟩:aj))) 0 a2 ([],a0.aG,a0.aW))
def gd (a0:aj)(a1:List au)(a2:List bg)(a3:List aD)(a4:Int):Prop:=(aj.Sm (2^21) a0)/\(bM (2^21) (fun y:au=>au.Sm (2^21) y) a1)/\(bM (2^21) (fun y:bg=>bg.Sm (2^21) y) a2)/\(bM (2^21) (fun y:aD=>y.size<=(2^21)) a3)
def R:=RR (p5 gd) (u5 md)
def an {a0 a1 a2 a3 a4}(h:gd a0 a1 a2 a3 a4):R ((aj.r a0),(a1.map au.row),(a2.map bg.row),(a3.map cG),a4)=some (((md a0 a1 a2 a3 a4).1.map aL.row),(aj.r (md a0 a1 a2 a3 a4).2)):=aP (a:=(a0,a1,a2,a3,a4)) h
def aU:=CN [.agg rT,pL 88,pL 83,pL 9,pI] (.iJ [(false,[.fr 60]),(true,f37)]) RT.dec R
def bA (a0)(a1)(a2)(a3)(a4)(hg:gd a0 a1 a2 a3 a4):∃n,start (iter step n) (aj.r a0) (a1.map au.row) (a2.map bg.row) (a3.map cG) a4=ret (((md a0 a1 a2 a3 a4).1.map aL.row),(aj.r (md a0 a1 a2 a3 a4).2)):=by
 obtain ⟨H0,H1,H2,H3⟩:=hg
 unfold start md
 try simp only [SS]
 refine cx (Z44.an H0) ?_
 try simp only [SS]
 have Bh2:a2.length<=maxLen:=(by
   have:=(H2).1
   try simp only [maxLen] at *
   omega)
 refine ex_eq (out:=(fun b:List aL×aj=>ret (((b.1.map aL.row),(aj.r b.2)):aB×bn))) (cV (z:=bg.zero)) ?_
 refine dM (p:=Pt.p0 (a1.map au.row) (a2.map bg.row) (a3.map cG) a4 0 ([].map aL.row) (a0.aG.map (dI aa.row)) (a0.aW.map az.row)) fz ?_
 refine ck (pt:=fun (i1:Nat) (s3:List aL×List (List aa)×List az)=>Pt.p0 (a1.map au.row) (a2.map bg.row) (a3.map cG) a4 (i1:Int) (s3.1.map aL.row) (s3.2.1.map (dI aa.row)) (s3.2.2.map az.row)) (s:=(([],a0.aG,a0.aW):List aL×List (List aa)×List az)) (out:=(fun b:List aL×aj=>ret (((b.1.map aL.row),(aj.r b.2)):aB×bn))) (fun (i1:Nat) (s3:List aL×List (List aa)×List az)=>aj.Sm (2^21) (⟨s3.2.1,s3.2.2⟩:aj)/\s3.1.length<=i1) (fun J i1 s3 h2 hih2=>?_) (fun s3 hih2=>?_) ⟨H0,zero_le _⟩
 ·simp only [step,SS]
  have gr_:=hih2
  try simp only [LN] at gr_
  have bb_:=Bh2
  simp only [maxLen] at bb_
  have:=(H2).1
  refine bC.yes (by apply decide_eq_true;omega) ?_
  refine bC.bif (fun c4=>?_) (fun c4=>?_)
  ·have dc4:=c4
   try simp only [DC] at dc4
   refine bC.yes aI ?_
   refine bC.yes (aK h2) ?_
   refine cr (Z125.an (a0:=(⟨s3.2.1,s3.2.2⟩:aj)) ⟨⟨hih2.1.1,hih2.1.2⟩,H1,H3⟩) ?_
   try simp only [SS]
   refine cr (Z44.an (a0:=(Z125.md (⟨s3.2.1,s3.2.2⟩:aj) a1 ((a2.getD i1 bg.zero).bz) a3 a4).bP) (Z125.fL (a0:=(⟨s3.2.1,s3.2.2⟩:aj)) (a1:=a1) (a2:=(a2.getD i1 bg.zero).bz) (a3:=a3) (a4:=a4) ⟨⟨hih2.1.1,hih2.1.2⟩,H1,H3⟩).1) ?_
   try simp only [SS]
   refine bC.yes lm ?_
   refine bC.inl (by exact ⟨(Z125.fL ⟨hih2.1,H1,H3⟩).1,gW hih2.2⟩) ?_
   rw [aH h2 Bh2]
   all_goals exact fz
  ·refine bC.inr ?_
   all_goals exact fz
 ·simp only [step,SS]
  have gr_:=hih2
  try simp only [LN] at gr_
  have:=(H2).1
  refine dx (by apply decide_eq_false;omega) ?_
  refine ⟨0,?_⟩
  all_goals exact fz
def af:cD 10 aU:=L5 48 pid bY bX live step start mix aE bA (.cons Z44.af (.cons Z125.af .nil)) Tryz.func10
def pK (a1:List au)(a3:List aD)(a4:Int)(i:Nat)(y:bg)(s:List aL×List (List aa)×List az):(List aL×List (List aa)×List az)⊕(List aL×aj):=
 bif (decide ((i:Int)<3)) then (.inl ((s.1++[(Z125.md (⟨s.2.1,s.2.2⟩:aj) a1 (y.bz) a3 a4)]),((Z125.md (⟨s.2.1,s.2.2⟩:aj) a1 (y.bz) a3 a4).bP).aG,((Z125.md (⟨s.2.1,s.2.2⟩:aj) a1 (y.bz) a3 a4).bP).aW)) else (.inr (s.1,(⟨s.2.1,s.2.2⟩:aj)))
def vX {α:Type}(f:α->Nat)(x:α):∀xs:List α,dJ f (xs++[x])=dJ f xs+(f x+1)
 | []=>by simp [dJ];omega
 | y::ys=>by
  have:=vX f x ys
  rw [List.cons_append,Z122.qJ,Z122.qJ,this]
  omega
def AR {K F T:Nat}(hK:K=106954752)(hF:F=2^37)(hT:T=2^40+1)(a1:List au)(a3:List aD)(a4:Int)(h1:dJ (fun y:au=>au.size y) a1<=2^20):∀(xs:List bg) (i:Nat) (s:List aL×List (List aa)×List az),i<=3->
  Z106.Cz s.2.1<=2^20+i*K->Z106.Fz s.2.2<=2^20+i*F->dJ (fun y:aL=>aL.size y) s.1<=i*T->
  dJ (fun y:aL=>aL.size y) (dD (pK a1 a3 a4) (fun s=>(s.1,(⟨s.2.1,s.2.2⟩:aj))) i xs s).1<=3*T/\aj.size (dD (pK a1 a3 a4) (fun s=>(s.1,(⟨s.2.1,s.2.2⟩:aj))) i xs s).2<=2^40:=by
 have hk:∀s:List aL×List (List aa)×List az,aj.size ⟨s.2.1,s.2.2⟩=Z106.Cz s.2.1+Z106.Fz s.2.2:=fun _=>rfl
 intro xs
 induction xs with
 | nil=>
  intro i s hi hc hf ht
  have e1:=Nat.mul_le_mul_right K hi
  have e2:=Nat.mul_le_mul_right F hi
  have e3:=Nat.mul_le_mul_right T hi
  unfold dD
  refine ⟨le_trans ht e3,?_⟩
  rw [hk]
  generalize Z106.Cz s.2.1=c at *
  generalize Z106.Fz s.2.2=f at *
  omega
 | cons y xs ih=>
  intro i s hi hc hf ht
  have e1:=Nat.mul_le_mul_right K hi
  have e2:=Nat.mul_le_mul_right F hi
  have e3:=Nat.mul_le_mul_right T hi
  unfold dD
  by_cases h:i<3
  ·have e:pK a1 a3 a4 i y s=.inl ((s.1++[(Z125.md (⟨s.2.1,s.2.2⟩:aj) a1 (y.bz) a3 a4)]),((Z125.md (⟨s.2.1,s.2.2⟩:aj) a1 (y.bz) a3 a4).bP).aG,((Z125.md (⟨s.2.1,s.2.2⟩:aj) a1 (y.bz) a3 a4).bP).aW):=by
    unfold pK
    rw [decide_eq_true (by omega)]
    rfl
   rw [e]
   obtain ⟨B,hB⟩:∃B,B=2^29:=⟨_,rfl⟩
   have hg:=Z125.gr ⟨s.2.1,s.2.2⟩ a1 y.bz a3 a4 (B:=B) h1
   have hts:=Z125.AX (Z125.md (⟨s.2.1,s.2.2⟩:aj) a1 (y.bz) a3 a4)
   have hse:=vX (fun y:aL=>aL.size y) (Z125.md (⟨s.2.1,s.2.2⟩:aj) a1 (y.bz) a3 a4) s.1
   revert hg hts hse
   generalize Z125.md (⟨s.2.1,s.2.2⟩:aj) a1 (y.bz) a3 a4=t
   intro hg hts hse
   simp only at hg
   have c1:(i+1)*K=i*K+K:=Nat.succ_mul i K
   have c2:(i+1)*F=i*F+F:=Nat.succ_mul i F
   have c3:(i+1)*T=i*T+T:=Nat.succ_mul i T
   rw [<-hK] at hg
   obtain ⟨g1,g2,g3,g4⟩:=hg (by omega)
   refine ih (i+1) _ (by omega) ?_ ?_ ?_
   ·show Z106.Cz t.bP.aG<=_
    omega
   ·show Z106.Fz t.bP.aW<=_
    omega
   ·show dJ _ (s.1++[t])<=_
    rw [hse,hts]
    omega
  ·have e:pK a1 a3 a4 i y s=.inr (s.1,(⟨s.2.1,s.2.2⟩:aj)):=by
    unfold pK
    rw [decide_eq_false (by omega)]
    rfl
   rw [e]
   refine ⟨le_trans ht e3,?_⟩
   rw [hk]
   generalize Z106.Cz s.2.1=c at *
   generalize Z106.Fz s.2.2=f at *
   omega
def sz (a0:aj)(a1:List au)(a2:List bg)(a3:List aD)(a4:Int)(h0:aj.size a0<=2^20)(h1:dJ (fun y:au=>au.size y) a1<=2^20) :
  dJ (fun y:aL=>aL.size y) (md a0 a1 a2 a3 a4).1<=3298534883331/\aj.size (md a0 a1 a2 a3 a4).2<=2^40:=by
 have hk:aj.size a0=Z106.Cz a0.aG+Z106.Fz a0.aW:=rfl
 have h:=AR rfl rfl rfl a1 a3 a4 h1 a2 0 ([],a0.aG,a0.aW) (by omega) (by simp only;omega) (by simp only;omega) (zero_le _)
 exact h
end Z126
namespace Z127
def F (x0:aB):aJ:=(cond x0.isEmpty (either (ret ([]:aB)) ((cj (eS ((x0.length:Int)*8)) (ret (x0:aB))))) (cj (eS ((x0.length:Int)*8)) (ret (x0:aB))))
def md (a0:List Int):List Int:=a0
def gd (a0:List Int):Prop:=bM (2^38) (fun y:Int=>True) a0
def R:=RR gd md
def an {a0}(h:gd a0):R (a0.map bq)=some (a0.map bq):=aP (a:=a0) h
def aU:=CN [pL 3] (oL 3) RT.dec R
def bA (a0)(hg:gd a0):F (a0.map bq)=ret ((md a0).map bq):=by
 have H0:=hg.1
 unfold F md
 have hl:eS (((a0.map bq).length:Int)*8)=true:=iF (by simp only [List.length_map];omega)
 simp only [hl,bh]
 cases a0 with
 | nil=>exact lH
 | cons x xs=>rfl
def af:cD 225 aU:=W1 8 F mix aE bA .nil Tryz.func225
end Z127
namespace Z128
def F (x0:bE):aJ:=(call (Z127.R x0.aX) fun v1=>ret ((⟨v1,x0.cE⟩:bE):bE))
def md (a0:aO):aO:=a0
def gd (a0:aO):Prop:=(aO.Sm (2^21) a0)
def R:=RR gd md
def an {a0}(h:gd a0):R (aO.r a0)=some (aO.r a0):=aP (a:=a0) h
def aU:=CN [.agg iV] (.agg f136) RT.dec R
def bA (a0)(hg:gd a0):F (aO.r a0)=ret (aO.r (md a0)):=by
 unfold gd at hg
 have H0:=hg
 unfold F md
 try simp only [SS]
 refine ct (Z127.an (H0.mono (by decide) (fun x hx=>trivial))) ?_
 try simp only [SS]
 all_goals exact fz
def af:cD 184 aU:=W1 9 F mix aE bA (.cons Z127.af .nil) Tryz.func184
end Z128
namespace Z129
def F (x0:cg):aJ:=(call (Z128.R x0.bR) fun v1=>(call (Z128.R x0.bD) fun v2=>(call (Z128.R x0.bB) fun v3=>ret ((⟨x0.bz,x0.cI,x0.bQ,x0.cF,x0.cC,x0.cu,x0.cW,x0.dy,v1,v2,x0.cY,v3,x0.bF⟩:cg):cg))))
def md (a0:aF):aF:=a0
def gd (a0:aF):Prop:=(aF.Sm (2^21) a0)
def R:=RR gd md
def an {a0}(h:gd a0):R (aF.r a0)=some (aF.r a0):=aP (a:=a0) h
def aU:=CN [.agg fX] (.agg f138) RT.dec R
def bA (a0)(hg:gd a0):F (aF.r a0)=ret (aF.r (md a0)):=by
 unfold gd at hg
 have H0:=hg
 unfold F md
 try simp only [SS]
 refine ct (Z128.an H0.1) ?_
 try simp only [SS]
 refine ct (Z128.an H0.2.1) ?_
 try simp only [SS]
 refine ct (Z128.an H0.2.2) ?_
 try simp only [SS]
 all_goals exact fz
def af:cD 148 aU:=W1 16 F mix aE bA (.cons Z128.af .nil) Tryz.func148
end Z129
namespace Z130
def F (x0:aB):aJ:=(cond x0.isEmpty (either (ret ([]:aB)) ((cj (eS ((x0.length:Int)*16)) (ret (x0:aB))))) (cj (eS ((x0.length:Int)*16)) (ret (x0:aB))))
def md (a0:List bt):List bt:=a0
def gd (a0:List bt):Prop:=bM (2^21) (fun y:bt=>bt.Sm (2^21) y) a0
def R:=RR gd md
def an {a0}(h:gd a0):R (a0.map bt.row)=some (a0.map bt.row):=aP (a:=a0) h
def aU:=CN [pL 190] (oL 190) RT.dec R
def bA (a0)(hg:gd a0):F (a0.map bt.row)=ret ((md a0).map bt.row):=by
 have H0:=hg.1
 unfold F md
 have hl:eS (((a0.map bt.row).length:Int)*16)=true:=iF (by simp only [List.length_map];omega)
 simp only [hl,bh]
 cases a0 with
 | nil=>exact lH
 | cons x xs=>rfl
def af:cD 149 aU:=W1 8 F mix aE bA .nil Tryz.func149
end Z130
namespace Z131
def F (x0:aR):aJ:=(call (Z129.R x0.aq) fun v1=>(call (Z130.R x0.cm) fun v2=>ret ((⟨v1,v2⟩:aR):aR)))
def md (a0:aa):aa:=a0
def gd (a0:aa):Prop:=(aa.Sm (2^21) a0)
def R:=RR gd md
def an {a0}(h:gd a0):R (aa.r a0)=some (aa.r a0):=aP (a:=a0) h
def aU:=CN [.agg ku] (.agg f141) RT.dec R
def bA (a0)(hg:gd a0):F (aa.r a0)=ret (aa.r (md a0)):=by
 unfold gd at hg
 have H0:=hg
 unfold F md
 try simp only [SS]
 refine ct (Z129.an H0.1) ?_
 try simp only [SS]
 refine ct (Z130.an H0.2) ?_
 try simp only [SS]
 all_goals exact fz
def af:cD 118 aU:=W1 10 F mix aE bA (.cons Z129.af (.cons Z130.af .nil)) Tryz.func118
end Z131
namespace Z132
inductive Pt where
 | p0 (a:aB) (b c:Int) (d:aB)
def pid:Pt->Nat
 | .p0 ..=>3
def bY:Pt->List V
 | .p0 a b c d=>[.own 0,.sl none 141 a,.int .i64 b,.int .i64 c]
def bX:Pt->List aV
 | .p0 a b c d=>[.row 141 d]
def step (J:Pt->aJ):Pt->aJ
 | .p0 a b c d=>(cond (decide (c<b)) (m2 c (a.length:Int) (call (Z131.R (aR.at a (toNat c))) fun v1=>(cj (eS (((d.length:Int)+1)*200)) (J (.p0 a b (i64.wrap (c+1)) (d++[(aR.enc v1)])))))) (ret (d:aB)))
def start (J:Pt->aJ)(x0:aB):aJ:=J (.p0 x0 (x0.length:Int) 0 [])
def live:Nat->Live:=fun i=>match i with | 3=>[(3,some 141),(7,none),(8,none),(9,none)] | _=>[]
def md (a0:List aa):List aa:=a0
def gd (a0:List aa):Prop:=(bM (2^21) (fun y:aa=>aa.Sm (2^21) y) a0)
def R:=RR gd md
def an {a0}(h:gd a0):R (a0.map aa.row)=some (a0.map aa.row):=aP (a:=a0) h
def aU:=CN [pL 141] (oL 141) RT.dec R
def bA (a0)(hg:gd a0):∃n,start (iter step n) (a0.map aa.row)=ret ((md a0).map aa.row):=by
 unfold gd at hg
 have H0:=hg
 unfold start md
 try simp only [SS]
 have Bh2:a0.length<=maxLen:=(by
   have:=(H0).1
   try simp only [maxLen] at *
   omega)
 refine ex_eq (out:=(fun b:List aa=>ret ((b.map aa.row):aB))) (ir (xs:=a0) (z:=aa.zero) (t:=fun s3:List aa=>s3)) ?_
 refine dM (p:=Pt.p0 (a0.map aa.row) (a0.length:Int) 0 ([].map aa.row)) fz ?_
 refine ck (pt:=fun (i1:Nat) (s3:List aa)=>Pt.p0 (a0.map aa.row) (a0.length:Int) (i1:Int) (s3.map aa.row)) (s:=([]:List aa)) (out:=(fun b:List aa=>ret ((b.map aa.row):aB))) (fun (i1:Nat) (s3:List aa)=>s3.length<=([]:List Int).length+1*i1) (fun J i1 s3 h2 hih2=>?_) (fun s3 hih2=>?_) (by simp)
 ·simp only [step,SS]
  have gr_:=hih2
  try simp only [LN] at gr_
  have bb_:=Bh2
  simp only [maxLen] at bb_
  have:=(H0).1
  refine bC.yes (by apply decide_eq_true;omega) ?_
  refine bC.yes aI ?_
  refine bC.yes (aK h2) ?_
  refine cr (Z131.an (bM.getD (z:=aa.zero) H0 h2)) ?_
  try simp only [SS]
  refine bC.yes lm ?_
  refine bC.inl (by
    have g_:=hih2
    try simp only [LN] at g_ ⊢
    first | omega | (simp;done) | (simp;omega)) ?_
  rw [aH h2 Bh2]
  all_goals exact fz
 ·simp only [step,SS]
  have gr_:=hih2
  try simp only [LN] at gr_
  have:=(H0).1
  refine dx (by apply decide_eq_false;omega) ?_
  refine ⟨0,?_⟩
  all_goals exact fz
def af:cD 89 aU:=L1 20 pid bY bX live step start mix aE bA (.cons Z131.af .nil) Tryz.func89
end Z132
namespace Z133
def F (x0:bJ):aJ:=(call (Z131.R x0.aS) fun v1=>(call (Z131.R x0.fA) fun v2=>(call (Z131.R x0.fB) fun v3=>ret ((⟨v1,v2,v3⟩:bJ):bJ))))
def md (a0:az):az:=a0
def gd (a0:az):Prop:=(az.Sm (2^21) a0)
def R:=RR gd md
def an {a0}(h:gd a0):R (az.r a0)=some (az.r a0):=aP (a:=a0) h
def aU:=CN [.agg sQ] (.agg f143) RT.dec R
def bA (a0)(hg:gd a0):F (az.r a0)=ret (az.r (md a0)):=by
 unfold gd at hg
 have H0:=hg
 unfold F md
 try simp only [SS]
 refine ct (Z131.an H0.1) ?_
 try simp only [SS]
 refine ct (Z131.an H0.2.1) ?_
 try simp only [SS]
 refine ct (Z131.an H0.2.2) ?_
 try simp only [SS]
 all_goals exact fz
def af:cD 90 aU:=W1 13 F mix aE bA (.cons Z131.af .nil) Tryz.func90
end Z133
namespace Z134
inductive Pt where
 | p0 (a:aB) (b c:Int) (d:bn) (e:aB)
 | p1 (a:aB) (b c:Int) (d e:aB)
def pid:Pt->Nat
 | .p0 ..=>3
 | .p1 ..=>8
def bY:Pt->List V
 | .p0 a b c d e=>[.cN 0 0,.cN 1 0,.cN 2 0,.sl none 134 a,.int .i64 b,.int .i64 c,.cN 2 0]
 | .p1 a b c d e=>[.cN 0 0,.cN 1 0,.sl none 143 a,.int .i64 b,.int .i64 c,.cN 1 0,.cN 1 0]
def bX:Pt->List aV
 | .p0 a b c d e=>[.box [.sl none 134 d.aG,.sl none 143 d.aW],.box [.nil,.nil],.box [.own 3,.nil],.row 134 e]
 | .p1 a b c d e=>[.box [.nil,.nil],.box [.own 2,.own 3],.row 134 d,.row 143 e]
def step (J:Pt->aJ):Pt->aJ
 | .p0 a b c d e=>(cond (decide (c<b)) (m2 c (a.length:Int) (call (Z132.R (oq a (toNat c))) fun v1=>(cj (eS (((e.length:Int)+1)*24)) (J (.p0 a b (i64.wrap (c+1)) d (e++[[L.sl v1]])))))) (J (.p1 d.aW (d.aW.length:Int) 0 e [])))
 | .p1 a b c d e=>(cond (decide (c<b)) (m2 c (a.length:Int) (call (Z133.R (bJ.at a (toNat c))) fun v1=>(cj (eS (((e.length:Int)+1)*600)) (J (.p1 a b (i64.wrap (c+1)) d (e++[(bJ.enc v1)])))))) (ret ((⟨d,e⟩:bn):bn)))
def start (J:Pt->aJ)(x0:bn):aJ:=J (.p0 x0.aG (x0.aG.length:Int) 0 x0 [])
def live:Nat->Live:=fun i=>match i with | 3=>[(1,none),(2,none),(3,none),(10,none),(11,none),(12,none),(3,some 134)] | 8=>[(2,none),(3,none),(25,none),(26,none),(27,none),(3,some 134),(3,some 1048719)] | _=>[]
def md (a0:aj):aj:=a0
def gd (a0:aj):Prop:=(aj.Sm (2^21) a0)
def R:=RR gd md
def an {a0}(h:gd a0):R (aj.r a0)=some (aj.r a0):=aP (a:=a0) h
def aU:=CN [.agg rT] (.agg f37) RT.dec R
def bA (a0)(hg:gd a0):∃n,start (iter step n) (aj.r a0)=ret (aj.r (md a0)):=by
 unfold gd at hg
 have H0:=hg
 unfold start md
 try simp only [SS]
 have Bh2:a0.aG.length<=maxLen:=(by
   have:=(H0.1).1
   try simp only [maxLen] at *
   omega)
 refine ex_eq (out:=(fun b:aj=>ret ((aj.r b):bn))) (ir (xs:=a0.aG) (z:=[]) (t:=fun s3:List (List aa)=>(⟨s3,a0.aW⟩:aj))) ?_
 refine dM (p:=Pt.p0 (a0.aG.map (dI aa.row)) (a0.aG.length:Int) 0 (aj.r a0) ([].map (dI aa.row))) fz ?_
 refine ck (pt:=fun (i1:Nat) (s3:List (List aa))=>Pt.p0 (a0.aG.map (dI aa.row)) (a0.aG.length:Int) (i1:Int) (aj.r a0) (s3.map (dI aa.row))) (s:=([]:List (List aa))) (out:=(fun b:aj=>ret ((aj.r b):bn))) (fun (i1:Nat) (s3:List (List aa))=>s3.length<=([]:List Int).length+1*i1) (fun J i1 s3 h2 hih2=>?_) (fun s3 hih2=>?_) (by simp)
 ·simp only [step,SS]
  have gr_:=hih2
  try simp only [LN] at gr_
  have bb_:=Bh2
  simp only [maxLen] at bb_
  have:=(H0.1).1
  refine bC.yes (by apply decide_eq_true;omega) ?_
  refine bC.yes aI ?_
  refine bC.yes (aK h2) ?_
  refine cr (Z132.an (bM.getD (z:=[]) H0.1 h2)) ?_
  try simp only [SS]
  refine bC.yes lm ?_
  refine bC.inl (by
    have g_:=hih2
    try simp only [LN] at g_ ⊢
    first | omega | (simp;done) | (simp;omega)) ?_
  rw [aH h2 Bh2]
  all_goals exact fz
 ·simp only [step,SS]
  have gr_:=hih2
  try simp only [LN] at gr_
  have:=(H0.1).1
  refine dx (by apply decide_eq_false;omega) ?_
  have Bh5:a0.aW.length<=maxLen:=(by
    have:=(H0.2).1
    try simp only [maxLen] at *
    omega)
  refine ex_eq (out:=(fun b:aj=>ret ((aj.r b):bn))) (ir (xs:=a0.aW) (z:=az.zero) (t:=fun s6:List az=>(⟨s3,s6⟩:aj))) ?_
  refine dM (p:=Pt.p1 (a0.aW.map az.row) (a0.aW.length:Int) 0 (s3.map (dI aa.row)) ([].map az.row)) fz ?_
  refine ck (pt:=fun (i4:Nat) (s6:List az)=>Pt.p1 (a0.aW.map az.row) (a0.aW.length:Int) (i4:Int) (s3.map (dI aa.row)) (s6.map az.row)) (s:=([]:List az)) (out:=(fun b:aj=>ret ((aj.r b):bn))) (fun (i4:Nat) (s6:List az)=>s6.length<=([]:List Int).length+1*i4) (fun J i4 s6 h5 hih5=>?_) (fun s6 hih5=>?_) (by simp)
  ·simp only [step,SS]
   have gr_:=hih5
   try simp only [LN] at gr_
   have bb_:=Bh5
   simp only [maxLen] at bb_
   have:=(H0.2).1
   refine bC.yes (by apply decide_eq_true;omega) ?_
   refine bC.yes aI ?_
   refine bC.yes (aK h5) ?_
   refine cr (Z133.an (bM.getD (z:=az.zero) H0.2 h5)) ?_
   try simp only [SS]
   refine bC.yes lm ?_
   refine bC.inl (by
     have g_:=hih5
     try simp only [LN] at g_ ⊢
     first | omega | (simp;done) | (simp;omega)) ?_
   rw [aH h5 Bh5]
   all_goals exact fz
  ·simp only [step,SS]
   have gr_:=hih5
   try simp only [LN] at gr_
   have:=(H0.2).1
   refine dx (by apply decide_eq_false;omega) ?_
   refine ⟨0,?_⟩
   all_goals exact fz
def af:cD 48 aU:=L1 40 pid bY bX live step start mix aE bA (.cons Z132.af (.cons Z133.af .nil)) Tryz.func48
end Z134
namespace Z135
def F (x0 x1 x2:Int):aJ:=(cond (decide (x1<=x0)) (ret ((decide (x0<=x2)):Bool)) bf)
def md (a0 a1 a2:Int):Bool:=(cond (decide (a1<=a0)) ((decide (a0<=a2)):Bool) (false:Bool))
def gd (a0 a1 a2:Int):Prop:=True
def R:=RR (p3 gd) (u3 md)
def an {a0 a1 a2}(h:gd a0 a1 a2):R (a0,a1,a2)=some (md a0 a1 a2):=aP (a:=(a0,a1,a2)) h
def aU:=CN [pI,pI,pI] oB RT.dec R
def bA (a0)(a1)(a2)(hg:gd a0 a1 a2):F a0 a1 a2=ret (md a0 a1 a2):=by
 unfold F md
 try simp only [SS]
 refine av ret (fun c1=>?_) (fun _=>rfl)
 all_goals exact fz
def af:cD 131 aU:=W3 15 F mix aE bA .nil Tryz.func131
def br (a0 a1 a2:Int):md a0 a1 a2=Z45.md a0 a1 a2:=by
 unfold md Z45.md
 first | rfl | (rw [Bool.eq_iff_iff];simp)
end Z135
namespace Z136
inductive Pt where
 | p0 (a:aD) (b c:Int)
def pid:Pt->Nat
 | .p0 ..=>2
def bY:Pt->List V
 | .p0 a b c=>[.str a,.int .i64 b,.int .i64 c]
def bX:Pt->List aV
 | .p0 a b c=>[]
def step (J:Pt->aJ):Pt->aJ
 | .p0 a b c=>(cond (decide (c<b)) (m2 c (a.size:Int) (cond (decide ((dZ a (toNat c))>=97)) (cond (decide ((dZ a (toNat c))<=122)) (J (.p0 a b (i64.wrap (c+1)))) (cond (decide ((dZ a (toNat c))>=48)) (cond (decide ((dZ a (toNat c))<=57)) (J (.p0 a b (i64.wrap (c+1)))) (cond ((dZ a (toNat c))==45) (cond (decide (c>0)) (cond (!(decide (c<(i64.wrap ((a.size:Int) - 1))))) bf (J (.p0 a b (i64.wrap (c+1))))) bf) bf)) (cond ((dZ a (toNat c))==45) (cond (decide (c>0)) (cond (!(decide (c<(i64.wrap ((a.size:Int) - 1))))) bf (J (.p0 a b (i64.wrap (c+1))))) bf) bf))) (cond (decide ((dZ a (toNat c))>=48)) (cond (decide ((dZ a (toNat c))<=57)) (J (.p0 a b (i64.wrap (c+1)))) (cond ((dZ a (toNat c))==45) (cond (decide (c>0)) (cond (!(decide (c<(i64.wrap ((a.size:Int) - 1))))) bf (J (.p0 a b (i64.wrap (c+1))))) bf) bf)) (cond ((dZ a (toNat c))==45) (cond (decide (c>0)) (cond (!(decide (c<(i64.wrap ((a.size:Int) - 1))))) bf (J (.p0 a b (i64.wrap (c+1))))) bf) bf)))) (call (Z135.R ((a.size:Int),1,8)) fun v1=>ret (v1:Bool)))
def start (J:Pt->aJ)(x0:aD):aJ:=J (.p0 x0 (x0.size:Int) 0)
def live:Nat->Live:=fun i=>match i with | 2=>[(0,none),(6,none),(7,none)] | _=>[]
def md (a0:aD):Bool:=(eo (S:=Unit) (β:=Bool) (fun (i1:Nat) (s3:Unit)=>(cond (decide ((dZ a0 i1)>=97)) (cond (decide ((dZ a0 i1)<=122)) (.inl ()) (cond (decide ((dZ a0 i1)>=48)) (cond (decide ((dZ a0 i1)<=57)) (.inl ()) (cond ((dZ a0 i1)==45) (cond (decide ((i1:Int)>0)) (cond (!(decide ((i1:Int)<(i64.wrap ((a0.size:Int) - 1))))) (.inr (false:Bool)) (.inl ())) (.inr (false:Bool))) (.inr (false:Bool)))) (cond ((dZ a0 i1)==45) (cond (decide ((i1:Int)>0)) (cond (!(decide ((i1:Int)<(i64.wrap ((a0.size:Int) - 1))))) (.inr (false:Bool)) (.inl ())) (.inr (false:Bool))) (.inr (false:Bool))))) (cond (decide ((dZ a0 i1)>=48)) (cond (decide ((dZ a0 i1)<=57)) (.inl ()) (cond ((dZ a0 i1)==45) (cond (decide ((i1:Int)>0)) (cond (!(decide ((i1:Int)<(i64.wrap ((a0.size:Int) - 1))))) (.inr (false:Bool)) (.inl ())) (.inr (false:Bool))) (.inr (false:Bool)))) (cond ((dZ a0 i1)==45) (cond (decide ((i1:Int)>0)) (cond (!(decide ((i1:Int)<(i64.wrap ((a0.size:Int) - 1))))) (.inr (false:Bool)) (.inl ())) (.inr (false:Bool))) (.inr (false:Bool)))))) (fun (s3:Unit)=>((Z135.md (a0.size:Int) 1 8):Bool)) a0.size 0 ())
def gd (a0:aD):Prop:=(a0.size<=(2^22))
def R:=RR gd md
def an {a0}(h:gd a0):R a0=some (md a0):=aP (a:=a0) h
def aU:=CN [pS] oB RT.dec R
def bA (a0)(hg:gd a0):∃n,start (iter step n) a0=ret (md a0):=by
 unfold gd at hg
 have H0:=hg
 unfold start md
 try simp only [SS]
 have Bh2:a0.size<=maxLen:=(by
   have:=H0
   try simp only [maxLen] at *
   omega)
 refine dM (p:=Pt.p0 a0 (a0.size:Int) 0) fz ?_
 refine ck (pt:=fun (i1:Nat) (s3:Unit)=>Pt.p0 a0 (a0.size:Int) (i1:Int)) (s:=(():Unit)) (out:=ret) (fun _ _=>True) (fun J i1 s3 h2 hih2=>?_) (fun s3 hih2=>?_) trivial
 ·simp only [step,SS]
  have bb_:=Bh2
  simp only [maxLen] at bb_
  have:=H0
  refine bC.yes (by apply decide_eq_true;omega) ?_
  refine bC.yes aI ?_
  refine bC.yes (aK h2) ?_
  refine bC.bif (fun c4=>?_) (fun c4=>?_)
  ·refine bC.bif (fun c5=>?_) (fun c5=>?_)
   ·refine bC.inl trivial ?_
    rw [aH h2 Bh2]
    all_goals exact fz
   ·refine bC.bif (fun c6=>?_) (fun c6=>?_)
    ·refine bC.bif (fun c7=>?_) (fun c7=>?_)
     ·refine bC.inl trivial ?_
      rw [aH h2 Bh2]
      all_goals exact fz
     ·refine bC.bif (fun c8=>?_) (fun _=>bC.inr rfl)
      refine bC.bif (fun c9=>?_) (fun _=>bC.inr rfl)
      refine bC.bif (fun _=>bC.inr rfl) (fun c10=>?_)
      refine bC.inl trivial ?_
      rw [aH h2 Bh2]
      all_goals exact fz
    ·refine bC.bif (fun c11=>?_) (fun _=>bC.inr rfl)
     refine bC.bif (fun c12=>?_) (fun _=>bC.inr rfl)
     refine bC.bif (fun _=>bC.inr rfl) (fun c13=>?_)
     refine bC.inl trivial ?_
     rw [aH h2 Bh2]
     all_goals exact fz
  ·refine bC.bif (fun c14=>?_) (fun c14=>?_)
   ·refine bC.bif (fun c15=>?_) (fun c15=>?_)
    ·refine bC.inl trivial ?_
     rw [aH h2 Bh2]
     all_goals exact fz
    ·refine bC.bif (fun c16=>?_) (fun _=>bC.inr rfl)
     refine bC.bif (fun c17=>?_) (fun _=>bC.inr rfl)
     refine bC.bif (fun _=>bC.inr rfl) (fun c18=>?_)
     refine bC.inl trivial ?_
     rw [aH h2 Bh2]
     all_goals exact fz
   ·refine bC.bif (fun c19=>?_) (fun _=>bC.inr rfl)
    refine bC.bif (fun c20=>?_) (fun _=>bC.inr rfl)
    refine bC.bif (fun _=>bC.inr rfl) (fun c21=>?_)
    refine bC.inl trivial ?_
    rw [aH h2 Bh2]
    all_goals exact fz
 ·simp only [step,SS]
  have:=H0
  refine dx (by apply decide_eq_false;omega) ?_
  refine cx (Z135.an trivial) ?_
  refine ⟨0,?_⟩
  all_goals exact fz
def af:cD 134 aU:=L1 47 pid bY bX live step start mix aE bA (.cons Z135.af .nil) Tryz.func134
def br (a0:aD):md a0=Z46.md a0:=by
 unfold md Z46.md
 by_cases hl:1<=a0.size/\a0.size<=8
 ·have e1:Z45.md (a0.size:Int) 1 8=true:=by simp [Z45.md];omega
  simp only [Z135.br,e1]
  have ew:i64.wrap ((a0.size:Int) - 1)=((a0.size - 1:Nat):Int):=by
   rw [Go.IntWalk.i64_in _ (by omega)];omega
  simp only [ew,cz]
  rw [Bool.eq_iff_iff]
  rw [jh (fun i=>(97<=dZ a0 i/\dZ a0 i<=122)∨(48<=dZ a0 i/\dZ a0 i<=57)∨(dZ a0 i=45/\0<i/\i<a0.size - 1)) (fun i hi h=>by simp;grind) (fun i hi h=>by simp;grind)]
  have e2:=jh (n:=a0.size) (f:=fun (i4:Nat) (s6:Unit)=>(cond (decide ((dZ a0 i4)<97)) (cond (decide ((dZ a0 i4)<48)) (cond ((dZ a0 i4) != 45) (.inr (false:Bool)) (.inl ())) (cond (decide ((dZ a0 i4)>57)) (cond ((dZ a0 i4) != 45) (.inr (false:Bool)) (.inl ())) (.inl ()))) (cond (decide ((dZ a0 i4)>122)) (cond (decide ((dZ a0 i4)<48)) (cond ((dZ a0 i4) != 45) (.inr (false:Bool)) (.inl ())) (cond (decide ((dZ a0 i4)>57)) (cond ((dZ a0 i4) != 45) (.inr (false:Bool)) (.inl ())) (.inl ()))) (.inl ())))) (t:=fun _=>true)
   (fun i=>(97<=dZ a0 i/\dZ a0 i<=122)∨(48<=dZ a0 i/\dZ a0 i<=57)∨dZ a0 i=45) (fun i hi h=>by simp;grind) (fun i hi h=>by simp;grind)
  have e3:∀b c d:Bool,(cond (!true) false (bif b then false else bif c then false else d))=true↔b=false/\c=false/\d=true:=by intro b c d;cases b<;>cases c<;>simp
  rw [e3,e2]
  simp only [beq_eq_false_iff_ne,ne_eq,and_true]
  constructor
  ·intro h
   refine ⟨fun h0=>?_,fun h0=>?_,fun i hi=>?_⟩
   ·have:=h 0 (by omega);omega
   ·have:=h (a0.size - 1) (by omega);omega
   ·have:=h i hi;omega
  ·intro ⟨h1,h2,h3⟩ i hi
   have:=h3 i hi
   by_cases h0:i=0
   ·subst h0;omega
   ·by_cases h9:i=a0.size - 1
    ·subst h9;omega
    ·omega
 ·have e1:Z45.md (a0.size:Int) 1 8=false:=by simp [Z45.md];omega
  simp only [Z135.br,e1]
  refine oJ ?_ _ _ _
  intro i s b h
  revert h
  simp only [Bool.cond_eq_ite]
  repeat' split
  all_goals (intro h;first | (cases h;rfl) | cases h)
end Z136
namespace Z137
def F (x0:aD):aJ:=(call (Z136.R x0) fun v1=>ret ((!v1):Bool))
def md (a0:aD):Bool:=((!(Z136.md a0)):Bool)
def gd (a0:aD):Prop:=(a0.size<=(2^22))
def R:=RR gd md
def an {a0}(h:gd a0):R a0=some (md a0):=aP (a:=a0) h
def aU:=CN [pS] oB RT.dec R
def bA (a0)(hg:gd a0):F a0=ret (md a0):=by
 unfold gd at hg
 have H0:=hg
 unfold F md
 try simp only [SS]
 refine ct (Z136.an H0) ?_
 all_goals exact fz
def af:cD 133 aU:=W1 6 F mix aE bA (.cons Z136.af .nil) Tryz.func133
end Z137
namespace Z138
inductive Pt where
 | p0 (a:aB) (b c:Int)
def pid:Pt->Nat
 | .p0 ..=>2
def bY:Pt->List V
 | .p0 a b c=>[.sl none 9 a,.fn 133 [],.int .i64 b,.int .i64 c]
def bX:Pt->List aV
 | .p0 a b c=>[]
def step (J:Pt->aJ):Pt->aJ
 | .p0 a b c=>(cond (decide (c<b)) (m2 c (a.length:Int) (call (Z137.R (pV a (toNat c))) fun v1=>(cond v1 (ret (c:Int)) (J (.p0 a b (i64.wrap (c+1))))))) (ret ((-1):Int)))
def start (J:Pt->aJ)(x0:aB):aJ:=J (.p0 x0 (x0.length:Int) 0)
def live:Nat->Live:=fun i=>match i with | 2=>[(0,none),(1,none),(7,none),(8,none)] | _=>[]
def pats:List ga:=[.rd (.sl 9),.fn 133 []]
def res:RP:=.one (.rd (.int .i64))
abbrev E:Env:={ T:=assoc jV,G:=dw [(133,Z137.aU)],nt:=19 }
def step_eq (I:cB)(p:Pt):cR E live I (pid p) (bL Tryz.f167) (fm (live (pid p)) (bY p) (bX p)) (cA E Tryz.f167 res)=step (fun q=>I (pid q) (bY q) (bX q)) p:=by
 cases p<;>kernel_rfl
def start_eq (I:cB)(ls:List L):eL E live I (bL Tryz.f167) (cU pats ls) (cA E Tryz.f167 res)=start (fun q=>I (pid q) (bY q) (bX q)) (ls.headD .hole).aQ:=by kernel_rfl
def run_eq (n:Nat)(ls:List L):eG E live Tryz.f167 res n (cU pats ls)=start (iter step n) (ls.headD .hole).aQ:=cq (id:=pid) (vs:=bY) (hs:=bX) (step:=step) (start:=fun J=>start J (ls.headD .hole).aQ) step_eq (fun I=>start_eq I ls) n
def md (a0:List aD):Int:=(dD (S:=Unit) (β:=Int) (fun (i1:Nat) (y1:aD) (s3:Unit)=>(cond (Z137.md y1) (.inr ((i1:Int):Int)) (.inl ()))) (fun (s3:Unit)=>((-1):Int)) 0 a0 ())
def gd (a0:List aD):Prop:=(bM (2^22) (fun y:aD=>y.size<=(2^22)) a0)
def acc (ls:List L):aB:=(ls.headD .hole).aQ
def R:(aB)->Option Int:=RR gd md
def an {a0}(h:gd a0):R (a0.map cG)=some (md a0):=aP (a:=a0) h
def aU:fR:=CN pats res acc R
def bA (a0:List aD)(hg:gd a0):∃n,start (iter step n) (a0.map cG)=ret ((md a0):Int):=by
 unfold gd at hg
 have H0:=hg
 unfold start md
 try simp only [SS]
 have Bh2:a0.length<=maxLen:=(by
   have:=(H0).1
   try simp only [maxLen] at *
   omega)
 refine ex_eq (out:=ret) (cV (z:=⟨#[]⟩)) ?_
 refine dM (p:=Pt.p0 (a0.map cG) (a0.length:Int) 0) fz ?_
 refine ck (pt:=fun (i1:Nat) (s3:Unit)=>Pt.p0 (a0.map cG) (a0.length:Int) (i1:Int)) (s:=(():Unit)) (out:=ret) (fun _ _=>True) (fun J i1 s3 h2 hih2=>?_) (fun s3 hih2=>?_) trivial
 ·simp only [step,SS]
  have bb_:=Bh2
  simp only [maxLen] at bb_
  have:=(H0).1
  refine bC.yes (by apply decide_eq_true;omega) ?_
  refine bC.yes aI ?_
  refine bC.yes (aK h2) ?_
  refine cr (Z137.an (bM.getD (z:=⟨#[]⟩) H0 h2)) ?_
  refine bC.bif (fun c4=>?_) (fun c4=>?_)
  ·refine bC.inr ?_
   all_goals exact fz
  ·refine bC.inl trivial ?_
   rw [aH h2 Bh2]
   all_goals exact fz
 ·simp only [step,SS]
  have:=(H0).1
  refine dx (by apply decide_eq_false;omega) ?_
  refine ⟨0,?_⟩
  all_goals exact fz
def af:cD 167 aU:=VV (run:=fun n x=>start (iter step n) x) mix aE (.cons Z137.af .nil) Tryz.func167 (by kernel_rfl) run_eq (fun _ a _ _ hg=>bA a hg)
def fa (a0:List aD):-1<=md a0/\md a0<(a0.length:Int):=by
 unfold md
 refine gi ?_ _ _
 all_goals
  intro i x s b h
  revert h
  simp only [Bool.cond_eq_ite]
  repeat' split
  all_goals (intro h;first | (cases h;rfl) | cases h)
def idx_eq (a0:List aD):md a0=iT (fun y=>Z137.md y) 0 a0:=by
 unfold md
 exact gO
end Z138
namespace Z139
def F (x0:aB):aJ:=(call (Z138.R x0) fun v1=>ret ((decide (v1>=0)):Bool))
def pats:List ga:=[.rd (.sl 9),.fn 133 []]
def res:RP:=.one (.rd (.bool))
def md (a0:List aD):Bool:=((decide ((Z138.md a0)>=0)):Bool)
def gd (a0:List aD):Prop:=(bM (2^22) (fun y:aD=>y.size<=(2^22)) a0)
def acc (ls:List L):aB:=(ls.headD .hole).aQ
def R:(aB)->Option Bool:=RR gd md
def an {a0}(h:gd a0):R (a0.map cG)=some (md a0):=aP (a:=a0) h
def aU:fR:=CN pats res acc R
def bA (a0:List aD)(hg:gd a0):F (a0.map cG)=ret ((md a0):Bool):=by
 unfold gd at hg
 have H0:=hg
 unfold F md
 try simp only [SS]
 refine ct (Z138.an H0) ?_
 have fv1_:=Z138.fa a0
 all_goals exact fz
def af:cD 132 aU:=VV (live:=fun _=>[]) (nt:=9) (run:=fun _ x=>F x) mix aE (.cons Z138.af .nil) Tryz.func132 (by kernel_rfl) (fun _ _=>by kernel_rfl) (fun _ a _ _ hg=>⟨0,bA a hg⟩)
def any_eq (a0:List aD):md a0=a0.any (fun y=>Z137.md y):=by
 unfold md
 rw [Z138.idx_eq]
 exact qi
end Z139
namespace Z140
def F (x0:aB):aJ:=(call (Z135.R ((x0.length:Int),1,4)) fun v1=>(cond v1 (call (Z139.R x0) fun v2=>ret ((!v2):Bool)) bf))
def md (a0:List aD):Bool:=(cond (Z135.md (a0.length:Int) 1 4) ((!(Z139.md a0)):Bool) (false:Bool))
def gd (a0:List aD):Prop:=(bM (2^22) (fun y:aD=>y.size<=(2^22)) a0)
def R:=RR gd md
def an {a0}(h:gd a0):R (a0.map cG)=some (md a0):=aP (a:=a0) h
def aU:=CN [pL 9] oB RT.dec R
def bA (a0)(hg:gd a0):F (a0.map cG)=ret (md a0):=by
 unfold gd at hg
 have H0:=hg
 unfold F md
 try simp only [SS]
 refine ct (Z135.an trivial) ?_
 refine av ret (fun c1=>?_) (fun _=>rfl)
 refine ct (Z139.an H0) ?_
 all_goals exact fz
def af:cD 107 aU:=W1 11 F mix aE bA (.cons Z135.af (.cons Z139.af .nil)) Tryz.func107
def br (a0:List aD):md a0=Z47.md a0:=by
 unfold md Z47.md
 rw [Z139.any_eq]
 have e:=lM (p:=fun y=>!(Z46.md y)) (b:=false) (c:=Z45.md (a0.length:Int) 1 4) (xs:=a0) (s:=())
 refine Eq.trans ?_ e.symm
 simp only [Z137.md,Z136.br,Z135.br]
 cases a0.any (fun y=>!(Z46.md y))<;>cases Z45.md (a0.length:Int) 1 4<;>rfl
end Z140
namespace Z141
def F (x0:Int):aJ:=(call (Z135.R (x0,0,2147483646)) fun v1=>ret (v1:Bool))
def md (a0:Int):Bool:=((Z135.md a0 0 2147483646):Bool)
def gd (a0:Int):Prop:=True
def R:=RR gd md
def an {a0}(h:gd a0):R a0=some (md a0):=aP (a:=a0) h
def aU:=CN [pI] oB RT.dec R
def bA (a0)(hg:gd a0):F a0=ret (md a0):=by
 unfold F md
 try simp only [SS]
 refine ct (Z135.an trivial) ?_
 all_goals exact fz
def af:cD 281 aU:=W1 5 F mix aE bA (.cons Z135.af .nil) Tryz.func281
end Z141
namespace Z142
def F (x0:cg):aJ:=(cond (decide (x0.cF>=0)) (cond (decide (x0.cF<=x0.cC)) (cond (decide (x0.cC<=100000)) (ret ((decide ((i64.wrap (x0.cC - x0.cF))<=200)):Bool)) bf) bf) bf)
def md (a0:aF):Bool:=(cond (decide (a0.cF>=0)) (cond (decide (a0.cF<=a0.cC)) (cond (decide (a0.cC<=100000)) ((decide ((i64.wrap (a0.cC - a0.cF))<=200)):Bool) (false:Bool)) (false:Bool)) (false:Bool))
def gd (a0:aF):Prop:=True
def R:=RR gd md
def an {a0}(h:gd a0):R (aF.r a0)=some (md a0):=aP (a:=a0) h
def aU:=CN [.agg fX] oB RT.dec R
def bA (a0)(hg:gd a0):F (aF.r a0)=ret (md a0):=by
 unfold F md
 try simp only [SS]
 refine av ret (fun c1=>?_) (fun _=>rfl)
 refine av ret (fun c2=>?_) (fun _=>rfl)
 refine av ret (fun c3=>?_) (fun _=>rfl)
 all_goals exact fz
def af:cD 289 aU:=W1 26 F mix aE bA .nil Tryz.func289
end Z142
namespace Z143
inductive Pt where
 | p0 (a:aB) (b c:Int)
def pid:Pt->Nat
 | .p0 ..=>2
def bY:Pt->List V
 | .p0 a b c=>[.sl none 3 a,.int .i64 b,.int .i64 c]
def bX:Pt->List aV
 | .p0 a b c=>[]
def step (J:Pt->aJ):Pt->aJ
 | .p0 a b c=>(cond (decide (c<b)) (cond (decide (c>0)) (m2 c (a.length:Int) (cj (decide ((0:Int)<=(i64.wrap (c - 1)))) (cj (decide ((i64.wrap (c - 1))<(a.length:Int))) (cond (decide ((jt a (toNat c))<=(jt a (toNat (i64.wrap (c - 1)))))) bf (J (.p0 a b (i64.wrap (c+1)))))))) (J (.p0 a b (i64.wrap (c+1))))) eu)
def start (J:Pt->aJ)(x0:aB):aJ:=J (.p0 x0 (x0.length:Int) 0)
def live:Nat->Live:=fun i=>match i with | 2=>[(0,none),(5,none),(6,none)] | _=>[]
def md (a0:List Int):Bool:=(dD (S:=Unit) (β:=Bool) (fun (i1:Nat) (y1:Int) (s3:Unit)=>(cond (decide ((i1:Int)>0)) (cond (decide (y1<=(a0.getD (toNat (i64.wrap ((i1:Int) - 1))) 0))) (.inr (false:Bool)) (.inl ())) (.inl ()))) (fun (s3:Unit)=>(true:Bool)) 0 a0 ())
def gd (a0:List Int):Prop:=(bM (2^38) (fun y:Int=>True) a0)
def R:=RR gd md
def an {a0}(h:gd a0):R (a0.map bq)=some (md a0):=aP (a:=a0) h
def aU:=CN [pL 3] oB RT.dec R
def bA (a0)(hg:gd a0):∃n,start (iter step n) (a0.map bq)=ret (md a0):=by
 unfold gd at hg
 have H0:=hg
 unfold start md
 try simp only [SS]
 have Bh2:a0.length<=maxLen:=(by
   have:=(H0).1
   try simp only [maxLen] at *
   omega)
 refine ex_eq (out:=ret) (cV (z:=0)) ?_
 refine dM (p:=Pt.p0 (a0.map bq) (a0.length:Int) 0) fz ?_
 refine ck (pt:=fun (i1:Nat) (s3:Unit)=>Pt.p0 (a0.map bq) (a0.length:Int) (i1:Int)) (s:=(():Unit)) (out:=ret) (fun _ _=>True) (fun J i1 s3 h2 hih2=>?_) (fun s3 hih2=>?_) trivial
 ·simp only [step,SS]
  have bb_:=Bh2
  simp only [maxLen] at bb_
  have:=(H0).1
  refine bC.yes (by apply decide_eq_true;omega) ?_
  refine bC.bif (fun c4=>?_) (fun c4=>?_)
  ·have dc4:=c4
   try simp only [DC] at dc4
   refine bC.yes aI ?_
   refine bC.yes (aK h2) ?_
   refine bC.yes dt ?_
   refine bC.yes (have:=(H0).1;dt) ?_
   refine bC.bif (fun _=>bC.inr rfl) (fun c5=>?_)
   refine bC.inl trivial ?_
   rw [aH h2 Bh2]
   all_goals exact fz
  ·refine bC.inl trivial ?_
   rw [aH h2 Bh2]
   all_goals exact fz
 ·simp only [step,SS]
  have:=(H0).1
  refine dx (by apply decide_eq_false;omega) ?_
  refine ⟨0,?_⟩
  all_goals exact fz
def af:cD 307 aU:=L1 24 pid bY bX live step start mix aE bA .nil Tryz.func307
end Z143
namespace Z144
def F (x0:Int):aJ:=(call (Z135.R (x0,1,99)) fun v1=>ret (v1:Bool))
def md (a0:Int):Bool:=((Z135.md a0 1 99):Bool)
def gd (a0:Int):Prop:=True
def R:=RR gd md
def an {a0}(h:gd a0):R a0=some (md a0):=aP (a:=a0) h
def aU:=CN [pI] oB RT.dec R
def bA (a0)(hg:gd a0):F a0=ret (md a0):=by
 unfold F md
 try simp only [SS]
 refine ct (Z135.an trivial) ?_
 all_goals exact fz
def af:cD 308 aU:=W1 5 F mix aE bA (.cons Z135.af .nil) Tryz.func308
end Z144
namespace Z145
def F (x0:bE):aJ:=(call (Z135.R ((x0.aX.length:Int),1,4)) fun v1=>(cond v1 (call (Z143.R x0.aX) fun v2=>(cond v2 (cj (decide ((0:Int)<(x0.aX.length:Int))) (call (Z144.R (jt x0.aX 0)) fun v3=>(cond v3 (cj (decide ((0:Int)<=(i64.wrap ((x0.aX.length:Int) - 1)))) (cj (decide ((i64.wrap ((x0.aX.length:Int) - 1))<(x0.aX.length:Int))) (call (Z144.R (jt x0.aX (toNat (i64.wrap ((x0.aX.length:Int) - 1))))) fun v4=>(cond v4 (call (Z135.R (x0.cE,1,(x0.aX.length:Int))) fun v5=>ret (v5:Bool)) bf)))) bf))) bf)) bf))
def md (a0:aO):Bool:=(cond (Z135.md (a0.aX.length:Int) 1 4) (cond (Z143.md a0.aX) (cond (Z144.md (a0.aX.getD 0 0)) (cond (Z144.md (a0.aX.getD (toNat (i64.wrap ((a0.aX.length:Int) - 1))) 0)) ((Z135.md a0.cE 1 (a0.aX.length:Int)):Bool) (false:Bool)) (false:Bool)) (false:Bool)) (false:Bool))
def gd (a0:aO):Prop:=(aO.Sm (2^21) a0)
def R:=RR gd md
def an {a0}(h:gd a0):R (aO.r a0)=some (md a0):=aP (a:=a0) h
def aU:=CN [.agg iV] oB RT.dec R
def bA (a0)(hg:gd a0):F (aO.r a0)=ret (md a0):=by
 unfold gd at hg
 have H0:=hg
 unfold F md
 try simp only [SS]
 refine ct (Z135.an trivial) ?_
 refine av ret (fun c1=>?_) (fun _=>rfl)
 have Dc1:=c1
 try simp [Z135.md] at Dc1
 refine ct (Z143.an (H0.mono (by decide) (fun x hx=>trivial))) ?_
 refine av ret (fun c2=>?_) (fun _=>rfl)
 refine ak (have:=(H0).1;dt) ?_
 refine ct (Z144.an trivial) ?_
 refine av ret (fun c3=>?_) (fun _=>rfl)
 refine ak (have:=(H0).1;dt) ?_
 refine ak (have:=(H0).1;dt) ?_
 refine ct (Z144.an trivial) ?_
 refine av ret (fun c4=>?_) (fun _=>rfl)
 refine ct (Z135.an trivial) ?_
 all_goals exact fz
def af:cD 290 aU:=W1 38 F mix aE bA (.cons Z135.af (.cons Z143.af (.cons Z144.af .nil))) Tryz.func290
def BT {l:List Int}(h:∀i:Nat,i<l.length->0<i->l.getD (i - 1) 0<l.getD i 0):∀(k i:Nat),i+k<l.length->l.getD i 0<=l.getD (i+k) 0
 | 0,i,_=>Int.le_refl _
 | k+1,i,hi=>by
  have h1:=BT h k i (by omega)
  have h2:=h (i+(k+1)) hi (by omega)
  rw [show i+(k+1) - 1=i+k by omega] at h2
  omega
def br (a0:aO):md a0=Z49.md a0:=by
 unfold md Z49.md Z143.md
 simp only [Z135.br,Z144.md]
 by_cases hl:1<=a0.aX.length/\a0.aX.length<=4
 ·have e1:Z45.md (a0.aX.length:Int) 1 4=true:=by simp [Z45.md];omega
  rw [e1]
  have wp:∀i:Nat,0<i->i<=4->toNat (i64.wrap ((i:Int) - 1))=i - 1:=fun i h1 h2=>by
   rw [Go.IntWalk.i64_in _ (by omega)];omega
  rw [wp _ (by omega) (by omega)]
  generalize a0.cE=n
  generalize a0.aX=l at *
  have i1:∀x a b:Int,Z45.md x a b=true↔a<=x/\x<=b:=fun x a b=>by simp [Z45.md]
  have i2:∀x a b:Int,Z45.md x a b=false↔¬(a<=x/\x<=b):=fun x a b=>by rw [<-i1];simp
  have w2:∀i:Nat,i<l.length->0<i->toNat (i64.wrap ((i:Int) - 1))=i - 1:=fun i h1 h2=>wp i h2 (by omega)
  rw [Bool.eq_iff_iff,<-cV (z:=0),<-cV (z:=0)]
  have e3:∀a b c d:Bool,(cond true (cond a (cond b (cond c d false) false) false) false)=true↔a=true/\b=true/\c=true/\d=true:=by
   intro a b c d;cases a<;>cases b<;>cases c<;>simp
  have pos:∀i:Nat,0<i->decide ((i:Int)>0)=true:=fun i h=>by simpa using h
  have npos:∀i:Nat,¬0<i->decide ((i:Int)>0)=false:=fun i h=>by simpa using h
  rw [e3]
  rw [jh (fun i=>0<i->l.getD (i - 1) 0<l.getD i 0) (fun i hi h=>?_) (fun i hi h=>?_),jh (fun i=>(1<=l.getD i 0/\l.getD i 0<=99)/\(0<i->l.getD (i - 1) 0<l.getD i 0)) (fun i hi h=>?_) (fun i hi h=>?_)]
  ·simp only [i1,and_true,bh]
   constructor
   ·rintro ⟨h1,⟨h2,h3⟩,⟨h4,h5⟩,h6⟩
    refine ⟨fun i hi=>⟨⟨?_,?_⟩,h1 i hi⟩,h6⟩
    ·have:=BT h1 i 0 (by omega)
     rw [Nat.zero_add] at this;omega
    ·have:=BT h1 (l.length - 1 - i) i (by omega)
     rw [show i+(l.length - 1 - i)=l.length - 1 by omega] at this;omega
   ·rintro ⟨h1,h6⟩
    exact ⟨fun i hi=>(h1 i hi).2,(h1 0 (by omega)).1,(h1 (l.length - 1) (by omega)).1,h6⟩
  ·have e2:=(i1 (l.getD i 0) 1 99).2 h.1
   rw [e2]
   by_cases h0:0<i
   ·have:=h.2 h0
    rw [pos i h0,w2 i hi h0,decide_eq_false (by omega)];rfl
   ·rw [npos i h0];rfl
  ·by_cases h1:1<=l.getD i 0/\l.getD i 0<=99
   ·have e2:=(i1 (l.getD i 0) 1 99).2 h1
    have h0:0<i:=Classical.byContradiction fun hc=>h ⟨h1,fun h=>(hc h).elim⟩
    have h2:¬l.getD (i - 1) 0<l.getD i 0:=fun hc=>h ⟨h1,fun _=>hc⟩
    rw [e2,pos i h0,w2 i hi h0,decide_eq_true (by omega)];rfl
   ·rw [(i2 _ _ _).2 h1];rfl
  ·by_cases h0:0<i
   ·have:=h h0
    rw [pos i h0,w2 i hi h0,decide_eq_false (by omega)];rfl
   ·rw [npos i h0];rfl
  ·have h0:0<i:=Classical.byContradiction fun hc=>h fun h=>(hc h).elim
   have h2:¬l.getD (i - 1) 0<l.getD i 0:=fun hc=>h fun _=>hc
   rw [pos i h0,w2 i hi h0,decide_eq_true (by omega)];rfl
 ·have e1:Z45.md (a0.aX.length:Int) 1 4=false:=by simp [Z45.md];omega
  rw [e1]
  simp only [bu]
  symm
  exact lG (by
   intro i x s b h
   revert h
   simp only [Bool.cond_eq_ite]
   repeat' split
   all_goals (intro h;first | (cases h;rfl) | cases h)) _ _ _
end Z145
namespace Z146
def F (x0:bE):aJ:=(cond (x0.cE==0) (ret (((x0.aX.length:Int)==0):Bool)) bf)
def md (a0:aO):Bool:=(cond (a0.cE==0) (((a0.aX.length:Int)==0):Bool) (false:Bool))
def gd (a0:aO):Prop:=True
def R:=RR gd md
def an {a0}(h:gd a0):R (aO.r a0)=some (md a0):=aP (a:=a0) h
def aU:=CN [.agg iV] oB RT.dec R
def bA (a0)(hg:gd a0):F (aO.r a0)=ret (md a0):=by
 unfold F md
 try simp only [SS]
 refine av ret (fun c1=>?_) (fun _=>rfl)
 all_goals exact fz
def af:cD 293 aU:=W1 12 F mix aE bA .nil Tryz.func293
def br (a0:aO):md a0=Z50.md a0:=by
 unfold md Z50.md
 first
 | (simp only [id];done)
 | (simp only [id];rfl)
 | rfl
end Z146
namespace Z147
def F (x0:bE):aJ:=(call (Z146.R x0) fun v1=>(cond v1 eu (call (Z145.R x0) fun v2=>ret (v2:Bool))))
def md (a0:aO):Bool:=(cond (Z146.md a0) (true:Bool) ((Z145.md a0):Bool))
def gd (a0:aO):Prop:=(aO.Sm (2^21) a0)
def R:=RR gd md
def an {a0}(h:gd a0):R (aO.r a0)=some (md a0):=aP (a:=a0) h
def aU:=CN [.agg iV] oB RT.dec R
def bA (a0)(hg:gd a0):F (aO.r a0)=ret (md a0):=by
 unfold gd at hg
 have H0:=hg
 unfold F md
 try simp only [SS]
 refine ct (Z146.an trivial) ?_
 refine av ret (fun _=>rfl) (fun c1=>?_)
 refine ct (Z145.an H0) ?_
 all_goals exact fz
def af:cD 291 aU:=W1 9 F mix aE bA (.cons Z146.af (.cons Z145.af .nil)) Tryz.func291
end Z147
namespace Z148
def F (x0:Int)(x1:bE):aJ:=(call (Z146.R x1) fun v1=>(cond v1 (ret ((x0==0):Bool)) (call (Z135.R (x0,1,500)) fun v2=>ret (v2:Bool))))
def md (a0:Int)(a1:aO):Bool:=(cond (Z146.md a1) ((a0==0):Bool) ((Z135.md a0 1 500):Bool))
def gd (a0:Int)(a1:aO):Prop:=True
def R:=RR (p2 gd) (u2 md)
def an {a0 a1}(h:gd a0 a1):R (a0,(aO.r a1))=some (md a0 a1):=aP (a:=(a0,a1)) h
def aU:=CN [pI,.agg iV] oB RT.dec R
def bA (a0)(a1)(hg:gd a0 a1):F a0 (aO.r a1)=ret (md a0 a1):=by
 unfold F md
 try simp only [SS]
 refine ct (Z146.an trivial) ?_
 refine av ret (fun c1=>?_) (fun c1=>?_)
 ·all_goals exact fz
 ·refine ct (Z135.an trivial) ?_
  all_goals exact fz
def af:cD 292 aU:=W2 11 F mix aE bA (.cons Z146.af (.cons Z135.af .nil)) Tryz.func292
end Z148
namespace Z149
def F (x0:cg):aJ:=(call (Z141.R x0.bz) fun v1=>(cond v1 (call (Z141.R x0.cW) fun v2=>(cond v2 (call (Z141.R x0.dy) fun v3=>(cond v3 (call (Z135.R (x0.cI,0,200)) fun v4=>(cond v4 (call (Z135.R (x0.bQ,1,3)) fun v5=>(cond v5 (call (Z142.R x0) fun v6=>(cond v6 (call (Z135.R (x0.cu,0,12)) fun v7=>(cond v7 (call (Z145.R x0.bR) fun v8=>(cond v8 (call (Z147.R x0.bD) fun v9=>(cond v9 (call (Z147.R x0.bB) fun v10=>(cond v10 (call (Z148.R (x0.cY,x0.bD)) fun v11=>(cond v11 (cond x0.bF (call (Z146.R x0.bB) fun v12=>ret ((!v12):Bool)) eu) bf)) bf)) bf)) bf)) bf)) bf)) bf)) bf)) bf)) bf)) bf))
def md (a0:aF):Bool:=(cond (Z141.md a0.bz) (cond (Z141.md a0.cW) (cond (Z141.md a0.dy) (cond (Z135.md a0.cI 0 200) (cond (Z135.md a0.bQ 1 3) (cond (Z142.md a0) (cond (Z135.md a0.cu 0 12) (cond (Z145.md a0.bR) (cond (Z147.md a0.bD) (cond (Z147.md a0.bB) (cond (Z148.md a0.cY a0.bD) (cond a0.bF ((!(Z146.md a0.bB)):Bool) (true:Bool)) (false:Bool)) (false:Bool)) (false:Bool)) (false:Bool)) (false:Bool)) (false:Bool)) (false:Bool)) (false:Bool)) (false:Bool)) (false:Bool)) (false:Bool))
def gd (a0:aF):Prop:=(aF.Sm (2^21) a0)
def R:=RR gd md
def an {a0}(h:gd a0):R (aF.r a0)=some (md a0):=aP (a:=a0) h
def aU:=CN [.agg fX] oB RT.dec R
def bA (a0)(hg:gd a0):F (aF.r a0)=ret (md a0):=by
 unfold gd at hg
 have H0:=hg
 unfold F md
 try simp only [SS]
 refine ct (Z141.an trivial) ?_
 refine av ret (fun c1=>?_) (fun _=>rfl)
 refine ct (Z141.an trivial) ?_
 refine av ret (fun c2=>?_) (fun _=>rfl)
 refine ct (Z141.an trivial) ?_
 refine av ret (fun c3=>?_) (fun _=>rfl)
 refine ct (Z135.an trivial) ?_
 refine av ret (fun c4=>?_) (fun _=>rfl)
 refine ct (Z135.an trivial) ?_
 refine av ret (fun c5=>?_) (fun _=>rfl)
 refine ct (Z142.an trivial) ?_
 refine av ret (fun c6=>?_) (fun _=>rfl)
 refine ct (Z135.an trivial) ?_
 refine av ret (fun c7=>?_) (fun _=>rfl)
 refine ct (Z145.an H0.1) ?_
 refine av ret (fun c8=>?_) (fun _=>rfl)
 refine ct (Z147.an H0.2.1) ?_
 refine av ret (fun c9=>?_) (fun _=>rfl)
 refine ct (Z147.an H0.2.2) ?_
 refine av ret (fun c10=>?_) (fun _=>rfl)
 refine ct (Z148.an trivial) ?_
 refine av ret (fun c11=>?_) (fun _=>rfl)
 refine av ret (fun c12=>?_) (fun _=>rfl)
 refine ct (Z146.an trivial) ?_
 all_goals exact fz
def af:cD 269 aU:=W1 67 F mix aE bA (.cons Z141.af (.cons Z135.af (.cons Z142.af (.cons Z145.af (.cons Z147.af (.cons Z148.af (.cons Z146.af .nil))))))) Tryz.func269
def br (a0:aF):md a0=Z51.md a0:=by
 unfold md Z51.md
 simp only [Z145.br,Z135.br,Z141.md,Z147.md,Z148.md,Z146.br]
 have hs:Z142.md a0=(Z45.md a0.cF 0 100000&&(Z45.md a0.cC a0.cF 100000&&!decide ((i64.wrap (a0.cC - a0.cF))>200))):=by
  rw [Bool.eq_iff_iff]
  simp [Z142.md,Z45.md]
  omega
 have hk:Z49.md a0.bB=true->Z50.md a0.bB=false:=fun h=>by
  have:=Z49.tr h
  have e:((a0.bB.aX.length:Int)==0)=false:=beq_eq_false_iff_ne.2 (by omega)
  unfold Z50.md
  rw [e]
  cases a0.bB.cE==0<;>rfl
 rw [hs]
 revert hk
 simp only [Bn,Ad,Bool.and_assoc]
 generalize Z45.md a0.bz 0 2147483646=b1
 generalize Z45.md a0.cW 0 2147483646=b2
 generalize Z45.md a0.dy 0 2147483646=b3
 generalize Z45.md a0.cI 0 200=b4
 generalize Z45.md a0.bQ 1 3=b5
 generalize Z45.md a0.cF 0 100000=b6
 generalize Z45.md a0.cC a0.cF 100000=b7
 generalize decide ((i64.wrap (a0.cC - a0.cF))>200)=b8
 generalize Z45.md a0.cu 0 12=b9
 generalize Z49.md a0.bR=b10
 generalize Z49.md a0.bD=kh
 generalize Z50.md a0.bD=nh
 generalize Z49.md a0.bB=kj
 generalize Z50.md a0.bB=nj
 generalize Z45.md a0.cY 1 500=lw
 have hw:(a0.cY != 0)=!(a0.cY==0):=rfl
 rw [hw]
 generalize (a0.cY==0)=w0
 generalize a0.bF=fz
 intro hk
 cases b1;· rfl
 cases b2;· rfl
 cases b3;· rfl
 cases b4;· rfl
 cases b5;· rfl
 cases b6;· rfl
 cases b7;· rfl
 cases b8;rotate_left;· rfl
 cases b9;· rfl
 cases b10;· rfl
 revert hk
 revert kh nh kj nj lw w0 fz
 decide
end Z149
namespace Z150
def F (x0:bE):aJ:=(cj (eS (((2:Int)+(x0.aX.length:Int))*8)) (ret (([[L.int x0.cE],[L.int (x0.aX.length:Int)]]++x0.aX):aB)))
def md (a0:aO):List Int:=([a0.cE,(a0.aX.length:Int)]++a0.aX)
def gd (a0:aO):Prop:=(aO.Sm (2^21) a0)
def R:=RR gd md
def an {a0}(h:gd a0):R (aO.r a0)=some ((md a0).map bq):=aP (a:=a0) h
def aU:=CN [.agg iV] (oL 3) RT.dec R
def bA (a0)(hg:gd a0):F (aO.r a0)=ret ((md a0).map bq):=by
 unfold gd at hg
 have H0:=hg
 unfold F md
 try simp only [SS]
 refine ak (have:=(H0).1;lm) ?_
 all_goals exact fz
def af:cD 294 aU:=W1 12 F mix aE bA .nil Tryz.func294
def len (a0:aO):(md a0).length=2+a0.aX.length:=by simp [md];omega
def br (a0:aO):md a0=Z52.md a0:=by
 unfold md Z52.md
 first
 | (simp only [id];done)
 | (simp only [id];rfl)
 | rfl
end Z150
namespace Z151
def F (x0 x1:Int):aJ:=(call (Z135.R (x1,1,1000000000000)) fun v1=>(cond (!v1) (ret (0:Int)) (cond (decide (x1=0)) none (cond (decide (x1=0)) none (ret ((Int.tmod (i64.wrap ((Int.tmod x0 x1)+x1)) x1):Int))))))
def md (a0 a1:Int):Int:=(cond (!(Z135.md a1 1 1000000000000)) (0:Int) ((Int.tmod (i64.wrap ((Int.tmod a0 a1)+a1)) a1):Int))
def gd (a0 a1:Int):Prop:=True
def R:=RR (p2 gd) (u2 md)
def an {a0 a1}(h:gd a0 a1):R (a0,a1)=some (md a0 a1):=aP (a:=(a0,a1)) h
def aU:=CN [pI,pI] oI RT.dec R
def bA (a0)(a1)(hg:gd a0 a1):F a0 a1=ret (md a0 a1):=by
 unfold F md
 try simp only [SS]
 refine ct (Z135.an trivial) ?_
 refine av ret (fun _=>rfl) (fun c1=>?_)
 have dc1:=c1
 try simp only [DC] at dc1
 have Dc1:=c1
 try simp [Z135.md] at Dc1
 refine cH df ?_
 refine cH df ?_
 all_goals exact fz
def af:cD 303 aU:=W2 15 F mix aE bA (.cons Z135.af .nil) Tryz.func303
def br (a0 a1:Int):md a0 a1=Z53.md a0 a1:=by
 unfold md Z53.md
 first
 | (simp only [Z135.br];done)
 | (simp only [Z135.br];rfl)
 | rfl
end Z151
namespace Z152
inductive Pt where
 | p0 (a:Int) (b:aB) (c d:Int)
def pid:Pt->Nat
 | .p0 ..=>3
def bY:Pt->List V
 | .p0 a b c d=>[.int .i64 a,.sl none 3 b,.int .i64 c,.int .i64 d]
def bX:Pt->List aV
 | .p0 a b c d=>[]
def step (J:Pt->aJ):Pt->aJ
 | .p0 a b c d=>(cond (decide (d<c)) (m2 d (b.length:Int) (call (Z151.R ((jt b (toNat d)),2147483647)) fun v1=>J (.p0 (Int.tmod (i64.wrap ((i64.wrap ((i64.wrap (a*1000003))+v1))+13)) 2147483647) b c (i64.wrap (d+1))))) (ret (a:Int)))
def start (J:Pt->aJ)(x0:aB):aJ:=J (.p0 11 x0 (x0.length:Int) 0)
def live:Nat->Live:=fun i=>match i with | 3=>[(3,none),(6,none),(7,none),(8,none)] | _=>[]
def md (a0:List Int):Int:=(dQ (S:=Int) (β:=Int) (fun (y1:Int) (s3:Int)=>(.inl (Int.tmod (i64.wrap ((i64.wrap ((i64.wrap (s3*1000003))+(Z151.md y1 2147483647)))+13)) 2147483647))) (fun (s3:Int)=>(s3:Int)) a0 11)
def gd (a0:List Int):Prop:=(bM (2^43) (fun y:Int=>True) a0)
def R:=RR gd md
def an {a0}(h:gd a0):R (a0.map bq)=some (md a0):=aP (a:=a0) h
def aU:=CN [pL 3] oI RT.dec R
def bA (a0)(hg:gd a0):∃n,start (iter step n) (a0.map bq)=ret (md a0):=by
 unfold gd at hg
 have H0:=hg
 unfold start md
 try simp only [SS]
 have Bh2:a0.length<=maxLen:=(by
   have:=(H0).1
   try simp only [maxLen] at *
   omega)
 refine ex_eq (out:=ret) (ep (z:=0)) ?_
 refine dM (p:=Pt.p0 11 (a0.map bq) (a0.length:Int) 0) fz ?_
 refine ck (pt:=fun (i1:Nat) (s3:Int)=>Pt.p0 s3 (a0.map bq) (a0.length:Int) (i1:Int)) (s:=(11:Int)) (out:=ret) (fun _ _=>True) (fun J i1 s3 h2 hih2=>?_) (fun s3 hih2=>?_) trivial
 ·simp only [step,SS]
  have bb_:=Bh2
  simp only [maxLen] at bb_
  have:=(H0).1
  refine bC.yes (by apply decide_eq_true;omega) ?_
  refine bC.yes aI ?_
  refine bC.yes (aK h2) ?_
  refine cr (Z151.an trivial) ?_
  refine bC.inl trivial ?_
  rw [aH h2 Bh2]
  all_goals exact fz
 ·simp only [step,SS]
  have:=(H0).1
  refine dx (by apply decide_eq_false;omega) ?_
  refine ⟨0,?_⟩
  all_goals exact fz
def af:cD 279 aU:=L1 21 pid bY bX live step start mix aE bA (.cons Z151.af .nil) Tryz.func279
def br (a0:List Int):md a0=Z54.md a0:=by
 unfold md Z54.md
 first
 | (simp only [Z151.br];done)
 | (simp only [Z151.br];rfl)
 | rfl
end Z152
namespace Z153
def F (x0:bE)(x1:Int):aJ:=(call (Z150.R x0) fun v1=>(cj (eS (((2:Int)+(v1.length:Int))*8)) (call (Z152.R ([[L.int 239],[L.int x1]]++v1)) fun v2=>ret (v2:Int))))
def md (a0:aO)(a1:Int):Int:=((Z152.md ([239,a1]++(Z150.md a0))):Int)
def gd (a0:aO)(a1:Int):Prop:=(aO.Sm (2^21) a0)
def R:=RR (p2 gd) (u2 md)
def an {a0 a1}(h:gd a0 a1):R ((aO.r a0),a1)=some (md a0 a1):=aP (a:=(a0,a1)) h
def aU:=CN [.agg iV,pI] oI RT.dec R
def bA (a0)(a1)(hg:gd a0 a1):F (aO.r a0) a1=ret (md a0 a1):=by
 unfold gd at hg
 have H0:=hg
 unfold F md
 try simp only [SS]
 refine ct (Z150.an H0) ?_
 try simp only [SS]
 refine ak (have:=Z150.len a0;have:=(H0).1;lm) ?_
 refine aZ (Z152.md ([239,a1]++(Z150.md a0))) (rq (Z152.an (a0:=([239,a1]++(Z150.md a0))) ⟨(have:=Z150.len a0;have:=(H0).1;om),fun _ _=>trivial⟩)) ?_
 all_goals exact fz
def af:cD 270 aU:=W2 11 F mix aE bA (.cons Z150.af (.cons Z152.af .nil)) Tryz.func270
def br (a0:aO)(a1:Int):md a0 a1=Z55.md a0 a1:=by
 unfold md Z55.md
 first
 | (simp only [Z150.br,Z152.br];done)
 | (simp only [Z150.br,Z152.br];rfl)
 | rfl
end Z153
namespace Z154
def F (x0:Bool):aJ:=(cond x0 (ret (1:Int)) (ret (0:Int)))
def md (a0:Bool):Int:=(cond a0 (1:Int) (0:Int))
def gd (a0:Bool):Prop:=True
def R:=RR gd md
def an {a0}(h:gd a0):R a0=some (md a0):=aP (a:=a0) h
def aU:=CN [pB] oI RT.dec R
def bA (a0)(hg:gd a0):F a0=ret (md a0):=by
 unfold F md
 try simp only [SS]
 refine av ret (fun _=>rfl) (fun _=>rfl)
def af:cD 301 aU:=W1 4 F mix aE bA .nil Tryz.func301
end Z154
namespace Z155
set_option maxHeartbeats 1000000 in
set_option maxRecDepth 100000 in
open Go.RowKit in
def Ay (b:Option Addr)(w:World):Calls Tryz.prog 312 #[.slice b 0 0,.int .i64 0] w fun e w'=>e=.returned (.slice b 0 0)/\w'=w:=by
 go_enter Tryz.func312,Tryz.ntmps312
 go_wp2
 go_ret
 exact ⟨rfl,rfl⟩
def Bj:Tryz.t3.size=1:=by kernel_rfl
def yh:Tryz.t3.bytes=8:=by kernel_rfl
set_option maxHeartbeats 1000000 in
set_option maxRecDepth 100000 in
open Go.RowKit in
def AO (b:Option Addr)(n:Nat)(w:World)(h0:0<n)(h1:n*8<=140737488355328):Calls Tryz.prog 312 #[.slice b 0 0,.int .i64 n] w fun e w'=>e=.returned (.slice (some ⟨w.heap.size,0,none⟩) 0 (grownCap w n 0 3))/\w'=(w.drew.alloc (.cells (Builtin.zeroCells #[.int .i64 0] n++Builtin.zeroCells #[.int .i64 0] (grownCap w n 0 3 - n)) 3)):=by
 have hp:(0:Int)<n:=by omega
 have hnn:¬((n:Int)<0):=by omega
 have hold:(Builtin.firstCells Tryz.t3.size 0 (.slice b 0 0)).run Tryz.prog w.drew=.ok ([]:List Value).toArray w.drew:=by
  cases b with
  | none=>exact run_firstCells_none _ _ _ _ _
  | some b=>exact run_firstCells_some _ _ _ _ _ _ [] (by simp) (fun j v hj=>by simp at hj)
 have H:=fun ty=>Lib.run_append_grow_zeros (P:=Tryz.prog) w 58 3 ty 3 Tryz.t3 (.int .i64 0) .i64 .i64 (by kernel_rfl) (by kernel_rfl) (by kernel_rfl) (by kernel_rfl) b 0 0 [] hold n h0 (by rw [Bj];omega) (by omega) (by omega) (by rw [yh];omega) (by
  rw [Nat.zero_add,nextslicecap_zero h0,yh];omega)
 simp only [Nat.zero_add,Array.empty_append] at H
 have H2:=Lib.hid H
 clear H hold
 go_enter Tryz.func312,Tryz.ntmps312
 go_wp2_with (at_builtin;refine Lib.wpList_append_run _ rfl _ _ _ _ rfl _ _ rfl rfl _ _ (H2.out _) ?_)
 go_ret
 exact ⟨rfl,rfl⟩
def R (x0:Int):Option (aB):=bif decide (0<=x0)&&decide (x0*8<=140737488355328) then some [] else none
def an {a0:Int}(h:0<=a0/\a0*8<=140737488355328):R a0=some []:=by simp [R,h.1,h.2]
def sem:List L->Option (List L)
 | [y0]=>(R y0.toInt).map RT.enc
 | _=>none
def aU:fR:=⟨[.nil,.rd (.int .i64)],.one (.fr 3),sem⟩
def Am:Ev.cells 3=[aC]:=by kernel_rfl
def af:cD 312 aU:=by
 refine xe ⟨Tryz.f312,Tryz.func312,by kernel_rfl,by kernel_rfl⟩ rfl fun ls r w vs Z hs hf=>?_
 simp only [aU] at hs
 unfold sem at hs
 split at hs
 ·rename_i y
  obtain ⟨v,hv,hq⟩:=map_some hs
  unfold R at hv
  cases hc:(decide (0<=y.toInt)&&decide (y.toInt*8<=140737488355328))<;>simp only [hc,bh,bu] at hv
  ·cases hv
  injection hv with hv
  subst hv
  subst hq
  simp only [Bool.and_eq_true,decide_eq_true_eq] at hc
  cases hf with
  | cons h1 ht=>
   cases ht with
   | cons h2 ht=>
    cases ht
    obtain ⟨b,rfl⟩:=(show V0 Ev.cells w (A0 Z w) .nil _ from h1)
    have e2:_=Value.int .i64 y.toInt:=h2
    subst e2
    obtain ⟨n,hn⟩:∃n:Nat,y.toInt=n:=⟨y.toInt.toNat,by omega⟩
    rw [hn] at hc ⊢
    rcases Nat.eq_zero_or_pos n with h0 | h0
    ·subst h0
     exact (Ay b w).mono fun e w' ⟨h3,h4⟩=>⟨_,fun _=>False,h3,by rw [h4];exact Fr.refl _ _,fun b hb=>hb.elim,.nil _ _ _ _ rfl⟩
    ·refine (AO b n w h0 (by omega)).mono fun e w' ⟨h3,h4⟩=>⟨_,fun b=>b=w.heap.size,h3,?_,fun b hb=>?_,?_⟩
     ·rw [h4];exact ((Fr.refl w _).drew).alloc _
     ·subst hb;rw [h4];simp
     ·have hge:=grownCap_ge w n 0 3
      have hle:grownCap w n 0 3<=maxLen:=grownCap_le_maxLen w n 0 3 (by simp only [maxLen];omega)
      rw [h4]
      refine .sl _ 3 0 _ w.heap.size 3 _ _ (fun _ _=>Go.undef) (fun _ _ _=>False) rfl (zero_le _) hle (heap_alloc_new w.drew _) ?_ rfl (fun _ _ _ h=>h.elim) (fun _ _ _ _ _ h=>h.elim) (fun i j k hi=>by omega) (fun i j k hi=>by omega)
      rw [Am]
      simp only [Array.size_append,size_zeroCells,List.length_singleton]
      simp
      omega
 ·cases hs
end Z155
namespace Z156
inductive Pt where
 | p0 (a:aB) (b:Int) (c:aB) (d e:Int)
 | p1 (a:aB) (b c:Int) (d:aB)
def pid:Pt->Nat
 | .p0 ..=>3
 | .p1 ..=>11
def bY:Pt->List V
 | .p0 a b c d e=>[.sl none 58 a,.int .i64 b,.sl none 58 c,.int .i64 d,.int .i64 e]
 | .p1 a b c d=>[.own 0,.sl none 58 a,.int .i64 b,.int .i64 c]
def bX:Pt->List aV
 | .p0 a b c d e=>[]
 | .p1 a b c d=>[.row 3 d]
def step (J:Pt->aJ):Pt->aJ
 | .p0 a b c d e=>(cond (decide (e<d)) (m2 e (c.length:Int) (cond (decide ((i64.wrap (b+((oq c (toNat e)).length:Int)))<0)) none (J (.p0 a (i64.wrap (b+((oq c (toNat e)).length:Int))) c d (i64.wrap (e+1)))))) (call (Z155.R b) fun v1=>J (.p1 a (a.length:Int) 0 v1)))
 | .p1 a b c d=>(cond (decide (c<b)) (m2 c (a.length:Int) (cj (eS (((d.length:Int)+((oq a (toNat c)).length:Int))*8)) (J (.p1 a b (i64.wrap (c+1)) (d++(oq a (toNat c))))))) (ret (d:aB)))
def start (J:Pt->aJ)(x0:aB):aJ:=J (.p0 x0 0 x0 (x0.length:Int) 0)
def live:Nat->Live:=fun i=>match i with | 3=>[(0,none),(3,none),(9,none),(10,none),(11,none)] | 11=>[(6,none),(25,none),(26,none),(27,none)] | _=>[]
def md (a0:List (List Int)):List Int:=a0.flatten
def gd (a0:List (List Int)):Prop:=a0.length<=8/\∀x∈a0,x.length<=2^40
def R:=RR gd md
def an {a0}(h:gd a0):R (a0.map (dI bq))=some ((md a0).map bq):=aP (a:=a0) h
def aU:=CN [pL 58] (oL 3) RT.dec R
def bA (a0)(hg:gd a0):∃n,start (iter step n) (a0.map (dI bq))=ret ((md a0).map bq):=by
 obtain ⟨hl,hx⟩:=hg
 have hs:∀i,i<=a0.length->((a0.take i).map List.length).sum<=i*2^40:=by
  intro i
  induction i with
  | zero=>intro _;simp
  | succ i ih=>
   intro hi
   rw [List.take_succ_eq_append_getElem (by omega)]
   have h1:=hx a0[i] (List.getElem_mem _)
   have h2:=ih (by omega)
   simp only [List.map_append,List.map_cons,List.map_nil,List.sum_append,List.sum_cons,List.sum_nil]
   omega
 have hstep:∀i (h:i<a0.length),((a0.take (i+1)).map List.length).sum=((a0.take i).map List.length).sum+a0[i].length:=by
  intro i hi
  rw [List.take_succ_eq_append_getElem (by omega)]
  simp only [List.map_append,List.map_cons,List.map_nil,List.sum_append,List.sum_cons,List.sum_nil]
  omega
 have hf:∀i,(a0.take i).flatten.length=((a0.take i).map List.length).sum:=fun i=>List.length_flatten
 have second:∀k i,i+k=a0.length->∃n,iter step n (Pt.p1 (a0.map (dI bq)) (a0.length:Int) (i:Int) ((a0.take i).flatten.map bq))=ret (a0.flatten.map bq:aB):=by
  intro k
  induction k with
  | zero=>
   intro i hi
   obtain rfl:i=a0.length:=by omega
   refine ⟨1,?_⟩
   show step (iter step 0) (Pt.p1 _ _ _ _)=_
   simp only [step]
   refine cH (by simp) ?_
   rw [List.take_length]
  | succ k ih=>
   intro i hi
   obtain ⟨n,hn⟩:=ih (i+1) (by omega)
   refine ⟨n+1,?_⟩
   show step (iter step n) (Pt.p1 _ _ _ _)=_
   have hlt:i<a0.length:=by omega
   have b1:=hs (i+1) (by omega)
   have b2:=hstep i hlt
   simp only [step,List.length_map,cz,qe]
   refine ak (by simp;omega) (ak (by simp) (ak (by simp;omega) (ak (iF ?_) ?_)))
   ·rw [eJ hlt,hf];omega
   ·rw [aH hlt (by simp only [maxLen];omega),eJ hlt,<-List.map_append]
    have e:(a0.take i).flatten++a0[i]=(a0.take (i+1)).flatten:=by
     rw [List.take_succ_eq_append_getElem (by omega)]
     simp only [List.flatten_append,List.flatten_cons,List.flatten_nil,List.append_nil]
    rw [e];exact hn
 have first:∀k i,i+k=a0.length->∃n,iter step n (Pt.p0 (a0.map (dI bq)) ((((a0.take i).map List.length).sum:Nat):Int) (a0.map (dI bq)) (a0.length:Int) (i:Int))=ret (a0.flatten.map bq:aB):=by
  intro k
  induction k with
  | zero=>
   intro i hi
   obtain rfl:i=a0.length:=by omega
   obtain ⟨n,hn⟩:=second a0.length 0 (by omega)
   refine ⟨n+1,?_⟩
   show step (iter step n) (Pt.p0 _ _ _ _ _)=_
   have b1:=hs a0.length (by omega)
   simp only [step]
   refine cH (by simp) (aZ [] (Z155.an ⟨by omega,by omega⟩) ?_)
   simpa using hn
  | succ k ih=>
   intro i hi
   obtain ⟨n,hn⟩:=ih (i+1) (by omega)
   refine ⟨n+1,?_⟩
   show step (iter step n) (Pt.p0 _ _ _ _ _)=_
   have hlt:i<a0.length:=by omega
   have b1:=hs (i+1) (by omega)
   have b2:=hstep i hlt
   simp only [step,List.length_map,cz,qe,eJ hlt]
   have e:i64.wrap (((((a0.take i).map List.length).sum:Nat):Int)+(a0[i].length:Int))=((((a0.take (i+1)).map List.length).sum:Nat):Int):=by
    rw [Go.IntWalk.i64_in _ (by omega)];omega
   rw [e]
   refine ak (by simp;omega) (ak (by simp) (ak (by simp;omega) (cH (by simp) ?_)))
   rw [aH hlt (by simp only [maxLen];omega)]
   exact hn
 unfold md
 obtain ⟨n,hn⟩:=first a0.length 0 (by omega)
 refine ⟨n,?_⟩
 unfold start
 simpa using hn
def af:cD 300 aU:=L1 36 pid bY bX live step start mix aE bA (.cons Z155.af .nil) Tryz.func300
def len (a0:List (List Int)):(md a0).length=(a0.map List.length).sum:=by simp [md]
end Z156
namespace Z157
def F (x0:cg):aJ:=(call (Z150.R x0.bR) fun v1=>(call (Z150.R x0.bD) fun v2=>(call (Z150.R x0.bB) fun v3=>(call (Z154.R x0.bF) fun v4=>(call (Z156.R [[L.sl [[L.int x0.bz],[L.int x0.cI],[L.int x0.bQ],[L.int x0.cF],[L.int x0.cC],[L.int x0.cu],[L.int x0.cW],[L.int x0.dy]]],[L.sl v1],[L.sl v2],[L.sl [[L.int x0.cY]]],[L.sl v3],[L.sl [[L.int v4]]]]) fun v5=>ret (v5:aB))))))
def md (a0:aF):List Int:=(Z156.md [[a0.bz,a0.cI,a0.bQ,a0.cF,a0.cC,a0.cu,a0.cW,a0.dy],(Z150.md a0.bR),(Z150.md a0.bD),[a0.cY],(Z150.md a0.bB),[(Z154.md a0.bF)]])
def gd (a0:aF):Prop:=(aF.Sm (2^21) a0)
def R:=RR gd md
def an {a0}(h:gd a0):R (aF.r a0)=some ((md a0).map bq):=aP (a:=a0) h
def aU:=CN [.agg fX] (oL 3) RT.dec R
def bA (a0)(hg:gd a0):F (aF.r a0)=ret ((md a0).map bq):=by
 unfold gd at hg
 have H0:=hg
 unfold F md
 try simp only [SS]
 refine ct (Z150.an H0.1) ?_
 try simp only [SS]
 refine ct (Z150.an H0.2.1) ?_
 try simp only [SS]
 refine ct (Z150.an H0.2.2) ?_
 try simp only [SS]
 refine ct (Z154.an trivial) ?_
 refine aZ ((Z156.md [[a0.bz,a0.cI,a0.bQ,a0.cF,a0.cC,a0.cu,a0.cW,a0.dy],(Z150.md a0.bR),(Z150.md a0.bD),[a0.cY],(Z150.md a0.bB),[(Z154.md a0.bF)]]).map bq) (rq (Z156.an (a0:=[[a0.bz,a0.cI,a0.bQ,a0.cF,a0.cC,a0.cu,a0.cW,a0.dy],(Z150.md a0.bR),(Z150.md a0.bD),[a0.cY],(Z150.md a0.bB),[(Z154.md a0.bF)]]) ⟨(by simp),(by
   have:=Z150.len a0.bR
   have:=(H0.1).1
   have:=Z150.len a0.bD
   have:=(H0.2.1).1
   have:=Z150.len a0.bB
   have:=(H0.2.2).1
   intro x_ hx_
   simp only [List.mem_cons,List.not_mem_nil,or_false] at hx_
   rcases hx_ with hx_ | hx_ | hx_ | hx_ | hx_ | hx_
   all_goals (subst hx_;first | omega | (simp only [LN];omega)))⟩)) ?_
 try simp only [SS]
 all_goals exact fz
def af:cD 275 aU:=W1 38 F mix aE bA (.cons Z150.af (.cons Z154.af (.cons Z156.af .nil))) Tryz.func275
def len (a0:aF):(md a0).length=16+a0.bR.aX.length+a0.bD.aX.length+a0.bB.aX.length:=by unfold md;simp [Z156.md,Z150.len];omega
def br (a0:aF):md a0=Z56.md a0:=by
 rw [Z56.tB]
 unfold md Z156.md
 simp only [Z150.br,Z154.md,List.flatten_cons,List.flatten_nil,List.cons_append,List.nil_append,List.append_nil]
end Z157
namespace Z158
def F (x0:Int)(x1:aB):aJ:=(call (Z156.R [[L.sl [[L.int x0]]],[L.sl x1],[L.sl [[L.int x0]]]]) fun v1=>(call (Z152.R v1) fun v2=>ret (v2:Int)))
def md (a0:Int)(a1:List Int):Int:=((Z152.md (Z156.md [[a0],a1,[a0]])):Int)
def gd (a0:Int)(a1:List Int):Prop:=(bM (2^40) (fun y:Int=>True) a1)
def R:=RR (p2 gd) (u2 md)
def an {a0 a1}(h:gd a0 a1):R (a0,(a1.map bq))=some (md a0 a1):=aP (a:=(a0,a1)) h
def aU:=CN [pI,pL 3] oI RT.dec R
def bA (a0)(a1)(hg:gd a0 a1):F a0 (a1.map bq)=ret (md a0 a1):=by
 unfold gd at hg
 have H1:=hg
 unfold F md
 try simp only [SS]
 refine aZ ((Z156.md [[a0],a1,[a0]]).map bq) (rq (Z156.an (a0:=[[a0],a1,[a0]]) ⟨(by simp),(by
   have:=(H1).1
   intro x_ hx_
   simp only [List.mem_cons,List.not_mem_nil,or_false] at hx_
   rcases hx_ with hx_ | hx_ | hx_
   all_goals (subst hx_;first | omega | (simp only [LN];omega)))⟩)) ?_
 try simp only [SS]
 refine ct (Z152.an ⟨(by
   have:=Z156.len [[a0],a1,[a0]]
   try simp only [LN] at this
   have:=(H1).1
   exact om),fun _ _=>trivial⟩) ?_
 all_goals exact fz
def af:cD 321 aU:=W2 13 F mix aE bA (.cons Z156.af (.cons Z152.af .nil)) Tryz.func321
def br (a0:Int)(a1:List Int):md a0 a1=Z57.md a0 a1:=by
 unfold md Z57.md
 first
 | (simp only [Z152.br];done)
 | (simp only [Z152.br];rfl)
 | rfl
end Z158
namespace Z159
def F (x0:Int)(x1:aB):aJ:=(cj (eS (((1:Int)+(x1.length:Int))*8)) (call (Z158.R (x0,([[L.int 223]]++x1))) fun v1=>ret (v1:Int)))
def md (a0:Int)(a1:List Int):Int:=((Z158.md a0 ([223]++a1)):Int)
def gd (a0:Int)(a1:List Int):Prop:=(bM (2^39) (fun y:Int=>True) a1)
def R:=RR (p2 gd) (u2 md)
def an {a0 a1}(h:gd a0 a1):R (a0,(a1.map bq))=some (md a0 a1):=aP (a:=(a0,a1)) h
def aU:=CN [pI,pL 3] oI RT.dec R
def bA (a0)(a1)(hg:gd a0 a1):F a0 (a1.map bq)=ret (md a0 a1):=by
 unfold gd at hg
 have H1:=hg
 unfold F md
 try simp only [SS]
 refine ak (have:=(H1).1;lm) ?_
 refine aZ (Z158.md a0 ([223]++a1)) (rq (Z158.an (a0:=a0) (a1:=([223]++a1)) ⟨(have:=(H1).1;om),fun _ _=>trivial⟩)) ?_
 all_goals exact fz
def af:cD 320 aU:=W2 10 F mix aE bA (.cons Z158.af .nil) Tryz.func320
def br (a0:Int)(a1:List Int):md a0 a1=Z58.md a0 a1:=by
 unfold md Z58.md
 first
 | (simp only [Z158.br];done)
 | (simp only [Z158.br];rfl)
 | rfl
end Z159
namespace Z160
def F (x0:bt)(x1:aB):aJ:=(call (Z144.R x0.gM) fun v1=>(cond v1 (call (Z159.R (x0.gM,x1)) fun v2=>ret ((x0.ju==v2):Bool)) bf))
def md (a0:bt)(a1:List Int):Bool:=(cond (Z144.md a0.gM) ((a0.ju==(Z159.md a0.gM a1)):Bool) (false:Bool))
def gd (a0:bt)(a1:List Int):Prop:=(bM (2^38) (fun y:Int=>True) a1)
def R:=RR (p2 gd) (u2 md)
def an {a0 a1}(h:gd a0 a1):R (a0,(a1.map bq))=some (md a0 a1):=aP (a:=(a0,a1)) h
def aU:=CN [.agg yC,pL 3] oB RT.dec R
def bA (a0)(a1)(hg:gd a0 a1):F a0 (a1.map bq)=ret (md a0 a1):=by
 unfold gd at hg
 have H1:=hg
 unfold F md
 try simp only [SS]
 refine ct (Z144.an trivial) ?_
 refine av ret (fun c1=>?_) (fun _=>rfl)
 refine ct (Z159.an (H1.mono (by decide) (fun x hx=>trivial))) ?_
 all_goals exact fz
def af:cD 318 aU:=W2 17 F mix aE bA (.cons Z144.af (.cons Z159.af .nil)) Tryz.func318
def br (a0:bt)(a1:List Int):md a0 a1=Z59.md a0 a1:=by
 unfold md Z59.md
 first
 | (simp only [Z159.br];done)
 | (simp only [Z159.br];rfl)
 | rfl
end Z160
namespace Z161
def F (x0:bt)(x1 x2:List L):aJ:=(cond (x0.gM==(gm x1)) (call (Z160.R (x0,(me x2))) fun v1=>ret (v1:Bool)) bf)
def pats:List ga:=[.agg [aC,aC],.ptr [aC],.ptr [.sl 3]]
def res:RP:=.one (.rd (.bool))
def md (a0:bt)(a1:Int)(a2:List Int):Bool:=(cond (a0.gM==a1) ((Z160.md a0 a2):Bool) (false:Bool))
def gd (a0:bt)(a1:Int)(a2:List Int):Prop:=(bM (2^38) (fun y:Int=>True) a2)
def acc (ls:List L):bt×Int×aB:=((bt.dec ls),(gm (cP 1 (aA 2 ls))),(me (cP 1 (aA 3 ls))))
def R:(bt×Int×aB)->Option Bool:=RR (p3 gd) (u3 md)
def an {a0 a1 a2}(h:gd a0 a1 a2):R (a0,a1,(a2.map bq))=some (md a0 a1 a2):=aP (a:=(a0,a1,a2)) h
def aU:fR:=CN pats res acc R
def bA (a0:bt)(a1:Int)(a2:List Int)(p1 p2:List L)(e1:a1=(gm p1))(e2:(a2.map bq)=(me p2))(hg:gd a0 a1 a2):F a0 p1 p2=ret ((md a0 a1 a2):Bool):=by
 unfold gd at hg
 have H2:=hg
 unfold F md
 try simp only [SS,<-e1,<-e2]
 refine av ret (fun c1=>?_) (fun _=>rfl)
 refine ct (Z160.an H2) ?_
 all_goals exact fz
def ox (ls:List L)(a:bt×Int×List Int)(e:acc ls=Im.im a)(hg:(p3 gd) a):∃n:Nat,F (bt.dec ls) (cP 1 (aA 2 ls)) (cP 1 (aA 3 ls))=ret (Im.im ((u3 md) a)):=by
 have e0:a.1=(bt.dec ls):=(congrArg (fun x=>x.1) e.symm)
 have hn:=bA a.1 a.2.1 a.2.2 (cP 1 (aA 2 ls)) (cP 1 (aA 3 ls)) (congrArg (fun x=>x.2.1) e.symm) (congrArg (fun x=>x.2.2) e.symm) hg
 refine ⟨0,?_⟩
 rw [<-e0]
 exact hn
def af:cD 317 aU:=VP (live:=fun _=>[]) (nt:=14) (accr:=fun ls=>((bt.dec ls),(cP 1 (aA 2 ls)),(cP 1 (aA 3 ls)))) (run:=fun _ x=>F x.1 x.2.1 x.2.2) mix aE (.cons Z160.af .nil) Tryz.func317 (by kernel_rfl) (fun _ _=>by kernel_rfl) (fun ls a _ e hg=>ox ls a e hg)
end Z161
namespace Z162
inductive Pt where
 | p0 (a:aB) (b c:List L) (d e:Int)
def pid:Pt->Nat
 | .p0 ..=>2
def bY:Pt->List V
 | .p0 a b c d e=>[.sl none 190 a,.fn 317 [.dH none [aC] b 0,.dH none [.sl 3] c 0],.int .i64 d,.int .i64 e]
def bX:Pt->List aV
 | .p0 a b c d e=>[]
def step (J:Pt->aJ):Pt->aJ
 | .p0 a b c d e=>(cond (decide (e<d)) (m2 e (a.length:Int) (call (Z161.R ((bt.at a (toNat e)),(gm b),(me c))) fun v1=>(cond v1 (ret (e:Int)) (J (.p0 a b c d (i64.wrap (e+1))))))) (ret ((-1):Int)))
def start (J:Pt->aJ)(x0:aB)(x1 x2:List L):aJ:=J (.p0 x0 x1 x2 (x0.length:Int) 0)
def live:Nat->Live:=fun i=>match i with | 2=>[(0,none),(1,none),(7,none),(8,none)] | _=>[]
def pats:List ga:=[.rd (.sl 190),.fn 317 [[aC],[.sl 3]]]
def res:RP:=.one (.rd (.int .i64))
abbrev E:Env:={ T:=assoc jV,G:=dw [(317,Z161.aU)],nt:=19 }
def step_eq (I:cB)(p:Pt):cR E live I (pid p) (bL Tryz.f319) (fm (live (pid p)) (bY p) (bX p)) (cA E Tryz.f319 res)=step (fun q=>I (pid q) (bY q) (bX q)) p:=by
 cases p<;>kernel_rfl
def start_eq (I:cB)(ls:List L):eL E live I (bL Tryz.f319) (cU pats ls) (cA E Tryz.f319 res)=start (fun q=>I (pid q) (bY q) (bX q)) (ls.headD .hole).aQ (cP 1 (aA 1 ls)) (cP 1 (aA 2 ls)):=by kernel_rfl
def run_eq (n:Nat)(ls:List L):eG E live Tryz.f319 res n (cU pats ls)=start (iter step n) (ls.headD .hole).aQ (cP 1 (aA 1 ls)) (cP 1 (aA 2 ls)):=cq (id:=pid) (vs:=bY) (hs:=bX) (step:=step) (start:=fun J=>start J (ls.headD .hole).aQ (cP 1 (aA 1 ls)) (cP 1 (aA 2 ls))) step_eq (fun I=>start_eq I ls) n
def md (a0:List bt)(a1:Int)(a2:List Int):Int:=(dD (S:=Unit) (β:=Int) (fun (i1:Nat) (y1:bt) (s3:Unit)=>(cond (Z161.md y1 a1 a2) (.inr ((i1:Int):Int)) (.inl ()))) (fun (s3:Unit)=>((-1):Int)) 0 a0 ())
def gd (a0:List bt)(a1:Int)(a2:List Int):Prop:=(bM (2^21) (fun y:bt=>bt.Sm (2^21) y) a0)/\(bM (2^38) (fun y:Int=>True) a2)
def acc (ls:List L):aB×Int×aB:=((ls.headD .hole).aQ,(gm (cP 1 (aA 1 ls))),(me (cP 1 (aA 2 ls))))
def R:(aB×Int×aB)->Option Int:=RR (p3 gd) (u3 md)
def an {a0 a1 a2}(h:gd a0 a1 a2):R ((a0.map bt.row),a1,(a2.map bq))=some (md a0 a1 a2):=aP (a:=(a0,a1,a2)) h
def aU:fR:=CN pats res acc R
def bA (a0:List bt)(a1:Int)(a2:List Int)(p1 p2:List L)(e1:a1=(gm p1))(e2:(a2.map bq)=(me p2))(hg:gd a0 a1 a2):∃n,start (iter step n) (a0.map bt.row) p1 p2=ret ((md a0 a1 a2):Int):=by
 obtain ⟨H0,H2⟩:=hg
 unfold start md
 try simp only [SS,<-e1,<-e2]
 have Bh2:a0.length<=maxLen:=(by
   have:=(H0).1
   try simp only [maxLen] at *
   omega)
 refine ex_eq (out:=ret) (cV (z:=bt.zero)) ?_
 refine dM (p:=Pt.p0 (a0.map bt.row) p1 p2 (a0.length:Int) 0) fz ?_
 refine ck (pt:=fun (i1:Nat) (s3:Unit)=>Pt.p0 (a0.map bt.row) p1 p2 (a0.length:Int) (i1:Int)) (s:=(():Unit)) (out:=ret) (fun _ _=>True) (fun J i1 s3 h2 hih2=>?_) (fun s3 hih2=>?_) trivial
 ·simp only [step,SS,<-e1,<-e2]
  have bb_:=Bh2
  simp only [maxLen] at bb_
  have:=(H0).1
  refine bC.yes (by apply decide_eq_true;omega) ?_
  refine bC.yes aI ?_
  refine bC.yes (aK h2) ?_
  refine cr (Z161.an H2) ?_
  refine bC.bif (fun c4=>?_) (fun c4=>?_)
  ·refine bC.inr ?_
   all_goals exact fz
  ·refine bC.inl trivial ?_
   rw [aH h2 Bh2]
   all_goals exact fz
 ·simp only [step,SS,<-e1,<-e2]
  have:=(H0).1
  refine dx (by apply decide_eq_false;omega) ?_
  refine ⟨0,?_⟩
  all_goals exact fz
def ox (ls:List L)(a:List bt×Int×List Int)(e:acc ls=Im.im a)(hg:(p3 gd) a):∃n:Nat,start (iter step n) ((ls.headD .hole).aQ) (cP 1 (aA 1 ls)) (cP 1 (aA 2 ls))=ret (Im.im ((u3 md) a)):=by
 have e0:(a.1.map bt.row)=(ls.headD .hole).aQ:=(congrArg (fun x=>x.1) e.symm)
 obtain ⟨n,hn⟩:=bA a.1 a.2.1 a.2.2 (cP 1 (aA 1 ls)) (cP 1 (aA 2 ls)) (congrArg (fun x=>x.2.1) e.symm) (congrArg (fun x=>x.2.2) e.symm) hg
 refine ⟨n,?_⟩
 rw [<-e0]
 exact hn
def af:cD 319 aU:=VP (accr:=fun ls=>((ls.headD .hole).aQ,(cP 1 (aA 1 ls)),(cP 1 (aA 2 ls)))) (run:=fun n x=>start (iter step n) x.1 x.2.1 x.2.2) mix aE (.cons Z161.af .nil) Tryz.func319 (by kernel_rfl) run_eq (fun ls a _ e hg=>ox ls a e hg)
def fa (a0:List bt)(a1:Int)(a2:List Int):-1<=md a0 a1 a2/\md a0 a1 a2<(a0.length:Int):=by
 unfold md
 refine gi ?_ _ _
 all_goals
  intro i x s b h
  revert h
  simp only [Bool.cond_eq_ite]
  repeat' split
  all_goals (intro h;first | (cases h;rfl) | cases h)
def idx_eq (a0:List bt)(a1:Int)(a2:List Int):md a0 a1 a2=iT (fun y=>Z161.md y a1 a2) 0 a0:=by
 unfold md
 exact gO
end Z162
namespace Z163
def F (x0:aB)(x1 x2:List L):aJ:=(call (Z162.R (x0,(gm x1),(me x2))) fun v1=>ret ((decide (v1>=0)):Bool))
def pats:List ga:=[.rd (.sl 190),.fn 317 [[aC],[.sl 3]]]
def res:RP:=.one (.rd (.bool))
def md (a0:List bt)(a1:Int)(a2:List Int):Bool:=((decide ((Z162.md a0 a1 a2)>=0)):Bool)
def gd (a0:List bt)(a1:Int)(a2:List Int):Prop:=(bM (2^21) (fun y:bt=>bt.Sm (2^21) y) a0)/\(bM (2^38) (fun y:Int=>True) a2)
def acc (ls:List L):aB×Int×aB:=((ls.headD .hole).aQ,(gm (cP 1 (aA 1 ls))),(me (cP 1 (aA 2 ls))))
def R:(aB×Int×aB)->Option Bool:=RR (p3 gd) (u3 md)
def an {a0 a1 a2}(h:gd a0 a1 a2):R ((a0.map bt.row),a1,(a2.map bq))=some (md a0 a1 a2):=aP (a:=(a0,a1,a2)) h
def aU:fR:=CN pats res acc R
def bA (a0:List bt)(a1:Int)(a2:List Int)(p1 p2:List L)(e1:a1=(gm p1))(e2:(a2.map bq)=(me p2))(hg:gd a0 a1 a2):F (a0.map bt.row) p1 p2=ret ((md a0 a1 a2):Bool):=by
 obtain ⟨H0,H2⟩:=hg
 unfold F md
 try simp only [SS,<-e1,<-e2]
 refine ct (Z162.an ⟨H0,H2⟩) ?_
 have fv1_:=Z162.fa a0 a1 a2
 all_goals exact fz
def ox (ls:List L)(a:List bt×Int×List Int)(e:acc ls=Im.im a)(hg:(p3 gd) a):∃n:Nat,F ((ls.headD .hole).aQ) (cP 1 (aA 1 ls)) (cP 1 (aA 2 ls))=ret (Im.im ((u3 md) a)):=by
 have e0:(a.1.map bt.row)=(ls.headD .hole).aQ:=(congrArg (fun x=>x.1) e.symm)
 have hn:=bA a.1 a.2.1 a.2.2 (cP 1 (aA 1 ls)) (cP 1 (aA 2 ls)) (congrArg (fun x=>x.2.1) e.symm) (congrArg (fun x=>x.2.2) e.symm) hg
 refine ⟨0,?_⟩
 rw [<-e0]
 exact hn
def af:cD 316 aU:=VP (live:=fun _=>[]) (nt:=9) (accr:=fun ls=>((ls.headD .hole).aQ,(cP 1 (aA 1 ls)),(cP 1 (aA 2 ls)))) (run:=fun _ x=>F x.1 x.2.1 x.2.2) mix aE (.cons Z162.af .nil) Tryz.func316 (by kernel_rfl) (fun _ _=>by kernel_rfl) (fun ls a _ e hg=>ox ls a e hg)
def any_eq (a0:List bt)(a1:Int)(a2:List Int):md a0 a1 a2=a0.any (fun y=>Z161.md y a1 a2):=by
 unfold md
 rw [Z162.idx_eq]
 exact qi
end Z163
namespace Z164
inductive Pt where
 | p0 (a:aB) (b:Int) (c:aB) (d e:Int) (f:aB)
def pid:Pt->Nat
 | .p0 ..=>3
def bY:Pt->List V
 | .p0 a b c d e f=>[.sl none 190 a,.cN 0 0,.int .i64 b,.sl none 3 c,.int .i64 d,.int .i64 e]
def bX:Pt->List aV
 | .p0 a b c d e f=>[.box [.sl none 3 f]]
def step (J:Pt->aJ):Pt->aJ
 | .p0 a b c d e f=>(cond (decide (e<d)) (m2 e (c.length:Int) (call (Z163.R (a,(jt c (toNat e)),f)) fun v1=>(cond v1 (J (.p0 a (i64.wrap (b+1)) c d (i64.wrap (e+1)) f)) (J (.p0 a b c d (i64.wrap (e+1)) f))))) (ret (b:Int)))
def start (J:Pt->aJ)(x0:bE)(x1 x2:aB):aJ:=J (.p0 x2 0 x0.aX (x0.aX.length:Int) 0 x1)
def live:Nat->Live:=fun i=>match i with | 3=>[(2,none),(4,none),(7,none),(11,none),(12,none),(13,none)] | _=>[]
def md (a0:aO)(a1:List Int)(a2:List bt):Int:=(dQ (S:=Int) (β:=Int) (fun (y1:Int) (s3:Int)=>(cond (Z163.md a2 y1 a1) (.inl (i64.wrap (s3+1))) (.inl s3))) (fun (s3:Int)=>(s3:Int)) a0.aX 0)
def gd (a0:aO)(a1:List Int)(a2:List bt):Prop:=(aO.Sm (2^21) a0)/\(bM (2^38) (fun y:Int=>True) a1)/\(bM (2^21) (fun y:bt=>bt.Sm (2^21) y) a2)
def R:=RR (p3 gd) (u3 md)
def an {a0 a1 a2}(h:gd a0 a1 a2):R ((aO.r a0),(a1.map bq),(a2.map bt.row))=some (md a0 a1 a2):=aP (a:=(a0,a1,a2)) h
def aU:=CN [.agg iV,pL 3,pL 190] oI RT.dec R
def bA (a0)(a1)(a2)(hg:gd a0 a1 a2):∃n,start (iter step n) (aO.r a0) (a1.map bq) (a2.map bt.row)=ret (md a0 a1 a2):=by
 obtain ⟨H0,H1,H2⟩:=hg
 unfold start md
 try simp only [SS]
 have Bh2:a0.aX.length<=maxLen:=(by
   have:=(H0).1
   try simp only [maxLen] at *
   omega)
 refine ex_eq (out:=ret) (ep (z:=0)) ?_
 refine dM (p:=Pt.p0 (a2.map bt.row) 0 (a0.aX.map bq) (a0.aX.length:Int) 0 (a1.map bq)) fz ?_
 refine ck (pt:=fun (i1:Nat) (s3:Int)=>Pt.p0 (a2.map bt.row) s3 (a0.aX.map bq) (a0.aX.length:Int) (i1:Int) (a1.map bq)) (s:=(0:Int)) (out:=ret) (fun _ _=>True) (fun J i1 s3 h2 hih2=>?_) (fun s3 hih2=>?_) trivial
 ·simp only [step,SS]
  have bb_:=Bh2
  simp only [maxLen] at bb_
  have:=(H0).1
  refine bC.yes (by apply decide_eq_true;omega) ?_
  refine bC.yes aI ?_
  refine bC.yes (aK h2) ?_
  refine cr (Z163.an ⟨H2,H1⟩) ?_
  refine bC.bif (fun c4=>?_) (fun c4=>?_)
  ·refine bC.inl trivial ?_
   rw [aH h2 Bh2]
   all_goals exact fz
  ·refine bC.inl trivial ?_
   rw [aH h2 Bh2]
   all_goals exact fz
 ·simp only [step,SS]
  have:=(H0).1
  refine dx (by apply decide_eq_false;omega) ?_
  refine ⟨0,?_⟩
  all_goals exact fz
def af:cD 309 aU:=L3 24 pid bY bX live step start mix aE bA (.cons Z163.af .nil) Tryz.func309
def br (a0:aO)(a1:List Int)(a2:List bt):md a0 a1 a2=Z60.md a0 a1 a2:=by
 unfold md Z60.md
 refine oZ (fun x _ s=>?_) (fun s=>rfl)
 rw [Z163.any_eq]
 refine Eq.trans ?_ (mW (β:=Int⊕Int) (p:=fun y=>Z161.md y x a1) (b:=Sum.inl (i64.wrap (s+1))) (c:=Sum.inl s) (fun y s'=>?_) a2 ()).symm
 ·cases a2.any (fun y=>Z161.md y x a1)<;>rfl
 ·unfold Z161.md
  simp only [Z160.br]
  cases y.gM==x<;>cases Z59.md y a1<;>rfl
end Z164
namespace Z165
def F (x0:bE)(x1 x2:aB):aJ:=(call (Z145.R x0) fun v1=>(cond v1 (call (Z164.R (x0,x1,x2)) fun v2=>ret ((decide (v2>=x0.cE)):Bool)) bf))
def md (a0:aO)(a1:List Int)(a2:List bt):Bool:=(cond (Z145.md a0) ((decide ((Z164.md a0 a1 a2)>=a0.cE)):Bool) (false:Bool))
def gd (a0:aO)(a1:List Int)(a2:List bt):Prop:=(aO.Sm (2^21) a0)/\(bM (2^38) (fun y:Int=>True) a1)/\(bM (2^21) (fun y:bt=>bt.Sm (2^21) y) a2)
def R:=RR (p3 gd) (u3 md)
def an {a0 a1 a2}(h:gd a0 a1 a2):R ((aO.r a0),(a1.map bq),(a2.map bt.row))=some (md a0 a1 a2):=aP (a:=(a0,a1,a2)) h
def aU:=CN [.agg iV,pL 3,pL 190] oB RT.dec R
def bA (a0)(a1)(a2)(hg:gd a0 a1 a2):F (aO.r a0) (a1.map bq) (a2.map bt.row)=ret (md a0 a1 a2):=by
 obtain ⟨H0,H1,H2⟩:=hg
 unfold F md
 try simp only [SS]
 refine ct (Z145.an H0) ?_
 refine av ret (fun c1=>?_) (fun _=>rfl)
 refine ct (Z164.an ⟨H0,H1,H2⟩) ?_
 all_goals exact fz
def af:cD 295 aU:=W3 18 F mix aE bA (.cons Z145.af (.cons Z164.af .nil)) Tryz.func295
def br (a0:aO)(a1:List Int)(a2:List bt):md a0 a1 a2=Z61.md a0 a1 a2:=by
 unfold md Z61.md
 first
 | (simp only [Z145.br,Z164.br];done)
 | (simp only [Z145.br,Z164.br];rfl)
 | rfl
end Z165
namespace Z166
def F (x0:aR)(x1:bE):aJ:=(call (Z157.R x0.aq) fun v1=>(call (Z165.R (x1,v1,x0.cm)) fun v2=>ret (v2:Bool)))
def md (a0:aa)(a1:aO):Bool:=((Z165.md a1 (Z157.md a0.aq) a0.cm):Bool)
def gd (a0:aa)(a1:aO):Prop:=(aa.Sm (2^21) a0)/\(aO.Sm (2^21) a1)
def R:=RR (p2 gd) (u2 md)
def an {a0 a1}(h:gd a0 a1):R ((aa.r a0),(aO.r a1))=some (md a0 a1):=aP (a:=(a0,a1)) h
def aU:=CN [.agg ku,.agg iV] oB RT.dec R
def bA (a0)(a1)(hg:gd a0 a1):F (aa.r a0) (aO.r a1)=ret (md a0 a1):=by
 obtain ⟨H0,H1⟩:=hg
 unfold F md
 try simp only [SS]
 refine ct (Z157.an H0.1) ?_
 try simp only [SS]
 refine ct (Z165.an ⟨H1,⟨(have:=Z157.len a0.aq;have:=(H0.1.1).1;have:=(H0.1.2.1).1;have:=(H0.1.2.2).1;om),fun _ _=>trivial⟩,H0.2⟩) ?_
 all_goals exact fz
def af:cD 271 aU:=W2 12 F mix aE bA (.cons Z157.af (.cons Z165.af .nil)) Tryz.func271
end Z166
namespace Z167
def F (x0:aR):aJ:=(call (Z149.R x0.aq) fun v1=>(cond v1 (cond (x0.aq.cI==0) (cond (x0.aq.bQ==1) (cond (!x0.aq.bF) (call (Z153.R (x0.aq.bR,x0.aq.dy)) fun v2=>(cond (x0.aq.bz==v2) (call (Z166.R (x0,x0.aq.bR)) fun v3=>ret (v3:Bool)) bf)) bf) bf) bf) bf))
def md (a0:aa):Bool:=(cond (Z149.md a0.aq) (cond (a0.aq.cI==0) (cond (a0.aq.bQ==1) (cond (!a0.aq.bF) (cond (a0.aq.bz==(Z153.md a0.aq.bR a0.aq.dy)) ((Z166.md a0 a0.aq.bR):Bool) (false:Bool)) (false:Bool)) (false:Bool)) (false:Bool)) (false:Bool))
def gd (a0:aa):Prop:=(aa.Sm (2^21) a0)
def R:=RR gd md
def an {a0}(h:gd a0):R (aa.r a0)=some (md a0):=aP (a:=a0) h
def aU:=CN [.agg ku] oB RT.dec R
def bA (a0)(hg:gd a0):F (aa.r a0)=ret (md a0):=by
 unfold gd at hg
 have H0:=hg
 unfold F md
 try simp only [SS]
 refine ct (Z149.an H0.1) ?_
 refine av ret (fun c1=>?_) (fun _=>rfl)
 refine av ret (fun c2=>?_) (fun _=>rfl)
 refine av ret (fun c3=>?_) (fun _=>rfl)
 refine av ret (fun c4=>?_) (fun _=>rfl)
 refine ct (Z153.an H0.1.1) ?_
 refine av ret (fun c5=>?_) (fun _=>rfl)
 refine ct (Z166.an ⟨H0,H0.1.1⟩) ?_
 all_goals exact fz
def af:cD 242 aU:=W1 39 F mix aE bA (.cons Z149.af (.cons Z153.af (.cons Z166.af .nil))) Tryz.func242
def br (a0:aa):md a0=Z62.md a0:=by
 unfold md Z62.md
 simp only [Z166.md,Z165.br,Z157.br,Z149.br,Z153.br]
end Z167
namespace Z168
def F (x0:cg):aJ:=(call (Z157.R x0) fun v1=>(cj (eS (((1:Int)+(v1.length:Int))*8)) (call (Z152.R ([[L.int 233]]++v1)) fun v2=>ret (v2:Int))))
def md (a0:aF):Int:=((Z152.md ([233]++(Z157.md a0))):Int)
def gd (a0:aF):Prop:=(aF.Sm (2^21) a0)
def R:=RR gd md
def an {a0}(h:gd a0):R (aF.r a0)=some (md a0):=aP (a:=a0) h
def aU:=CN [.agg fX] oI RT.dec R
def bA (a0)(hg:gd a0):F (aF.r a0)=ret (md a0):=by
 unfold gd at hg
 have H0:=hg
 unfold F md
 try simp only [SS]
 refine ct (Z157.an H0) ?_
 try simp only [SS]
 refine ak (have:=Z157.len a0;have:=(H0.1).1;have:=(H0.2.1).1;have:=(H0.2.2).1;lm) ?_
 refine aZ (Z152.md ([233]++(Z157.md a0))) (rq (Z152.an (a0:=([233]++(Z157.md a0))) ⟨(have:=Z157.len a0;have:=(H0.1).1;have:=(H0.2.1).1;have:=(H0.2.2).1;om),fun _ _=>trivial⟩)) ?_
 all_goals exact fz
def af:cD 310 aU:=W1 8 F mix aE bA (.cons Z157.af (.cons Z152.af .nil)) Tryz.func310
def br (a0:aF):md a0=Z63.md a0:=by
 unfold md Z63.md
 first
 | (simp only [Z157.br,Z152.br];done)
 | (simp only [Z157.br,Z152.br];rfl)
 | rfl
end Z168
namespace Z169
def F (x0 x1:cg):aJ:=(cond (x1.bz==x0.bz) (cond (x1.cI==(i64.wrap (x0.cI+1))) (call (Z168.R x0) fun v1=>(cond (x1.dy==v1) (ret ((decide (x1.cF>=x0.cF)):Bool)) bf)) bf) bf)
def md (a0 a1:aF):Bool:=(cond (a1.bz==a0.bz) (cond (a1.cI==(i64.wrap (a0.cI+1))) (cond (a1.dy==(Z168.md a0)) ((decide (a1.cF>=a0.cF)):Bool) (false:Bool)) (false:Bool)) (false:Bool))
def gd (a0 a1:aF):Prop:=(aF.Sm (2^21) a0)
def R:=RR (p2 gd) (u2 md)
def an {a0 a1}(h:gd a0 a1):R ((aF.r a0),(aF.r a1))=some (md a0 a1):=aP (a:=(a0,a1)) h
def aU:=CN [.agg fX,.agg fX] oB RT.dec R
def bA (a0)(a1)(hg:gd a0 a1):F (aF.r a0) (aF.r a1)=ret (md a0 a1):=by
 unfold gd at hg
 have H0:=hg
 unfold F md
 try simp only [SS]
 refine av ret (fun c1=>?_) (fun _=>rfl)
 refine av ret (fun c2=>?_) (fun _=>rfl)
 refine ct (Z168.an H0) ?_
 refine av ret (fun c3=>?_) (fun _=>rfl)
 all_goals exact fz
def af:cD 296 aU:=W2 32 F mix aE bA (.cons Z168.af .nil) Tryz.func296
end Z169
namespace Z170
def F (x0:cg)(x1:aR):aJ:=(cond x0.bF (ret (4:Int)) (cond x1.aq.bF (ret (6:Int)) (call (Z166.R (x1,x0.bR)) fun v1=>(cond (!v1) (ret (7:Int)) (ret (1:Int))))))
def md (a0:aF)(a1:aa):Int:=(cond a0.bF (4:Int) (cond a1.aq.bF (6:Int) (cond (!(Z166.md a1 a0.bR)) (7:Int) (1:Int))))
def gd (a0:aF)(a1:aa):Prop:=(aF.Sm (2^21) a0)/\(aa.Sm (2^21) a1)
def R:=RR (p2 gd) (u2 md)
def an {a0 a1}(h:gd a0 a1):R ((aF.r a0),(aa.r a1))=some (md a0 a1):=aP (a:=(a0,a1)) h
def aU:=CN [.agg fX,.agg ku] oI RT.dec R
def bA (a0)(a1)(hg:gd a0 a1):F (aF.r a0) (aa.r a1)=ret (md a0 a1):=by
 obtain ⟨H0,H1⟩:=hg
 unfold F md
 try simp only [SS]
 refine av ret (fun _=>rfl) (fun c1=>?_)
 refine av ret (fun _=>rfl) (fun c2=>?_)
 refine ct (Z166.an ⟨H1,H0.1⟩) ?_
 refine av ret (fun _=>rfl) (fun _=>rfl)
def af:cD 297 aU:=W2 18 F mix aE bA (.cons Z166.af .nil) Tryz.func297
end Z170
namespace Z171
inductive Pt where
 | p0 (a b:aB) (c d:Int)
def pid:Pt->Nat
 | .p0 ..=>4
def bY:Pt->List V
 | .p0 a b c d=>[.sl none 3 a,.sl none 3 b,.int .i64 c,.int .i64 d]
def bX:Pt->List aV
 | .p0 a b c d=>[]
def step (J:Pt->aJ):Pt->aJ
 | .p0 a b c d=>(cond (decide (d<c)) (m2 d (a.length:Int) (m2 d (b.length:Int) (cond ((jt a (toNat d)) != (jt b (toNat d))) bf (J (.p0 a b c (i64.wrap (d+1))))))) eu)
def start (J:Pt->aJ)(x0 x1:aB):aJ:=(cond ((x0.length:Int) != (x1.length:Int)) bf (J (.p0 x0 x1 (x0.length:Int) 0)))
def live:Nat->Live:=fun i=>match i with | 4=>[(0,none),(1,none),(12,none),(13,none)] | _=>[]
def md (a0 a1:List Int):Bool:=(bif ((a0.length:Int) != (a1.length:Int)) then (false:Bool) else (eo (S:=Unit) (β:=Bool) (fun (i2:Nat) (s4:Unit)=>(cond ((a0.getD i2 0) != (a1.getD i2 0)) (.inr (false:Bool)) (.inl ()))) (fun (s4:Unit)=>(true:Bool)) a0.length 0 ()))
def gd (a0 a1:List Int):Prop:=(bM (2^38) (fun y:Int=>True) a0)/\(bM (2^38) (fun y:Int=>True) a1)
def R:=RR (p2 gd) (u2 md)
def an {a0 a1}(h:gd a0 a1):R ((a0.map bq),(a1.map bq))=some (md a0 a1):=aP (a:=(a0,a1)) h
def aU:=CN [pL 3,pL 3] oB RT.dec R
def bA (a0)(a1)(hg:gd a0 a1):∃n,start (iter step n) (a0.map bq) (a1.map bq)=ret (md a0 a1):=by
 obtain ⟨H0,H1⟩:=hg
 unfold start md
 try simp only [SS]
 refine gR ret (fun _=>⟨0,rfl⟩) (fun c1=>?_)
 have dc1:=c1
 try simp only [DC] at dc1
 have Bh3:a0.length<=maxLen:=(by
   have:=(H0).1
   try simp only [maxLen] at *
   omega)
 refine dM (p:=Pt.p0 (a0.map bq) (a1.map bq) (a0.length:Int) 0) fz ?_
 refine ck (pt:=fun (i2:Nat) (s4:Unit)=>Pt.p0 (a0.map bq) (a1.map bq) (a0.length:Int) (i2:Int)) (s:=(():Unit)) (out:=ret) (fun _ _=>True) (fun J i2 s4 h3 hih3=>?_) (fun s4 hih3=>?_) trivial
 ·simp only [step,SS]
  have bb_:=Bh3
  simp only [maxLen] at bb_
  have:=(H0).1
  refine bC.yes (by apply decide_eq_true;omega) ?_
  refine bC.yes aI ?_
  refine bC.yes (aK h3) ?_
  refine bC.yes aI ?_
  refine bC.yes (have:=(H1).1;dt) ?_
  refine bC.bif (fun _=>bC.inr rfl) (fun c5=>?_)
  refine bC.inl trivial ?_
  rw [aH h3 Bh3]
  all_goals exact fz
 ·simp only [step,SS]
  have:=(H0).1
  refine dx (by apply decide_eq_false;omega) ?_
  refine ⟨0,?_⟩
  all_goals exact fz
def af:cD 274 aU:=L2 26 pid bY bX live step start mix aE bA .nil Tryz.func274
def md_eq (a0 a1:List Int):md a0 a1=dY a0 a1:=by
 unfold md
 refine ke (0) (fun i s h h2=>?_) (fun s=>rfl)
 simp only [bne,fc,bool_beq,eO]
 cases dY _ _<;>rfl
end Z171
namespace Z172
def F (x0 x1:bE):aJ:=(call (Z171.R (x0.aX,x1.aX)) fun v1=>(cond v1 (ret ((x0.cE==x1.cE):Bool)) bf))
def md (a0 a1:aO):Bool:=(cond (Z171.md a0.aX a1.aX) ((a0.cE==a1.cE):Bool) (false:Bool))
def gd (a0 a1:aO):Prop:=(aO.Sm (2^21) a0)/\(aO.Sm (2^21) a1)
def R:=RR (p2 gd) (u2 md)
def an {a0 a1}(h:gd a0 a1):R ((aO.r a0),(aO.r a1))=some (md a0 a1):=aP (a:=(a0,a1)) h
def aU:=CN [.agg iV,.agg iV] oB RT.dec R
def bA (a0)(a1)(hg:gd a0 a1):F (aO.r a0) (aO.r a1)=ret (md a0 a1):=by
 obtain ⟨H0,H1⟩:=hg
 unfold F md
 try simp only [SS]
 refine ct (Z171.an ⟨(H0.mono (by decide) (fun x hx=>trivial)),(H1.mono (by decide) (fun x hx=>trivial))⟩) ?_
 refine av ret (fun c1=>?_) (fun _=>rfl)
 all_goals exact fz
def af:cD 273 aU:=W2 17 F mix aE bA (.cons Z171.af .nil) Tryz.func273
def md_eq (a0 a1:aO):md a0 a1=dY a0 a1:=by
 unfold md
 cases a0;cases a1
 rw [Bool.eq_iff_iff]
 simp [dh,eO,aO.mk.injEq,Z171.md_eq]
 try (constructor<;>(intro h;simp_all))
end Z172
namespace Z173
def F (x0 x1:cg):aJ:=(cond (x0.cu==x1.cu) (ret ((x0.cW==x1.cW):Bool)) bf)
def md (a0 a1:aF):Bool:=(cond (a0.cu==a1.cu) ((a0.cW==a1.cW):Bool) (false:Bool))
def gd (a0 a1:aF):Prop:=True
def R:=RR (p2 gd) (u2 md)
def an {a0 a1}(h:gd a0 a1):R ((aF.r a0),(aF.r a1))=some (md a0 a1):=aP (a:=(a0,a1)) h
def aU:=CN [.agg fX,.agg fX] oB RT.dec R
def bA (a0)(a1)(hg:gd a0 a1):F (aF.r a0) (aF.r a1)=ret (md a0 a1):=by
 unfold F md
 try simp only [SS]
 refine av ret (fun c1=>?_) (fun _=>rfl)
 all_goals exact fz
def af:cD 311 aU:=W2 17 F mix aE bA .nil Tryz.func311
def br (a0 a1:aF):md a0 a1=Z67.md a0 a1:=by
 unfold md Z67.md
 first
 | (simp only [id];done)
 | (simp only [id];rfl)
 | rfl
end Z173
namespace Z174
def F (x0:cg)(x1:aR):aJ:=(cond x0.bF (ret (4:Int)) (call (Z146.R x0.bD) fun v1=>(cond v1 (ret (5:Int)) (cond (decide (x1.aq.cF<(i64.wrap (x0.cC+x0.cY)))) (ret (5:Int)) (cond x1.aq.bF (ret (6:Int)) (call (Z172.R (x1.aq.bR,x0.bD)) fun v2=>(cond (!v2) (ret (6:Int)) (call (Z173.R (x1.aq,x0)) fun v3=>(cond (!v3) (ret (6:Int)) (call (Z166.R (x1,x0.bD)) fun v4=>(cond (!v4) (ret (7:Int)) (ret (1:Int)))))))))))))
def md (a0:aF)(a1:aa):Int:=(cond a0.bF (4:Int) (cond (Z146.md a0.bD) (5:Int) (cond (decide (a1.aq.cF<(i64.wrap (a0.cC+a0.cY)))) (5:Int) (cond a1.aq.bF (6:Int) (cond (!(Z172.md a1.aq.bR a0.bD)) (6:Int) (cond (!(Z173.md a1.aq a0)) (6:Int) (cond (!(Z166.md a1 a0.bD)) (7:Int) (1:Int))))))))
def gd (a0:aF)(a1:aa):Prop:=(aF.Sm (2^21) a0)/\(aa.Sm (2^21) a1)
def R:=RR (p2 gd) (u2 md)
def an {a0 a1}(h:gd a0 a1):R ((aF.r a0),(aa.r a1))=some (md a0 a1):=aP (a:=(a0,a1)) h
def aU:=CN [.agg fX,.agg ku] oI RT.dec R
def bA (a0)(a1)(hg:gd a0 a1):F (aF.r a0) (aa.r a1)=ret (md a0 a1):=by
 obtain ⟨H0,H1⟩:=hg
 unfold F md
 try simp only [SS]
 refine av ret (fun _=>rfl) (fun c1=>?_)
 refine ct (Z146.an trivial) ?_
 refine av ret (fun _=>rfl) (fun c2=>?_)
 refine av ret (fun _=>rfl) (fun c3=>?_)
 refine av ret (fun _=>rfl) (fun c4=>?_)
 refine ct (Z172.an ⟨H1.1.1,H0.2.1⟩) ?_
 refine av ret (fun _=>rfl) (fun c5=>?_)
 refine ct (Z173.an trivial) ?_
 refine av ret (fun _=>rfl) (fun c6=>?_)
 refine ct (Z166.an ⟨H1,H0.2.1⟩) ?_
 refine av ret (fun _=>rfl) (fun _=>rfl)
def af:cD 298 aU:=W2 48 F mix aE bA (.cons Z146.af (.cons Z172.af (.cons Z173.af (.cons Z166.af .nil)))) Tryz.func298
end Z174
namespace Z175
def F (x0:cg)(x1:aR):aJ:=(call (Z173.R (x1.aq,x0)) fun v1=>(cond v1 (call (Z172.R (x1.aq.bB,x0.bB)) fun v2=>(cond v2 (call (Z172.R (x1.aq.bD,x0.bD)) fun v3=>(cond v3 (call (Z146.R x0.bB) fun v4=>(cond v4 (ret (5:Int)) (cond (x1.aq.bF==x0.bF) (ret (6:Int)) (cond (!(x1.aq.cY==x0.cY)) (ret (6:Int)) (cond x1.aq.bF (call (Z172.R (x1.aq.bR,x0.bR)) fun v5=>(cond (!v5) (ret (6:Int)) (call (Z166.R (x1,x0.bB)) fun v6=>(cond (!v6) (ret (7:Int)) (ret (1:Int)))))) (call (Z166.R (x1,x0.bB)) fun v7=>(cond (!v7) (ret (7:Int)) (ret (1:Int))))))))) (call (Z146.R x0.bB) fun v8=>(cond v8 (ret (5:Int)) (cond (x1.aq.bF==x0.bF) (ret (6:Int)) (ret (6:Int))))))) (call (Z146.R x0.bB) fun v9=>(cond v9 (ret (5:Int)) (cond (x1.aq.bF==x0.bF) (ret (6:Int)) (ret (6:Int))))))) (call (Z146.R x0.bB) fun v10=>(cond v10 (ret (5:Int)) (cond (x1.aq.bF==x0.bF) (ret (6:Int)) (ret (6:Int)))))))
def md (a0:aF)(a1:aa):Int:=(cond (Z173.md a1.aq a0) (cond (Z172.md a1.aq.bB a0.bB) (cond (Z172.md a1.aq.bD a0.bD) (cond (Z146.md a0.bB) (5:Int) (cond (a1.aq.bF==a0.bF) (6:Int) (cond (!(a1.aq.cY==a0.cY)) (6:Int) (cond a1.aq.bF (cond (!(Z172.md a1.aq.bR a0.bR)) (6:Int) (cond (!(Z166.md a1 a0.bB)) (7:Int) (1:Int))) (cond (!(Z166.md a1 a0.bB)) (7:Int) (1:Int)))))) (cond (Z146.md a0.bB) (5:Int) (cond (a1.aq.bF==a0.bF) (6:Int) (6:Int)))) (cond (Z146.md a0.bB) (5:Int) (cond (a1.aq.bF==a0.bF) (6:Int) (6:Int)))) (cond (Z146.md a0.bB) (5:Int) (cond (a1.aq.bF==a0.bF) (6:Int) (6:Int))))
def gd (a0:aF)(a1:aa):Prop:=(aF.Sm (2^21) a0)/\(aa.Sm (2^21) a1)
def R:=RR (p2 gd) (u2 md)
def an {a0 a1}(h:gd a0 a1):R ((aF.r a0),(aa.r a1))=some (md a0 a1):=aP (a:=(a0,a1)) h
def aU:=CN [.agg fX,.agg ku] oI RT.dec R
def bA (a0)(a1)(hg:gd a0 a1):F (aF.r a0) (aa.r a1)=ret (md a0 a1):=by
 obtain ⟨H0,H1⟩:=hg
 unfold F md
 try simp only [SS]
 refine ct (Z173.an trivial) ?_
 refine av ret (fun c1=>?_) (fun c1=>?_)
 ·refine ct (Z172.an ⟨H1.1.2.2,H0.2.2⟩) ?_
  refine av ret (fun c2=>?_) (fun c2=>?_)
  ·refine ct (Z172.an ⟨H1.1.2.1,H0.2.1⟩) ?_
   refine av ret (fun c3=>?_) (fun c3=>?_)
   ·refine ct (Z146.an trivial) ?_
    refine av ret (fun _=>rfl) (fun c4=>?_)
    refine av ret (fun _=>rfl) (fun c5=>?_)
    refine av ret (fun _=>rfl) (fun c6=>?_)
    refine av ret (fun c7=>?_) (fun c7=>?_)
    ·refine ct (Z172.an ⟨H1.1.1,H0.1⟩) ?_
     refine av ret (fun _=>rfl) (fun c8=>?_)
     refine ct (Z166.an ⟨H1,H0.2.2⟩) ?_
     refine av ret (fun _=>rfl) (fun _=>rfl)
    ·refine ct (Z166.an ⟨H1,H0.2.2⟩) ?_
     refine av ret (fun _=>rfl) (fun _=>rfl)
   ·refine ct (Z146.an trivial) ?_
    refine av ret (fun _=>rfl) (fun c11=>?_)
    refine av ret (fun _=>rfl) (fun _=>rfl)
  ·refine ct (Z146.an trivial) ?_
   refine av ret (fun _=>rfl) (fun c13=>?_)
   refine av ret (fun _=>rfl) (fun _=>rfl)
 ·refine ct (Z146.an trivial) ?_
  refine av ret (fun _=>rfl) (fun c15=>?_)
  refine av ret (fun _=>rfl) (fun _=>rfl)
def af:cD 299 aU:=W2 65 F mix aE bA (.cons Z173.af (.cons Z172.af (.cons Z146.af (.cons Z166.af .nil)))) Tryz.func299
end Z175
namespace Z176
def F (x0:cg)(x1:aR):aJ:=(call (Z149.R x0) fun v1=>(cond (!v1) (ret (2:Int)) (call (Z149.R x1.aq) fun v2=>(cond (!v2) (ret (2:Int)) (call (Z169.R (x0,x1.aq)) fun v3=>(cond (!v3) (ret (3:Int)) (cond (x1.aq.bQ==1) (call (Z170.R (x0,x1)) fun v4=>ret (v4:Int)) (cond (x1.aq.bQ==2) (call (Z174.R (x0,x1)) fun v5=>ret (v5:Int)) (call (Z175.R (x0,x1)) fun v6=>ret (v6:Int))))))))))
def md (a0:aF)(a1:aa):Int:=(cond (!(Z149.md a0)) (2:Int) (cond (!(Z149.md a1.aq)) (2:Int) (cond (!(Z169.md a0 a1.aq)) (3:Int) (cond (a1.aq.bQ==1) ((Z170.md a0 a1):Int) (cond (a1.aq.bQ==2) ((Z174.md a0 a1):Int) ((Z175.md a0 a1):Int))))))
def gd (a0:aF)(a1:aa):Prop:=(aF.Sm (2^21) a0)/\(aa.Sm (2^21) a1)
def R:=RR (p2 gd) (u2 md)
def an {a0 a1}(h:gd a0 a1):R ((aF.r a0),(aa.r a1))=some (md a0 a1):=aP (a:=(a0,a1)) h
def aU:=CN [.agg fX,.agg ku] oI RT.dec R
def bA (a0)(a1)(hg:gd a0 a1):F (aF.r a0) (aa.r a1)=ret (md a0 a1):=by
 obtain ⟨H0,H1⟩:=hg
 unfold F md
 try simp only [SS]
 refine ct (Z149.an H0) ?_
 refine av ret (fun _=>rfl) (fun c1=>?_)
 refine ct (Z149.an H1.1) ?_
 refine av ret (fun _=>rfl) (fun c2=>?_)
 refine ct (Z169.an H0) ?_
 refine av ret (fun _=>rfl) (fun c3=>?_)
 refine av ret (fun c4=>?_) (fun c4=>?_)
 ·refine ct (Z170.an ⟨H0,H1⟩) ?_
  all_goals exact fz
 ·refine av ret (fun c5=>?_) (fun c5=>?_)
  ·refine ct (Z174.an ⟨H0,H1⟩) ?_
   all_goals exact fz
  ·refine ct (Z175.an ⟨H0,H1⟩) ?_
   all_goals exact fz
def af:cD 272 aU:=W2 40 F mix aE bA (.cons Z149.af (.cons Z169.af (.cons Z170.af (.cons Z174.af (.cons Z175.af .nil))))) Tryz.func272
def br (a0:aF)(a1:aa):md a0 a1=Z70.md a0 a1:=by
 unfold md Z70.md Z169.md Z170.md Z174.md Z175.md Z166.md Z64.md Z68.md Z69.md
 simp only [Z149.br,Z168.br,Z165.br,Z157.br,Z146.br,Z172.md_eq,Z66.md_eq,Z173.br,bne]
 cases Z51.md a0
 ·rfl
 cases h2:Z51.md a1.aq
 ·rfl
 obtain ⟨⟨k1,k2⟩,_⟩:=Z51.tr h2
 have ht:decide (a1.aq.cF<a0.cF)=!decide (a1.aq.cF>=a0.cF):=by
  rw [Bool.eq_iff_iff];simp
 rw [ht]
 cases a1.aq.bz==a0.bz
 ·rfl
 cases a1.aq.cI==i64.wrap (a0.cI+1)
 ·rfl
 cases a1.aq.dy==Z63.md a0
 ·rfl
 cases decide (a1.aq.cF>=a0.cF)
 ·rfl
 have hk:a1.aq.bQ=1∨a1.aq.bQ=2∨a1.aq.bQ=3:=by omega
 generalize Z61.md a0.bR (Z56.md a1.aq) a1.cm=s1
 generalize Z61.md a0.bD (Z56.md a1.aq) a1.cm=s2
 generalize Z61.md a0.bB (Z56.md a1.aq) a1.cm=s3
 generalize Z50.md a0.bD=n1
 generalize Z50.md a0.bB=n2
 generalize decide (a1.aq.cF<i64.wrap (a0.cC+a0.cY))=d1
 generalize dY a1.aq.bR a0.bD=e1
 generalize dY a1.aq.bB a0.bB=e2
 generalize dY a1.aq.bD a0.bD=e3
 generalize dY a1.aq.bR a0.bR=e4
 generalize Z67.md a1.aq a0=c1
 generalize (a1.aq.cY==a0.cY)=w1
 generalize a1.aq.bF=f1
 generalize a0.bF=f0
 rcases hk with hk | hk | hk<;>rw [hk]
 ·cases f0<;>cases f1<;>cases s1<;>rfl
 ·cases f0<;>cases n1<;>cases d1<;>cases f1<;>cases e1<;>cases c1<;>cases s2<;>rfl
 ·cases n2
  ·cases f1<;>cases f0<;>cases c1<;>cases e2<;>cases e3<;>cases w1<;>cases e4<;>cases s3<;>rfl
  ·cases c1<;>cases e2<;>cases e3<;>rfl
end Z176
namespace Z177
def F (x0:cg)(x1:aR):aJ:=(call (Z176.R (x0,x1)) fun v1=>ret ((v1==1):Bool))
def md (a0:aF)(a1:aa):Bool:=(((Z176.md a0 a1)==1):Bool)
def gd (a0:aF)(a1:aa):Prop:=(aF.Sm (2^21) a0)/\(aa.Sm (2^21) a1)
def R:=RR (p2 gd) (u2 md)
def an {a0 a1}(h:gd a0 a1):R ((aF.r a0),(aa.r a1))=some (md a0 a1):=aP (a:=(a0,a1)) h
def aU:=CN [.agg fX,.agg ku] oB RT.dec R
def bA (a0)(a1)(hg:gd a0 a1):F (aF.r a0) (aa.r a1)=ret (md a0 a1):=by
 obtain ⟨H0,H1⟩:=hg
 unfold F md
 try simp only [SS]
 refine ct (Z176.an ⟨H0,H1⟩) ?_
 all_goals exact fz
def af:cD 243 aU:=W2 9 F mix aE bA (.cons Z176.af .nil) Tryz.func243
def br (a0:aF)(a1:aa):md a0 a1=Z71.md a0 a1:=by
 unfold md Z71.md
 first
 | (simp only [Z176.br];done)
 | (simp only [Z176.br];rfl)
 | rfl
end Z177
namespace Z178
inductive Pt where
 | p0 (a b:aB) (c d:Int)
def pid:Pt->Nat
 | .p0 ..=>2
def bY:Pt->List V
 | .p0 a b c d=>[.sl none 141 a,.sl none 141 b,.int .i64 c,.int .i64 d]
def bX:Pt->List aV
 | .p0 a b c d=>[]
def step (J:Pt->aJ):Pt->aJ
 | .p0 a b c d=>(cond (decide (d<c)) (m2 d (b.length:Int) (cond (d==0) (call (Z167.R (aR.at b (toNat d))) fun v1=>(cond (!v1) (ret (d:Int)) (cond (decide (d>0)) (cj (decide ((0:Int)<=(i64.wrap (d - 1)))) (cj (decide ((i64.wrap (d - 1))<(a.length:Int))) (call (Z177.R ((aR.at a (toNat (i64.wrap (d - 1)))).aq,(aR.at b (toNat d)))) fun v2=>(cond (!v2) (ret (d:Int)) (J (.p0 a b c (i64.wrap (d+1)))))))) (J (.p0 a b c (i64.wrap (d+1))))))) (cond (decide (d>0)) (cj (decide ((0:Int)<=(i64.wrap (d - 1)))) (cj (decide ((i64.wrap (d - 1))<(a.length:Int))) (call (Z177.R ((aR.at a (toNat (i64.wrap (d - 1)))).aq,(aR.at b (toNat d)))) fun v3=>(cond (!v3) (ret (d:Int)) (J (.p0 a b c (i64.wrap (d+1)))))))) (J (.p0 a b c (i64.wrap (d+1))))))) (ret ((-1):Int)))
def start (J:Pt->aJ)(x0:aB):aJ:=J (.p0 x0 x0 (x0.length:Int) 0)
def live:Nat->Live:=fun i=>match i with | 2=>[(0,none),(5,none),(6,none),(7,none)] | _=>[]
def md (a0:List aa):Int:=(dD (S:=Unit) (β:=Int) (fun (i1:Nat) (y1:aa) (s3:Unit)=>(cond ((i1:Int)==0) (cond (!(Z167.md y1)) (.inr ((i1:Int):Int)) (cond (decide ((i1:Int)>0)) (cond (!(Z177.md ((a0.getD (toNat (i64.wrap ((i1:Int) - 1))) aa.zero).aq) y1)) (.inr ((i1:Int):Int)) (.inl ())) (.inl ()))) (cond (decide ((i1:Int)>0)) (cond (!(Z177.md ((a0.getD (toNat (i64.wrap ((i1:Int) - 1))) aa.zero).aq) y1)) (.inr ((i1:Int):Int)) (.inl ())) (.inl ())))) (fun (s3:Unit)=>((-1):Int)) 0 a0 ())
def gd (a0:List aa):Prop:=(bM (2^21) (fun y:aa=>aa.Sm (2^21) y) a0)
def R:=RR gd md
def an {a0}(h:gd a0):R (a0.map aa.row)=some (md a0):=aP (a:=a0) h
def aU:=CN [pL 141] oI RT.dec R
def bA (a0)(hg:gd a0):∃n,start (iter step n) (a0.map aa.row)=ret (md a0):=by
 unfold gd at hg
 have H0:=hg
 unfold start md
 try simp only [SS]
 have Bh2:a0.length<=maxLen:=(by
   have:=(H0).1
   try simp only [maxLen] at *
   omega)
 refine ex_eq (out:=ret) (cV (z:=aa.zero)) ?_
 refine dM (p:=Pt.p0 (a0.map aa.row) (a0.map aa.row) (a0.length:Int) 0) fz ?_
 refine ck (pt:=fun (i1:Nat) (s3:Unit)=>Pt.p0 (a0.map aa.row) (a0.map aa.row) (a0.length:Int) (i1:Int)) (s:=(():Unit)) (out:=ret) (fun _ _=>True) (fun J i1 s3 h2 hih2=>?_) (fun s3 hih2=>?_) trivial
 ·simp only [step,SS]
  have bb_:=Bh2
  simp only [maxLen] at bb_
  have:=(H0).1
  refine bC.yes (by apply decide_eq_true;omega) ?_
  refine bC.yes aI ?_
  refine bC.yes (aK h2) ?_
  refine bC.bif (fun c4=>?_) (fun c4=>?_)
  ·have dc4:=c4
   try simp only [DC] at dc4
   refine cr (Z167.an (bM.getD (z:=aa.zero) H0 h2)) ?_
   refine bC.bif (fun c5=>?_) (fun c5=>?_)
   ·refine bC.inr ?_
    all_goals exact fz
   ·have dc5:=c5
    try simp only [DC] at dc5
    refine bC.bif (fun c6=>?_) (fun c6=>?_)
    ·have dc6:=c6
     try simp only [DC] at dc6
     refine bC.yes dt ?_
     refine bC.yes (have:=(H0).1;dt) ?_
     refine cr (Z177.an ⟨(bM.getD (z:=aa.zero) H0 (by first | assumption | omega | (simp (disch:=omega) only [wi];omega) | (simp;omega))).1,(bM.getD (z:=aa.zero) H0 h2)⟩) ?_
     refine bC.bif (fun c7=>?_) (fun c7=>?_)
     ·refine bC.inr ?_
      all_goals exact fz
     ·refine bC.inl trivial ?_
      rw [aH h2 Bh2]
      all_goals exact fz
    ·refine bC.inl trivial ?_
     rw [aH h2 Bh2]
     all_goals exact fz
  ·have dc4:=c4
   try simp only [DC] at dc4
   refine bC.bif (fun c8=>?_) (fun c8=>?_)
   ·have dc8:=c8
    try simp only [DC] at dc8
    refine bC.yes dt ?_
    refine bC.yes (have:=(H0).1;dt) ?_
    refine cr (Z177.an ⟨(bM.getD (z:=aa.zero) H0 (by first | assumption | omega | (simp (disch:=omega) only [wi];omega) | (simp;omega))).1,(bM.getD (z:=aa.zero) H0 h2)⟩) ?_
    refine bC.bif (fun c9=>?_) (fun c9=>?_)
    ·refine bC.inr ?_
     all_goals exact fz
    ·refine bC.inl trivial ?_
     rw [aH h2 Bh2]
     all_goals exact fz
   ·refine bC.inl trivial ?_
    rw [aH h2 Bh2]
    all_goals exact fz
 ·simp only [step,SS]
  have:=(H0).1
  refine dx (by apply decide_eq_false;omega) ?_
  refine ⟨0,?_⟩
  all_goals exact fz
def af:cD 208 aU:=L1 36 pid bY bX live step start mix aE bA (.cons Z167.af (.cons Z177.af .nil)) Tryz.func208
def br (a0:List aa):md a0=Z72.md a0:=by
 unfold md Z72.md
 rw [<-cV (z:=aa.zero),<-cV (z:=aa.zero)]
 refine uh (fun _ _=>True) (fun i s hi _=>⟨?_,fun _ _=>trivial⟩) (fun _ _=>rfl) trivial
 simp only [Z167.br,Z177.br]
 by_cases h0:i=0
 ·subst h0;rfl
 ·have e:((i:Int)==0)=false:=beq_eq_false_iff_ne.2 (by omega)
  simp only [e,bu]
end Z178
namespace Z179
def F (x0:aB):aJ:=(call (Z135.R ((x0.length:Int),1,12)) fun v1=>(cond v1 (call (Z178.R x0) fun v2=>ret ((decide (v2<0)):Bool)) bf))
def md (a0:List aa):Bool:=(cond (Z135.md (a0.length:Int) 1 12) ((decide ((Z178.md a0)<0)):Bool) (false:Bool))
def gd (a0:List aa):Prop:=(bM (2^21) (fun y:aa=>aa.Sm (2^21) y) a0)
def R:=RR gd md
def an {a0}(h:gd a0):R (a0.map aa.row)=some (md a0):=aP (a:=a0) h
def aU:=CN [pL 141] oB RT.dec R
def bA (a0)(hg:gd a0):F (a0.map aa.row)=ret (md a0):=by
 unfold gd at hg
 have H0:=hg
 unfold F md
 try simp only [SS]
 refine ct (Z135.an trivial) ?_
 refine av ret (fun c1=>?_) (fun _=>rfl)
 refine ct (Z178.an H0) ?_
 all_goals exact fz
def af:cD 169 aU:=W1 11 F mix aE bA (.cons Z135.af (.cons Z178.af .nil)) Tryz.func169
def tr {a0:List aa}(h:md a0=true):1<=a0.length/\a0.length<=12:=by simp [md,Z135.md] at h;omega
def br (a0:List aa):md a0=Z73.md a0:=by
 unfold md Z73.md
 first
 | (simp only [Z135.br,Z178.br];done)
 | (simp only [Z135.br,Z178.br];rfl)
 | rfl
end Z179
namespace Z180
def F (x0:aB):aJ:=(cj (decide ((0:Int)<=(i64.wrap ((x0.length:Int) - 1)))) (cj (decide ((i64.wrap ((x0.length:Int) - 1))<(x0.length:Int))) (ret ((aR.at x0 (toNat (i64.wrap ((x0.length:Int) - 1)))).aq:cg))))
def md (a0:List aa):aF:=(a0.getD (toNat (i64.wrap ((a0.length:Int) - 1))) aa.zero).aq
def gd (a0:List aa):Prop:=(bM (2^21) (fun y:aa=>aa.Sm (2^21) y) a0)/\(1<=a0.length)
def R:=RR gd md
def an {a0}(h:gd a0):R (a0.map aa.row)=some (aF.r (md a0)):=aP (a:=a0) h
def aU:=CN [pL 141] (.agg [.rd (.int .i64),.rd (.int .i64),.rd (.int .i64),.rd (.int .i64),.rd (.int .i64),.rd (.int .i64),.rd (.int .i64),.rd (.int .i64),.rd (.sl 3),.rd (.int .i64),.rd (.sl 3),.rd (.int .i64),.rd (.int .i64),.rd (.sl 3),.rd (.int .i64),.rd (.bool)]) RT.dec R
def bA (a0)(hg:gd a0):F (a0.map aa.row)=ret (aF.r (md a0)):=by
 obtain ⟨H0,HX⟩:=hg
 unfold F md
 try simp only [SS]
 refine ak (have:=(H0).1;dt) ?_
 refine ak (have:=(H0).1;dt) ?_
 all_goals exact fz
def af:cD 215 aU:=W1 10 F mix aE bA .nil Tryz.func215
def fL {a0:List aa}(hg:gd a0):aF.Sm (2^21) (md a0):=by
 unfold gd at hg;unfold md
 have h1:=hg.1.1
 have h2:=hg.2
 exact (bM.getD hg.1 (by simp (disch:=omega) only [Go.IntWalk.i64_in];omega)).1
end Z180
namespace Z181
def F (x0:aY):aJ:=(call (Z136.R x0.bw) fun v1=>(cond (!v1) bf (cond (x0.bQ==1) (call (Z135.R (x0.cw,0,999999)) fun v2=>(cond v2 (ret (((x0.bK.length:Int)==0):Bool)) bf)) (cond (x0.bQ==2) (call (Z141.R x0.cw) fun v3=>(cond v3 (ret (((x0.bK.length:Int)==0):Bool)) bf)) (cond (x0.bQ==3) (call (Z141.R x0.cw) fun v4=>(cond v4 (call (Z140.R x0.bK) fun v5=>ret (v5:Bool)) bf)) bf)))))
def md (a0:ah):Bool:=(cond (!(Z136.md a0.bw)) (false:Bool) (cond (a0.bQ==1) (cond (Z135.md a0.cw 0 999999) (((a0.bK.length:Int)==0):Bool) (false:Bool)) (cond (a0.bQ==2) (cond (Z141.md a0.cw) (((a0.bK.length:Int)==0):Bool) (false:Bool)) (cond (a0.bQ==3) (cond (Z141.md a0.cw) ((Z140.md a0.bK):Bool) (false:Bool)) (false:Bool)))))
def gd (a0:ah):Prop:=(ah.Sm (2^21) a0)
def R:=RR gd md
def an {a0}(h:gd a0):R (ah.r a0)=some (md a0):=aP (a:=a0) h
def aU:=CN [.agg rV] oB RT.dec R
def bA (a0)(hg:gd a0):F (ah.r a0)=ret (md a0):=by
 unfold gd at hg
 have H0:=hg
 unfold F md
 try simp only [SS]
 refine ct (Z136.an (le_trans H0.1 (by decide))) ?_
 refine av ret (fun _=>rfl) (fun c1=>?_)
 refine av ret (fun c2=>?_) (fun c2=>?_)
 ·refine ct (Z135.an trivial) ?_
  refine av ret (fun c3=>?_) (fun _=>rfl)
  all_goals exact fz
 ·refine av ret (fun c4=>?_) (fun c4=>?_)
  ·refine ct (Z141.an trivial) ?_
   refine av ret (fun c5=>?_) (fun _=>rfl)
   all_goals exact fz
  ·refine av ret (fun c6=>?_) (fun _=>rfl)
   refine ct (Z141.an trivial) ?_
   refine av ret (fun c7=>?_) (fun _=>rfl)
   refine ct (Z140.an (H0.2.mono (by decide) (fun x hx=>(le_trans hx (by decide))))) ?_
   all_goals exact fz
def af:cD 253 aU:=W1 41 F mix aE bA (.cons Z136.af (.cons Z135.af (.cons Z141.af (.cons Z140.af .nil)))) Tryz.func253
def br (a0:ah):md a0=Z75.md a0:=by
 unfold md Z75.md
 simp only [Z136.br,Z135.br,Z141.md,Z140.br]
 cases Z46.md a0.bw<;>simp
end Z181
namespace Z182
set_option maxHeartbeats 1000000 in
set_option maxRecDepth 100000 in
open Go.RowKit in
def calls (a b:aD)(w:World):Calls Tryz.prog 305 #[.string a,.string b] w fun e w'=>e=.returned (.int .i64 (Lib.compareBytes a.data.toList b.data.toList))/\w'=w:=by
 go_enter Tryz.func305,Tryz.ntmps305
 go_wp2
 rw [run_callFunc_extern Tryz.func314 (by kernel_rfl) (by kernel_rfl) (by kernel_rfl) (e:=Extern.BytealgCompare.compare) (by kernel_rfl),Lib.run_compareString]
 simp only [Result.andThen]
 rw [Oper.upon_value]
 go_wp2
 go_ret
 exact ⟨rfl,rfl⟩
def md (a0 a1:aD):Int:=Lib.compareBytes a0.data.toList a1.data.toList
def R (x:aD×aD):Option Int:=some (md x.1 x.2)
def an {a0 a1:aD}(_:True):R (a0,a1)=some (md a0 a1):=rfl
def sem:List L->Option (List L)
 | [y0,y1]=>(R (y0.toStr,y1.toStr)).map RT.enc
 | _=>none
def aU:fR:=⟨[.rd .str,.rd .str],.one (.rd (.int .i64)),sem⟩
def af:cD 305 aU:=by
 refine tV ⟨Tryz.f305,Tryz.func305,by kernel_rfl,by kernel_rfl⟩ rfl (fun _=>rfl) fun ls r w vs Z hs hf=>?_
 simp only [aU] at hs
 unfold sem at hs
 split at hs
 ·rename_i a b
  cases hf with
  | cons h1 ht=>
   cases ht with
   | cons h2 ht=>
    cases ht
    have e1:_=Value.string a.toStr:=h1
    have e2:_=Value.string b.toStr:=h2
    subst e1;subst e2
    refine (calls a.toStr b.toStr w).mono fun e w' ⟨h3,h4⟩=>⟨_,h3,h4,?_⟩
    injection hs with hs
    subst hs
    rfl
 ·cases hs
end Z182
namespace Z183
def F (x0 x1:aD):aJ:=(call (Z182.R (x0,x1)) fun v1=>ret (v1:Int))
def md (a0 a1:aD):Int:=((Z182.md a0 a1):Int)
def gd (a0 a1:aD):Prop:=True
def R:=RR (p2 gd) (u2 md)
def an {a0 a1}(h:gd a0 a1):R (a0,a1)=some (md a0 a1):=aP (a:=(a0,a1)) h
def aU:=CN [pS,pS] oI RT.dec R
def bA (a0)(a1)(hg:gd a0 a1):F a0 a1=ret (md a0 a1):=by
 unfold F md
 try simp only [SS]
 refine ct (Z182.an trivial) ?_
 all_goals exact fz
def af:cD 282 aU:=W2 8 F mix aE bA (.cons Z182.af .nil) Tryz.func282
end Z183
namespace Z184
def F (x0 x1:aD):aJ:=(call (Z183.R (x0,x1)) fun v1=>ret (v1:Int))
def md (a0 a1:aD):Int:=((Z183.md a0 a1):Int)
def gd (a0 a1:aD):Prop:=True
def R:=RR (p2 gd) (u2 md)
def an {a0 a1}(h:gd a0 a1):R (a0,a1)=some (md a0 a1):=aP (a:=(a0,a1)) h
def aU:=CN [pS,pS] oI RT.dec R
def bA (a0)(a1)(hg:gd a0 a1):F a0 a1=ret (md a0 a1):=by
 unfold F md
 try simp only [SS]
 refine ct (Z183.an trivial) ?_
 all_goals exact fz
def af:cD 254 aU:=W2 8 F mix aE bA (.cons Z183.af .nil) Tryz.func254
def cmp:∀a b:List UInt8,Lib.compareBytes a b=(cond (Op.bytesLess a b) ((-1):Int) (cond (!((Op.bytesLess a b)||(a==b))) (1:Int) (0:Int)))
 | [],[]=>by simp [Lib.compareBytes,Op.bytesLess]
 | [],_::_=>by simp [Lib.compareBytes,Op.bytesLess]
 | _::_,[]=>by simp [Lib.compareBytes,Op.bytesLess]
 | a::xs,b::ys=>by
  simp only [Lib.compareBytes,Op.bytesLess]
  rw [cmp xs ys]
  by_cases h1:a<b
  ·simp [h1]
  ·by_cases h2:b<a
   ·have hne:a≠b:=fun e=>by subst e;exact h1 h2
    have hb:(a==b)=false:=beq_eq_false_iff_ne.2 hne
    simp [h1,h2,hb,hne]
   ·have he:a=b:=by
     have:=UInt8.lt_or_eq_of_le (UInt8.not_lt.1 h1)
     rcases this with h | h
     ·exact (h2 h).elim
     ·exact h.symm
    subst he
    simp [h1]
def br (a0 a1:aD):md a0 a1=Z76.md a0 a1:=by
 unfold md Z76.md Z183.md Z182.md
 rw [cmp,ByteArray.toList_eq,ByteArray.toList_eq]
end Z184
namespace Z185
inductive Pt where
 | p0 (a b:aB) (c d:Int)
def pid:Pt->Nat
 | .p0 ..=>2
def bY:Pt->List V
 | .p0 a b c d=>[.sl none 57 a,.sl none 57 b,.int .i64 c,.int .i64 d]
def bX:Pt->List aV
 | .p0 a b c d=>[]
def step (J:Pt->aJ):Pt->aJ
 | .p0 a b c d=>(cond (decide (d<c)) (m2 d (b.length:Int) (call (Z181.R (aY.at b (toNat d))) fun v1=>(cond (!v1) bf (cond (decide (d>0)) (cj (decide ((0:Int)<=(i64.wrap (d - 1)))) (cj (decide ((i64.wrap (d - 1))<(a.length:Int))) (call (Z184.R ((aY.at b (toNat d)).bw,(aY.at a (toNat (i64.wrap (d - 1)))).bw)) fun v2=>(cond (decide (v2<=0)) bf (J (.p0 a b c (i64.wrap (d+1)))))))) (J (.p0 a b c (i64.wrap (d+1)))))))) (ret ((decide ((a.length:Int)<=12)):Bool)))
def start (J:Pt->aJ)(x0:aB):aJ:=J (.p0 x0 x0 (x0.length:Int) 0)
def live:Nat->Live:=fun i=>match i with | 2=>[(0,none),(5,none),(6,none),(7,none)] | _=>[]
def md (a0:List ah):Bool:=(dD (S:=Unit) (β:=Bool) (fun (i1:Nat) (y1:ah) (s3:Unit)=>(cond (!(Z181.md y1)) (.inr (false:Bool)) (cond (decide ((i1:Int)>0)) (cond (decide ((Z184.md (y1.bw) ((a0.getD (toNat (i64.wrap ((i1:Int) - 1))) ah.zero).bw))<=0)) (.inr (false:Bool)) (.inl ())) (.inl ())))) (fun (s3:Unit)=>((decide ((a0.length:Int)<=12)):Bool)) 0 a0 ())
def gd (a0:List ah):Prop:=(bM (2^21) (fun y:ah=>ah.Sm (2^21) y) a0)
def R:=RR gd md
def an {a0}(h:gd a0):R (a0.map ah.row)=some (md a0):=aP (a:=a0) h
def aU:=CN [pL 57] oB RT.dec R
def bA (a0)(hg:gd a0):∃n,start (iter step n) (a0.map ah.row)=ret (md a0):=by
 unfold gd at hg
 have H0:=hg
 unfold start md
 try simp only [SS]
 have Bh2:a0.length<=maxLen:=(by
   have:=(H0).1
   try simp only [maxLen] at *
   omega)
 refine ex_eq (out:=ret) (cV (z:=ah.zero)) ?_
 refine dM (p:=Pt.p0 (a0.map ah.row) (a0.map ah.row) (a0.length:Int) 0) fz ?_
 refine ck (pt:=fun (i1:Nat) (s3:Unit)=>Pt.p0 (a0.map ah.row) (a0.map ah.row) (a0.length:Int) (i1:Int)) (s:=(():Unit)) (out:=ret) (fun _ _=>True) (fun J i1 s3 h2 hih2=>?_) (fun s3 hih2=>?_) trivial
 ·simp only [step,SS]
  have bb_:=Bh2
  simp only [maxLen] at bb_
  have:=(H0).1
  refine bC.yes (by apply decide_eq_true;omega) ?_
  refine bC.yes aI ?_
  refine bC.yes (aK h2) ?_
  refine cr (Z181.an (bM.getD (z:=ah.zero) H0 h2)) ?_
  refine bC.bif (fun _=>bC.inr rfl) (fun c4=>?_)
  have dc4:=c4
  try simp only [DC] at dc4
  refine bC.bif (fun c5=>?_) (fun c5=>?_)
  ·have dc5:=c5
   try simp only [DC] at dc5
   refine bC.yes dt ?_
   refine bC.yes (have:=(H0).1;dt) ?_
   refine cr (Z184.an trivial) ?_
   refine bC.bif (fun _=>bC.inr rfl) (fun c6=>?_)
   refine bC.inl trivial ?_
   rw [aH h2 Bh2]
   all_goals exact fz
  ·refine bC.inl trivial ?_
   rw [aH h2 Bh2]
   all_goals exact fz
 ·simp only [step,SS]
  have:=(H0).1
  refine dx (by apply decide_eq_false;omega) ?_
  refine ⟨0,?_⟩
  all_goals exact fz
def af:cD 221 aU:=L1 35 pid bY bX live step start mix aE bA (.cons Z181.af (.cons Z184.af .nil)) Tryz.func221
def br (a0:List ah):md a0=Z77.md a0:=by
 unfold md Z77.md
 refine kQ (fun i x _ s=>?_) (fun s=>rfl)
 simp only [Z181.br,Z184.br,Z76.swap]
end Z185
namespace Z186
inductive Pt where
 | p0 (a:aB) (b c:Int) (d:aB)
def pid:Pt->Nat
 | .p0 ..=>3
def bY:Pt->List V
 | .p0 a b c d=>[.own 0,.sl none 5 a,.int .i64 b,.int .i64 c]
def bX:Pt->List aV
 | .p0 a b c d=>[.row 3 d]
def step (J:Pt->aJ):Pt->aJ
 | .p0 a b c d=>(cond (decide (c<b)) (m2 c (a.length:Int) (cj (eS (((d.length:Int)+1)*8)) (J (.p0 a b (i64.wrap (c+1)) (d++[[L.int (i64.wrap (jt a (toNat c)))]]))))) (ret (d:aB)))
def start (J:Pt->aJ)(x0:aB):aJ:=J (.p0 x0 (x0.length:Int) 0 [[L.int (x0.length:Int)]])
def live:Nat->Live:=fun i=>match i with | 3=>[(3,none),(9,none),(10,none),(11,none)] | _=>[]
def md (a0:List Int):List Int:=([(a0.length:Int)]++a0.map (fun (y1:Int)=>(i64.wrap y1)))
def gd (a0:List Int):Prop:=(bM (2^38) (fun y:Int=>True) a0)
def R:=RR gd md
def an {a0}(h:gd a0):R (a0.map bq)=some ((md a0).map bq):=aP (a:=a0) h
def aU:=CN [pL 5] (oL 3) RT.dec R
def bA (a0)(hg:gd a0):∃n,start (iter step n) (a0.map bq)=ret ((md a0).map bq):=by
 unfold gd at hg
 have H0:=hg
 unfold start md
 try simp only [SS]
 have Bh2:a0.length<=maxLen:=(by
   have:=(H0).1
   try simp only [maxLen] at *
   omega)
 refine ex_eq (out:=(fun b:List Int=>ret ((b.map bq):aB))) (lS (g:=fun (y1:Int)=>(i64.wrap y1)) (z:=0) (t:=fun (s3:List Int)=>s3) (s:=[(a0.length:Int)])) ?_
 refine dM (p:=Pt.p0 (a0.map bq) (a0.length:Int) 0 ([(a0.length:Int)].map bq)) fz ?_
 refine ck (pt:=fun (i1:Nat) (s3:List Int)=>Pt.p0 (a0.map bq) (a0.length:Int) (i1:Int) (s3.map bq)) (s:=([(a0.length:Int)]:List Int)) (out:=(fun b:List Int=>ret ((b.map bq):aB))) (fun (i1:Nat) (s3:List Int)=>s3.length<=[(a0.length:Int)].length+1*i1) (fun J i1 s3 h2 hih2=>?_) (fun s3 hih2=>?_) (by simp)
 ·simp only [step,SS]
  have gr_:=hih2
  try simp only [LN] at gr_
  have:=(H0).1
  have bb_:=Bh2
  simp only [maxLen] at bb_
  have:=(H0).1
  refine bC.yes (by apply decide_eq_true;omega) ?_
  refine bC.yes aI ?_
  refine bC.yes (aK h2) ?_
  refine bC.yes lm ?_
  refine bC.inl (by
    have g_:=hih2
    try simp only [LN] at g_ ⊢
    first | omega | (simp;done) | (simp;omega)) ?_
  rw [aH h2 Bh2]
  all_goals exact fz
 ·simp only [step,SS]
  have gr_:=hih2
  try simp only [LN] at gr_
  have:=(H0).1
  have:=(H0).1
  refine dx (by apply decide_eq_false;omega) ?_
  refine ⟨0,?_⟩
  all_goals exact fz
def af:cD 313 aU:=L1 22 pid bY bX live step start mix aE bA .nil Tryz.func313
def len (a0:List Int):(md a0).length=1+a0.length:=by simp [md];omega
def br (a0:List Int):md a0=Z78.md a0:=by
 unfold md Z78.md
 first
 | (simp only [id];done)
 | (simp only [id];rfl)
 | rfl
end Z186
namespace Z187
def F (x0:aD):aJ:=(cj (decide ((x0.size:Int)<=140737488355328)) (call (Z186.R (ia x0)) fun v1=>ret (v1:aB)))
def md (a0:aD):List Int:=(Z186.md (iO a0))
def gd (a0:aD):Prop:=(a0.size<=(2^21))
def R:=RR gd md
def an {a0}(h:gd a0):R a0=some ((md a0).map bq):=aP (a:=a0) h
def aU:=CN [pS] (oL 3) RT.dec R
def bA (a0)(hg:gd a0):F a0=ret ((md a0).map bq):=by
 unfold gd at hg
 have H0:=hg
 unfold F md
 try simp only [SS]
 refine ak (have:=H0;dt) ?_
 refine aZ ((Z186.md (iO a0)).map bq) (rq (Z186.an (a0:=(iO a0)) ⟨(have:=gK a0;have:=H0;om),fun _ _=>trivial⟩)) ?_
 try simp only [SS]
 all_goals exact fz
def af:cD 304 aU:=W1 6 F mix aE bA (.cons Z186.af .nil) Tryz.func304
def len (a0:aD):(md a0).length=1+a0.size:=by simp [md,Z186.len,gK]
def br (a0:aD):md a0=Z79.md a0:=by
 unfold md Z79.md
 first
 | (simp only [Z186.br];done)
 | (simp only [Z186.br];rfl)
 | rfl
end Z187
namespace Z188
inductive Pt where
 | p0 (a:aB) (b c:Int) (d:aB)
def pid:Pt->Nat
 | .p0 ..=>3
def bY:Pt->List V
 | .p0 a b c d=>[.own 0,.sl none 9 a,.int .i64 b,.int .i64 c]
def bX:Pt->List aV
 | .p0 a b c d=>[.row 3 d]
def step (J:Pt->aJ):Pt->aJ
 | .p0 a b c d=>(cond (decide (c<b)) (m2 c (a.length:Int) (call (Z187.R (pV a (toNat c))) fun v1=>(cj (eS (((d.length:Int)+(v1.length:Int))*8)) (J (.p0 a b (i64.wrap (c+1)) (d++v1)))))) (ret (d:aB)))
def start (J:Pt->aJ)(x0:aY):aJ:=(call (Z187.R x0.bw) fun v1=>(cj (eS (((v1.length:Int)+3)*8)) (J (.p0 x0.bK (x0.bK.length:Int) 0 (v1++[[L.int x0.bQ],[L.int x0.cw],[L.int (x0.bK.length:Int)]])))))
def live:Nat->Live:=fun i=>match i with | 3=>[(3,none),(19,none),(20,none),(21,none)] | _=>[]
def md (a0:ah):List Int:=(((Z187.md a0.bw)++[a0.bQ,a0.cw,(a0.bK.length:Int)])++a0.bK.flatMap (fun (y1:aD)=>(Z187.md y1)))
def gd (a0:ah):Prop:=(ah.Sm (2^21) a0)
def R:=RR gd md
def an {a0}(h:gd a0):R (ah.r a0)=some ((md a0).map bq):=aP (a:=a0) h
def aU:=CN [.agg rV] (oL 3) RT.dec R
def bA (a0)(hg:gd a0):∃n,start (iter step n) (ah.r a0)=ret ((md a0).map bq):=by
 unfold gd at hg
 have H0:=hg
 unfold start md
 try simp only [SS]
 refine cx (Z187.an H0.1) ?_
 try simp only [SS]
 refine dF (have:=Z187.len a0.bw;have:=H0.1;lm) ?_
 have Bh2:a0.bK.length<=maxLen:=(by
   have:=(H0.2).1
   try simp only [maxLen] at *
   omega)
 refine ex_eq (out:=(fun b:List Int=>ret ((b.map bq):aB))) (qR (g:=fun (y1:aD)=>(Z187.md y1)) (z:=⟨#[]⟩) (t:=fun (s3:List Int)=>s3) (s:=((Z187.md a0.bw)++[a0.bQ,a0.cw,(a0.bK.length:Int)]))) ?_
 refine dM (p:=Pt.p0 (a0.bK.map cG) (a0.bK.length:Int) 0 (((Z187.md a0.bw)++[a0.bQ,a0.cw,(a0.bK.length:Int)]).map bq)) fz ?_
 refine ck (pt:=fun (i1:Nat) (s3:List Int)=>Pt.p0 (a0.bK.map cG) (a0.bK.length:Int) (i1:Int) (s3.map bq)) (s:=(((Z187.md a0.bw)++[a0.bQ,a0.cw,(a0.bK.length:Int)]):List Int)) (out:=(fun b:List Int=>ret ((b.map bq):aB))) (fun (i1:Nat) (s3:List Int)=>s3.length<=4+a0.bw.size+i1*(2^21+1)) (fun J i1 s3 h2 hih2=>?_) (fun s3 hih2=>?_) (by
   have:=(H0.2).1
   have:=Z187.len a0.bw
   have:=H0.1
   try simp only [LN]
   try simp
   try omega)
 ·simp only [step,SS]
  have gr_:=hih2
  try simp only [LN] at gr_
  have:=H0.1
  have bb_:=Bh2
  simp only [maxLen] at bb_
  have:=(H0.2).1
  refine bC.yes (by apply decide_eq_true;omega) ?_
  refine bC.yes aI ?_
  refine bC.yes (aK h2) ?_
  refine cr (Z187.an (bM.getD (z:=⟨#[]⟩) H0.2 h2)) ?_
  try simp only [SS]
  refine bC.yes (have:=Z187.len (a0.bK.getD i1 ⟨#[]⟩);have:=(bM.getD (z:=⟨#[]⟩) H0.2 h2);lm) ?_
  refine bC.inl (by
    have:=Z187.len (a0.bK.getD i1 ⟨#[]⟩)
    have:=(bM.getD (z:=⟨#[]⟩) H0.2 h2)
    have g_:=hih2
    try simp only [LN] at g_ ⊢
    first | omega | (simp;done) | (simp;omega)) ?_
  rw [aH h2 Bh2]
  all_goals exact fz
 ·simp only [step,SS]
  have gr_:=hih2
  try simp only [LN] at gr_
  have:=H0.1
  have:=(H0.2).1
  refine dx (by apply decide_eq_false;omega) ?_
  refine ⟨0,?_⟩
  all_goals exact fz
def af:cD 280 aU:=L1 31 pid bY bX live step start mix aE bA (.cons Z187.af .nil) Tryz.func280
def fL {a0:ah}(hg:gd a0):bM (2^43 - 1) (fun y:Int=>True) (md a0):=by
 unfold gd at hg
 refine ⟨?_,fun _ _=>trivial⟩
 unfold md
 have h1:=lJ (xs:=a0.bK) (g:=fun y=>Z187.md y) (n:=2^21+1) (fun x hx=>by rw [Z187.len];have:=hg.2.2 x hx;omega)
 have h2:=hg.1
 have h3:=hg.2.1
 have h4:=Z187.len a0.bw
 simp only [List.length_append,List.length_cons,List.length_nil]
 omega
def br (a0:ah):md a0=Z80.md a0:=by
 unfold md Z80.md
 first
 | (simp only [Z187.br];done)
 | (simp only [Z187.br];rfl)
 | rfl
end Z188
namespace Z189
def F (x0:aY):aJ:=(call (Z188.R x0) fun v1=>(cj (eS (((1:Int)+(v1.length:Int))*8)) (call (Z152.R ([[L.int 227]]++v1)) fun v2=>ret (v2:Int))))
def md (a0:ah):Int:=((Z152.md ([227]++(Z188.md a0))):Int)
def gd (a0:ah):Prop:=(ah.Sm (2^21) a0)
def R:=RR gd md
def an {a0}(h:gd a0):R (ah.r a0)=some (md a0):=aP (a:=a0) h
def aU:=CN [.agg rV] oI RT.dec R
def bA (a0)(hg:gd a0):F (ah.r a0)=ret (md a0):=by
 unfold gd at hg
 have H0:=hg
 unfold F md
 try simp only [SS]
 refine ct (Z188.an H0) ?_
 try simp only [SS]
 refine ak (have:=((Z188.fL (a0:=a0) H0)).1;lm) ?_
 refine aZ (Z152.md ([227]++(Z188.md a0))) (rq (Z152.an (a0:=([227]++(Z188.md a0))) ⟨(have:=((Z188.fL (a0:=a0) H0)).1;om),fun _ _=>trivial⟩)) ?_
 all_goals exact fz
def af:cD 252 aU:=W1 8 F mix aE bA (.cons Z188.af (.cons Z152.af .nil)) Tryz.func252
def br (a0:ah):md a0=Z81.md a0:=by
 unfold md Z81.md
 first
 | (simp only [Z188.br,Z152.br];done)
 | (simp only [Z188.br,Z152.br];rfl)
 | rfl
end Z189
namespace Z190
inductive Pt where
 | p0 (a:aB) (b c:Int) (d:aB)
def pid:Pt->Nat
 | .p0 ..=>3
def bY:Pt->List V
 | .p0 a b c d=>[.own 0,.sl none 57 a,.int .i64 b,.int .i64 c]
def bX:Pt->List aV
 | .p0 a b c d=>[.row 3 d]
def step (J:Pt->aJ):Pt->aJ
 | .p0 a b c d=>(cond (decide (c<b)) (m2 c (a.length:Int) (call (Z189.R (aY.at a (toNat c))) fun v1=>(cj (eS (((d.length:Int)+1)*8)) (J (.p0 a b (i64.wrap (c+1)) (d++[[L.int v1]])))))) (ret (d:aB)))
def start (J:Pt->aJ)(x0:aB):aJ:=J (.p0 x0 (x0.length:Int) 0 [])
def live:Nat->Live:=fun i=>match i with | 3=>[(3,some 3),(7,none),(8,none),(9,none)] | _=>[]
def md (a0:List ah):List Int:=(a0.map (fun (y1:ah)=>(Z189.md y1)))
def gd (a0:List ah):Prop:=(bM (2^21) (fun y:ah=>ah.Sm (2^21) y) a0)
def R:=RR gd md
def an {a0}(h:gd a0):R (a0.map ah.row)=some ((md a0).map bq):=aP (a:=a0) h
def aU:=CN [pL 57] (oL 3) RT.dec R
def bA (a0)(hg:gd a0):∃n,start (iter step n) (a0.map ah.row)=ret ((md a0).map bq):=by
 unfold gd at hg
 have H0:=hg
 unfold start md
 try simp only [SS]
 have Bh2:a0.length<=maxLen:=(by
   have:=(H0).1
   try simp only [maxLen] at *
   omega)
 refine ex_eq (out:=(fun b:List Int=>ret ((b.map bq):aB))) (mE (g:=fun (y1:ah)=>(Z189.md y1)) (z:=ah.zero) (t:=fun (s3:List Int)=>s3)) ?_
 refine dM (p:=Pt.p0 (a0.map ah.row) (a0.length:Int) 0 ([].map bq)) fz ?_
 refine ck (pt:=fun (i1:Nat) (s3:List Int)=>Pt.p0 (a0.map ah.row) (a0.length:Int) (i1:Int) (s3.map bq)) (s:=([]:List Int)) (out:=(fun b:List Int=>ret ((b.map bq):aB))) (fun (i1:Nat) (s3:List Int)=>s3.length<=([]:List Int).length+1*i1) (fun J i1 s3 h2 hih2=>?_) (fun s3 hih2=>?_) (by simp)
 ·simp only [step,SS]
  have gr_:=hih2
  try simp only [LN] at gr_
  have bb_:=Bh2
  simp only [maxLen] at bb_
  have:=(H0).1
  refine bC.yes (by apply decide_eq_true;omega) ?_
  refine bC.yes aI ?_
  refine bC.yes (aK h2) ?_
  refine cr (Z189.an (bM.getD (z:=ah.zero) H0 h2)) ?_
  refine bC.yes lm ?_
  refine bC.inl (by
    have g_:=hih2
    try simp only [LN] at g_ ⊢
    first | omega | (simp;done) | (simp;omega)) ?_
  rw [aH h2 Bh2]
  all_goals exact fz
 ·simp only [step,SS]
  have gr_:=hih2
  try simp only [LN] at gr_
  have:=(H0).1
  refine dx (by apply decide_eq_false;omega) ?_
  refine ⟨0,?_⟩
  all_goals exact fz
def af:cD 220 aU:=L1 20 pid bY bX live step start mix aE bA (.cons Z189.af .nil) Tryz.func220
def len (a0:List ah):(md a0).length=a0.length:=by simp [md]
def br (a0:List ah):md a0=Z82.md a0:=by
 unfold md Z82.md
 first
 | (simp only [Z189.br];done)
 | (simp only [Z189.br];rfl)
 | rfl
end Z190
namespace Z191
def F (x0:aB):aJ:=(call (Z152.R x0) fun v1=>ret (v1:Int))
def md (a0:List Int):Int:=((Z152.md a0):Int)
def gd (a0:List Int):Prop:=(bM (2^42) (fun y:Int=>True) a0)
def R:=RR gd md
def an {a0}(h:gd a0):R (a0.map bq)=some (md a0):=aP (a:=a0) h
def aU:=CN [pL 3] oI RT.dec R
def bA (a0)(hg:gd a0):F (a0.map bq)=ret (md a0):=by
 unfold gd at hg
 have H0:=hg
 unfold F md
 try simp only [SS]
 refine ct (Z152.an (H0.mono (by decide) (fun x hx=>trivial))) ?_
 all_goals exact fz
def af:cD 287 aU:=W1 5 F mix aE bA (.cons Z152.af .nil) Tryz.func287
def br (a0:List Int):md a0=Z54.md a0:=by
 unfold md
 exact Z152.br a0
end Z191
namespace Z192
def F (x0 x1:Int):aJ:=(call (Z191.R [[L.int 229],[L.int x0],[L.int x1]]) fun v1=>ret (v1:Int))
def md (a0 a1:Int):Int:=((Z191.md [229,a0,a1]):Int)
def gd (a0 a1:Int):Prop:=True
def R:=RR (p2 gd) (u2 md)
def an {a0 a1}(h:gd a0 a1):R (a0,a1)=some (md a0 a1):=aP (a:=(a0,a1)) h
def aU:=CN [pI,pI] oI RT.dec R
def bA (a0)(a1)(hg:gd a0 a1):F a0 a1=ret (md a0 a1):=by
 unfold F md
 try simp only [SS]
 refine aZ (Z191.md [229,a0,a1]) (rq (Z191.an (a0:=[229,a0,a1]) ⟨(om),fun _ _=>trivial⟩)) ?_
 all_goals exact fz
def af:cD 278 aU:=W2 9 F mix aE bA (.cons Z191.af .nil) Tryz.func278
def br (a0 a1:Int):md a0 a1=Z83.md a0 a1:=by
 unfold md Z83.md
 first
 | (simp only [Z191.br];done)
 | (simp only [Z191.br];rfl)
 | rfl
end Z192
namespace Z193
inductive Pt where
 | p0 (a:aB) (b:Int) (c:aB)
def pid:Pt->Nat
 | .p0 ..=>3
def bY:Pt->List V
 | .p0 a b c=>[.sl none 3 a,.own 0,.int .i64 b]
def bX:Pt->List aV
 | .p0 a b c=>[.row 3 c]
def step (J:Pt->aJ):Pt->aJ
 | .p0 a b c=>(cond (decide (b<(a.length:Int))) (cond (decide ((i64.wrap (b+1))<(a.length:Int))) (m2 b (a.length:Int) (cj (decide ((0:Int)<=(i64.wrap (b+1)))) (cj (decide ((i64.wrap (b+1))<(a.length:Int))) (call (Z192.R ((jt a (toNat b)),(jt a (toNat (i64.wrap (b+1)))))) fun v1=>(cj (eS (((c.length:Int)+1)*8)) (J (.p0 a (i64.wrap (b+2)) (c++[[L.int v1]])))))))) (m2 b (a.length:Int) (cj (eS (((c.length:Int)+1)*8)) (J (.p0 a (i64.wrap (b+2)) (c++[[L.int (jt a (toNat b))]])))))) (ret (c:aB)))
def start (J:Pt->aJ)(x0:aB):aJ:=J (.p0 x0 0 [])
def live:Nat->Live:=fun i=>match i with | 3=>[(0,none),(3,some 3),(4,none)] | _=>[]
def md (a0:List Int):List Int:=Z84.md a0
def gd (a0:List Int):Prop:=bM (2^38) (fun y:Int=>True) a0
def R:=RR gd md
def an {a0}(h:gd a0):R (a0.map bq)=some ((md a0).map bq):=aP (a:=a0) h
def aU:=CN [pL 3] (oL 3) RT.dec R
def bA (a0)(hg:gd a0):∃n,start (iter step n) (a0.map bq)=ret ((md a0).map bq):=by
 obtain ⟨H1,_⟩:=hg
 have key:∀(k i:Nat) (c:List Int),i+k=a0.length->c.length<=i->∃n,iter step n (Pt.p0 (a0.map bq) (i:Int) (c.map bq))=ret ((c++Z84.up (a0.drop i)).map bq:aB):=by
  intro k
  induction k using Nat.strongRecOn with
  | _ k ih=>
  intro i c hi hc
  match k,hi,ih with
  | 0,hi,_=>
   refine ⟨1,?_⟩
   show step (iter step 0) (Pt.p0 _ _ _)=_
   simp only [step,List.length_map]
   refine cH (decide_eq_false (by omega)) ?_
   rw [List.drop_eq_nil_of_le (by omega)]
   simp only [Z84.up,List.append_nil]
  | 1,hi,ih=>
   obtain ⟨n,hn⟩:=ih 0 (by omega) (i+1) (c++[a0.getD i 0]) (by omega) (by simp;omega)
   have h2:∃n,iter step n (Pt.p0 (a0.map bq) (i64.wrap ((i:Int)+2)) ((c++[a0.getD i 0]).map bq))=ret ((c++[a0.getD i 0]).map bq:aB):=by
    refine ⟨1,?_⟩
    show step (iter step 0) (Pt.p0 _ _ _)=_
    simp only [step,List.length_map]
    refine cH (decide_eq_false ?_) rfl
    rw [Go.IntWalk.i64_in _ (by omega)];omega
   obtain ⟨n,hn⟩:=h2
   refine ⟨n+1,?_⟩
   show step (iter step n) (Pt.p0 _ _ _)=_
   simp only [step,List.length_map,cz,gL]
   refine ak (decide_eq_true (by omega)) (cH (decide_eq_false ?_) (ak (decide_eq_true (by omega)) (ak (decide_eq_true (by omega)) (ak (iF (by omega)) ?_))))
   ·rw [Go.IntWalk.i64_in _ (by omega)];omega
   ·rw [List.map_append] at hn
    refine Eq.trans hn ?_
    rw [List.drop_eq_getElem_cons (by omega),List.drop_eq_nil_of_le (by omega),eJ (by omega:i<a0.length)]
    simp only [Z84.up,List.map_append]
  | k+2,hi,ih=>
   obtain ⟨n,hn⟩:=ih k (by omega) (i+2) (c++[Z83.md (a0.getD i 0) (a0.getD (i+1) 0)]) (by omega) (by simp;omega)
   refine ⟨n+1,?_⟩
   show step (iter step n) (Pt.p0 _ _ _)=_
   have w1:i64.wrap ((i:Int)+1)=((i+1:Nat):Int):=by rw [Go.IntWalk.i64_in _ (by omega)];omega
   have w2:i64.wrap ((i:Int)+2)=((i+2:Nat):Int):=by rw [Go.IntWalk.i64_in _ (by omega)];omega
   simp only [step,List.length_map,w1,w2,cz,gL]
   refine ak (decide_eq_true (by omega)) (ak (decide_eq_true (by omega)) (ak (decide_eq_true (by omega)) (ak (decide_eq_true (by omega)) (ak (decide_eq_true (by omega)) (ak (decide_eq_true (by omega)) ?_)))))
   refine aZ (Z83.md (a0.getD i 0) (a0.getD (i+1) 0)) (by have:=Z192.an (a0:=a0.getD i 0) (a1:=a0.getD (i+1) 0) trivial;rw [Z192.br] at this;exact this) (ak (iF (by omega)) ?_)
   rw [List.map_append] at hn
   refine Eq.trans hn ?_
   rw [List.drop_eq_getElem_cons (by omega:i<a0.length),List.drop_eq_getElem_cons (by omega:i+1<a0.length),eJ (by omega:i<a0.length),eJ (by omega:i+1<a0.length)]
   simp only [Z84.up,List.append_assoc,List.cons_append,List.nil_append]
 have:=key a0.length 0 [] (by omega) (by simp)
 unfold start md Z84.md
 simpa using this
def af:cD 251 aU:=L1 38 pid bY bX live step start mix aE bA (.cons Z192.af .nil) Tryz.func251
def br (a0:List Int):md a0=Z84.md a0:=by
 unfold md Z84.md
 first
 | (simp only [Z192.br];done)
 | (simp only [Z192.br];rfl)
 | rfl
end Z193
namespace Z194
inductive Pt where
 | p0 (a:aB)
 | p1 (a:aB)
def pid:Pt->Nat
 | .p0 ..=>3
 | .p1 ..=>3
def bY:Pt->List V
 | .p0 a=>[.sl none 3 a]
 | .p1 a=>[.own 0]
def bX:Pt->List aV
 | .p0 a=>[]
 | .p1 a=>[.row 3 a]
def step (J:Pt->aJ):Pt->aJ
 | .p0 a=>(cond (decide ((a.length:Int)>1)) (call (Z193.R a) fun v1=>J (.p1 v1)) (cj (decide ((0:Int)<(a.length:Int))) (ret ((jt a 0):Int))))
 | .p1 a=>(cond (decide ((a.length:Int)>1)) (call (Z193.R a) fun v1=>J (.p1 v1)) (cj (decide ((0:Int)<(a.length:Int))) (ret ((jt a 0):Int))))
def start (J:Pt->aJ)(x0:aB):aJ:=(cond ((x0.length:Int)==0) (call (Z191.R [[L.int 229]]) fun v1=>ret (v1:Int)) (J (.p0 x0)))
def live:Nat->Live:=fun i=>match i with | 3=>[(0,none)] | _=>[]
def md (a0:List Int):Int:=Z85.md a0
def gd (a0:List Int):Prop:=bM (2^38) (fun y:Int=>True) a0
def R:=RR gd md
def an {a0}(h:gd a0):R (a0.map bq)=some (md a0):=aP (a:=a0) h
def aU:=CN [pL 3] oI RT.dec R
def bA (a0)(hg:gd a0):∃n,start (iter step n) (a0.map bq)=ret (md a0):=by
 have one:∀(l:List Int) (r:Int) (n:Nat),bM (2^38) (fun y:Int=>True) l->0<l.length->(if l.length>1 then iter step n (Pt.p1 ((Z84.up l).map bq))=ret r else ret (l.getD 0 0:Int)=ret r)->step (iter step n) (Pt.p0 (l.map bq))=ret r/\step (iter step n) (Pt.p1 (l.map bq))=ret r:=by
  intro l r n hl hp h
  simp only [step,List.length_map,gL]
  by_cases h1:l.length>1
  ·rw [if_pos h1] at h
   have hx:∀y:aJ,(cond (decide ((l.length:Int)>1)) (call (Z193.R (l.map bq)) (fun v1=>iter step n (Pt.p1 v1))) y)=ret r:=fun y=>
    ak (decide_eq_true (by omega)) (aZ ((Z84.up l).map bq) (Z193.an hl) h)
   exact ⟨hx _,hx _⟩
  ·rw [if_neg h1] at h
   have hx:∀y:aJ,(cond (decide ((l.length:Int)>1)) y (cond (decide ((0:Int)<(l.length:Int))) (ret (l.getD 0 0:Int)) none))=ret r:=fun y=>
    cH (decide_eq_false (by omega)) (ak (decide_eq_true (by omega)) h)
   exact ⟨hx _,hx _⟩
 have key:∀(k:Nat) (l:List Int),bM (2^38) (fun y:Int=>True) l->0<l.length->l.length<=k+1->∃n,step (iter step n) (Pt.p0 (l.map bq))=ret (Z85.top k l)/\step (iter step n) (Pt.p1 (l.map bq))=ret (Z85.top k l):=by
  intro k
  induction k with
  | zero=>
   intro l hl hp hk
   exact ⟨0,one l _ 0 hl hp (by rw [if_neg (by omega)];rfl)⟩
  | succ k ih=>
   intro l hl hp hk
   by_cases h1:l.length>1
   ·have hu:=Z84.kf l
    have hl1:=hl.1
    obtain ⟨n,_,hn⟩:=ih (Z84.up l) ⟨by omega,fun _ _=>trivial⟩ (by omega) (by omega)
    refine ⟨n+1,one l _ (n+1) hl hp ?_⟩
    rw [if_pos h1]
    refine Eq.trans hn ?_
    unfold Z85.top
    rw [if_pos h1]
    cases k<;>rfl
   ·refine ⟨0,one l _ 0 hl hp ?_⟩
    rw [if_neg h1]
    unfold Z85.top
    rw [if_neg h1]
 unfold md Z85.md
 unfold start
 simp only [List.length_map]
 by_cases h0:a0.length=0
 ·have e:((a0.length:Int)==0)=true:=by simpa using List.length_eq_zero_iff.1 h0
  refine ⟨0,?_⟩
  rw [e]
  refine aZ (Z54.md [229]) (by have:=Z191.an (a0:=[229]) ⟨by decide,fun _ _=>trivial⟩;rw [Z191.br] at this;exact this) ?_
  rw [if_pos h0]
 ·have e:((a0.length:Int)==0)=false:=beq_eq_false_iff_ne.2 (by omega)
  obtain ⟨n,hn,_⟩:=key a0.length a0 hg (by omega) (by omega)
  refine ⟨n+1,?_⟩
  rw [e,if_neg h0]
  exact hn
def af:cD 277 aU:=L1 16 pid bY bX live step start mix aE bA (.cons Z191.af (.cons Z193.af .nil)) Tryz.func277
def br (a0:List Int):md a0=Z85.md a0:=by
 unfold md Z85.md
 first
 | (simp only [Z191.br,Z193.br];done)
 | (simp only [Z191.br,Z193.br];rfl)
 | rfl
end Z194
namespace Z195
def F (x0 x1:Int):aJ:=(call (Z191.R [[L.int 231],[L.int x0],[L.int x1]]) fun v1=>ret (v1:Int))
def md (a0 a1:Int):Int:=((Z191.md [231,a0,a1]):Int)
def gd (a0 a1:Int):Prop:=True
def R:=RR (p2 gd) (u2 md)
def an {a0 a1}(h:gd a0 a1):R (a0,a1)=some (md a0 a1):=aP (a:=(a0,a1)) h
def aU:=CN [pI,pI] oI RT.dec R
def bA (a0)(a1)(hg:gd a0 a1):F a0 a1=ret (md a0 a1):=by
 unfold F md
 try simp only [SS]
 refine aZ (Z191.md [231,a0,a1]) (rq (Z191.an (a0:=[231,a0,a1]) ⟨(om),fun _ _=>trivial⟩)) ?_
 all_goals exact fz
def af:cD 265 aU:=W2 9 F mix aE bA (.cons Z191.af .nil) Tryz.func265
def br (a0 a1:Int):md a0 a1=Z86.md a0 a1:=by
 unfold md Z86.md
 first
 | (simp only [Z191.br];done)
 | (simp only [Z191.br];rfl)
 | rfl
end Z195
namespace Z196
def F (x0:aB):aJ:=(call (Z190.R x0) fun v1=>(call (Z194.R v1) fun v2=>(call (Z195.R ((x0.length:Int),v2)) fun v3=>ret (v3:Int))))
def md (a0:List ah):Int:=((Z195.md (a0.length:Int) (Z194.md (Z190.md a0))):Int)
def gd (a0:List ah):Prop:=(bM (2^21) (fun y:ah=>ah.Sm (2^21) y) a0)
def R:=RR gd md
def an {a0}(h:gd a0):R (a0.map ah.row)=some (md a0):=aP (a:=a0) h
def aU:=CN [pL 57] oI RT.dec R
def bA (a0)(hg:gd a0):F (a0.map ah.row)=ret (md a0):=by
 unfold gd at hg
 have H0:=hg
 unfold F md
 try simp only [SS]
 refine ct (Z190.an H0) ?_
 try simp only [SS]
 refine ct (Z194.an ⟨(have:=Z190.len a0;have:=(H0).1;om),fun _ _=>trivial⟩) ?_
 refine ct (Z195.an trivial) ?_
 all_goals exact fz
def af:cD 250 aU:=W1 9 F mix aE bA (.cons Z190.af (.cons Z194.af (.cons Z195.af .nil))) Tryz.func250
def br (a0:List ah):md a0=Z87.md a0:=by
 unfold md Z87.md
 first
 | (simp only [Z190.br,Z194.br,Z195.br];done)
 | (simp only [Z190.br,Z194.br,Z195.br];rfl)
 | rfl
end Z196
namespace Z197
def F (x0:Int)(x1:aB):aJ:=(call (Z185.R x1) fun v1=>(cond v1 (call (Z196.R x1) fun v2=>ret ((v2==x0):Bool)) bf))
def md (a0:Int)(a1:List ah):Bool:=(cond (Z185.md a1) (((Z196.md a1)==a0):Bool) (false:Bool))
def gd (a0:Int)(a1:List ah):Prop:=(bM (2^21) (fun y:ah=>ah.Sm (2^21) y) a1)
def R:=RR (p2 gd) (u2 md)
def an {a0 a1}(h:gd a0 a1):R (a0,(a1.map ah.row))=some (md a0 a1):=aP (a:=(a0,a1)) h
def aU:=CN [pI,pL 57] oB RT.dec R
def bA (a0)(a1)(hg:gd a0 a1):F a0 (a1.map ah.row)=ret (md a0 a1):=by
 unfold gd at hg
 have H1:=hg
 unfold F md
 try simp only [SS]
 refine ct (Z185.an H1) ?_
 refine av ret (fun c1=>?_) (fun _=>rfl)
 refine ct (Z196.an H1) ?_
 all_goals exact fz
def af:cD 216 aU:=W2 13 F mix aE bA (.cons Z185.af (.cons Z196.af .nil)) Tryz.func216
def br (a0:Int)(a1:List ah):md a0 a1=Z88.md a0 a1:=by
 unfold md Z88.md
 first
 | (simp only [Z185.br,Z196.br];done)
 | (simp only [Z185.br,Z196.br];rfl)
 | rfl
end Z197
end Go.DM
end
