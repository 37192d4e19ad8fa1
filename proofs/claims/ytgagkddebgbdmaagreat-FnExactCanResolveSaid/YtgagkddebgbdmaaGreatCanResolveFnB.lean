/- What the functions compute that the law reaches, and that the law returns true. Conditions: none. -/
import Derived.Test.YtgagkddebgbdmaaGreatCanResolveTy
import Derived.Test.YtgagkddebgbdmaaGreatCanResolveFnA
set_option linter.all false
set_option maxRecDepth 100000
noncomputable section
namespace Go.DM
open Go.Proofs
open Go.IntKind (i64)
open Int (toNat)
open Nat (le_trans zero_le)
namespace Z109
inductive Pt where
 | p0 (a b:aF) (c d e f g h i j k l m n o:Int) (p:Bool) (q s t u v w y z w24 w25 w26 w27:Int) (w28:Bool) (w29 w30 w31 w32 w33 w34 w35 w36 w37 w38 w39 w40:Int) (w41:Bool)
def pid:Pt->Nat
 | .p0 ..=>4
def cQ:Pt->List V
 | .p0 a b c d e f g h i j k l m n o p q s t u v w y z w24 w25 w26 w27 w28 w29 w30 w31 w32 w33 w34 w35 w36 w37 w38 w39 w40 w41=>[.sl none 178 a,.sl none 178 b,.cj 0 0,.int .i64 c]
def cR:Pt->List aS
 | .p0 a b c d e f g h i j k l m n o p q s t u v w y z w24 w25 w26 w27 w28 w29 w30 w31 w32 w33 w34 w35 w36 w37 w38 w39 w40 w41=>[.box [.int .i64 d,.int .i64 e,.int .i64 f,.int .i64 g,.int .i64 h,.int .i64 i,.int .i64 j,.int .i64 k,.nil,.int .i64 l,.nil,.int .i64 m,.int .i64 n,.nil,.int .i64 o,.bool p,.nil,.int .i64 q,.int .i64 s,.int .i64 t,.int .i64 u,.int .i64 v,.int .i64 w,.int .i64 y,.int .i64 z,.nil,.int .i64 w24,.nil,.int .i64 w25,.int .i64 w26,.nil,.int .i64 w27,.bool w28,.nil,.int .i64 w29,.int .i64 w30,.int .i64 w31,.int .i64 w32,.int .i64 w33,.int .i64 w34,.int .i64 w35,.int .i64 w36,.nil,.int .i64 w37,.nil,.int .i64 w38,.int .i64 w39,.nil,.int .i64 w40,.bool w41,.nil]]
def step (J:Pt->aH):Pt->aH
 | .p0 a b c d e f g h i j k l m n o p q s t u v w y z w24 w25 w26 w27 w28 w29 w30 w31 w32 w33 w34 w35 w36 w37 w38 w39 w40 w41=>(cond (decide (c<(a.length:Int))) (cond (decide (c<(b.length:Int))) (m2 c (a.length:Int) (m2 c (b.length:Int) (call (Z106.R ((aT.at a (toNat c)).ay,(aT.at b (toNat c)).ay)) fun v1=>(cond v1 (J (.p0 a b (i64.wrap (c+1)) d e f g h i j k l m n o p q s t u v w y z w24 w25 w26 w27 w28 w29 w30 w31 w32 w33 w34 w35 w36 w37 w38 w39 w40 w41)) (m2 c (a.length:Int) (call (Z39.R (aT.at a (toNat c))) fun v2=>(m2 c (b.length:Int) (call (Z39.R (aT.at b (toNat c))) fun v3=>(cond (decide (c>0)) (cK (decide ((0:Int)<=(i64.wrap (c - 1)))) (cK (decide ((i64.wrap (c - 1))<(a.length:Int))) (call (Z39.R (aT.at a (toNat (i64.wrap (c - 1))))) fun v4=>ret (((⟨v4,v2,v3⟩:cu),true):cu×Bool)))) (ret (((⟨(⟨(⟨0,0,0,0,0,0,0,0,(⟨[],0⟩:bC),(⟨[],0⟩:bC),0,(⟨[],0⟩:bC),false⟩:bW),[]⟩:aT),v2,v3⟩:cu),true):cu×Bool))))))))))) (m2 c (a.length:Int) (call (Z39.R (aT.at a (toNat c))) fun v5=>(m2 c (b.length:Int) (call (Z39.R (aT.at b (toNat c))) fun v6=>(cond (decide (c>0)) (cK (decide ((0:Int)<=(i64.wrap (c - 1)))) (cK (decide ((i64.wrap (c - 1))<(a.length:Int))) (call (Z39.R (aT.at a (toNat (i64.wrap (c - 1))))) fun v7=>ret (((⟨v7,v5,v6⟩:cu),true):cu×Bool)))) (ret (((⟨(⟨(⟨0,0,0,0,0,0,0,0,(⟨[],0⟩:bC),(⟨[],0⟩:bC),0,(⟨[],0⟩:bC),false⟩:bW),[]⟩:aT),v5,v6⟩:cu),true):cu×Bool)))))))) (m2 c (a.length:Int) (call (Z39.R (aT.at a (toNat c))) fun v8=>(m2 c (b.length:Int) (call (Z39.R (aT.at b (toNat c))) fun v9=>(cond (decide (c>0)) (cK (decide ((0:Int)<=(i64.wrap (c - 1)))) (cK (decide ((i64.wrap (c - 1))<(a.length:Int))) (call (Z39.R (aT.at a (toNat (i64.wrap (c - 1))))) fun v10=>ret (((⟨v10,v8,v9⟩:cu),true):cu×Bool)))) (ret (((⟨(⟨(⟨0,0,0,0,0,0,0,0,(⟨[],0⟩:bC),(⟨[],0⟩:bC),0,(⟨[],0⟩:bC),false⟩:bW),[]⟩:aT),v8,v9⟩:cu),true):cu×Bool))))))))
def start (J:Pt->aH)(x0 x1:aF):aH:=(call (Z78.R x0) fun v1=>(cond (!v1) (ret (((⟨(⟨(⟨0,0,0,0,0,0,0,0,(⟨[],0⟩:bC),(⟨[],0⟩:bC),0,(⟨[],0⟩:bC),false⟩:bW),[]⟩:aT),(⟨(⟨0,0,0,0,0,0,0,0,(⟨[],0⟩:bC),(⟨[],0⟩:bC),0,(⟨[],0⟩:bC),false⟩:bW),[]⟩:aT),(⟨(⟨0,0,0,0,0,0,0,0,(⟨[],0⟩:bC),(⟨[],0⟩:bC),0,(⟨[],0⟩:bC),false⟩:bW),[]⟩:aT)⟩:cu),false):cu×Bool)) (call (Z78.R x1) fun v2=>(cond (!v2) (ret (((⟨(⟨(⟨0,0,0,0,0,0,0,0,(⟨[],0⟩:bC),(⟨[],0⟩:bC),0,(⟨[],0⟩:bC),false⟩:bW),[]⟩:aT),(⟨(⟨0,0,0,0,0,0,0,0,(⟨[],0⟩:bC),(⟨[],0⟩:bC),0,(⟨[],0⟩:bC),false⟩:bW),[]⟩:aT),(⟨(⟨0,0,0,0,0,0,0,0,(⟨[],0⟩:bC),(⟨[],0⟩:bC),0,(⟨[],0⟩:bC),false⟩:bW),[]⟩:aT)⟩:cu),false):cu×Bool)) (cK (decide ((0:Int)<(x0.length:Int))) (cK (decide ((0:Int)<(x1.length:Int))) (cond ((aT.at x0 0).ay.bw != (aT.at x1 0).ay.bw) (ret (((⟨(⟨(⟨0,0,0,0,0,0,0,0,(⟨[],0⟩:bC),(⟨[],0⟩:bC),0,(⟨[],0⟩:bC),false⟩:bW),[]⟩:aT),(⟨(⟨0,0,0,0,0,0,0,0,(⟨[],0⟩:bC),(⟨[],0⟩:bC),0,(⟨[],0⟩:bC),false⟩:bW),[]⟩:aT),(⟨(⟨0,0,0,0,0,0,0,0,(⟨[],0⟩:bC),(⟨[],0⟩:bC),0,(⟨[],0⟩:bC),false⟩:bW),[]⟩:aT)⟩:cu),false):cu×Bool)) (call (Z107.R (x0,x1)) fun v3=>(cond v3 (ret (((⟨(⟨(⟨0,0,0,0,0,0,0,0,(⟨[],0⟩:bC),(⟨[],0⟩:bC),0,(⟨[],0⟩:bC),false⟩:bW),[]⟩:aT),(⟨(⟨0,0,0,0,0,0,0,0,(⟨[],0⟩:bC),(⟨[],0⟩:bC),0,(⟨[],0⟩:bC),false⟩:bW),[]⟩:aT),(⟨(⟨0,0,0,0,0,0,0,0,(⟨[],0⟩:bC),(⟨[],0⟩:bC),0,(⟨[],0⟩:bC),false⟩:bW),[]⟩:aT)⟩:cu),false):cu×Bool)) (call (Z107.R (x1,x0)) fun v4=>(cond v4 (ret (((⟨(⟨(⟨0,0,0,0,0,0,0,0,(⟨[],0⟩:bC),(⟨[],0⟩:bC),0,(⟨[],0⟩:bC),false⟩:bW),[]⟩:aT),(⟨(⟨0,0,0,0,0,0,0,0,(⟨[],0⟩:bC),(⟨[],0⟩:bC),0,(⟨[],0⟩:bC),false⟩:bW),[]⟩:aT),(⟨(⟨0,0,0,0,0,0,0,0,(⟨[],0⟩:bC),(⟨[],0⟩:bC),0,(⟨[],0⟩:bC),false⟩:bW),[]⟩:aT)⟩:cu),false):cu×Bool)) (J (.p0 x0 x1 0 0 0 0 0 0 0 0 0 0 0 0 0 false 0 0 0 0 0 0 0 0 0 0 0 0 false 0 0 0 0 0 0 0 0 0 0 0 0 false)))))))))))))
def live:Nat->Live:=fun i=>match i with | 4=>[(0,none),(1,none),(4,none),(6,none)] | _=>[]
def pt (a b:aF)(c:Int):Pt:=Pt.p0 a b c 0 0 0 0 0 0 0 0 0 0 0 0 false 0 0 0 0 0 0 0 0 0 0 0 0 false 0 0 0 0 0 0 0 0 0 0 0 0 false
def fk:List aa->List aa->Nat
 | x::xs,y::ys=>bif Z106.md x.ay y.ay then fk xs ys+1 else 0
 | _,_=>0
def qj:∀a b:List aa,(∀i,i<fk a b->Z106.md (a.getD i aa.zero).ay (b.getD i aa.zero).ay=true)/\
    ((fk a b<a.length/\fk a b<b.length/\Z106.md (a.getD (fk a b) aa.zero).ay (b.getD (fk a b) aa.zero).ay=false)∨
     (a.length<=b.length/\∀i,i<a.length->Z106.md (a.getD i aa.zero).ay (b.getD i aa.zero).ay=true)∨
     (b.length<=a.length/\∀i,i<b.length->Z106.md (a.getD i aa.zero).ay (b.getD i aa.zero).ay=true))
  | [],b=>⟨fun i hi=>by simp [fk] at hi,.inr (.inl ⟨zero_le _,fun i hi=>by simp at hi⟩)⟩
  | x::xs,[]=>⟨fun i hi=>by simp [fk] at hi,.inr (.inr ⟨zero_le _,fun i hi=>by simp at hi⟩)⟩
  | x::xs,y::ys=>by
    obtain ⟨h1,h2⟩:=qj xs ys
    cases h:Z106.md x.ay y.ay
    · have e:fk (x::xs) (y::ys)=0:=by simp [fk,h]
      rw [e]
      exact ⟨fun i hi=>by omega,.inl ⟨by simp,by simp,h⟩⟩
    · have e:fk (x::xs) (y::ys)=fk xs ys+1:=by simp [fk,h]
      rw [e]
      have up:∀{m:Nat},(∀i,i<m->Z106.md (xs.getD i aa.zero).ay (ys.getD i aa.zero).ay=true)->∀i,i<m+1->Z106.md ((x::xs).getD i aa.zero).ay ((y::ys).getD i aa.zero).ay=true:=by
        intro m hm i hi
        cases i with
        | zero=>exact h
        | succ i=>exact hm i (by omega)
      refine ⟨up h1,?_⟩
      rcases h2 with ⟨a,b,c⟩ | ⟨a,b⟩ | ⟨a,b⟩
      · exact .inl ⟨by simpa using a,by simpa using b,c⟩
      · exact .inr (.inl ⟨by simpa using a,up b⟩)
      · exact .inr (.inr ⟨by simpa using a,up b⟩)
def xQ {a b:List aa}(hl:a.length<=b.length)(h:∀i,i<a.length->Z106.md (a.getD i aa.zero).ay (b.getD i aa.zero).ay=true):Z107.md a b=true:=by
 unfold Z107.md
 rw [decide_eq_false (by omega),bh]
 refine (jg (fun i=>Z106.md (a.getD i aa.zero).ay (b.getD i aa.zero).ay=true) (fun i _ hi=>?_) (fun i _ hi=>?_)).2 ⟨h,rfl⟩
 ·simp only [hi,Bool.not_true,bh]
 ·rw [Bool.not_eq_true] at hi
  simp only [hi,Bool.not_false,aZ]
def eq_comm {a b:aE}(h:Z106.md a b=true):Z106.md b a=true:=by
 rw [Z106.md_eq,cU] at h ⊢
 exact h.symm
def kZ {a b:List aa}(h1:Z107.md a b=false)(h2:Z107.md b a=false):fk a b<a.length/\fk a b<b.length/\Z106.md (a.getD (fk a b) aa.zero).ay (b.getD (fk a b) aa.zero).ay=false:=by
 rcases (qj a b).2 with h | ⟨h3,h4⟩ | ⟨h3,h4⟩
 ·exact h
 ·rw [xQ h3 h4] at h1;cases h1
 ·rw [xQ h3 fun i hi=>eq_comm (h4 i hi)] at h2;cases h2
def uq (a b:List aa):Nat->aI
 | 0=>⟨aa.zero,a.getD 0 aa.zero,b.getD 0 aa.zero⟩
 | k+1=>⟨a.getD k aa.zero,a.getD (k+1) aa.zero,b.getD (k+1) aa.zero⟩
def wv {a b:List aa}(h0:bI (2^21) (fun y:aa=>aa.Sm (2^21) y) a)(h1:bI (2^21) (fun y:aa=>aa.Sm (2^21) y) b){k:Nat}(hk:k<a.length)(hk2:k<b.length):aI.Sm (2^21) (uq a b k):=by
 cases k with
 | zero=>exact ⟨⟨⟨bI.nil,bI.nil,bI.nil⟩,bI.nil⟩,bI.getD h0 hk,bI.getD h1 hk2⟩
 | succ k=>exact ⟨bI.getD h0 (by omega),bI.getD h0 hk,bI.getD h1 hk2⟩
def zP {a b:List aa}{k:Nat}(hk:k<a.length)(hk2:k<b.length):aI.size (uq a b k)<=2*fc (fun y:aa=>aa.size y) a+fc (fun y:aa=>aa.size y) b:=by
 have h1:=oq (f:=fun y:aa=>aa.size y) (xs:=b) (i:=k) (z:=aa.zero) hk2
 have h2:=oq (f:=fun y:aa=>aa.size y) (xs:=a) (i:=k) (z:=aa.zero) hk
 have h0:aa.size aa.zero=0:=rfl
 cases k with
 | zero=>simp only [uq,aI.size];omega
 | succ k=>
  have h3:=oq (f:=fun y:aa=>aa.size y) (xs:=a) (i:=k) (z:=aa.zero) (by omega)
  simp only [uq,aI.size];omega
def md (a0 a1:List aa):aI×Bool:=(cond (!(Z78.md a0)) (aI.zero,false) (cond (!(Z78.md a1)) (aI.zero,false) (cond (((a0.getD 0 aa.zero).ay).bw != ((a1.getD 0 aa.zero).ay).bw) (aI.zero,false) (cond (Z107.md a0 a1) (aI.zero,false) (cond (Z107.md a1 a0) (aI.zero,false) (uq a0 a1 (fk a0 a1),true))))))
def gd (a0 a1:List aa):Prop:=bI (2^21) (fun y:aa=>aa.Sm (2^21) y) a0/\bI (2^21) (fun y:aa=>aa.Sm (2^21) y) a1
def R:=RR (p2 gd) (u2 md)
def ak {a0 a1}(h:gd a0 a1):R ((a0.map aa.row),(a1.map aa.row))=some ((aI.r (md a0 a1).1),(md a0 a1).2):=aM (a:=(a0,a1)) h
def aV:=CN [pL 178,pL 178] (.hU [(true,f180),(false,[fB])]) RT.dec R
def bp (a0)(a1)(hg:gd a0 a1):∃n,start (iter step n) (a0.map aa.row) (a1.map aa.row)=ret ((aI.r (md a0 a1).1),(md a0 a1).2):=by
 unfold gd at hg
 obtain ⟨H0,H1⟩:=hg
 have hl0:=H0.1
 have hl1:=H1.1
 have key:fk a0 a1<a0.length->fk a0 a1<a1.length->Z106.md (a0.getD (fk a0 a1) aa.zero).ay (a1.getD (fk a0 a1) aa.zero).ay=false->∀d k,k+d=fk a0 a1->∃n,iter step n (pt (a0.map aa.row) (a1.map aa.row) (k:Int))=ret ((aI.r (uq a0 a1 (fk a0 a1)),true):cu×Bool):=by
  intro hn0 hn1 hne d
  have hR:∀k,k<a0.length->k<a1.length->Z106.R (aE.r (a0.getD k aa.zero).ay,aE.r (a1.getD k aa.zero).ay)=some (Z106.md (a0.getD k aa.zero).ay (a1.getD k aa.zero).ay):=by
   intro k h0 h1
   rw [Z106.ak ⟨(bI.getD (z:=aa.zero) H0 h0).1,(bI.getD (z:=aa.zero) H1 h1).1⟩]
  induction d with
  | zero=>
   intro k hk
   obtain rfl:k=fk a0 a1:=by omega
   generalize hkk:fk a0 a1=k at hn0 hn1 hne ⊢
   refine ⟨1,?_⟩
   show step (iter step 0) _=_
   have q1:(0:Int)<=(k:Int):=by omega
   have q2:(k:Int)<(a0.length:Int):=by omega
   have q3:(k:Int)<(a1.length:Int):=by omega
   simp only [pt,step,MM,S0,aa.rs,aE.rs,q1,q2,q3,decide_true,aZ]
   rw [call_eq (hR k hn0 hn1),hne,bh,call_eq (Z39.ak (a0:=a0.getD k aa.zero) (bI.getD (z:=aa.zero) H0 hn0)),call_eq (Z39.ak (a0:=a1.getD k aa.zero) (bI.getD (z:=aa.zero) H1 hn1))]
   cases k with
   | zero=>rfl
   | succ k=>
    have q4:((k+1:Nat):Int)>0:=by omega
    have q5:i64.wrap (((k+1:Nat):Int) - 1)=(k:Int):=by rw [wi _ (by omega)];omega
    have q6:(0:Int)<=(k:Int):=by omega
    have q7:(k:Int)<(a0.length:Int):=by omega
    simp only [q4,q5,q6,q7,decide_true,aZ,S0,aa.rs]
    rw [call_eq (Z39.ak (a0:=a0.getD k aa.zero) (bI.getD (z:=aa.zero) H0 (by omega)))]
    rfl
  | succ d ih=>
   intro k hk
   obtain ⟨n,hn⟩:=ih (k+1) (by omega)
   refine ⟨n+1,?_⟩
   show step (iter step n) _=_
   have q1:(0:Int)<=(k:Int):=by omega
   have q2:(k:Int)<(a0.length:Int):=by omega
   have q3:(k:Int)<(a1.length:Int):=by omega
   simp only [pt,step,MM,S0,aa.rs,aE.rs,q1,q2,q3,decide_true,aZ]
   rw [call_eq (hR k (by omega) (by omega)),(qj a0 a1).1 k (by omega),aZ,wi _ (by omega)]
   exact hn
 unfold start md
 simp only [S0,aa.rs,aE.rs]
 refine eW (Z78.md a0) (Z78.ak H0) ?_
 cases hc0:Z78.md a0
 ·exact ⟨0,rfl⟩
 simp only [Bool.not_true,bh]
 refine eW (Z78.md a1) (Z78.ak H1) ?_
 cases hc1:Z78.md a1
 ·exact ⟨0,rfl⟩
 have t0:=Z78.tr hc0
 have t1:=Z78.tr hc1
 simp only [Bool.not_true,bh]
 refine dw (decide_eq_true (by omega)) (dw (decide_eq_true (by omega)) ?_)
 cases ((a0.getD 0 aa.zero).ay.bw != (a1.getD 0 aa.zero).ay.bw)
 case true=>exact ⟨0,rfl⟩
 simp only [bh]
 refine eW (Z107.md a0 a1) (Z107.ak ⟨H0,H1⟩) ?_
 cases hp0:Z107.md a0 a1
 case true=>exact ⟨0,rfl⟩
 simp only [bh]
 refine eW (Z107.md a1 a0) (Z107.ak ⟨H1,H0⟩) ?_
 cases hp1:Z107.md a1 a0
 case true=>exact ⟨0,rfl⟩
 simp only [bh]
 obtain ⟨h1,h2,h3⟩:=kZ hp0 hp1
 exact key h1 h2 h3 (fk a0 a1) 0 (by omega)
def af:cq 182 aV:=L2 86 pid cQ cR live step start mix aD bp (.cons Z78.af (.cons Z107.af (.cons Z106.af (.cons Z39.af .nil)))) Tryz.func182
def gk {a0 a1:List aa}(hg:gd a0 a1):aI.Sm (2^21) ((md a0 a1).1):=by
 unfold gd at hg;unfold md
 have z:aI.Sm (2^21) aI.zero:=⟨⟨⟨bI.nil,bI.nil,bI.nil⟩,bI.nil⟩,⟨⟨bI.nil,bI.nil,bI.nil⟩,bI.nil⟩,⟨⟨bI.nil,bI.nil,bI.nil⟩,bI.nil⟩⟩
 cases Z78.md a0
 ·exact z
 cases Z78.md a1
 ·exact z
 cases ((a0.getD 0 aa.zero).ay.bw != (a1.getD 0 aa.zero).ay.bw)
 case true=>exact z
 cases h1:Z107.md a0 a1
 case true=>exact z
 cases h2:Z107.md a1 a0
 case true=>exact z
 obtain ⟨h3,h4,_⟩:=Z109.kZ h1 h2
 exact Z109.wv hg.1 hg.2 h3 h4
end Z109
namespace Z110
def F (x0:bt)(x1:aF):aH:=(call (Z42.R x0) fun v1=>(call (Z108.R (x0,x1)) fun v2=>(cond (v2==1) (cond (decide ((x0.aK.length:Int)>=8)) (ret ((v1,6):bt×Int)) (call (Z40.R x1) fun v3=>(cK (eO (((v1.aK.length:Int)+1)*24)) (ret (((⟨(v1.aK++[[L.sl v3]]),v1.bq⟩:bt),v2):bt×Int))))) (cond (v2==3) (cK (decide ((0:Int)<(x1.length:Int))) (call (Z105.R (x0,(aT.at x1 0).ay.bw)) fun v4=>(call (Z40.R x1) fun v5=>(m2 v4 (v1.aK.length:Int) (ret (((⟨(List.set v1.aK (toNat v4) [L.sl v5]),v1.bq⟩:bt),v2):bt×Int)))))) (cond (v2==5) (cK (decide ((0:Int)<(x1.length:Int))) (call (Z105.R (x0,(aT.at x1 0).ay.bw)) fun v6=>(m2 v6 (x0.aK.length:Int) (call (Z109.R ((pX x0.aK (toNat v6)),x1)) fun v7=>(cond v7.2 (cond (decide ((x0.bq.length:Int)<8)) (cK (eO (((v1.bq.length:Int)+1)*600)) (ret (((⟨v1.aK,(v1.bq++[(cu.enc v7.1)])⟩:bt),v2):bt×Int))) (ret ((v1,v2):bt×Int))) (ret ((v1,v2):bt×Int))))))) (ret ((v1,v2):bt×Int)))))))
def md (a0:an)(a1:List aa):an×Int:=(cond ((Z108.md a0 a1)==1) (cond (decide ((a0.aK.length:Int)>=8)) (a0,6) ((⟨(a0.aK++[a1]),a0.bq⟩:an),(Z108.md a0 a1))) (cond ((Z108.md a0 a1)==3) ((⟨(List.set a0.aK (toNat (Z105.md a0 (((a1.getD 0 aa.zero).ay).bw))) a1),a0.bq⟩:an),(Z108.md a0 a1)) (cond ((Z108.md a0 a1)==5) (cond ((Z109.md (a0.aK.getD (toNat (Z105.md a0 (((a1.getD 0 aa.zero).ay).bw))) []) a1).2) (cond (decide ((a0.bq.length:Int)<8)) ((⟨a0.aK,(a0.bq++[(Z109.md (a0.aK.getD (toNat (Z105.md a0 (((a1.getD 0 aa.zero).ay).bw))) []) a1).1])⟩:an),(Z108.md a0 a1)) (a0,(Z108.md a0 a1))) (a0,(Z108.md a0 a1))) (a0,(Z108.md a0 a1)))))
def gd (a0:an)(a1:List aa):Prop:=(an.Sm (2^21) a0)/\(bI (2^21) (fun y:aa=>aa.Sm (2^21) y) a1)
def R:=RR (p2 gd) (u2 md)
def ak {a0 a1}(h:gd a0 a1):R ((an.r a0),(a1.map aa.row))=some ((an.r (md a0 a1).1),(md a0 a1).2):=aM (a:=(a0,a1)) h
def aV:=CN [.agg tO,pL 178] (.hU [(true,f36),(false,[fI])]) RT.dec R
def bp (a0)(a1)(hg:gd a0 a1):F (an.r a0) (a1.map aa.row)=ret ((an.r (md a0 a1).1),(md a0 a1).2):=by
 obtain ⟨H0,H1⟩:=hg
 unfold F md
 try simp only [SS]
 refine ct (Z42.ak H0) ?_
 try simp only [SS]
 refine ct (Z108.ak ⟨H0,H1⟩) ?_
 have fv2_:=Z108.fa a0 a1
 refine aq (fun b:an×Int=>ret (((an.r b.1),b.2):bt×Int)) (fun c1=>?_) (fun c1=>?_)
 ·have dc1:=c1
  try simp only [DC] at dc1
  refine aq (fun b:an×Int=>ret (((an.r b.1),b.2):bt×Int)) (fun c2=>?_) (fun c2=>?_)
  ·all_goals exact fz
  ·have dc2:=c2
   try simp only [DC] at dc2
   refine ct (Z40.ak H1) ?_
   try simp only [SS]
   refine aN (have:=(H0.1).1;lm) ?_
   all_goals exact fz
 ·have dc1:=c1
  try simp only [DC] at dc1
  refine aq (fun b:an×Int=>ret (((an.r b.1),b.2):bt×Int)) (fun c3=>?_) (fun c3=>?_)
  ·have dc3:=c3
   try simp only [DC] at dc3
   refine aN (have:=(H1).1;dt) ?_
   refine ct (Z105.ak H0) ?_
   have fv4_:=Z105.fa a0 (((a1.getD 0 aa.zero).ay).bw)
   refine ct (Z40.ak H1) ?_
   try simp only [SS]
   refine aN dt ?_
   refine aN (have:=(H0.1).1;dt) ?_
   all_goals exact fz
  ·have dc3:=c3
   try simp only [DC] at dc3
   refine aq (fun b:an×Int=>ret (((an.r b.1),b.2):bt×Int)) (fun c4=>?_) (fun c4=>?_)
   ·have dc4:=c4
    try simp only [DC] at dc4
    refine aN (have:=(H1).1;dt) ?_
    refine ct (Z105.ak H0) ?_
    have fv6_:=Z105.fa a0 (((a1.getD 0 aa.zero).ay).bw)
    refine aN dt ?_
    refine aN (have:=(H0.1).1;dt) ?_
    refine ct (Z109.ak ⟨(bI.getD (z:=[]) H0.1 (by first | assumption | omega | (simp (disch:=omega) only [wi];omega) | (simp;omega))),H1⟩) ?_
    try simp only [SS]
    refine aq (fun b:an×Int=>ret (((an.r b.1),b.2):bt×Int)) (fun c5=>?_) (fun c5=>?_)
    ·refine aq (fun b:an×Int=>ret (((an.r b.1),b.2):bt×Int)) (fun c6=>?_) (fun c6=>?_)
     ·have dc6:=c6
      try simp only [DC] at dc6
      refine aN (have:=(H0.2).1;lm) ?_
      all_goals exact fz
     ·all_goals exact fz
    ·all_goals exact fz
   ·all_goals exact fz
def af:cq 138 aV:=W2 77 F mix aD bp (.cons Z42.af (.cons Z108.af (.cons Z40.af (.cons Z105.af (.cons Z109.af .nil))))) Tryz.func138
def gk {a0:an}{a1:List aa}(hg:gd a0 a1):an.Sm (2^21) ((md a0 a1).1):=by
 unfold gd at hg;unfold md
 obtain ⟨⟨h1,h2⟩,h3⟩:=hg
 simp only [Bool.cond_eq_ite]
 repeat' split
 all_goals (try simp only [decide_eq_true_eq,ge_iff_le] at *)
 all_goals first
  | exact ⟨h1,h2⟩
  | exact ⟨bI.app (a:=7) (b:=1) ⟨by omega,h1.2⟩ (bI.one h3) (by decide),h2⟩
  | exact ⟨bI.set h1 h3,h2⟩
  | exact ⟨h1,bI.app (a:=7) (b:=1) ⟨by omega,h2.2⟩ (bI.one (Z109.gk ⟨bI.rP h1 bI.nil,h3⟩)) (by decide)⟩
def Cz (c:List (List aa)):Nat:=fc (fun y:List aa=>fc (fun y:aa=>aa.size y) y) c
def Fz (c:List aI):Nat:=fc (fun y:aI=>aI.size y) c
def zw (X a1:List aa):aI.size (Z109.md X a1).1<=2*fc (fun y:aa=>aa.size y) X+fc (fun y:aa=>aa.size y) a1:=by
 unfold Z109.md
 have z:aI.size aI.zero=0:=rfl
 cases Z78.md X
 ·exact zero_le _
 cases Z78.md a1
 ·exact zero_le _
 cases ((X.getD 0 aa.zero).ay.bw != (a1.getD 0 aa.zero).ay.bw)
 case true=>exact zero_le _
 cases h1:Z107.md X a1
 case true=>exact zero_le _
 cases h2:Z107.md a1 X
 case true=>exact zero_le _
 obtain ⟨h3,h4,_⟩:=Z109.kZ h1 h2
 exact Z109.zP h3 h4
def grow (a0:an)(a1:List aa):Cz (md a0 a1).1.aK<=Cz a0.aK+(fc (fun y:aa=>aa.size y) a1+1)/\
  Fz (md a0 a1).1.bq<=Fz a0.bq+(2*Cz a0.aK+fc (fun y:aa=>aa.size y) a1+1):=by
 unfold md Cz Fz
 have hs:=wD (f:=fun y:List aa=>fc (fun y:aa=>aa.size y) y) a0.aK (toNat (Z105.md a0 ((a1.getD 0 aa.zero).ay.bw))) a1
 have ha:=uQ (f:=fun y:List aa=>fc (fun y:aa=>aa.size y) y) a0.aK a1
 have hk:=uQ (f:=fun y:aI=>aI.size y) a0.bq (Z109.md (a0.aK.getD (toNat (Z105.md a0 ((a1.getD 0 aa.zero).ay.bw))) []) a1).1
 have hf1:=zw (a0.aK.getD (toNat (Z105.md a0 ((a1.getD 0 aa.zero).ay.bw))) []) a1
 have hg1:=yY (f:=fun y:List aa=>fc (fun y:aa=>aa.size y) y) (xs:=a0.aK) (i:=toNat (Z105.md a0 ((a1.getD 0 aa.zero).ay.bw))) (z:=[]) rfl
 (try simp only at hs);(try simp only at ha);(try simp only at hk);(try simp only at hg1)
 simp only [Bool.cond_eq_ite]
 repeat' split
 all_goals constructor<;>(try simp only)<;>omega
end Z110
namespace Z111
def F (x0:bW)(x1:Int):aH:=(call (Z49.R (x1,x0.cE,x0.cD)) fun v1=>ret (v1:Bool))
def md (a0:aE)(a1:Int):Bool:=((Z49.md a1 a0.cE a0.cD):Bool)
def gd (a0:aE)(a1:Int):Prop:=True
def R:=RR (p2 gd) (u2 md)
def ak {a0 a1}(h:gd a0 a1):R ((aE.r a0),a1)=some (md a0 a1):=aM (a:=(a0,a1)) h
def aV:=CN [.agg fV,pI] oB RT.dec R
def bp (a0)(a1)(hg:gd a0 a1):F (aE.r a0) a1=ret (md a0 a1):=by
 unfold F md
 try simp only [SS]
 refine ct (Z49.ak trivial) ?_
 all_goals exact fz
def af:cq 153 aV:=W2 11 F mix aD bp (.cons Z49.af .nil) Tryz.func153
end Z111
namespace Z112
inductive Pt where
 | p0 (a b c:Int) (d:aF) (e:Int)
def pid:Pt->Nat
 | .p0 ..=>4
def cQ:Pt->List V
 | .p0 a b c d e=>[.int .i64 a,.int .i64 b,.int .i64 c,.sl none 3 d,.int .i64 e]
def cR:Pt->List aS
 | .p0 a b c d e=>[]
def step (J:Pt->aH):Pt->aH
 | .p0 a b c d e=>(cond (decide (c>1)) (cond ((Int.tmod b 2)==1) (cond (decide (e>=(d.length:Int))) (ret ((0,false):Int×Bool)) (cond ((Int.tmod b 2)==1) (m2 e (d.length:Int) (call (Z88.R ((jo d (toNat e)),a)) fun v1=>J (.p0 v1 (i64.wrap (Int.tdiv b 2)) (i64.wrap (Int.tdiv (i64.wrap (c+1)) 2)) d (i64.wrap (e+1))))) (m2 e (d.length:Int) (call (Z88.R (a,(jo d (toNat e)))) fun v2=>J (.p0 v2 (i64.wrap (Int.tdiv b 2)) (i64.wrap (Int.tdiv (i64.wrap (c+1)) 2)) d (i64.wrap (e+1))))))) (cond (decide ((i64.wrap (b+1))<c)) (cond (decide (e>=(d.length:Int))) (ret ((0,false):Int×Bool)) (cond ((Int.tmod b 2)==1) (m2 e (d.length:Int) (call (Z88.R ((jo d (toNat e)),a)) fun v3=>J (.p0 v3 (i64.wrap (Int.tdiv b 2)) (i64.wrap (Int.tdiv (i64.wrap (c+1)) 2)) d (i64.wrap (e+1))))) (m2 e (d.length:Int) (call (Z88.R (a,(jo d (toNat e)))) fun v4=>J (.p0 v4 (i64.wrap (Int.tdiv b 2)) (i64.wrap (Int.tdiv (i64.wrap (c+1)) 2)) d (i64.wrap (e+1))))))) (J (.p0 a (i64.wrap (Int.tdiv b 2)) (i64.wrap (Int.tdiv (i64.wrap (c+1)) 2)) d e)))) (cond (e != (d.length:Int)) (ret ((0,false):Int×Bool)) (ret ((a,true):Int×Bool))))
def start (J:Pt->aH)(x0 x1 x2:Int)(x3:aF):aH:=(call (Z49.R (x2,1,12)) fun v1=>(cond (!v1) (ret ((0,false):Int×Bool)) (call (Z49.R (x1,0,(i64.wrap (x2 - 1)))) fun v2=>(cond (!v2) (ret ((0,false):Int×Bool)) (J (.p0 x0 x1 x2 x3 0))))))
def live:Nat->Live:=fun i=>match i with | 4=>[(0,none),(1,none),(2,none),(3,none),(10,none)] | _=>[]
def tf:Nat->Int->Int->Int->List Int->Int×Bool
 | 0,_,_,_,_=>(0,false)
 | k+1,leaf,i,n,path=>
  if n>1 then
   if i % 2=1∨i+1<n then
    match path with
    | []=>(0,false)
    | p::ps=>tf k (if i % 2=1 then Z88.md p leaf else Z88.md leaf p) (i / 2) ((n+1) / 2) ps
   else tf k leaf (i / 2) ((n+1) / 2) path
  else if path.isEmpty then (leaf,true) else (0,false)
def md (a0 a1 a2:Int)(a3:List Int):Int×Bool:=(cond (!(Z49.md a2 1 12)) (0,false) (bif !(Z49.md a1 0 (i64.wrap (a2 - 1))) then (0,false) else tf 5 a0 a1 a2 a3))
def gd (a0 a1 a2:Int)(a3:List Int):Prop:=bI (2^38) (fun y:Int=>True) a3
def R:=RR (p4 gd) (u4 md)
def ak {a0 a1 a2 a3}(h:gd a0 a1 a2 a3):R (a0,a1,a2,(a3.map bn))=some ((md a0 a1 a2 a3).1,(md a0 a1 a2 a3).2):=aM (a:=(a0,a1,a2,a3)) h
def aV:=CN [pI,pI,pI,pL 3] (.hU [(false,[fI]),(false,[fB])]) RT.dec R
def bp (a0)(a1)(a2)(a3)(hg:gd a0 a1 a2 a3):∃n,start (iter step n) a0 a1 a2 (a3.map bn)=ret ((md a0 a1 a2 a3).1,(md a0 a1 a2 a3).2):=by
 have tm:∀b:Int,0<=b->b<=11->Int.tmod b 2=b % 2:=fun b h1 h2=>Int.tmod_eq_emod_of_nonneg h1
 have td:∀b:Int,0<=b->b<=13->i64.wrap (Int.tdiv b 2)=b / 2:=fun b h1 h2=>by
  rw [Int.tdiv_eq_ediv_of_nonneg h1,Go.IntWalk.i64_in _ (by omega)]
 have t1:∀b:Int,0<=b->b<=13->i64.wrap (b+1)=b+1:=fun b h1 h2=>Go.IntWalk.i64_in _ (by omega)
 obtain ⟨H3,_⟩:=hg
 have key:∀(k:Nat) (leaf i n:Int) (u:Nat),0<=i->i<n->n<=12->n<=2^k->u<=a3.length->∃m,iter step m (Pt.p0 leaf i n (a3.map bn) (u:Int))=ret ((tf (k+1) leaf i n (a3.drop u)).1,(tf (k+1) leaf i n (a3.drop u)).2):=by
  intro k
  induction k with
  | zero=>
   intro leaf i n u h1 h2 h3 h4 h5
   refine ⟨1,?_⟩
   show step (iter step 0) (Pt.p0 _ _ _ _ _)=_
   have hn:n=1:=by omega
   subst hn
   simp only [step,List.length_map]
   refine eE (by decide) ?_
   unfold tf
   rw [if_neg (by omega)]
   by_cases hu:u=a3.length
   ·rw [List.drop_eq_nil_of_le (by omega),show ((u:Int) != (a3.length:Int))=false from bne_eq_false_iff_eq.2 (by omega)];rfl
   ·have hne:(a3.drop u).isEmpty=false:=by
     rw [List.drop_eq_getElem_cons (by omega)];rfl
    rw [hne,show ((u:Int) != (a3.length:Int))=true from bne_iff_ne.2 (by omega)];rfl
  | succ k ih=>
   intro leaf i n u h1 h2 h3 h4 h5
   have hk:n<=2*2^k:=by rw [Int.pow_succ] at h4;omega
   unfold tf
   by_cases hn:n>1
   ·have e1:=tm i h1 (by omega)
    have e2:=td i h1 (by omega)
    have e3:=t1 n (by omega) (by omega)
    have e4:=td (n+1) (by omega) (by omega)
    have e5:=t1 i h1 (by omega)
    rw [if_pos hn]
    by_cases hc:i % 2=1∨i+1<n
    ·rw [if_pos hc]
     by_cases hu:u=a3.length
     ·refine ⟨1,?_⟩
      show step (iter step 0) (Pt.p0 _ _ _ _ _)=_
      rw [List.drop_eq_nil_of_le (by omega)]
      simp only [step,List.length_map,e1,e5]
      refine aN (decide_eq_true (by omega)) ?_
      by_cases hm:i % 2=1
      ·rw [hm]
       exact aN rfl (aN (decide_eq_true (by omega)) rfl)
      ·refine eE (beq_eq_false_iff_ne.2 hm) (aN (decide_eq_true (by omega)) (aN (decide_eq_true (by omega)) rfl))
     ·have hlt:u<a3.length:=by omega
      rw [List.drop_eq_getElem_cons hlt]
      obtain ⟨m,hm⟩:=ih (if i % 2=1 then Z88.md a3[u] leaf else Z88.md leaf a3[u]) (i / 2) ((n+1) / 2) (u+1) (by omega) (by omega) (by omega) (by omega) (by omega)
      refine ⟨m+1,?_⟩
      show step (iter step m) (Pt.p0 _ _ _ _ _)=_
      have w:i64.wrap ((u:Int)+1)=((u+1:Nat):Int):=by rw [Go.IntWalk.i64_in _ (by omega)];omega
      simp only [step,List.length_map,e1,e2,e3,e4,e5,w,cP,gG,eU hlt]
      refine aN (decide_eq_true (by omega)) ?_
      by_cases hp:i % 2=1
      ·rw [if_pos hp] at hm
       rw [hp]
       refine aN rfl (eE (decide_eq_false (by omega)) (aN rfl (aN (decide_eq_true (by omega)) (aN (decide_eq_true (by omega)) (cF _ (Z88.ak trivial) ?_)))))
       rw [if_pos rfl]
       exact hm
      ·rw [if_neg hp] at hm
       have hb:(i % 2==1)=false:=beq_eq_false_iff_ne.2 hp
       rw [hb]
       refine eE rfl (aN (decide_eq_true (by omega)) (eE (decide_eq_false (by omega)) (eE rfl (aN (decide_eq_true (by omega)) (aN (decide_eq_true (by omega)) (cF _ (Z88.ak trivial) ?_))))))
       rw [if_neg hp]
       exact hm
    ·rw [if_neg hc]
     obtain ⟨m,hm⟩:=ih leaf (i / 2) ((n+1) / 2) u (by omega) (by omega) (by omega) (by omega) h5
     refine ⟨m+1,?_⟩
     show step (iter step m) (Pt.p0 _ _ _ _ _)=_
     simp only [step,List.length_map,e1,e2,e3,e4,e5]
     have hb:(i % 2==1)=false:=beq_eq_false_iff_ne.2 (by omega)
     rw [hb]
     exact aN (decide_eq_true (by omega)) (eE rfl (eE (decide_eq_false (by omega)) hm))
   ·refine ⟨1,?_⟩
    show step (iter step 0) (Pt.p0 _ _ _ _ _)=_
    have hn1:n=1:=by omega
    subst hn1
    simp only [step,List.length_map]
    refine eE (by decide) ?_
    rw [if_neg (by omega)]
    by_cases hu:u=a3.length
    ·rw [List.drop_eq_nil_of_le (by omega),show ((u:Int) != (a3.length:Int))=false from bne_eq_false_iff_eq.2 (by omega)];rfl
    ·have hne:(a3.drop u).isEmpty=false:=by
      rw [List.drop_eq_getElem_cons (by omega)];rfl
     rw [hne,show ((u:Int) != (a3.length:Int))=true from bne_iff_ne.2 (by omega)];rfl
 unfold start md
 refine eW (Z49.md a2 1 12) (Z49.ak trivial) ?_
 cases hc:Z49.md a2 1 12
 ·exact ⟨0,rfl⟩
 simp only [Bool.not_true,bh]
 refine eW (Z49.md a1 0 (i64.wrap (a2 - 1))) (Z49.ak trivial) ?_
 cases hd:Z49.md a1 0 (i64.wrap (a2 - 1))
 ·exact ⟨0,rfl⟩
 have i1:1<=a2/\a2<=12:=by simpa [Z49.md] using hc
 rw [Go.IntWalk.i64_in _ (by omega)] at hd
 have i2:0<=a1/\a1<=a2 - 1:=by simpa [Z49.md] using hd
 exact key 4 a0 a1 a2 0 (by omega) (by omega) (by omega) (by omega) (by omega)
def af:cq 258 aV:=L4 63 pid cQ cR live step start mix aD bp (.cons Z49.af (.cons Z88.af .nil)) Tryz.func258
end Z112
namespace Z113
def F (x0 x1:Int)(x2:aW)(x3:bH):aH:=(call (Z86.R x2) fun v1=>(call (Z112.R (v1,x3.ec,x1,x3.bB)) fun v2=>(call (Z80.R x2) fun v3=>(cond v3 (cond v2.2 (call (Z91.R (x1,v2.1)) fun v4=>ret ((v4==x0):Bool)) bf) bf))))
def md (a0 a1:Int)(a2:ah)(a3:aB):Bool:=(cond (Z80.md a2) (cond ((Z112.md (Z86.md a2) a3.ec a1 a3.bB).2) (((Z91.md a1 ((Z112.md (Z86.md a2) a3.ec a1 a3.bB).1))==a0):Bool) (false:Bool)) (false:Bool))
def gd (a0 a1:Int)(a2:ah)(a3:aB):Prop:=(ah.Sm (2^21) a2)/\(aB.Sm (2^21) a3)
def R:=RR (p4 gd) (u4 md)
def ak {a0 a1 a2 a3}(h:gd a0 a1 a2 a3):R (a0,a1,(ah.r a2),(aB.r a3))=some (md a0 a1 a2 a3):=aM (a:=(a0,a1,a2,a3)) h
def aV:=CN [pI,pI,.agg sX,.agg oo] oB RT.dec R
def bp (a0)(a1)(a2)(a3)(hg:gd a0 a1 a2 a3):F a0 a1 (ah.r a2) (aB.r a3)=ret (md a0 a1 a2 a3):=by
 obtain ⟨H2,H3⟩:=hg
 unfold F md
 try simp only [SS]
 refine ct (Z86.ak H2) ?_
 refine ct (Z112.ak (H3.mono (by decide) (fun x hx=>trivial))) ?_
 refine ct (Z80.ak H2) ?_
 refine aq ret (fun c1=>?_) (fun _=>rfl)
 refine aq ret (fun c2=>?_) (fun _=>rfl)
 refine ct (Z91.ak trivial) ?_
 all_goals exact fz
def af:cq 199 aV:=W4 34 F mix aD bp (.cons Z86.af (.cons Z112.af (.cons Z80.af (.cons Z91.af .nil)))) Tryz.func199
end Z113
namespace Z114
inductive Pt where
 | p0 (a b:aF) (c:Int)
def pid:Pt->Nat
 | .p0 ..=>4
def cQ:Pt->List V
 | .p0 a b c=>[.sl none 9 a,.sl none 9 b,.int .i64 c]
def cR:Pt->List aS
 | .p0 a b c=>[]
def step (J:Pt->aH):Pt->aH
 | .p0 a b c=>(cond (decide (c<(a.length:Int))) (m2 c (a.length:Int) (m2 c (b.length:Int) (cond (!((pW a (toNat c))==(pW b (toNat c)))) bf (J (.p0 a b (i64.wrap (c+1))))))) eG)
def start (J:Pt->aH)(x0 x1:aF):aH:=(cond ((x0.length:Int) != (x1.length:Int)) bf (J (.p0 x0 x1 0)))
def live:Nat->Live:=fun i=>match i with | 4=>[(0,none),(1,none),(5,none)] | _=>[]
def md (a0 a1:List aA):Bool:=(bif ((a0.length:Int) != (a1.length:Int)) then (false:Bool) else (eD (S:=Unit) (β:=Bool) (fun (i2:Nat) (s4:Unit)=>(cond (!((a0.getD i2 ⟨#[]⟩)==(a1.getD i2 ⟨#[]⟩))) (.inr (false:Bool)) (.inl ()))) (fun (s4:Unit)=>(true:Bool)) a0.length 0 ()))
def gd (a0 a1:List aA):Prop:=(bI (2^21) (fun y:aA=>y.size<=(2^21)) a0)/\(bI (2^21) (fun y:aA=>y.size<=(2^21)) a1)
def R:=RR (p2 gd) (u2 md)
def ak {a0 a1}(h:gd a0 a1):R ((a0.map cL),(a1.map cL))=some (md a0 a1):=aM (a:=(a0,a1)) h
def aV:=CN [pL 9,pL 9] oB RT.dec R
def bp (a0)(a1)(hg:gd a0 a1):∃n,start (iter step n) (a0.map cL) (a1.map cL)=ret (md a0 a1):=by
 obtain ⟨H0,H1⟩:=hg
 unfold start md
 try simp only [SS]
 refine gP ret (fun _=>⟨0,rfl⟩) (fun c1=>?_)
 have dc1:=c1
 try simp only [DC] at dc1
 have Bh3:a0.length<=maxLen:=(by
   have:=(H0).1
   try simp only [maxLen] at *
   omega)
 refine dG (p:=Pt.p0 (a0.map cL) (a1.map cL) 0) fz ?_
 refine bU (pt:=fun (i2:Nat) (s4:Unit)=>Pt.p0 (a0.map cL) (a1.map cL) (i2:Int)) (s:=(():Unit)) (out:=ret) (fun _ _=>True) (fun J i2 s4 h3 hih3=>?_) (fun s4 hih3=>?_) trivial
 ·simp only [step,SS]
  have bb_:=Bh3
  simp only [maxLen] at bb_
  have:=(H0).1
  refine bk.yes (by apply decide_eq_true;omega) ?_
  refine bk.yes bE ?_
  refine bk.yes (bM h3) ?_
  refine bk.yes bE ?_
  refine bk.yes (have:=(H1).1;dt) ?_
  refine bk.bif (fun _=>bk.inr rfl) (fun c5=>?_)
  refine bk.inl trivial ?_
  rw [aJ h3 Bh3]
  all_goals exact fz
 ·simp only [step,SS]
  have:=(H0).1
  refine cY (by apply decide_eq_false;omega) ?_
  refine ⟨0,?_⟩
  all_goals exact fz
def af:cq 313 aV:=L2 26 pid cQ cR live step start mix aD bp .nil Tryz.func313
def md_eq (a0 a1:List aA):md a0 a1=eu a0 a1:=by
 unfold md
 refine jY (⟨#[]⟩) (fun i s h h2=>?_) (fun s=>rfl)
 simp only [bne,eT,bool_beq,eM]
 cases eu _ _<;>rfl
end Z114
namespace Z115
def F (x0 x1:aW):aH:=(cond (x0.aQ==x1.aQ) (cond (x0.bL==x1.bL) (cond (x0.bX==x1.bX) (call (Z114.R (x0.bB,x1.bB)) fun v1=>ret (v1:Bool)) bf) bf) bf)
def md (a0 a1:ah):Bool:=(cond (a0.aQ==a1.aQ) (cond (a0.bL==a1.bL) (cond (a0.bX==a1.bX) ((Z114.md a0.bB a1.bB):Bool) (false:Bool)) (false:Bool)) (false:Bool))
def gd (a0 a1:ah):Prop:=(ah.Sm (2^21) a0)/\(ah.Sm (2^21) a1)
def R:=RR (p2 gd) (u2 md)
def ak {a0 a1}(h:gd a0 a1):R ((ah.r a0),(ah.r a1))=some (md a0 a1):=aM (a:=(a0,a1)) h
def aV:=CN [.agg sX,.agg sX] oB RT.dec R
def bp (a0)(a1)(hg:gd a0 a1):F (ah.r a0) (ah.r a1)=ret (md a0 a1):=by
 obtain ⟨H0,H1⟩:=hg
 unfold F md
 try simp only [SS]
 refine aq ret (fun c1=>?_) (fun _=>rfl)
 refine aq ret (fun c2=>?_) (fun _=>rfl)
 refine aq ret (fun c3=>?_) (fun _=>rfl)
 refine ct (Z114.ak ⟨H0.2,H1.2⟩) ?_
 all_goals exact fz
def af:cq 262 aV:=W2 31 F mix aD bp (.cons Z114.af .nil) Tryz.func262
def md_eq (a0 a1:ah):md a0 a1=eu a0 a1:=by
 unfold md
 cases a0;cases a1
 rw [Bool.eq_iff_iff]
 simp [cU,eM,ah.mk.injEq,Z114.md_eq]
 try (constructor<;>(intro h;simp_all))
end Z115
namespace Z116
def F (x0 x1:bH):aH:=(cond (x0.ec==x1.ec) (call (Z70.R (x0.bB,x1.bB)) fun v1=>ret (v1:Bool)) bf)
def md (a0 a1:aB):Bool:=(cond (a0.ec==a1.ec) ((Z70.md a0.bB a1.bB):Bool) (false:Bool))
def gd (a0 a1:aB):Prop:=(aB.Sm (2^21) a0)/\(aB.Sm (2^21) a1)
def R:=RR (p2 gd) (u2 md)
def ak {a0 a1}(h:gd a0 a1):R ((aB.r a0),(aB.r a1))=some (md a0 a1):=aM (a:=(a0,a1)) h
def aV:=CN [.agg oo,.agg oo] oB RT.dec R
def bp (a0)(a1)(hg:gd a0 a1):F (aB.r a0) (aB.r a1)=ret (md a0 a1):=by
 obtain ⟨H0,H1⟩:=hg
 unfold F md
 try simp only [SS]
 refine aq ret (fun c1=>?_) (fun _=>rfl)
 refine ct (Z70.ak ⟨(H0.mono (by decide) (fun x hx=>trivial)),(H1.mono (by decide) (fun x hx=>trivial))⟩) ?_
 all_goals exact fz
def af:cq 263 aV:=W2 17 F mix aD bp (.cons Z70.af .nil) Tryz.func263
def md_eq (a0 a1:aB):md a0 a1=eu a0 a1:=by
 unfold md
 cases a0;cases a1
 rw [Bool.eq_iff_iff]
 simp [cU,eM,aB.mk.injEq,Z70.md_eq]
 try (constructor<;>(intro h;simp_all))
end Z116
namespace Z117
def F (x0 x1:dm):aH:=(cond (x0.ec==x1.ec) (call (Z115.R (x0.aX,x1.aX)) fun v1=>(cond v1 (call (Z115.R (x0.bQ,x1.bQ)) fun v2=>(cond v2 (call (Z116.R (x0.dx,x1.dx)) fun v3=>(cond v3 (call (Z116.R (x0.cw,x1.cw)) fun v4=>ret (v4:Bool)) bf)) bf)) bf)) bf)
def md (a0 a1:bG):Bool:=(cond (a0.ec==a1.ec) (cond (Z115.md a0.aX a1.aX) (cond (Z115.md a0.bQ a1.bQ) (cond (Z116.md a0.dx a1.dx) ((Z116.md a0.cw a1.cw):Bool) (false:Bool)) (false:Bool)) (false:Bool)) (false:Bool))
def gd (a0 a1:bG):Prop:=(bG.Sm (2^21) a0)/\(bG.Sm (2^21) a1)
def R:=RR (p2 gd) (u2 md)
def ak {a0 a1}(h:gd a0 a1):R ((bG.r a0),(bG.r a1))=some (md a0 a1):=aM (a:=(a0,a1)) h
def aV:=CN [.agg ql,.agg ql] oB RT.dec R
def bp (a0)(a1)(hg:gd a0 a1):F (bG.r a0) (bG.r a1)=ret (md a0 a1):=by
 obtain ⟨H0,H1⟩:=hg
 unfold F md
 try simp only [SS]
 refine aq ret (fun c1=>?_) (fun _=>rfl)
 refine ct (Z115.ak ⟨H0.1,H1.1⟩) ?_
 refine aq ret (fun c2=>?_) (fun _=>rfl)
 refine ct (Z115.ak ⟨H0.2.1,H1.2.1⟩) ?_
 refine aq ret (fun c3=>?_) (fun _=>rfl)
 refine ct (Z116.ak ⟨H0.2.2.1,H1.2.2.1⟩) ?_
 refine aq ret (fun c4=>?_) (fun _=>rfl)
 refine ct (Z116.ak ⟨H0.2.2.2,H1.2.2.2⟩) ?_
 all_goals exact fz
def af:cq 200 aV:=W2 38 F mix aD bp (.cons Z115.af (.cons Z116.af .nil)) Tryz.func200
def md_eq (a0 a1:bG):md a0 a1=eu a0 a1:=by
 unfold md
 cases a0;cases a1
 rw [Bool.eq_iff_iff]
 simp [cU,eM,bG.mk.injEq,Z115.md_eq,Z116.md_eq]
 try (constructor<;>(intro h;simp_all))
end Z117
namespace Z118
def F (x0:aW)(x1:bH):aH:=(call (Z115.R (x0,(⟨(⟨#[]⟩:aA),0,0,[]⟩:aW))) fun v1=>(cond v1 (call (Z116.R (x1,(⟨0,[]⟩:bH))) fun v2=>ret (v2:Bool)) bf))
def md (a0:ah)(a1:aB):Bool:=(cond (Z115.md a0 (⟨((⟨#[]⟩:aA):aA),0,0,[]⟩:ah)) ((Z116.md a1 (⟨0,[]⟩:aB)):Bool) (false:Bool))
def gd (a0:ah)(a1:aB):Prop:=(ah.Sm (2^21) a0)/\(aB.Sm (2^21) a1)
def R:=RR (p2 gd) (u2 md)
def ak {a0 a1}(h:gd a0 a1):R ((ah.r a0),(aB.r a1))=some (md a0 a1):=aM (a:=(a0,a1)) h
def aV:=CN [.agg sX,.agg oo] oB RT.dec R
def bp (a0)(a1)(hg:gd a0 a1):F (ah.r a0) (aB.r a1)=ret (md a0 a1):=by
 obtain ⟨H0,H1⟩:=hg
 unfold F md
 try simp only [SS]
 refine ct (Z115.ak (a1:=(⟨((⟨#[]⟩:aA):aA),0,0,[]⟩:ah)) ⟨H0,⟨(by decide),bI.nil⟩⟩) ?_
 refine aq ret (fun c1=>?_) (fun _=>rfl)
 refine ct (Z116.ak (a1:=(⟨0,[]⟩:aB)) ⟨H1,bI.nil⟩) ?_
 all_goals exact fz
def af:cq 202 aV:=W2 13 F mix aD bp (.cons Z115.af (.cons Z116.af .nil)) Tryz.func202
end Z118
namespace Z119
def F (x0 x1:Int)(x2:aA)(x3:dm):aH:=(call (Z50.R x2) fun v1=>(cond (!v1) bf (call (Z49.R (x3.ec,0,x1)) fun v2=>(cond (!v2) bf (cond (x1==0) (call (Z92.R []) fun v3=>(cond (x0 != v3) bf (cond (x3.ec==0) (call (Z118.R (x3.aX,x3.dx)) fun v4=>(cond (!v4) bf (cond (x3.ec==x1) (call (Z118.R (x3.bQ,x3.cw)) fun v5=>ret (v5:Bool)) (call (Z113.R (x0,x1,x3.bQ,x3.cw)) fun v6=>(cond v6 (cond (x3.cw.ec==x3.ec) (call (Z81.R (x3.bQ.aQ,x2)) fun v7=>ret ((v7==1):Bool)) bf) bf))))) (call (Z113.R (x0,x1,x3.aX,x3.dx)) fun v8=>(cond (!v8) bf (cond (x3.dx.ec != (i64.wrap (x3.ec - 1))) bf (call (Z81.R (x3.aX.aQ,x2)) fun v9=>(cond (v9 != (-1)) bf (cond (x3.ec==x1) (call (Z118.R (x3.bQ,x3.cw)) fun v10=>ret (v10:Bool)) (call (Z113.R (x0,x1,x3.bQ,x3.cw)) fun v11=>(cond v11 (cond (x3.cw.ec==x3.ec) (call (Z81.R (x3.bQ.aQ,x2)) fun v12=>ret ((v12==1):Bool)) bf) bf))))))))))) (cond (x3.ec==0) (call (Z118.R (x3.aX,x3.dx)) fun v13=>(cond (!v13) bf (cond (x3.ec==x1) (call (Z118.R (x3.bQ,x3.cw)) fun v14=>ret (v14:Bool)) (call (Z113.R (x0,x1,x3.bQ,x3.cw)) fun v15=>(cond v15 (cond (x3.cw.ec==x3.ec) (call (Z81.R (x3.bQ.aQ,x2)) fun v16=>ret ((v16==1):Bool)) bf) bf))))) (call (Z113.R (x0,x1,x3.aX,x3.dx)) fun v17=>(cond (!v17) bf (cond (x3.dx.ec != (i64.wrap (x3.ec - 1))) bf (call (Z81.R (x3.aX.aQ,x2)) fun v18=>(cond (v18 != (-1)) bf (cond (x3.ec==x1) (call (Z118.R (x3.bQ,x3.cw)) fun v19=>ret (v19:Bool)) (call (Z113.R (x0,x1,x3.bQ,x3.cw)) fun v20=>(cond v20 (cond (x3.cw.ec==x3.ec) (call (Z81.R (x3.bQ.aQ,x2)) fun v21=>ret ((v21==1):Bool)) bf) bf))))))))))))))
def md (a0 a1:Int)(a2:aA)(a3:bG):Bool:=(cond (!(Z50.md a2)) (false:Bool) (cond (!(Z49.md a3.ec 0 a1)) (false:Bool) (cond (a1==0) (cond (a0 != (Z92.md [])) (false:Bool) (cond (a3.ec==0) (cond (!(Z118.md a3.aX a3.dx)) (false:Bool) (cond (a3.ec==a1) ((Z118.md a3.bQ a3.cw):Bool) (cond (Z113.md a0 a1 a3.bQ a3.cw) (cond (a3.cw.ec==a3.ec) (((Z81.md a3.bQ.aQ a2)==1):Bool) (false:Bool)) (false:Bool)))) (cond (!(Z113.md a0 a1 a3.aX a3.dx)) (false:Bool) (cond (a3.dx.ec != (i64.wrap (a3.ec - 1))) (false:Bool) (cond ((Z81.md a3.aX.aQ a2) != (-1)) (false:Bool) (cond (a3.ec==a1) ((Z118.md a3.bQ a3.cw):Bool) (cond (Z113.md a0 a1 a3.bQ a3.cw) (cond (a3.cw.ec==a3.ec) (((Z81.md a3.bQ.aQ a2)==1):Bool) (false:Bool)) (false:Bool)))))))) (cond (a3.ec==0) (cond (!(Z118.md a3.aX a3.dx)) (false:Bool) (cond (a3.ec==a1) ((Z118.md a3.bQ a3.cw):Bool) (cond (Z113.md a0 a1 a3.bQ a3.cw) (cond (a3.cw.ec==a3.ec) (((Z81.md a3.bQ.aQ a2)==1):Bool) (false:Bool)) (false:Bool)))) (cond (!(Z113.md a0 a1 a3.aX a3.dx)) (false:Bool) (cond (a3.dx.ec != (i64.wrap (a3.ec - 1))) (false:Bool) (cond ((Z81.md a3.aX.aQ a2) != (-1)) (false:Bool) (cond (a3.ec==a1) ((Z118.md a3.bQ a3.cw):Bool) (cond (Z113.md a0 a1 a3.bQ a3.cw) (cond (a3.cw.ec==a3.ec) (((Z81.md a3.bQ.aQ a2)==1):Bool) (false:Bool)) (false:Bool))))))))))
def gd (a0 a1:Int)(a2:aA)(a3:bG):Prop:=(a2.size<=(2^21))/\(bG.Sm (2^21) a3)
def R:=RR (p4 gd) (u4 md)
def ak {a0 a1 a2 a3}(h:gd a0 a1 a2 a3):R (a0,a1,a2,(bG.r a3))=some (md a0 a1 a2 a3):=aM (a:=(a0,a1,a2,a3)) h
def aV:=CN [pI,pI,pS,.agg ql] oB RT.dec R
def bp (a0)(a1)(a2)(a3)(hg:gd a0 a1 a2 a3):F a0 a1 a2 (bG.r a3)=ret (md a0 a1 a2 a3):=by
 obtain ⟨H2,H3⟩:=hg
 unfold F md
 try simp only [SS]
 refine ct (Z50.ak (le_trans H2 (by decide))) ?_
 refine aq ret (fun _=>rfl) (fun c1=>?_)
 refine ct (Z49.ak trivial) ?_
 refine aq ret (fun _=>rfl) (fun c2=>?_)
 refine aq ret (fun c3=>?_) (fun c3=>?_)
 ·refine cF (Z92.md []) (rq (Z92.ak (a0:=[]) bI.nil)) ?_
  refine aq ret (fun _=>rfl) (fun c4=>?_)
  refine aq ret (fun c5=>?_) (fun c5=>?_)
  ·refine ct (Z118.ak ⟨H3.1,H3.2.2.1⟩) ?_
   refine aq ret (fun _=>rfl) (fun c6=>?_)
   refine aq ret (fun c7=>?_) (fun c7=>?_)
   ·refine ct (Z118.ak ⟨H3.2.1,H3.2.2.2⟩) ?_
    all_goals exact fz
   ·refine ct (Z113.ak ⟨H3.2.1,H3.2.2.2⟩) ?_
    refine aq ret (fun c8=>?_) (fun _=>rfl)
    refine aq ret (fun c9=>?_) (fun _=>rfl)
    refine ct (Z81.ak trivial) ?_
    all_goals exact fz
  ·refine ct (Z113.ak ⟨H3.1,H3.2.2.1⟩) ?_
   refine aq ret (fun _=>rfl) (fun c10=>?_)
   refine aq ret (fun _=>rfl) (fun c11=>?_)
   refine ct (Z81.ak trivial) ?_
   refine aq ret (fun _=>rfl) (fun c12=>?_)
   refine aq ret (fun c13=>?_) (fun c13=>?_)
   ·refine ct (Z118.ak ⟨H3.2.1,H3.2.2.2⟩) ?_
    all_goals exact fz
   ·refine ct (Z113.ak ⟨H3.2.1,H3.2.2.2⟩) ?_
    refine aq ret (fun c14=>?_) (fun _=>rfl)
    refine aq ret (fun c15=>?_) (fun _=>rfl)
    refine ct (Z81.ak trivial) ?_
    all_goals exact fz
 ·refine aq ret (fun c16=>?_) (fun c16=>?_)
  ·refine ct (Z118.ak ⟨H3.1,H3.2.2.1⟩) ?_
   refine aq ret (fun _=>rfl) (fun c17=>?_)
   refine aq ret (fun c18=>?_) (fun c18=>?_)
   ·refine ct (Z118.ak ⟨H3.2.1,H3.2.2.2⟩) ?_
    all_goals exact fz
   ·refine ct (Z113.ak ⟨H3.2.1,H3.2.2.2⟩) ?_
    refine aq ret (fun c19=>?_) (fun _=>rfl)
    refine aq ret (fun c20=>?_) (fun _=>rfl)
    refine ct (Z81.ak trivial) ?_
    all_goals exact fz
  ·refine ct (Z113.ak ⟨H3.1,H3.2.2.1⟩) ?_
   refine aq ret (fun _=>rfl) (fun c21=>?_)
   refine aq ret (fun _=>rfl) (fun c22=>?_)
   refine ct (Z81.ak trivial) ?_
   refine aq ret (fun _=>rfl) (fun c23=>?_)
   refine aq ret (fun c24=>?_) (fun c24=>?_)
   ·refine ct (Z118.ak ⟨H3.2.1,H3.2.2.2⟩) ?_
    all_goals exact fz
   ·refine ct (Z113.ak ⟨H3.2.1,H3.2.2.2⟩) ?_
    refine aq ret (fun c25=>?_) (fun _=>rfl)
    refine aq ret (fun c26=>?_) (fun _=>rfl)
    refine ct (Z81.ak trivial) ?_
    all_goals exact fz
def af:cq 201 aV:=W4 95 F mix aD bp (.cons Z50.af (.cons Z49.af (.cons Z92.af (.cons Z118.af (.cons Z113.af (.cons Z81.af .nil)))))) Tryz.func201
end Z119
namespace Z120
def F (x0:bW)(x1:aA)(x2:aO):aH:=(cond x2.bS (cond (x2.bg.aQ==x1) (call (Z113.R (x0.dg,x0.cB,x2.bg,x2.cX)) fun v1=>(cond v1 (call (Z117.R (x2.eo,(⟨0,(⟨(⟨#[]⟩:aA),0,0,[]⟩:aW),(⟨(⟨#[]⟩:aA),0,0,[]⟩:aW),(⟨0,[]⟩:bH),(⟨0,[]⟩:bH)⟩:dm))) fun v2=>ret (v2:Bool)) bf)) bf) (call (Z119.R (x0.dg,x0.cB,x1,x2.eo)) fun v3=>(cond v3 (call (Z118.R (x2.bg,x2.cX)) fun v4=>ret (v4:Bool)) bf)))
def md (a0:aE)(a1:aA)(a2:aj):Bool:=(cond a2.bS (cond (a2.bg.aQ==a1) (cond (Z113.md a0.dg a0.cB a2.bg a2.cX) ((Z117.md a2.eo (⟨0,(⟨((⟨#[]⟩:aA):aA),0,0,[]⟩:ah),(⟨((⟨#[]⟩:aA):aA),0,0,[]⟩:ah),(⟨0,[]⟩:aB),(⟨0,[]⟩:aB)⟩:bG)):Bool) (false:Bool)) (false:Bool)) (cond (Z119.md a0.dg a0.cB a1 a2.eo) ((Z118.md a2.bg a2.cX):Bool) (false:Bool)))
def gd (a0:aE)(a1:aA)(a2:aj):Prop:=(a1.size<=(2^21))/\(aj.Sm (2^21) a2)
def R:=RR (p3 gd) (u3 md)
def ak {a0 a1 a2}(h:gd a0 a1 a2):R ((aE.r a0),a1,(aj.r a2))=some (md a0 a1 a2):=aM (a:=(a0,a1,a2)) h
def aV:=CN [.agg fV,pS,.agg qJ] oB RT.dec R
def bp (a0)(a1)(a2)(hg:gd a0 a1 a2):F (aE.r a0) a1 (aj.r a2)=ret (md a0 a1 a2):=by
 obtain ⟨H1,H2⟩:=hg
 unfold F md
 try simp only [SS]
 refine aq ret (fun c1=>?_) (fun c1=>?_)
 ·refine aq ret (fun c2=>?_) (fun _=>rfl)
  refine ct (Z113.ak ⟨H2.2.1,H2.2.2.1⟩) ?_
  refine aq ret (fun c3=>?_) (fun _=>rfl)
  refine ct (Z117.ak (a1:=(⟨0,(⟨((⟨#[]⟩:aA):aA),0,0,[]⟩:ah),(⟨((⟨#[]⟩:aA):aA),0,0,[]⟩:ah),(⟨0,[]⟩:aB),(⟨0,[]⟩:aB)⟩:bG)) ⟨H2.2.2.2,⟨⟨(by decide),bI.nil⟩,⟨(by decide),bI.nil⟩,bI.nil,bI.nil⟩⟩) ?_
  all_goals exact fz
 ·refine ct (Z119.ak ⟨H1,H2.2.2.2⟩) ?_
  refine aq ret (fun c4=>?_) (fun _=>rfl)
  refine ct (Z118.ak ⟨H2.2.1,H2.2.2.1⟩) ?_
  all_goals exact fz
def af:cq 154 aV:=W3 46 F mix aD bp (.cons Z113.af (.cons Z117.af (.cons Z119.af (.cons Z118.af .nil)))) Tryz.func154
end Z120
namespace Z121
def F (x0:Int)(x1:aA)(x2:aO)(x3:Int):aH:=(call (Z79.R x2.aP) fun v1=>(cond (!v1.2) (ret (3:Int)) (cond (v1.1.bw != x0) (ret (2:Int)) (call (Z111.R (v1.1,x3)) fun v2=>(cond (!v2) (ret (4:Int)) (cond v1.1.bF (ret (5:Int)) (call (Z120.R (v1.1,x1,x2)) fun v3=>(cond (!v3) (ret (6:Int)) (ret (1:Int))))))))))
def md (a0:Int)(a1:aA)(a2:aj)(a3:Int):Int:=(cond (!(Z79.md a2.aP).2) (3:Int) (cond ((Z79.md a2.aP).1.bw != a0) (2:Int) (cond (!(Z111.md ((Z79.md a2.aP).1) a3)) (4:Int) (cond ((Z79.md a2.aP).1.bF) (5:Int) (cond (!(Z120.md ((Z79.md a2.aP).1) a1 a2)) (6:Int) (1:Int))))))
def gd (a0:Int)(a1:aA)(a2:aj)(a3:Int):Prop:=(a1.size<=(2^21))/\(aj.Sm (2^21) a2)
def R:=RR (p4 gd) (u4 md)
def ak {a0 a1 a2 a3}(h:gd a0 a1 a2 a3):R (a0,a1,(aj.r a2),a3)=some (md a0 a1 a2 a3):=aM (a:=(a0,a1,a2,a3)) h
def aV:=CN [pI,pS,.agg qJ,pI] oI RT.dec R
def bp (a0)(a1)(a2)(a3)(hg:gd a0 a1 a2 a3):F a0 a1 (aj.r a2) a3=ret (md a0 a1 a2 a3):=by
 obtain ⟨H1,H2⟩:=hg
 unfold F md
 try simp only [SS]
 refine ct (Z79.ak H2.1) ?_
 try simp only [SS]
 refine aq ret (fun _=>rfl) (fun c1=>?_)
 refine aq ret (fun _=>rfl) (fun c2=>?_)
 refine ct (Z111.ak trivial) ?_
 refine aq ret (fun _=>rfl) (fun c3=>?_)
 refine aq ret (fun _=>rfl) (fun c4=>?_)
 refine ct (Z120.ak ⟨H1,H2⟩) ?_
 refine aq ret (fun _=>rfl) (fun _=>rfl)
def af:cq 103 aV:=W4 39 F mix aD bp (.cons Z79.af (.cons Z111.af (.cons Z120.af .nil))) Tryz.func103
end Z121
namespace Z122
inductive Pt where
 | p0 (a:Int) (b c:aT)
def pid:Pt->Nat
 | .p0 ..=>4
def cQ:Pt->List V
 | .p0 a b c=>[.cj 0 0,.cj 1 0,.int .i64 a]
def cR:Pt->List aS
 | .p0 a b c=>[.box [.int .i64 b.ay.bw,.int .i64 b.ay.cG,.int .i64 b.ay.bL,.int .i64 b.ay.cE,.int .i64 b.ay.cD,.int .i64 b.ay.cB,.int .i64 b.ay.dg,.int .i64 b.ay.dN,.sl none 3 b.ay.cg.aU,.int .i64 b.ay.cg.cV,.sl none 3 b.ay.bN.aU,.int .i64 b.ay.bN.cV,.int .i64 b.ay.dy,.sl none 3 b.ay.bK.aU,.int .i64 b.ay.bK.cV,.bool b.ay.bF,.sl none 227 b.cT],.box [.int .i64 c.ay.bw,.int .i64 c.ay.cG,.int .i64 c.ay.bL,.int .i64 c.ay.cE,.int .i64 c.ay.cD,.int .i64 c.ay.cB,.int .i64 c.ay.dg,.int .i64 c.ay.dN,.sl none 3 c.ay.cg.aU,.int .i64 c.ay.cg.cV,.sl none 3 c.ay.bN.aU,.int .i64 c.ay.bN.cV,.int .i64 c.ay.dy,.sl none 3 c.ay.bK.aU,.int .i64 c.ay.bK.cV,.bool c.ay.bF,.sl none 227 c.cT]]
def step (J:Pt->aH):Pt->aH
 | .p0 a b c=>(cond (decide (a<(b.cT.length:Int))) (m2 a (b.cT.length:Int) (m2 a (c.cT.length:Int) (cond (!((((bz.at b.cT (toNat a)).gT:Int)==(bz.at c.cT (toNat a)).gT)&&((((bz.at b.cT (toNat a)).jP:Int)==(bz.at c.cT (toNat a)).jP)&&true))) bf (J (.p0 (i64.wrap (a+1)) b c))))) eG)
def start (J:Pt->aH)(x0 x1:aT):aH:=(call (Z106.R (x0.ay,x1.ay)) fun v1=>(cond (!v1) bf (cond ((x0.cT.length:Int) != (x1.cT.length:Int)) bf (J (.p0 0 x0 x1)))))
def live:Nat->Live:=fun i=>match i with | 4=>[(2,none),(3,none),(5,none)] | _=>[]
def md (a0 a1:aa):Bool:=(bif (!(Z106.md a0.ay a1.ay)) then (false:Bool) else (bif ((a0.cT.length:Int) != (a1.cT.length:Int)) then (false:Bool) else (eD (S:=Unit) (β:=Bool) (fun (i3:Nat) (s5:Unit)=>(cond (!((((a0.cT.getD i3 bz.zero).gT:Int)==(a1.cT.getD i3 bz.zero).gT)&&((((a0.cT.getD i3 bz.zero).jP:Int)==(a1.cT.getD i3 bz.zero).jP)&&true))) (.inr (false:Bool)) (.inl ()))) (fun (s5:Unit)=>(true:Bool)) a0.cT.length 0 ())))
def gd (a0 a1:aa):Prop:=(aa.Sm (2^21) a0)/\(aa.Sm (2^21) a1)
def R:=RR (p2 gd) (u2 md)
def ak {a0 a1}(h:gd a0 a1):R ((aa.r a0),(aa.r a1))=some (md a0 a1):=aM (a:=(a0,a1)) h
def aV:=CN [.agg kB,.agg kB] oB RT.dec R
def bp (a0)(a1)(hg:gd a0 a1):∃n,start (iter step n) (aa.r a0) (aa.r a1)=ret (md a0 a1):=by
 obtain ⟨H0,H1⟩:=hg
 unfold start md
 try simp only [SS]
 refine cx (Z106.ak ⟨H0.1,H1.1⟩) ?_
 refine gP ret (fun _=>⟨0,rfl⟩) (fun c1=>?_)
 have dc1:=c1
 try simp only [DC] at dc1
 refine gP ret (fun _=>⟨0,rfl⟩) (fun c2=>?_)
 have dc2:=c2
 try simp only [DC] at dc2
 have Bh4:a0.cT.length<=maxLen:=(by
   have:=(H0.2).1
   try simp only [maxLen] at *
   omega)
 refine dG (p:=Pt.p0 0 (aa.r a0) (aa.r a1)) fz ?_
 refine bU (pt:=fun (i3:Nat) (s5:Unit)=>Pt.p0 (i3:Int) (aa.r a0) (aa.r a1)) (s:=(():Unit)) (out:=ret) (fun _ _=>True) (fun J i3 s5 h4 hih4=>?_) (fun s5 hih4=>?_) trivial
 ·simp only [step,SS]
  have bb_:=Bh4
  simp only [maxLen] at bb_
  have:=(H0.2).1
  refine bk.yes (by apply decide_eq_true;omega) ?_
  refine bk.yes bE ?_
  refine bk.yes (bM h4) ?_
  refine bk.yes bE ?_
  refine bk.yes (have:=(H1.2).1;dt) ?_
  refine bk.bif (fun _=>bk.inr rfl) (fun c6=>?_)
  refine bk.inl trivial ?_
  rw [aJ h4 Bh4]
  all_goals exact fz
 ·simp only [step,SS]
  have:=(H0.2).1
  refine cY (by apply decide_eq_false;omega) ?_
  refine ⟨0,?_⟩
  all_goals exact fz
def af:cq 293 aV:=L2 39 pid cQ cR live step start mix aD bp (.cons Z106.af .nil) Tryz.func293
def md_eq (a0 a1:aa):md a0 a1=eu a0 a1:=by
 unfold md
 simp only [Z106.md_eq,eT,bz.eqc]
 rw [jY bz.zero (fun i s h h2=>by cases eu (a0.cT.getD i bz.zero) (a1.cT.getD i bz.zero)<;>rfl) (fun s=>rfl)]
 rw [Bool.eq_iff_iff]
 cases a0;cases a1
 simp [cU]
end Z122
namespace Z123
def F (x0:cu):aH:=(call (Z106.R (x0.fA.ay,x0.fB.ay)) fun v1=>(cond v1 bf (call (Z122.R (x0.aX,(⟨(⟨0,0,0,0,0,0,0,0,(⟨[],0⟩:bC),(⟨[],0⟩:bC),0,(⟨[],0⟩:bC),false⟩:bW),[]⟩:aT))) fun v2=>(cond v2 (call (Z67.R x0.fA) fun v3=>(cond v3 (call (Z67.R x0.fB) fun v4=>(cond v4 (ret ((x0.fA.ay.bw==x0.fB.ay.bw):Bool)) bf)) bf)) (call (Z76.R (x0.aX.ay,x0.fA)) fun v5=>(cond v5 (call (Z76.R (x0.aX.ay,x0.fB)) fun v6=>ret (v6:Bool)) bf))))))
def md (a0:aI):Bool:=(cond (Z106.md a0.fA.ay a0.fB.ay) (false:Bool) (cond (Z122.md a0.aX (⟨(⟨0,0,0,0,0,0,0,0,(⟨[],0⟩:aL),(⟨[],0⟩:aL),0,(⟨[],0⟩:aL),false⟩:aE),[]⟩:aa)) (cond (Z67.md a0.fA) (cond (Z67.md a0.fB) ((a0.fA.ay.bw==a0.fB.ay.bw):Bool) (false:Bool)) (false:Bool)) (cond (Z76.md a0.aX.ay a0.fA) ((Z76.md a0.aX.ay a0.fB):Bool) (false:Bool))))
def gd (a0:aI):Prop:=(aI.Sm (2^21) a0)
def R:=RR gd md
def ak {a0}(h:gd a0):R (aI.r a0)=some (md a0):=aM (a:=a0) h
def aV:=CN [.agg tI] oB RT.dec R
def bp (a0)(hg:gd a0):F (aI.r a0)=ret (md a0):=by
 unfold gd at hg
 have H0:=hg
 unfold F md
 try simp only [SS]
 refine ct (Z106.ak ⟨H0.2.1.1,H0.2.2.1⟩) ?_
 refine aq ret (fun _=>rfl) (fun c1=>?_)
 refine ct (Z122.ak (a1:=(⟨(⟨0,0,0,0,0,0,0,0,(⟨[],0⟩:aL),(⟨[],0⟩:aL),0,(⟨[],0⟩:aL),false⟩:aE),[]⟩:aa)) ⟨H0.1,⟨⟨bI.nil,bI.nil,bI.nil⟩,bI.nil⟩⟩) ?_
 refine aq ret (fun c2=>?_) (fun c2=>?_)
 ·refine ct (Z67.ak H0.2.1) ?_
  refine aq ret (fun c3=>?_) (fun _=>rfl)
  refine ct (Z67.ak H0.2.2) ?_
  refine aq ret (fun c4=>?_) (fun _=>rfl)
  all_goals exact fz
 ·refine ct (Z76.ak ⟨H0.1.1,H0.2.1⟩) ?_
  refine aq ret (fun c5=>?_) (fun _=>rfl)
  refine ct (Z76.ak ⟨H0.1.1,H0.2.2⟩) ?_
  all_goals exact fz
def af:cq 238 aV:=W1 47 F mix aD bp (.cons Z106.af (.cons Z122.af (.cons Z67.af (.cons Z76.af .nil)))) Tryz.func238
end Z123
namespace Z124
def F (x0:cu):aH:=(call (Z123.R x0) fun v1=>(cond (!v1) (ret ((-1):Int)) (ret (x0.fA.ay.bw:Int))))
def md (a0:aI):Int:=(cond (!(Z123.md a0)) ((-1):Int) (a0.fA.ay.bw:Int))
def gd (a0:aI):Prop:=(aI.Sm (2^21) a0)
def R:=RR gd md
def ak {a0}(h:gd a0):R (aI.r a0)=some (md a0):=aM (a:=a0) h
def aV:=CN [.agg tI] oI RT.dec R
def bp (a0)(hg:gd a0):F (aI.r a0)=ret (md a0):=by
 unfold gd at hg
 have H0:=hg
 unfold F md
 try simp only [SS]
 refine ct (Z123.ak H0) ?_
 refine aq ret (fun _=>rfl) (fun c1=>?_)
 all_goals exact fz
def af:cq 183 aV:=W1 10 F mix aD bp (.cons Z123.af .nil) Tryz.func183
end Z124
namespace Z125
inductive Pt where
 | p0 (a b:Int) (c:bt)
def pid:Pt->Nat
 | .p0 ..=>2
def cQ:Pt->List V
 | .p0 a b c=>[.int .i64 a,.cj 0 0,.int .i64 b]
def cR:Pt->List aS
 | .p0 a b c=>[.box [.sl none 120 c.aK,.sl none 180 c.bq]]
def step (J:Pt->aH):Pt->aH
 | .p0 a b c=>(cond (decide (b<(c.bq.length:Int))) (m2 b (c.bq.length:Int) (call (Z124.R (cu.at c.bq (toNat b))) fun v1=>(cond (v1==a) (cond (decide (a>=0)) eG (J (.p0 a (i64.wrap (b+1)) c))) (J (.p0 a (i64.wrap (b+1)) c))))) bf)
def start (J:Pt->aH)(x0:bt)(x1:Int):aH:=J (.p0 x1 0 x0)
def live:Nat->Live:=fun i=>match i with | 2=>[(1,none),(2,none),(5,none)] | _=>[]
def md (a0:an)(a1:Int):Bool:=(dV (S:=Unit) (β:=Bool) (fun (y1:aI) (s3:Unit)=>(cond ((Z124.md y1)==a1) (cond (decide (a1>=0)) (.inr (true:Bool)) (.inl ())) (.inl ()))) (fun (s3:Unit)=>(false:Bool)) a0.bq ())
def gd (a0:an)(a1:Int):Prop:=(an.Sm (2^21) a0)
def R:=RR (p2 gd) (u2 md)
def ak {a0 a1}(h:gd a0 a1):R ((an.r a0),a1)=some (md a0 a1):=aM (a:=(a0,a1)) h
def aV:=CN [.agg tO,pI] oB RT.dec R
def bp (a0)(a1)(hg:gd a0 a1):∃n,start (iter step n) (an.r a0) a1=ret (md a0 a1):=by
 unfold gd at hg
 have H0:=hg
 unfold start md
 try simp only [SS]
 have Bh2:a0.bq.length<=maxLen:=(by
   have:=(H0.2).1
   try simp only [maxLen] at *
   omega)
 refine ex_eq (out:=ret) (eJ (z:=aI.zero)) ?_
 refine dG (p:=Pt.p0 a1 0 (an.r a0)) fz ?_
 refine bU (pt:=fun (i1:Nat) (s3:Unit)=>Pt.p0 a1 (i1:Int) (an.r a0)) (s:=(():Unit)) (out:=ret) (fun _ _=>True) (fun J i1 s3 h2 hih2=>?_) (fun s3 hih2=>?_) trivial
 ·simp only [step,SS]
  have bb_:=Bh2
  simp only [maxLen] at bb_
  have:=(H0.2).1
  refine bk.yes (by apply decide_eq_true;omega) ?_
  refine bk.yes bE ?_
  refine bk.yes (bM h2) ?_
  refine cr (Z124.ak (bI.getD (z:=aI.zero) H0.2 h2)) ?_
  refine bk.bif (fun c4=>?_) (fun c4=>?_)
  ·refine bk.bif (fun _=>bk.inr rfl) (fun c5=>?_)
   refine bk.inl trivial ?_
   rw [aJ h2 Bh2]
   all_goals exact fz
  ·refine bk.inl trivial ?_
   rw [aJ h2 Bh2]
   all_goals exact fz
 ·simp only [step,SS]
  have:=(H0.2).1
  refine cY (by apply decide_eq_false;omega) ?_
  refine ⟨0,?_⟩
  all_goals exact fz
def af:cq 139 aV:=L2 25 pid cQ cR live step start mix aD bp (.cons Z124.af .nil) Tryz.func139
end Z125
namespace Z126
inductive Pt where
 | p0 (a:aF) (b:Int) (c:aA) (d e:Int) (f:Bool) (g:aA) (h i:Int) (j k:Bool) (l:aA) (m n:Int) (o:Bool) (p q s:aF)
def pid:Pt->Nat
 | .p0 ..=>3
def cQ:Pt->List V
 | .p0 a b c d e f g h i j k l m n o p q s=>[.sl none 126 a,.int .i64 b,.str c,.int .i64 d,.cj 0 0,.cj 1 0,.int .i64 e,.cj 1 0]
def cR:Pt->List aS
 | .p0 a b c d e f g h i j k l m n o p q s=>[.box [.nil,.nil,.bool f,.str g,.int .i64 h,.int .i64 i,.nil,.bool j,.nil],.box [.own 2,.own 3,.bool k,.str l,.int .i64 m,.int .i64 n,.nil,.bool o,.own 4],.row 120 p,.row 180 q,.row 3 s]
def step (J:Pt->aH):Pt->aH
 | .p0 a b c d e f g h i j k l m n o p q s=>(cond (decide (e<(a.length:Int))) (m2 e (a.length:Int) (call (Z79.R ((aO.at a (toNat e)).aP)) fun v1=>(cond v1.2 (cond (v1.1.bw==b) (call (Z110.R ((⟨p,q⟩:bt),(aO.at a (toNat e)).aP)) fun v2=>(call (Z121.R (b,c,(aO.at a (toNat e)),d)) fun v3=>(cond (v2.2==1) (cond (v3==1) (call (Z125.R (v2.1,b)) fun v4=>(cond v4 (cK (eO (((s.length:Int)+1)*8)) (J (.p0 a b c d (i64.wrap (e+1)) f g h i j k l m n o v2.1.aK v2.1.bq (s++[[L.int 3]])))) (cK (eO (((s.length:Int)+1)*8)) (cond (v3==1) (call (Z44.R ((aO.at a (toNat e)).bg)) fun v5=>ret ((⟨v2.1,(aO.at a (toNat e)).bS,v5,true,(s++[[L.int v3]])⟩:cW):cW)) (J (.p0 a b c d (i64.wrap (e+1)) f g h i j k l m n o v2.1.aK v2.1.bq (s++[[L.int v3]]))))))) (cK (eO (((s.length:Int)+1)*8)) (cond (v3==1) (call (Z44.R ((aO.at a (toNat e)).bg)) fun v6=>ret ((⟨v2.1,(aO.at a (toNat e)).bS,v6,true,(s++[[L.int v3]])⟩:cW):cW)) (J (.p0 a b c d (i64.wrap (e+1)) f g h i j k l m n o v2.1.aK v2.1.bq (s++[[L.int v3]])))))) (cond (v2.2==2) (cond (v3==1) (call (Z125.R (v2.1,b)) fun v7=>(cond v7 (cK (eO (((s.length:Int)+1)*8)) (J (.p0 a b c d (i64.wrap (e+1)) f g h i j k l m n o v2.1.aK v2.1.bq (s++[[L.int 3]])))) (cK (eO (((s.length:Int)+1)*8)) (cond (v3==1) (call (Z44.R ((aO.at a (toNat e)).bg)) fun v8=>ret ((⟨v2.1,(aO.at a (toNat e)).bS,v8,true,(s++[[L.int v3]])⟩:cW):cW)) (J (.p0 a b c d (i64.wrap (e+1)) f g h i j k l m n o v2.1.aK v2.1.bq (s++[[L.int v3]]))))))) (cK (eO (((s.length:Int)+1)*8)) (cond (v3==1) (call (Z44.R ((aO.at a (toNat e)).bg)) fun v9=>ret ((⟨v2.1,(aO.at a (toNat e)).bS,v9,true,(s++[[L.int v3]])⟩:cW):cW)) (J (.p0 a b c d (i64.wrap (e+1)) f g h i j k l m n o v2.1.aK v2.1.bq (s++[[L.int v3]])))))) (cond (v3==1) (cond (!(v2.2==3)) (cK (eO (((s.length:Int)+1)*8)) (J (.p0 a b c d (i64.wrap (e+1)) f g h i j k l m n o v2.1.aK v2.1.bq (s++[[L.int 3]])))) (call (Z125.R (v2.1,b)) fun v10=>(cond v10 (cK (eO (((s.length:Int)+1)*8)) (J (.p0 a b c d (i64.wrap (e+1)) f g h i j k l m n o v2.1.aK v2.1.bq (s++[[L.int 3]])))) (cK (eO (((s.length:Int)+1)*8)) (cond (v3==1) (call (Z44.R ((aO.at a (toNat e)).bg)) fun v11=>ret ((⟨v2.1,(aO.at a (toNat e)).bS,v11,true,(s++[[L.int v3]])⟩:cW):cW)) (J (.p0 a b c d (i64.wrap (e+1)) f g h i j k l m n o v2.1.aK v2.1.bq (s++[[L.int v3]])))))))) (cK (eO (((s.length:Int)+1)*8)) (cond (v3==1) (call (Z44.R ((aO.at a (toNat e)).bg)) fun v12=>ret ((⟨v2.1,(aO.at a (toNat e)).bS,v12,true,(s++[[L.int v3]])⟩:cW):cW)) (J (.p0 a b c d (i64.wrap (e+1)) f g h i j k l m n o v2.1.aK v2.1.bq (s++[[L.int v3]])))))))))) (call (Z121.R (b,c,(aO.at a (toNat e)),d)) fun v13=>(cond (v13==1) (cK (eO (((s.length:Int)+1)*8)) (J (.p0 a b c d (i64.wrap (e+1)) f g h i j k l m n o p q (s++[[L.int 3]])))) (cK (eO (((s.length:Int)+1)*8)) (cond (v13==1) (call (Z44.R ((aO.at a (toNat e)).bg)) fun v14=>ret ((⟨(⟨p,q⟩:bt),(aO.at a (toNat e)).bS,v14,true,(s++[[L.int v13]])⟩:cW):cW)) (J (.p0 a b c d (i64.wrap (e+1)) f g h i j k l m n o p q (s++[[L.int v13]])))))))) (call (Z121.R (b,c,(aO.at a (toNat e)),d)) fun v15=>(cond (v15==1) (cK (eO (((s.length:Int)+1)*8)) (J (.p0 a b c d (i64.wrap (e+1)) f g h i j k l m n o p q (s++[[L.int 3]])))) (cK (eO (((s.length:Int)+1)*8)) (cond (v15==1) (call (Z44.R ((aO.at a (toNat e)).bg)) fun v16=>ret ((⟨(⟨p,q⟩:bt),(aO.at a (toNat e)).bS,v16,true,(s++[[L.int v15]])⟩:cW):cW)) (J (.p0 a b c d (i64.wrap (e+1)) f g h i j k l m n o p q (s++[[L.int v15]])))))))))) (ret ((⟨(⟨p,q⟩:bt),k,(⟨l,m,n,[]⟩:aW),o,s⟩:cW):cW)))
def start (J:Pt->aH)(x0:bt)(x1:aF)(x2:Int)(x3:aA)(x4:Int):aH:=(call (Z42.R x0) fun v1=>J (.p0 x1 x2 x3 x4 0 false ⟨#[]⟩ 0 0 false false ⟨#[]⟩ 0 0 false v1.aK v1.bq []))
def live:Nat->Live:=fun i=>match i with | 3=>[(1,none),(2,none),(3,none),(4,none),(10,none),(11,none),(12,none),(11,some 8388611)] | _=>[]
def md (a0:an)(a1:List aj)(a2:Int)(a3:aA)(a4:Int):bO:=(dV (S:=List (List aa)×List aI×List Int) (β:=bO) (fun (y1:aj) (s3:List (List aa)×List aI×List Int)=>(cond ((Z79.md (y1.aP)).2) (cond ((Z79.md (y1.aP)).1.bw==a2) (cond ((Z110.md (⟨s3.1,s3.2.1⟩:an) (y1.aP)).2==1) (cond ((Z121.md a2 a3 y1 a4)==1) (cond (Z125.md ((Z110.md (⟨s3.1,s3.2.1⟩:an) (y1.aP)).1) a2) (.inl ((Z110.md (⟨s3.1,s3.2.1⟩:an) (y1.aP)).1.aK,(Z110.md (⟨s3.1,s3.2.1⟩:an) (y1.aP)).1.bq,(s3.2.2++[3]))) (cond ((Z121.md a2 a3 y1 a4)==1) (.inr (⟨(Z110.md (⟨s3.1,s3.2.1⟩:an) (y1.aP)).1,y1.bS,(y1.bg),true,(s3.2.2++[(Z121.md a2 a3 y1 a4)])⟩:bO)) (.inl ((Z110.md (⟨s3.1,s3.2.1⟩:an) (y1.aP)).1.aK,(Z110.md (⟨s3.1,s3.2.1⟩:an) (y1.aP)).1.bq,(s3.2.2++[(Z121.md a2 a3 y1 a4)]))))) (cond ((Z121.md a2 a3 y1 a4)==1) (.inr (⟨(Z110.md (⟨s3.1,s3.2.1⟩:an) (y1.aP)).1,y1.bS,(y1.bg),true,(s3.2.2++[(Z121.md a2 a3 y1 a4)])⟩:bO)) (.inl ((Z110.md (⟨s3.1,s3.2.1⟩:an) (y1.aP)).1.aK,(Z110.md (⟨s3.1,s3.2.1⟩:an) (y1.aP)).1.bq,(s3.2.2++[(Z121.md a2 a3 y1 a4)]))))) (cond ((Z110.md (⟨s3.1,s3.2.1⟩:an) (y1.aP)).2==2) (cond ((Z121.md a2 a3 y1 a4)==1) (cond (Z125.md ((Z110.md (⟨s3.1,s3.2.1⟩:an) (y1.aP)).1) a2) (.inl ((Z110.md (⟨s3.1,s3.2.1⟩:an) (y1.aP)).1.aK,(Z110.md (⟨s3.1,s3.2.1⟩:an) (y1.aP)).1.bq,(s3.2.2++[3]))) (cond ((Z121.md a2 a3 y1 a4)==1) (.inr (⟨(Z110.md (⟨s3.1,s3.2.1⟩:an) (y1.aP)).1,y1.bS,(y1.bg),true,(s3.2.2++[(Z121.md a2 a3 y1 a4)])⟩:bO)) (.inl ((Z110.md (⟨s3.1,s3.2.1⟩:an) (y1.aP)).1.aK,(Z110.md (⟨s3.1,s3.2.1⟩:an) (y1.aP)).1.bq,(s3.2.2++[(Z121.md a2 a3 y1 a4)]))))) (cond ((Z121.md a2 a3 y1 a4)==1) (.inr (⟨(Z110.md (⟨s3.1,s3.2.1⟩:an) (y1.aP)).1,y1.bS,(y1.bg),true,(s3.2.2++[(Z121.md a2 a3 y1 a4)])⟩:bO)) (.inl ((Z110.md (⟨s3.1,s3.2.1⟩:an) (y1.aP)).1.aK,(Z110.md (⟨s3.1,s3.2.1⟩:an) (y1.aP)).1.bq,(s3.2.2++[(Z121.md a2 a3 y1 a4)]))))) (cond ((Z121.md a2 a3 y1 a4)==1) (cond (!((Z110.md (⟨s3.1,s3.2.1⟩:an) (y1.aP)).2==3)) (.inl ((Z110.md (⟨s3.1,s3.2.1⟩:an) (y1.aP)).1.aK,(Z110.md (⟨s3.1,s3.2.1⟩:an) (y1.aP)).1.bq,(s3.2.2++[3]))) (cond (Z125.md ((Z110.md (⟨s3.1,s3.2.1⟩:an) (y1.aP)).1) a2) (.inl ((Z110.md (⟨s3.1,s3.2.1⟩:an) (y1.aP)).1.aK,(Z110.md (⟨s3.1,s3.2.1⟩:an) (y1.aP)).1.bq,(s3.2.2++[3]))) (cond ((Z121.md a2 a3 y1 a4)==1) (.inr (⟨(Z110.md (⟨s3.1,s3.2.1⟩:an) (y1.aP)).1,y1.bS,(y1.bg),true,(s3.2.2++[(Z121.md a2 a3 y1 a4)])⟩:bO)) (.inl ((Z110.md (⟨s3.1,s3.2.1⟩:an) (y1.aP)).1.aK,(Z110.md (⟨s3.1,s3.2.1⟩:an) (y1.aP)).1.bq,(s3.2.2++[(Z121.md a2 a3 y1 a4)])))))) (cond ((Z121.md a2 a3 y1 a4)==1) (.inr (⟨(Z110.md (⟨s3.1,s3.2.1⟩:an) (y1.aP)).1,y1.bS,(y1.bg),true,(s3.2.2++[(Z121.md a2 a3 y1 a4)])⟩:bO)) (.inl ((Z110.md (⟨s3.1,s3.2.1⟩:an) (y1.aP)).1.aK,(Z110.md (⟨s3.1,s3.2.1⟩:an) (y1.aP)).1.bq,(s3.2.2++[(Z121.md a2 a3 y1 a4)]))))))) (cond ((Z121.md a2 a3 y1 a4)==1) (.inl (s3.1,s3.2.1,(s3.2.2++[3]))) (cond ((Z121.md a2 a3 y1 a4)==1) (.inr (⟨(⟨s3.1,s3.2.1⟩:an),y1.bS,(y1.bg),true,(s3.2.2++[(Z121.md a2 a3 y1 a4)])⟩:bO)) (.inl (s3.1,s3.2.1,(s3.2.2++[(Z121.md a2 a3 y1 a4)])))))) (cond ((Z121.md a2 a3 y1 a4)==1) (.inl (s3.1,s3.2.1,(s3.2.2++[3]))) (cond ((Z121.md a2 a3 y1 a4)==1) (.inr (⟨(⟨s3.1,s3.2.1⟩:an),y1.bS,(y1.bg),true,(s3.2.2++[(Z121.md a2 a3 y1 a4)])⟩:bO)) (.inl (s3.1,s3.2.1,(s3.2.2++[(Z121.md a2 a3 y1 a4)]))))))) (fun (s3:List (List aa)×List aI×List Int)=>(⟨(⟨s3.1,s3.2.1⟩:an),false,(⟨(⟨#[]⟩:aA),0,0,[]⟩:ah),false,s3.2.2⟩:bO)) a1 (a0.aK,a0.bq,[]))
def gd (a0:an)(a1:List aj)(a2:Int)(a3:aA)(a4:Int):Prop:=(an.Sm (2^21) a0)/\(bI (2^21) (fun y:aj=>aj.Sm (2^21) y) a1)/\(a3.size<=(2^21))
def R:=RR (p5 gd) (u5 md)
def ak {a0 a1 a2 a3 a4}(h:gd a0 a1 a2 a3 a4):R ((an.r a0),(a1.map aj.row),a2,a3,a4)=some (bO.r (md a0 a1 a2 a3 a4)):=aM (a:=(a0,a1,a2,a3,a4)) h
def aV:=CN [.agg tO,pL 126,pI,pS,pI] (.agg f130) RT.dec R
def bp (a0)(a1)(a2)(a3)(a4)(hg:gd a0 a1 a2 a3 a4):∃n,start (iter step n) (an.r a0) (a1.map aj.row) a2 a3 a4=ret (bO.r (md a0 a1 a2 a3 a4)):=by
 obtain ⟨H0,H1,H3⟩:=hg
 unfold start md
 try simp only [SS]
 refine cx (Z42.ak H0) ?_
 try simp only [SS]
 have Bh2:a1.length<=maxLen:=(by
   have:=(H1).1
   try simp only [maxLen] at *
   omega)
 refine ex_eq (out:=(fun b:bO=>ret ((bO.r b):cW))) (eJ (z:=aj.zero)) ?_
 refine dG (p:=Pt.p0 (a1.map aj.row) a2 a3 a4 0 false (⟨#[]⟩:aA) 0 0 false false (⟨#[]⟩:aA) 0 0 false (a0.aK.map (eL aa.row)) (a0.bq.map aI.row) ([].map bn)) fz ?_
 refine bU (pt:=fun (i1:Nat) (s3:List (List aa)×List aI×List Int)=>Pt.p0 (a1.map aj.row) a2 a3 a4 (i1:Int) false (⟨#[]⟩:aA) 0 0 false false (⟨#[]⟩:aA) 0 0 false (s3.1.map (eL aa.row)) (s3.2.1.map aI.row) (s3.2.2.map bn)) (s:=((a0.aK,a0.bq,[]):List (List aa)×List aI×List Int)) (out:=(fun b:bO=>ret ((bO.r b):cW))) (fun (i1:Nat) (s3:List (List aa)×List aI×List Int)=>an.Sm (2^21) (⟨s3.1,s3.2.1⟩:an)/\s3.2.2.length<=i1) (fun J i1 s3 h2 hih2=>?_) (fun s3 hih2=>?_) ⟨H0,zero_le _⟩
 ·simp only [step,SS]
  have gr_:=hih2
  try simp only [LN] at gr_
  have bb_:=Bh2
  simp only [maxLen] at bb_
  have:=(H1).1
  refine bk.yes (by apply decide_eq_true;omega) ?_
  refine bk.yes bE ?_
  refine bk.yes (bM h2) ?_
  refine cr (Z79.ak (bI.getD (z:=aj.zero) H1 h2).1) ?_
  try simp only [SS]
  refine bk.bif (fun c4=>?_) (fun c4=>?_)
  ·refine bk.bif (fun c5=>?_) (fun c5=>?_)
   ·have dc5:=c5
    try simp only [DC] at dc5
    refine cr (Z110.ak (a0:=(⟨s3.1,s3.2.1⟩:an)) ⟨⟨hih2.1.1,hih2.1.2⟩,(bI.getD (z:=aj.zero) H1 h2).1⟩) ?_
    try simp only [SS]
    refine cr (Z121.ak ⟨H3,(bI.getD (z:=aj.zero) H1 h2)⟩) ?_
    refine bk.bif (fun c6=>?_) (fun c6=>?_)
    ·have dc6:=c6
     try simp only [DC] at dc6
     refine bk.bif (fun c7=>?_) (fun c7=>?_)
     ·have dc7:=c7
      try simp only [DC] at dc7
      refine cr (Z125.ak (a0:=(Z110.md (⟨s3.1,s3.2.1⟩:an) ((a1.getD i1 aj.zero).aP)).1) (Z110.gk (a0:=(⟨s3.1,s3.2.1⟩:an)) (a1:=(a1.getD i1 aj.zero).aP) ⟨⟨hih2.1.1,hih2.1.2⟩,(bI.getD (z:=aj.zero) H1 h2).1⟩)) ?_
      refine bk.bif (fun c8=>?_) (fun c8=>?_)
      ·refine bk.yes lm ?_
       refine bk.inl (by first | exact ⟨hih2.1,ig hih2.2⟩ | exact ⟨Z110.gk ⟨hih2.1,(bI.getD H1 h2).1⟩,ig hih2.2⟩) ?_
       rw [aJ h2 Bh2]
       all_goals exact fz
      ·refine bk.yes lm ?_
       refine bk.bif (fun c9=>?_) (fun c9=>?_)
       ·refine cr (Z44.ak (bI.getD (z:=aj.zero) H1 h2).2.1) ?_
        try simp only [SS]
        refine bk.inr ?_
        all_goals exact fz
       ·refine bk.inl (by first | exact ⟨hih2.1,ig hih2.2⟩ | exact ⟨Z110.gk ⟨hih2.1,(bI.getD H1 h2).1⟩,ig hih2.2⟩) ?_
        rw [aJ h2 Bh2]
        all_goals exact fz
     ·have dc7:=c7
      try simp only [DC] at dc7
      refine bk.yes lm ?_
      refine bk.bif (fun c10=>?_) (fun c10=>?_)
      ·refine cr (Z44.ak (bI.getD (z:=aj.zero) H1 h2).2.1) ?_
       try simp only [SS]
       refine bk.inr ?_
       all_goals exact fz
      ·refine bk.inl (by first | exact ⟨hih2.1,ig hih2.2⟩ | exact ⟨Z110.gk ⟨hih2.1,(bI.getD H1 h2).1⟩,ig hih2.2⟩) ?_
       rw [aJ h2 Bh2]
       all_goals exact fz
    ·have dc6:=c6
     try simp only [DC] at dc6
     refine bk.bif (fun c11=>?_) (fun c11=>?_)
     ·have dc11:=c11
      try simp only [DC] at dc11
      refine bk.bif (fun c12=>?_) (fun c12=>?_)
      ·have dc12:=c12
       try simp only [DC] at dc12
       refine cr (Z125.ak (a0:=(Z110.md (⟨s3.1,s3.2.1⟩:an) ((a1.getD i1 aj.zero).aP)).1) (Z110.gk (a0:=(⟨s3.1,s3.2.1⟩:an)) (a1:=(a1.getD i1 aj.zero).aP) ⟨⟨hih2.1.1,hih2.1.2⟩,(bI.getD (z:=aj.zero) H1 h2).1⟩)) ?_
       refine bk.bif (fun c13=>?_) (fun c13=>?_)
       ·refine bk.yes lm ?_
        refine bk.inl (by first | exact ⟨hih2.1,ig hih2.2⟩ | exact ⟨Z110.gk ⟨hih2.1,(bI.getD H1 h2).1⟩,ig hih2.2⟩) ?_
        rw [aJ h2 Bh2]
        all_goals exact fz
       ·refine bk.yes lm ?_
        refine bk.bif (fun c14=>?_) (fun c14=>?_)
        ·refine cr (Z44.ak (bI.getD (z:=aj.zero) H1 h2).2.1) ?_
         try simp only [SS]
         refine bk.inr ?_
         all_goals exact fz
        ·refine bk.inl (by first | exact ⟨hih2.1,ig hih2.2⟩ | exact ⟨Z110.gk ⟨hih2.1,(bI.getD H1 h2).1⟩,ig hih2.2⟩) ?_
         rw [aJ h2 Bh2]
         all_goals exact fz
      ·have dc12:=c12
       try simp only [DC] at dc12
       refine bk.yes lm ?_
       refine bk.bif (fun c15=>?_) (fun c15=>?_)
       ·refine cr (Z44.ak (bI.getD (z:=aj.zero) H1 h2).2.1) ?_
        try simp only [SS]
        refine bk.inr ?_
        all_goals exact fz
       ·refine bk.inl (by first | exact ⟨hih2.1,ig hih2.2⟩ | exact ⟨Z110.gk ⟨hih2.1,(bI.getD H1 h2).1⟩,ig hih2.2⟩) ?_
        rw [aJ h2 Bh2]
        all_goals exact fz
     ·have dc11:=c11
      try simp only [DC] at dc11
      refine bk.bif (fun c16=>?_) (fun c16=>?_)
      ·have dc16:=c16
       try simp only [DC] at dc16
       refine bk.bif (fun c17=>?_) (fun c17=>?_)
       ·have dc17:=c17
        try simp only [DC] at dc17
        refine bk.yes lm ?_
        refine bk.inl (by first | exact ⟨hih2.1,ig hih2.2⟩ | exact ⟨Z110.gk ⟨hih2.1,(bI.getD H1 h2).1⟩,ig hih2.2⟩) ?_
        rw [aJ h2 Bh2]
        all_goals exact fz
       ·have dc17:=c17
        try simp only [DC] at dc17
        refine cr (Z125.ak (a0:=(Z110.md (⟨s3.1,s3.2.1⟩:an) ((a1.getD i1 aj.zero).aP)).1) (Z110.gk (a0:=(⟨s3.1,s3.2.1⟩:an)) (a1:=(a1.getD i1 aj.zero).aP) ⟨⟨hih2.1.1,hih2.1.2⟩,(bI.getD (z:=aj.zero) H1 h2).1⟩)) ?_
        refine bk.bif (fun c18=>?_) (fun c18=>?_)
        ·refine bk.yes lm ?_
         refine bk.inl (by first | exact ⟨hih2.1,ig hih2.2⟩ | exact ⟨Z110.gk ⟨hih2.1,(bI.getD H1 h2).1⟩,ig hih2.2⟩) ?_
         rw [aJ h2 Bh2]
         all_goals exact fz
        ·refine bk.yes lm ?_
         refine bk.bif (fun c19=>?_) (fun c19=>?_)
         ·refine cr (Z44.ak (bI.getD (z:=aj.zero) H1 h2).2.1) ?_
          try simp only [SS]
          refine bk.inr ?_
          all_goals exact fz
         ·refine bk.inl (by first | exact ⟨hih2.1,ig hih2.2⟩ | exact ⟨Z110.gk ⟨hih2.1,(bI.getD H1 h2).1⟩,ig hih2.2⟩) ?_
          rw [aJ h2 Bh2]
          all_goals exact fz
      ·have dc16:=c16
       try simp only [DC] at dc16
       refine bk.yes lm ?_
       refine bk.bif (fun c20=>?_) (fun c20=>?_)
       ·refine cr (Z44.ak (bI.getD (z:=aj.zero) H1 h2).2.1) ?_
        try simp only [SS]
        refine bk.inr ?_
        all_goals exact fz
       ·refine bk.inl (by first | exact ⟨hih2.1,ig hih2.2⟩ | exact ⟨Z110.gk ⟨hih2.1,(bI.getD H1 h2).1⟩,ig hih2.2⟩) ?_
        rw [aJ h2 Bh2]
        all_goals exact fz
   ·have dc5:=c5
    try simp only [DC] at dc5
    refine cr (Z121.ak ⟨H3,(bI.getD (z:=aj.zero) H1 h2)⟩) ?_
    refine bk.bif (fun c21=>?_) (fun c21=>?_)
    ·have dc21:=c21
     try simp only [DC] at dc21
     refine bk.yes lm ?_
     refine bk.inl (by first | exact ⟨hih2.1,ig hih2.2⟩ | exact ⟨Z110.gk ⟨hih2.1,(bI.getD H1 h2).1⟩,ig hih2.2⟩) ?_
     rw [aJ h2 Bh2]
     all_goals exact fz
    ·have dc21:=c21
     try simp only [DC] at dc21
     refine bk.yes lm ?_
     refine bk.bif (fun c22=>?_) (fun c22=>?_)
     ·refine cr (Z44.ak (bI.getD (z:=aj.zero) H1 h2).2.1) ?_
      try simp only [SS]
      refine bk.inr ?_
      all_goals exact fz
     ·refine bk.inl (by first | exact ⟨hih2.1,ig hih2.2⟩ | exact ⟨Z110.gk ⟨hih2.1,(bI.getD H1 h2).1⟩,ig hih2.2⟩) ?_
      rw [aJ h2 Bh2]
      all_goals exact fz
  ·refine cr (Z121.ak ⟨H3,(bI.getD (z:=aj.zero) H1 h2)⟩) ?_
   refine bk.bif (fun c23=>?_) (fun c23=>?_)
   ·have dc23:=c23
    try simp only [DC] at dc23
    refine bk.yes lm ?_
    refine bk.inl (by first | exact ⟨hih2.1,ig hih2.2⟩ | exact ⟨Z110.gk ⟨hih2.1,(bI.getD H1 h2).1⟩,ig hih2.2⟩) ?_
    rw [aJ h2 Bh2]
    all_goals exact fz
   ·have dc23:=c23
    try simp only [DC] at dc23
    refine bk.yes lm ?_
    refine bk.bif (fun c24=>?_) (fun c24=>?_)
    ·refine cr (Z44.ak (bI.getD (z:=aj.zero) H1 h2).2.1) ?_
     try simp only [SS]
     refine bk.inr ?_
     all_goals exact fz
    ·refine bk.inl (by first | exact ⟨hih2.1,ig hih2.2⟩ | exact ⟨Z110.gk ⟨hih2.1,(bI.getD H1 h2).1⟩,ig hih2.2⟩) ?_
     rw [aJ h2 Bh2]
     all_goals exact fz
 ·simp only [step,SS]
  have gr_:=hih2
  try simp only [LN] at gr_
  have:=(H1).1
  refine cY (by apply decide_eq_false;omega) ?_
  refine ⟨0,?_⟩
  all_goals exact fz
def af:cq 89 aV:=L5 99 pid cQ cR live step start mix aD bp (.cons Z42.af (.cons Z79.af (.cons Z110.af (.cons Z121.af (.cons Z125.af (.cons Z44.af .nil)))))) Tryz.func89
def mG (z:Int)(l:aA)(now:Int)(y:aj)(k:an):an×Int:=
 let kn:=bif (Z79.md y.aP).2&&((Z79.md y.aP).1.bw==z) then Z110.md k y.aP else (k,6)
 (kn.1,bif (Z121.md z l y now==1)&&!((kn.2==1||(kn.2==2||kn.2==3))&&!Z125.md kn.1 z) then 3 else Z121.md z l y now)
def oz (z:Int)(l:aA)(now:Int)(y:aj)(s:List (List aa)×List aI×List Int):List (List aa)×List aI×List Int⊕bO:=
 bif (mG z l now y ⟨s.1,s.2.1⟩).2==1 then .inr ⟨(mG z l now y ⟨s.1,s.2.1⟩).1,y.bS,y.bg,true,s.2.2++[(mG z l now y ⟨s.1,s.2.1⟩).2]⟩
 else .inl ((mG z l now y ⟨s.1,s.2.1⟩).1.aK,(mG z l now y ⟨s.1,s.2.1⟩).1.bq,s.2.2++[(mG z l now y ⟨s.1,s.2.1⟩).2])
def fin (s:List (List aa)×List aI×List Int):bO:=⟨⟨s.1,s.2.1⟩,false,⟨⟨#[]⟩,0,0,[]⟩,false,s.2.2⟩
def oO (a0:an)(a1:List aj)(a2:Int)(a3:aA)(a4:Int):md a0 a1 a2 a3 a4=dV (oz a2 a3 a4) fin a1 (a0.aK,a0.bq,[]):=by
 unfold md
 refine pG (fun y _ s=>?_) (fun s=>rfl)
 have h31:((3:Int)==1)=false:=rfl
 have h61:((6:Int)==1)=false:=rfl
 have h62:((6:Int)==2)=false:=rfl
 have h63:((6:Int)==3)=false:=rfl
 unfold oz mG
 cases g1:(Z79.md y.aP).2
 ·cases g2:(Z121.md a2 a3 y a4==1)<;>simp [g2,h31,h61,h62,h63]
 cases g3:((Z79.md y.aP).1.bw==a2)
 ·cases g2:(Z121.md a2 a3 y a4==1)<;>simp [g2,h31,h61,h62,h63]
 generalize Z110.md (⟨s.1,s.2.1⟩:an) y.aP=r
 cases g2:(Z121.md a2 a3 y a4==1)<;>cases g4:(r.2==1)<;>cases g5:(r.2==2)<;>cases g6:(r.2==3)<;>cases g7:Z125.md r.1 a2<;>simp [g2,g4,g5,g6,g7,h31]
def xX (z:Int)(l:aA)(now:Int)(y:aj)(k:an):Z110.Cz (mG z l now y k).1.aK<=Z110.Cz k.aK+(aj.size y+1)/\
  Z110.Fz (mG z l now y k).1.bq<=Z110.Fz k.bq+(2*Z110.Cz k.aK+aj.size y+1):=by
 have h:=Z110.grow k y.aP
 have hs:fc (fun y:aa=>aa.size y) y.aP<=aj.size y:=by unfold aj.size;omega
 unfold mG
 cases (Z79.md y.aP).2&&((Z79.md y.aP).1.bw==z)
 ·simp only [bh];omega
 ·simp only [aZ];omega
def yW {α:Type}(f:α->Nat)(x:α)(xs:List α):fc f (x::xs)=fc f xs+(f x+1):=by simp [fc];omega
def grow (z:Int)(l:aA)(now:Int):∀(xs:List aj) (s:List (List aa)×List aI×List Int),
  Z110.Cz (dV (oz z l now) fin xs s).cA.aK<=Z110.Cz s.1+fc (fun y:aj=>aj.size y) xs/\
  Z110.Fz (dV (oz z l now) fin xs s).cA.bq<=Z110.Fz s.2.1+xs.length*(2*(Z110.Cz s.1+fc (fun y:aj=>aj.size y) xs)+fc (fun y:aj=>aj.size y) xs)/\
  (dV (oz z l now) fin xs s).fD.length<=s.2.2.length+xs.length/\ah.size (dV (oz z l now) fin xs s).bg<=fc (fun y:aj=>aj.size y) xs
 | [],s=>⟨Nat.le_add_right _ _,Nat.le_add_right _ _,Nat.le_refl _,zero_le _⟩
 | y::xs,s=>by
  have hg:=xX z l now y ⟨s.1,s.2.1⟩
  have hy:ah.size y.bg<=aj.size y:=by unfold aj.size;omega
  rw [yW]
  unfold dV
  cases hb:(mG z l now y ⟨s.1,s.2.1⟩).2==1
  ·have e:oz z l now y s=.inl ((mG z l now y ⟨s.1,s.2.1⟩).1.aK,(mG z l now y ⟨s.1,s.2.1⟩).1.bq,s.2.2++[(mG z l now y ⟨s.1,s.2.1⟩).2]):=by unfold oz;rw [hb];rfl
   rw [e]
   obtain ⟨h1,h2,h3,h4⟩:=grow z l now xs ((mG z l now y ⟨s.1,s.2.1⟩).1.aK,(mG z l now y ⟨s.1,s.2.1⟩).1.bq,s.2.2++[(mG z l now y ⟨s.1,s.2.1⟩).2])
   simp only at h1 h2 h3 h4 hg ⊢
   generalize fc (fun y:aj=>aj.size y) xs=w at *
   generalize aj.size y=q at *
   generalize Z110.Cz (mG z l now y ⟨s.1,s.2.1⟩).1.aK=c1 at *
   generalize Z110.Cz s.1=c0 at *
   have hm:xs.length*(2*(c1+w)+w)<=xs.length*(2*(c0+(w+(q+1)))+(w+(q+1))):=Nat.mul_le_mul_left _ (by omega)
   rw [List.length_cons,Nat.succ_mul]
   rw [List.length_append] at h3
   refine ⟨by omega,by omega,by simp only [List.length_cons,List.length_nil] at h3;omega,by omega⟩
  ·have e:oz z l now y s=.inr ⟨(mG z l now y ⟨s.1,s.2.1⟩).1,y.bS,y.bg,true,s.2.2++[(mG z l now y ⟨s.1,s.2.1⟩).2]⟩:=by unfold oz;rw [hb];rfl
   rw [e]
   simp only at hg ⊢
   generalize fc (fun y:aj=>aj.size y) xs=w at *
   generalize aj.size y=q at *
   generalize Z110.Cz s.1=c0 at *
   rw [List.length_cons,Nat.succ_mul,List.length_append]
   refine ⟨by omega,by omega,by simp only [List.length_cons,List.length_nil];omega,by omega⟩
def AR {z:Int}{l:aA}{now:Int}{y:aj}{k:an}(hk:an.Sm (2^21) k)(hy:aj.Sm (2^21) y):an.Sm (2^21) (mG z l now y k).1:=by
 unfold mG
 cases (Z79.md y.aP).2&&((Z79.md y.aP).1.bw==z)
 ·exact hk
 ·exact Z110.gk ⟨hk,hy.1⟩
def ug {z:Int}{l:aA}{now:Int}:∀(xs:List aj) (s:List (List aa)×List aI×List Int),an.Sm (2^21) ⟨s.1,s.2.1⟩->(∀y∈xs,aj.Sm (2^21) y)->s.2.2.length+xs.length<=2^21->bO.Sm (2^21) (dV (oz z l now) fin xs s)
 | [],s,hk,_,hc=>⟨hk,⟨zero_le _,bI.nil⟩,hc,fun _ _=>trivial⟩
 | y::xs,s,hk,hx,hc=>by
  have hy:=hx y (by simp)
  have he:=AR (z:=z) (l:=l) (now:=now) hk hy
  simp only [List.length_cons] at hc
  unfold dV
  cases hb:(mG z l now y ⟨s.1,s.2.1⟩).2==1
  ·have e:oz z l now y s=.inl ((mG z l now y ⟨s.1,s.2.1⟩).1.aK,(mG z l now y ⟨s.1,s.2.1⟩).1.bq,s.2.2++[(mG z l now y ⟨s.1,s.2.1⟩).2]):=by unfold oz;rw [hb];rfl
   rw [e]
   exact ug xs _ he (fun y hy=>hx y (by simp [hy])) (by simp only [List.length_append,List.length_cons,List.length_nil];omega)
  ·have e:oz z l now y s=.inr ⟨(mG z l now y ⟨s.1,s.2.1⟩).1,y.bS,y.bg,true,s.2.2++[(mG z l now y ⟨s.1,s.2.1⟩).2]⟩:=by unfold oz;rw [hb];rfl
   rw [e]
   exact ⟨he,hy.2.1,by simp only [List.length_append,List.length_cons,List.length_nil];omega,fun _ _=>trivial⟩
def gk {a0:an}{a1:List aj}{a2:Int}{a3:aA}{a4:Int}(hg:gd a0 a1 a2 a3 a4):bO.Sm (2^21) (md a0 a1 a2 a3 a4):=by
 unfold gd at hg
 rw [oO]
 exact ug a1 _ hg.1 hg.2.1.2 (by have:=hg.2.1.1;simp only [List.length_nil];omega)
end Z126
namespace Z127
def F (x0:bR)(x1:Int)(x2:aA)(x3:aO)(x4:Int):aH:=(call (Z48.R x0) fun v1=>(call (Z121.R (x1,x2,x3,x4)) fun v2=>(cond (v2 != 1) (ret (v1:bR)) (call (Z47.R x3) fun v3=>(call (Z52.R (x0,x1,x2)) fun v4=>(cond (decide (v4>=0)) (m2 v4 (v1.aU.length:Int) (ret ((⟨(List.set v1.aU (toNat v4) (bV.enc (⟨x1,x2,v3⟩:bV)))⟩:bR):bR))) (cond (decide ((x0.aU.length:Int)<16)) (cK (eO (((v1.aU.length:Int)+1)*328)) (ret ((⟨(v1.aU++[(bV.enc (⟨x1,x2,v3⟩:bV))])⟩:bR):bR))) (ret (v1:bR)))))))))
def md (a0:aG)(a1:Int)(a2:aA)(a3:aj)(a4:Int):aG:=(cond ((Z121.md a1 a2 a3 a4) != 1) a0 (cond (decide ((Z52.md a0 a1 a2)>=0)) (⟨(List.set a0.aU (toNat (Z52.md a0 a1 a2)) (⟨a1,a2,a3⟩:aC))⟩:aG) (cond (decide ((a0.aU.length:Int)<16)) (⟨(a0.aU++[(⟨a1,a2,a3⟩:aC)])⟩:aG) a0)))
def gd (a0:aG)(a1:Int)(a2:aA)(a3:aj)(a4:Int):Prop:=(aG.Sm (2^21) a0)/\(a2.size<=(2^21))/\(aj.Sm (2^21) a3)
def R:=RR (p5 gd) (u5 md)
def ak {a0 a1 a2 a3 a4}(h:gd a0 a1 a2 a3 a4):R ((aG.r a0),a1,a2,(aj.r a3),a4)=some (aG.r (md a0 a1 a2 a3 a4)):=aM (a:=(a0,a1,a2,a3,a4)) h
def aV:=CN [.agg vH,pI,pS,.agg qJ,pI] (.agg f46) RT.dec R
def bp (a0)(a1)(a2)(a3)(a4)(hg:gd a0 a1 a2 a3 a4):F (aG.r a0) a1 a2 (aj.r a3) a4=ret (aG.r (md a0 a1 a2 a3 a4)):=by
 obtain ⟨H0,H2,H3⟩:=hg
 unfold F md
 try simp only [SS]
 refine ct (Z48.ak H0) ?_
 try simp only [SS]
 refine ct (Z121.ak ⟨H2,H3⟩) ?_
 refine aq (fun b:aG=>ret ((aG.r b):bR)) (fun c1=>?_) (fun c1=>?_)
 ·all_goals exact fz
 ·have dc1:=c1
  try simp only [DC] at dc1
  refine ct (Z47.ak H3) ?_
  try simp only [SS]
  refine ct (Z52.ak H0) ?_
  have fv4_:=Z52.fa a0 a1 a2
  refine aq (fun b:aG=>ret ((aG.r b):bR)) (fun c2=>?_) (fun c2=>?_)
  ·have dc2:=c2
   try simp only [DC] at dc2
   refine aN dt ?_
   refine aN (have:=(H0).1;dt) ?_
   all_goals exact fz
  ·have dc2:=c2
   try simp only [DC] at dc2
   refine aq (fun b:aG=>ret ((aG.r b):bR)) (fun c3=>?_) (fun c3=>?_)
   ·have dc3:=c3
    try simp only [DC] at dc3
    refine aN (have:=(H0).1;lm) ?_
    all_goals exact fz
   ·all_goals exact fz
def af:cq 90 aV:=W5 50 F mix aD bp (.cons Z48.af (.cons Z121.af (.cons Z47.af (.cons Z52.af .nil)))) Tryz.func90
def gk {a0:aG}{a1:Int}{a2:aA}{a3:aj}{a4:Int}(hg:gd a0 a1 a2 a3 a4):aG.Sm (2^21) (md a0 a1 a2 a3 a4):=by
 unfold gd at hg
 obtain ⟨h0,h1,h2⟩:=hg
 have hs:aC.Sm (2^21) ⟨a1,a2,a3⟩:=⟨h1,h2⟩
 unfold md
 simp only [Bool.cond_eq_ite]
 repeat' split
 ·exact h0
 ·exact bI.set h0 hs
 ·rename_i hl
  have hl:(a0.aU.length:Int)<16:=by simpa using hl
  exact bI.app (a:=16) (b:=1) ⟨by omega,h0.2⟩ (bI.one hs) (by decide)
 ·exact h0
end Z127
namespace Z128
def F (x0:cW):aH:=(cond (!x0.gD) (ret (((⟨(⟨#[]⟩:aA),0,0,[]⟩:aW),false):aW×Bool)) (cond (!x0.bS) (ret (((⟨(⟨#[]⟩:aA),0,0,[]⟩:aW),false):aW×Bool)) (call (Z44.R x0.bg) fun v1=>ret ((v1,true):aW×Bool))))
def md (a0:bO):ah×Bool:=(cond (!a0.gD) ((⟨((⟨#[]⟩:aA):aA),0,0,[]⟩:ah),false) (cond (!a0.bS) ((⟨((⟨#[]⟩:aA):aA),0,0,[]⟩:ah),false) (a0.bg,true)))
def gd (a0:bO):Prop:=(bO.Sm (2^21) a0)
def R:=RR gd md
def ak {a0}(h:gd a0):R (bO.r a0)=some ((ah.r (md a0).1),(md a0).2):=aM (a:=a0) h
def aV:=CN [.agg A8] (.hU [(true,f38),(false,[fB])]) RT.dec R
def bp (a0)(hg:gd a0):F (bO.r a0)=ret ((ah.r (md a0).1),(md a0).2):=by
 unfold gd at hg
 have H0:=hg
 unfold F md
 try simp only [SS]
 refine aq (fun b:ah×Bool=>ret (((ah.r b.1),b.2):aW×Bool)) (fun c1=>?_) (fun c1=>?_)
 ·all_goals exact fz
 ·refine aq (fun b:ah×Bool=>ret (((ah.r b.1),b.2):aW×Bool)) (fun c2=>?_) (fun c2=>?_)
  ·all_goals exact fz
  ·refine ct (Z44.ak H0.2.1) ?_
   try simp only [SS]
   all_goals exact fz
def af:cq 91 aV:=W1 16 F mix aD bp (.cons Z44.af .nil) Tryz.func91
end Z128
namespace Z129
def F (x0:cW):aH:=(cond x0.gD (ret ((!x0.bS):Bool)) bf)
def md (a0:bO):Bool:=(cond a0.gD ((!a0.bS):Bool) (false:Bool))
def gd (a0:bO):Prop:=True
def R:=RR gd md
def ak {a0}(h:gd a0):R (bO.r a0)=some (md a0):=aM (a:=a0) h
def aV:=CN [.agg A8] oB RT.dec R
def bp (a0)(hg:gd a0):F (bO.r a0)=ret (md a0):=by
 unfold F md
 try simp only [SS]
 refine aq ret (fun c1=>?_) (fun _=>rfl)
 all_goals exact fz
def af:cq 92 aV:=W1 10 F mix aD bp .nil Tryz.func92
end Z129
namespace Z130
inductive Pt where
 | p0 (a:aF) (b c:Int) (d:aF) (e:Int) (f:aA) (g h i j:Int) (k:aA) (l m n:Int) (o p q s:aF)
def pid:Pt->Nat
 | .p0 ..=>7
def cQ:Pt->List V
 | .p0 a b c d e f g h i j k l m n o p q s=>[.sl none 138 a,.int .i64 b,.cj 0 0,.cj 1 0,.cj 2 0,.int .i64 c,.sl none 9 d,.cj 1 0]
def cR:Pt->List aS
 | .p0 a b c d e f g h i j k l m n o p q s=>[.box [.nil,.nil,.int .i64 e,.str f,.int .i64 g,.int .i64 h,.nil,.nil,.int .i64 i,.nil],.box [.own 3,.own 4,.int .i64 j,.str k,.int .i64 l,.int .i64 m,.nil,.own 5,.int .i64 n],.box [.own 6],.row 120 o,.row 180 p,.row 3 q,.row 148 s]
def step (J:Pt->aH):Pt->aH
 | .p0 a b c d e f g h i j k l m n o p q s=>(cK (eO (((q.length:Int)+1)*8)) (cK (decide ((0:Int)<(d.length:Int))) (call (Z53.R ((⟨s⟩:bR),c,(pW d 0))) fun v1=>(cK (decide ((0:Int)<(d.length:Int))) (call (Z104.R (a,c,(pW d 0))) fun v2=>(cK (eO (((1:Int)+(v2.length:Int))*304)) (cK (decide ((0:Int)<(d.length:Int))) (call (Z126.R ((⟨o,p⟩:bt),([(aO.enc v1)]++v2),c,(pW d 0),b)) fun v3=>(cond v3.gD (cK (decide ((0:Int)<(d.length:Int))) (cK (decide ((0:Int)<=(i64.wrap ((v3.fD.length:Int) - 1)))) (cK (decide ((i64.wrap ((v3.fD.length:Int) - 1))<(([(aO.enc v1)]++v2).length:Int))) (call (Z127.R ((⟨s⟩:bR),c,(pW d 0),(aO.at ([(aO.enc v1)]++v2) (toNat (i64.wrap ((v3.fD.length:Int) - 1)))),b)) fun v4=>(call (Z128.R v3) fun v5=>(call (Z129.R v3) fun v6=>(cond v6 (ret ((⟨(⟨v3.cA,2,(⟨k,l,m,[]⟩:aW),(q++[[L.int c]]),n⟩:dz),v4⟩:eg):eg)) (cond (!v5.2) (ret ((⟨(⟨v3.cA,3,(⟨k,l,m,[]⟩:aW),(q++[[L.int c]]),n⟩:dz),v4⟩:eg):eg)) (cond (v5.1.bL==3) (call (Z43.R v5.1.bB) fun v7=>(cK (decide ((1:Int)<=(d.length:Int))) (cK (decide ((d.length:Int)<=(d.length:Int))) (cK (eO (((v7.length:Int)+((List.take (toNat ((d.length:Int) - 1)) (List.drop 1 d)).length:Int))*16)) (cond (decide (n>=3)) (ret ((⟨(⟨v3.cA,5,(⟨k,l,m,[]⟩:aW),(q++[[L.int c]]),n⟩:dz),v4⟩:eg):eg)) (call (Z51.R (v7++(List.take (toNat ((d.length:Int) - 1)) (List.drop 1 d)))) fun v8=>(cond (!v8) (ret ((⟨(⟨v3.cA,5,(⟨k,l,m,[]⟩:aW),(q++[[L.int c]]),n⟩:dz),v4⟩:eg):eg)) (J (.p0 a b v5.1.bX (v7++(List.take (toNat ((d.length:Int) - 1)) (List.drop 1 d))) e f g h i j k l m (i64.wrap (n+1)) v3.cA.aK v3.cA.bq (q++[[L.int c]]) v4.aU))))))))) (cond ((d.length:Int)==1) (ret ((⟨(⟨v3.cA,1,v5.1,(q++[[L.int c]]),n⟩:dz),v4⟩:eg):eg)) (cond (v5.1.bL != 2) (ret ((⟨(⟨v3.cA,4,(⟨k,l,m,[]⟩:aW),(q++[[L.int c]]),n⟩:dz),v4⟩:eg):eg)) (cK (decide ((1:Int)<=(d.length:Int))) (cK (decide ((d.length:Int)<=(d.length:Int))) (J (.p0 a b v5.1.bX (List.take (toNat ((d.length:Int) - 1)) (List.drop 1 d)) e f g h i j k l m n v3.cA.aK v3.cA.bq (q++[[L.int c]]) v4.aU))))))))))))))) (call (Z128.R v3) fun v9=>(call (Z129.R v3) fun v10=>(cond v10 (ret ((⟨(⟨v3.cA,2,(⟨k,l,m,[]⟩:aW),(q++[[L.int c]]),n⟩:dz),(⟨s⟩:bR)⟩:eg):eg)) (cond (!v9.2) (ret ((⟨(⟨v3.cA,3,(⟨k,l,m,[]⟩:aW),(q++[[L.int c]]),n⟩:dz),(⟨s⟩:bR)⟩:eg):eg)) (cond (v9.1.bL==3) (call (Z43.R v9.1.bB) fun v11=>(cK (decide ((1:Int)<=(d.length:Int))) (cK (decide ((d.length:Int)<=(d.length:Int))) (cK (eO (((v11.length:Int)+((List.take (toNat ((d.length:Int) - 1)) (List.drop 1 d)).length:Int))*16)) (cond (decide (n>=3)) (ret ((⟨(⟨v3.cA,5,(⟨k,l,m,[]⟩:aW),(q++[[L.int c]]),n⟩:dz),(⟨s⟩:bR)⟩:eg):eg)) (call (Z51.R (v11++(List.take (toNat ((d.length:Int) - 1)) (List.drop 1 d)))) fun v12=>(cond (!v12) (ret ((⟨(⟨v3.cA,5,(⟨k,l,m,[]⟩:aW),(q++[[L.int c]]),n⟩:dz),(⟨s⟩:bR)⟩:eg):eg)) (J (.p0 a b v9.1.bX (v11++(List.take (toNat ((d.length:Int) - 1)) (List.drop 1 d))) e f g h i j k l m (i64.wrap (n+1)) v3.cA.aK v3.cA.bq (q++[[L.int c]]) s))))))))) (cond ((d.length:Int)==1) (ret ((⟨(⟨v3.cA,1,v9.1,(q++[[L.int c]]),n⟩:dz),(⟨s⟩:bR)⟩:eg):eg)) (cond (v9.1.bL != 2) (ret ((⟨(⟨v3.cA,4,(⟨k,l,m,[]⟩:aW),(q++[[L.int c]]),n⟩:dz),(⟨s⟩:bR)⟩:eg):eg)) (cK (decide ((1:Int)<=(d.length:Int))) (cK (decide ((d.length:Int)<=(d.length:Int))) (J (.p0 a b v9.1.bX (List.take (toNat ((d.length:Int) - 1)) (List.drop 1 d)) e f g h i j k l m n v3.cA.aK v3.cA.bq (q++[[L.int c]]) s))))))))))))))))))))
def start (J:Pt->aH)(x0:bt)(x1:bR)(x2:aF)(x3:Int)(x4:aF)(x5:Int):aH:=(call (Z42.R x0) fun v1=>(call (Z48.R x1) fun v2=>(call (Z51.R x4) fun v3=>(cond (!v3) (ret ((⟨(⟨v1,6,(⟨(⟨#[]⟩:aA),0,0,[]⟩:aW),[],0⟩:dz),v2⟩:eg):eg)) (call (Z43.R x4) fun v4=>J (.p0 x2 x5 x3 v4 0 ⟨#[]⟩ 0 0 0 6 ⟨#[]⟩ 0 0 0 v1.aK v1.bq [] v2.aU))))))
def live:Nat->Live:=fun i=>match i with | 7=>[(2,none),(5,none),(12,none),(13,none),(14,none),(15,none),(16,some 1099511627785),(13,some 7340035)] | _=>[]
def nx (l:bO)(mv:Int)(p:List aA):(Int×ah)⊕(Int×Int×List aA):=
 bif !l.gD then .inl (3,⟨⟨#[]⟩,0,0,[]⟩) else bif !l.bS then .inl (2,⟨⟨#[]⟩,0,0,[]⟩)
 else bif l.bg.bL==3 then (cond (decide (mv>=3)) (.inl (5,⟨⟨#[]⟩,0,0,[]⟩)) (bif !Z51.md (l.bg.bB++p.tail) then .inl (5,⟨⟨#[]⟩,0,0,[]⟩) else .inr (mv+1,l.bg.bX,l.bg.bB++p.tail)))
 else bif (p.tail.length:Int)==0 then .inl (1,l.bg) else bif l.bg.bL==2 then .inr (mv,l.bg.bX,p.tail) else .inl (4,⟨⟨#[]⟩,0,0,[]⟩)
def rs {σ:Type}(look:σ->an->Int->aA->bO×σ):Nat->σ->an->List Int->Int->Int->List aA->bT×σ
 | 0,c,k,zs,mv,_,_=>(⟨k,0,⟨⟨#[]⟩,0,0,[]⟩,zs,mv⟩,c)
 | n+1,c,k,zs,mv,z,p=>match nx (look c k z (p.getD 0 ⟨#[]⟩)).1 mv p with
  | .inl q=>(⟨(look c k z (p.getD 0 ⟨#[]⟩)).1.cA,q.1,q.2,zs++[z],mv⟩,(look c k z (p.getD 0 ⟨#[]⟩)).2)
  | .inr q=>rs look n (look c k z (p.getD 0 ⟨#[]⟩)).2 (look c k z (p.getD 0 ⟨#[]⟩)).1.cA (zs++[z]) q.1 q.2.1 q.2.2
def yp {σ:Type}{look:σ->an->Int->aA->bO×σ}{n:Nat}{c:σ}{k:an}{zs:List Int}{mv z:Int}{p:List aA}{q:Int×ah}(h:nx (look c k z (p.getD 0 ⟨#[]⟩)).1 mv p=.inl q) :
  rs look (n+1) c k zs mv z p=(⟨(look c k z (p.getD 0 ⟨#[]⟩)).1.cA,q.1,q.2,zs++[z],mv⟩,(look c k z (p.getD 0 ⟨#[]⟩)).2):=by
 show (match nx (look c k z (p.getD 0 ⟨#[]⟩)).1 mv p with | .inl q=>_ | .inr q=>_)=_
 rw [h]
def yj {σ:Type}{look:σ->an->Int->aA->bO×σ}{n:Nat}{c:σ}{k:an}{zs:List Int}{mv z:Int}{p:List aA}{q:Int×Int×List aA}(h:nx (look c k z (p.getD 0 ⟨#[]⟩)).1 mv p=.inr q) :
  rs look (n+1) c k zs mv z p=rs look n (look c k z (p.getD 0 ⟨#[]⟩)).2 (look c k z (p.getD 0 ⟨#[]⟩)).1.cA (zs++[z]) q.1 q.2.1 q.2.2:=by
 show (match nx (look c k z (p.getD 0 ⟨#[]⟩)).1 mv p with | .inl q=>_ | .inr q=>_)=_
 rw [h]
def wF {Pt:Type}{step:(Pt->aH)->Pt->aH}{p:Pt}{r:aH}(h:∃m,step (iter step m) p=r):∃m,iter step m p=r:=h.elim fun m h=>⟨m+1,h⟩
def bJ (s:List aR)(c:aG)(z:Int)(l:aA):List aj:=Z53.md c z l::Z104.md s z l
def lk (s:List aR)(now:Int)(c:aG)(k:an)(z:Int)(l:aA):bO×aG:=
 (Z126.md k (bJ s c z l) z l now,bif (Z126.md k (bJ s c z l) z l now).gD then Z127.md c z l ((bJ s c z l).getD ((Z126.md k (bJ s c z l) z l now).fD.length - 1) aj.zero) now else c)
def dn (z:Int)(l:aA)(now:Int):∀(xs:List aj) (s:List (List aa)×List aI×List Int),(dV (Z126.oz z l now) Z126.fin xs s).gD=true->1<=(dV (Z126.oz z l now) Z126.fin xs s).fD.length
 | [],s,h=>by unfold dV Z126.fin at h;cases h
 | y::xs,s,h=>by
  unfold dV at h ⊢
  revert h
  cases hb:Z126.oz z l now y s with
  | inl s'=>exact dn z l now xs s'
  | inr b=>
   intro _
   unfold Z126.oz at hb
   revert hb
   cases ((Z126.mG z l now y ⟨s.1,s.2.1⟩).2==1)
   ·intro hb;cases hb
   ·intro hb
    injection hb with hb
    subst hb
    simp
def Cm {k:an}{xs:List aj}{z:Int}{l:aA}{now:Int}(h:(Z126.md k xs z l now).gD=true):1<=(Z126.md k xs z l now).fD.length/\(Z126.md k xs z l now).fD.length<=xs.length:=by
 have hg:=(Z126.grow z l now xs (k.aK,k.bq,[])).2.2.1
 rw [Z126.oO] at h ⊢
 exact ⟨dn z l now xs _ h,by simpa using hg⟩
def wm {s:List aR}{c:aG}{z:Int}{l:aA}(hc:aG.Sm (2^21) c)(hs:bI (2^21) (fun y:aR=>aR.Sm (2^21) y) s)(hl:l.size<=2^21):bI (2^21) (fun y:aj=>aj.Sm (2^21) y) (bJ s c z l):=by
 have h1:=Z104.gk (a0:=s) (a1:=z) (a2:=l) ⟨hs,hl⟩
 have h2:=Z53.gk (a0:=c) (a1:=z) (a2:=l) hc
 have h3:=Z104.Ay s z l
 refine ⟨by unfold bJ;simp only [List.length_cons];omega,fun x hx=>?_⟩
 rcases List.mem_cons.1 hx with rfl | hx
 ·exact h2
 ·exact h1.2 x hx
def az:aj.Sm (2^21) aj.zero:=⟨bI.nil,⟨zero_le _,bI.nil⟩,bI.nil,⟨⟨zero_le _,bI.nil⟩,⟨zero_le _,bI.nil⟩,bI.nil,bI.nil⟩⟩
def Al {s:List aR}{now:Int}{c:aG}{k:an}{z:Int}{l:aA}(hs:bI (2^21) (fun y:aR=>aR.Sm (2^21) y) s)(hc:aG.Sm (2^21) c)(hk:an.Sm (2^21) k)(hl:l.size<=2^21):bO.Sm (2^21) (lk s now c k z l).1/\aG.Sm (2^21) (lk s now c k z l).2:=by
 have ha:=wm (z:=z) hc hs hl
 refine ⟨Z126.gk ⟨hk,ha,hl⟩,?_⟩
 unfold lk
 cases (Z126.md k (bJ s c z l) z l now).gD
 ·exact hc
 ·exact Z127.gk ⟨hc,hl,bI.rP ha az⟩
def md (a0:an)(a1:aG)(a2:List aR)(a3:Int)(a4:List aA)(a5:Int):dB:=(cond (!Z51.md a4) ⟨⟨a0,6,⟨⟨#[]⟩,0,0,[]⟩,[],0⟩,a1⟩ ⟨(rs (lk a2 a5) 17 a1 a0 [] 0 a3 a4).1,(rs (lk a2 a5) 17 a1 a0 [] 0 a3 a4).2⟩)
def gd (a0:an)(a1:aG)(a2:List aR)(a3:Int)(a4:List aA)(a5:Int):Prop:=(an.Sm (2^21) a0)/\(aG.Sm (2^21) a1)/\(bI (2^21) (fun y:aR=>aR.Sm (2^21) y) a2)/\(bI (2^21) (fun y:aA=>y.size<=(2^21)) a4)
def R:=RR (p6 gd) (u6 md)
def ak {a0 a1 a2 a3 a4 a5}(h:gd a0 a1 a2 a3 a4 a5):R ((an.r a0),(aG.r a1),(a2.map aR.row),a3,(a4.map cL),a5)=some (dB.r (md a0 a1 a2 a3 a4 a5)):=aM (a:=(a0,a1,a2,a3,a4,a5)) h
def aV:=CN [.agg tO,.agg vH,pL 138,pI,pL 9,pI] (.agg f69) RT.dec R
def bp (a0)(a1)(a2)(a3)(a4)(a5)(hg:gd a0 a1 a2 a3 a4 a5):∃n,start (iter step n) (an.r a0) (aG.r a1) (a2.map aR.row) a3 (a4.map cL) a5=ret (dB.r (md a0 a1 a2 a3 a4 a5)):=by
 obtain ⟨H0,HC,H1,H3⟩:=hg
 have key:∀(n:Nat) (c:aG) (k:an) (zs:List Int) (mv z:Int) (p:List aA),aG.Sm (2^21) c->an.Sm (2^21) k->Z51.md p=true->0<=mv->mv<=3->(3 - mv)*4+(p.length:Int)<=n->zs.length+n<=100->
   ∃m,iter step m (Pt.p0 (a2.map aR.row) a5 z (p.map cL) 0 ⟨#[]⟩ 0 0 0 6 ⟨#[]⟩ 0 0 mv (k.aK.map (eL aa.row)) (k.bq.map aI.row) (zs.map bn) (c.aU.map aC.row))=ret (dB.r ⟨(rs (lk a2 a5) n c k zs mv z p).1,(rs (lk a2 a5) n c k zs mv z p).2⟩):=by
  intro n
  induction n with
  | zero=>intro c k zs mv z p _ _ hp _ _ hm _;have:=(Z51.tr hp).1;omega
  | succ n ih=>
   intro c k zs mv z p hc hk hp h0 h3 hm hz
   obtain ⟨⟨p1,p4⟩,p8⟩:=Z51.tr hp
   obtain ⟨x,xs,rfl⟩:∃x xs,p=x::xs:=by
    cases p with
    | nil=>simp at p1
    | cons x xs=>exact ⟨x,xs,rfl⟩
   have hx:x.size<=2^21:=le_trans (p8 x (by simp)) (by decide)
   have hxs:∀y∈xs,y.size<=2^22:=fun y hy=>le_trans (p8 y (by simp [hy])) (by decide)
   have hask:=Z104.gk (a0:=a2) (a1:=z) (a2:=x) ⟨H1,hx⟩
   have hans:=wm (z:=z) hc H1 hx
   have hlk2:=Al (now:=a5) (z:=z) H1 hc hk hx
   have hat:pW ((x::xs).map cL) 0=x:=rfl
   have hg0:(x::xs).getD 0 ⟨#[]⟩=x:=rfl
   have ht:List.take (toNat (((xs.length+1:Nat):Int) - 1)) (List.drop 1 ((x::xs).map cL))=xs.map cL:=by
    simp only [List.map_cons,List.drop_succ_cons,List.drop_zero]
    exact List.take_of_length_le (by simp)
   simp only [List.length_cons] at p4 hm
   have hal:(bJ a2 c z x).length=1+(Z104.md a2 z x).length:=by unfold bJ;simp only [List.length_cons];omega
   have h4:=Z104.Ay a2 z x
   have hrow:[aO.enc (aj.r (Z53.md c z x))]++(Z104.md a2 z x).map aj.row=(bJ a2 c z x).map aj.row:=rfl
   refine wF ?_
   simp only [step,hat,List.length_map,List.length_cons,ht]
   refine dw lm ?_
   refine dw dt ?_
   refine cx (Z53.ak (a0:=c) (a1:=z) (a2:=x) hc) ?_
   refine dw dt ?_
   refine cx (Z104.ak (a0:=a2) ⟨H1,hx⟩) ?_
   simp only [hrow,List.length_map]
   refine dw (gX (by omega)) ?_
   refine dw dt ?_
   refine cx (Z126.ak (a0:=k) (a1:=bJ a2 c z x) (a2:=z) (a3:=x) (a4:=a5) ⟨hk,hans,hx⟩) ?_
   have hd2:=Cm (k:=k) (xs:=bJ a2 c z x) (z:=z) (l:=x) (now:=a5)
   have hcase:∀q,nx (lk a2 a5 c k z x).1 mv (x::xs)=.inl q->rs (lk a2 a5) (n+1) c k zs mv z (x::xs)=(⟨(lk a2 a5 c k z x).1.cA,q.1,q.2,zs++[z],mv⟩,(lk a2 a5 c k z x).2):=fun q hq=>yp hq
   have hcase2:∀q,nx (lk a2 a5 c k z x).1 mv (x::xs)=.inr q->rs (lk a2 a5) (n+1) c k zs mv z (x::xs)=rs (lk a2 a5) n (lk a2 a5 c k z x).2 (lk a2 a5 c k z x).1.cA (zs++[z]) q.1 q.2.1 q.2.2:=fun q hq=>yj hq
   obtain ⟨hl1,hl2⟩:=hlk2
   have e1:(lk a2 a5 c k z x).1=Z126.md k (bJ a2 c z x) z x a5:=rfl
   have e2:(lk a2 a5 c k z x).2=bif (Z126.md k (bJ a2 c z x) z x a5).gD then Z127.md c z x ((bJ a2 c z x).getD ((Z126.md k (bJ a2 c z x) z x a5).fD.length - 1) aj.zero) a5 else c:=rfl
   rw [e1] at hl1
   rw [e2] at hl2
   simp only [e1,e2] at hcase hcase2
   clear e1 e2
   generalize Z126.md k (bJ a2 c z x) z x a5=l at hcase hcase2 hl1 hl2 hd2 ⊢
   obtain ⟨lk0,lf,le,ld,lc⟩:=l
   unfold nx at hcase hcase2
   cases ld
   ·refine cY rfl ?_
    refine cx (Z128.ak (a0:=⟨lk0,lf,le,false,lc⟩) hl1) ?_
    refine cx (Z129.ak (a0:=⟨lk0,lf,le,false,lc⟩) trivial) ?_
    unfold Z129.md Z128.md
    exact ⟨0,by rw [hcase _ rfl];exact fz⟩
   obtain ⟨d1,d2⟩:=hd2 rfl
   simp only at d1 d2
   refine dw rfl ?_
   refine dw dt ?_
   have hw:i64.wrap (((lc.map bn).length:Int) - 1)=((lc.length - 1:Nat):Int):=by rw [List.length_map,wi _ (by omega)];omega
   have hat2:aO.at ((bJ a2 c z x).map aj.row) (toNat ((lc.length - 1:Nat):Int))=((bJ a2 c z x).getD (lc.length - 1) aj.zero).r:=aj.cZ
   refine dw (by show decide ((0:Int)<=i64.wrap (((lc.map bn).length:Int) - 1))=true;rw [hw];apply decide_eq_true;omega) ?_
   refine dw (by show decide (i64.wrap (((lc.map bn).length:Int) - 1)<_)=true;rw [hw];apply decide_eq_true;omega) ?_
   have hke:=Z127.ak (a0:=c) (a1:=z) (a2:=x) (a3:=(bJ a2 c z x).getD (lc.length - 1) aj.zero) (a4:=a5) ⟨hc,hx,bI.rP hans az⟩
   rw [<-hat2,<-hw] at hke
   refine cx hke ?_
   refine cx (Z128.ak (a0:=⟨lk0,lf,le,true,lc⟩) hl1) ?_
   refine cx (Z129.ak (a0:=⟨lk0,lf,le,true,lc⟩) trivial) ?_
   simp only [aZ] at hl2 hcase hcase2
   clear hke
   generalize Z127.md c z x ((bJ a2 c z x).getD (lc.length - 1) aj.zero) a5=c2 at hl2 hcase hcase2 ⊢
   unfold Z129.md Z128.md
   cases lf
   ·exact ⟨0,by rw [hcase _ rfl];exact fz⟩
   simp only [Bool.not_true,bh,aZ,List.tail_cons] at hcase hcase2 ⊢
   have hpl:bI (2^21) (fun y:aA=>y.size<=(2^21)) le.bB:=hl1.2.1.2
   have hpl1:le.bB.length<=2^21:=hpl.1
   have hzz:zs.map bn++[[L.int z]]=(zs++[z]).map bn:=by simp [bn]
   try simp only [SS]
   cases hk3:(le.bL==3)
   ·simp only [hk3,bh] at hcase hcase2 ⊢
    by_cases hx0:xs.length=0
    ·have e0:((xs.length:Int)==0)=true:=by simp [hx0]
     rw [e0] at hcase
     exact ⟨0,by rw [hcase _ rfl];exact aN (beq_iff_eq.2 (by omega)) fz⟩
    ·have e0:((xs.length:Int)==0)=false:=by simpa using hx0
     rw [e0] at hcase hcase2
     refine cY (beq_eq_false_iff_ne.2 (by omega)) ?_
     cases hk2:(le.bL==2)
     ·simp only [hk2,bh] at hcase
      exact ⟨0,by rw [hcase _ rfl];exact aN (by simpa using hk2) fz⟩
     ·simp only [hk2,bh,aZ] at hcase2
      refine cY (by simpa using hk2) (dw dt (dw dt ?_))
      have hip:Z51.md xs=true:=Z51.tl hp hx0
      rw [hcase2 _ rfl,hzz]
      exact ih c2 lk0 (zs++[z]) mv le.bX xs hl2 hl1.1 hip h0 h3 (by omega) (by simp;omega)
   ·simp only [hk3,aZ] at hcase hcase2 ⊢
    refine cx (Z43.ak (a0:=le.bB) hpl) ?_
    refine dw dt (dw dt (dw (by have :(le.bB.map cL).length=le.bB.length:=List.length_map ..;have :(xs.map cL).length=xs.length:=List.length_map ..;exact gX (by omega)) ?_))
    by_cases hmv:mv>=3
    ·rw [decide_eq_true hmv] at hcase ⊢
     exact ⟨0,by rw [hcase _ rfl];exact fz⟩
    ·rw [decide_eq_false hmv] at hcase hcase2 ⊢
     simp only [bh] at hcase hcase2 ⊢
     have e:le.bB.map cL++xs.map cL=(le.bB++xs).map cL:=by simp
     rw [e]
     refine cx (Z51.ak (a0:=le.bB++xs) ⟨by rw [List.length_append];omega,fun y hy=>(List.mem_append.1 hy).elim (fun h=>le_trans (hpl.2 y h) (by decide)) (hxs y)⟩) ?_
     cases hip:Z51.md (le.bB++xs)
     ·rw [hip] at hcase
      exact ⟨0,by rw [hcase _ rfl];exact fz⟩
     ·rw [hip] at hcase2
      have ht:=Z51.tr hip
      rw [hcase2 _ rfl,hzz,wi _ (by omega)]
      exact ih c2 lk0 (zs++[z]) (mv+1) le.bX (le.bB++xs) hl2 hl1.1 hip (by omega) (by omega) (by omega) (by simp;omega)
 unfold start md
 refine cx (Z42.ak (a0:=a0) H0) ?_
 refine cx (Z48.ak (a0:=a1) HC) ?_
 refine cx (Z51.ak (a0:=a4) (bI.mono H3 (by decide) (fun y hy=>le_trans hy (by decide)))) ?_
 cases hp:Z51.md a4
 ·exact ⟨0,rfl⟩
 ·simp only [Bool.not_true,bh]
  refine cx (Z43.ak (a0:=a4) H3) ?_
  exact key 17 a1 a0 [] 0 a3 a4 HC H0 hp (by decide) (by decide) (by have:=(Z51.tr hp).1;omega) (by simp)
def af:cq 33 aV:=L6 152 pid cQ cR live step start mix aD bp (.cons Z42.af (.cons Z48.af (.cons Z51.af (.cons Z43.af (.cons Z53.af (.cons Z104.af (.cons Z126.af (.cons Z127.af (.cons Z128.af (.cons Z129.af .nil)))))))))) Tryz.func33
end Z130
namespace Z131
def F (x0:bt)(x1:bR)(x2:Int)(x3:aF)(x4:Int):aH:=(call (Z130.R (x0,x1,[],x2,x3,x4)) fun v1=>ret (v1.fX:dz))
def md (a0:an)(a1:aG)(a2:Int)(a3:List aA)(a4:Int):bT:=(Z130.md a0 a1 [] a2 a3 a4).fX
def gd (a0:an)(a1:aG)(a2:Int)(a3:List aA)(a4:Int):Prop:=(an.Sm (2^21) a0)/\(aG.Sm (2^21) a1)/\(bI (2^21) (fun y:aA=>y.size<=(2^21)) a3)
def R:=RR (p5 gd) (u5 md)
def ak {a0 a1 a2 a3 a4}(h:gd a0 a1 a2 a3 a4):R ((an.r a0),(aG.r a1),a2,(a3.map cL),a4)=some (bT.r (md a0 a1 a2 a3 a4)):=aM (a:=(a0,a1,a2,a3,a4)) h
def aV:=CN [.agg tO,.agg vH,pI,pL 9,pI] (.agg f41) RT.dec R
def bp (a0)(a1)(a2)(a3)(a4)(hg:gd a0 a1 a2 a3 a4):F (an.r a0) (aG.r a1) a2 (a3.map cL) a4=ret (bT.r (md a0 a1 a2 a3 a4)):=by
 obtain ⟨H0,H1,H3⟩:=hg
 unfold F md
 try simp only [SS]
 refine cF (dB.r (Z130.md a0 a1 [] a2 a3 a4)) (rq (Z130.ak (a0:=a0) (a1:=a1) (a2:=[]) (a3:=a2) (a4:=a3) (a5:=a4) ⟨H0,H1,bI.nil,H3⟩)) ?_
 try simp only [SS]
 all_goals exact fz
def af:cq 11 aV:=W5 19 F mix aD bp (.cons Z130.af .nil) Tryz.func11
end Z131
namespace Z132
def F (x0:bt)(x1:bR)(x2:Int)(x3:aF)(x4:Int):aH:=(call (Z131.R (x0,x1,x2,x3,x4)) fun v1=>ret ((v1.kM==1):Bool))
def md (a0:an)(a1:aG)(a2:Int)(a3:List aA)(a4:Int):Bool:=(((Z131.md a0 a1 a2 a3 a4).kM==1):Bool)
def gd (a0:an)(a1:aG)(a2:Int)(a3:List aA)(a4:Int):Prop:=(an.Sm (2^21) a0)/\(aG.Sm (2^21) a1)/\(bI (2^21) (fun y:aA=>y.size<=(2^21)) a3)
def R:=RR (p5 gd) (u5 md)
def ak {a0 a1 a2 a3 a4}(h:gd a0 a1 a2 a3 a4):R ((an.r a0),(aG.r a1),a2,(a3.map cL),a4)=some (md a0 a1 a2 a3 a4):=aM (a:=(a0,a1,a2,a3,a4)) h
def aV:=CN [.agg tO,.agg vH,pI,pL 9,pI] oB RT.dec R
def bp (a0)(a1)(a2)(a3)(a4)(hg:gd a0 a1 a2 a3 a4):F (an.r a0) (aG.r a1) a2 (a3.map cL) a4=ret (md a0 a1 a2 a3 a4):=by
 obtain ⟨H0,H1,H3⟩:=hg
 unfold F md
 try simp only [SS]
 refine ct (Z131.ak ⟨H0,H1,H3⟩) ?_
 try simp only [SS]
 all_goals exact fz
def af:cq 44 aV:=W5 19 F mix aD bp (.cons Z131.af .nil) Tryz.func44
end Z132
namespace Z133
def F (x0:aF):aH:=(cond x0.isEmpty (either (ret ([]:aF)) ((cK (eO ((x0.length:Int)*8)) (ret (x0:aF))))) (cK (eO ((x0.length:Int)*8)) (ret (x0:aF))))
def md (a0:List Int):List Int:=a0
def gd (a0:List Int):Prop:=bI (2^38) (fun y:Int=>True) a0
def R:=RR gd md
def ak {a0}(h:gd a0):R (a0.map bn)=some (a0.map bn):=aM (a:=a0) h
def aV:=CN [pL 3] (oL 3) RT.dec R
def bp (a0)(hg:gd a0):F (a0.map bn)=ret ((md a0).map bn):=by
 have H0:=hg.1
 unfold F md
 have hl:eO (((a0.map bn).length:Int)*8)=true:=gX (by simp only [List.length_map];omega)
 simp only [hl,aZ]
 cases a0 with
 | nil=>exact lg
 | cons x xs=>rfl
def af:cq 242 aV:=W1 8 F mix aD bp .nil Tryz.func242
end Z133
namespace Z134
def F (x0:bC):aH:=(call (Z133.R x0.aU) fun v1=>ret ((⟨v1,x0.cV⟩:bC):bC))
def md (a0:aL):aL:=a0
def gd (a0:aL):Prop:=(aL.Sm (2^21) a0)
def R:=RR gd md
def ak {a0}(h:gd a0):R (aL.r a0)=some (aL.r a0):=aM (a:=a0) h
def aV:=CN [.agg iT] (.agg f173) RT.dec R
def bp (a0)(hg:gd a0):F (aL.r a0)=ret (aL.r (md a0)):=by
 unfold gd at hg
 have H0:=hg
 unfold F md
 try simp only [SS]
 refine ct (Z133.ak (H0.mono (by decide) (fun x hx=>trivial))) ?_
 try simp only [SS]
 all_goals exact fz
def af:cq 265 aV:=W1 9 F mix aD bp (.cons Z133.af .nil) Tryz.func265
end Z134
namespace Z135
def F (x0:bW):aH:=(call (Z134.R x0.cg) fun v1=>(call (Z134.R x0.bN) fun v2=>(call (Z134.R x0.bK) fun v3=>ret ((⟨x0.bw,x0.cG,x0.bL,x0.cE,x0.cD,x0.cB,x0.dg,x0.dN,v1,v2,x0.dy,v3,x0.bF⟩:bW):bW))))
def md (a0:aE):aE:=a0
def gd (a0:aE):Prop:=(aE.Sm (2^21) a0)
def R:=RR gd md
def ak {a0}(h:gd a0):R (aE.r a0)=some (aE.r a0):=aM (a:=a0) h
def aV:=CN [.agg fV] (.agg f175) RT.dec R
def bp (a0)(hg:gd a0):F (aE.r a0)=ret (aE.r (md a0)):=by
 unfold gd at hg
 have H0:=hg
 unfold F md
 try simp only [SS]
 refine ct (Z134.ak H0.1) ?_
 try simp only [SS]
 refine ct (Z134.ak H0.2.1) ?_
 try simp only [SS]
 refine ct (Z134.ak H0.2.2) ?_
 try simp only [SS]
 all_goals exact fz
def af:cq 203 aV:=W1 16 F mix aD bp (.cons Z134.af .nil) Tryz.func203
end Z135
namespace Z136
def F (x0:aF):aH:=(cond x0.isEmpty (either (ret ([]:aF)) ((cK (eO ((x0.length:Int)*16)) (ret (x0:aF))))) (cK (eO ((x0.length:Int)*16)) (ret (x0:aF))))
def md (a0:List bz):List bz:=a0
def gd (a0:List bz):Prop:=bI (2^21) (fun y:bz=>bz.Sm (2^21) y) a0
def R:=RR gd md
def ak {a0}(h:gd a0):R (a0.map bz.row)=some (a0.map bz.row):=aM (a:=a0) h
def aV:=CN [pL 227] (oL 227) RT.dec R
def bp (a0)(hg:gd a0):F (a0.map bz.row)=ret ((md a0).map bz.row):=by
 have H0:=hg.1
 unfold F md
 have hl:eO (((a0.map bz.row).length:Int)*16)=true:=gX (by simp only [List.length_map];omega)
 simp only [hl,aZ]
 cases a0 with
 | nil=>exact lg
 | cons x xs=>rfl
def af:cq 294 aV:=W1 8 F mix aD bp .nil Tryz.func294
end Z136
namespace Z137
def F (x0:aT):aH:=(call (Z135.R x0.ay) fun v1=>(call (Z136.R x0.cT) fun v2=>ret ((⟨v1,v2⟩:aT):aT)))
def md (a0:aa):aa:=a0
def gd (a0:aa):Prop:=(aa.Sm (2^21) a0)
def R:=RR gd md
def ak {a0}(h:gd a0):R (aa.r a0)=some (aa.r a0):=aM (a:=a0) h
def aV:=CN [.agg kB] (.agg f178) RT.dec R
def bp (a0)(hg:gd a0):F (aa.r a0)=ret (aa.r (md a0)):=by
 unfold gd at hg
 have H0:=hg
 unfold F md
 try simp only [SS]
 refine ct (Z135.ak H0.1) ?_
 try simp only [SS]
 refine ct (Z136.ak H0.2) ?_
 try simp only [SS]
 all_goals exact fz
def af:cq 240 aV:=W1 10 F mix aD bp (.cons Z135.af (.cons Z136.af .nil)) Tryz.func240
end Z137
namespace Z138
inductive Pt where
 | p0 (a:aF) (b c:Int) (d:aF)
def pid:Pt->Nat
 | .p0 ..=>3
def cQ:Pt->List V
 | .p0 a b c d=>[.own 0,.sl none 178 a,.int .i64 b,.int .i64 c]
def cR:Pt->List aS
 | .p0 a b c d=>[.row 178 d]
def step (J:Pt->aH):Pt->aH
 | .p0 a b c d=>(cond (decide (c<b)) (m2 c (a.length:Int) (call (Z137.R (aT.at a (toNat c))) fun v1=>(cK (eO (((d.length:Int)+1)*200)) (J (.p0 a b (i64.wrap (c+1)) (d++[(aT.enc v1)])))))) (ret (d:aF)))
def start (J:Pt->aH)(x0:aF):aH:=J (.p0 x0 (x0.length:Int) 0 [])
def live:Nat->Live:=fun i=>match i with | 3=>[(3,some 178),(7,none),(8,none),(9,none)] | _=>[]
def md (a0:List aa):List aa:=a0
def gd (a0:List aa):Prop:=(bI (2^21) (fun y:aa=>aa.Sm (2^21) y) a0)
def R:=RR gd md
def ak {a0}(h:gd a0):R (a0.map aa.row)=some (a0.map aa.row):=aM (a:=a0) h
def aV:=CN [pL 178] (oL 178) RT.dec R
def bp (a0)(hg:gd a0):∃n,start (iter step n) (a0.map aa.row)=ret ((md a0).map aa.row):=by
 unfold gd at hg
 have H0:=hg
 unfold start md
 try simp only [SS]
 have Bh2:a0.length<=maxLen:=(by
   have:=(H0).1
   try simp only [maxLen] at *
   omega)
 refine ex_eq (out:=(fun b:List aa=>ret ((b.map aa.row):aF))) (gu (xs:=a0) (z:=aa.zero) (t:=fun s3:List aa=>s3)) ?_
 refine dG (p:=Pt.p0 (a0.map aa.row) (a0.length:Int) 0 ([].map aa.row)) fz ?_
 refine bU (pt:=fun (i1:Nat) (s3:List aa)=>Pt.p0 (a0.map aa.row) (a0.length:Int) (i1:Int) (s3.map aa.row)) (s:=([]:List aa)) (out:=(fun b:List aa=>ret ((b.map aa.row):aF))) (fun (i1:Nat) (s3:List aa)=>s3.length<=([]:List Int).length+1*i1) (fun J i1 s3 h2 hih2=>?_) (fun s3 hih2=>?_) (by simp)
 ·simp only [step,SS]
  have gr_:=hih2
  try simp only [LN] at gr_
  have bb_:=Bh2
  simp only [maxLen] at bb_
  have:=(H0).1
  refine bk.yes (by apply decide_eq_true;omega) ?_
  refine bk.yes bE ?_
  refine bk.yes (bM h2) ?_
  refine cr (Z137.ak (bI.getD (z:=aa.zero) H0 h2)) ?_
  try simp only [SS]
  refine bk.yes lm ?_
  refine bk.inl (by
    have g_:=hih2
    try simp only [LN] at g_ ⊢
    first | omega | (simp;done) | (simp;omega)) ?_
  rw [aJ h2 Bh2]
  all_goals exact fz
 ·simp only [step,SS]
  have gr_:=hih2
  try simp only [LN] at gr_
  have:=(H0).1
  refine cY (by apply decide_eq_false;omega) ?_
  refine ⟨0,?_⟩
  all_goals exact fz
def af:cq 185 aV:=L1 20 pid cQ cR live step start mix aD bp (.cons Z137.af .nil) Tryz.func185
end Z138
namespace Z139
def F (x0:aF):aH:=(cond x0.isEmpty (either (ret ([]:aF)) ((cK (eO ((x0.length:Int)*16)) (ret (x0:aF))))) (cK (eO ((x0.length:Int)*16)) (ret (x0:aF))))
def md (a0:List aA):List aA:=a0
def gd (a0:List aA):Prop:=bI (2^21) (fun y:aA=>y.size<=(2^21)) a0
def R:=RR gd md
def ak {a0}(h:gd a0):R (a0.map cL)=some (a0.map cL):=aM (a:=a0) h
def aV:=CN [pL 9] (oL 9) RT.dec R
def bp (a0)(hg:gd a0):F (a0.map cL)=ret ((md a0).map cL):=by
 have H0:=hg.1
 unfold F md
 have hl:eO (((a0.map cL).length:Int)*16)=true:=gX (by simp only [List.length_map];omega)
 simp only [hl,aZ]
 cases a0 with
 | nil=>exact lg
 | cons x xs=>rfl
def af:cq 189 aV:=W1 8 F mix aD bp .nil Tryz.func189
end Z139
namespace Z140
def F (x0:aW):aH:=(call (Z139.R x0.bB) fun v1=>ret ((⟨x0.aQ,x0.bL,x0.bX,v1⟩:aW):aW))
def md (a0:ah):ah:=a0
def gd (a0:ah):Prop:=(ah.Sm (2^21) a0)
def R:=RR gd md
def ak {a0}(h:gd a0):R (ah.r a0)=some (ah.r a0):=aM (a:=a0) h
def aV:=CN [.agg sX] (.agg f38) RT.dec R
def bp (a0)(hg:gd a0):F (ah.r a0)=ret (ah.r (md a0)):=by
 unfold gd at hg
 have H0:=hg
 unfold F md
 try simp only [SS]
 refine ct (Z139.ak H0.2) ?_
 try simp only [SS]
 all_goals exact fz
def af:cq 150 aV:=W1 8 F mix aD bp (.cons Z139.af .nil) Tryz.func150
end Z140
namespace Z141
def F (x0:bH):aH:=(call (Z133.R x0.bB) fun v1=>ret ((⟨x0.ec,v1⟩:bH):bH))
def md (a0:aB):aB:=a0
def gd (a0:aB):Prop:=(aB.Sm (2^21) a0)
def R:=RR gd md
def ak {a0}(h:gd a0):R (aB.r a0)=some (aB.r a0):=aM (a:=a0) h
def aV:=CN [.agg oo] (.agg f122) RT.dec R
def bp (a0)(hg:gd a0):F (aB.r a0)=ret (aB.r (md a0)):=by
 unfold gd at hg
 have H0:=hg
 unfold F md
 try simp only [SS]
 refine ct (Z133.ak (H0.mono (by decide) (fun x hx=>trivial))) ?_
 try simp only [SS]
 all_goals exact fz
def af:cq 191 aV:=W1 9 F mix aD bp (.cons Z133.af .nil) Tryz.func191
end Z141
namespace Z142
def F (x0:dm):aH:=(call (Z140.R x0.aX) fun v1=>(call (Z140.R x0.bQ) fun v2=>(call (Z141.R x0.dx) fun v3=>(call (Z141.R x0.cw) fun v4=>ret ((⟨x0.ec,v1,v2,v3,v4⟩:dm):dm)))))
def md (a0:bG):bG:=a0
def gd (a0:bG):Prop:=(bG.Sm (2^21) a0)
def R:=RR gd md
def ak {a0}(h:gd a0):R (bG.r a0)=some (bG.r a0):=aM (a:=a0) h
def aV:=CN [.agg ql] (.agg f124) RT.dec R
def bp (a0)(hg:gd a0):F (bG.r a0)=ret (bG.r (md a0)):=by
 unfold gd at hg
 have H0:=hg
 unfold F md
 try simp only [SS]
 refine ct (Z140.ak H0.1) ?_
 try simp only [SS]
 refine ct (Z140.ak H0.2.1) ?_
 try simp only [SS]
 refine ct (Z141.ak H0.2.2.1) ?_
 try simp only [SS]
 refine ct (Z141.ak H0.2.2.2) ?_
 try simp only [SS]
 all_goals exact fz
def af:cq 192 aV:=W1 18 F mix aD bp (.cons Z140.af (.cons Z141.af .nil)) Tryz.func192
end Z142
namespace Z143
def F (x0:aO):aH:=(call (Z138.R x0.aP) fun v1=>(call (Z140.R x0.bg) fun v2=>(call (Z141.R x0.cX) fun v3=>(call (Z142.R x0.eo) fun v4=>ret ((⟨v1,x0.bS,v2,v3,v4⟩:aO):aO)))))
def md (a0:aj):aj:=a0
def gd (a0:aj):Prop:=(aj.Sm (2^21) a0)
def R:=RR gd md
def ak {a0}(h:gd a0):R (aj.r a0)=some (aj.r a0):=aM (a:=a0) h
def aV:=CN [.agg qJ] (.agg f126) RT.dec R
def bp (a0)(hg:gd a0):F (aj.r a0)=ret (aj.r (md a0)):=by
 unfold gd at hg
 have H0:=hg
 unfold F md
 try simp only [SS]
 refine ct (Z138.ak H0.1) ?_
 try simp only [SS]
 refine ct (Z140.ak H0.2.1) ?_
 try simp only [SS]
 refine ct (Z141.ak H0.2.2.1) ?_
 try simp only [SS]
 refine ct (Z142.ak H0.2.2.2) ?_
 try simp only [SS]
 all_goals exact fz
def af:cq 147 aV:=W1 18 F mix aD bp (.cons Z138.af (.cons Z140.af (.cons Z141.af (.cons Z142.af .nil)))) Tryz.func147
end Z143
namespace Z144
def F (x0:bV):aH:=(call (Z143.R x0.cC) fun v1=>ret ((⟨x0.bw,x0.aQ,v1⟩:bV):bV))
def md (a0:aC):aC:=a0
def gd (a0:aC):Prop:=(aC.Sm (2^21) a0)
def R:=RR gd md
def ak {a0}(h:gd a0):R (aC.r a0)=some (aC.r a0):=aM (a:=a0) h
def aV:=CN [.agg zQ] (.agg f148) RT.dec R
def bp (a0)(hg:gd a0):F (aC.r a0)=ret (aC.r (md a0)):=by
 unfold gd at hg
 have H0:=hg
 unfold F md
 try simp only [SS]
 refine ct (Z143.ak H0.2) ?_
 try simp only [SS]
 all_goals exact fz
def af:cq 142 aV:=W1 8 F mix aD bp (.cons Z143.af .nil) Tryz.func142
end Z144
namespace Z145
inductive Pt where
 | p0 (a:aF) (b c:Int) (d:aF)
def pid:Pt->Nat
 | .p0 ..=>3
def cQ:Pt->List V
 | .p0 a b c d=>[.cj 0 0,.cj 1 0,.sl none 148 a,.int .i64 b,.int .i64 c,.cj 1 0]
def cR:Pt->List aS
 | .p0 a b c d=>[.box [.nil],.box [.own 2],.row 148 d]
def step (J:Pt->aH):Pt->aH
 | .p0 a b c d=>(cond (decide (c<b)) (m2 c (a.length:Int) (call (Z144.R (bV.at a (toNat c))) fun v1=>(cK (eO (((d.length:Int)+1)*328)) (J (.p0 a b (i64.wrap (c+1)) (d++[(bV.enc v1)])))))) (ret ((⟨d⟩:bR):bR)))
def start (J:Pt->aH)(x0:bR):aH:=J (.p0 x0.aU (x0.aU.length:Int) 0 [])
def live:Nat->Live:=fun i=>match i with | 3=>[(2,none),(3,none),(8,none),(9,none),(10,none),(3,some 148)] | _=>[]
def md (a0:aG):aG:=a0
def gd (a0:aG):Prop:=(aG.Sm (2^21) a0)
def R:=RR gd md
def ak {a0}(h:gd a0):R (aG.r a0)=some (aG.r a0):=aM (a:=a0) h
def aV:=CN [.agg vH] (.agg f46) RT.dec R
def bp (a0)(hg:gd a0):∃n,start (iter step n) (aG.r a0)=ret (aG.r (md a0)):=by
 unfold gd at hg
 have H0:=hg
 unfold start md
 try simp only [SS]
 have Bh2:a0.aU.length<=maxLen:=(by
   have:=(H0).1
   try simp only [maxLen] at *
   omega)
 refine ex_eq (out:=(fun b:aG=>ret ((aG.r b):bR))) (gu (xs:=a0.aU) (z:=aC.zero) (t:=fun s3:List aC=>(⟨s3⟩:aG))) ?_
 refine dG (p:=Pt.p0 (a0.aU.map aC.row) (a0.aU.length:Int) 0 ([].map aC.row)) fz ?_
 refine bU (pt:=fun (i1:Nat) (s3:List aC)=>Pt.p0 (a0.aU.map aC.row) (a0.aU.length:Int) (i1:Int) (s3.map aC.row)) (s:=([]:List aC)) (out:=(fun b:aG=>ret ((aG.r b):bR))) (fun (i1:Nat) (s3:List aC)=>s3.length<=([]:List Int).length+1*i1) (fun J i1 s3 h2 hih2=>?_) (fun s3 hih2=>?_) (by simp)
 ·simp only [step,SS]
  have gr_:=hih2
  try simp only [LN] at gr_
  have bb_:=Bh2
  simp only [maxLen] at bb_
  have:=(H0).1
  refine bk.yes (by apply decide_eq_true;omega) ?_
  refine bk.yes bE ?_
  refine bk.yes (bM h2) ?_
  refine cr (Z144.ak (bI.getD (z:=aC.zero) H0 h2)) ?_
  try simp only [SS]
  refine bk.yes lm ?_
  refine bk.inl (by
    have g_:=hih2
    try simp only [LN] at g_ ⊢
    first | omega | (simp;done) | (simp;omega)) ?_
  rw [aJ h2 Bh2]
  all_goals exact fz
 ·simp only [step,SS]
  have gr_:=hih2
  try simp only [LN] at gr_
  have:=(H0).1
  refine cY (by apply decide_eq_false;omega) ?_
  refine ⟨0,?_⟩
  all_goals exact fz
def af:cq 94 aV:=L1 23 pid cQ cR live step start mix aD bp (.cons Z144.af .nil) Tryz.func94
end Z145
namespace Z146
def F (x0:cu):aH:=(call (Z137.R x0.aX) fun v1=>(call (Z137.R x0.fA) fun v2=>(call (Z137.R x0.fB) fun v3=>ret ((⟨v1,v2,v3⟩:cu):cu))))
def md (a0:aI):aI:=a0
def gd (a0:aI):Prop:=(aI.Sm (2^21) a0)
def R:=RR gd md
def ak {a0}(h:gd a0):R (aI.r a0)=some (aI.r a0):=aM (a:=a0) h
def aV:=CN [.agg tI] (.agg f180) RT.dec R
def bp (a0)(hg:gd a0):F (aI.r a0)=ret (aI.r (md a0)):=by
 unfold gd at hg
 have H0:=hg
 unfold F md
 try simp only [SS]
 refine ct (Z137.ak H0.1) ?_
 try simp only [SS]
 refine ct (Z137.ak H0.2.1) ?_
 try simp only [SS]
 refine ct (Z137.ak H0.2.2) ?_
 try simp only [SS]
 all_goals exact fz
def af:cq 186 aV:=W1 13 F mix aD bp (.cons Z137.af .nil) Tryz.func186
end Z146
namespace Z147
inductive Pt where
 | p0 (a:aF) (b c:Int) (d:bt) (e:aF)
 | p1 (a:aF) (b c:Int) (d e:aF)
def pid:Pt->Nat
 | .p0 ..=>3
 | .p1 ..=>8
def cQ:Pt->List V
 | .p0 a b c d e=>[.cj 0 0,.cj 1 0,.cj 2 0,.sl none 120 a,.int .i64 b,.int .i64 c,.cj 2 0]
 | .p1 a b c d e=>[.cj 0 0,.cj 1 0,.sl none 180 a,.int .i64 b,.int .i64 c,.cj 1 0,.cj 1 0]
def cR:Pt->List aS
 | .p0 a b c d e=>[.box [.sl none 120 d.aK,.sl none 180 d.bq],.box [.nil,.nil],.box [.own 3,.nil],.row 120 e]
 | .p1 a b c d e=>[.box [.nil,.nil],.box [.own 2,.own 3],.row 120 d,.row 180 e]
def step (J:Pt->aH):Pt->aH
 | .p0 a b c d e=>(cond (decide (c<b)) (m2 c (a.length:Int) (call (Z138.R (pX a (toNat c))) fun v1=>(cK (eO (((e.length:Int)+1)*24)) (J (.p0 a b (i64.wrap (c+1)) d (e++[[L.sl v1]])))))) (J (.p1 d.bq (d.bq.length:Int) 0 e [])))
 | .p1 a b c d e=>(cond (decide (c<b)) (m2 c (a.length:Int) (call (Z146.R (cu.at a (toNat c))) fun v1=>(cK (eO (((e.length:Int)+1)*600)) (J (.p1 a b (i64.wrap (c+1)) d (e++[(cu.enc v1)])))))) (ret ((⟨d,e⟩:bt):bt)))
def start (J:Pt->aH)(x0:bt):aH:=J (.p0 x0.aK (x0.aK.length:Int) 0 x0 [])
def live:Nat->Live:=fun i=>match i with | 3=>[(1,none),(2,none),(3,none),(10,none),(11,none),(12,none),(3,some 120)] | 8=>[(2,none),(3,none),(25,none),(26,none),(27,none),(3,some 120),(3,some 1048756)] | _=>[]
def md (a0:an):an:=a0
def gd (a0:an):Prop:=(an.Sm (2^21) a0)
def R:=RR gd md
def ak {a0}(h:gd a0):R (an.r a0)=some (an.r a0):=aM (a:=a0) h
def aV:=CN [.agg tO] (.agg f36) RT.dec R
def bp (a0)(hg:gd a0):∃n,start (iter step n) (an.r a0)=ret (an.r (md a0)):=by
 unfold gd at hg
 have H0:=hg
 unfold start md
 try simp only [SS]
 have Bh2:a0.aK.length<=maxLen:=(by
   have:=(H0.1).1
   try simp only [maxLen] at *
   omega)
 refine ex_eq (out:=(fun b:an=>ret ((an.r b):bt))) (gu (xs:=a0.aK) (z:=[]) (t:=fun s3:List (List aa)=>(⟨s3,a0.bq⟩:an))) ?_
 refine dG (p:=Pt.p0 (a0.aK.map (eL aa.row)) (a0.aK.length:Int) 0 (an.r a0) ([].map (eL aa.row))) fz ?_
 refine bU (pt:=fun (i1:Nat) (s3:List (List aa))=>Pt.p0 (a0.aK.map (eL aa.row)) (a0.aK.length:Int) (i1:Int) (an.r a0) (s3.map (eL aa.row))) (s:=([]:List (List aa))) (out:=(fun b:an=>ret ((an.r b):bt))) (fun (i1:Nat) (s3:List (List aa))=>s3.length<=([]:List Int).length+1*i1) (fun J i1 s3 h2 hih2=>?_) (fun s3 hih2=>?_) (by simp)
 ·simp only [step,SS]
  have gr_:=hih2
  try simp only [LN] at gr_
  have bb_:=Bh2
  simp only [maxLen] at bb_
  have:=(H0.1).1
  refine bk.yes (by apply decide_eq_true;omega) ?_
  refine bk.yes bE ?_
  refine bk.yes (bM h2) ?_
  refine cr (Z138.ak (bI.getD (z:=[]) H0.1 h2)) ?_
  try simp only [SS]
  refine bk.yes lm ?_
  refine bk.inl (by
    have g_:=hih2
    try simp only [LN] at g_ ⊢
    first | omega | (simp;done) | (simp;omega)) ?_
  rw [aJ h2 Bh2]
  all_goals exact fz
 ·simp only [step,SS]
  have gr_:=hih2
  try simp only [LN] at gr_
  have:=(H0.1).1
  refine cY (by apply decide_eq_false;omega) ?_
  have Bh5:a0.bq.length<=maxLen:=(by
    have:=(H0.2).1
    try simp only [maxLen] at *
    omega)
  refine ex_eq (out:=(fun b:an=>ret ((an.r b):bt))) (gu (xs:=a0.bq) (z:=aI.zero) (t:=fun s6:List aI=>(⟨s3,s6⟩:an))) ?_
  refine dG (p:=Pt.p1 (a0.bq.map aI.row) (a0.bq.length:Int) 0 (s3.map (eL aa.row)) ([].map aI.row)) fz ?_
  refine bU (pt:=fun (i4:Nat) (s6:List aI)=>Pt.p1 (a0.bq.map aI.row) (a0.bq.length:Int) (i4:Int) (s3.map (eL aa.row)) (s6.map aI.row)) (s:=([]:List aI)) (out:=(fun b:an=>ret ((an.r b):bt))) (fun (i4:Nat) (s6:List aI)=>s6.length<=([]:List Int).length+1*i4) (fun J i4 s6 h5 hih5=>?_) (fun s6 hih5=>?_) (by simp)
  ·simp only [step,SS]
   have gr_:=hih5
   try simp only [LN] at gr_
   have bb_:=Bh5
   simp only [maxLen] at bb_
   have:=(H0.2).1
   refine bk.yes (by apply decide_eq_true;omega) ?_
   refine bk.yes bE ?_
   refine bk.yes (bM h5) ?_
   refine cr (Z146.ak (bI.getD (z:=aI.zero) H0.2 h5)) ?_
   try simp only [SS]
   refine bk.yes lm ?_
   refine bk.inl (by
     have g_:=hih5
     try simp only [LN] at g_ ⊢
     first | omega | (simp;done) | (simp;omega)) ?_
   rw [aJ h5 Bh5]
   all_goals exact fz
  ·simp only [step,SS]
   have gr_:=hih5
   try simp only [LN] at gr_
   have:=(H0.2).1
   refine cY (by apply decide_eq_false;omega) ?_
   refine ⟨0,?_⟩
   all_goals exact fz
def af:cq 143 aV:=L1 40 pid cQ cR live step start mix aD bp (.cons Z138.af (.cons Z146.af .nil)) Tryz.func143
end Z147
namespace Z148
def F (x0 x1 x2:Int):aH:=(cond (decide (x1<=x0)) (ret ((decide (x0<=x2)):Bool)) bf)
def md (a0 a1 a2:Int):Bool:=(cond (decide (a1<=a0)) ((decide (a0<=a2)):Bool) (false:Bool))
def gd (a0 a1 a2:Int):Prop:=True
def R:=RR (p3 gd) (u3 md)
def ak {a0 a1 a2}(h:gd a0 a1 a2):R (a0,a1,a2)=some (md a0 a1 a2):=aM (a:=(a0,a1,a2)) h
def aV:=CN [pI,pI,pI] oB RT.dec R
def bp (a0)(a1)(a2)(hg:gd a0 a1 a2):F a0 a1 a2=ret (md a0 a1 a2):=by
 unfold F md
 try simp only [SS]
 refine aq ret (fun c1=>?_) (fun _=>rfl)
 all_goals exact fz
def af:cq 167 aV:=W3 15 F mix aD bp .nil Tryz.func167
def br (a0 a1 a2:Int):md a0 a1 a2=Z49.md a0 a1 a2:=by
 unfold md Z49.md
 first | rfl | (rw [Bool.eq_iff_iff];simp)
end Z148
namespace Z149
inductive Pt where
 | p0 (a:aA) (b c:Int)
def pid:Pt->Nat
 | .p0 ..=>2
def cQ:Pt->List V
 | .p0 a b c=>[.str a,.int .i64 b,.int .i64 c]
def cR:Pt->List aS
 | .p0 a b c=>[]
def step (J:Pt->aH):Pt->aH
 | .p0 a b c=>(cond (decide (c<b)) (m2 c (a.size:Int) (cond (decide ((eC a (toNat c))>=97)) (cond (decide ((eC a (toNat c))<=122)) (J (.p0 a b (i64.wrap (c+1)))) (cond (decide ((eC a (toNat c))>=48)) (cond (decide ((eC a (toNat c))<=57)) (J (.p0 a b (i64.wrap (c+1)))) (cond ((eC a (toNat c))==45) (cond (decide (c>0)) (cond (!(decide (c<(i64.wrap ((a.size:Int) - 1))))) bf (J (.p0 a b (i64.wrap (c+1))))) bf) bf)) (cond ((eC a (toNat c))==45) (cond (decide (c>0)) (cond (!(decide (c<(i64.wrap ((a.size:Int) - 1))))) bf (J (.p0 a b (i64.wrap (c+1))))) bf) bf))) (cond (decide ((eC a (toNat c))>=48)) (cond (decide ((eC a (toNat c))<=57)) (J (.p0 a b (i64.wrap (c+1)))) (cond ((eC a (toNat c))==45) (cond (decide (c>0)) (cond (!(decide (c<(i64.wrap ((a.size:Int) - 1))))) bf (J (.p0 a b (i64.wrap (c+1))))) bf) bf)) (cond ((eC a (toNat c))==45) (cond (decide (c>0)) (cond (!(decide (c<(i64.wrap ((a.size:Int) - 1))))) bf (J (.p0 a b (i64.wrap (c+1))))) bf) bf)))) (call (Z148.R ((a.size:Int),1,8)) fun v1=>ret (v1:Bool)))
def start (J:Pt->aH)(x0:aA):aH:=J (.p0 x0 (x0.size:Int) 0)
def live:Nat->Live:=fun i=>match i with | 2=>[(0,none),(6,none),(7,none)] | _=>[]
def md (a0:aA):Bool:=(eD (S:=Unit) (β:=Bool) (fun (i1:Nat) (s3:Unit)=>(cond (decide ((eC a0 i1)>=97)) (cond (decide ((eC a0 i1)<=122)) (.inl ()) (cond (decide ((eC a0 i1)>=48)) (cond (decide ((eC a0 i1)<=57)) (.inl ()) (cond ((eC a0 i1)==45) (cond (decide ((i1:Int)>0)) (cond (!(decide ((i1:Int)<(i64.wrap ((a0.size:Int) - 1))))) (.inr (false:Bool)) (.inl ())) (.inr (false:Bool))) (.inr (false:Bool)))) (cond ((eC a0 i1)==45) (cond (decide ((i1:Int)>0)) (cond (!(decide ((i1:Int)<(i64.wrap ((a0.size:Int) - 1))))) (.inr (false:Bool)) (.inl ())) (.inr (false:Bool))) (.inr (false:Bool))))) (cond (decide ((eC a0 i1)>=48)) (cond (decide ((eC a0 i1)<=57)) (.inl ()) (cond ((eC a0 i1)==45) (cond (decide ((i1:Int)>0)) (cond (!(decide ((i1:Int)<(i64.wrap ((a0.size:Int) - 1))))) (.inr (false:Bool)) (.inl ())) (.inr (false:Bool))) (.inr (false:Bool)))) (cond ((eC a0 i1)==45) (cond (decide ((i1:Int)>0)) (cond (!(decide ((i1:Int)<(i64.wrap ((a0.size:Int) - 1))))) (.inr (false:Bool)) (.inl ())) (.inr (false:Bool))) (.inr (false:Bool)))))) (fun (s3:Unit)=>((Z148.md (a0.size:Int) 1 8):Bool)) a0.size 0 ())
def gd (a0:aA):Prop:=(a0.size<=(2^22))
def R:=RR gd md
def ak {a0}(h:gd a0):R a0=some (md a0):=aM (a:=a0) h
def aV:=CN [pS] oB RT.dec R
def bp (a0)(hg:gd a0):∃n,start (iter step n) a0=ret (md a0):=by
 unfold gd at hg
 have H0:=hg
 unfold start md
 try simp only [SS]
 have Bh2:a0.size<=maxLen:=(by
   have:=H0
   try simp only [maxLen] at *
   omega)
 refine dG (p:=Pt.p0 a0 (a0.size:Int) 0) fz ?_
 refine bU (pt:=fun (i1:Nat) (s3:Unit)=>Pt.p0 a0 (a0.size:Int) (i1:Int)) (s:=(():Unit)) (out:=ret) (fun _ _=>True) (fun J i1 s3 h2 hih2=>?_) (fun s3 hih2=>?_) trivial
 ·simp only [step,SS]
  have bb_:=Bh2
  simp only [maxLen] at bb_
  have:=H0
  refine bk.yes (by apply decide_eq_true;omega) ?_
  refine bk.yes bE ?_
  refine bk.yes (bM h2) ?_
  refine bk.bif (fun c4=>?_) (fun c4=>?_)
  ·refine bk.bif (fun c5=>?_) (fun c5=>?_)
   ·refine bk.inl trivial ?_
    rw [aJ h2 Bh2]
    all_goals exact fz
   ·refine bk.bif (fun c6=>?_) (fun c6=>?_)
    ·refine bk.bif (fun c7=>?_) (fun c7=>?_)
     ·refine bk.inl trivial ?_
      rw [aJ h2 Bh2]
      all_goals exact fz
     ·refine bk.bif (fun c8=>?_) (fun _=>bk.inr rfl)
      refine bk.bif (fun c9=>?_) (fun _=>bk.inr rfl)
      refine bk.bif (fun _=>bk.inr rfl) (fun c10=>?_)
      refine bk.inl trivial ?_
      rw [aJ h2 Bh2]
      all_goals exact fz
    ·refine bk.bif (fun c11=>?_) (fun _=>bk.inr rfl)
     refine bk.bif (fun c12=>?_) (fun _=>bk.inr rfl)
     refine bk.bif (fun _=>bk.inr rfl) (fun c13=>?_)
     refine bk.inl trivial ?_
     rw [aJ h2 Bh2]
     all_goals exact fz
  ·refine bk.bif (fun c14=>?_) (fun c14=>?_)
   ·refine bk.bif (fun c15=>?_) (fun c15=>?_)
    ·refine bk.inl trivial ?_
     rw [aJ h2 Bh2]
     all_goals exact fz
    ·refine bk.bif (fun c16=>?_) (fun _=>bk.inr rfl)
     refine bk.bif (fun c17=>?_) (fun _=>bk.inr rfl)
     refine bk.bif (fun _=>bk.inr rfl) (fun c18=>?_)
     refine bk.inl trivial ?_
     rw [aJ h2 Bh2]
     all_goals exact fz
   ·refine bk.bif (fun c19=>?_) (fun _=>bk.inr rfl)
    refine bk.bif (fun c20=>?_) (fun _=>bk.inr rfl)
    refine bk.bif (fun _=>bk.inr rfl) (fun c21=>?_)
    refine bk.inl trivial ?_
    rw [aJ h2 Bh2]
    all_goals exact fz
 ·simp only [step,SS]
  have:=H0
  refine cY (by apply decide_eq_false;omega) ?_
  refine cx (Z148.ak trivial) ?_
  refine ⟨0,?_⟩
  all_goals exact fz
def af:cq 125 aV:=L1 47 pid cQ cR live step start mix aD bp (.cons Z148.af .nil) Tryz.func125
def br (a0:aA):md a0=Z50.md a0:=by
 unfold md Z50.md
 by_cases hl:1<=a0.size/\a0.size<=8
 ·have e1:Z49.md (a0.size:Int) 1 8=true:=by simp [Z49.md];omega
  simp only [Z148.br,e1]
  have ew:i64.wrap ((a0.size:Int) - 1)=((a0.size - 1:Nat):Int):=by
   rw [Go.IntWalk.i64_in _ (by omega)];omega
  simp only [ew,cP]
  rw [Bool.eq_iff_iff]
  rw [jg (fun i=>(97<=eC a0 i/\eC a0 i<=122)∨(48<=eC a0 i/\eC a0 i<=57)∨(eC a0 i=45/\0<i/\i<a0.size - 1)) (fun i hi h=>by simp;grind) (fun i hi h=>by simp;grind)]
  have e2:=jg (n:=a0.size) (f:=fun (i4:Nat) (s6:Unit)=>(cond (decide ((eC a0 i4)<97)) (cond (decide ((eC a0 i4)<48)) (cond ((eC a0 i4) != 45) (.inr (false:Bool)) (.inl ())) (cond (decide ((eC a0 i4)>57)) (cond ((eC a0 i4) != 45) (.inr (false:Bool)) (.inl ())) (.inl ()))) (cond (decide ((eC a0 i4)>122)) (cond (decide ((eC a0 i4)<48)) (cond ((eC a0 i4) != 45) (.inr (false:Bool)) (.inl ())) (cond (decide ((eC a0 i4)>57)) (cond ((eC a0 i4) != 45) (.inr (false:Bool)) (.inl ())) (.inl ()))) (.inl ())))) (t:=fun _=>true)
   (fun i=>(97<=eC a0 i/\eC a0 i<=122)∨(48<=eC a0 i/\eC a0 i<=57)∨eC a0 i=45) (fun i hi h=>by simp;grind) (fun i hi h=>by simp;grind)
  have e3:∀b c d:Bool,(cond (!true) false (bif b then false else bif c then false else d))=true↔b=false/\c=false/\d=true:=by intro b c d;cases b<;>cases c<;>simp
  rw [e3,e2]
  simp only [beq_eq_false_iff_ne,ne_eq,and_true]
  constructor
  ·intro h
   refine ⟨fun h0=>?_,fun h0=>?_,fun i hi=>?_⟩
   ·have:=h 0 (by omega);omega
   ·have:=h (a0.size - 1) (by omega);omega
   ·have:=h i hi;omega
  ·intro ⟨h1,h2,h3⟩ i hi
   have:=h3 i hi
   by_cases h0:i=0
   ·subst h0;omega
   ·by_cases h9:i=a0.size - 1
    ·subst h9;omega
    ·omega
 ·have e1:Z49.md (a0.size:Int) 1 8=false:=by simp [Z49.md];omega
  simp only [Z148.br,e1]
  refine pe ?_ _ _ _
  intro i s b h
  revert h
  simp only [Bool.cond_eq_ite]
  repeat' split
  all_goals (intro h;first | (cases h;rfl) | cases h)
end Z149
namespace Z150
def F (x0:aA):aH:=(call (Z149.R x0) fun v1=>ret ((!v1):Bool))
def md (a0:aA):Bool:=((!(Z149.md a0)):Bool)
def gd (a0:aA):Prop:=(a0.size<=(2^22))
def R:=RR gd md
def ak {a0}(h:gd a0):R a0=some (md a0):=aM (a:=a0) h
def aV:=CN [pS] oB RT.dec R
def bp (a0)(hg:gd a0):F a0=ret (md a0):=by
 unfold gd at hg
 have H0:=hg
 unfold F md
 try simp only [SS]
 refine ct (Z149.ak H0) ?_
 all_goals exact fz
def af:cq 188 aV:=W1 6 F mix aD bp (.cons Z149.af .nil) Tryz.func188
end Z150
namespace Z151
inductive Pt where
 | p0 (a:aF) (b c:Int)
def pid:Pt->Nat
 | .p0 ..=>2
def cQ:Pt->List V
 | .p0 a b c=>[.sl none 9 a,.fn 188 [],.int .i64 b,.int .i64 c]
def cR:Pt->List aS
 | .p0 a b c=>[]
def step (J:Pt->aH):Pt->aH
 | .p0 a b c=>(cond (decide (c<b)) (m2 c (a.length:Int) (call (Z150.R (pW a (toNat c))) fun v1=>(cond v1 (ret (c:Int)) (J (.p0 a b (i64.wrap (c+1))))))) (ret ((-1):Int)))
def start (J:Pt->aH)(x0:aF):aH:=J (.p0 x0 (x0.length:Int) 0)
def live:Nat->Live:=fun i=>match i with | 2=>[(0,none),(1,none),(7,none),(8,none)] | _=>[]
def pats:List gF:=[.rd (.sl 9),.fn 188 []]
def res:RP:=.one (.rd (.int .i64))
abbrev E:Env:={ T:=assoc rE,G:=dP [(188,Z150.aV)],nt:=19 }
def step_eq (I:dH)(p:Pt):dU E live I (pid p) (ck Tryz.f241) (ij (live (pid p)) (cQ p) (cR p)) (dD E Tryz.f241 res)=step (fun q=>I (pid q) (cQ q) (cR q)) p:=by
 cases p<;>kernel_rfl
def start_eq (I:dH)(ls:List L):gn E live I (ck Tryz.f241) (dO pats ls) (dD E Tryz.f241 res)=start (fun q=>I (pid q) (cQ q) (cR q)) (ls.headD .hole).aY:=by kernel_rfl
def run_eq (n:Nat)(ls:List L):fY E live Tryz.f241 res n (dO pats ls)=start (iter step n) (ls.headD .hole).aY:=dL (id:=pid) (vs:=cQ) (hs:=cR) (step:=step) (start:=fun J=>start J (ls.headD .hole).aY) step_eq (fun I=>start_eq I ls) n
def md (a0:List aA):Int:=(dF (S:=Unit) (β:=Int) (fun (i1:Nat) (y1:aA) (s3:Unit)=>(cond (Z150.md y1) (.inr ((i1:Int):Int)) (.inl ()))) (fun (s3:Unit)=>((-1):Int)) 0 a0 ())
def gd (a0:List aA):Prop:=(bI (2^22) (fun y:aA=>y.size<=(2^22)) a0)
def acc (ls:List L):aF:=(ls.headD .hole).aY
def R:(aF)->Option Int:=RR gd md
def ak {a0}(h:gd a0):R (a0.map cL)=some (md a0):=aM (a:=a0) h
def aV:gy:=CN pats res acc R
def bp (a0:List aA)(hg:gd a0):∃n,start (iter step n) (a0.map cL)=ret ((md a0):Int):=by
 unfold gd at hg
 have H0:=hg
 unfold start md
 try simp only [SS]
 have Bh2:a0.length<=maxLen:=(by
   have:=(H0).1
   try simp only [maxLen] at *
   omega)
 refine ex_eq (out:=ret) (cH (z:=⟨#[]⟩)) ?_
 refine dG (p:=Pt.p0 (a0.map cL) (a0.length:Int) 0) fz ?_
 refine bU (pt:=fun (i1:Nat) (s3:Unit)=>Pt.p0 (a0.map cL) (a0.length:Int) (i1:Int)) (s:=(():Unit)) (out:=ret) (fun _ _=>True) (fun J i1 s3 h2 hih2=>?_) (fun s3 hih2=>?_) trivial
 ·simp only [step,SS]
  have bb_:=Bh2
  simp only [maxLen] at bb_
  have:=(H0).1
  refine bk.yes (by apply decide_eq_true;omega) ?_
  refine bk.yes bE ?_
  refine bk.yes (bM h2) ?_
  refine cr (Z150.ak (bI.getD (z:=⟨#[]⟩) H0 h2)) ?_
  refine bk.bif (fun c4=>?_) (fun c4=>?_)
  ·refine bk.inr ?_
   all_goals exact fz
  ·refine bk.inl trivial ?_
   rw [aJ h2 Bh2]
   all_goals exact fz
 ·simp only [step,SS]
  have:=(H0).1
  refine cY (by apply decide_eq_false;omega) ?_
  refine ⟨0,?_⟩
  all_goals exact fz
def af:cq 241 aV:=VV (run:=fun n x=>start (iter step n) x) mix aD (.cons Z150.af .nil) Tryz.func241 (by kernel_rfl) run_eq (fun _ a _ _ hg=>bp a hg)
def fa (a0:List aA):-1<=md a0/\md a0<(a0.length:Int):=by
 unfold md
 refine fF ?_ _ _
 all_goals
  intro i x s b h
  revert h
  simp only [Bool.cond_eq_ite]
  repeat' split
  all_goals (intro h;first | (cases h;rfl) | cases h)
def idx_eq (a0:List aA):md a0=iF (fun y=>Z150.md y) 0 a0:=by
 unfold md
 exact gv
end Z151
namespace Z152
def F (x0:aF):aH:=(call (Z151.R x0) fun v1=>ret ((decide (v1>=0)):Bool))
def pats:List gF:=[.rd (.sl 9),.fn 188 []]
def res:RP:=.one (.rd (.bool))
def md (a0:List aA):Bool:=((decide ((Z151.md a0)>=0)):Bool)
def gd (a0:List aA):Prop:=(bI (2^22) (fun y:aA=>y.size<=(2^22)) a0)
def acc (ls:List L):aF:=(ls.headD .hole).aY
def R:(aF)->Option Bool:=RR gd md
def ak {a0}(h:gd a0):R (a0.map cL)=some (md a0):=aM (a:=a0) h
def aV:gy:=CN pats res acc R
def bp (a0:List aA)(hg:gd a0):F (a0.map cL)=ret ((md a0):Bool):=by
 unfold gd at hg
 have H0:=hg
 unfold F md
 try simp only [SS]
 refine ct (Z151.ak H0) ?_
 have fv1_:=Z151.fa a0
 all_goals exact fz
def af:cq 187 aV:=VV (live:=fun _=>[]) (nt:=9) (run:=fun _ x=>F x) mix aD (.cons Z151.af .nil) Tryz.func187 (by kernel_rfl) (fun _ _=>by kernel_rfl) (fun _ a _ _ hg=>⟨0,bp a hg⟩)
def any_eq (a0:List aA):md a0=a0.any (fun y=>Z150.md y):=by
 unfold md
 rw [Z151.idx_eq]
 exact qv
end Z152
namespace Z153
def F (x0:aF):aH:=(call (Z148.R ((x0.length:Int),1,4)) fun v1=>(cond v1 (call (Z152.R x0) fun v2=>ret ((!v2):Bool)) bf))
def md (a0:List aA):Bool:=(cond (Z148.md (a0.length:Int) 1 4) ((!(Z152.md a0)):Bool) (false:Bool))
def gd (a0:List aA):Prop:=(bI (2^22) (fun y:aA=>y.size<=(2^22)) a0)
def R:=RR gd md
def ak {a0}(h:gd a0):R (a0.map cL)=some (md a0):=aM (a:=a0) h
def aV:=CN [pL 9] oB RT.dec R
def bp (a0)(hg:gd a0):F (a0.map cL)=ret (md a0):=by
 unfold gd at hg
 have H0:=hg
 unfold F md
 try simp only [SS]
 refine ct (Z148.ak trivial) ?_
 refine aq ret (fun c1=>?_) (fun _=>rfl)
 refine ct (Z152.ak H0) ?_
 all_goals exact fz
def af:cq 144 aV:=W1 11 F mix aD bp (.cons Z148.af (.cons Z152.af .nil)) Tryz.func144
def br (a0:List aA):md a0=Z51.md a0:=by
 unfold md Z51.md
 rw [Z152.any_eq]
 have e:=mo (p:=fun y=>!(Z50.md y)) (b:=false) (c:=Z49.md (a0.length:Int) 1 4) (xs:=a0) (s:=())
 refine Eq.trans ?_ e.symm
 simp only [Z150.md,Z149.br,Z148.br]
 cases a0.any (fun y=>!(Z50.md y))<;>cases Z49.md (a0.length:Int) 1 4<;>rfl
end Z153
namespace Z154
def F (x0:bV)(x1 x2:List L):aH:=(cond (x0.bw==(fH x1)) (ret ((x0.aQ==(sDec x2)):Bool)) bf)
def pats:List gF:=[.agg [au,.str,.sl 178,.bool,.str,au,au,.sl 9,au,.sl 3,au,.str,au,au,.sl 9,.str,au,au,.sl 9,au,.sl 3,au,.sl 3],.ptr [au],.ptr [.str]]
def res:RP:=.one (.rd (.bool))
def md (a0:aC)(a1:Int)(a2:aA):Bool:=(cond (a0.bw==a1) ((a0.aQ==a2):Bool) (false:Bool))
def gd (a0:aC)(a1:Int)(a2:aA):Prop:=True
def acc (ls:List L):bV×Int×aA:=((bV.dec ls),(fH (cm 1 (av 23 ls))),(sDec (cm 1 (av 24 ls))))
def R:(bV×Int×aA)->Option Bool:=RR (p3 gd) (u3 md)
def ak {a0 a1 a2}(h:gd a0 a1 a2):R ((aC.r a0),a1,a2)=some (md a0 a1 a2):=aM (a:=(a0,a1,a2)) h
def aV:gy:=CN pats res acc R
def bp (a0:aC)(a1:Int)(a2:aA)(p1 p2:List L)(e1:a1=(fH p1))(e2:a2=(sDec p2))(hg:gd a0 a1 a2):F (aC.r a0) p1 p2=ret ((md a0 a1 a2):Bool):=by
 unfold F md
 try simp only [SS,<-e1,<-e2]
 refine aq ret (fun c1=>?_) (fun _=>rfl)
 all_goals exact fz
def nu (ls:List L)(a:aC×Int×aA)(e:acc ls=Im.im a)(hg:(p3 gd) a):∃n:Nat,F (bV.dec ls) (cm 1 (av 23 ls)) (cm 1 (av 24 ls))=ret (Im.im ((u3 md) a)):=by
 have e0:(aC.r a.1)=(bV.dec ls):=(congrArg (fun x=>x.1) e.symm)
 have hn:=bp a.1 a.2.1 a.2.2 (cm 1 (av 23 ls)) (cm 1 (av 24 ls)) (congrArg (fun x=>x.2.1) e.symm) (congrArg (fun x=>x.2.2) e.symm) hg
 refine ⟨0,?_⟩
 rw [<-e0]
 exact hn
def af:cq 190 aV:=VP (live:=fun _=>[]) (nt:=15) (accr:=fun ls=>((bV.dec ls),(cm 1 (av 23 ls)),(cm 1 (av 24 ls)))) (run:=fun _ x=>F x.1 x.2.1 x.2.2) mix aD .nil Tryz.func190 (by kernel_rfl) (fun _ _=>by kernel_rfl) (fun ls a _ e hg=>nu ls a e hg)
end Z154
namespace Z155
inductive Pt where
 | p0 (a:aF) (b c:List L) (d e:Int)
def pid:Pt->Nat
 | .p0 ..=>2
def cQ:Pt->List V
 | .p0 a b c d e=>[.sl none 148 a,.fn 190 [.dc none [au] b 0,.dc none [.str] c 0],.int .i64 d,.int .i64 e]
def cR:Pt->List aS
 | .p0 a b c d e=>[]
def step (J:Pt->aH):Pt->aH
 | .p0 a b c d e=>(cond (decide (e<d)) (m2 e (a.length:Int) (call (Z154.R ((bV.at a (toNat e)),(fH b),(sDec c))) fun v1=>(cond v1 (ret (e:Int)) (J (.p0 a b c d (i64.wrap (e+1))))))) (ret ((-1):Int)))
def start (J:Pt->aH)(x0:aF)(x1 x2:List L):aH:=J (.p0 x0 x1 x2 (x0.length:Int) 0)
def live:Nat->Live:=fun i=>match i with | 2=>[(0,none),(1,none),(7,none),(8,none)] | _=>[]
def pats:List gF:=[.rd (.sl 148),.fn 190 [[au],[.str]]]
def res:RP:=.one (.rd (.int .i64))
abbrev E:Env:={ T:=assoc rE,G:=dP [(190,Z154.aV)],nt:=19 }
def step_eq (I:dH)(p:Pt):dU E live I (pid p) (ck Tryz.f155) (ij (live (pid p)) (cQ p) (cR p)) (dD E Tryz.f155 res)=step (fun q=>I (pid q) (cQ q) (cR q)) p:=by
 cases p<;>kernel_rfl
def start_eq (I:dH)(ls:List L):gn E live I (ck Tryz.f155) (dO pats ls) (dD E Tryz.f155 res)=start (fun q=>I (pid q) (cQ q) (cR q)) (ls.headD .hole).aY (cm 1 (av 1 ls)) (cm 1 (av 2 ls)):=by kernel_rfl
def run_eq (n:Nat)(ls:List L):fY E live Tryz.f155 res n (dO pats ls)=start (iter step n) (ls.headD .hole).aY (cm 1 (av 1 ls)) (cm 1 (av 2 ls)):=dL (id:=pid) (vs:=cQ) (hs:=cR) (step:=step) (start:=fun J=>start J (ls.headD .hole).aY (cm 1 (av 1 ls)) (cm 1 (av 2 ls))) step_eq (fun I=>start_eq I ls) n
def md (a0:List aC)(a1:Int)(a2:aA):Int:=(dF (S:=Unit) (β:=Int) (fun (i1:Nat) (y1:aC) (s3:Unit)=>(cond (Z154.md y1 a1 a2) (.inr ((i1:Int):Int)) (.inl ()))) (fun (s3:Unit)=>((-1):Int)) 0 a0 ())
def gd (a0:List aC)(a1:Int)(a2:aA):Prop:=(bI (2^21) (fun y:aC=>aC.Sm (2^21) y) a0)
def acc (ls:List L):aF×Int×aA:=((ls.headD .hole).aY,(fH (cm 1 (av 1 ls))),(sDec (cm 1 (av 2 ls))))
def R:(aF×Int×aA)->Option Int:=RR (p3 gd) (u3 md)
def ak {a0 a1 a2}(h:gd a0 a1 a2):R ((a0.map aC.row),a1,a2)=some (md a0 a1 a2):=aM (a:=(a0,a1,a2)) h
def aV:gy:=CN pats res acc R
def bp (a0:List aC)(a1:Int)(a2:aA)(p1 p2:List L)(e1:a1=(fH p1))(e2:a2=(sDec p2))(hg:gd a0 a1 a2):∃n,start (iter step n) (a0.map aC.row) p1 p2=ret ((md a0 a1 a2):Int):=by
 unfold gd at hg
 have H0:=hg
 unfold start md
 try simp only [SS,<-e1,<-e2]
 have Bh2:a0.length<=maxLen:=(by
   have:=(H0).1
   try simp only [maxLen] at *
   omega)
 refine ex_eq (out:=ret) (cH (z:=aC.zero)) ?_
 refine dG (p:=Pt.p0 (a0.map aC.row) p1 p2 (a0.length:Int) 0) fz ?_
 refine bU (pt:=fun (i1:Nat) (s3:Unit)=>Pt.p0 (a0.map aC.row) p1 p2 (a0.length:Int) (i1:Int)) (s:=(():Unit)) (out:=ret) (fun _ _=>True) (fun J i1 s3 h2 hih2=>?_) (fun s3 hih2=>?_) trivial
 ·simp only [step,SS,<-e1,<-e2]
  have bb_:=Bh2
  simp only [maxLen] at bb_
  have:=(H0).1
  refine bk.yes (by apply decide_eq_true;omega) ?_
  refine bk.yes bE ?_
  refine bk.yes (bM h2) ?_
  refine cr (Z154.ak trivial) ?_
  refine bk.bif (fun c4=>?_) (fun c4=>?_)
  ·refine bk.inr ?_
   all_goals exact fz
  ·refine bk.inl trivial ?_
   rw [aJ h2 Bh2]
   all_goals exact fz
 ·simp only [step,SS,<-e1,<-e2]
  have:=(H0).1
  refine cY (by apply decide_eq_false;omega) ?_
  refine ⟨0,?_⟩
  all_goals exact fz
def nu (ls:List L)(a:List aC×Int×aA)(e:acc ls=Im.im a)(hg:(p3 gd) a):∃n:Nat,start (iter step n) ((ls.headD .hole).aY) (cm 1 (av 1 ls)) (cm 1 (av 2 ls))=ret (Im.im ((u3 md) a)):=by
 have e0:(a.1.map aC.row)=(ls.headD .hole).aY:=(congrArg (fun x=>x.1) e.symm)
 obtain ⟨n,hn⟩:=bp a.1 a.2.1 a.2.2 (cm 1 (av 1 ls)) (cm 1 (av 2 ls)) (congrArg (fun x=>x.2.1) e.symm) (congrArg (fun x=>x.2.2) e.symm) hg
 refine ⟨n,?_⟩
 rw [<-e0]
 exact hn
def af:cq 155 aV:=VP (accr:=fun ls=>((ls.headD .hole).aY,(cm 1 (av 1 ls)),(cm 1 (av 2 ls)))) (run:=fun n x=>start (iter step n) x.1 x.2.1 x.2.2) mix aD (.cons Z154.af .nil) Tryz.func155 (by kernel_rfl) run_eq (fun ls a _ e hg=>nu ls a e hg)
def fa (a0:List aC)(a1:Int)(a2:aA):-1<=md a0 a1 a2/\md a0 a1 a2<(a0.length:Int):=by
 unfold md
 refine fF ?_ _ _
 all_goals
  intro i x s b h
  revert h
  simp only [Bool.cond_eq_ite]
  repeat' split
  all_goals (intro h;first | (cases h;rfl) | cases h)
def idx_eq (a0:List aC)(a1:Int)(a2:aA):md a0 a1 a2=iF (fun y=>Z154.md y a1 a2) 0 a0:=by
 unfold md
 exact gv
end Z155
namespace Z156
def F (x0:bR)(x1:Int)(x2:aA):aH:=(call (Z155.R (x0.aU,x1,x2)) fun v1=>ret (v1:Int))
def md (a0:aG)(a1:Int)(a2:aA):Int:=((Z155.md a0.aU a1 a2):Int)
def gd (a0:aG)(a1:Int)(a2:aA):Prop:=(aG.Sm (2^21) a0)
def R:=RR (p3 gd) (u3 md)
def ak {a0 a1 a2}(h:gd a0 a1 a2):R ((aG.r a0),a1,a2)=some (md a0 a1 a2):=aM (a:=(a0,a1,a2)) h
def aV:=CN [.agg vH,pI,pS] oI RT.dec R
def bp (a0)(a1)(a2)(hg:gd a0 a1 a2):F (aG.r a0) a1 a2=ret (md a0 a1 a2):=by
 unfold gd at hg
 have H0:=hg
 unfold F md
 try simp only [SS]
 refine ct (Z155.ak H0) ?_
 have fv1_:=Z155.fa a0.aU a1 a2
 all_goals exact fz
def af:cq 146 aV:=W3 11 F mix aD bp (.cons Z155.af .nil) Tryz.func146
def fa (a0:aG)(a1:Int)(a2:aA):-1<=md a0 a1 a2/\md a0 a1 a2<(a0.aU.length:Int):=by unfold md;exact Z155.fa _ _ _
def br (a0:aG)(a1:Int)(a2:aA):md a0 a1 a2=Z52.md a0 a1 a2:=by
 unfold md Z52.md
 rw [Z155.idx_eq]
 symm
 refine jA (fun i x s=>?_) _ _ _
 unfold Z154.md
 cases x.bw==a1<;>cases x.aQ==a2<;>rfl
end Z156
namespace Z157
def F (x0:bR)(x1:Int)(x2:aA):aH:=(call (Z156.R (x0,x1,x2)) fun v1=>(cond (decide (v1<0)) (ret ((⟨[],false,(⟨(⟨#[]⟩:aA),0,0,[]⟩:aW),(⟨0,[]⟩:bH),(⟨0,(⟨(⟨#[]⟩:aA),0,0,[]⟩:aW),(⟨(⟨#[]⟩:aA),0,0,[]⟩:aW),(⟨0,[]⟩:bH),(⟨0,[]⟩:bH)⟩:dm)⟩:aO):aO)) (m2 v1 (x0.aU.length:Int) (call (Z143.R ((bV.at x0.aU (toNat v1)).cC)) fun v2=>ret (v2:aO)))))
def md (a0:aG)(a1:Int)(a2:aA):aj:=(cond (decide ((Z156.md a0 a1 a2)<0)) (⟨[],false,(⟨((⟨#[]⟩:aA):aA),0,0,[]⟩:ah),(⟨0,[]⟩:aB),(⟨0,(⟨((⟨#[]⟩:aA):aA),0,0,[]⟩:ah),(⟨((⟨#[]⟩:aA):aA),0,0,[]⟩:ah),(⟨0,[]⟩:aB),(⟨0,[]⟩:aB)⟩:bG)⟩:aj) ((a0.aU.getD (toNat (Z156.md a0 a1 a2)) aC.zero).cC))
def gd (a0:aG)(a1:Int)(a2:aA):Prop:=(aG.Sm (2^21) a0)
def R:=RR (p3 gd) (u3 md)
def ak {a0 a1 a2}(h:gd a0 a1 a2):R ((aG.r a0),a1,a2)=some (aj.r (md a0 a1 a2)):=aM (a:=(a0,a1,a2)) h
def aV:=CN [.agg vH,pI,pS] (.agg f126) RT.dec R
def bp (a0)(a1)(a2)(hg:gd a0 a1 a2):F (aG.r a0) a1 a2=ret (aj.r (md a0 a1 a2)):=by
 unfold gd at hg
 have H0:=hg
 unfold F md
 try simp only [SS]
 refine ct (Z156.ak H0) ?_
 have fv1_:=Z156.fa a0 a1 a2
 refine aq (fun b:aj=>ret ((aj.r b):aO)) (fun c1=>?_) (fun c1=>?_)
 ·all_goals exact fz
 ·have dc1:=c1
  try simp only [DC] at dc1
  refine aN dt ?_
  refine aN (have:=(H0).1;dt) ?_
  refine ct (Z143.ak (bI.getD (z:=aC.zero) H0 (by first | assumption | omega | (simp (disch:=omega) only [wi];omega) | (simp;omega))).2) ?_
  try simp only [SS]
  all_goals exact fz
def af:cq 97 aV:=W3 22 F mix aD bp (.cons Z156.af (.cons Z143.af .nil)) Tryz.func97
def br (a0:aG)(a1:Int)(a2:aA):md a0 a1 a2=Z53.md a0 a1 a2:=by
 unfold md Z53.md
 first
 | (simp only [Z156.br];done)
 | (simp only [Z156.br];rfl)
 | rfl
end Z157
namespace Z158
def F (x0:Int):aH:=(call (Z148.R (x0,0,2147483646)) fun v1=>ret (v1:Bool))
def md (a0:Int):Bool:=((Z148.md a0 0 2147483646):Bool)
def gd (a0:Int):Prop:=True
def R:=RR gd md
def ak {a0}(h:gd a0):R a0=some (md a0):=aM (a:=a0) h
def aV:=CN [pI] oB RT.dec R
def bp (a0)(hg:gd a0):F a0=ret (md a0):=by
 unfold F md
 try simp only [SS]
 refine ct (Z148.ak trivial) ?_
 all_goals exact fz
def af:cq 126 aV:=W1 5 F mix aD bp (.cons Z148.af .nil) Tryz.func126
end Z158
namespace Z159
def F (x0:bW):aH:=(cond (decide (x0.cE>=0)) (cond (decide (x0.cE<=x0.cD)) (cond (decide (x0.cD<=100000)) (ret ((decide ((i64.wrap (x0.cD - x0.cE))<=200)):Bool)) bf) bf) bf)
def md (a0:aE):Bool:=(cond (decide (a0.cE>=0)) (cond (decide (a0.cE<=a0.cD)) (cond (decide (a0.cD<=100000)) ((decide ((i64.wrap (a0.cD - a0.cE))<=200)):Bool) (false:Bool)) (false:Bool)) (false:Bool))
def gd (a0:aE):Prop:=True
def R:=RR gd md
def ak {a0}(h:gd a0):R (aE.r a0)=some (md a0):=aM (a:=a0) h
def aV:=CN [.agg fV] oB RT.dec R
def bp (a0)(hg:gd a0):F (aE.r a0)=ret (md a0):=by
 unfold F md
 try simp only [SS]
 refine aq ret (fun c1=>?_) (fun _=>rfl)
 refine aq ret (fun c2=>?_) (fun _=>rfl)
 refine aq ret (fun c3=>?_) (fun _=>rfl)
 all_goals exact fz
def af:cq 359 aV:=W1 26 F mix aD bp .nil Tryz.func359
end Z159
namespace Z160
inductive Pt where
 | p0 (a:aF) (b c:Int)
def pid:Pt->Nat
 | .p0 ..=>2
def cQ:Pt->List V
 | .p0 a b c=>[.sl none 3 a,.int .i64 b,.int .i64 c]
def cR:Pt->List aS
 | .p0 a b c=>[]
def step (J:Pt->aH):Pt->aH
 | .p0 a b c=>(cond (decide (c<b)) (cond (decide (c>0)) (m2 c (a.length:Int) (cK (decide ((0:Int)<=(i64.wrap (c - 1)))) (cK (decide ((i64.wrap (c - 1))<(a.length:Int))) (cond (decide ((jo a (toNat c))<=(jo a (toNat (i64.wrap (c - 1)))))) bf (J (.p0 a b (i64.wrap (c+1)))))))) (J (.p0 a b (i64.wrap (c+1))))) eG)
def start (J:Pt->aH)(x0:aF):aH:=J (.p0 x0 (x0.length:Int) 0)
def live:Nat->Live:=fun i=>match i with | 2=>[(0,none),(5,none),(6,none)] | _=>[]
def md (a0:List Int):Bool:=(dF (S:=Unit) (β:=Bool) (fun (i1:Nat) (y1:Int) (s3:Unit)=>(cond (decide ((i1:Int)>0)) (cond (decide (y1<=(a0.getD (toNat (i64.wrap ((i1:Int) - 1))) 0))) (.inr (false:Bool)) (.inl ())) (.inl ()))) (fun (s3:Unit)=>(true:Bool)) 0 a0 ())
def gd (a0:List Int):Prop:=(bI (2^38) (fun y:Int=>True) a0)
def R:=RR gd md
def ak {a0}(h:gd a0):R (a0.map bn)=some (md a0):=aM (a:=a0) h
def aV:=CN [pL 3] oB RT.dec R
def bp (a0)(hg:gd a0):∃n,start (iter step n) (a0.map bn)=ret (md a0):=by
 unfold gd at hg
 have H0:=hg
 unfold start md
 try simp only [SS]
 have Bh2:a0.length<=maxLen:=(by
   have:=(H0).1
   try simp only [maxLen] at *
   omega)
 refine ex_eq (out:=ret) (cH (z:=0)) ?_
 refine dG (p:=Pt.p0 (a0.map bn) (a0.length:Int) 0) fz ?_
 refine bU (pt:=fun (i1:Nat) (s3:Unit)=>Pt.p0 (a0.map bn) (a0.length:Int) (i1:Int)) (s:=(():Unit)) (out:=ret) (fun _ _=>True) (fun J i1 s3 h2 hih2=>?_) (fun s3 hih2=>?_) trivial
 ·simp only [step,SS]
  have bb_:=Bh2
  simp only [maxLen] at bb_
  have:=(H0).1
  refine bk.yes (by apply decide_eq_true;omega) ?_
  refine bk.bif (fun c4=>?_) (fun c4=>?_)
  ·have dc4:=c4
   try simp only [DC] at dc4
   refine bk.yes bE ?_
   refine bk.yes (bM h2) ?_
   refine bk.yes dt ?_
   refine bk.yes (have:=(H0).1;dt) ?_
   refine bk.bif (fun _=>bk.inr rfl) (fun c5=>?_)
   refine bk.inl trivial ?_
   rw [aJ h2 Bh2]
   all_goals exact fz
  ·refine bk.inl trivial ?_
   rw [aJ h2 Bh2]
   all_goals exact fz
 ·simp only [step,SS]
  have:=(H0).1
  refine cY (by apply decide_eq_false;omega) ?_
  refine ⟨0,?_⟩
  all_goals exact fz
def af:cq 388 aV:=L1 24 pid cQ cR live step start mix aD bp .nil Tryz.func388
end Z160
namespace Z161
def F (x0:Int):aH:=(call (Z148.R (x0,1,99)) fun v1=>ret (v1:Bool))
def md (a0:Int):Bool:=((Z148.md a0 1 99):Bool)
def gd (a0:Int):Prop:=True
def R:=RR gd md
def ak {a0}(h:gd a0):R a0=some (md a0):=aM (a:=a0) h
def aV:=CN [pI] oB RT.dec R
def bp (a0)(hg:gd a0):F a0=ret (md a0):=by
 unfold F md
 try simp only [SS]
 refine ct (Z148.ak trivial) ?_
 all_goals exact fz
def af:cq 389 aV:=W1 5 F mix aD bp (.cons Z148.af .nil) Tryz.func389
end Z161
namespace Z162
def F (x0:bC):aH:=(call (Z148.R ((x0.aU.length:Int),1,4)) fun v1=>(cond v1 (call (Z160.R x0.aU) fun v2=>(cond v2 (cK (decide ((0:Int)<(x0.aU.length:Int))) (call (Z161.R (jo x0.aU 0)) fun v3=>(cond v3 (cK (decide ((0:Int)<=(i64.wrap ((x0.aU.length:Int) - 1)))) (cK (decide ((i64.wrap ((x0.aU.length:Int) - 1))<(x0.aU.length:Int))) (call (Z161.R (jo x0.aU (toNat (i64.wrap ((x0.aU.length:Int) - 1))))) fun v4=>(cond v4 (call (Z148.R (x0.cV,1,(x0.aU.length:Int))) fun v5=>ret (v5:Bool)) bf)))) bf))) bf)) bf))
def md (a0:aL):Bool:=(cond (Z148.md (a0.aU.length:Int) 1 4) (cond (Z160.md a0.aU) (cond (Z161.md (a0.aU.getD 0 0)) (cond (Z161.md (a0.aU.getD (toNat (i64.wrap ((a0.aU.length:Int) - 1))) 0)) ((Z148.md a0.cV 1 (a0.aU.length:Int)):Bool) (false:Bool)) (false:Bool)) (false:Bool)) (false:Bool))
def gd (a0:aL):Prop:=(aL.Sm (2^21) a0)
def R:=RR gd md
def ak {a0}(h:gd a0):R (aL.r a0)=some (md a0):=aM (a:=a0) h
def aV:=CN [.agg iT] oB RT.dec R
def bp (a0)(hg:gd a0):F (aL.r a0)=ret (md a0):=by
 unfold gd at hg
 have H0:=hg
 unfold F md
 try simp only [SS]
 refine ct (Z148.ak trivial) ?_
 refine aq ret (fun c1=>?_) (fun _=>rfl)
 have Dc1:=c1
 try simp [Z148.md] at Dc1
 refine ct (Z160.ak (H0.mono (by decide) (fun x hx=>trivial))) ?_
 refine aq ret (fun c2=>?_) (fun _=>rfl)
 refine aN (have:=(H0).1;dt) ?_
 refine ct (Z161.ak trivial) ?_
 refine aq ret (fun c3=>?_) (fun _=>rfl)
 refine aN (have:=(H0).1;dt) ?_
 refine aN (have:=(H0).1;dt) ?_
 refine ct (Z161.ak trivial) ?_
 refine aq ret (fun c4=>?_) (fun _=>rfl)
 refine ct (Z148.ak trivial) ?_
 all_goals exact fz
def af:cq 360 aV:=W1 38 F mix aD bp (.cons Z148.af (.cons Z160.af (.cons Z161.af .nil))) Tryz.func360
def B5 {l:List Int}(h:∀i:Nat,i<l.length->0<i->l.getD (i - 1) 0<l.getD i 0):∀(k i:Nat),i+k<l.length->l.getD i 0<=l.getD (i+k) 0
 | 0,i,_=>Int.le_refl _
 | k+1,i,hi=>by
  have h1:=B5 h k i (by omega)
  have h2:=h (i+(k+1)) hi (by omega)
  rw [show i+(k+1) - 1=i+k by omega] at h2
  omega
def br (a0:aL):md a0=Z54.md a0:=by
 unfold md Z54.md Z160.md
 simp only [Z148.br,Z161.md]
 by_cases hl:1<=a0.aU.length/\a0.aU.length<=4
 ·have e1:Z49.md (a0.aU.length:Int) 1 4=true:=by simp [Z49.md];omega
  rw [e1]
  have wp:∀i:Nat,0<i->i<=4->toNat (i64.wrap ((i:Int) - 1))=i - 1:=fun i h1 h2=>by
   rw [Go.IntWalk.i64_in _ (by omega)];omega
  rw [wp _ (by omega) (by omega)]
  generalize a0.cV=n
  generalize a0.aU=l at *
  have i1:∀x a b:Int,Z49.md x a b=true↔a<=x/\x<=b:=fun x a b=>by simp [Z49.md]
  have i2:∀x a b:Int,Z49.md x a b=false↔¬(a<=x/\x<=b):=fun x a b=>by rw [<-i1];simp
  have w2:∀i:Nat,i<l.length->0<i->toNat (i64.wrap ((i:Int) - 1))=i - 1:=fun i h1 h2=>wp i h2 (by omega)
  rw [Bool.eq_iff_iff,<-cH (z:=0),<-cH (z:=0)]
  have e3:∀a b c d:Bool,(cond true (cond a (cond b (cond c d false) false) false) false)=true↔a=true/\b=true/\c=true/\d=true:=by
   intro a b c d;cases a<;>cases b<;>cases c<;>simp
  have pos:∀i:Nat,0<i->decide ((i:Int)>0)=true:=fun i h=>by simpa using h
  have npos:∀i:Nat,¬0<i->decide ((i:Int)>0)=false:=fun i h=>by simpa using h
  rw [e3]
  rw [jg (fun i=>0<i->l.getD (i - 1) 0<l.getD i 0) (fun i hi h=>?_) (fun i hi h=>?_),jg (fun i=>(1<=l.getD i 0/\l.getD i 0<=99)/\(0<i->l.getD (i - 1) 0<l.getD i 0)) (fun i hi h=>?_) (fun i hi h=>?_)]
  ·simp only [i1,and_true,aZ]
   constructor
   ·rintro ⟨h1,⟨h2,h3⟩,⟨h4,h5⟩,h6⟩
    refine ⟨fun i hi=>⟨⟨?_,?_⟩,h1 i hi⟩,h6⟩
    ·have:=B5 h1 i 0 (by omega)
     rw [Nat.zero_add] at this;omega
    ·have:=B5 h1 (l.length - 1 - i) i (by omega)
     rw [show i+(l.length - 1 - i)=l.length - 1 by omega] at this;omega
   ·rintro ⟨h1,h6⟩
    exact ⟨fun i hi=>(h1 i hi).2,(h1 0 (by omega)).1,(h1 (l.length - 1) (by omega)).1,h6⟩
  ·have e2:=(i1 (l.getD i 0) 1 99).2 h.1
   rw [e2]
   by_cases h0:0<i
   ·have:=h.2 h0
    rw [pos i h0,w2 i hi h0,decide_eq_false (by omega)];rfl
   ·rw [npos i h0];rfl
  ·by_cases h1:1<=l.getD i 0/\l.getD i 0<=99
   ·have e2:=(i1 (l.getD i 0) 1 99).2 h1
    have h0:0<i:=Classical.byContradiction fun hc=>h ⟨h1,fun h=>(hc h).elim⟩
    have h2:¬l.getD (i - 1) 0<l.getD i 0:=fun hc=>h ⟨h1,fun _=>hc⟩
    rw [e2,pos i h0,w2 i hi h0,decide_eq_true (by omega)];rfl
   ·rw [(i2 _ _ _).2 h1];rfl
  ·by_cases h0:0<i
   ·have:=h h0
    rw [pos i h0,w2 i hi h0,decide_eq_false (by omega)];rfl
   ·rw [npos i h0];rfl
  ·have h0:0<i:=Classical.byContradiction fun hc=>h fun h=>(hc h).elim
   have h2:¬l.getD (i - 1) 0<l.getD i 0:=fun hc=>h fun _=>hc
   rw [pos i h0,w2 i hi h0,decide_eq_true (by omega)];rfl
 ·have e1:Z49.md (a0.aU.length:Int) 1 4=false:=by simp [Z49.md];omega
  rw [e1]
  simp only [bh]
  symm
  exact kX (by
   intro i x s b h
   revert h
   simp only [Bool.cond_eq_ite]
   repeat' split
   all_goals (intro h;first | (cases h;rfl) | cases h)) _ _ _
end Z162
namespace Z163
def F (x0:bC):aH:=(cond (x0.cV==0) (ret (((x0.aU.length:Int)==0):Bool)) bf)
def md (a0:aL):Bool:=(cond (a0.cV==0) (((a0.aU.length:Int)==0):Bool) (false:Bool))
def gd (a0:aL):Prop:=True
def R:=RR gd md
def ak {a0}(h:gd a0):R (aL.r a0)=some (md a0):=aM (a:=a0) h
def aV:=CN [.agg iT] oB RT.dec R
def bp (a0)(hg:gd a0):F (aL.r a0)=ret (md a0):=by
 unfold F md
 try simp only [SS]
 refine aq ret (fun c1=>?_) (fun _=>rfl)
 all_goals exact fz
def af:cq 363 aV:=W1 12 F mix aD bp .nil Tryz.func363
def br (a0:aL):md a0=Z55.md a0:=by
 unfold md Z55.md
 first
 | (simp only [id];done)
 | (simp only [id];rfl)
 | rfl
end Z163
namespace Z164
def F (x0:bC):aH:=(call (Z163.R x0) fun v1=>(cond v1 eG (call (Z162.R x0) fun v2=>ret (v2:Bool))))
def md (a0:aL):Bool:=(cond (Z163.md a0) (true:Bool) ((Z162.md a0):Bool))
def gd (a0:aL):Prop:=(aL.Sm (2^21) a0)
def R:=RR gd md
def ak {a0}(h:gd a0):R (aL.r a0)=some (md a0):=aM (a:=a0) h
def aV:=CN [.agg iT] oB RT.dec R
def bp (a0)(hg:gd a0):F (aL.r a0)=ret (md a0):=by
 unfold gd at hg
 have H0:=hg
 unfold F md
 try simp only [SS]
 refine ct (Z163.ak trivial) ?_
 refine aq ret (fun _=>rfl) (fun c1=>?_)
 refine ct (Z162.ak H0) ?_
 all_goals exact fz
def af:cq 361 aV:=W1 9 F mix aD bp (.cons Z163.af (.cons Z162.af .nil)) Tryz.func361
end Z164
namespace Z165
def F (x0:Int)(x1:bC):aH:=(call (Z163.R x1) fun v1=>(cond v1 (ret ((x0==0):Bool)) (call (Z148.R (x0,1,500)) fun v2=>ret (v2:Bool))))
def md (a0:Int)(a1:aL):Bool:=(cond (Z163.md a1) ((a0==0):Bool) ((Z148.md a0 1 500):Bool))
def gd (a0:Int)(a1:aL):Prop:=True
def R:=RR (p2 gd) (u2 md)
def ak {a0 a1}(h:gd a0 a1):R (a0,(aL.r a1))=some (md a0 a1):=aM (a:=(a0,a1)) h
def aV:=CN [pI,.agg iT] oB RT.dec R
def bp (a0)(a1)(hg:gd a0 a1):F a0 (aL.r a1)=ret (md a0 a1):=by
 unfold F md
 try simp only [SS]
 refine ct (Z163.ak trivial) ?_
 refine aq ret (fun c1=>?_) (fun c1=>?_)
 ·all_goals exact fz
 ·refine ct (Z148.ak trivial) ?_
  all_goals exact fz
def af:cq 362 aV:=W2 11 F mix aD bp (.cons Z163.af (.cons Z148.af .nil)) Tryz.func362
end Z165
namespace Z166
def F (x0:bW):aH:=(call (Z158.R x0.bw) fun v1=>(cond v1 (call (Z158.R x0.dg) fun v2=>(cond v2 (call (Z158.R x0.dN) fun v3=>(cond v3 (call (Z148.R (x0.cG,0,200)) fun v4=>(cond v4 (call (Z148.R (x0.bL,1,3)) fun v5=>(cond v5 (call (Z159.R x0) fun v6=>(cond v6 (call (Z148.R (x0.cB,0,12)) fun v7=>(cond v7 (call (Z162.R x0.cg) fun v8=>(cond v8 (call (Z164.R x0.bN) fun v9=>(cond v9 (call (Z164.R x0.bK) fun v10=>(cond v10 (call (Z165.R (x0.dy,x0.bN)) fun v11=>(cond v11 (cond x0.bF (call (Z163.R x0.bK) fun v12=>ret ((!v12):Bool)) eG) bf)) bf)) bf)) bf)) bf)) bf)) bf)) bf)) bf)) bf)) bf))
def md (a0:aE):Bool:=(cond (Z158.md a0.bw) (cond (Z158.md a0.dg) (cond (Z158.md a0.dN) (cond (Z148.md a0.cG 0 200) (cond (Z148.md a0.bL 1 3) (cond (Z159.md a0) (cond (Z148.md a0.cB 0 12) (cond (Z162.md a0.cg) (cond (Z164.md a0.bN) (cond (Z164.md a0.bK) (cond (Z165.md a0.dy a0.bN) (cond a0.bF ((!(Z163.md a0.bK)):Bool) (true:Bool)) (false:Bool)) (false:Bool)) (false:Bool)) (false:Bool)) (false:Bool)) (false:Bool)) (false:Bool)) (false:Bool)) (false:Bool)) (false:Bool)) (false:Bool))
def gd (a0:aE):Prop:=(aE.Sm (2^21) a0)
def R:=RR gd md
def ak {a0}(h:gd a0):R (aE.r a0)=some (md a0):=aM (a:=a0) h
def aV:=CN [.agg fV] oB RT.dec R
def bp (a0)(hg:gd a0):F (aE.r a0)=ret (md a0):=by
 unfold gd at hg
 have H0:=hg
 unfold F md
 try simp only [SS]
 refine ct (Z158.ak trivial) ?_
 refine aq ret (fun c1=>?_) (fun _=>rfl)
 refine ct (Z158.ak trivial) ?_
 refine aq ret (fun c2=>?_) (fun _=>rfl)
 refine ct (Z158.ak trivial) ?_
 refine aq ret (fun c3=>?_) (fun _=>rfl)
 refine ct (Z148.ak trivial) ?_
 refine aq ret (fun c4=>?_) (fun _=>rfl)
 refine ct (Z148.ak trivial) ?_
 refine aq ret (fun c5=>?_) (fun _=>rfl)
 refine ct (Z159.ak trivial) ?_
 refine aq ret (fun c6=>?_) (fun _=>rfl)
 refine ct (Z148.ak trivial) ?_
 refine aq ret (fun c7=>?_) (fun _=>rfl)
 refine ct (Z162.ak H0.1) ?_
 refine aq ret (fun c8=>?_) (fun _=>rfl)
 refine ct (Z164.ak H0.2.1) ?_
 refine aq ret (fun c9=>?_) (fun _=>rfl)
 refine ct (Z164.ak H0.2.2) ?_
 refine aq ret (fun c10=>?_) (fun _=>rfl)
 refine ct (Z165.ak trivial) ?_
 refine aq ret (fun c11=>?_) (fun _=>rfl)
 refine aq ret (fun c12=>?_) (fun _=>rfl)
 refine ct (Z163.ak trivial) ?_
 all_goals exact fz
def af:cq 335 aV:=W1 67 F mix aD bp (.cons Z158.af (.cons Z148.af (.cons Z159.af (.cons Z162.af (.cons Z164.af (.cons Z165.af (.cons Z163.af .nil))))))) Tryz.func335
def br (a0:aE):md a0=Z56.md a0:=by
 unfold md Z56.md
 simp only [Z162.br,Z148.br,Z158.md,Z164.md,Z165.md,Z163.br]
 have hs:Z159.md a0=(Z49.md a0.cE 0 100000&&(Z49.md a0.cD a0.cE 100000&&!decide ((i64.wrap (a0.cD - a0.cE))>200))):=by
  rw [Bool.eq_iff_iff]
  simp [Z159.md,Z49.md]
  omega
 have hk:Z54.md a0.bK=true->Z55.md a0.bK=false:=fun h=>by
  have:=Z54.tr h
  have e:((a0.bK.aU.length:Int)==0)=false:=beq_eq_false_iff_ne.2 (by omega)
  unfold Z55.md
  rw [e]
  cases a0.bK.cV==0<;>rfl
 rw [hs]
 revert hk
 simp only [Bv,Ar,Bool.and_assoc]
 generalize Z49.md a0.bw 0 2147483646=b1
 generalize Z49.md a0.dg 0 2147483646=b2
 generalize Z49.md a0.dN 0 2147483646=b3
 generalize Z49.md a0.cG 0 200=b4
 generalize Z49.md a0.bL 1 3=b5
 generalize Z49.md a0.cE 0 100000=b6
 generalize Z49.md a0.cD a0.cE 100000=b7
 generalize decide ((i64.wrap (a0.cD - a0.cE))>200)=b8
 generalize Z49.md a0.cB 0 12=b9
 generalize Z54.md a0.cg=b10
 generalize Z54.md a0.bN=kh
 generalize Z55.md a0.bN=nh
 generalize Z54.md a0.bK=kj
 generalize Z55.md a0.bK=nj
 generalize Z49.md a0.dy 1 500=lw
 have hw:(a0.dy != 0)=!(a0.dy==0):=rfl
 rw [hw]
 generalize (a0.dy==0)=w0
 generalize a0.bF=fz
 intro hk
 cases b1;· rfl
 cases b2;· rfl
 cases b3;· rfl
 cases b4;· rfl
 cases b5;· rfl
 cases b6;· rfl
 cases b7;· rfl
 cases b8;rotate_left;· rfl
 cases b9;· rfl
 cases b10;· rfl
 revert hk
 revert kh nh kj nj lw w0 fz
 decide
end Z166
namespace Z167
def F (x0:bC):aH:=(cK (eO (((2:Int)+(x0.aU.length:Int))*8)) (ret (([[L.int x0.cV],[L.int (x0.aU.length:Int)]]++x0.aU):aF)))
def md (a0:aL):List Int:=([a0.cV,(a0.aU.length:Int)]++a0.aU)
def gd (a0:aL):Prop:=(aL.Sm (2^21) a0)
def R:=RR gd md
def ak {a0}(h:gd a0):R (aL.r a0)=some ((md a0).map bn):=aM (a:=a0) h
def aV:=CN [.agg iT] (oL 3) RT.dec R
def bp (a0)(hg:gd a0):F (aL.r a0)=ret ((md a0).map bn):=by
 unfold gd at hg
 have H0:=hg
 unfold F md
 try simp only [SS]
 refine aN (have:=(H0).1;lm) ?_
 all_goals exact fz
def af:cq 364 aV:=W1 12 F mix aD bp .nil Tryz.func364
def len (a0:aL):(md a0).length=2+a0.aU.length:=by simp [md];omega
def br (a0:aL):md a0=Z57.md a0:=by
 unfold md Z57.md
 first
 | (simp only [id];done)
 | (simp only [id];rfl)
 | rfl
end Z167
namespace Z168
def F (x0 x1:Int):aH:=(call (Z148.R (x1,1,1000000000000)) fun v1=>(cond (!v1) (ret (0:Int)) (cond (decide (x1=0)) none (cond (decide (x1=0)) none (ret ((Int.tmod (i64.wrap ((Int.tmod x0 x1)+x1)) x1):Int))))))
def md (a0 a1:Int):Int:=(cond (!(Z148.md a1 1 1000000000000)) (0:Int) ((Int.tmod (i64.wrap ((Int.tmod a0 a1)+a1)) a1):Int))
def gd (a0 a1:Int):Prop:=True
def R:=RR (p2 gd) (u2 md)
def ak {a0 a1}(h:gd a0 a1):R (a0,a1)=some (md a0 a1):=aM (a:=(a0,a1)) h
def aV:=CN [pI,pI] oI RT.dec R
def bp (a0)(a1)(hg:gd a0 a1):F a0 a1=ret (md a0 a1):=by
 unfold F md
 try simp only [SS]
 refine ct (Z148.ak trivial) ?_
 refine aq ret (fun _=>rfl) (fun c1=>?_)
 have dc1:=c1
 try simp only [DC] at dc1
 have Dc1:=c1
 try simp [Z148.md] at Dc1
 refine eE df ?_
 refine eE df ?_
 all_goals exact fz
def af:cq 344 aV:=W2 15 F mix aD bp (.cons Z148.af .nil) Tryz.func344
def br (a0 a1:Int):md a0 a1=Z58.md a0 a1:=by
 unfold md Z58.md
 first
 | (simp only [Z148.br];done)
 | (simp only [Z148.br];rfl)
 | rfl
end Z168
namespace Z169
inductive Pt where
 | p0 (a:Int) (b:aF) (c d:Int)
def pid:Pt->Nat
 | .p0 ..=>3
def cQ:Pt->List V
 | .p0 a b c d=>[.int .i64 a,.sl none 3 b,.int .i64 c,.int .i64 d]
def cR:Pt->List aS
 | .p0 a b c d=>[]
def step (J:Pt->aH):Pt->aH
 | .p0 a b c d=>(cond (decide (d<c)) (m2 d (b.length:Int) (call (Z168.R ((jo b (toNat d)),2147483647)) fun v1=>J (.p0 (Int.tmod (i64.wrap ((i64.wrap ((i64.wrap (a*1000003))+v1))+13)) 2147483647) b c (i64.wrap (d+1))))) (ret (a:Int)))
def start (J:Pt->aH)(x0:aF):aH:=J (.p0 11 x0 (x0.length:Int) 0)
def live:Nat->Live:=fun i=>match i with | 3=>[(3,none),(6,none),(7,none),(8,none)] | _=>[]
def md (a0:List Int):Int:=(dV (S:=Int) (β:=Int) (fun (y1:Int) (s3:Int)=>(.inl (Int.tmod (i64.wrap ((i64.wrap ((i64.wrap (s3*1000003))+(Z168.md y1 2147483647)))+13)) 2147483647))) (fun (s3:Int)=>(s3:Int)) a0 11)
def gd (a0:List Int):Prop:=(bI (2^43) (fun y:Int=>True) a0)
def R:=RR gd md
def ak {a0}(h:gd a0):R (a0.map bn)=some (md a0):=aM (a:=a0) h
def aV:=CN [pL 3] oI RT.dec R
def bp (a0)(hg:gd a0):∃n,start (iter step n) (a0.map bn)=ret (md a0):=by
 unfold gd at hg
 have H0:=hg
 unfold start md
 try simp only [SS]
 have Bh2:a0.length<=maxLen:=(by
   have:=(H0).1
   try simp only [maxLen] at *
   omega)
 refine ex_eq (out:=ret) (eJ (z:=0)) ?_
 refine dG (p:=Pt.p0 11 (a0.map bn) (a0.length:Int) 0) fz ?_
 refine bU (pt:=fun (i1:Nat) (s3:Int)=>Pt.p0 s3 (a0.map bn) (a0.length:Int) (i1:Int)) (s:=(11:Int)) (out:=ret) (fun _ _=>True) (fun J i1 s3 h2 hih2=>?_) (fun s3 hih2=>?_) trivial
 ·simp only [step,SS]
  have bb_:=Bh2
  simp only [maxLen] at bb_
  have:=(H0).1
  refine bk.yes (by apply decide_eq_true;omega) ?_
  refine bk.yes bE ?_
  refine bk.yes (bM h2) ?_
  refine cr (Z168.ak trivial) ?_
  refine bk.inl trivial ?_
  rw [aJ h2 Bh2]
  all_goals exact fz
 ·simp only [step,SS]
  have:=(H0).1
  refine cY (by apply decide_eq_false;omega) ?_
  refine ⟨0,?_⟩
  all_goals exact fz
def af:cq 316 aV:=L1 21 pid cQ cR live step start mix aD bp (.cons Z168.af .nil) Tryz.func316
def br (a0:List Int):md a0=Z59.md a0:=by
 unfold md Z59.md
 first
 | (simp only [Z168.br];done)
 | (simp only [Z168.br];rfl)
 | rfl
end Z169
namespace Z170
def F (x0:bC)(x1:Int):aH:=(call (Z167.R x0) fun v1=>(cK (eO (((2:Int)+(v1.length:Int))*8)) (call (Z169.R ([[L.int 239],[L.int x1]]++v1)) fun v2=>ret (v2:Int))))
def md (a0:aL)(a1:Int):Int:=((Z169.md ([239,a1]++(Z167.md a0))):Int)
def gd (a0:aL)(a1:Int):Prop:=(aL.Sm (2^21) a0)
def R:=RR (p2 gd) (u2 md)
def ak {a0 a1}(h:gd a0 a1):R ((aL.r a0),a1)=some (md a0 a1):=aM (a:=(a0,a1)) h
def aV:=CN [.agg iT,pI] oI RT.dec R
def bp (a0)(a1)(hg:gd a0 a1):F (aL.r a0) a1=ret (md a0 a1):=by
 unfold gd at hg
 have H0:=hg
 unfold F md
 try simp only [SS]
 refine ct (Z167.ak H0) ?_
 try simp only [SS]
 refine aN (have:=Z167.len a0;have:=(H0).1;lm) ?_
 refine cF (Z169.md ([239,a1]++(Z167.md a0))) (rq (Z169.ak (a0:=([239,a1]++(Z167.md a0))) ⟨(have:=Z167.len a0;have:=(H0).1;om),fun _ _=>trivial⟩)) ?_
 all_goals exact fz
def af:cq 336 aV:=W2 11 F mix aD bp (.cons Z167.af (.cons Z169.af .nil)) Tryz.func336
def br (a0:aL)(a1:Int):md a0 a1=Z60.md a0 a1:=by
 unfold md Z60.md
 first
 | (simp only [Z167.br,Z169.br];done)
 | (simp only [Z167.br,Z169.br];rfl)
 | rfl
end Z170
namespace Z171
def F (x0:Bool):aH:=(cond x0 (ret (1:Int)) (ret (0:Int)))
def md (a0:Bool):Int:=(cond a0 (1:Int) (0:Int))
def gd (a0:Bool):Prop:=True
def R:=RR gd md
def ak {a0}(h:gd a0):R a0=some (md a0):=aM (a:=a0) h
def aV:=CN [pB] oI RT.dec R
def bp (a0)(hg:gd a0):F a0=ret (md a0):=by
 unfold F md
 try simp only [SS]
 refine aq ret (fun _=>rfl) (fun _=>rfl)
def af:cq 371 aV:=W1 4 F mix aD bp .nil Tryz.func371
end Z171
namespace Z172
set_option maxHeartbeats 1000000 in
set_option maxRecDepth 100000 in
open Go.RowKit in
def Aw (b:Option Addr)(w:World):Calls Tryz.prog 393 #[.slice b 0 0,.int .i64 0] w fun e w'=>e=.returned (.slice b 0 0)/\w'=w:=by
 go_enter Tryz.func393,Tryz.ntmps393
 go_wp2
 go_ret
 exact ⟨rfl,rfl⟩
def By:Tryz.t3.size=1:=by kernel_rfl
def xO:Tryz.t3.bytes=8:=by kernel_rfl
set_option maxHeartbeats 1000000 in
set_option maxRecDepth 100000 in
open Go.RowKit in
def AV (b:Option Addr)(n:Nat)(w:World)(h0:0<n)(h1:n*8<=140737488355328):Calls Tryz.prog 393 #[.slice b 0 0,.int .i64 n] w fun e w'=>e=.returned (.slice (some ⟨w.heap.size,0,none⟩) 0 (grownCap w n 0 3))/\w'=(w.drew.alloc (.cells (Builtin.zeroCells #[.int .i64 0] n++Builtin.zeroCells #[.int .i64 0] (grownCap w n 0 3 - n)) 3)):=by
 have hp:(0:Int)<n:=by omega
 have hnn:¬((n:Int)<0):=by omega
 have hold:(Builtin.firstCells Tryz.t3.size 0 (.slice b 0 0)).run Tryz.prog w.drew=.ok ([]:List Value).toArray w.drew:=by
  cases b with
  | none=>exact run_firstCells_none _ _ _ _ _
  | some b=>exact run_firstCells_some _ _ _ _ _ _ [] (by simp) (fun j v hj=>by simp at hj)
 have H:=fun ty=>Lib.run_append_grow_zeros (P:=Tryz.prog) w 39 3 ty 3 Tryz.t3 (.int .i64 0) .i64 .i64 (by kernel_rfl) (by kernel_rfl) (by kernel_rfl) (by kernel_rfl) b 0 0 [] hold n h0 (by rw [By];omega) (by omega) (by omega) (by rw [xO];omega) (by
  rw [Nat.zero_add,nextslicecap_zero h0,xO];omega)
 simp only [Nat.zero_add,Array.empty_append] at H
 have H2:=Lib.hid H
 clear H hold
 go_enter Tryz.func393,Tryz.ntmps393
 go_wp2_with (at_builtin;refine Lib.wpList_append_run _ rfl _ _ _ _ rfl _ _ rfl rfl _ _ (H2.out _) ?_)
 go_ret
 exact ⟨rfl,rfl⟩
def R (x0:Int):Option (aF):=bif decide (0<=x0)&&decide (x0*8<=140737488355328) then some [] else none
def ak {a0:Int}(h:0<=a0/\a0*8<=140737488355328):R a0=some []:=by simp [R,h.1,h.2]
def sem:List L->Option (List L)
 | [y0]=>(R y0.toInt).map RT.enc
 | _=>none
def aV:gy:=⟨[.nil,.rd (.int .i64)],.one (.fr 3),sem⟩
def AN:Ev.cells 3=[au]:=by kernel_rfl
def af:cq 393 aV:=by
 refine xC ⟨Tryz.f393,Tryz.func393,by kernel_rfl,by kernel_rfl⟩ rfl fun ls r w vs Z hs hf=>?_
 simp only [aV] at hs
 unfold sem at hs
 split at hs
 ·rename_i y
  obtain ⟨v,hv,hq⟩:=map_some hs
  unfold R at hv
  cases hc:(decide (0<=y.toInt)&&decide (y.toInt*8<=140737488355328))<;>simp only [hc,aZ,bh] at hv
  ·cases hv
  injection hv with hv
  subst hv
  subst hq
  simp only [Bool.and_eq_true,decide_eq_true_eq] at hc
  cases hf with
  | cons h1 ht=>
   cases ht with
   | cons h2 ht=>
    cases ht
    obtain ⟨b,rfl⟩:=(show V0 Ev.cells w (A0 Z w) .nil _ from h1)
    have e2:_=Value.int .i64 y.toInt:=h2
    subst e2
    obtain ⟨n,hn⟩:∃n:Nat,y.toInt=n:=⟨y.toInt.toNat,by omega⟩
    rw [hn] at hc ⊢
    rcases Nat.eq_zero_or_pos n with h0 | h0
    ·subst h0
     exact (Aw b w).mono fun e w' ⟨h3,h4⟩=>⟨_,fun _=>False,h3,by rw [h4];exact Fr.refl _ _,fun b hb=>hb.elim,.nil _ _ _ _ rfl⟩
    ·refine (AV b n w h0 (by omega)).mono fun e w' ⟨h3,h4⟩=>⟨_,fun b=>b=w.heap.size,h3,?_,fun b hb=>?_,?_⟩
     ·rw [h4];exact ((Fr.refl w _).drew).alloc _
     ·subst hb;rw [h4];simp
     ·have hge:=grownCap_ge w n 0 3
      have hle:grownCap w n 0 3<=maxLen:=grownCap_le_maxLen w n 0 3 (by simp only [maxLen];omega)
      rw [h4]
      refine .sl _ 3 0 _ w.heap.size 3 _ _ (fun _ _=>Go.undef) (fun _ _ _=>False) rfl (zero_le _) hle (heap_alloc_new w.drew _) ?_ rfl (fun _ _ _ h=>h.elim) (fun _ _ _ _ _ h=>h.elim) (fun i j k hi=>by omega) (fun i j k hi=>by omega)
      rw [AN]
      simp only [Array.size_append,size_zeroCells,List.length_singleton]
      simp
      omega
 ·cases hs
end Z172
namespace Z173
inductive Pt where
 | p0 (a:aF) (b:Int) (c:aF) (d e:Int)
 | p1 (a:aF) (b c:Int) (d:aF)
def pid:Pt->Nat
 | .p0 ..=>3
 | .p1 ..=>11
def cQ:Pt->List V
 | .p0 a b c d e=>[.sl none 39 a,.int .i64 b,.sl none 39 c,.int .i64 d,.int .i64 e]
 | .p1 a b c d=>[.own 0,.sl none 39 a,.int .i64 b,.int .i64 c]
def cR:Pt->List aS
 | .p0 a b c d e=>[]
 | .p1 a b c d=>[.row 3 d]
def step (J:Pt->aH):Pt->aH
 | .p0 a b c d e=>(cond (decide (e<d)) (m2 e (c.length:Int) (cond (decide ((i64.wrap (b+((pX c (toNat e)).length:Int)))<0)) none (J (.p0 a (i64.wrap (b+((pX c (toNat e)).length:Int))) c d (i64.wrap (e+1)))))) (call (Z172.R b) fun v1=>J (.p1 a (a.length:Int) 0 v1)))
 | .p1 a b c d=>(cond (decide (c<b)) (m2 c (a.length:Int) (cK (eO (((d.length:Int)+((pX a (toNat c)).length:Int))*8)) (J (.p1 a b (i64.wrap (c+1)) (d++(pX a (toNat c))))))) (ret (d:aF)))
def start (J:Pt->aH)(x0:aF):aH:=J (.p0 x0 0 x0 (x0.length:Int) 0)
def live:Nat->Live:=fun i=>match i with | 3=>[(0,none),(3,none),(9,none),(10,none),(11,none)] | 11=>[(6,none),(25,none),(26,none),(27,none)] | _=>[]
def md (a0:List (List Int)):List Int:=a0.flatten
def gd (a0:List (List Int)):Prop:=a0.length<=8/\∀x∈a0,x.length<=2^40
def R:=RR gd md
def ak {a0}(h:gd a0):R (a0.map (eL bn))=some ((md a0).map bn):=aM (a:=a0) h
def aV:=CN [pL 39] (oL 3) RT.dec R
def bp (a0)(hg:gd a0):∃n,start (iter step n) (a0.map (eL bn))=ret ((md a0).map bn):=by
 obtain ⟨hl,hx⟩:=hg
 have hs:∀i,i<=a0.length->((a0.take i).map List.length).sum<=i*2^40:=by
  intro i
  induction i with
  | zero=>intro _;simp
  | succ i ih=>
   intro hi
   rw [List.take_succ_eq_append_getElem (by omega)]
   have h1:=hx a0[i] (List.getElem_mem _)
   have h2:=ih (by omega)
   simp only [List.map_append,List.map_cons,List.map_nil,List.sum_append,List.sum_cons,List.sum_nil]
   omega
 have hstep:∀i (h:i<a0.length),((a0.take (i+1)).map List.length).sum=((a0.take i).map List.length).sum+a0[i].length:=by
  intro i hi
  rw [List.take_succ_eq_append_getElem (by omega)]
  simp only [List.map_append,List.map_cons,List.map_nil,List.sum_append,List.sum_cons,List.sum_nil]
  omega
 have hf:∀i,(a0.take i).flatten.length=((a0.take i).map List.length).sum:=fun i=>List.length_flatten
 have second:∀k i,i+k=a0.length->∃n,iter step n (Pt.p1 (a0.map (eL bn)) (a0.length:Int) (i:Int) ((a0.take i).flatten.map bn))=ret (a0.flatten.map bn:aF):=by
  intro k
  induction k with
  | zero=>
   intro i hi
   obtain rfl:i=a0.length:=by omega
   refine ⟨1,?_⟩
   show step (iter step 0) (Pt.p1 _ _ _ _)=_
   simp only [step]
   refine eE (by simp) ?_
   rw [List.take_length]
  | succ k ih=>
   intro i hi
   obtain ⟨n,hn⟩:=ih (i+1) (by omega)
   refine ⟨n+1,?_⟩
   show step (iter step n) (Pt.p1 _ _ _ _)=_
   have hlt:i<a0.length:=by omega
   have b1:=hs (i+1) (by omega)
   have b2:=hstep i hlt
   simp only [step,List.length_map,cP,qu]
   refine aN (by simp;omega) (aN (by simp) (aN (by simp;omega) (aN (gX ?_) ?_)))
   ·rw [eU hlt,hf];omega
   ·rw [aJ hlt (by simp only [maxLen];omega),eU hlt,<-List.map_append]
    have e:(a0.take i).flatten++a0[i]=(a0.take (i+1)).flatten:=by
     rw [List.take_succ_eq_append_getElem (by omega)]
     simp only [List.flatten_append,List.flatten_cons,List.flatten_nil,List.append_nil]
    rw [e];exact hn
 have first:∀k i,i+k=a0.length->∃n,iter step n (Pt.p0 (a0.map (eL bn)) ((((a0.take i).map List.length).sum:Nat):Int) (a0.map (eL bn)) (a0.length:Int) (i:Int))=ret (a0.flatten.map bn:aF):=by
  intro k
  induction k with
  | zero=>
   intro i hi
   obtain rfl:i=a0.length:=by omega
   obtain ⟨n,hn⟩:=second a0.length 0 (by omega)
   refine ⟨n+1,?_⟩
   show step (iter step n) (Pt.p0 _ _ _ _ _)=_
   have b1:=hs a0.length (by omega)
   simp only [step]
   refine eE (by simp) (cF [] (Z172.ak ⟨by omega,by omega⟩) ?_)
   simpa using hn
  | succ k ih=>
   intro i hi
   obtain ⟨n,hn⟩:=ih (i+1) (by omega)
   refine ⟨n+1,?_⟩
   show step (iter step n) (Pt.p0 _ _ _ _ _)=_
   have hlt:i<a0.length:=by omega
   have b1:=hs (i+1) (by omega)
   have b2:=hstep i hlt
   simp only [step,List.length_map,cP,qu,eU hlt]
   have e:i64.wrap (((((a0.take i).map List.length).sum:Nat):Int)+(a0[i].length:Int))=((((a0.take (i+1)).map List.length).sum:Nat):Int):=by
    rw [Go.IntWalk.i64_in _ (by omega)];omega
   rw [e]
   refine aN (by simp;omega) (aN (by simp) (aN (by simp;omega) (eE (by simp) ?_)))
   rw [aJ hlt (by simp only [maxLen];omega)]
   exact hn
 unfold md
 obtain ⟨n,hn⟩:=first a0.length 0 (by omega)
 refine ⟨n,?_⟩
 unfold start
 simpa using hn
def af:cq 370 aV:=L1 36 pid cQ cR live step start mix aD bp (.cons Z172.af .nil) Tryz.func370
def len (a0:List (List Int)):(md a0).length=(a0.map List.length).sum:=by simp [md]
end Z173
namespace Z174
def F (x0:bW):aH:=(call (Z167.R x0.cg) fun v1=>(call (Z167.R x0.bN) fun v2=>(call (Z167.R x0.bK) fun v3=>(call (Z171.R x0.bF) fun v4=>(call (Z173.R [[L.sl [[L.int x0.bw],[L.int x0.cG],[L.int x0.bL],[L.int x0.cE],[L.int x0.cD],[L.int x0.cB],[L.int x0.dg],[L.int x0.dN]]],[L.sl v1],[L.sl v2],[L.sl [[L.int x0.dy]]],[L.sl v3],[L.sl [[L.int v4]]]]) fun v5=>ret (v5:aF))))))
def md (a0:aE):List Int:=(Z173.md [[a0.bw,a0.cG,a0.bL,a0.cE,a0.cD,a0.cB,a0.dg,a0.dN],(Z167.md a0.cg),(Z167.md a0.bN),[a0.dy],(Z167.md a0.bK),[(Z171.md a0.bF)]])
def gd (a0:aE):Prop:=(aE.Sm (2^21) a0)
def R:=RR gd md
def ak {a0}(h:gd a0):R (aE.r a0)=some ((md a0).map bn):=aM (a:=a0) h
def aV:=CN [.agg fV] (oL 3) RT.dec R
def bp (a0)(hg:gd a0):F (aE.r a0)=ret ((md a0).map bn):=by
 unfold gd at hg
 have H0:=hg
 unfold F md
 try simp only [SS]
 refine ct (Z167.ak H0.1) ?_
 try simp only [SS]
 refine ct (Z167.ak H0.2.1) ?_
 try simp only [SS]
 refine ct (Z167.ak H0.2.2) ?_
 try simp only [SS]
 refine ct (Z171.ak trivial) ?_
 refine cF ((Z173.md [[a0.bw,a0.cG,a0.bL,a0.cE,a0.cD,a0.cB,a0.dg,a0.dN],(Z167.md a0.cg),(Z167.md a0.bN),[a0.dy],(Z167.md a0.bK),[(Z171.md a0.bF)]]).map bn) (rq (Z173.ak (a0:=[[a0.bw,a0.cG,a0.bL,a0.cE,a0.cD,a0.cB,a0.dg,a0.dN],(Z167.md a0.cg),(Z167.md a0.bN),[a0.dy],(Z167.md a0.bK),[(Z171.md a0.bF)]]) ⟨(by simp),(by
   have:=Z167.len a0.cg
   have:=(H0.1).1
   have:=Z167.len a0.bN
   have:=(H0.2.1).1
   have:=Z167.len a0.bK
   have:=(H0.2.2).1
   intro x_ hx_
   simp only [List.mem_cons,List.not_mem_nil,or_false] at hx_
   rcases hx_ with hx_ | hx_ | hx_ | hx_ | hx_ | hx_
   all_goals (subst hx_;first | omega | (simp only [LN];omega)))⟩)) ?_
 try simp only [SS]
 all_goals exact fz
def af:cq 340 aV:=W1 38 F mix aD bp (.cons Z167.af (.cons Z171.af (.cons Z173.af .nil))) Tryz.func340
def len (a0:aE):(md a0).length=16+a0.cg.aU.length+a0.bN.aU.length+a0.bK.aU.length:=by unfold md;simp [Z173.md,Z167.len];omega
def br (a0:aE):md a0=Z61.md a0:=by
 rw [Z61.tA]
 unfold md Z173.md
 simp only [Z167.br,Z171.md,List.flatten_cons,List.flatten_nil,List.cons_append,List.nil_append,List.append_nil]
end Z174
namespace Z175
def F (x0:Int)(x1:aF):aH:=(call (Z173.R [[L.sl [[L.int x0]]],[L.sl x1],[L.sl [[L.int x0]]]]) fun v1=>(call (Z169.R v1) fun v2=>ret (v2:Int)))
def md (a0:Int)(a1:List Int):Int:=((Z169.md (Z173.md [[a0],a1,[a0]])):Int)
def gd (a0:Int)(a1:List Int):Prop:=(bI (2^40) (fun y:Int=>True) a1)
def R:=RR (p2 gd) (u2 md)
def ak {a0 a1}(h:gd a0 a1):R (a0,(a1.map bn))=some (md a0 a1):=aM (a:=(a0,a1)) h
def aV:=CN [pI,pL 3] oI RT.dec R
def bp (a0)(a1)(hg:gd a0 a1):F a0 (a1.map bn)=ret (md a0 a1):=by
 unfold gd at hg
 have H1:=hg
 unfold F md
 try simp only [SS]
 refine cF ((Z173.md [[a0],a1,[a0]]).map bn) (rq (Z173.ak (a0:=[[a0],a1,[a0]]) ⟨(by simp),(by
   have:=(H1).1
   intro x_ hx_
   simp only [List.mem_cons,List.not_mem_nil,or_false] at hx_
   rcases hx_ with hx_ | hx_ | hx_
   all_goals (subst hx_;first | omega | (simp only [LN];omega)))⟩)) ?_
 try simp only [SS]
 refine ct (Z169.ak ⟨(by
   have:=Z173.len [[a0],a1,[a0]]
   try simp only [LN] at this
   have:=(H1).1
   exact om),fun _ _=>trivial⟩) ?_
 all_goals exact fz
def af:cq 409 aV:=W2 13 F mix aD bp (.cons Z173.af (.cons Z169.af .nil)) Tryz.func409
def br (a0:Int)(a1:List Int):md a0 a1=Z62.md a0 a1:=by
 unfold md Z62.md
 first
 | (simp only [Z169.br];done)
 | (simp only [Z169.br];rfl)
 | rfl
end Z175
namespace Z176
def F (x0:Int)(x1:aF):aH:=(cK (eO (((1:Int)+(x1.length:Int))*8)) (call (Z175.R (x0,([[L.int 223]]++x1))) fun v1=>ret (v1:Int)))
def md (a0:Int)(a1:List Int):Int:=((Z175.md a0 ([223]++a1)):Int)
def gd (a0:Int)(a1:List Int):Prop:=(bI (2^39) (fun y:Int=>True) a1)
def R:=RR (p2 gd) (u2 md)
def ak {a0 a1}(h:gd a0 a1):R (a0,(a1.map bn))=some (md a0 a1):=aM (a:=(a0,a1)) h
def aV:=CN [pI,pL 3] oI RT.dec R
def bp (a0)(a1)(hg:gd a0 a1):F a0 (a1.map bn)=ret (md a0 a1):=by
 unfold gd at hg
 have H1:=hg
 unfold F md
 try simp only [SS]
 refine aN (have:=(H1).1;lm) ?_
 refine cF (Z175.md a0 ([223]++a1)) (rq (Z175.ak (a0:=a0) (a1:=([223]++a1)) ⟨(have:=(H1).1;om),fun _ _=>trivial⟩)) ?_
 all_goals exact fz
def af:cq 408 aV:=W2 10 F mix aD bp (.cons Z175.af .nil) Tryz.func408
def br (a0:Int)(a1:List Int):md a0 a1=Z63.md a0 a1:=by
 unfold md Z63.md
 first
 | (simp only [Z175.br];done)
 | (simp only [Z175.br];rfl)
 | rfl
end Z176
namespace Z177
def F (x0:bz)(x1:aF):aH:=(call (Z161.R x0.gT) fun v1=>(cond v1 (call (Z176.R (x0.gT,x1)) fun v2=>ret ((x0.jP==v2):Bool)) bf))
def md (a0:bz)(a1:List Int):Bool:=(cond (Z161.md a0.gT) ((a0.jP==(Z176.md a0.gT a1)):Bool) (false:Bool))
def gd (a0:bz)(a1:List Int):Prop:=(bI (2^38) (fun y:Int=>True) a1)
def R:=RR (p2 gd) (u2 md)
def ak {a0 a1}(h:gd a0 a1):R (a0,(a1.map bn))=some (md a0 a1):=aM (a:=(a0,a1)) h
def aV:=CN [.agg yt,pL 3] oB RT.dec R
def bp (a0)(a1)(hg:gd a0 a1):F a0 (a1.map bn)=ret (md a0 a1):=by
 unfold gd at hg
 have H1:=hg
 unfold F md
 try simp only [SS]
 refine ct (Z161.ak trivial) ?_
 refine aq ret (fun c1=>?_) (fun _=>rfl)
 refine ct (Z176.ak (H1.mono (by decide) (fun x hx=>trivial))) ?_
 all_goals exact fz
def af:cq 405 aV:=W2 17 F mix aD bp (.cons Z161.af (.cons Z176.af .nil)) Tryz.func405
def br (a0:bz)(a1:List Int):md a0 a1=Z64.md a0 a1:=by
 unfold md Z64.md
 first
 | (simp only [Z176.br];done)
 | (simp only [Z176.br];rfl)
 | rfl
end Z177
namespace Z178
def F (x0:bz)(x1 x2:List L):aH:=(cond (x0.gT==(fH x1)) (call (Z177.R (x0,(mw x2))) fun v1=>ret (v1:Bool)) bf)
def pats:List gF:=[.agg [au,au],.ptr [au],.ptr [.sl 3]]
def res:RP:=.one (.rd (.bool))
def md (a0:bz)(a1:Int)(a2:List Int):Bool:=(cond (a0.gT==a1) ((Z177.md a0 a2):Bool) (false:Bool))
def gd (a0:bz)(a1:Int)(a2:List Int):Prop:=(bI (2^38) (fun y:Int=>True) a2)
def acc (ls:List L):bz×Int×aF:=((bz.dec ls),(fH (cm 1 (av 2 ls))),(mw (cm 1 (av 3 ls))))
def R:(bz×Int×aF)->Option Bool:=RR (p3 gd) (u3 md)
def ak {a0 a1 a2}(h:gd a0 a1 a2):R (a0,a1,(a2.map bn))=some (md a0 a1 a2):=aM (a:=(a0,a1,a2)) h
def aV:gy:=CN pats res acc R
def bp (a0:bz)(a1:Int)(a2:List Int)(p1 p2:List L)(e1:a1=(fH p1))(e2:(a2.map bn)=(mw p2))(hg:gd a0 a1 a2):F a0 p1 p2=ret ((md a0 a1 a2):Bool):=by
 unfold gd at hg
 have H2:=hg
 unfold F md
 try simp only [SS,<-e1,<-e2]
 refine aq ret (fun c1=>?_) (fun _=>rfl)
 refine ct (Z177.ak H2) ?_
 all_goals exact fz
def nu (ls:List L)(a:bz×Int×List Int)(e:acc ls=Im.im a)(hg:(p3 gd) a):∃n:Nat,F (bz.dec ls) (cm 1 (av 2 ls)) (cm 1 (av 3 ls))=ret (Im.im ((u3 md) a)):=by
 have e0:a.1=(bz.dec ls):=(congrArg (fun x=>x.1) e.symm)
 have hn:=bp a.1 a.2.1 a.2.2 (cm 1 (av 2 ls)) (cm 1 (av 3 ls)) (congrArg (fun x=>x.2.1) e.symm) (congrArg (fun x=>x.2.2) e.symm) hg
 refine ⟨0,?_⟩
 rw [<-e0]
 exact hn
def af:cq 404 aV:=VP (live:=fun _=>[]) (nt:=14) (accr:=fun ls=>((bz.dec ls),(cm 1 (av 2 ls)),(cm 1 (av 3 ls)))) (run:=fun _ x=>F x.1 x.2.1 x.2.2) mix aD (.cons Z177.af .nil) Tryz.func404 (by kernel_rfl) (fun _ _=>by kernel_rfl) (fun ls a _ e hg=>nu ls a e hg)
end Z178
namespace Z179
inductive Pt where
 | p0 (a:aF) (b c:List L) (d e:Int)
def pid:Pt->Nat
 | .p0 ..=>2
def cQ:Pt->List V
 | .p0 a b c d e=>[.sl none 227 a,.fn 404 [.dc none [au] b 0,.dc none [.sl 3] c 0],.int .i64 d,.int .i64 e]
def cR:Pt->List aS
 | .p0 a b c d e=>[]
def step (J:Pt->aH):Pt->aH
 | .p0 a b c d e=>(cond (decide (e<d)) (m2 e (a.length:Int) (call (Z178.R ((bz.at a (toNat e)),(fH b),(mw c))) fun v1=>(cond v1 (ret (e:Int)) (J (.p0 a b c d (i64.wrap (e+1))))))) (ret ((-1):Int)))
def start (J:Pt->aH)(x0:aF)(x1 x2:List L):aH:=J (.p0 x0 x1 x2 (x0.length:Int) 0)
def live:Nat->Live:=fun i=>match i with | 2=>[(0,none),(1,none),(7,none),(8,none)] | _=>[]
def pats:List gF:=[.rd (.sl 227),.fn 404 [[au],[.sl 3]]]
def res:RP:=.one (.rd (.int .i64))
abbrev E:Env:={ T:=assoc rE,G:=dP [(404,Z178.aV)],nt:=19 }
def step_eq (I:dH)(p:Pt):dU E live I (pid p) (ck Tryz.f407) (ij (live (pid p)) (cQ p) (cR p)) (dD E Tryz.f407 res)=step (fun q=>I (pid q) (cQ q) (cR q)) p:=by
 cases p<;>kernel_rfl
def start_eq (I:dH)(ls:List L):gn E live I (ck Tryz.f407) (dO pats ls) (dD E Tryz.f407 res)=start (fun q=>I (pid q) (cQ q) (cR q)) (ls.headD .hole).aY (cm 1 (av 1 ls)) (cm 1 (av 2 ls)):=by kernel_rfl
def run_eq (n:Nat)(ls:List L):fY E live Tryz.f407 res n (dO pats ls)=start (iter step n) (ls.headD .hole).aY (cm 1 (av 1 ls)) (cm 1 (av 2 ls)):=dL (id:=pid) (vs:=cQ) (hs:=cR) (step:=step) (start:=fun J=>start J (ls.headD .hole).aY (cm 1 (av 1 ls)) (cm 1 (av 2 ls))) step_eq (fun I=>start_eq I ls) n
def md (a0:List bz)(a1:Int)(a2:List Int):Int:=(dF (S:=Unit) (β:=Int) (fun (i1:Nat) (y1:bz) (s3:Unit)=>(cond (Z178.md y1 a1 a2) (.inr ((i1:Int):Int)) (.inl ()))) (fun (s3:Unit)=>((-1):Int)) 0 a0 ())
def gd (a0:List bz)(a1:Int)(a2:List Int):Prop:=(bI (2^21) (fun y:bz=>bz.Sm (2^21) y) a0)/\(bI (2^38) (fun y:Int=>True) a2)
def acc (ls:List L):aF×Int×aF:=((ls.headD .hole).aY,(fH (cm 1 (av 1 ls))),(mw (cm 1 (av 2 ls))))
def R:(aF×Int×aF)->Option Int:=RR (p3 gd) (u3 md)
def ak {a0 a1 a2}(h:gd a0 a1 a2):R ((a0.map bz.row),a1,(a2.map bn))=some (md a0 a1 a2):=aM (a:=(a0,a1,a2)) h
def aV:gy:=CN pats res acc R
def bp (a0:List bz)(a1:Int)(a2:List Int)(p1 p2:List L)(e1:a1=(fH p1))(e2:(a2.map bn)=(mw p2))(hg:gd a0 a1 a2):∃n,start (iter step n) (a0.map bz.row) p1 p2=ret ((md a0 a1 a2):Int):=by
 obtain ⟨H0,H2⟩:=hg
 unfold start md
 try simp only [SS,<-e1,<-e2]
 have Bh2:a0.length<=maxLen:=(by
   have:=(H0).1
   try simp only [maxLen] at *
   omega)
 refine ex_eq (out:=ret) (cH (z:=bz.zero)) ?_
 refine dG (p:=Pt.p0 (a0.map bz.row) p1 p2 (a0.length:Int) 0) fz ?_
 refine bU (pt:=fun (i1:Nat) (s3:Unit)=>Pt.p0 (a0.map bz.row) p1 p2 (a0.length:Int) (i1:Int)) (s:=(():Unit)) (out:=ret) (fun _ _=>True) (fun J i1 s3 h2 hih2=>?_) (fun s3 hih2=>?_) trivial
 ·simp only [step,SS,<-e1,<-e2]
  have bb_:=Bh2
  simp only [maxLen] at bb_
  have:=(H0).1
  refine bk.yes (by apply decide_eq_true;omega) ?_
  refine bk.yes bE ?_
  refine bk.yes (bM h2) ?_
  refine cr (Z178.ak H2) ?_
  refine bk.bif (fun c4=>?_) (fun c4=>?_)
  ·refine bk.inr ?_
   all_goals exact fz
  ·refine bk.inl trivial ?_
   rw [aJ h2 Bh2]
   all_goals exact fz
 ·simp only [step,SS,<-e1,<-e2]
  have:=(H0).1
  refine cY (by apply decide_eq_false;omega) ?_
  refine ⟨0,?_⟩
  all_goals exact fz
def nu (ls:List L)(a:List bz×Int×List Int)(e:acc ls=Im.im a)(hg:(p3 gd) a):∃n:Nat,start (iter step n) ((ls.headD .hole).aY) (cm 1 (av 1 ls)) (cm 1 (av 2 ls))=ret (Im.im ((u3 md) a)):=by
 have e0:(a.1.map bz.row)=(ls.headD .hole).aY:=(congrArg (fun x=>x.1) e.symm)
 obtain ⟨n,hn⟩:=bp a.1 a.2.1 a.2.2 (cm 1 (av 1 ls)) (cm 1 (av 2 ls)) (congrArg (fun x=>x.2.1) e.symm) (congrArg (fun x=>x.2.2) e.symm) hg
 refine ⟨n,?_⟩
 rw [<-e0]
 exact hn
def af:cq 407 aV:=VP (accr:=fun ls=>((ls.headD .hole).aY,(cm 1 (av 1 ls)),(cm 1 (av 2 ls)))) (run:=fun n x=>start (iter step n) x.1 x.2.1 x.2.2) mix aD (.cons Z178.af .nil) Tryz.func407 (by kernel_rfl) run_eq (fun ls a _ e hg=>nu ls a e hg)
def fa (a0:List bz)(a1:Int)(a2:List Int):-1<=md a0 a1 a2/\md a0 a1 a2<(a0.length:Int):=by
 unfold md
 refine fF ?_ _ _
 all_goals
  intro i x s b h
  revert h
  simp only [Bool.cond_eq_ite]
  repeat' split
  all_goals (intro h;first | (cases h;rfl) | cases h)
def idx_eq (a0:List bz)(a1:Int)(a2:List Int):md a0 a1 a2=iF (fun y=>Z178.md y a1 a2) 0 a0:=by
 unfold md
 exact gv
end Z179
namespace Z180
def F (x0:aF)(x1 x2:List L):aH:=(call (Z179.R (x0,(fH x1),(mw x2))) fun v1=>ret ((decide (v1>=0)):Bool))
def pats:List gF:=[.rd (.sl 227),.fn 404 [[au],[.sl 3]]]
def res:RP:=.one (.rd (.bool))
def md (a0:List bz)(a1:Int)(a2:List Int):Bool:=((decide ((Z179.md a0 a1 a2)>=0)):Bool)
def gd (a0:List bz)(a1:Int)(a2:List Int):Prop:=(bI (2^21) (fun y:bz=>bz.Sm (2^21) y) a0)/\(bI (2^38) (fun y:Int=>True) a2)
def acc (ls:List L):aF×Int×aF:=((ls.headD .hole).aY,(fH (cm 1 (av 1 ls))),(mw (cm 1 (av 2 ls))))
def R:(aF×Int×aF)->Option Bool:=RR (p3 gd) (u3 md)
def ak {a0 a1 a2}(h:gd a0 a1 a2):R ((a0.map bz.row),a1,(a2.map bn))=some (md a0 a1 a2):=aM (a:=(a0,a1,a2)) h
def aV:gy:=CN pats res acc R
def bp (a0:List bz)(a1:Int)(a2:List Int)(p1 p2:List L)(e1:a1=(fH p1))(e2:(a2.map bn)=(mw p2))(hg:gd a0 a1 a2):F (a0.map bz.row) p1 p2=ret ((md a0 a1 a2):Bool):=by
 obtain ⟨H0,H2⟩:=hg
 unfold F md
 try simp only [SS,<-e1,<-e2]
 refine ct (Z179.ak ⟨H0,H2⟩) ?_
 have fv1_:=Z179.fa a0 a1 a2
 all_goals exact fz
def nu (ls:List L)(a:List bz×Int×List Int)(e:acc ls=Im.im a)(hg:(p3 gd) a):∃n:Nat,F ((ls.headD .hole).aY) (cm 1 (av 1 ls)) (cm 1 (av 2 ls))=ret (Im.im ((u3 md) a)):=by
 have e0:(a.1.map bz.row)=(ls.headD .hole).aY:=(congrArg (fun x=>x.1) e.symm)
 have hn:=bp a.1 a.2.1 a.2.2 (cm 1 (av 1 ls)) (cm 1 (av 2 ls)) (congrArg (fun x=>x.2.1) e.symm) (congrArg (fun x=>x.2.2) e.symm) hg
 refine ⟨0,?_⟩
 rw [<-e0]
 exact hn
def af:cq 403 aV:=VP (live:=fun _=>[]) (nt:=9) (accr:=fun ls=>((ls.headD .hole).aY,(cm 1 (av 1 ls)),(cm 1 (av 2 ls)))) (run:=fun _ x=>F x.1 x.2.1 x.2.2) mix aD (.cons Z179.af .nil) Tryz.func403 (by kernel_rfl) (fun _ _=>by kernel_rfl) (fun ls a _ e hg=>nu ls a e hg)
def any_eq (a0:List bz)(a1:Int)(a2:List Int):md a0 a1 a2=a0.any (fun y=>Z178.md y a1 a2):=by
 unfold md
 rw [Z179.idx_eq]
 exact qv
end Z180
namespace Z181
inductive Pt where
 | p0 (a:aF) (b:Int) (c:aF) (d e:Int) (f:aF)
def pid:Pt->Nat
 | .p0 ..=>3
def cQ:Pt->List V
 | .p0 a b c d e f=>[.sl none 227 a,.cj 0 0,.int .i64 b,.sl none 3 c,.int .i64 d,.int .i64 e]
def cR:Pt->List aS
 | .p0 a b c d e f=>[.box [.sl none 3 f]]
def step (J:Pt->aH):Pt->aH
 | .p0 a b c d e f=>(cond (decide (e<d)) (m2 e (c.length:Int) (call (Z180.R (a,(jo c (toNat e)),f)) fun v1=>(cond v1 (J (.p0 a (i64.wrap (b+1)) c d (i64.wrap (e+1)) f)) (J (.p0 a b c d (i64.wrap (e+1)) f))))) (ret (b:Int)))
def start (J:Pt->aH)(x0:bC)(x1 x2:aF):aH:=J (.p0 x2 0 x0.aU (x0.aU.length:Int) 0 x1)
def live:Nat->Live:=fun i=>match i with | 3=>[(2,none),(4,none),(7,none),(11,none),(12,none),(13,none)] | _=>[]
def md (a0:aL)(a1:List Int)(a2:List bz):Int:=(dV (S:=Int) (β:=Int) (fun (y1:Int) (s3:Int)=>(cond (Z180.md a2 y1 a1) (.inl (i64.wrap (s3+1))) (.inl s3))) (fun (s3:Int)=>(s3:Int)) a0.aU 0)
def gd (a0:aL)(a1:List Int)(a2:List bz):Prop:=(aL.Sm (2^21) a0)/\(bI (2^38) (fun y:Int=>True) a1)/\(bI (2^21) (fun y:bz=>bz.Sm (2^21) y) a2)
def R:=RR (p3 gd) (u3 md)
def ak {a0 a1 a2}(h:gd a0 a1 a2):R ((aL.r a0),(a1.map bn),(a2.map bz.row))=some (md a0 a1 a2):=aM (a:=(a0,a1,a2)) h
def aV:=CN [.agg iT,pL 3,pL 227] oI RT.dec R
def bp (a0)(a1)(a2)(hg:gd a0 a1 a2):∃n,start (iter step n) (aL.r a0) (a1.map bn) (a2.map bz.row)=ret (md a0 a1 a2):=by
 obtain ⟨H0,H1,H2⟩:=hg
 unfold start md
 try simp only [SS]
 have Bh2:a0.aU.length<=maxLen:=(by
   have:=(H0).1
   try simp only [maxLen] at *
   omega)
 refine ex_eq (out:=ret) (eJ (z:=0)) ?_
 refine dG (p:=Pt.p0 (a2.map bz.row) 0 (a0.aU.map bn) (a0.aU.length:Int) 0 (a1.map bn)) fz ?_
 refine bU (pt:=fun (i1:Nat) (s3:Int)=>Pt.p0 (a2.map bz.row) s3 (a0.aU.map bn) (a0.aU.length:Int) (i1:Int) (a1.map bn)) (s:=(0:Int)) (out:=ret) (fun _ _=>True) (fun J i1 s3 h2 hih2=>?_) (fun s3 hih2=>?_) trivial
 ·simp only [step,SS]
  have bb_:=Bh2
  simp only [maxLen] at bb_
  have:=(H0).1
  refine bk.yes (by apply decide_eq_true;omega) ?_
  refine bk.yes bE ?_
  refine bk.yes (bM h2) ?_
  refine cr (Z180.ak ⟨H2,H1⟩) ?_
  refine bk.bif (fun c4=>?_) (fun c4=>?_)
  ·refine bk.inl trivial ?_
   rw [aJ h2 Bh2]
   all_goals exact fz
  ·refine bk.inl trivial ?_
   rw [aJ h2 Bh2]
   all_goals exact fz
 ·simp only [step,SS]
  have:=(H0).1
  refine cY (by apply decide_eq_false;omega) ?_
  refine ⟨0,?_⟩
  all_goals exact fz
def af:cq 390 aV:=L3 24 pid cQ cR live step start mix aD bp (.cons Z180.af .nil) Tryz.func390
def br (a0:aL)(a1:List Int)(a2:List bz):md a0 a1 a2=Z65.md a0 a1 a2:=by
 unfold md Z65.md
 refine pG (fun x _ s=>?_) (fun s=>rfl)
 rw [Z180.any_eq]
 refine Eq.trans ?_ (nv (β:=Int⊕Int) (p:=fun y=>Z178.md y x a1) (b:=Sum.inl (i64.wrap (s+1))) (c:=Sum.inl s) (fun y s'=>?_) a2 ()).symm
 ·cases a2.any (fun y=>Z178.md y x a1)<;>rfl
 ·unfold Z178.md
  simp only [Z177.br]
  cases y.gT==x<;>cases Z64.md y a1<;>rfl
end Z181
namespace Z182
def F (x0:bC)(x1 x2:aF):aH:=(call (Z162.R x0) fun v1=>(cond v1 (call (Z181.R (x0,x1,x2)) fun v2=>ret ((decide (v2>=x0.cV)):Bool)) bf))
def md (a0:aL)(a1:List Int)(a2:List bz):Bool:=(cond (Z162.md a0) ((decide ((Z181.md a0 a1 a2)>=a0.cV)):Bool) (false:Bool))
def gd (a0:aL)(a1:List Int)(a2:List bz):Prop:=(aL.Sm (2^21) a0)/\(bI (2^38) (fun y:Int=>True) a1)/\(bI (2^21) (fun y:bz=>bz.Sm (2^21) y) a2)
def R:=RR (p3 gd) (u3 md)
def ak {a0 a1 a2}(h:gd a0 a1 a2):R ((aL.r a0),(a1.map bn),(a2.map bz.row))=some (md a0 a1 a2):=aM (a:=(a0,a1,a2)) h
def aV:=CN [.agg iT,pL 3,pL 227] oB RT.dec R
def bp (a0)(a1)(a2)(hg:gd a0 a1 a2):F (aL.r a0) (a1.map bn) (a2.map bz.row)=ret (md a0 a1 a2):=by
 obtain ⟨H0,H1,H2⟩:=hg
 unfold F md
 try simp only [SS]
 refine ct (Z162.ak H0) ?_
 refine aq ret (fun c1=>?_) (fun _=>rfl)
 refine ct (Z181.ak ⟨H0,H1,H2⟩) ?_
 all_goals exact fz
def af:cq 365 aV:=W3 18 F mix aD bp (.cons Z162.af (.cons Z181.af .nil)) Tryz.func365
def br (a0:aL)(a1:List Int)(a2:List bz):md a0 a1 a2=Z66.md a0 a1 a2:=by
 unfold md Z66.md
 first
 | (simp only [Z162.br,Z181.br];done)
 | (simp only [Z162.br,Z181.br];rfl)
 | rfl
end Z182
namespace Z183
def F (x0:aT)(x1:bC):aH:=(call (Z174.R x0.ay) fun v1=>(call (Z182.R (x1,v1,x0.cT)) fun v2=>ret (v2:Bool)))
def md (a0:aa)(a1:aL):Bool:=((Z182.md a1 (Z174.md a0.ay) a0.cT):Bool)
def gd (a0:aa)(a1:aL):Prop:=(aa.Sm (2^21) a0)/\(aL.Sm (2^21) a1)
def R:=RR (p2 gd) (u2 md)
def ak {a0 a1}(h:gd a0 a1):R ((aa.r a0),(aL.r a1))=some (md a0 a1):=aM (a:=(a0,a1)) h
def aV:=CN [.agg kB,.agg iT] oB RT.dec R
def bp (a0)(a1)(hg:gd a0 a1):F (aa.r a0) (aL.r a1)=ret (md a0 a1):=by
 obtain ⟨H0,H1⟩:=hg
 unfold F md
 try simp only [SS]
 refine ct (Z174.ak H0.1) ?_
 try simp only [SS]
 refine ct (Z182.ak ⟨H1,⟨(have:=Z174.len a0.ay;have:=(H0.1.1).1;have:=(H0.1.2.1).1;have:=(H0.1.2.2).1;om),fun _ _=>trivial⟩,H0.2⟩) ?_
 all_goals exact fz
def af:cq 337 aV:=W2 12 F mix aD bp (.cons Z174.af (.cons Z182.af .nil)) Tryz.func337
end Z183
namespace Z184
def F (x0:aT):aH:=(call (Z166.R x0.ay) fun v1=>(cond v1 (cond (x0.ay.cG==0) (cond (x0.ay.bL==1) (cond (!x0.ay.bF) (call (Z170.R (x0.ay.cg,x0.ay.dN)) fun v2=>(cond (x0.ay.bw==v2) (call (Z183.R (x0,x0.ay.cg)) fun v3=>ret (v3:Bool)) bf)) bf) bf) bf) bf))
def md (a0:aa):Bool:=(cond (Z166.md a0.ay) (cond (a0.ay.cG==0) (cond (a0.ay.bL==1) (cond (!a0.ay.bF) (cond (a0.ay.bw==(Z170.md a0.ay.cg a0.ay.dN)) ((Z183.md a0 a0.ay.cg):Bool) (false:Bool)) (false:Bool)) (false:Bool)) (false:Bool)) (false:Bool))
def gd (a0:aa):Prop:=(aa.Sm (2^21) a0)
def R:=RR gd md
def ak {a0}(h:gd a0):R (aa.r a0)=some (md a0):=aM (a:=a0) h
def aV:=CN [.agg kB] oB RT.dec R
def bp (a0)(hg:gd a0):F (aa.r a0)=ret (md a0):=by
 unfold gd at hg
 have H0:=hg
 unfold F md
 try simp only [SS]
 refine ct (Z166.ak H0.1) ?_
 refine aq ret (fun c1=>?_) (fun _=>rfl)
 refine aq ret (fun c2=>?_) (fun _=>rfl)
 refine aq ret (fun c3=>?_) (fun _=>rfl)
 refine aq ret (fun c4=>?_) (fun _=>rfl)
 refine ct (Z170.ak H0.1.1) ?_
 refine aq ret (fun c5=>?_) (fun _=>rfl)
 refine ct (Z183.ak ⟨H0,H0.1.1⟩) ?_
 all_goals exact fz
def af:cq 302 aV:=W1 39 F mix aD bp (.cons Z166.af (.cons Z170.af (.cons Z183.af .nil))) Tryz.func302
def br (a0:aa):md a0=Z67.md a0:=by
 unfold md Z67.md
 simp only [Z183.md,Z182.br,Z174.br,Z166.br,Z170.br]
end Z184
namespace Z185
def F (x0:bW):aH:=(call (Z174.R x0) fun v1=>(cK (eO (((1:Int)+(v1.length:Int))*8)) (call (Z169.R ([[L.int 233]]++v1)) fun v2=>ret (v2:Int))))
def md (a0:aE):Int:=((Z169.md ([233]++(Z174.md a0))):Int)
def gd (a0:aE):Prop:=(aE.Sm (2^21) a0)
def R:=RR gd md
def ak {a0}(h:gd a0):R (aE.r a0)=some (md a0):=aM (a:=a0) h
def aV:=CN [.agg fV] oI RT.dec R
def bp (a0)(hg:gd a0):F (aE.r a0)=ret (md a0):=by
 unfold gd at hg
 have H0:=hg
 unfold F md
 try simp only [SS]
 refine ct (Z174.ak H0) ?_
 try simp only [SS]
 refine aN (have:=Z174.len a0;have:=(H0.1).1;have:=(H0.2.1).1;have:=(H0.2.2).1;lm) ?_
 refine cF (Z169.md ([233]++(Z174.md a0))) (rq (Z169.ak (a0:=([233]++(Z174.md a0))) ⟨(have:=Z174.len a0;have:=(H0.1).1;have:=(H0.2.1).1;have:=(H0.2.2).1;om),fun _ _=>trivial⟩)) ?_
 all_goals exact fz
def af:cq 391 aV:=W1 8 F mix aD bp (.cons Z174.af (.cons Z169.af .nil)) Tryz.func391
def br (a0:aE):md a0=Z68.md a0:=by
 unfold md Z68.md
 first
 | (simp only [Z174.br,Z169.br];done)
 | (simp only [Z174.br,Z169.br];rfl)
 | rfl
end Z185
namespace Z186
def F (x0 x1:bW):aH:=(cond (x1.bw==x0.bw) (cond (x1.cG==(i64.wrap (x0.cG+1))) (call (Z185.R x0) fun v1=>(cond (x1.dN==v1) (ret ((decide (x1.cE>=x0.cE)):Bool)) bf)) bf) bf)
def md (a0 a1:aE):Bool:=(cond (a1.bw==a0.bw) (cond (a1.cG==(i64.wrap (a0.cG+1))) (cond (a1.dN==(Z185.md a0)) ((decide (a1.cE>=a0.cE)):Bool) (false:Bool)) (false:Bool)) (false:Bool))
def gd (a0 a1:aE):Prop:=(aE.Sm (2^21) a0)
def R:=RR (p2 gd) (u2 md)
def ak {a0 a1}(h:gd a0 a1):R ((aE.r a0),(aE.r a1))=some (md a0 a1):=aM (a:=(a0,a1)) h
def aV:=CN [.agg fV,.agg fV] oB RT.dec R
def bp (a0)(a1)(hg:gd a0 a1):F (aE.r a0) (aE.r a1)=ret (md a0 a1):=by
 unfold gd at hg
 have H0:=hg
 unfold F md
 try simp only [SS]
 refine aq ret (fun c1=>?_) (fun _=>rfl)
 refine aq ret (fun c2=>?_) (fun _=>rfl)
 refine ct (Z185.ak H0) ?_
 refine aq ret (fun c3=>?_) (fun _=>rfl)
 all_goals exact fz
def af:cq 366 aV:=W2 32 F mix aD bp (.cons Z185.af .nil) Tryz.func366
end Z186
namespace Z187
def F (x0:bW)(x1:aT):aH:=(cond x0.bF (ret (4:Int)) (cond x1.ay.bF (ret (6:Int)) (call (Z183.R (x1,x0.cg)) fun v1=>(cond (!v1) (ret (7:Int)) (ret (1:Int))))))
def md (a0:aE)(a1:aa):Int:=(cond a0.bF (4:Int) (cond a1.ay.bF (6:Int) (cond (!(Z183.md a1 a0.cg)) (7:Int) (1:Int))))
def gd (a0:aE)(a1:aa):Prop:=(aE.Sm (2^21) a0)/\(aa.Sm (2^21) a1)
def R:=RR (p2 gd) (u2 md)
def ak {a0 a1}(h:gd a0 a1):R ((aE.r a0),(aa.r a1))=some (md a0 a1):=aM (a:=(a0,a1)) h
def aV:=CN [.agg fV,.agg kB] oI RT.dec R
def bp (a0)(a1)(hg:gd a0 a1):F (aE.r a0) (aa.r a1)=ret (md a0 a1):=by
 obtain ⟨H0,H1⟩:=hg
 unfold F md
 try simp only [SS]
 refine aq ret (fun _=>rfl) (fun c1=>?_)
 refine aq ret (fun _=>rfl) (fun c2=>?_)
 refine ct (Z183.ak ⟨H1,H0.1⟩) ?_
 refine aq ret (fun _=>rfl) (fun _=>rfl)
def af:cq 367 aV:=W2 18 F mix aD bp (.cons Z183.af .nil) Tryz.func367
end Z187
namespace Z188
inductive Pt where
 | p0 (a b:aF) (c d:Int)
def pid:Pt->Nat
 | .p0 ..=>4
def cQ:Pt->List V
 | .p0 a b c d=>[.sl none 3 a,.sl none 3 b,.int .i64 c,.int .i64 d]
def cR:Pt->List aS
 | .p0 a b c d=>[]
def step (J:Pt->aH):Pt->aH
 | .p0 a b c d=>(cond (decide (d<c)) (m2 d (a.length:Int) (m2 d (b.length:Int) (cond ((jo a (toNat d)) != (jo b (toNat d))) bf (J (.p0 a b c (i64.wrap (d+1))))))) eG)
def start (J:Pt->aH)(x0 x1:aF):aH:=(cond ((x0.length:Int) != (x1.length:Int)) bf (J (.p0 x0 x1 (x0.length:Int) 0)))
def live:Nat->Live:=fun i=>match i with | 4=>[(0,none),(1,none),(12,none),(13,none)] | _=>[]
def md (a0 a1:List Int):Bool:=(bif ((a0.length:Int) != (a1.length:Int)) then (false:Bool) else (eD (S:=Unit) (β:=Bool) (fun (i2:Nat) (s4:Unit)=>(cond ((a0.getD i2 0) != (a1.getD i2 0)) (.inr (false:Bool)) (.inl ()))) (fun (s4:Unit)=>(true:Bool)) a0.length 0 ()))
def gd (a0 a1:List Int):Prop:=(bI (2^38) (fun y:Int=>True) a0)/\(bI (2^38) (fun y:Int=>True) a1)
def R:=RR (p2 gd) (u2 md)
def ak {a0 a1}(h:gd a0 a1):R ((a0.map bn),(a1.map bn))=some (md a0 a1):=aM (a:=(a0,a1)) h
def aV:=CN [pL 3,pL 3] oB RT.dec R
def bp (a0)(a1)(hg:gd a0 a1):∃n,start (iter step n) (a0.map bn) (a1.map bn)=ret (md a0 a1):=by
 obtain ⟨H0,H1⟩:=hg
 unfold start md
 try simp only [SS]
 refine gP ret (fun _=>⟨0,rfl⟩) (fun c1=>?_)
 have dc1:=c1
 try simp only [DC] at dc1
 have Bh3:a0.length<=maxLen:=(by
   have:=(H0).1
   try simp only [maxLen] at *
   omega)
 refine dG (p:=Pt.p0 (a0.map bn) (a1.map bn) (a0.length:Int) 0) fz ?_
 refine bU (pt:=fun (i2:Nat) (s4:Unit)=>Pt.p0 (a0.map bn) (a1.map bn) (a0.length:Int) (i2:Int)) (s:=(():Unit)) (out:=ret) (fun _ _=>True) (fun J i2 s4 h3 hih3=>?_) (fun s4 hih3=>?_) trivial
 ·simp only [step,SS]
  have bb_:=Bh3
  simp only [maxLen] at bb_
  have:=(H0).1
  refine bk.yes (by apply decide_eq_true;omega) ?_
  refine bk.yes bE ?_
  refine bk.yes (bM h3) ?_
  refine bk.yes bE ?_
  refine bk.yes (have:=(H1).1;dt) ?_
  refine bk.bif (fun _=>bk.inr rfl) (fun c5=>?_)
  refine bk.inl trivial ?_
  rw [aJ h3 Bh3]
  all_goals exact fz
 ·simp only [step,SS]
  have:=(H0).1
  refine cY (by apply decide_eq_false;omega) ?_
  refine ⟨0,?_⟩
  all_goals exact fz
def af:cq 320 aV:=L2 26 pid cQ cR live step start mix aD bp .nil Tryz.func320
def md_eq (a0 a1:List Int):md a0 a1=eu a0 a1:=by
 unfold md
 refine jY (0) (fun i s h h2=>?_) (fun s=>rfl)
 simp only [bne,eT,bool_beq,eM]
 cases eu _ _<;>rfl
end Z188
namespace Z189
def F (x0 x1:bC):aH:=(call (Z188.R (x0.aU,x1.aU)) fun v1=>(cond v1 (ret ((x0.cV==x1.cV):Bool)) bf))
def md (a0 a1:aL):Bool:=(cond (Z188.md a0.aU a1.aU) ((a0.cV==a1.cV):Bool) (false:Bool))
def gd (a0 a1:aL):Prop:=(aL.Sm (2^21) a0)/\(aL.Sm (2^21) a1)
def R:=RR (p2 gd) (u2 md)
def ak {a0 a1}(h:gd a0 a1):R ((aL.r a0),(aL.r a1))=some (md a0 a1):=aM (a:=(a0,a1)) h
def aV:=CN [.agg iT,.agg iT] oB RT.dec R
def bp (a0)(a1)(hg:gd a0 a1):F (aL.r a0) (aL.r a1)=ret (md a0 a1):=by
 obtain ⟨H0,H1⟩:=hg
 unfold F md
 try simp only [SS]
 refine ct (Z188.ak ⟨(H0.mono (by decide) (fun x hx=>trivial)),(H1.mono (by decide) (fun x hx=>trivial))⟩) ?_
 refine aq ret (fun c1=>?_) (fun _=>rfl)
 all_goals exact fz
def af:cq 339 aV:=W2 17 F mix aD bp (.cons Z188.af .nil) Tryz.func339
def md_eq (a0 a1:aL):md a0 a1=eu a0 a1:=by
 unfold md
 cases a0;cases a1
 rw [Bool.eq_iff_iff]
 simp [cU,eM,aL.mk.injEq,Z188.md_eq]
 try (constructor<;>(intro h;simp_all))
end Z189
namespace Z190
def F (x0 x1:bW):aH:=(cond (x0.cB==x1.cB) (ret ((x0.dg==x1.dg):Bool)) bf)
def md (a0 a1:aE):Bool:=(cond (a0.cB==a1.cB) ((a0.dg==a1.dg):Bool) (false:Bool))
def gd (a0 a1:aE):Prop:=True
def R:=RR (p2 gd) (u2 md)
def ak {a0 a1}(h:gd a0 a1):R ((aE.r a0),(aE.r a1))=some (md a0 a1):=aM (a:=(a0,a1)) h
def aV:=CN [.agg fV,.agg fV] oB RT.dec R
def bp (a0)(a1)(hg:gd a0 a1):F (aE.r a0) (aE.r a1)=ret (md a0 a1):=by
 unfold F md
 try simp only [SS]
 refine aq ret (fun c1=>?_) (fun _=>rfl)
 all_goals exact fz
def af:cq 392 aV:=W2 17 F mix aD bp .nil Tryz.func392
def br (a0 a1:aE):md a0 a1=Z72.md a0 a1:=by
 unfold md Z72.md
 first
 | (simp only [id];done)
 | (simp only [id];rfl)
 | rfl
end Z190
namespace Z191
def F (x0:bW)(x1:aT):aH:=(cond x0.bF (ret (4:Int)) (call (Z163.R x0.bN) fun v1=>(cond v1 (ret (5:Int)) (cond (decide (x1.ay.cE<(i64.wrap (x0.cD+x0.dy)))) (ret (5:Int)) (cond x1.ay.bF (ret (6:Int)) (call (Z189.R (x1.ay.cg,x0.bN)) fun v2=>(cond (!v2) (ret (6:Int)) (call (Z190.R (x1.ay,x0)) fun v3=>(cond (!v3) (ret (6:Int)) (call (Z183.R (x1,x0.bN)) fun v4=>(cond (!v4) (ret (7:Int)) (ret (1:Int)))))))))))))
def md (a0:aE)(a1:aa):Int:=(cond a0.bF (4:Int) (cond (Z163.md a0.bN) (5:Int) (cond (decide (a1.ay.cE<(i64.wrap (a0.cD+a0.dy)))) (5:Int) (cond a1.ay.bF (6:Int) (cond (!(Z189.md a1.ay.cg a0.bN)) (6:Int) (cond (!(Z190.md a1.ay a0)) (6:Int) (cond (!(Z183.md a1 a0.bN)) (7:Int) (1:Int))))))))
def gd (a0:aE)(a1:aa):Prop:=(aE.Sm (2^21) a0)/\(aa.Sm (2^21) a1)
def R:=RR (p2 gd) (u2 md)
def ak {a0 a1}(h:gd a0 a1):R ((aE.r a0),(aa.r a1))=some (md a0 a1):=aM (a:=(a0,a1)) h
def aV:=CN [.agg fV,.agg kB] oI RT.dec R
def bp (a0)(a1)(hg:gd a0 a1):F (aE.r a0) (aa.r a1)=ret (md a0 a1):=by
 obtain ⟨H0,H1⟩:=hg
 unfold F md
 try simp only [SS]
 refine aq ret (fun _=>rfl) (fun c1=>?_)
 refine ct (Z163.ak trivial) ?_
 refine aq ret (fun _=>rfl) (fun c2=>?_)
 refine aq ret (fun _=>rfl) (fun c3=>?_)
 refine aq ret (fun _=>rfl) (fun c4=>?_)
 refine ct (Z189.ak ⟨H1.1.1,H0.2.1⟩) ?_
 refine aq ret (fun _=>rfl) (fun c5=>?_)
 refine ct (Z190.ak trivial) ?_
 refine aq ret (fun _=>rfl) (fun c6=>?_)
 refine ct (Z183.ak ⟨H1,H0.2.1⟩) ?_
 refine aq ret (fun _=>rfl) (fun _=>rfl)
def af:cq 368 aV:=W2 48 F mix aD bp (.cons Z163.af (.cons Z189.af (.cons Z190.af (.cons Z183.af .nil)))) Tryz.func368
end Z191
namespace Z192
def F (x0:bW)(x1:aT):aH:=(call (Z190.R (x1.ay,x0)) fun v1=>(cond v1 (call (Z189.R (x1.ay.bK,x0.bK)) fun v2=>(cond v2 (call (Z189.R (x1.ay.bN,x0.bN)) fun v3=>(cond v3 (call (Z163.R x0.bK) fun v4=>(cond v4 (ret (5:Int)) (cond (x1.ay.bF==x0.bF) (ret (6:Int)) (cond (!(x1.ay.dy==x0.dy)) (ret (6:Int)) (cond x1.ay.bF (call (Z189.R (x1.ay.cg,x0.cg)) fun v5=>(cond (!v5) (ret (6:Int)) (call (Z183.R (x1,x0.bK)) fun v6=>(cond (!v6) (ret (7:Int)) (ret (1:Int)))))) (call (Z183.R (x1,x0.bK)) fun v7=>(cond (!v7) (ret (7:Int)) (ret (1:Int))))))))) (call (Z163.R x0.bK) fun v8=>(cond v8 (ret (5:Int)) (cond (x1.ay.bF==x0.bF) (ret (6:Int)) (ret (6:Int))))))) (call (Z163.R x0.bK) fun v9=>(cond v9 (ret (5:Int)) (cond (x1.ay.bF==x0.bF) (ret (6:Int)) (ret (6:Int))))))) (call (Z163.R x0.bK) fun v10=>(cond v10 (ret (5:Int)) (cond (x1.ay.bF==x0.bF) (ret (6:Int)) (ret (6:Int)))))))
def md (a0:aE)(a1:aa):Int:=(cond (Z190.md a1.ay a0) (cond (Z189.md a1.ay.bK a0.bK) (cond (Z189.md a1.ay.bN a0.bN) (cond (Z163.md a0.bK) (5:Int) (cond (a1.ay.bF==a0.bF) (6:Int) (cond (!(a1.ay.dy==a0.dy)) (6:Int) (cond a1.ay.bF (cond (!(Z189.md a1.ay.cg a0.cg)) (6:Int) (cond (!(Z183.md a1 a0.bK)) (7:Int) (1:Int))) (cond (!(Z183.md a1 a0.bK)) (7:Int) (1:Int)))))) (cond (Z163.md a0.bK) (5:Int) (cond (a1.ay.bF==a0.bF) (6:Int) (6:Int)))) (cond (Z163.md a0.bK) (5:Int) (cond (a1.ay.bF==a0.bF) (6:Int) (6:Int)))) (cond (Z163.md a0.bK) (5:Int) (cond (a1.ay.bF==a0.bF) (6:Int) (6:Int))))
def gd (a0:aE)(a1:aa):Prop:=(aE.Sm (2^21) a0)/\(aa.Sm (2^21) a1)
def R:=RR (p2 gd) (u2 md)
def ak {a0 a1}(h:gd a0 a1):R ((aE.r a0),(aa.r a1))=some (md a0 a1):=aM (a:=(a0,a1)) h
def aV:=CN [.agg fV,.agg kB] oI RT.dec R
def bp (a0)(a1)(hg:gd a0 a1):F (aE.r a0) (aa.r a1)=ret (md a0 a1):=by
 obtain ⟨H0,H1⟩:=hg
 unfold F md
 try simp only [SS]
 refine ct (Z190.ak trivial) ?_
 refine aq ret (fun c1=>?_) (fun c1=>?_)
 ·refine ct (Z189.ak ⟨H1.1.2.2,H0.2.2⟩) ?_
  refine aq ret (fun c2=>?_) (fun c2=>?_)
  ·refine ct (Z189.ak ⟨H1.1.2.1,H0.2.1⟩) ?_
   refine aq ret (fun c3=>?_) (fun c3=>?_)
   ·refine ct (Z163.ak trivial) ?_
    refine aq ret (fun _=>rfl) (fun c4=>?_)
    refine aq ret (fun _=>rfl) (fun c5=>?_)
    refine aq ret (fun _=>rfl) (fun c6=>?_)
    refine aq ret (fun c7=>?_) (fun c7=>?_)
    ·refine ct (Z189.ak ⟨H1.1.1,H0.1⟩) ?_
     refine aq ret (fun _=>rfl) (fun c8=>?_)
     refine ct (Z183.ak ⟨H1,H0.2.2⟩) ?_
     refine aq ret (fun _=>rfl) (fun _=>rfl)
    ·refine ct (Z183.ak ⟨H1,H0.2.2⟩) ?_
     refine aq ret (fun _=>rfl) (fun _=>rfl)
   ·refine ct (Z163.ak trivial) ?_
    refine aq ret (fun _=>rfl) (fun c11=>?_)
    refine aq ret (fun _=>rfl) (fun _=>rfl)
  ·refine ct (Z163.ak trivial) ?_
   refine aq ret (fun _=>rfl) (fun c13=>?_)
   refine aq ret (fun _=>rfl) (fun _=>rfl)
 ·refine ct (Z163.ak trivial) ?_
  refine aq ret (fun _=>rfl) (fun c15=>?_)
  refine aq ret (fun _=>rfl) (fun _=>rfl)
def af:cq 369 aV:=W2 65 F mix aD bp (.cons Z190.af (.cons Z189.af (.cons Z163.af (.cons Z183.af .nil)))) Tryz.func369
end Z192
namespace Z193
def F (x0:bW)(x1:aT):aH:=(call (Z166.R x0) fun v1=>(cond (!v1) (ret (2:Int)) (call (Z166.R x1.ay) fun v2=>(cond (!v2) (ret (2:Int)) (call (Z186.R (x0,x1.ay)) fun v3=>(cond (!v3) (ret (3:Int)) (cond (x1.ay.bL==1) (call (Z187.R (x0,x1)) fun v4=>ret (v4:Int)) (cond (x1.ay.bL==2) (call (Z191.R (x0,x1)) fun v5=>ret (v5:Int)) (call (Z192.R (x0,x1)) fun v6=>ret (v6:Int))))))))))
def md (a0:aE)(a1:aa):Int:=(cond (!(Z166.md a0)) (2:Int) (cond (!(Z166.md a1.ay)) (2:Int) (cond (!(Z186.md a0 a1.ay)) (3:Int) (cond (a1.ay.bL==1) ((Z187.md a0 a1):Int) (cond (a1.ay.bL==2) ((Z191.md a0 a1):Int) ((Z192.md a0 a1):Int))))))
def gd (a0:aE)(a1:aa):Prop:=(aE.Sm (2^21) a0)/\(aa.Sm (2^21) a1)
def R:=RR (p2 gd) (u2 md)
def ak {a0 a1}(h:gd a0 a1):R ((aE.r a0),(aa.r a1))=some (md a0 a1):=aM (a:=(a0,a1)) h
def aV:=CN [.agg fV,.agg kB] oI RT.dec R
def bp (a0)(a1)(hg:gd a0 a1):F (aE.r a0) (aa.r a1)=ret (md a0 a1):=by
 obtain ⟨H0,H1⟩:=hg
 unfold F md
 try simp only [SS]
 refine ct (Z166.ak H0) ?_
 refine aq ret (fun _=>rfl) (fun c1=>?_)
 refine ct (Z166.ak H1.1) ?_
 refine aq ret (fun _=>rfl) (fun c2=>?_)
 refine ct (Z186.ak H0) ?_
 refine aq ret (fun _=>rfl) (fun c3=>?_)
 refine aq ret (fun c4=>?_) (fun c4=>?_)
 ·refine ct (Z187.ak ⟨H0,H1⟩) ?_
  all_goals exact fz
 ·refine aq ret (fun c5=>?_) (fun c5=>?_)
  ·refine ct (Z191.ak ⟨H0,H1⟩) ?_
   all_goals exact fz
  ·refine ct (Z192.ak ⟨H0,H1⟩) ?_
   all_goals exact fz
def af:cq 338 aV:=W2 40 F mix aD bp (.cons Z166.af (.cons Z186.af (.cons Z187.af (.cons Z191.af (.cons Z192.af .nil))))) Tryz.func338
def br (a0:aE)(a1:aa):md a0 a1=Z75.md a0 a1:=by
 unfold md Z75.md Z186.md Z187.md Z191.md Z192.md Z183.md Z69.md Z73.md Z74.md
 simp only [Z166.br,Z185.br,Z182.br,Z174.br,Z163.br,Z189.md_eq,Z71.md_eq,Z190.br,bne]
 cases Z56.md a0
 ·rfl
 cases h2:Z56.md a1.ay
 ·rfl
 obtain ⟨⟨k1,k2⟩,_⟩:=Z56.tr h2
 have ht:decide (a1.ay.cE<a0.cE)=!decide (a1.ay.cE>=a0.cE):=by
  rw [Bool.eq_iff_iff];simp
 rw [ht]
 cases a1.ay.bw==a0.bw
 ·rfl
 cases a1.ay.cG==i64.wrap (a0.cG+1)
 ·rfl
 cases a1.ay.dN==Z68.md a0
 ·rfl
 cases decide (a1.ay.cE>=a0.cE)
 ·rfl
 have hk:a1.ay.bL=1∨a1.ay.bL=2∨a1.ay.bL=3:=by omega
 generalize Z66.md a0.cg (Z61.md a1.ay) a1.cT=s1
 generalize Z66.md a0.bN (Z61.md a1.ay) a1.cT=s2
 generalize Z66.md a0.bK (Z61.md a1.ay) a1.cT=s3
 generalize Z55.md a0.bN=n1
 generalize Z55.md a0.bK=n2
 generalize decide (a1.ay.cE<i64.wrap (a0.cD+a0.dy))=d1
 generalize eu a1.ay.cg a0.bN=e1
 generalize eu a1.ay.bK a0.bK=e2
 generalize eu a1.ay.bN a0.bN=e3
 generalize eu a1.ay.cg a0.cg=e4
 generalize Z72.md a1.ay a0=c1
 generalize (a1.ay.dy==a0.dy)=w1
 generalize a1.ay.bF=f1
 generalize a0.bF=f0
 rcases hk with hk | hk | hk<;>rw [hk]
 ·cases f0<;>cases f1<;>cases s1<;>rfl
 ·cases f0<;>cases n1<;>cases d1<;>cases f1<;>cases e1<;>cases c1<;>cases s2<;>rfl
 ·cases n2
  ·cases f1<;>cases f0<;>cases c1<;>cases e2<;>cases e3<;>cases w1<;>cases e4<;>cases s3<;>rfl
  ·cases c1<;>cases e2<;>cases e3<;>rfl
end Z193
namespace Z194
def F (x0:bW)(x1:aT):aH:=(call (Z193.R (x0,x1)) fun v1=>ret ((v1==1):Bool))
def md (a0:aE)(a1:aa):Bool:=(((Z193.md a0 a1)==1):Bool)
def gd (a0:aE)(a1:aa):Prop:=(aE.Sm (2^21) a0)/\(aa.Sm (2^21) a1)
def R:=RR (p2 gd) (u2 md)
def ak {a0 a1}(h:gd a0 a1):R ((aE.r a0),(aa.r a1))=some (md a0 a1):=aM (a:=(a0,a1)) h
def aV:=CN [.agg fV,.agg kB] oB RT.dec R
def bp (a0)(a1)(hg:gd a0 a1):F (aE.r a0) (aa.r a1)=ret (md a0 a1):=by
 obtain ⟨H0,H1⟩:=hg
 unfold F md
 try simp only [SS]
 refine ct (Z193.ak ⟨H0,H1⟩) ?_
 all_goals exact fz
def af:cq 303 aV:=W2 9 F mix aD bp (.cons Z193.af .nil) Tryz.func303
def br (a0:aE)(a1:aa):md a0 a1=Z76.md a0 a1:=by
 unfold md Z76.md
 first
 | (simp only [Z193.br];done)
 | (simp only [Z193.br];rfl)
 | rfl
end Z194
namespace Z195
inductive Pt where
 | p0 (a b:aF) (c d:Int)
def pid:Pt->Nat
 | .p0 ..=>2
def cQ:Pt->List V
 | .p0 a b c d=>[.sl none 178 a,.sl none 178 b,.int .i64 c,.int .i64 d]
def cR:Pt->List aS
 | .p0 a b c d=>[]
def step (J:Pt->aH):Pt->aH
 | .p0 a b c d=>(cond (decide (d<c)) (m2 d (b.length:Int) (cond (d==0) (call (Z184.R (aT.at b (toNat d))) fun v1=>(cond (!v1) (ret (d:Int)) (cond (decide (d>0)) (cK (decide ((0:Int)<=(i64.wrap (d - 1)))) (cK (decide ((i64.wrap (d - 1))<(a.length:Int))) (call (Z194.R ((aT.at a (toNat (i64.wrap (d - 1)))).ay,(aT.at b (toNat d)))) fun v2=>(cond (!v2) (ret (d:Int)) (J (.p0 a b c (i64.wrap (d+1)))))))) (J (.p0 a b c (i64.wrap (d+1))))))) (cond (decide (d>0)) (cK (decide ((0:Int)<=(i64.wrap (d - 1)))) (cK (decide ((i64.wrap (d - 1))<(a.length:Int))) (call (Z194.R ((aT.at a (toNat (i64.wrap (d - 1)))).ay,(aT.at b (toNat d)))) fun v3=>(cond (!v3) (ret (d:Int)) (J (.p0 a b c (i64.wrap (d+1)))))))) (J (.p0 a b c (i64.wrap (d+1))))))) (ret ((-1):Int)))
def start (J:Pt->aH)(x0:aF):aH:=J (.p0 x0 x0 (x0.length:Int) 0)
def live:Nat->Live:=fun i=>match i with | 2=>[(0,none),(5,none),(6,none),(7,none)] | _=>[]
def md (a0:List aa):Int:=(dF (S:=Unit) (β:=Int) (fun (i1:Nat) (y1:aa) (s3:Unit)=>(cond ((i1:Int)==0) (cond (!(Z184.md y1)) (.inr ((i1:Int):Int)) (cond (decide ((i1:Int)>0)) (cond (!(Z194.md ((a0.getD (toNat (i64.wrap ((i1:Int) - 1))) aa.zero).ay) y1)) (.inr ((i1:Int):Int)) (.inl ())) (.inl ()))) (cond (decide ((i1:Int)>0)) (cond (!(Z194.md ((a0.getD (toNat (i64.wrap ((i1:Int) - 1))) aa.zero).ay) y1)) (.inr ((i1:Int):Int)) (.inl ())) (.inl ())))) (fun (s3:Unit)=>((-1):Int)) 0 a0 ())
def gd (a0:List aa):Prop:=(bI (2^21) (fun y:aa=>aa.Sm (2^21) y) a0)
def R:=RR gd md
def ak {a0}(h:gd a0):R (a0.map aa.row)=some (md a0):=aM (a:=a0) h
def aV:=CN [pL 178] oI RT.dec R
def bp (a0)(hg:gd a0):∃n,start (iter step n) (a0.map aa.row)=ret (md a0):=by
 unfold gd at hg
 have H0:=hg
 unfold start md
 try simp only [SS]
 have Bh2:a0.length<=maxLen:=(by
   have:=(H0).1
   try simp only [maxLen] at *
   omega)
 refine ex_eq (out:=ret) (cH (z:=aa.zero)) ?_
 refine dG (p:=Pt.p0 (a0.map aa.row) (a0.map aa.row) (a0.length:Int) 0) fz ?_
 refine bU (pt:=fun (i1:Nat) (s3:Unit)=>Pt.p0 (a0.map aa.row) (a0.map aa.row) (a0.length:Int) (i1:Int)) (s:=(():Unit)) (out:=ret) (fun _ _=>True) (fun J i1 s3 h2 hih2=>?_) (fun s3 hih2=>?_) trivial
 ·simp only [step,SS]
  have bb_:=Bh2
  simp only [maxLen] at bb_
  have:=(H0).1
  refine bk.yes (by apply decide_eq_true;omega) ?_
  refine bk.yes bE ?_
  refine bk.yes (bM h2) ?_
  refine bk.bif (fun c4=>?_) (fun c4=>?_)
  ·have dc4:=c4
   try simp only [DC] at dc4
   refine cr (Z184.ak (bI.getD (z:=aa.zero) H0 h2)) ?_
   refine bk.bif (fun c5=>?_) (fun c5=>?_)
   ·refine bk.inr ?_
    all_goals exact fz
   ·have dc5:=c5
    try simp only [DC] at dc5
    refine bk.bif (fun c6=>?_) (fun c6=>?_)
    ·have dc6:=c6
     try simp only [DC] at dc6
     refine bk.yes dt ?_
     refine bk.yes (have:=(H0).1;dt) ?_
     refine cr (Z194.ak ⟨(bI.getD (z:=aa.zero) H0 (by first | assumption | omega | (simp (disch:=omega) only [wi];omega) | (simp;omega))).1,(bI.getD (z:=aa.zero) H0 h2)⟩) ?_
     refine bk.bif (fun c7=>?_) (fun c7=>?_)
     ·refine bk.inr ?_
      all_goals exact fz
     ·refine bk.inl trivial ?_
      rw [aJ h2 Bh2]
      all_goals exact fz
    ·refine bk.inl trivial ?_
     rw [aJ h2 Bh2]
     all_goals exact fz
  ·have dc4:=c4
   try simp only [DC] at dc4
   refine bk.bif (fun c8=>?_) (fun c8=>?_)
   ·have dc8:=c8
    try simp only [DC] at dc8
    refine bk.yes dt ?_
    refine bk.yes (have:=(H0).1;dt) ?_
    refine cr (Z194.ak ⟨(bI.getD (z:=aa.zero) H0 (by first | assumption | omega | (simp (disch:=omega) only [wi];omega) | (simp;omega))).1,(bI.getD (z:=aa.zero) H0 h2)⟩) ?_
    refine bk.bif (fun c9=>?_) (fun c9=>?_)
    ·refine bk.inr ?_
     all_goals exact fz
    ·refine bk.inl trivial ?_
     rw [aJ h2 Bh2]
     all_goals exact fz
   ·refine bk.inl trivial ?_
    rw [aJ h2 Bh2]
    all_goals exact fz
 ·simp only [step,SS]
  have:=(H0).1
  refine cY (by apply decide_eq_false;omega) ?_
  refine ⟨0,?_⟩
  all_goals exact fz
def af:cq 250 aV:=L1 36 pid cQ cR live step start mix aD bp (.cons Z184.af (.cons Z194.af .nil)) Tryz.func250
def br (a0:List aa):md a0=Z77.md a0:=by
 unfold md Z77.md
 rw [<-cH (z:=aa.zero),<-cH (z:=aa.zero)]
 refine vq (fun _ _=>True) (fun i s hi _=>⟨?_,fun _ _=>trivial⟩) (fun _ _=>rfl) trivial
 simp only [Z184.br,Z194.br]
 by_cases h0:i=0
 ·subst h0;rfl
 ·have e:((i:Int)==0)=false:=beq_eq_false_iff_ne.2 (by omega)
  simp only [e,bh]
end Z195
namespace Z196
def F (x0:aF):aH:=(call (Z148.R ((x0.length:Int),1,12)) fun v1=>(cond v1 (call (Z195.R x0) fun v2=>ret ((decide (v2<0)):Bool)) bf))
def md (a0:List aa):Bool:=(cond (Z148.md (a0.length:Int) 1 12) ((decide ((Z195.md a0)<0)):Bool) (false:Bool))
def gd (a0:List aa):Prop:=(bI (2^21) (fun y:aa=>aa.Sm (2^21) y) a0)
def R:=RR gd md
def ak {a0}(h:gd a0):R (a0.map aa.row)=some (md a0):=aM (a:=a0) h
def aV:=CN [pL 178] oB RT.dec R
def bp (a0)(hg:gd a0):F (a0.map aa.row)=ret (md a0):=by
 unfold gd at hg
 have H0:=hg
 unfold F md
 try simp only [SS]
 refine ct (Z148.ak trivial) ?_
 refine aq ret (fun c1=>?_) (fun _=>rfl)
 refine ct (Z195.ak H0) ?_
 all_goals exact fz
def af:cq 195 aV:=W1 11 F mix aD bp (.cons Z148.af (.cons Z195.af .nil)) Tryz.func195
def tr {a0:List aa}(h:md a0=true):1<=a0.length/\a0.length<=12:=by simp [md,Z148.md] at h;omega
def br (a0:List aa):md a0=Z78.md a0:=by
 unfold md Z78.md
 first
 | (simp only [Z148.br,Z195.br];done)
 | (simp only [Z148.br,Z195.br];rfl)
 | rfl
end Z196
namespace Z197
def F (x0:aF):aH:=(cK (decide ((0:Int)<=(i64.wrap ((x0.length:Int) - 1)))) (cK (decide ((i64.wrap ((x0.length:Int) - 1))<(x0.length:Int))) (ret ((aT.at x0 (toNat (i64.wrap ((x0.length:Int) - 1)))).ay:bW))))
def md (a0:List aa):aE:=(a0.getD (toNat (i64.wrap ((a0.length:Int) - 1))) aa.zero).ay
def gd (a0:List aa):Prop:=(bI (2^21) (fun y:aa=>aa.Sm (2^21) y) a0)/\(1<=a0.length)
def R:=RR gd md
def ak {a0}(h:gd a0):R (a0.map aa.row)=some (aE.r (md a0)):=aM (a:=a0) h
def aV:=CN [pL 178] (.agg [.rd (.int .i64),.rd (.int .i64),.rd (.int .i64),.rd (.int .i64),.rd (.int .i64),.rd (.int .i64),.rd (.int .i64),.rd (.int .i64),.rd (.sl 3),.rd (.int .i64),.rd (.sl 3),.rd (.int .i64),.rd (.int .i64),.rd (.sl 3),.rd (.int .i64),.rd (.bool)]) RT.dec R
def bp (a0)(hg:gd a0):F (a0.map aa.row)=ret (aE.r (md a0)):=by
 obtain ⟨H0,HX⟩:=hg
 unfold F md
 try simp only [SS]
 refine aN (have:=(H0).1;dt) ?_
 refine aN (have:=(H0).1;dt) ?_
 all_goals exact fz
def af:cq 204 aV:=W1 10 F mix aD bp .nil Tryz.func204
def gk {a0:List aa}(hg:gd a0):aE.Sm (2^21) (md a0):=by
 unfold gd at hg;unfold md
 have h1:=hg.1.1
 have h2:=hg.2
 exact (bI.getD hg.1 (by simp (disch:=omega) only [Go.IntWalk.i64_in];omega)).1
end Z197
namespace Z198
def F (x0:aW):aH:=(call (Z149.R x0.aQ) fun v1=>(cond (!v1) bf (cond (x0.bL==1) (call (Z148.R (x0.bX,0,999999)) fun v2=>(cond v2 (ret (((x0.bB.length:Int)==0):Bool)) bf)) (cond (x0.bL==2) (call (Z158.R x0.bX) fun v3=>(cond v3 (ret (((x0.bB.length:Int)==0):Bool)) bf)) (cond (x0.bL==3) (call (Z158.R x0.bX) fun v4=>(cond v4 (call (Z153.R x0.bB) fun v5=>ret (v5:Bool)) bf)) bf)))))
def md (a0:ah):Bool:=(cond (!(Z149.md a0.aQ)) (false:Bool) (cond (a0.bL==1) (cond (Z148.md a0.bX 0 999999) (((a0.bB.length:Int)==0):Bool) (false:Bool)) (cond (a0.bL==2) (cond (Z158.md a0.bX) (((a0.bB.length:Int)==0):Bool) (false:Bool)) (cond (a0.bL==3) (cond (Z158.md a0.bX) ((Z153.md a0.bB):Bool) (false:Bool)) (false:Bool)))))
def gd (a0:ah):Prop:=(ah.Sm (2^21) a0)
def R:=RR gd md
def ak {a0}(h:gd a0):R (ah.r a0)=some (md a0):=aM (a:=a0) h
def aV:=CN [.agg sX] oB RT.dec R
def bp (a0)(hg:gd a0):F (ah.r a0)=ret (md a0):=by
 unfold gd at hg
 have H0:=hg
 unfold F md
 try simp only [SS]
 refine ct (Z149.ak (le_trans H0.1 (by decide))) ?_
 refine aq ret (fun _=>rfl) (fun c1=>?_)
 refine aq ret (fun c2=>?_) (fun c2=>?_)
 ·refine ct (Z148.ak trivial) ?_
  refine aq ret (fun c3=>?_) (fun _=>rfl)
  all_goals exact fz
 ·refine aq ret (fun c4=>?_) (fun c4=>?_)
  ·refine ct (Z158.ak trivial) ?_
   refine aq ret (fun c5=>?_) (fun _=>rfl)
   all_goals exact fz
  ·refine aq ret (fun c6=>?_) (fun _=>rfl)
   refine ct (Z158.ak trivial) ?_
   refine aq ret (fun c7=>?_) (fun _=>rfl)
   refine ct (Z153.ak (H0.2.mono (by decide) (fun x hx=>(le_trans hx (by decide))))) ?_
   all_goals exact fz
def af:cq 268 aV:=W1 41 F mix aD bp (.cons Z149.af (.cons Z148.af (.cons Z158.af (.cons Z153.af .nil)))) Tryz.func268
def br (a0:ah):md a0=Z80.md a0:=by
 unfold md Z80.md
 simp only [Z149.br,Z148.br,Z158.md,Z153.br]
 cases Z50.md a0.aQ<;>simp
end Z198
namespace Z199
set_option maxHeartbeats 1000000 in
set_option maxRecDepth 100000 in
open Go.RowKit in
def calls (a b:aA)(w:World):Calls Tryz.prog 170 #[.string a,.string b] w fun e w'=>e=.returned (.int .i64 (Lib.compareBytes a.data.toList b.data.toList))/\w'=w:=by
 go_enter Tryz.func170,Tryz.ntmps170
 go_wp2
 rw [run_callFunc_extern Tryz.func226 (by kernel_rfl) (by kernel_rfl) (by kernel_rfl) (e:=Extern.BytealgCompare.compare) (by kernel_rfl),Lib.run_compareString]
 simp only [Result.andThen]
 rw [Oper.upon_value]
 go_wp2
 go_ret
 exact ⟨rfl,rfl⟩
def md (a0 a1:aA):Int:=Lib.compareBytes a0.data.toList a1.data.toList
def R (x:aA×aA):Option Int:=some (md x.1 x.2)
def ak {a0 a1:aA}(_:True):R (a0,a1)=some (md a0 a1):=rfl
def sem:List L->Option (List L)
 | [y0,y1]=>(R (y0.toStr,y1.toStr)).map RT.enc
 | _=>none
def aV:gy:=⟨[.rd .str,.rd .str],.one (.rd (.int .i64)),sem⟩
def af:cq 170 aV:=by
 refine uh ⟨Tryz.f170,Tryz.func170,by kernel_rfl,by kernel_rfl⟩ rfl (fun _=>rfl) fun ls r w vs Z hs hf=>?_
 simp only [aV] at hs
 unfold sem at hs
 split at hs
 ·rename_i a b
  cases hf with
  | cons h1 ht=>
   cases ht with
   | cons h2 ht=>
    cases ht
    have e1:_=Value.string a.toStr:=h1
    have e2:_=Value.string b.toStr:=h2
    subst e1;subst e2
    refine (calls a.toStr b.toStr w).mono fun e w' ⟨h3,h4⟩=>⟨_,h3,h4,?_⟩
    injection hs with hs
    subst hs
    rfl
 ·cases hs
end Z199
namespace Z200
def F (x0 x1:aA):aH:=(call (Z199.R (x0,x1)) fun v1=>ret (v1:Int))
def md (a0 a1:aA):Int:=((Z199.md a0 a1):Int)
def gd (a0 a1:aA):Prop:=True
def R:=RR (p2 gd) (u2 md)
def ak {a0 a1}(h:gd a0 a1):R (a0,a1)=some (md a0 a1):=aM (a:=(a0,a1)) h
def aV:=CN [pS,pS] oI RT.dec R
def bp (a0)(a1)(hg:gd a0 a1):F a0 a1=ret (md a0 a1):=by
 unfold F md
 try simp only [SS]
 refine ct (Z199.ak trivial) ?_
 all_goals exact fz
def af:cq 128 aV:=W2 8 F mix aD bp (.cons Z199.af .nil) Tryz.func128
end Z200
namespace Z201
def F (x0 x1:aA):aH:=(call (Z200.R (x0,x1)) fun v1=>ret (v1:Int))
def md (a0 a1:aA):Int:=((Z200.md a0 a1):Int)
def gd (a0 a1:aA):Prop:=True
def R:=RR (p2 gd) (u2 md)
def ak {a0 a1}(h:gd a0 a1):R (a0,a1)=some (md a0 a1):=aM (a:=(a0,a1)) h
def aV:=CN [pS,pS] oI RT.dec R
def bp (a0)(a1)(hg:gd a0 a1):F a0 a1=ret (md a0 a1):=by
 unfold F md
 try simp only [SS]
 refine ct (Z200.ak trivial) ?_
 all_goals exact fz
def af:cq 79 aV:=W2 8 F mix aD bp (.cons Z200.af .nil) Tryz.func79
def cmp:∀a b:List UInt8,Lib.compareBytes a b=(cond (Op.bytesLess a b) ((-1):Int) (cond (!((Op.bytesLess a b)||(a==b))) (1:Int) (0:Int)))
 | [],[]=>by simp [Lib.compareBytes,Op.bytesLess]
 | [],_::_=>by simp [Lib.compareBytes,Op.bytesLess]
 | _::_,[]=>by simp [Lib.compareBytes,Op.bytesLess]
 | a::xs,b::ys=>by
  simp only [Lib.compareBytes,Op.bytesLess]
  rw [cmp xs ys]
  by_cases h1:a<b
  ·simp [h1]
  ·by_cases h2:b<a
   ·have hne:a≠b:=fun e=>by subst e;exact h1 h2
    have hb:(a==b)=false:=beq_eq_false_iff_ne.2 hne
    simp [h1,h2,hb,hne]
   ·have he:a=b:=by
     have:=UInt8.lt_or_eq_of_le (UInt8.not_lt.1 h1)
     rcases this with h | h
     ·exact (h2 h).elim
     ·exact h.symm
    subst he
    simp [h1]
def br (a0 a1:aA):md a0 a1=Z81.md a0 a1:=by
 unfold md Z81.md Z200.md Z199.md
 rw [cmp,ByteArray.toList_eq,ByteArray.toList_eq]
end Z201
namespace Z202
inductive Pt where
 | p0 (a b:aF) (c d:Int)
def pid:Pt->Nat
 | .p0 ..=>2
def cQ:Pt->List V
 | .p0 a b c d=>[.sl none 38 a,.sl none 38 b,.int .i64 c,.int .i64 d]
def cR:Pt->List aS
 | .p0 a b c d=>[]
def step (J:Pt->aH):Pt->aH
 | .p0 a b c d=>(cond (decide (d<c)) (m2 d (b.length:Int) (call (Z198.R (aW.at b (toNat d))) fun v1=>(cond (!v1) bf (cond (decide (d>0)) (cK (decide ((0:Int)<=(i64.wrap (d - 1)))) (cK (decide ((i64.wrap (d - 1))<(a.length:Int))) (call (Z201.R ((aW.at b (toNat d)).aQ,(aW.at a (toNat (i64.wrap (d - 1)))).aQ)) fun v2=>(cond (decide (v2<=0)) bf (J (.p0 a b c (i64.wrap (d+1)))))))) (J (.p0 a b c (i64.wrap (d+1)))))))) (ret ((decide ((a.length:Int)<=12)):Bool)))
def start (J:Pt->aH)(x0:aF):aH:=J (.p0 x0 x0 (x0.length:Int) 0)
def live:Nat->Live:=fun i=>match i with | 2=>[(0,none),(5,none),(6,none),(7,none)] | _=>[]
def md (a0:List ah):Bool:=(dF (S:=Unit) (β:=Bool) (fun (i1:Nat) (y1:ah) (s3:Unit)=>(cond (!(Z198.md y1)) (.inr (false:Bool)) (cond (decide ((i1:Int)>0)) (cond (decide ((Z201.md (y1.aQ) ((a0.getD (toNat (i64.wrap ((i1:Int) - 1))) ah.zero).aQ))<=0)) (.inr (false:Bool)) (.inl ())) (.inl ())))) (fun (s3:Unit)=>((decide ((a0.length:Int)<=12)):Bool)) 0 a0 ())
def gd (a0:List ah):Prop:=(bI (2^21) (fun y:ah=>ah.Sm (2^21) y) a0)
def R:=RR gd md
def ak {a0}(h:gd a0):R (a0.map ah.row)=some (md a0):=aM (a:=a0) h
def aV:=CN [pL 38] oB RT.dec R
def bp (a0)(hg:gd a0):∃n,start (iter step n) (a0.map ah.row)=ret (md a0):=by
 unfold gd at hg
 have H0:=hg
 unfold start md
 try simp only [SS]
 have Bh2:a0.length<=maxLen:=(by
   have:=(H0).1
   try simp only [maxLen] at *
   omega)
 refine ex_eq (out:=ret) (cH (z:=ah.zero)) ?_
 refine dG (p:=Pt.p0 (a0.map ah.row) (a0.map ah.row) (a0.length:Int) 0) fz ?_
 refine bU (pt:=fun (i1:Nat) (s3:Unit)=>Pt.p0 (a0.map ah.row) (a0.map ah.row) (a0.length:Int) (i1:Int)) (s:=(():Unit)) (out:=ret) (fun _ _=>True) (fun J i1 s3 h2 hih2=>?_) (fun s3 hih2=>?_) trivial
 ·simp only [step,SS]
  have bb_:=Bh2
  simp only [maxLen] at bb_
  have:=(H0).1
  refine bk.yes (by apply decide_eq_true;omega) ?_
  refine bk.yes bE ?_
  refine bk.yes (bM h2) ?_
  refine cr (Z198.ak (bI.getD (z:=ah.zero) H0 h2)) ?_
  refine bk.bif (fun _=>bk.inr rfl) (fun c4=>?_)
  have dc4:=c4
  try simp only [DC] at dc4
  refine bk.bif (fun c5=>?_) (fun c5=>?_)
  ·have dc5:=c5
   try simp only [DC] at dc5
   refine bk.yes dt ?_
   refine bk.yes (have:=(H0).1;dt) ?_
   refine cr (Z201.ak trivial) ?_
   refine bk.bif (fun _=>bk.inr rfl) (fun c6=>?_)
   refine bk.inl trivial ?_
   rw [aJ h2 Bh2]
   all_goals exact fz
  ·refine bk.inl trivial ?_
   rw [aJ h2 Bh2]
   all_goals exact fz
 ·simp only [step,SS]
  have:=(H0).1
  refine cY (by apply decide_eq_false;omega) ?_
  refine ⟨0,?_⟩
  all_goals exact fz
def af:cq 300 aV:=L1 35 pid cQ cR live step start mix aD bp (.cons Z198.af (.cons Z201.af .nil)) Tryz.func300
def br (a0:List ah):md a0=Z82.md a0:=by
 unfold md Z82.md
 refine lC (fun i x _ s=>?_) (fun s=>rfl)
 simp only [Z198.br,Z201.br,Z81.swap]
end Z202
namespace Z203
inductive Pt where
 | p0 (a:aF) (b c:Int) (d:aF)
def pid:Pt->Nat
 | .p0 ..=>3
def cQ:Pt->List V
 | .p0 a b c d=>[.own 0,.sl none 5 a,.int .i64 b,.int .i64 c]
def cR:Pt->List aS
 | .p0 a b c d=>[.row 3 d]
def step (J:Pt->aH):Pt->aH
 | .p0 a b c d=>(cond (decide (c<b)) (m2 c (a.length:Int) (cK (eO (((d.length:Int)+1)*8)) (J (.p0 a b (i64.wrap (c+1)) (d++[[L.int (i64.wrap (jo a (toNat c)))]]))))) (ret (d:aF)))
def start (J:Pt->aH)(x0:aF):aH:=J (.p0 x0 (x0.length:Int) 0 [[L.int (x0.length:Int)]])
def live:Nat->Live:=fun i=>match i with | 3=>[(3,none),(9,none),(10,none),(11,none)] | _=>[]
def md (a0:List Int):List Int:=([(a0.length:Int)]++a0.map (fun (y1:Int)=>(i64.wrap y1)))
def gd (a0:List Int):Prop:=(bI (2^38) (fun y:Int=>True) a0)
def R:=RR gd md
def ak {a0}(h:gd a0):R (a0.map bn)=some ((md a0).map bn):=aM (a:=a0) h
def aV:=CN [pL 5] (oL 3) RT.dec R
def bp (a0)(hg:gd a0):∃n,start (iter step n) (a0.map bn)=ret ((md a0).map bn):=by
 unfold gd at hg
 have H0:=hg
 unfold start md
 try simp only [SS]
 have Bh2:a0.length<=maxLen:=(by
   have:=(H0).1
   try simp only [maxLen] at *
   omega)
 refine ex_eq (out:=(fun b:List Int=>ret ((b.map bn):aF))) (mm (g:=fun (y1:Int)=>(i64.wrap y1)) (z:=0) (t:=fun (s3:List Int)=>s3) (s:=[(a0.length:Int)])) ?_
 refine dG (p:=Pt.p0 (a0.map bn) (a0.length:Int) 0 ([(a0.length:Int)].map bn)) fz ?_
 refine bU (pt:=fun (i1:Nat) (s3:List Int)=>Pt.p0 (a0.map bn) (a0.length:Int) (i1:Int) (s3.map bn)) (s:=([(a0.length:Int)]:List Int)) (out:=(fun b:List Int=>ret ((b.map bn):aF))) (fun (i1:Nat) (s3:List Int)=>s3.length<=[(a0.length:Int)].length+1*i1) (fun J i1 s3 h2 hih2=>?_) (fun s3 hih2=>?_) (by simp)
 ·simp only [step,SS]
  have gr_:=hih2
  try simp only [LN] at gr_
  have:=(H0).1
  have bb_:=Bh2
  simp only [maxLen] at bb_
  have:=(H0).1
  refine bk.yes (by apply decide_eq_true;omega) ?_
  refine bk.yes bE ?_
  refine bk.yes (bM h2) ?_
  refine bk.yes lm ?_
  refine bk.inl (by
    have g_:=hih2
    try simp only [LN] at g_ ⊢
    first | omega | (simp;done) | (simp;omega)) ?_
  rw [aJ h2 Bh2]
  all_goals exact fz
 ·simp only [step,SS]
  have gr_:=hih2
  try simp only [LN] at gr_
  have:=(H0).1
  have:=(H0).1
  refine cY (by apply decide_eq_false;omega) ?_
  refine ⟨0,?_⟩
  all_goals exact fz
def af:cq 374 aV:=L1 22 pid cQ cR live step start mix aD bp .nil Tryz.func374
def len (a0:List Int):(md a0).length=1+a0.length:=by simp [md];omega
def br (a0:List Int):md a0=Z83.md a0:=by
 unfold md Z83.md
 first
 | (simp only [id];done)
 | (simp only [id];rfl)
 | rfl
end Z203
namespace Z204
def F (x0:aA):aH:=(cK (decide ((x0.size:Int)<=140737488355328)) (call (Z203.R (iu x0)) fun v1=>ret (v1:aF)))
def md (a0:aA):List Int:=(Z203.md (iL a0))
def gd (a0:aA):Prop:=(a0.size<=(2^21))
def R:=RR gd md
def ak {a0}(h:gd a0):R a0=some ((md a0).map bn):=aM (a:=a0) h
def aV:=CN [pS] (oL 3) RT.dec R
def bp (a0)(hg:gd a0):F a0=ret ((md a0).map bn):=by
 unfold gd at hg
 have H0:=hg
 unfold F md
 try simp only [SS]
 refine aN (have:=H0;dt) ?_
 refine cF ((Z203.md (iL a0)).map bn) (rq (Z203.ak (a0:=(iL a0)) ⟨(have:=gL a0;have:=H0;om),fun _ _=>trivial⟩)) ?_
 try simp only [SS]
 all_goals exact fz
def af:cq 345 aV:=W1 6 F mix aD bp (.cons Z203.af .nil) Tryz.func345
def len (a0:aA):(md a0).length=1+a0.size:=by simp [md,Z203.len,gL]
def br (a0:aA):md a0=Z84.md a0:=by
 unfold md Z84.md
 first
 | (simp only [Z203.br];done)
 | (simp only [Z203.br];rfl)
 | rfl
end Z204
namespace Z205
inductive Pt where
 | p0 (a:aF) (b c:Int) (d:aF)
def pid:Pt->Nat
 | .p0 ..=>3
def cQ:Pt->List V
 | .p0 a b c d=>[.own 0,.sl none 9 a,.int .i64 b,.int .i64 c]
def cR:Pt->List aS
 | .p0 a b c d=>[.row 3 d]
def step (J:Pt->aH):Pt->aH
 | .p0 a b c d=>(cond (decide (c<b)) (m2 c (a.length:Int) (call (Z204.R (pW a (toNat c))) fun v1=>(cK (eO (((d.length:Int)+(v1.length:Int))*8)) (J (.p0 a b (i64.wrap (c+1)) (d++v1)))))) (ret (d:aF)))
def start (J:Pt->aH)(x0:aW):aH:=(call (Z204.R x0.aQ) fun v1=>(cK (eO (((v1.length:Int)+3)*8)) (J (.p0 x0.bB (x0.bB.length:Int) 0 (v1++[[L.int x0.bL],[L.int x0.bX],[L.int (x0.bB.length:Int)]])))))
def live:Nat->Live:=fun i=>match i with | 3=>[(3,none),(19,none),(20,none),(21,none)] | _=>[]
def md (a0:ah):List Int:=(((Z204.md a0.aQ)++[a0.bL,a0.bX,(a0.bB.length:Int)])++a0.bB.flatMap (fun (y1:aA)=>(Z204.md y1)))
def gd (a0:ah):Prop:=(ah.Sm (2^21) a0)
def R:=RR gd md
def ak {a0}(h:gd a0):R (ah.r a0)=some ((md a0).map bn):=aM (a:=a0) h
def aV:=CN [.agg sX] (oL 3) RT.dec R
def bp (a0)(hg:gd a0):∃n,start (iter step n) (ah.r a0)=ret ((md a0).map bn):=by
 unfold gd at hg
 have H0:=hg
 unfold start md
 try simp only [SS]
 refine cx (Z204.ak H0.1) ?_
 try simp only [SS]
 refine dw (have:=Z204.len a0.aQ;have:=H0.1;lm) ?_
 have Bh2:a0.bB.length<=maxLen:=(by
   have:=(H0.2).1
   try simp only [maxLen] at *
   omega)
 refine ex_eq (out:=(fun b:List Int=>ret ((b.map bn):aF))) (qw (g:=fun (y1:aA)=>(Z204.md y1)) (z:=⟨#[]⟩) (t:=fun (s3:List Int)=>s3) (s:=((Z204.md a0.aQ)++[a0.bL,a0.bX,(a0.bB.length:Int)]))) ?_
 refine dG (p:=Pt.p0 (a0.bB.map cL) (a0.bB.length:Int) 0 (((Z204.md a0.aQ)++[a0.bL,a0.bX,(a0.bB.length:Int)]).map bn)) fz ?_
 refine bU (pt:=fun (i1:Nat) (s3:List Int)=>Pt.p0 (a0.bB.map cL) (a0.bB.length:Int) (i1:Int) (s3.map bn)) (s:=(((Z204.md a0.aQ)++[a0.bL,a0.bX,(a0.bB.length:Int)]):List Int)) (out:=(fun b:List Int=>ret ((b.map bn):aF))) (fun (i1:Nat) (s3:List Int)=>s3.length<=4+a0.aQ.size+i1*(2^21+1)) (fun J i1 s3 h2 hih2=>?_) (fun s3 hih2=>?_) (by
   have:=(H0.2).1
   have:=Z204.len a0.aQ
   have:=H0.1
   try simp only [LN]
   try simp
   try omega)
 ·simp only [step,SS]
  have gr_:=hih2
  try simp only [LN] at gr_
  have:=H0.1
  have bb_:=Bh2
  simp only [maxLen] at bb_
  have:=(H0.2).1
  refine bk.yes (by apply decide_eq_true;omega) ?_
  refine bk.yes bE ?_
  refine bk.yes (bM h2) ?_
  refine cr (Z204.ak (bI.getD (z:=⟨#[]⟩) H0.2 h2)) ?_
  try simp only [SS]
  refine bk.yes (have:=Z204.len (a0.bB.getD i1 ⟨#[]⟩);have:=(bI.getD (z:=⟨#[]⟩) H0.2 h2);lm) ?_
  refine bk.inl (by
    have:=Z204.len (a0.bB.getD i1 ⟨#[]⟩)
    have:=(bI.getD (z:=⟨#[]⟩) H0.2 h2)
    have g_:=hih2
    try simp only [LN] at g_ ⊢
    first | omega | (simp;done) | (simp;omega)) ?_
  rw [aJ h2 Bh2]
  all_goals exact fz
 ·simp only [step,SS]
  have gr_:=hih2
  try simp only [LN] at gr_
  have:=H0.1
  have:=(H0.2).1
  refine cY (by apply decide_eq_false;omega) ?_
  refine ⟨0,?_⟩
  all_goals exact fz
def af:cq 317 aV:=L1 31 pid cQ cR live step start mix aD bp (.cons Z204.af .nil) Tryz.func317
def gk {a0:ah}(hg:gd a0):bI (2^43 - 1) (fun y:Int=>True) (md a0):=by
 unfold gd at hg
 refine ⟨?_,fun _ _=>trivial⟩
 unfold md
 have h1:=lH (xs:=a0.bB) (g:=fun y=>Z204.md y) (n:=2^21+1) (fun x hx=>by rw [Z204.len];have:=hg.2.2 x hx;omega)
 have h2:=hg.1
 have h3:=hg.2.1
 have h4:=Z204.len a0.aQ
 simp only [List.length_append,List.length_cons,List.length_nil]
 omega
def br (a0:ah):md a0=Z85.md a0:=by
 unfold md Z85.md
 first
 | (simp only [Z204.br];done)
 | (simp only [Z204.br];rfl)
 | rfl
end Z205
namespace Z206
def F (x0:aW):aH:=(call (Z205.R x0) fun v1=>(cK (eO (((1:Int)+(v1.length:Int))*8)) (call (Z169.R ([[L.int 227]]++v1)) fun v2=>ret (v2:Int))))
def md (a0:ah):Int:=((Z169.md ([227]++(Z205.md a0))):Int)
def gd (a0:ah):Prop:=(ah.Sm (2^21) a0)
def R:=RR gd md
def ak {a0}(h:gd a0):R (ah.r a0)=some (md a0):=aM (a:=a0) h
def aV:=CN [.agg sX] oI RT.dec R
def bp (a0)(hg:gd a0):F (ah.r a0)=ret (md a0):=by
 unfold gd at hg
 have H0:=hg
 unfold F md
 try simp only [SS]
 refine ct (Z205.ak H0) ?_
 try simp only [SS]
 refine aN (have:=((Z205.gk (a0:=a0) H0)).1;lm) ?_
 refine cF (Z169.md ([227]++(Z205.md a0))) (rq (Z169.ak (a0:=([227]++(Z205.md a0))) ⟨(have:=((Z205.gk (a0:=a0) H0)).1;om),fun _ _=>trivial⟩)) ?_
 all_goals exact fz
def af:cq 267 aV:=W1 8 F mix aD bp (.cons Z205.af (.cons Z169.af .nil)) Tryz.func267
def br (a0:ah):md a0=Z86.md a0:=by
 unfold md Z86.md
 first
 | (simp only [Z205.br,Z169.br];done)
 | (simp only [Z205.br,Z169.br];rfl)
 | rfl
end Z206
end Go.DM
end
