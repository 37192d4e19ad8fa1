/- What the functions compute that the law reaches, and that the law returns true. Conditions: none. -/
import Derived.Test.YtknikjmcpjaggaaGreatResolveTy
import Derived.Test.YtknikjmcpjaggaaGreatResolveFnA
import Derived.Test.YtknikjmcpjaggaaGreatProg
import Derived.Lib.AppendZerosOnto
import Derived.Lib.Bytealg
import Derived.Laws.Externs
import Derived.Lib.Walk
import Derived.Lib.Hide
import Derived.Lib.Strings
set_option linter.all false
set_option maxRecDepth 100000
noncomputable section
namespace Go.DM
open Go.Proofs
open Go.IntKind (i64)
open Int (toNat)
namespace Z101
inductive Pt where
 | p0 (a:List (List L)) (b:List (List L)) (c:Int) (d:Int) (e:Int) (f:Int) (g:Int) (h:Int) (i:Int) (j:Int) (k:Int) (l:Int) (m:Int) (n:Int) (o:Int) (p:Bool) (q:Int) (s:Int) (t:Int) (u:Int) (v:Int) (w:Int) (y:Int) (z:Int) (w24:Int) (w25:Int) (w26:Int) (w27:Int) (w28:Bool) (w29:Int) (w30:Int) (w31:Int) (w32:Int) (w33:Int) (w34:Int) (w35:Int) (w36:Int) (w37:Int) (w38:Int) (w39:Int) (w40:Int) (w41:Bool)
def pid:Pt→Nat
 | .p0 ..=>4
def bY:Pt→List V
 | .p0 a b c d e f g h i j k l m n o p q s t u v w y z w24 w25 w26 w27 w28 w29 w30 w31 w32 w33 w34 w35 w36 w37 w38 w39 w40 w41=>[.sl none 123 a,.sl none 123 b,.dc 0 0,.int .i64 c]
def bZ:Pt→List aU
 | .p0 a b c d e f g h i j k l m n o p q s t u v w y z w24 w25 w26 w27 w28 w29 w30 w31 w32 w33 w34 w35 w36 w37 w38 w39 w40 w41=>[.box [.int .i64 d,.int .i64 e,.int .i64 f,.int .i64 g,.int .i64 h,.int .i64 i,.int .i64 j,.int .i64 k,.nil,.int .i64 l,.nil,.int .i64 m,.int .i64 n,.nil,.int .i64 o,.bool p,.nil,.int .i64 q,.int .i64 s,.int .i64 t,.int .i64 u,.int .i64 v,.int .i64 w,.int .i64 y,.int .i64 z,.nil,.int .i64 w24,.nil,.int .i64 w25,.int .i64 w26,.nil,.int .i64 w27,.bool w28,.nil,.int .i64 w29,.int .i64 w30,.int .i64 w31,.int .i64 w32,.int .i64 w33,.int .i64 w34,.int .i64 w35,.int .i64 w36,.nil,.int .i64 w37,.nil,.int .i64 w38,.int .i64 w39,.nil,.int .i64 w40,.bool w41,.nil]]
def step (J:Pt→aG):Pt→aG
 | .p0 a b c d e f g h i j k l m n o p q s t u v w y z w24 w25 w26 w27 w28 w29 w30 w31 w32 w33 w34 w35 w36 w37 w38 w39 w40 w41=>(cond (decide (c<(a.length:Int))) (cond (decide (c<(b.length:Int))) (m2 c (a.length:Int) (m2 c (b.length:Int) (call (Z98.R ((aO.at a (toNat c)).aq,(aO.at b (toNat c)).aq)) fun v1=>(cond v1 (J (.p0 a b (i64.wrap (c+1)) d e f g h i j k l m n o p q s t u v w y z w24 w25 w26 w27 w28 w29 w30 w31 w32 w33 w34 w35 w36 w37 w38 w39 w40 w41)) (m2 c (a.length:Int) (call (Z37.R (aO.at a (toNat c))) fun v2=>(m2 c (b.length:Int) (call (Z37.R (aO.at b (toNat c))) fun v3=>(cond (decide (c>0)) (bX (decide ((0:Int)≤(i64.wrap (c - 1)))) (bX (decide ((i64.wrap (c - 1))<(a.length:Int))) (call (Z37.R (aO.at a (toNat (i64.wrap (c - 1))))) fun v4=>ret (((⟨v4,v2,v3⟩:bF),true):bF×Bool)))) (ret (((⟨(⟨(⟨0,0,0,0,0,0,0,0,(⟨[],0⟩:bu),(⟨[],0⟩:bu),0,(⟨[],0⟩:bu),false⟩:bU),[]⟩:aO),v2,v3⟩:bF),true):bF×Bool))))))))))) (m2 c (a.length:Int) (call (Z37.R (aO.at a (toNat c))) fun v5=>(m2 c (b.length:Int) (call (Z37.R (aO.at b (toNat c))) fun v6=>(cond (decide (c>0)) (bX (decide ((0:Int)≤(i64.wrap (c - 1)))) (bX (decide ((i64.wrap (c - 1))<(a.length:Int))) (call (Z37.R (aO.at a (toNat (i64.wrap (c - 1))))) fun v7=>ret (((⟨v7,v5,v6⟩:bF),true):bF×Bool)))) (ret (((⟨(⟨(⟨0,0,0,0,0,0,0,0,(⟨[],0⟩:bu),(⟨[],0⟩:bu),0,(⟨[],0⟩:bu),false⟩:bU),[]⟩:aO),v5,v6⟩:bF),true):bF×Bool)))))))) (m2 c (a.length:Int) (call (Z37.R (aO.at a (toNat c))) fun v8=>(m2 c (b.length:Int) (call (Z37.R (aO.at b (toNat c))) fun v9=>(cond (decide (c>0)) (bX (decide ((0:Int)≤(i64.wrap (c - 1)))) (bX (decide ((i64.wrap (c - 1))<(a.length:Int))) (call (Z37.R (aO.at a (toNat (i64.wrap (c - 1))))) fun v10=>ret (((⟨v10,v8,v9⟩:bF),true):bF×Bool)))) (ret (((⟨(⟨(⟨0,0,0,0,0,0,0,0,(⟨[],0⟩:bu),(⟨[],0⟩:bu),0,(⟨[],0⟩:bu),false⟩:bU),[]⟩:aO),v8,v9⟩:bF),true):bF×Bool))))))))
def start (J:Pt→aG)(x0:List (List L))(x1:List (List L)):aG:=(call (Z69.R x0) fun v1=>(cond (!v1) (ret (((⟨(⟨(⟨0,0,0,0,0,0,0,0,(⟨[],0⟩:bu),(⟨[],0⟩:bu),0,(⟨[],0⟩:bu),false⟩:bU),[]⟩:aO),(⟨(⟨0,0,0,0,0,0,0,0,(⟨[],0⟩:bu),(⟨[],0⟩:bu),0,(⟨[],0⟩:bu),false⟩:bU),[]⟩:aO),(⟨(⟨0,0,0,0,0,0,0,0,(⟨[],0⟩:bu),(⟨[],0⟩:bu),0,(⟨[],0⟩:bu),false⟩:bU),[]⟩:aO)⟩:bF),false):bF×Bool)) (call (Z69.R x1) fun v2=>(cond (!v2) (ret (((⟨(⟨(⟨0,0,0,0,0,0,0,0,(⟨[],0⟩:bu),(⟨[],0⟩:bu),0,(⟨[],0⟩:bu),false⟩:bU),[]⟩:aO),(⟨(⟨0,0,0,0,0,0,0,0,(⟨[],0⟩:bu),(⟨[],0⟩:bu),0,(⟨[],0⟩:bu),false⟩:bU),[]⟩:aO),(⟨(⟨0,0,0,0,0,0,0,0,(⟨[],0⟩:bu),(⟨[],0⟩:bu),0,(⟨[],0⟩:bu),false⟩:bU),[]⟩:aO)⟩:bF),false):bF×Bool)) (bX (decide ((0:Int)<(x0.length:Int))) (bX (decide ((0:Int)<(x1.length:Int))) (cond ((aO.at x0 0).aq.bA != (aO.at x1 0).aq.bA) (ret (((⟨(⟨(⟨0,0,0,0,0,0,0,0,(⟨[],0⟩:bu),(⟨[],0⟩:bu),0,(⟨[],0⟩:bu),false⟩:bU),[]⟩:aO),(⟨(⟨0,0,0,0,0,0,0,0,(⟨[],0⟩:bu),(⟨[],0⟩:bu),0,(⟨[],0⟩:bu),false⟩:bU),[]⟩:aO),(⟨(⟨0,0,0,0,0,0,0,0,(⟨[],0⟩:bu),(⟨[],0⟩:bu),0,(⟨[],0⟩:bu),false⟩:bU),[]⟩:aO)⟩:bF),false):bF×Bool)) (call (Z99.R (x0,x1)) fun v3=>(cond v3 (ret (((⟨(⟨(⟨0,0,0,0,0,0,0,0,(⟨[],0⟩:bu),(⟨[],0⟩:bu),0,(⟨[],0⟩:bu),false⟩:bU),[]⟩:aO),(⟨(⟨0,0,0,0,0,0,0,0,(⟨[],0⟩:bu),(⟨[],0⟩:bu),0,(⟨[],0⟩:bu),false⟩:bU),[]⟩:aO),(⟨(⟨0,0,0,0,0,0,0,0,(⟨[],0⟩:bu),(⟨[],0⟩:bu),0,(⟨[],0⟩:bu),false⟩:bU),[]⟩:aO)⟩:bF),false):bF×Bool)) (call (Z99.R (x1,x0)) fun v4=>(cond v4 (ret (((⟨(⟨(⟨0,0,0,0,0,0,0,0,(⟨[],0⟩:bu),(⟨[],0⟩:bu),0,(⟨[],0⟩:bu),false⟩:bU),[]⟩:aO),(⟨(⟨0,0,0,0,0,0,0,0,(⟨[],0⟩:bu),(⟨[],0⟩:bu),0,(⟨[],0⟩:bu),false⟩:bU),[]⟩:aO),(⟨(⟨0,0,0,0,0,0,0,0,(⟨[],0⟩:bu),(⟨[],0⟩:bu),0,(⟨[],0⟩:bu),false⟩:bU),[]⟩:aO)⟩:bF),false):bF×Bool)) (J (.p0 x0 x1 0 0 0 0 0 0 0 0 0 0 0 0 0 false 0 0 0 0 0 0 0 0 0 0 0 0 false 0 0 0 0 0 0 0 0 0 0 0 0 false)))))))))))))
def live:Nat→Live:=fun i=>match i with | 4=>[(0,none),(1,none),(4,none),(6,none)] | _=>[]
def pt (a b:List (List L))(c:Int):Pt:=Pt.p0 a b c 0 0 0 0 0 0 0 0 0 0 0 0 false 0 0 0 0 0 0 0 0 0 0 0 0 false 0 0 0 0 0 0 0 0 0 0 0 0 false
def fk:List aa→List aa→Nat
 | x::xs,y::ys=>bif Z98.md x.aq y.aq then fk xs ys+1 else 0
 | _,_=>0
theorem pX:∀a b:List aa,(∀i,i<fk a b→Z98.md (a.getD i aa.zero).aq (b.getD i aa.zero).aq=true)∧
    ((fk a b<a.length∧fk a b<b.length∧Z98.md (a.getD (fk a b) aa.zero).aq (b.getD (fk a b) aa.zero).aq=false)∨
     (a.length≤b.length∧∀i,i<a.length→Z98.md (a.getD i aa.zero).aq (b.getD i aa.zero).aq=true)∨
     (b.length≤a.length∧∀i,i<b.length→Z98.md (a.getD i aa.zero).aq (b.getD i aa.zero).aq=true))
  | [],b=>⟨fun i hi=>by simp [fk] at hi,.inr (.inl ⟨Nat.zero_le _,fun i hi=>by simp at hi⟩)⟩
  | x::xs,[]=>⟨fun i hi=>by simp [fk] at hi,.inr (.inr ⟨Nat.zero_le _,fun i hi=>by simp at hi⟩)⟩
  | x::xs,y::ys=>by
    obtain ⟨h1,h2⟩:=pX xs ys
    cases h:Z98.md x.aq y.aq
    · have e:fk (x::xs) (y::ys)=0:=by simp [fk,h]
      rw [e]
      exact ⟨fun i hi=>by omega,.inl ⟨by simp,by simp,h⟩⟩
    · have e:fk (x::xs) (y::ys)=fk xs ys+1:=by simp [fk,h]
      rw [e]
      have up:∀{m:Nat},(∀i,i<m→Z98.md (xs.getD i aa.zero).aq (ys.getD i aa.zero).aq=true)→∀i,i<m+1→Z98.md ((x::xs).getD i aa.zero).aq ((y::ys).getD i aa.zero).aq=true:=by
        intro m hm i hi
        cases i with
        | zero=>exact h
        | succ i=>exact hm i (by omega)
      refine ⟨up h1,?_⟩
      rcases h2 with ⟨a,b,c⟩ | ⟨a,b⟩ | ⟨a,b⟩
      · exact .inl ⟨by simpa using a,by simpa using b,c⟩
      · exact .inr (.inl ⟨by simpa using a,up b⟩)
      · exact .inr (.inr ⟨by simpa using a,up b⟩)
theorem xZ {a b:List aa}(hl:a.length≤b.length)(h:∀i,i<a.length→Z98.md (a.getD i aa.zero).aq (b.getD i aa.zero).aq=true):Z99.md a b=true:=by
 unfold Z99.md
 rw [decide_eq_false (by omega),bk]
 refine (jo (fun i=>Z98.md (a.getD i aa.zero).aq (b.getD i aa.zero).aq=true) (fun i _ hi=>?_) (fun i _ hi=>?_)).2 ⟨h,rfl⟩
 ·simp only [hi,Bool.not_true,bk]
 ·rw [Bool.not_eq_true] at hi
  simp only [hi,Bool.not_false,bf]
theorem eq_comm {a b:aC}(h:Z98.md a b=true):Z98.md b a=true:=by
 rw [Z98.md_eq,dm] at h ⊢
 exact h.symm
theorem kV {a b:List aa}(h1:Z99.md a b=false)(h2:Z99.md b a=false):fk a b<a.length∧fk a b<b.length∧Z98.md (a.getD (fk a b) aa.zero).aq (b.getD (fk a b) aa.zero).aq=false:=by
 rcases (pX a b).2 with h | ⟨h3,h4⟩ | ⟨h3,h4⟩
 ·exact h
 ·rw [xZ h3 h4] at h1;cases h1
 ·rw [xZ h3 fun i hi=>eq_comm (h4 i hi)] at h2;cases h2
def uP (a b:List aa):Nat→aB
 | 0=>⟨aa.zero,a.getD 0 aa.zero,b.getD 0 aa.zero⟩
 | k+1=>⟨a.getD k aa.zero,a.getD (k+1) aa.zero,b.getD (k+1) aa.zero⟩
theorem wm {a b:List aa}(h0:bK (2^21) (fun y:aa=>aa.Sm (2^21) y) a)(h1:bK (2^21) (fun y:aa=>aa.Sm (2^21) y) b){k:Nat}(hk:k<a.length)(hk2:k<b.length):aB.Sm (2^21) (uP a b k):=by
 cases k with
 | zero=>exact ⟨⟨⟨bK.nil,bK.nil,bK.nil⟩,bK.nil⟩,bK.getD h0 hk,bK.getD h1 hk2⟩
 | succ k=>exact ⟨bK.getD h0 (by omega),bK.getD h0 hk,bK.getD h1 hk2⟩
theorem zl {a b:List aa}{k:Nat}(hk:k<a.length)(hk2:k<b.length):aB.size (uP a b k)≤2*dQ (fun y:aa=>aa.size y) a+dQ (fun y:aa=>aa.size y) b:=by
 have h1:=nK (f:=fun y:aa=>aa.size y) (xs:=b) (i:=k) (z:=aa.zero) hk2
 have h2:=nK (f:=fun y:aa=>aa.size y) (xs:=a) (i:=k) (z:=aa.zero) hk
 have h0:aa.size aa.zero=0:=rfl
 cases k with
 | zero=>simp only [uP,aB.size];omega
 | succ k=>
  have h3:=nK (f:=fun y:aa=>aa.size y) (xs:=a) (i:=k) (z:=aa.zero) (by omega)
  simp only [uP,aB.size];omega
def md (a0:List aa)(a1:List aa):aB×Bool:=(cond (!(Z69.md a0)) (aB.zero,false) (cond (!(Z69.md a1)) (aB.zero,false) (cond (((a0.getD 0 aa.zero).aq).bA != ((a1.getD 0 aa.zero).aq).bA) (aB.zero,false) (cond (Z99.md a0 a1) (aB.zero,false) (cond (Z99.md a1 a0) (aB.zero,false) (uP a0 a1 (fk a0 a1),true))))))
def gd (a0:List aa)(a1:List aa):Prop:=bK (2^21) (fun y:aa=>aa.Sm (2^21) y) a0∧bK (2^21) (fun y:aa=>aa.Sm (2^21) y) a1
def R:=RR (p2 gd) (u2 md)
theorem aj {a0 a1}(h:gd a0 a1):R ((a0.map aa.row),(a1.map aa.row))=some ((aB.r (md a0 a1).1),(md a0 a1).2):=aM (a:=(a0,a1)) h
def aV:=CN [pL 123,pL 123] (.iT [(true,f280),(false,[fB])]) RT.dec R
theorem bq (a0)(a1)(hg:gd a0 a1):∃n,start (iter step n) (a0.map aa.row) (a1.map aa.row)=ret ((aB.r (md a0 a1).1),(md a0 a1).2):=by
 unfold gd at hg
 obtain ⟨H0,H1⟩:=hg
 have hl0:=H0.1
 have hl1:=H1.1
 have key:fk a0 a1<a0.length→fk a0 a1<a1.length→Z98.md (a0.getD (fk a0 a1) aa.zero).aq (a1.getD (fk a0 a1) aa.zero).aq=false→∀d k,k+d=fk a0 a1→∃n,iter step n (pt (a0.map aa.row) (a1.map aa.row) (k:Int))=ret ((aB.r (uP a0 a1 (fk a0 a1)),true):bF×Bool):=by
  intro hn0 hn1 hne d
  have hR:∀k,k<a0.length→k<a1.length→Z98.R (aC.r (a0.getD k aa.zero).aq,aC.r (a1.getD k aa.zero).aq)=some (Z98.md (a0.getD k aa.zero).aq (a1.getD k aa.zero).aq):=by
   intro k h0 h1
   rw [Z98.aj ⟨(bK.getD (z:=aa.zero) H0 h0).1,(bK.getD (z:=aa.zero) H1 h1).1⟩]
  induction d with
  | zero=>
   intro k hk
   obtain rfl:k=fk a0 a1:=by omega
   generalize hkk:fk a0 a1=k at hn0 hn1 hne ⊢
   refine ⟨1,?_⟩
   show step (iter step 0) _=_
   have q1:(0:Int)≤(k:Int):=by omega
   have q2:(k:Int)<(a0.length:Int):=by omega
   have q3:(k:Int)<(a1.length:Int):=by omega
   simp only [pt,step,MM,S0,aa.rs,aC.rs,q1,q2,q3,decide_true,bf]
   rw [call_eq (hR k hn0 hn1),hne,bk,call_eq (Z37.aj (a0:=a0.getD k aa.zero) (bK.getD (z:=aa.zero) H0 hn0)),call_eq (Z37.aj (a0:=a1.getD k aa.zero) (bK.getD (z:=aa.zero) H1 hn1))]
   cases k with
   | zero=>rfl
   | succ k=>
    have q4:((k+1:Nat):Int)>0:=by omega
    have q5:i64.wrap (((k+1:Nat):Int) - 1)=(k:Int):=by rw [wi _ (by omega)];omega
    have q6:(0:Int)≤(k:Int):=by omega
    have q7:(k:Int)<(a0.length:Int):=by omega
    simp only [q4,q5,q6,q7,decide_true,bf,S0,aa.rs]
    rw [call_eq (Z37.aj (a0:=a0.getD k aa.zero) (bK.getD (z:=aa.zero) H0 (by omega)))]
    rfl
  | succ d ih=>
   intro k hk
   obtain ⟨n,hn⟩:=ih (k+1) (by omega)
   refine ⟨n+1,?_⟩
   show step (iter step n) _=_
   have q1:(0:Int)≤(k:Int):=by omega
   have q2:(k:Int)<(a0.length:Int):=by omega
   have q3:(k:Int)<(a1.length:Int):=by omega
   simp only [pt,step,MM,S0,aa.rs,aC.rs,q1,q2,q3,decide_true,bf]
   rw [call_eq (hR k (by omega) (by omega)),(pX a0 a1).1 k (by omega),bf,wi _ (by omega)]
   exact hn
 unfold start md
 simp only [S0,aa.rs,aC.rs]
 refine eW (Z69.md a0) (Z69.aj H0) ?_
 cases hc0:Z69.md a0
 ·exact ⟨0,rfl⟩
 simp only [Bool.not_true,bk]
 refine eW (Z69.md a1) (Z69.aj H1) ?_
 cases hc1:Z69.md a1
 ·exact ⟨0,rfl⟩
 have t0:=Z69.tr hc0
 have t1:=Z69.tr hc1
 simp only [Bool.not_true,bk]
 refine dI (decide_eq_true (by omega)) (dI (decide_eq_true (by omega)) ?_)
 cases ((a0.getD 0 aa.zero).aq.bA != (a1.getD 0 aa.zero).aq.bA)
 case true=>exact ⟨0,rfl⟩
 simp only [bk]
 refine eW (Z99.md a0 a1) (Z99.aj ⟨H0,H1⟩) ?_
 cases hp0:Z99.md a0 a1
 case true=>exact ⟨0,rfl⟩
 simp only [bk]
 refine eW (Z99.md a1 a0) (Z99.aj ⟨H1,H0⟩) ?_
 cases hp1:Z99.md a1 a0
 case true=>exact ⟨0,rfl⟩
 simp only [bk]
 obtain ⟨h1,h2,h3⟩:=kV hp0 hp1
 exact key h1 h2 h3 (fk a0 a1) 0 (by omega)
theorem af:cw 246 aV:=L2 86 pid bY bZ live step start mix aD bq (.cons Z69.af (.cons Z99.af (.cons Z98.af (.cons Z37.af .nil)))) Tryz.func246
theorem gh {a0:List aa}{a1:List aa}(hg:gd a0 a1):aB.Sm (2^21) ((md a0 a1).1):=by
 unfold gd at hg;unfold md
 have z:aB.Sm (2^21) aB.zero:=⟨⟨⟨bK.nil,bK.nil,bK.nil⟩,bK.nil⟩,⟨⟨bK.nil,bK.nil,bK.nil⟩,bK.nil⟩,⟨⟨bK.nil,bK.nil,bK.nil⟩,bK.nil⟩⟩
 cases Z69.md a0
 ·exact z
 cases Z69.md a1
 ·exact z
 cases ((a0.getD 0 aa.zero).aq.bA != (a1.getD 0 aa.zero).aq.bA)
 case true=>exact z
 cases h1:Z99.md a0 a1
 case true=>exact z
 cases h2:Z99.md a1 a0
 case true=>exact z
 obtain ⟨h3,h4,_⟩:=Z101.kV h1 h2
 exact Z101.wm hg.1 hg.2 h3 h4
end Z101
namespace Z102
def F (x0:bn)(x1:List (List L)):aG:=(call (Z40.R x0) fun v1=>(call (Z100.R (x0,x1)) fun v2=>(cond (v2==1) (cond (decide ((x0.aF.length:Int)≥8)) (ret ((v1,6):bn×Int)) (call (Z38.R x1) fun v3=>(bX (eU (((v1.aF.length:Int)+1)*24)) (ret (((⟨(v1.aF++[[L.sl v3]]),v1.bg⟩:bn),v2):bn×Int))))) (cond (v2==3) (bX (decide ((0:Int)<(x1.length:Int))) (call (Z97.R (x0,(aO.at x1 0).aq.bA)) fun v4=>(call (Z38.R x1) fun v5=>(m2 v4 (v1.aF.length:Int) (ret (((⟨(List.set v1.aF (toNat v4) [L.sl v5]),v1.bg⟩:bn),v2):bn×Int)))))) (cond (v2==5) (bX (decide ((0:Int)<(x1.length:Int))) (call (Z97.R (x0,(aO.at x1 0).aq.bA)) fun v6=>(m2 v6 (x0.aF.length:Int) (call (Z101.R ((oO x0.aF (toNat v6)),x1)) fun v7=>(cond v7.2 (cond (decide ((x0.bg.length:Int)<8)) (bX (eU (((v1.bg.length:Int)+1)*600)) (ret (((⟨v1.aF,(v1.bg++[(bF.enc v7.1)])⟩:bn),v2):bn×Int))) (ret ((v1,v2):bn×Int))) (ret ((v1,v2):bn×Int))))))) (ret ((v1,v2):bn×Int)))))))
def md (a0:au)(a1:List aa):au×Int:=(cond ((Z100.md a0 a1)==1) (cond (decide ((a0.aF.length:Int)≥8)) (a0,6) ((⟨(a0.aF++[a1]),a0.bg⟩:au),(Z100.md a0 a1))) (cond ((Z100.md a0 a1)==3) ((⟨(List.set a0.aF (toNat (Z97.md a0 (((a1.getD 0 aa.zero).aq).bA))) a1),a0.bg⟩:au),(Z100.md a0 a1)) (cond ((Z100.md a0 a1)==5) (cond ((Z101.md (a0.aF.getD (toNat (Z97.md a0 (((a1.getD 0 aa.zero).aq).bA))) []) a1).2) (cond (decide ((a0.bg.length:Int)<8)) ((⟨a0.aF,(a0.bg++[(Z101.md (a0.aF.getD (toNat (Z97.md a0 (((a1.getD 0 aa.zero).aq).bA))) []) a1).1])⟩:au),(Z100.md a0 a1)) (a0,(Z100.md a0 a1))) (a0,(Z100.md a0 a1))) (a0,(Z100.md a0 a1)))))
def gd (a0:au)(a1:List aa):Prop:=(au.Sm (2^21) a0)∧(bK (2^21) (fun y:aa=>aa.Sm (2^21) y) a1)
def R:=RR (p2 gd) (u2 md)
theorem aj {a0 a1}(h:gd a0 a1):R ((au.r a0),(a1.map aa.row))=some ((au.r (md a0 a1).1),(md a0 a1).2):=aM (a:=(a0,a1)) h
def aV:=CN [.agg tI,pL 123] (.iT [(true,f37),(false,[fI])]) RT.dec R
theorem bq (a0)(a1)(hg:gd a0 a1):F (au.r a0) (a1.map aa.row)=ret ((au.r (md a0 a1).1),(md a0 a1).2):=by
 obtain ⟨H0,H1⟩:=hg
 unfold F md
 try simp only [SS]
 refine ct (Z40.aj H0) ?_
 try simp only [SS]
 refine ct (Z100.aj ⟨H0,H1⟩) ?_
 have fv2_:=Z100.fa a0 a1
 refine av (fun b:au×Int=>ret (((au.r b.1),b.2):bn×Int)) (fun c1=>?_) (fun c1=>?_)
 ·have dc1:=c1
  try simp only [DC] at dc1
  refine av (fun b:au×Int=>ret (((au.r b.1),b.2):bn×Int)) (fun c2=>?_) (fun c2=>?_)
  ·all_goals exact fz
  ·have dc2:=c2
   try simp only [DC] at dc2
   refine ct (Z38.aj H1) ?_
   try simp only [SS]
   refine ak (have:=(H0.1).1;lm) ?_
   all_goals exact fz
 ·have dc1:=c1
  try simp only [DC] at dc1
  refine av (fun b:au×Int=>ret (((au.r b.1),b.2):bn×Int)) (fun c3=>?_) (fun c3=>?_)
  ·have dc3:=c3
   try simp only [DC] at dc3
   refine ak (have:=(H1).1;dt) ?_
   refine ct (Z97.aj H0) ?_
   have fv4_:=Z97.fa a0 (((a1.getD 0 aa.zero).aq).bA)
   refine ct (Z38.aj H1) ?_
   try simp only [SS]
   refine ak dt ?_
   refine ak (have:=(H0.1).1;dt) ?_
   all_goals exact fz
  ·have dc3:=c3
   try simp only [DC] at dc3
   refine av (fun b:au×Int=>ret (((au.r b.1),b.2):bn×Int)) (fun c4=>?_) (fun c4=>?_)
   ·have dc4:=c4
    try simp only [DC] at dc4
    refine ak (have:=(H1).1;dt) ?_
    refine ct (Z97.aj H0) ?_
    have fv6_:=Z97.fa a0 (((a1.getD 0 aa.zero).aq).bA)
    refine ak dt ?_
    refine ak (have:=(H0.1).1;dt) ?_
    refine ct (Z101.aj ⟨(bK.getD (z:=[]) H0.1 (by first | assumption | omega | (simp (disch:=omega) only [wi];omega) | (simp;omega))),H1⟩) ?_
    try simp only [SS]
    refine av (fun b:au×Int=>ret (((au.r b.1),b.2):bn×Int)) (fun c5=>?_) (fun c5=>?_)
    ·refine av (fun b:au×Int=>ret (((au.r b.1),b.2):bn×Int)) (fun c6=>?_) (fun c6=>?_)
     ·have dc6:=c6
      try simp only [DC] at dc6
      refine ak (have:=(H0.2).1;lm) ?_
      all_goals exact fz
     ·all_goals exact fz
    ·all_goals exact fz
   ·all_goals exact fz
theorem af:cw 83 aV:=W2 77 F mix aD bq (.cons Z40.af (.cons Z100.af (.cons Z38.af (.cons Z97.af (.cons Z101.af .nil))))) Tryz.func83
theorem gh {a0:au}{a1:List aa}(hg:gd a0 a1):au.Sm (2^21) ((md a0 a1).1):=by
 unfold gd at hg;unfold md
 obtain ⟨⟨h1,h2⟩,h3⟩:=hg
 simp only [Bool.cond_eq_ite]
 repeat' split
 all_goals (try simp only [decide_eq_true_eq,ge_iff_le] at *)
 all_goals first
  | exact ⟨h1,h2⟩
  | exact ⟨bK.app (a:=7) (b:=1) ⟨by omega,h1.2⟩ (bK.one h3) (by decide),h2⟩
  | exact ⟨bK.set h1 h3,h2⟩
  | exact ⟨h1,bK.app (a:=7) (b:=1) ⟨by omega,h2.2⟩ (bK.one (Z101.gh ⟨bK.vO h1 bK.nil,h3⟩)) (by decide)⟩
def Cz (c:List (List aa)):Nat:=dQ (fun y:List aa=>dQ (fun y:aa=>aa.size y) y) c
def Fz (c:List aB):Nat:=dQ (fun y:aB=>aB.size y) c
theorem zc (X a1:List aa):aB.size (Z101.md X a1).1≤2*dQ (fun y:aa=>aa.size y) X+dQ (fun y:aa=>aa.size y) a1:=by
 unfold Z101.md
 have z:aB.size aB.zero=0:=rfl
 cases Z69.md X
 ·exact Nat.zero_le _
 cases Z69.md a1
 ·exact Nat.zero_le _
 cases ((X.getD 0 aa.zero).aq.bA != (a1.getD 0 aa.zero).aq.bA)
 case true=>exact Nat.zero_le _
 cases h1:Z99.md X a1
 case true=>exact Nat.zero_le _
 cases h2:Z99.md a1 X
 case true=>exact Nat.zero_le _
 obtain ⟨h3,h4,_⟩:=Z101.kV h1 h2
 exact Z101.zl h3 h4
theorem grow (a0:au)(a1:List aa):Cz (md a0 a1).1.aF≤Cz a0.aF+(dQ (fun y:aa=>aa.size y) a1+1)∧
  Fz (md a0 a1).1.bg≤Fz a0.bg+(2*Cz a0.aF+dQ (fun y:aa=>aa.size y) a1+1):=by
 unfold md Cz Fz
 have hs:=wu (f:=fun y:List aa=>dQ (fun y:aa=>aa.size y) y) a0.aF (toNat (Z97.md a0 ((a1.getD 0 aa.zero).aq.bA))) a1
 have ha:=uV (f:=fun y:List aa=>dQ (fun y:aa=>aa.size y) y) a0.aF a1
 have hk:=uV (f:=fun y:aB=>aB.size y) a0.bg (Z101.md (a0.aF.getD (toNat (Z97.md a0 ((a1.getD 0 aa.zero).aq.bA))) []) a1).1
 have hf1:=zc (a0.aF.getD (toNat (Z97.md a0 ((a1.getD 0 aa.zero).aq.bA))) []) a1
 have hg1:=nM (f:=fun y:List aa=>dQ (fun y:aa=>aa.size y) y) (xs:=a0.aF) (i:=toNat (Z97.md a0 ((a1.getD 0 aa.zero).aq.bA))) (z:=[]) rfl
 (try simp only at hs);(try simp only at ha);(try simp only at hk);(try simp only at hg1)
 simp only [Bool.cond_eq_ite]
 repeat' split
 all_goals constructor<;>(try simp only)<;>omega
end Z102
namespace Z103
def F (x0:bU)(x1:Int):aG:=(call (Z41.R (x1,x0.cB,x0.cq)) fun v1=>ret (v1:Bool))
def md (a0:aC)(a1:Int):Bool:=((Z41.md a1 a0.cB a0.cq):Bool)
def gd (a0:aC)(a1:Int):Prop:=True
def R:=RR (p2 gd) (u2 md)
theorem aj {a0 a1}(h:gd a0 a1):R ((aC.r a0),a1)=some (md a0 a1):=aM (a:=(a0,a1)) h
def aV:=CN [.agg fX,pI] oB RT.dec R
theorem bq (a0)(a1)(hg:gd a0 a1):F (aC.r a0) a1=ret (md a0 a1):=by
 unfold F md
 try simp only [SS]
 refine ct (Z41.aj trivial) ?_
 all_goals exact fz
theorem af:cw 271 aV:=W2 11 F mix aD bq (.cons Z41.af .nil) Tryz.func271
end Z103
namespace Z104
inductive Pt where
 | p0 (a:Int) (b:Int) (c:Int) (d:List (List L)) (e:Int)
def pid:Pt→Nat
 | .p0 ..=>4
def bY:Pt→List V
 | .p0 a b c d e=>[.int .i64 a,.int .i64 b,.int .i64 c,.sl none 3 d,.int .i64 e]
def bZ:Pt→List aU
 | .p0 a b c d e=>[]
def step (J:Pt→aG):Pt→aG
 | .p0 a b c d e=>(cond (decide (c>1)) (cond ((Int.tmod b 2)==1) (cond (decide (e≥(d.length:Int))) (ret ((0,false):Int×Bool)) (cond ((Int.tmod b 2)==1) (m2 e (d.length:Int) (call (Z79.R ((jv d (toNat e)),a)) fun v1=>J (.p0 v1 (i64.wrap (Int.tdiv b 2)) (i64.wrap (Int.tdiv (i64.wrap (c+1)) 2)) d (i64.wrap (e+1))))) (m2 e (d.length:Int) (call (Z79.R (a,(jv d (toNat e)))) fun v2=>J (.p0 v2 (i64.wrap (Int.tdiv b 2)) (i64.wrap (Int.tdiv (i64.wrap (c+1)) 2)) d (i64.wrap (e+1))))))) (cond (decide ((i64.wrap (b+1))<c)) (cond (decide (e≥(d.length:Int))) (ret ((0,false):Int×Bool)) (cond ((Int.tmod b 2)==1) (m2 e (d.length:Int) (call (Z79.R ((jv d (toNat e)),a)) fun v3=>J (.p0 v3 (i64.wrap (Int.tdiv b 2)) (i64.wrap (Int.tdiv (i64.wrap (c+1)) 2)) d (i64.wrap (e+1))))) (m2 e (d.length:Int) (call (Z79.R (a,(jv d (toNat e)))) fun v4=>J (.p0 v4 (i64.wrap (Int.tdiv b 2)) (i64.wrap (Int.tdiv (i64.wrap (c+1)) 2)) d (i64.wrap (e+1))))))) (J (.p0 a (i64.wrap (Int.tdiv b 2)) (i64.wrap (Int.tdiv (i64.wrap (c+1)) 2)) d e)))) (cond (e != (d.length:Int)) (ret ((0,false):Int×Bool)) (ret ((a,true):Int×Bool))))
def start (J:Pt→aG)(x0:Int)(x1:Int)(x2:Int)(x3:List (List L)):aG:=(call (Z41.R (x2,1,12)) fun v1=>(cond (!v1) (ret ((0,false):Int×Bool)) (call (Z41.R (x1,0,(i64.wrap (x2 - 1)))) fun v2=>(cond (!v2) (ret ((0,false):Int×Bool)) (J (.p0 x0 x1 x2 x3 0))))))
def live:Nat→Live:=fun i=>match i with | 4=>[(0,none),(1,none),(2,none),(3,none),(10,none)] | _=>[]
def tf:Nat→Int→Int→Int→List Int→Int×Bool
 | 0,_,_,_,_=>(0,false)
 | k+1,leaf,i,n,path=>
  if n>1 then
   if i % 2=1∨i+1<n then
    match path with
    | []=>(0,false)
    | p::ps=>tf k (if i % 2=1 then Z79.md p leaf else Z79.md leaf p) (i / 2) ((n+1) / 2) ps
   else tf k leaf (i / 2) ((n+1) / 2) path
  else if path.isEmpty then (leaf,true) else (0,false)
def md (a0:Int)(a1:Int)(a2:Int)(a3:List Int):Int×Bool:=(cond (!(Z41.md a2 1 12)) (0,false) (bif !(Z41.md a1 0 (i64.wrap (a2 - 1))) then (0,false) else tf 5 a0 a1 a2 a3))
def gd (a0:Int)(a1:Int)(a2:Int)(a3:List Int):Prop:=bK (2^38) (fun y:Int=>True) a3
def R:=RR (p4 gd) (u4 md)
theorem aj {a0 a1 a2 a3}(h:gd a0 a1 a2 a3):R (a0,a1,a2,(a3.map aZ))=some ((md a0 a1 a2 a3).1,(md a0 a1 a2 a3).2):=aM (a:=(a0,a1,a2,a3)) h
def aV:=CN [pI,pI,pI,pL 3] (.iT [(false,[fI]),(false,[fB])]) RT.dec R
theorem bq (a0)(a1)(a2)(a3)(hg:gd a0 a1 a2 a3):∃n,start (iter step n) a0 a1 a2 (a3.map aZ)=ret ((md a0 a1 a2 a3).1,(md a0 a1 a2 a3).2):=by
 have tm:∀b:Int,0≤b→b≤11→Int.tmod b 2=b % 2:=fun b h1 h2=>Int.tmod_eq_emod_of_nonneg h1
 have td:∀b:Int,0≤b→b≤13→i64.wrap (Int.tdiv b 2)=b / 2:=fun b h1 h2=>by
  rw [Int.tdiv_eq_ediv_of_nonneg h1,Go.IntWalk.i64_in _ (by omega)]
 have t1:∀b:Int,0≤b→b≤13→i64.wrap (b+1)=b+1:=fun b h1 h2=>Go.IntWalk.i64_in _ (by omega)
 obtain ⟨H3,_⟩:=hg
 have key:∀(k:Nat) (leaf i n:Int) (u:Nat),0≤i→i<n→n≤12→n≤2^k→u≤a3.length→∃m,iter step m (Pt.p0 leaf i n (a3.map aZ) (u:Int))=ret ((tf (k+1) leaf i n (a3.drop u)).1,(tf (k+1) leaf i n (a3.drop u)).2):=by
  intro k
  induction k with
  | zero=>
   intro leaf i n u h1 h2 h3 h4 h5
   refine ⟨1,?_⟩
   show step (iter step 0) (Pt.p0 _ _ _ _ _)=_
   have hn:n=1:=by omega
   subst hn
   simp only [step,List.length_map]
   refine cN (by decide) ?_
   unfold tf
   rw [if_neg (by omega)]
   by_cases hu:u=a3.length
   ·rw [List.drop_eq_nil_of_le (by omega),show ((u:Int) != (a3.length:Int))=false from bne_eq_false_iff_eq.2 (by omega)];rfl
   ·have hne:(a3.drop u).isEmpty=false:=by
     rw [List.drop_eq_getElem_cons (by omega)];rfl
    rw [hne,show ((u:Int) != (a3.length:Int))=true from bne_iff_ne.2 (by omega)];rfl
  | succ k ih=>
   intro leaf i n u h1 h2 h3 h4 h5
   have hk:n≤2*2^k:=by rw [Int.pow_succ] at h4;omega
   unfold tf
   by_cases hn:n>1
   ·have e1:=tm i h1 (by omega)
    have e2:=td i h1 (by omega)
    have e3:=t1 n (by omega) (by omega)
    have e4:=td (n+1) (by omega) (by omega)
    have e5:=t1 i h1 (by omega)
    rw [if_pos hn]
    by_cases hc:i % 2=1∨i+1<n
    ·rw [if_pos hc]
     by_cases hu:u=a3.length
     ·refine ⟨1,?_⟩
      show step (iter step 0) (Pt.p0 _ _ _ _ _)=_
      rw [List.drop_eq_nil_of_le (by omega)]
      simp only [step,List.length_map,e1,e5]
      refine ak (decide_eq_true (by omega)) ?_
      by_cases hm:i % 2=1
      ·rw [hm]
       exact ak rfl (ak (decide_eq_true (by omega)) rfl)
      ·refine cN (beq_eq_false_iff_ne.2 hm) (ak (decide_eq_true (by omega)) (ak (decide_eq_true (by omega)) rfl))
     ·have hlt:u<a3.length:=by omega
      rw [List.drop_eq_getElem_cons hlt]
      obtain ⟨m,hm⟩:=ih (if i % 2=1 then Z79.md a3[u] leaf else Z79.md leaf a3[u]) (i / 2) ((n+1) / 2) (u+1) (by omega) (by omega) (by omega) (by omega) (by omega)
      refine ⟨m+1,?_⟩
      show step (iter step m) (Pt.p0 _ _ _ _ _)=_
      have w:i64.wrap ((u:Int)+1)=((u+1:Nat):Int):=by rw [Go.IntWalk.i64_in _ (by omega)];omega
      simp only [step,List.length_map,e1,e2,e3,e4,e5,w,cF,gQ,eJ hlt]
      refine ak (decide_eq_true (by omega)) ?_
      by_cases hp:i % 2=1
      ·rw [if_pos hp] at hm
       rw [hp]
       refine ak rfl (cN (decide_eq_false (by omega)) (ak rfl (ak (decide_eq_true (by omega)) (ak (decide_eq_true (by omega)) (bh _ (Z79.aj trivial) ?_)))))
       rw [if_pos rfl]
       exact hm
      ·rw [if_neg hp] at hm
       have hb:(i % 2==1)=false:=beq_eq_false_iff_ne.2 hp
       rw [hb]
       refine cN rfl (ak (decide_eq_true (by omega)) (cN (decide_eq_false (by omega)) (cN rfl (ak (decide_eq_true (by omega)) (ak (decide_eq_true (by omega)) (bh _ (Z79.aj trivial) ?_))))))
       rw [if_neg hp]
       exact hm
    ·rw [if_neg hc]
     obtain ⟨m,hm⟩:=ih leaf (i / 2) ((n+1) / 2) u (by omega) (by omega) (by omega) (by omega) h5
     refine ⟨m+1,?_⟩
     show step (iter step m) (Pt.p0 _ _ _ _ _)=_
     simp only [step,List.length_map,e1,e2,e3,e4,e5]
     have hb:(i % 2==1)=false:=beq_eq_false_iff_ne.2 (by omega)
     rw [hb]
     exact ak (decide_eq_true (by omega)) (cN rfl (cN (decide_eq_false (by omega)) hm))
   ·refine ⟨1,?_⟩
    show step (iter step 0) (Pt.p0 _ _ _ _ _)=_
    have hn1:n=1:=by omega
    subst hn1
    simp only [step,List.length_map]
    refine cN (by decide) ?_
    rw [if_neg (by omega)]
    by_cases hu:u=a3.length
    ·rw [List.drop_eq_nil_of_le (by omega),show ((u:Int) != (a3.length:Int))=false from bne_eq_false_iff_eq.2 (by omega)];rfl
    ·have hne:(a3.drop u).isEmpty=false:=by
      rw [List.drop_eq_getElem_cons (by omega)];rfl
     rw [hne,show ((u:Int) != (a3.length:Int))=true from bne_iff_ne.2 (by omega)];rfl
 unfold start md
 refine eW (Z41.md a2 1 12) (Z41.aj trivial) ?_
 cases hc:Z41.md a2 1 12
 ·exact ⟨0,rfl⟩
 simp only [Bool.not_true,bk]
 refine eW (Z41.md a1 0 (i64.wrap (a2 - 1))) (Z41.aj trivial) ?_
 cases hd:Z41.md a1 0 (i64.wrap (a2 - 1))
 ·exact ⟨0,rfl⟩
 have i1:1≤a2∧a2≤12:=by simpa [Z41.md] using hc
 rw [Go.IntWalk.i64_in _ (by omega)] at hd
 have i2:0≤a1∧a1≤a2 - 1:=by simpa [Z41.md] using hd
 exact key 4 a0 a1 a2 0 (by omega) (by omega) (by omega) (by omega) (by omega)
theorem af:cw 469 aV:=L4 63 pid bY bZ live step start mix aD bq (.cons Z41.af (.cons Z79.af .nil)) Tryz.func469
end Z104
namespace Z105
def F (x0:Int)(x1:Int)(x2:aS)(x3:bN):aG:=(call (Z77.R x2) fun v1=>(call (Z104.R (v1,x3.ep,x1,x3.bC)) fun v2=>(call (Z71.R x2) fun v3=>(cond v3 (cond v2.2 (call (Z82.R (x1,v2.1)) fun v4=>ret ((v4==x0):Bool)) (ret (false:Bool))) (ret (false:Bool))))))
def md (a0:Int)(a1:Int)(a2:ah)(a3:aK):Bool:=(cond (Z71.md a2) (cond ((Z104.md (Z77.md a2) a3.ep a1 a3.bC).2) (((Z82.md a1 ((Z104.md (Z77.md a2) a3.ep a1 a3.bC).1))==a0):Bool) (false:Bool)) (false:Bool))
def gd (a0:Int)(a1:Int)(a2:ah)(a3:aK):Prop:=(ah.Sm (2^21) a2)∧(aK.Sm (2^21) a3)
def R:=RR (p4 gd) (u4 md)
theorem aj {a0 a1 a2 a3}(h:gd a0 a1 a2 a3):R (a0,a1,(ah.r a2),(aK.r a3))=some (md a0 a1 a2 a3):=aM (a:=(a0,a1,a2,a3)) h
def aV:=CN [pI,pI,.agg ru,.agg rm] oB RT.dec R
theorem bq (a0)(a1)(a2)(a3)(hg:gd a0 a1 a2 a3):F a0 a1 (ah.r a2) (aK.r a3)=ret (md a0 a1 a2 a3):=by
 obtain ⟨H2,H3⟩:=hg
 unfold F md
 try simp only [SS]
 refine ct (Z77.aj H2) ?_
 refine ct (Z104.aj (H3.mono (by decide) (fun x hx=>trivial))) ?_
 refine ct (Z71.aj H2) ?_
 refine av ret (fun c1=>?_) (fun _=>rfl)
 refine av ret (fun c2=>?_) (fun _=>rfl)
 refine ct (Z82.aj trivial) ?_
 all_goals exact fz
theorem af:cw 391 aV:=W4 34 F mix aD bq (.cons Z77.af (.cons Z104.af (.cons Z71.af (.cons Z82.af .nil)))) Tryz.func391
end Z105
namespace Z106
inductive Pt where
 | p0 (a:List (List L)) (b:List (List L)) (c:Int)
def pid:Pt→Nat
 | .p0 ..=>4
def bY:Pt→List V
 | .p0 a b c=>[.sl none 9 a,.sl none 9 b,.int .i64 c]
def bZ:Pt→List aU
 | .p0 a b c=>[]
def step (J:Pt→aG):Pt→aG
 | .p0 a b c=>(cond (decide (c<(a.length:Int))) (m2 c (a.length:Int) (m2 c (b.length:Int) (cond (!((pZ a (toNat c))==(pZ b (toNat c)))) (ret (false:Bool)) (J (.p0 a b (i64.wrap (c+1))))))) (ret (true:Bool)))
def start (J:Pt→aG)(x0:List (List L))(x1:List (List L)):aG:=(cond ((x0.length:Int) != (x1.length:Int)) (ret (false:Bool)) (J (.p0 x0 x1 0)))
def live:Nat→Live:=fun i=>match i with | 4=>[(0,none),(1,none),(5,none)] | _=>[]
def md (a0:List ByteArray)(a1:List ByteArray):Bool:=(bif ((a0.length:Int) != (a1.length:Int)) then (false:Bool) else (eg (S:=Unit) (β:=Bool) (fun (i2:Nat) (s4:Unit)=>(cond (!((a0.getD i2 ⟨#[]⟩)==(a1.getD i2 ⟨#[]⟩))) (.inr (false:Bool)) (.inl ()))) (fun (s4:Unit)=>(true:Bool)) a0.length 0 ()))
def gd (a0:List ByteArray)(a1:List ByteArray):Prop:=(bK (2^21) (fun y:ByteArray=>y.size≤(2^21)) a0)∧(bK (2^21) (fun y:ByteArray=>y.size≤(2^21)) a1)
def R:=RR (p2 gd) (u2 md)
theorem aj {a0 a1}(h:gd a0 a1):R ((a0.map cA),(a1.map cA))=some (md a0 a1):=aM (a:=(a0,a1)) h
def aV:=CN [pL 9,pL 9] oB RT.dec R
theorem bq (a0)(a1)(hg:gd a0 a1):∃n,start (iter step n) (a0.map cA) (a1.map cA)=ret (md a0 a1):=by
 obtain ⟨H0,H1⟩:=hg
 unfold start md
 try simp only [SS]
 refine gT ret (fun _=>⟨0,rfl⟩) (fun c1=>?_)
 have dc1:=c1
 try simp only [DC] at dc1
 have Bh3:a0.length≤maxLen:=(by
   have:=(H0).1
   try simp only [maxLen] at *
   omega)
 refine dN (p:=Pt.p0 (a0.map cA) (a1.map cA) 0) fz ?_
 refine ck (pt:=fun (i2:Nat) (s4:Unit)=>Pt.p0 (a0.map cA) (a1.map cA) (i2:Int)) (s:=(():Unit)) (out:=ret) (fun _ _=>True) (fun J i2 s4 h3 hih3=>?_) (fun s4 hih3=>?_) trivial
 ·simp only [step,SS]
  have bb_:=Bh3
  simp only [maxLen] at bb_
  have:=(H0).1
  refine bt.yes (by apply decide_eq_true;omega) ?_
  refine bt.yes aH ?_
  refine bt.yes (aL h3) ?_
  refine bt.yes aH ?_
  refine bt.yes (have:=(H1).1;dt) ?_
  refine bt.bif (fun _=>bt.inr rfl) (fun c5=>?_)
  refine bt.inl trivial ?_
  rw [aE h3 Bh3]
  all_goals exact fz
 ·simp only [step,SS]
  have:=(H0).1
  refine dx (by apply decide_eq_false;omega) ?_
  refine ⟨0,?_⟩
  all_goals exact fz
theorem af:cw 407 aV:=L2 26 pid bY bZ live step start mix aD bq .nil Tryz.func407
theorem md_eq (a0:List ByteArray)(a1:List ByteArray):md a0 a1=dZ a0 a1:=by
 unfold md
 refine jX (⟨#[]⟩) (fun i s h h2=>?_) (fun s=>rfl)
 simp only [bne,fq,bool_beq,eS]
 cases dZ _ _<;>rfl
end Z106
namespace Z107
def F (x0:aS)(x1:aS):aG:=(cond (x0.aW==x1.aW) (cond (x0.bD==x1.bD) (cond (x0.bS==x1.bS) (call (Z106.R (x0.bC,x1.bC)) fun v1=>ret (v1:Bool)) (ret (false:Bool))) (ret (false:Bool))) (ret (false:Bool)))
def md (a0:ah)(a1:ah):Bool:=(cond (a0.aW==a1.aW) (cond (a0.bD==a1.bD) (cond (a0.bS==a1.bS) ((Z106.md a0.bC a1.bC):Bool) (false:Bool)) (false:Bool)) (false:Bool))
def gd (a0:ah)(a1:ah):Prop:=(ah.Sm (2^21) a0)∧(ah.Sm (2^21) a1)
def R:=RR (p2 gd) (u2 md)
theorem aj {a0 a1}(h:gd a0 a1):R ((ah.r a0),(ah.r a1))=some (md a0 a1):=aM (a:=(a0,a1)) h
def aV:=CN [.agg ru,.agg ru] oB RT.dec R
theorem bq (a0)(a1)(hg:gd a0 a1):F (ah.r a0) (ah.r a1)=ret (md a0 a1):=by
 obtain ⟨H0,H1⟩:=hg
 unfold F md
 try simp only [SS]
 refine av ret (fun c1=>?_) (fun _=>rfl)
 refine av ret (fun c2=>?_) (fun _=>rfl)
 refine av ret (fun c3=>?_) (fun _=>rfl)
 refine ct (Z106.aj ⟨H0.2,H1.2⟩) ?_
 all_goals exact fz
theorem af:cw 403 aV:=W2 31 F mix aD bq (.cons Z106.af .nil) Tryz.func403
theorem md_eq (a0:ah)(a1:ah):md a0 a1=dZ a0 a1:=by
 unfold md
 cases a0;cases a1
 rw [Bool.eq_iff_iff]
 simp [dm,eS,ah.mk.injEq,Z106.md_eq]
 try (constructor<;>(intro h;simp_all))
end Z107
namespace Z108
def F (x0:bN)(x1:bN):aG:=(cond (x0.ep==x1.ep) (call (Z61.R (x0.bC,x1.bC)) fun v1=>ret (v1:Bool)) (ret (false:Bool)))
def md (a0:aK)(a1:aK):Bool:=(cond (a0.ep==a1.ep) ((Z61.md a0.bC a1.bC):Bool) (false:Bool))
def gd (a0:aK)(a1:aK):Prop:=(aK.Sm (2^21) a0)∧(aK.Sm (2^21) a1)
def R:=RR (p2 gd) (u2 md)
theorem aj {a0 a1}(h:gd a0 a1):R ((aK.r a0),(aK.r a1))=some (md a0 a1):=aM (a:=(a0,a1)) h
def aV:=CN [.agg rm,.agg rm] oB RT.dec R
theorem bq (a0)(a1)(hg:gd a0 a1):F (aK.r a0) (aK.r a1)=ret (md a0 a1):=by
 obtain ⟨H0,H1⟩:=hg
 unfold F md
 try simp only [SS]
 refine av ret (fun c1=>?_) (fun _=>rfl)
 refine ct (Z61.aj ⟨(H0.mono (by decide) (fun x hx=>trivial)),(H1.mono (by decide) (fun x hx=>trivial))⟩) ?_
 all_goals exact fz
theorem af:cw 472 aV:=W2 17 F mix aD bq (.cons Z61.af .nil) Tryz.func472
theorem md_eq (a0:aK)(a1:aK):md a0 a1=dZ a0 a1:=by
 unfold md
 cases a0;cases a1
 rw [Bool.eq_iff_iff]
 simp [dm,eS,aK.mk.injEq,Z61.md_eq]
 try (constructor<;>(intro h;simp_all))
end Z108
namespace Z109
def F (x0:dL)(x1:dL):aG:=(cond (x0.ep==x1.ep) (call (Z107.R (x0.aP,x1.aP)) fun v1=>(cond v1 (call (Z107.R (x0.cz,x1.cz)) fun v2=>(cond v2 (call (Z108.R (x0.eB,x1.eB)) fun v3=>(cond v3 (call (Z108.R (x0.cR,x1.cR)) fun v4=>ret (v4:Bool)) (ret (false:Bool)))) (ret (false:Bool)))) (ret (false:Bool)))) (ret (false:Bool)))
def md (a0:bP)(a1:bP):Bool:=(cond (a0.ep==a1.ep) (cond (Z107.md a0.aP a1.aP) (cond (Z107.md a0.cz a1.cz) (cond (Z108.md a0.eB a1.eB) ((Z108.md a0.cR a1.cR):Bool) (false:Bool)) (false:Bool)) (false:Bool)) (false:Bool))
def gd (a0:bP)(a1:bP):Prop:=(bP.Sm (2^21) a0)∧(bP.Sm (2^21) a1)
def R:=RR (p2 gd) (u2 md)
theorem aj {a0 a1}(h:gd a0 a1):R ((bP.r a0),(bP.r a1))=some (md a0 a1):=aM (a:=(a0,a1)) h
def aV:=CN [.agg vC,.agg vC] oB RT.dec R
theorem bq (a0)(a1)(hg:gd a0 a1):F (bP.r a0) (bP.r a1)=ret (md a0 a1):=by
 obtain ⟨H0,H1⟩:=hg
 unfold F md
 try simp only [SS]
 refine av ret (fun c1=>?_) (fun _=>rfl)
 refine ct (Z107.aj ⟨H0.1,H1.1⟩) ?_
 refine av ret (fun c2=>?_) (fun _=>rfl)
 refine ct (Z107.aj ⟨H0.2.1,H1.2.1⟩) ?_
 refine av ret (fun c3=>?_) (fun _=>rfl)
 refine ct (Z108.aj ⟨H0.2.2.1,H1.2.2.1⟩) ?_
 refine av ret (fun c4=>?_) (fun _=>rfl)
 refine ct (Z108.aj ⟨H0.2.2.2,H1.2.2.2⟩) ?_
 all_goals exact fz
theorem af:cw 392 aV:=W2 38 F mix aD bq (.cons Z107.af (.cons Z108.af .nil)) Tryz.func392
theorem md_eq (a0:bP)(a1:bP):md a0 a1=dZ a0 a1:=by
 unfold md
 cases a0;cases a1
 rw [Bool.eq_iff_iff]
 simp [dm,eS,bP.mk.injEq,Z107.md_eq,Z108.md_eq]
 try (constructor<;>(intro h;simp_all))
end Z109
namespace Z110
def F (x0:aS)(x1:bN):aG:=(call (Z107.R (x0,(⟨(⟨#[]⟩:ByteArray),0,0,[]⟩:aS))) fun v1=>(cond v1 (call (Z108.R (x1,(⟨0,[]⟩:bN))) fun v2=>ret (v2:Bool)) (ret (false:Bool))))
def md (a0:ah)(a1:aK):Bool:=(cond (Z107.md a0 (⟨((⟨#[]⟩:ByteArray):ByteArray),0,0,[]⟩:ah)) ((Z108.md a1 (⟨0,[]⟩:aK)):Bool) (false:Bool))
def gd (a0:ah)(a1:aK):Prop:=(ah.Sm (2^21) a0)∧(aK.Sm (2^21) a1)
def R:=RR (p2 gd) (u2 md)
theorem aj {a0 a1}(h:gd a0 a1):R ((ah.r a0),(aK.r a1))=some (md a0 a1):=aM (a:=(a0,a1)) h
def aV:=CN [.agg ru,.agg rm] oB RT.dec R
theorem bq (a0)(a1)(hg:gd a0 a1):F (ah.r a0) (aK.r a1)=ret (md a0 a1):=by
 obtain ⟨H0,H1⟩:=hg
 unfold F md
 try simp only [SS]
 refine ct (Z107.aj (a1:=(⟨((⟨#[]⟩:ByteArray):ByteArray),0,0,[]⟩:ah)) ⟨H0,⟨(by decide),bK.nil⟩⟩) ?_
 refine av ret (fun c1=>?_) (fun _=>rfl)
 refine ct (Z108.aj (a1:=(⟨0,[]⟩:aK)) ⟨H1,bK.nil⟩) ?_
 all_goals exact fz
theorem af:cw 394 aV:=W2 13 F mix aD bq (.cons Z107.af (.cons Z108.af .nil)) Tryz.func394
end Z110
namespace Z111
def F (x0:Int)(x1:Int)(x2:ByteArray)(x3:dL):aG:=(call (Z42.R x2) fun v1=>(cond (!v1) (ret (false:Bool)) (call (Z41.R (x3.ep,0,x1)) fun v2=>(cond (!v2) (ret (false:Bool)) (cond (x1==0) (call (Z83.R []) fun v3=>(cond (x0 != v3) (ret (false:Bool)) (cond (x3.ep==0) (call (Z110.R (x3.aP,x3.eB)) fun v4=>(cond (!v4) (ret (false:Bool)) (cond (x3.ep==x1) (call (Z110.R (x3.cz,x3.cR)) fun v5=>ret (v5:Bool)) (call (Z105.R (x0,x1,x3.cz,x3.cR)) fun v6=>(cond v6 (cond (x3.cR.ep==x3.ep) (call (Z72.R (x3.cz.aW,x2)) fun v7=>ret ((v7==1):Bool)) (ret (false:Bool))) (ret (false:Bool))))))) (call (Z105.R (x0,x1,x3.aP,x3.eB)) fun v8=>(cond (!v8) (ret (false:Bool)) (cond (x3.eB.ep != (i64.wrap (x3.ep - 1))) (ret (false:Bool)) (call (Z72.R (x3.aP.aW,x2)) fun v9=>(cond (v9 != (-1)) (ret (false:Bool)) (cond (x3.ep==x1) (call (Z110.R (x3.cz,x3.cR)) fun v10=>ret (v10:Bool)) (call (Z105.R (x0,x1,x3.cz,x3.cR)) fun v11=>(cond v11 (cond (x3.cR.ep==x3.ep) (call (Z72.R (x3.cz.aW,x2)) fun v12=>ret ((v12==1):Bool)) (ret (false:Bool))) (ret (false:Bool))))))))))))) (cond (x3.ep==0) (call (Z110.R (x3.aP,x3.eB)) fun v13=>(cond (!v13) (ret (false:Bool)) (cond (x3.ep==x1) (call (Z110.R (x3.cz,x3.cR)) fun v14=>ret (v14:Bool)) (call (Z105.R (x0,x1,x3.cz,x3.cR)) fun v15=>(cond v15 (cond (x3.cR.ep==x3.ep) (call (Z72.R (x3.cz.aW,x2)) fun v16=>ret ((v16==1):Bool)) (ret (false:Bool))) (ret (false:Bool))))))) (call (Z105.R (x0,x1,x3.aP,x3.eB)) fun v17=>(cond (!v17) (ret (false:Bool)) (cond (x3.eB.ep != (i64.wrap (x3.ep - 1))) (ret (false:Bool)) (call (Z72.R (x3.aP.aW,x2)) fun v18=>(cond (v18 != (-1)) (ret (false:Bool)) (cond (x3.ep==x1) (call (Z110.R (x3.cz,x3.cR)) fun v19=>ret (v19:Bool)) (call (Z105.R (x0,x1,x3.cz,x3.cR)) fun v20=>(cond v20 (cond (x3.cR.ep==x3.ep) (call (Z72.R (x3.cz.aW,x2)) fun v21=>ret ((v21==1):Bool)) (ret (false:Bool))) (ret (false:Bool))))))))))))))))
def md (a0:Int)(a1:Int)(a2:ByteArray)(a3:bP):Bool:=(cond (!(Z42.md a2)) (false:Bool) (cond (!(Z41.md a3.ep 0 a1)) (false:Bool) (cond (a1==0) (cond (a0 != (Z83.md [])) (false:Bool) (cond (a3.ep==0) (cond (!(Z110.md a3.aP a3.eB)) (false:Bool) (cond (a3.ep==a1) ((Z110.md a3.cz a3.cR):Bool) (cond (Z105.md a0 a1 a3.cz a3.cR) (cond (a3.cR.ep==a3.ep) (((Z72.md a3.cz.aW a2)==1):Bool) (false:Bool)) (false:Bool)))) (cond (!(Z105.md a0 a1 a3.aP a3.eB)) (false:Bool) (cond (a3.eB.ep != (i64.wrap (a3.ep - 1))) (false:Bool) (cond ((Z72.md a3.aP.aW a2) != (-1)) (false:Bool) (cond (a3.ep==a1) ((Z110.md a3.cz a3.cR):Bool) (cond (Z105.md a0 a1 a3.cz a3.cR) (cond (a3.cR.ep==a3.ep) (((Z72.md a3.cz.aW a2)==1):Bool) (false:Bool)) (false:Bool)))))))) (cond (a3.ep==0) (cond (!(Z110.md a3.aP a3.eB)) (false:Bool) (cond (a3.ep==a1) ((Z110.md a3.cz a3.cR):Bool) (cond (Z105.md a0 a1 a3.cz a3.cR) (cond (a3.cR.ep==a3.ep) (((Z72.md a3.cz.aW a2)==1):Bool) (false:Bool)) (false:Bool)))) (cond (!(Z105.md a0 a1 a3.aP a3.eB)) (false:Bool) (cond (a3.eB.ep != (i64.wrap (a3.ep - 1))) (false:Bool) (cond ((Z72.md a3.aP.aW a2) != (-1)) (false:Bool) (cond (a3.ep==a1) ((Z110.md a3.cz a3.cR):Bool) (cond (Z105.md a0 a1 a3.cz a3.cR) (cond (a3.cR.ep==a3.ep) (((Z72.md a3.cz.aW a2)==1):Bool) (false:Bool)) (false:Bool))))))))))
def gd (a0:Int)(a1:Int)(a2:ByteArray)(a3:bP):Prop:=(a2.size≤(2^21))∧(bP.Sm (2^21) a3)
def R:=RR (p4 gd) (u4 md)
theorem aj {a0 a1 a2 a3}(h:gd a0 a1 a2 a3):R (a0,a1,a2,(bP.r a3))=some (md a0 a1 a2 a3):=aM (a:=(a0,a1,a2,a3)) h
def aV:=CN [pI,pI,pS,.agg vC] oB RT.dec R
theorem bq (a0)(a1)(a2)(a3)(hg:gd a0 a1 a2 a3):F a0 a1 a2 (bP.r a3)=ret (md a0 a1 a2 a3):=by
 obtain ⟨H2,H3⟩:=hg
 unfold F md
 try simp only [SS]
 refine ct (Z42.aj (Nat.le_trans H2 (by decide))) ?_
 refine av ret (fun _=>rfl) (fun c1=>?_)
 refine ct (Z41.aj trivial) ?_
 refine av ret (fun _=>rfl) (fun c2=>?_)
 refine av ret (fun c3=>?_) (fun c3=>?_)
 ·refine bh (Z83.md []) (rq (Z83.aj (a0:=[]) bK.nil)) ?_
  refine av ret (fun _=>rfl) (fun c4=>?_)
  refine av ret (fun c5=>?_) (fun c5=>?_)
  ·refine ct (Z110.aj ⟨H3.1,H3.2.2.1⟩) ?_
   refine av ret (fun _=>rfl) (fun c6=>?_)
   refine av ret (fun c7=>?_) (fun c7=>?_)
   ·refine ct (Z110.aj ⟨H3.2.1,H3.2.2.2⟩) ?_
    all_goals exact fz
   ·refine ct (Z105.aj ⟨H3.2.1,H3.2.2.2⟩) ?_
    refine av ret (fun c8=>?_) (fun _=>rfl)
    refine av ret (fun c9=>?_) (fun _=>rfl)
    refine ct (Z72.aj trivial) ?_
    all_goals exact fz
  ·refine ct (Z105.aj ⟨H3.1,H3.2.2.1⟩) ?_
   refine av ret (fun _=>rfl) (fun c10=>?_)
   refine av ret (fun _=>rfl) (fun c11=>?_)
   refine ct (Z72.aj trivial) ?_
   refine av ret (fun _=>rfl) (fun c12=>?_)
   refine av ret (fun c13=>?_) (fun c13=>?_)
   ·refine ct (Z110.aj ⟨H3.2.1,H3.2.2.2⟩) ?_
    all_goals exact fz
   ·refine ct (Z105.aj ⟨H3.2.1,H3.2.2.2⟩) ?_
    refine av ret (fun c14=>?_) (fun _=>rfl)
    refine av ret (fun c15=>?_) (fun _=>rfl)
    refine ct (Z72.aj trivial) ?_
    all_goals exact fz
 ·refine av ret (fun c16=>?_) (fun c16=>?_)
  ·refine ct (Z110.aj ⟨H3.1,H3.2.2.1⟩) ?_
   refine av ret (fun _=>rfl) (fun c17=>?_)
   refine av ret (fun c18=>?_) (fun c18=>?_)
   ·refine ct (Z110.aj ⟨H3.2.1,H3.2.2.2⟩) ?_
    all_goals exact fz
   ·refine ct (Z105.aj ⟨H3.2.1,H3.2.2.2⟩) ?_
    refine av ret (fun c19=>?_) (fun _=>rfl)
    refine av ret (fun c20=>?_) (fun _=>rfl)
    refine ct (Z72.aj trivial) ?_
    all_goals exact fz
  ·refine ct (Z105.aj ⟨H3.1,H3.2.2.1⟩) ?_
   refine av ret (fun _=>rfl) (fun c21=>?_)
   refine av ret (fun _=>rfl) (fun c22=>?_)
   refine ct (Z72.aj trivial) ?_
   refine av ret (fun _=>rfl) (fun c23=>?_)
   refine av ret (fun c24=>?_) (fun c24=>?_)
   ·refine ct (Z110.aj ⟨H3.2.1,H3.2.2.2⟩) ?_
    all_goals exact fz
   ·refine ct (Z105.aj ⟨H3.2.1,H3.2.2.2⟩) ?_
    refine av ret (fun c25=>?_) (fun _=>rfl)
    refine av ret (fun c26=>?_) (fun _=>rfl)
    refine ct (Z72.aj trivial) ?_
    all_goals exact fz
theorem af:cw 393 aV:=W4 95 F mix aD bq (.cons Z42.af (.cons Z41.af (.cons Z83.af (.cons Z110.af (.cons Z105.af (.cons Z72.af .nil)))))) Tryz.func393
end Z111
namespace Z112
def F (x0:bU)(x1:ByteArray)(x2:aX):aG:=(cond x2.cj (cond (x2.aN.aW==x1) (call (Z105.R (x0.cS,x0.cg,x2.aN,x2.eo)) fun v1=>(cond v1 (call (Z109.R (x2.eT,(⟨0,(⟨(⟨#[]⟩:ByteArray),0,0,[]⟩:aS),(⟨(⟨#[]⟩:ByteArray),0,0,[]⟩:aS),(⟨0,[]⟩:bN),(⟨0,[]⟩:bN)⟩:dL))) fun v2=>ret (v2:Bool)) (ret (false:Bool)))) (ret (false:Bool))) (call (Z111.R (x0.cS,x0.cg,x1,x2.eT)) fun v3=>(cond v3 (call (Z110.R (x2.aN,x2.eo)) fun v4=>ret (v4:Bool)) (ret (false:Bool)))))
def md (a0:aC)(a1:ByteArray)(a2:ay):Bool:=(cond a2.cj (cond (a2.aN.aW==a1) (cond (Z105.md a0.cS a0.cg a2.aN a2.eo) ((Z109.md a2.eT (⟨0,(⟨((⟨#[]⟩:ByteArray):ByteArray),0,0,[]⟩:ah),(⟨((⟨#[]⟩:ByteArray):ByteArray),0,0,[]⟩:ah),(⟨0,[]⟩:aK),(⟨0,[]⟩:aK)⟩:bP)):Bool) (false:Bool)) (false:Bool)) (cond (Z111.md a0.cS a0.cg a1 a2.eT) ((Z110.md a2.aN a2.eo):Bool) (false:Bool)))
def gd (a0:aC)(a1:ByteArray)(a2:ay):Prop:=(a1.size≤(2^21))∧(ay.Sm (2^21) a2)
def R:=RR (p3 gd) (u3 md)
theorem aj {a0 a1 a2}(h:gd a0 a1 a2):R ((aC.r a0),a1,(ay.r a2))=some (md a0 a1 a2):=aM (a:=(a0,a1,a2)) h
def aV:=CN [.agg fX,pS,.agg yw] oB RT.dec R
theorem bq (a0)(a1)(a2)(hg:gd a0 a1 a2):F (aC.r a0) a1 (ay.r a2)=ret (md a0 a1 a2):=by
 obtain ⟨H1,H2⟩:=hg
 unfold F md
 try simp only [SS]
 refine av ret (fun c1=>?_) (fun c1=>?_)
 ·refine av ret (fun c2=>?_) (fun _=>rfl)
  refine ct (Z105.aj ⟨H2.2.1,H2.2.2.1⟩) ?_
  refine av ret (fun c3=>?_) (fun _=>rfl)
  refine ct (Z109.aj (a1:=(⟨0,(⟨((⟨#[]⟩:ByteArray):ByteArray),0,0,[]⟩:ah),(⟨((⟨#[]⟩:ByteArray):ByteArray),0,0,[]⟩:ah),(⟨0,[]⟩:aK),(⟨0,[]⟩:aK)⟩:bP)) ⟨H2.2.2.2,⟨⟨(by decide),bK.nil⟩,⟨(by decide),bK.nil⟩,bK.nil,bK.nil⟩⟩) ?_
  all_goals exact fz
 ·refine ct (Z111.aj ⟨H1,H2.2.2.2⟩) ?_
  refine av ret (fun c4=>?_) (fun _=>rfl)
  refine ct (Z110.aj ⟨H2.2.1,H2.2.2.1⟩) ?_
  all_goals exact fz
theorem af:cw 272 aV:=W3 46 F mix aD bq (.cons Z105.af (.cons Z109.af (.cons Z111.af (.cons Z110.af .nil)))) Tryz.func272
end Z112
namespace Z113
def F (x0:Int)(x1:ByteArray)(x2:aX)(x3:Int):aG:=(call (Z70.R x2.aQ) fun v1=>(cond (!v1.2) (ret (3:Int)) (cond (v1.1.bA != x0) (ret (2:Int)) (call (Z103.R (v1.1,x3)) fun v2=>(cond (!v2) (ret (4:Int)) (cond v1.1.bB (ret (5:Int)) (call (Z112.R (v1.1,x1,x2)) fun v3=>(cond (!v3) (ret (6:Int)) (ret (1:Int))))))))))
def md (a0:Int)(a1:ByteArray)(a2:ay)(a3:Int):Int:=(cond (!(Z70.md a2.aQ).2) (3:Int) (cond ((Z70.md a2.aQ).1.bA != a0) (2:Int) (cond (!(Z103.md ((Z70.md a2.aQ).1) a3)) (4:Int) (cond ((Z70.md a2.aQ).1.bB) (5:Int) (cond (!(Z112.md ((Z70.md a2.aQ).1) a1 a2)) (6:Int) (1:Int))))))
def gd (a0:Int)(a1:ByteArray)(a2:ay)(a3:Int):Prop:=(a1.size≤(2^21))∧(ay.Sm (2^21) a2)
def R:=RR (p4 gd) (u4 md)
theorem aj {a0 a1 a2 a3}(h:gd a0 a1 a2 a3):R (a0,a1,(ay.r a2),a3)=some (md a0 a1 a2 a3):=aM (a:=(a0,a1,a2,a3)) h
def aV:=CN [pI,pS,.agg yw,pI] oI RT.dec R
theorem bq (a0)(a1)(a2)(a3)(hg:gd a0 a1 a2 a3):F a0 a1 (ay.r a2) a3=ret (md a0 a1 a2 a3):=by
 obtain ⟨H1,H2⟩:=hg
 unfold F md
 try simp only [SS]
 refine ct (Z70.aj H2.1) ?_
 try simp only [SS]
 refine av ret (fun _=>rfl) (fun c1=>?_)
 refine av ret (fun _=>rfl) (fun c2=>?_)
 refine ct (Z103.aj trivial) ?_
 refine av ret (fun _=>rfl) (fun c3=>?_)
 refine av ret (fun _=>rfl) (fun c4=>?_)
 refine ct (Z112.aj ⟨H1,H2⟩) ?_
 refine av ret (fun _=>rfl) (fun _=>rfl)
theorem af:cw 95 aV:=W4 39 F mix aD bq (.cons Z70.af (.cons Z103.af (.cons Z112.af .nil))) Tryz.func95
end Z113
namespace Z114
inductive Pt where
 | p0 (a:Int) (b:aO) (c:aO)
def pid:Pt→Nat
 | .p0 ..=>4
def bY:Pt→List V
 | .p0 a b c=>[.dc 0 0,.dc 1 0,.int .i64 a]
def bZ:Pt→List aU
 | .p0 a b c=>[.box [.int .i64 b.aq.bA,.int .i64 b.aq.cE,.int .i64 b.aq.bD,.int .i64 b.aq.cB,.int .i64 b.aq.cq,.int .i64 b.aq.cg,.int .i64 b.aq.cS,.int .i64 b.aq.dz,.sl none 3 b.aq.bJ.aT,.int .i64 b.aq.bJ.cu,.sl none 3 b.aq.bw.aT,.int .i64 b.aq.bw.cu,.int .i64 b.aq.cW,.sl none 3 b.aq.bp.aT,.int .i64 b.aq.bp.cu,.bool b.aq.bB,.sl none 428 b.bW],.box [.int .i64 c.aq.bA,.int .i64 c.aq.cE,.int .i64 c.aq.bD,.int .i64 c.aq.cB,.int .i64 c.aq.cq,.int .i64 c.aq.cg,.int .i64 c.aq.cS,.int .i64 c.aq.dz,.sl none 3 c.aq.bJ.aT,.int .i64 c.aq.bJ.cu,.sl none 3 c.aq.bw.aT,.int .i64 c.aq.bw.cu,.int .i64 c.aq.cW,.sl none 3 c.aq.bp.aT,.int .i64 c.aq.bp.cu,.bool c.aq.bB,.sl none 428 c.bW]]
def step (J:Pt→aG):Pt→aG
 | .p0 a b c=>(cond (decide (a<(b.bW.length:Int))) (m2 a (b.bW.length:Int) (m2 a (c.bW.length:Int) (cond (!((((aY.at b.bW (toNat a)).gN:Int)==(aY.at c.bW (toNat a)).gN)&&((((aY.at b.bW (toNat a)).jw:Int)==(aY.at c.bW (toNat a)).jw)&&true))) (ret (false:Bool)) (J (.p0 (i64.wrap (a+1)) b c))))) (ret (true:Bool)))
def start (J:Pt→aG)(x0:aO)(x1:aO):aG:=(call (Z98.R (x0.aq,x1.aq)) fun v1=>(cond (!v1) (ret (false:Bool)) (cond ((x0.bW.length:Int) != (x1.bW.length:Int)) (ret (false:Bool)) (J (.p0 0 x0 x1)))))
def live:Nat→Live:=fun i=>match i with | 4=>[(2,none),(3,none),(5,none)] | _=>[]
def md (a0:aa)(a1:aa):Bool:=(bif (!(Z98.md a0.aq a1.aq)) then (false:Bool) else (bif ((a0.bW.length:Int) != (a1.bW.length:Int)) then (false:Bool) else (eg (S:=Unit) (β:=Bool) (fun (i3:Nat) (s5:Unit)=>(cond (!((((a0.bW.getD i3 aY.zero).gN:Int)==(a1.bW.getD i3 aY.zero).gN)&&((((a0.bW.getD i3 aY.zero).jw:Int)==(a1.bW.getD i3 aY.zero).jw)&&true))) (.inr (false:Bool)) (.inl ()))) (fun (s5:Unit)=>(true:Bool)) a0.bW.length 0 ())))
def gd (a0:aa)(a1:aa):Prop:=(aa.Sm (2^21) a0)∧(aa.Sm (2^21) a1)
def R:=RR (p2 gd) (u2 md)
theorem aj {a0 a1}(h:gd a0 a1):R ((aa.r a0),(aa.r a1))=some (md a0 a1):=aM (a:=(a0,a1)) h
def aV:=CN [.agg kH,.agg kH] oB RT.dec R
theorem bq (a0)(a1)(hg:gd a0 a1):∃n,start (iter step n) (aa.r a0) (aa.r a1)=ret (md a0 a1):=by
 obtain ⟨H0,H1⟩:=hg
 unfold start md
 try simp only [SS]
 refine cx (Z98.aj ⟨H0.1,H1.1⟩) ?_
 refine gT ret (fun _=>⟨0,rfl⟩) (fun c1=>?_)
 have dc1:=c1
 try simp only [DC] at dc1
 refine gT ret (fun _=>⟨0,rfl⟩) (fun c2=>?_)
 have dc2:=c2
 try simp only [DC] at dc2
 have Bh4:a0.bW.length≤maxLen:=(by
   have:=(H0.2).1
   try simp only [maxLen] at *
   omega)
 refine dN (p:=Pt.p0 0 (aa.r a0) (aa.r a1)) fz ?_
 refine ck (pt:=fun (i3:Nat) (s5:Unit)=>Pt.p0 (i3:Int) (aa.r a0) (aa.r a1)) (s:=(():Unit)) (out:=ret) (fun _ _=>True) (fun J i3 s5 h4 hih4=>?_) (fun s5 hih4=>?_) trivial
 ·simp only [step,SS]
  have bb_:=Bh4
  simp only [maxLen] at bb_
  have:=(H0.2).1
  refine bt.yes (by apply decide_eq_true;omega) ?_
  refine bt.yes aH ?_
  refine bt.yes (aL h4) ?_
  refine bt.yes aH ?_
  refine bt.yes (have:=(H1.2).1;dt) ?_
  refine bt.bif (fun _=>bt.inr rfl) (fun c6=>?_)
  refine bt.inl trivial ?_
  rw [aE h4 Bh4]
  all_goals exact fz
 ·simp only [step,SS]
  have:=(H0.2).1
  refine dx (by apply decide_eq_false;omega) ?_
  refine ⟨0,?_⟩
  all_goals exact fz
theorem af:cw 374 aV:=L2 39 pid bY bZ live step start mix aD bq (.cons Z98.af .nil) Tryz.func374
theorem md_eq (a0:aa)(a1:aa):md a0 a1=dZ a0 a1:=by
 unfold md
 simp only [Z98.md_eq,fq,aY.eqc]
 rw [jX aY.zero (fun i s h h2=>by cases dZ (a0.bW.getD i aY.zero) (a1.bW.getD i aY.zero)<;>rfl) (fun s=>rfl)]
 rw [Bool.eq_iff_iff]
 cases a0;cases a1
 simp [dm]
end Z114
namespace Z115
def F (x0:bF):aG:=(call (Z98.R (x0.fA.aq,x0.fB.aq)) fun v1=>(cond v1 (ret (false:Bool)) (call (Z114.R (x0.aP,(⟨(⟨0,0,0,0,0,0,0,0,(⟨[],0⟩:bu),(⟨[],0⟩:bu),0,(⟨[],0⟩:bu),false⟩:bU),[]⟩:aO))) fun v2=>(cond v2 (call (Z58.R x0.fA) fun v3=>(cond v3 (call (Z58.R x0.fB) fun v4=>(cond v4 (ret ((x0.fA.aq.bA==x0.fB.aq.bA):Bool)) (ret (false:Bool)))) (ret (false:Bool)))) (call (Z67.R (x0.aP.aq,x0.fA)) fun v5=>(cond v5 (call (Z67.R (x0.aP.aq,x0.fB)) fun v6=>ret (v6:Bool)) (ret (false:Bool))))))))
def md (a0:aB):Bool:=(cond (Z98.md a0.fA.aq a0.fB.aq) (false:Bool) (cond (Z114.md a0.aP (⟨(⟨0,0,0,0,0,0,0,0,(⟨[],0⟩:aJ),(⟨[],0⟩:aJ),0,(⟨[],0⟩:aJ),false⟩:aC),[]⟩:aa)) (cond (Z58.md a0.fA) (cond (Z58.md a0.fB) ((a0.fA.aq.bA==a0.fB.aq.bA):Bool) (false:Bool)) (false:Bool)) (cond (Z67.md a0.aP.aq a0.fA) ((Z67.md a0.aP.aq a0.fB):Bool) (false:Bool))))
def gd (a0:aB):Prop:=(aB.Sm (2^21) a0)
def R:=RR gd md
theorem aj {a0}(h:gd a0):R (aB.r a0)=some (md a0):=aM (a:=a0) h
def aV:=CN [.agg sQ] oB RT.dec R
theorem bq (a0)(hg:gd a0):F (aB.r a0)=ret (md a0):=by
 unfold gd at hg
 have H0:=hg
 unfold F md
 try simp only [SS]
 refine ct (Z98.aj ⟨H0.2.1.1,H0.2.2.1⟩) ?_
 refine av ret (fun _=>rfl) (fun c1=>?_)
 refine ct (Z114.aj (a1:=(⟨(⟨0,0,0,0,0,0,0,0,(⟨[],0⟩:aJ),(⟨[],0⟩:aJ),0,(⟨[],0⟩:aJ),false⟩:aC),[]⟩:aa)) ⟨H0.1,⟨⟨bK.nil,bK.nil,bK.nil⟩,bK.nil⟩⟩) ?_
 refine av ret (fun c2=>?_) (fun c2=>?_)
 ·refine ct (Z58.aj H0.2.1) ?_
  refine av ret (fun c3=>?_) (fun _=>rfl)
  refine ct (Z58.aj H0.2.2) ?_
  refine av ret (fun c4=>?_) (fun _=>rfl)
  all_goals exact fz
 ·refine ct (Z67.aj ⟨H0.1.1,H0.2.1⟩) ?_
  refine av ret (fun c5=>?_) (fun _=>rfl)
  refine ct (Z67.aj ⟨H0.1.1,H0.2.2⟩) ?_
  all_goals exact fz
theorem af:cw 254 aV:=W1 47 F mix aD bq (.cons Z98.af (.cons Z114.af (.cons Z58.af (.cons Z67.af .nil)))) Tryz.func254
end Z115
namespace Z116
def F (x0:bF):aG:=(call (Z115.R x0) fun v1=>(cond (!v1) (ret ((-1):Int)) (ret (x0.fA.aq.bA:Int))))
def md (a0:aB):Int:=(cond (!(Z115.md a0)) ((-1):Int) (a0.fA.aq.bA:Int))
def gd (a0:aB):Prop:=(aB.Sm (2^21) a0)
def R:=RR gd md
theorem aj {a0}(h:gd a0):R (aB.r a0)=some (md a0):=aM (a:=a0) h
def aV:=CN [.agg sQ] oI RT.dec R
theorem bq (a0)(hg:gd a0):F (aB.r a0)=ret (md a0):=by
 unfold gd at hg
 have H0:=hg
 unfold F md
 try simp only [SS]
 refine ct (Z115.aj H0) ?_
 refine av ret (fun _=>rfl) (fun c1=>?_)
 all_goals exact fz
theorem af:cw 416 aV:=W1 10 F mix aD bq (.cons Z115.af .nil) Tryz.func416
end Z116
namespace Z117
inductive Pt where
 | p0 (a:Int) (b:Int) (c:bn)
def pid:Pt→Nat
 | .p0 ..=>2
def bY:Pt→List V
 | .p0 a b c=>[.int .i64 a,.dc 0 0,.int .i64 b]
def bZ:Pt→List aU
 | .p0 a b c=>[.box [.sl none 92 c.aF,.sl none 280 c.bg]]
def step (J:Pt→aG):Pt→aG
 | .p0 a b c=>(cond (decide (b<(c.bg.length:Int))) (m2 b (c.bg.length:Int) (call (Z116.R (bF.at c.bg (toNat b))) fun v1=>(cond (v1==a) (cond (decide (a≥0)) (ret (true:Bool)) (J (.p0 a (i64.wrap (b+1)) c))) (J (.p0 a (i64.wrap (b+1)) c))))) (ret (false:Bool)))
def start (J:Pt→aG)(x0:bn)(x1:Int):aG:=J (.p0 x1 0 x0)
def live:Nat→Live:=fun i=>match i with | 2=>[(1,none),(2,none),(5,none)] | _=>[]
def md (a0:au)(a1:Int):Bool:=(dW (S:=Unit) (β:=Bool) (fun (y1:aB) (s3:Unit)=>(cond ((Z116.md y1)==a1) (cond (decide (a1≥0)) (.inr (true:Bool)) (.inl ())) (.inl ()))) (fun (s3:Unit)=>(false:Bool)) a0.bg ())
def gd (a0:au)(a1:Int):Prop:=(au.Sm (2^21) a0)
def R:=RR (p2 gd) (u2 md)
theorem aj {a0 a1}(h:gd a0 a1):R ((au.r a0),a1)=some (md a0 a1):=aM (a:=(a0,a1)) h
def aV:=CN [.agg tI,pI] oB RT.dec R
theorem bq (a0)(a1)(hg:gd a0 a1):∃n,start (iter step n) (au.r a0) a1=ret (md a0 a1):=by
 unfold gd at hg
 have H0:=hg
 unfold start md
 try simp only [SS]
 have Bh2:a0.bg.length≤maxLen:=(by
   have:=(H0.2).1
   try simp only [maxLen] at *
   omega)
 refine ex_eq (out:=ret) (eE (z:=aB.zero)) ?_
 refine dN (p:=Pt.p0 a1 0 (au.r a0)) fz ?_
 refine ck (pt:=fun (i1:Nat) (s3:Unit)=>Pt.p0 a1 (i1:Int) (au.r a0)) (s:=(():Unit)) (out:=ret) (fun _ _=>True) (fun J i1 s3 h2 hih2=>?_) (fun s3 hih2=>?_) trivial
 ·simp only [step,SS]
  have bb_:=Bh2
  simp only [maxLen] at bb_
  have:=(H0.2).1
  refine bt.yes (by apply decide_eq_true;omega) ?_
  refine bt.yes aH ?_
  refine bt.yes (aL h2) ?_
  refine cr (Z116.aj (bK.getD (z:=aB.zero) H0.2 h2)) ?_
  refine bt.bif (fun c4=>?_) (fun c4=>?_)
  ·refine bt.bif (fun _=>bt.inr rfl) (fun c5=>?_)
   refine bt.inl trivial ?_
   rw [aE h2 Bh2]
   all_goals exact fz
  ·refine bt.inl trivial ?_
   rw [aE h2 Bh2]
   all_goals exact fz
 ·simp only [step,SS]
  have:=(H0.2).1
  refine dx (by apply decide_eq_false;omega) ?_
  refine ⟨0,?_⟩
  all_goals exact fz
theorem af:cw 301 aV:=L2 25 pid bY bZ live step start mix aD bq (.cons Z116.af .nil) Tryz.func301
end Z117
namespace Z118
inductive Pt where
 | p0 (a:List (List L)) (b:Int) (c:ByteArray) (d:Int) (e:Int) (f:Bool) (g:ByteArray) (h:Int) (i:Int) (j:Bool) (k:Bool) (l:ByteArray) (m:Int) (n:Int) (o:Bool) (p:List (List L)) (q:List (List L)) (s:List (List L))
def pid:Pt→Nat
 | .p0 ..=>3
def bY:Pt→List V
 | .p0 a b c d e f g h i j k l m n o p q s=>[.sl none 132 a,.int .i64 b,.str c,.int .i64 d,.dc 0 0,.dc 1 0,.int .i64 e,.dc 1 0]
def bZ:Pt→List aU
 | .p0 a b c d e f g h i j k l m n o p q s=>[.box [.nil,.nil,.bool f,.str g,.int .i64 h,.int .i64 i,.nil,.bool j,.nil],.box [.own 2,.own 3,.bool k,.str l,.int .i64 m,.int .i64 n,.nil,.bool o,.own 4],.row 92 p,.row 280 q,.row 3 s]
def step (J:Pt→aG):Pt→aG
 | .p0 a b c d e f g h i j k l m n o p q s=>(cond (decide (e<(a.length:Int))) (m2 e (a.length:Int) (call (Z70.R ((aX.at a (toNat e)).aQ)) fun v1=>(cond v1.2 (cond (v1.1.bA==b) (call (Z102.R ((⟨p,q⟩:bn),(aX.at a (toNat e)).aQ)) fun v2=>(call (Z113.R (b,c,(aX.at a (toNat e)),d)) fun v3=>(cond (v2.2==1) (cond (v3==1) (call (Z117.R (v2.1,b)) fun v4=>(cond v4 (bX (eU (((s.length:Int)+1)*8)) (J (.p0 a b c d (i64.wrap (e+1)) f g h i j k l m n o v2.1.aF v2.1.bg (s++[[L.int 3]])))) (bX (eU (((s.length:Int)+1)*8)) (cond (v3==1) (call (Z89.R ((aX.at a (toNat e)).aN)) fun v5=>ret ((⟨v2.1,(aX.at a (toNat e)).cj,v5,true,(s++[[L.int v3]])⟩:cY):cY)) (J (.p0 a b c d (i64.wrap (e+1)) f g h i j k l m n o v2.1.aF v2.1.bg (s++[[L.int v3]]))))))) (bX (eU (((s.length:Int)+1)*8)) (cond (v3==1) (call (Z89.R ((aX.at a (toNat e)).aN)) fun v6=>ret ((⟨v2.1,(aX.at a (toNat e)).cj,v6,true,(s++[[L.int v3]])⟩:cY):cY)) (J (.p0 a b c d (i64.wrap (e+1)) f g h i j k l m n o v2.1.aF v2.1.bg (s++[[L.int v3]])))))) (cond (v2.2==2) (cond (v3==1) (call (Z117.R (v2.1,b)) fun v7=>(cond v7 (bX (eU (((s.length:Int)+1)*8)) (J (.p0 a b c d (i64.wrap (e+1)) f g h i j k l m n o v2.1.aF v2.1.bg (s++[[L.int 3]])))) (bX (eU (((s.length:Int)+1)*8)) (cond (v3==1) (call (Z89.R ((aX.at a (toNat e)).aN)) fun v8=>ret ((⟨v2.1,(aX.at a (toNat e)).cj,v8,true,(s++[[L.int v3]])⟩:cY):cY)) (J (.p0 a b c d (i64.wrap (e+1)) f g h i j k l m n o v2.1.aF v2.1.bg (s++[[L.int v3]]))))))) (bX (eU (((s.length:Int)+1)*8)) (cond (v3==1) (call (Z89.R ((aX.at a (toNat e)).aN)) fun v9=>ret ((⟨v2.1,(aX.at a (toNat e)).cj,v9,true,(s++[[L.int v3]])⟩:cY):cY)) (J (.p0 a b c d (i64.wrap (e+1)) f g h i j k l m n o v2.1.aF v2.1.bg (s++[[L.int v3]])))))) (cond (v3==1) (cond (!(v2.2==3)) (bX (eU (((s.length:Int)+1)*8)) (J (.p0 a b c d (i64.wrap (e+1)) f g h i j k l m n o v2.1.aF v2.1.bg (s++[[L.int 3]])))) (call (Z117.R (v2.1,b)) fun v10=>(cond v10 (bX (eU (((s.length:Int)+1)*8)) (J (.p0 a b c d (i64.wrap (e+1)) f g h i j k l m n o v2.1.aF v2.1.bg (s++[[L.int 3]])))) (bX (eU (((s.length:Int)+1)*8)) (cond (v3==1) (call (Z89.R ((aX.at a (toNat e)).aN)) fun v11=>ret ((⟨v2.1,(aX.at a (toNat e)).cj,v11,true,(s++[[L.int v3]])⟩:cY):cY)) (J (.p0 a b c d (i64.wrap (e+1)) f g h i j k l m n o v2.1.aF v2.1.bg (s++[[L.int v3]])))))))) (bX (eU (((s.length:Int)+1)*8)) (cond (v3==1) (call (Z89.R ((aX.at a (toNat e)).aN)) fun v12=>ret ((⟨v2.1,(aX.at a (toNat e)).cj,v12,true,(s++[[L.int v3]])⟩:cY):cY)) (J (.p0 a b c d (i64.wrap (e+1)) f g h i j k l m n o v2.1.aF v2.1.bg (s++[[L.int v3]])))))))))) (call (Z113.R (b,c,(aX.at a (toNat e)),d)) fun v13=>(cond (v13==1) (bX (eU (((s.length:Int)+1)*8)) (J (.p0 a b c d (i64.wrap (e+1)) f g h i j k l m n o p q (s++[[L.int 3]])))) (bX (eU (((s.length:Int)+1)*8)) (cond (v13==1) (call (Z89.R ((aX.at a (toNat e)).aN)) fun v14=>ret ((⟨(⟨p,q⟩:bn),(aX.at a (toNat e)).cj,v14,true,(s++[[L.int v13]])⟩:cY):cY)) (J (.p0 a b c d (i64.wrap (e+1)) f g h i j k l m n o p q (s++[[L.int v13]])))))))) (call (Z113.R (b,c,(aX.at a (toNat e)),d)) fun v15=>(cond (v15==1) (bX (eU (((s.length:Int)+1)*8)) (J (.p0 a b c d (i64.wrap (e+1)) f g h i j k l m n o p q (s++[[L.int 3]])))) (bX (eU (((s.length:Int)+1)*8)) (cond (v15==1) (call (Z89.R ((aX.at a (toNat e)).aN)) fun v16=>ret ((⟨(⟨p,q⟩:bn),(aX.at a (toNat e)).cj,v16,true,(s++[[L.int v15]])⟩:cY):cY)) (J (.p0 a b c d (i64.wrap (e+1)) f g h i j k l m n o p q (s++[[L.int v15]])))))))))) (ret ((⟨(⟨p,q⟩:bn),k,(⟨l,m,n,[]⟩:aS),o,s⟩:cY):cY)))
def start (J:Pt→aG)(x0:bn)(x1:List (List L))(x2:Int)(x3:ByteArray)(x4:Int):aG:=(call (Z40.R x0) fun v1=>J (.p0 x1 x2 x3 x4 0 false ⟨#[]⟩ 0 0 false false ⟨#[]⟩ 0 0 false v1.aF v1.bg []))
def live:Nat→Live:=fun i=>match i with | 3=>[(1,none),(2,none),(3,none),(4,none),(10,none),(11,none),(12,none),(11,some 8388611)] | _=>[]
def md (a0:au)(a1:List ay)(a2:Int)(a3:ByteArray)(a4:Int):bO:=(dW (S:=List (List aa)×List aB×List Int) (β:=bO) (fun (y1:ay) (s3:List (List aa)×List aB×List Int)=>(cond ((Z70.md (y1.aQ)).2) (cond ((Z70.md (y1.aQ)).1.bA==a2) (cond ((Z102.md (⟨s3.1,s3.2.1⟩:au) (y1.aQ)).2==1) (cond ((Z113.md a2 a3 y1 a4)==1) (cond (Z117.md ((Z102.md (⟨s3.1,s3.2.1⟩:au) (y1.aQ)).1) a2) (.inl ((Z102.md (⟨s3.1,s3.2.1⟩:au) (y1.aQ)).1.aF,(Z102.md (⟨s3.1,s3.2.1⟩:au) (y1.aQ)).1.bg,(s3.2.2++[3]))) (cond ((Z113.md a2 a3 y1 a4)==1) (.inr (⟨(Z102.md (⟨s3.1,s3.2.1⟩:au) (y1.aQ)).1,y1.cj,(y1.aN),true,(s3.2.2++[(Z113.md a2 a3 y1 a4)])⟩:bO)) (.inl ((Z102.md (⟨s3.1,s3.2.1⟩:au) (y1.aQ)).1.aF,(Z102.md (⟨s3.1,s3.2.1⟩:au) (y1.aQ)).1.bg,(s3.2.2++[(Z113.md a2 a3 y1 a4)]))))) (cond ((Z113.md a2 a3 y1 a4)==1) (.inr (⟨(Z102.md (⟨s3.1,s3.2.1⟩:au) (y1.aQ)).1,y1.cj,(y1.aN),true,(s3.2.2++[(Z113.md a2 a3 y1 a4)])⟩:bO)) (.inl ((Z102.md (⟨s3.1,s3.2.1⟩:au) (y1.aQ)).1.aF,(Z102.md (⟨s3.1,s3.2.1⟩:au) (y1.aQ)).1.bg,(s3.2.2++[(Z113.md a2 a3 y1 a4)]))))) (cond ((Z102.md (⟨s3.1,s3.2.1⟩:au) (y1.aQ)).2==2) (cond ((Z113.md a2 a3 y1 a4)==1) (cond (Z117.md ((Z102.md (⟨s3.1,s3.2.1⟩:au) (y1.aQ)).1) a2) (.inl ((Z102.md (⟨s3.1,s3.2.1⟩:au) (y1.aQ)).1.aF,(Z102.md (⟨s3.1,s3.2.1⟩:au) (y1.aQ)).1.bg,(s3.2.2++[3]))) (cond ((Z113.md a2 a3 y1 a4)==1) (.inr (⟨(Z102.md (⟨s3.1,s3.2.1⟩:au) (y1.aQ)).1,y1.cj,(y1.aN),true,(s3.2.2++[(Z113.md a2 a3 y1 a4)])⟩:bO)) (.inl ((Z102.md (⟨s3.1,s3.2.1⟩:au) (y1.aQ)).1.aF,(Z102.md (⟨s3.1,s3.2.1⟩:au) (y1.aQ)).1.bg,(s3.2.2++[(Z113.md a2 a3 y1 a4)]))))) (cond ((Z113.md a2 a3 y1 a4)==1) (.inr (⟨(Z102.md (⟨s3.1,s3.2.1⟩:au) (y1.aQ)).1,y1.cj,(y1.aN),true,(s3.2.2++[(Z113.md a2 a3 y1 a4)])⟩:bO)) (.inl ((Z102.md (⟨s3.1,s3.2.1⟩:au) (y1.aQ)).1.aF,(Z102.md (⟨s3.1,s3.2.1⟩:au) (y1.aQ)).1.bg,(s3.2.2++[(Z113.md a2 a3 y1 a4)]))))) (cond ((Z113.md a2 a3 y1 a4)==1) (cond (!((Z102.md (⟨s3.1,s3.2.1⟩:au) (y1.aQ)).2==3)) (.inl ((Z102.md (⟨s3.1,s3.2.1⟩:au) (y1.aQ)).1.aF,(Z102.md (⟨s3.1,s3.2.1⟩:au) (y1.aQ)).1.bg,(s3.2.2++[3]))) (cond (Z117.md ((Z102.md (⟨s3.1,s3.2.1⟩:au) (y1.aQ)).1) a2) (.inl ((Z102.md (⟨s3.1,s3.2.1⟩:au) (y1.aQ)).1.aF,(Z102.md (⟨s3.1,s3.2.1⟩:au) (y1.aQ)).1.bg,(s3.2.2++[3]))) (cond ((Z113.md a2 a3 y1 a4)==1) (.inr (⟨(Z102.md (⟨s3.1,s3.2.1⟩:au) (y1.aQ)).1,y1.cj,(y1.aN),true,(s3.2.2++[(Z113.md a2 a3 y1 a4)])⟩:bO)) (.inl ((Z102.md (⟨s3.1,s3.2.1⟩:au) (y1.aQ)).1.aF,(Z102.md (⟨s3.1,s3.2.1⟩:au) (y1.aQ)).1.bg,(s3.2.2++[(Z113.md a2 a3 y1 a4)])))))) (cond ((Z113.md a2 a3 y1 a4)==1) (.inr (⟨(Z102.md (⟨s3.1,s3.2.1⟩:au) (y1.aQ)).1,y1.cj,(y1.aN),true,(s3.2.2++[(Z113.md a2 a3 y1 a4)])⟩:bO)) (.inl ((Z102.md (⟨s3.1,s3.2.1⟩:au) (y1.aQ)).1.aF,(Z102.md (⟨s3.1,s3.2.1⟩:au) (y1.aQ)).1.bg,(s3.2.2++[(Z113.md a2 a3 y1 a4)]))))))) (cond ((Z113.md a2 a3 y1 a4)==1) (.inl (s3.1,s3.2.1,(s3.2.2++[3]))) (cond ((Z113.md a2 a3 y1 a4)==1) (.inr (⟨(⟨s3.1,s3.2.1⟩:au),y1.cj,(y1.aN),true,(s3.2.2++[(Z113.md a2 a3 y1 a4)])⟩:bO)) (.inl (s3.1,s3.2.1,(s3.2.2++[(Z113.md a2 a3 y1 a4)])))))) (cond ((Z113.md a2 a3 y1 a4)==1) (.inl (s3.1,s3.2.1,(s3.2.2++[3]))) (cond ((Z113.md a2 a3 y1 a4)==1) (.inr (⟨(⟨s3.1,s3.2.1⟩:au),y1.cj,(y1.aN),true,(s3.2.2++[(Z113.md a2 a3 y1 a4)])⟩:bO)) (.inl (s3.1,s3.2.1,(s3.2.2++[(Z113.md a2 a3 y1 a4)]))))))) (fun (s3:List (List aa)×List aB×List Int)=>(⟨(⟨s3.1,s3.2.1⟩:au),false,(⟨(⟨#[]⟩:ByteArray),0,0,[]⟩:ah),false,s3.2.2⟩:bO)) a1 (a0.aF,a0.bg,[]))
def gd (a0:au)(a1:List ay)(a2:Int)(a3:ByteArray)(a4:Int):Prop:=(au.Sm (2^21) a0)∧(bK (2^21) (fun y:ay=>ay.Sm (2^21) y) a1)∧(a3.size≤(2^21))
def R:=RR (p5 gd) (u5 md)
theorem aj {a0 a1 a2 a3 a4}(h:gd a0 a1 a2 a3 a4):R ((au.r a0),(a1.map ay.row),a2,a3,a4)=some (bO.r (md a0 a1 a2 a3 a4)):=aM (a:=(a0,a1,a2,a3,a4)) h
def aV:=CN [.agg tI,pL 132,pI,pS,pI] (.agg f169) RT.dec R
theorem bq (a0)(a1)(a2)(a3)(a4)(hg:gd a0 a1 a2 a3 a4):∃n,start (iter step n) (au.r a0) (a1.map ay.row) a2 a3 a4=ret (bO.r (md a0 a1 a2 a3 a4)):=by
 obtain ⟨H0,H1,H3⟩:=hg
 unfold start md
 try simp only [SS]
 refine cx (Z40.aj H0) ?_
 try simp only [SS]
 have Bh2:a1.length≤maxLen:=(by
   have:=(H1).1
   try simp only [maxLen] at *
   omega)
 refine ex_eq (out:=(fun b:bO=>ret ((bO.r b):cY))) (eE (z:=ay.zero)) ?_
 refine dN (p:=Pt.p0 (a1.map ay.row) a2 a3 a4 0 false (⟨#[]⟩:ByteArray) 0 0 false false (⟨#[]⟩:ByteArray) 0 0 false (a0.aF.map (dK aa.row)) (a0.bg.map aB.row) ([].map aZ)) fz ?_
 refine ck (pt:=fun (i1:Nat) (s3:List (List aa)×List aB×List Int)=>Pt.p0 (a1.map ay.row) a2 a3 a4 (i1:Int) false (⟨#[]⟩:ByteArray) 0 0 false false (⟨#[]⟩:ByteArray) 0 0 false (s3.1.map (dK aa.row)) (s3.2.1.map aB.row) (s3.2.2.map aZ)) (s:=((a0.aF,a0.bg,[]):List (List aa)×List aB×List Int)) (out:=(fun b:bO=>ret ((bO.r b):cY))) (fun (i1:Nat) (s3:List (List aa)×List aB×List Int)=>au.Sm (2^21) (⟨s3.1,s3.2.1⟩:au)∧s3.2.2.length≤i1) (fun J i1 s3 h2 hih2=>?_) (fun s3 hih2=>?_) ⟨H0,Nat.zero_le _⟩
 ·simp only [step,SS]
  have gr_:=hih2
  try simp only [LN] at gr_
  have bb_:=Bh2
  simp only [maxLen] at bb_
  have:=(H1).1
  refine bt.yes (by apply decide_eq_true;omega) ?_
  refine bt.yes aH ?_
  refine bt.yes (aL h2) ?_
  refine cr (Z70.aj (bK.getD (z:=ay.zero) H1 h2).1) ?_
  try simp only [SS]
  refine bt.bif (fun c4=>?_) (fun c4=>?_)
  ·refine bt.bif (fun c5=>?_) (fun c5=>?_)
   ·have dc5:=c5
    try simp only [DC] at dc5
    refine cr (Z102.aj (a0:=(⟨s3.1,s3.2.1⟩:au)) ⟨⟨hih2.1.1,hih2.1.2⟩,(bK.getD (z:=ay.zero) H1 h2).1⟩) ?_
    try simp only [SS]
    refine cr (Z113.aj ⟨H3,(bK.getD (z:=ay.zero) H1 h2)⟩) ?_
    refine bt.bif (fun c6=>?_) (fun c6=>?_)
    ·have dc6:=c6
     try simp only [DC] at dc6
     refine bt.bif (fun c7=>?_) (fun c7=>?_)
     ·have dc7:=c7
      try simp only [DC] at dc7
      refine cr (Z117.aj (a0:=(Z102.md (⟨s3.1,s3.2.1⟩:au) ((a1.getD i1 ay.zero).aQ)).1) (Z102.gh (a0:=(⟨s3.1,s3.2.1⟩:au)) (a1:=(a1.getD i1 ay.zero).aQ) ⟨⟨hih2.1.1,hih2.1.2⟩,(bK.getD (z:=ay.zero) H1 h2).1⟩)) ?_
      refine bt.bif (fun c8=>?_) (fun c8=>?_)
      ·refine bt.yes lm ?_
       refine bt.inl (by first | exact ⟨hih2.1,iy hih2.2⟩ | exact ⟨Z102.gh ⟨hih2.1,(bK.getD H1 h2).1⟩,iy hih2.2⟩) ?_
       rw [aE h2 Bh2]
       all_goals exact fz
      ·refine bt.yes lm ?_
       refine bt.bif (fun c9=>?_) (fun c9=>?_)
       ·refine cr (Z89.aj (bK.getD (z:=ay.zero) H1 h2).2.1) ?_
        try simp only [SS]
        refine bt.inr ?_
        all_goals exact fz
       ·refine bt.inl (by first | exact ⟨hih2.1,iy hih2.2⟩ | exact ⟨Z102.gh ⟨hih2.1,(bK.getD H1 h2).1⟩,iy hih2.2⟩) ?_
        rw [aE h2 Bh2]
        all_goals exact fz
     ·have dc7:=c7
      try simp only [DC] at dc7
      refine bt.yes lm ?_
      refine bt.bif (fun c10=>?_) (fun c10=>?_)
      ·refine cr (Z89.aj (bK.getD (z:=ay.zero) H1 h2).2.1) ?_
       try simp only [SS]
       refine bt.inr ?_
       all_goals exact fz
      ·refine bt.inl (by first | exact ⟨hih2.1,iy hih2.2⟩ | exact ⟨Z102.gh ⟨hih2.1,(bK.getD H1 h2).1⟩,iy hih2.2⟩) ?_
       rw [aE h2 Bh2]
       all_goals exact fz
    ·have dc6:=c6
     try simp only [DC] at dc6
     refine bt.bif (fun c11=>?_) (fun c11=>?_)
     ·have dc11:=c11
      try simp only [DC] at dc11
      refine bt.bif (fun c12=>?_) (fun c12=>?_)
      ·have dc12:=c12
       try simp only [DC] at dc12
       refine cr (Z117.aj (a0:=(Z102.md (⟨s3.1,s3.2.1⟩:au) ((a1.getD i1 ay.zero).aQ)).1) (Z102.gh (a0:=(⟨s3.1,s3.2.1⟩:au)) (a1:=(a1.getD i1 ay.zero).aQ) ⟨⟨hih2.1.1,hih2.1.2⟩,(bK.getD (z:=ay.zero) H1 h2).1⟩)) ?_
       refine bt.bif (fun c13=>?_) (fun c13=>?_)
       ·refine bt.yes lm ?_
        refine bt.inl (by first | exact ⟨hih2.1,iy hih2.2⟩ | exact ⟨Z102.gh ⟨hih2.1,(bK.getD H1 h2).1⟩,iy hih2.2⟩) ?_
        rw [aE h2 Bh2]
        all_goals exact fz
       ·refine bt.yes lm ?_
        refine bt.bif (fun c14=>?_) (fun c14=>?_)
        ·refine cr (Z89.aj (bK.getD (z:=ay.zero) H1 h2).2.1) ?_
         try simp only [SS]
         refine bt.inr ?_
         all_goals exact fz
        ·refine bt.inl (by first | exact ⟨hih2.1,iy hih2.2⟩ | exact ⟨Z102.gh ⟨hih2.1,(bK.getD H1 h2).1⟩,iy hih2.2⟩) ?_
         rw [aE h2 Bh2]
         all_goals exact fz
      ·have dc12:=c12
       try simp only [DC] at dc12
       refine bt.yes lm ?_
       refine bt.bif (fun c15=>?_) (fun c15=>?_)
       ·refine cr (Z89.aj (bK.getD (z:=ay.zero) H1 h2).2.1) ?_
        try simp only [SS]
        refine bt.inr ?_
        all_goals exact fz
       ·refine bt.inl (by first | exact ⟨hih2.1,iy hih2.2⟩ | exact ⟨Z102.gh ⟨hih2.1,(bK.getD H1 h2).1⟩,iy hih2.2⟩) ?_
        rw [aE h2 Bh2]
        all_goals exact fz
     ·have dc11:=c11
      try simp only [DC] at dc11
      refine bt.bif (fun c16=>?_) (fun c16=>?_)
      ·have dc16:=c16
       try simp only [DC] at dc16
       refine bt.bif (fun c17=>?_) (fun c17=>?_)
       ·have dc17:=c17
        try simp only [DC] at dc17
        refine bt.yes lm ?_
        refine bt.inl (by first | exact ⟨hih2.1,iy hih2.2⟩ | exact ⟨Z102.gh ⟨hih2.1,(bK.getD H1 h2).1⟩,iy hih2.2⟩) ?_
        rw [aE h2 Bh2]
        all_goals exact fz
       ·have dc17:=c17
        try simp only [DC] at dc17
        refine cr (Z117.aj (a0:=(Z102.md (⟨s3.1,s3.2.1⟩:au) ((a1.getD i1 ay.zero).aQ)).1) (Z102.gh (a0:=(⟨s3.1,s3.2.1⟩:au)) (a1:=(a1.getD i1 ay.zero).aQ) ⟨⟨hih2.1.1,hih2.1.2⟩,(bK.getD (z:=ay.zero) H1 h2).1⟩)) ?_
        refine bt.bif (fun c18=>?_) (fun c18=>?_)
        ·refine bt.yes lm ?_
         refine bt.inl (by first | exact ⟨hih2.1,iy hih2.2⟩ | exact ⟨Z102.gh ⟨hih2.1,(bK.getD H1 h2).1⟩,iy hih2.2⟩) ?_
         rw [aE h2 Bh2]
         all_goals exact fz
        ·refine bt.yes lm ?_
         refine bt.bif (fun c19=>?_) (fun c19=>?_)
         ·refine cr (Z89.aj (bK.getD (z:=ay.zero) H1 h2).2.1) ?_
          try simp only [SS]
          refine bt.inr ?_
          all_goals exact fz
         ·refine bt.inl (by first | exact ⟨hih2.1,iy hih2.2⟩ | exact ⟨Z102.gh ⟨hih2.1,(bK.getD H1 h2).1⟩,iy hih2.2⟩) ?_
          rw [aE h2 Bh2]
          all_goals exact fz
      ·have dc16:=c16
       try simp only [DC] at dc16
       refine bt.yes lm ?_
       refine bt.bif (fun c20=>?_) (fun c20=>?_)
       ·refine cr (Z89.aj (bK.getD (z:=ay.zero) H1 h2).2.1) ?_
        try simp only [SS]
        refine bt.inr ?_
        all_goals exact fz
       ·refine bt.inl (by first | exact ⟨hih2.1,iy hih2.2⟩ | exact ⟨Z102.gh ⟨hih2.1,(bK.getD H1 h2).1⟩,iy hih2.2⟩) ?_
        rw [aE h2 Bh2]
        all_goals exact fz
   ·have dc5:=c5
    try simp only [DC] at dc5
    refine cr (Z113.aj ⟨H3,(bK.getD (z:=ay.zero) H1 h2)⟩) ?_
    refine bt.bif (fun c21=>?_) (fun c21=>?_)
    ·have dc21:=c21
     try simp only [DC] at dc21
     refine bt.yes lm ?_
     refine bt.inl (by first | exact ⟨hih2.1,iy hih2.2⟩ | exact ⟨Z102.gh ⟨hih2.1,(bK.getD H1 h2).1⟩,iy hih2.2⟩) ?_
     rw [aE h2 Bh2]
     all_goals exact fz
    ·have dc21:=c21
     try simp only [DC] at dc21
     refine bt.yes lm ?_
     refine bt.bif (fun c22=>?_) (fun c22=>?_)
     ·refine cr (Z89.aj (bK.getD (z:=ay.zero) H1 h2).2.1) ?_
      try simp only [SS]
      refine bt.inr ?_
      all_goals exact fz
     ·refine bt.inl (by first | exact ⟨hih2.1,iy hih2.2⟩ | exact ⟨Z102.gh ⟨hih2.1,(bK.getD H1 h2).1⟩,iy hih2.2⟩) ?_
      rw [aE h2 Bh2]
      all_goals exact fz
  ·refine cr (Z113.aj ⟨H3,(bK.getD (z:=ay.zero) H1 h2)⟩) ?_
   refine bt.bif (fun c23=>?_) (fun c23=>?_)
   ·have dc23:=c23
    try simp only [DC] at dc23
    refine bt.yes lm ?_
    refine bt.inl (by first | exact ⟨hih2.1,iy hih2.2⟩ | exact ⟨Z102.gh ⟨hih2.1,(bK.getD H1 h2).1⟩,iy hih2.2⟩) ?_
    rw [aE h2 Bh2]
    all_goals exact fz
   ·have dc23:=c23
    try simp only [DC] at dc23
    refine bt.yes lm ?_
    refine bt.bif (fun c24=>?_) (fun c24=>?_)
    ·refine cr (Z89.aj (bK.getD (z:=ay.zero) H1 h2).2.1) ?_
     try simp only [SS]
     refine bt.inr ?_
     all_goals exact fz
    ·refine bt.inl (by first | exact ⟨hih2.1,iy hih2.2⟩ | exact ⟨Z102.gh ⟨hih2.1,(bK.getD H1 h2).1⟩,iy hih2.2⟩) ?_
     rw [aE h2 Bh2]
     all_goals exact fz
 ·simp only [step,SS]
  have gr_:=hih2
  try simp only [LN] at gr_
  have:=(H1).1
  refine dx (by apply decide_eq_false;omega) ?_
  refine ⟨0,?_⟩
  all_goals exact fz
theorem af:cw 120 aV:=L5 99 pid bY bZ live step start mix aD bq (.cons Z40.af (.cons Z70.af (.cons Z102.af (.cons Z113.af (.cons Z117.af (.cons Z89.af .nil)))))) Tryz.func120
def nJ (z:Int)(l:ByteArray)(now:Int)(y:ay)(k:au):au×Int:=
 let kn:=bif (Z70.md y.aQ).2&&((Z70.md y.aQ).1.bA==z) then Z102.md k y.aQ else (k,6)
 (kn.1,bif (Z113.md z l y now==1)&&!((kn.2==1||(kn.2==2||kn.2==3))&&!Z117.md kn.1 z) then 3 else Z113.md z l y now)
def tH (z:Int)(l:ByteArray)(now:Int)(y:ay)(s:List (List aa)×List aB×List Int):List (List aa)×List aB×List Int⊕bO:=
 bif (nJ z l now y ⟨s.1,s.2.1⟩).2==1 then .inr ⟨(nJ z l now y ⟨s.1,s.2.1⟩).1,y.cj,y.aN,true,s.2.2++[(nJ z l now y ⟨s.1,s.2.1⟩).2]⟩
 else .inl ((nJ z l now y ⟨s.1,s.2.1⟩).1.aF,(nJ z l now y ⟨s.1,s.2.1⟩).1.bg,s.2.2++[(nJ z l now y ⟨s.1,s.2.1⟩).2])
def fin (s:List (List aa)×List aB×List Int):bO:=⟨⟨s.1,s.2.1⟩,false,⟨⟨#[]⟩,0,0,[]⟩,false,s.2.2⟩
theorem qQ (a0:au)(a1:List ay)(a2:Int)(a3:ByteArray)(a4:Int):md a0 a1 a2 a3 a4=dW (tH a2 a3 a4) fin a1 (a0.aF,a0.bg,[]):=by
 unfold md
 refine pJ (fun y _ s=>?_) (fun s=>rfl)
 have h31:((3:Int)==1)=false:=rfl
 have h61:((6:Int)==1)=false:=rfl
 have h62:((6:Int)==2)=false:=rfl
 have h63:((6:Int)==3)=false:=rfl
 unfold tH nJ
 cases g1:(Z70.md y.aQ).2
 ·cases g2:(Z113.md a2 a3 y a4==1)<;>simp [g2,h31,h61,h62,h63]
 cases g3:((Z70.md y.aQ).1.bA==a2)
 ·cases g2:(Z113.md a2 a3 y a4==1)<;>simp [g2,h31,h61,h62,h63]
 generalize Z102.md (⟨s.1,s.2.1⟩:au) y.aQ=r
 cases g2:(Z113.md a2 a3 y a4==1)<;>cases g4:(r.2==1)<;>cases g5:(r.2==2)<;>cases g6:(r.2==3)<;>cases g7:Z117.md r.1 a2<;>simp [g2,g4,g5,g6,g7,h31]
theorem yC (z:Int)(l:ByteArray)(now:Int)(y:ay)(k:au):Z102.Cz (nJ z l now y k).1.aF≤Z102.Cz k.aF+(ay.size y+1)∧
  Z102.Fz (nJ z l now y k).1.bg≤Z102.Fz k.bg+(2*Z102.Cz k.aF+ay.size y+1):=by
 have h:=Z102.grow k y.aQ
 have hs:dQ (fun y:aa=>aa.size y) y.aQ≤ay.size y:=by unfold ay.size;omega
 unfold nJ
 cases (Z70.md y.aQ).2&&((Z70.md y.aQ).1.bA==z)
 ·simp only [bk];omega
 ·simp only [bf];omega
theorem xX {α:Type}(f:α→Nat)(x:α)(xs:List α):dQ f (x::xs)=dQ f xs+(f x+1):=by simp [dQ];omega
theorem grow (z:Int)(l:ByteArray)(now:Int):∀(xs:List ay) (s:List (List aa)×List aB×List Int),
  Z102.Cz (dW (tH z l now) fin xs s).bV.aF≤Z102.Cz s.1+dQ (fun y:ay=>ay.size y) xs∧
  Z102.Fz (dW (tH z l now) fin xs s).bV.bg≤Z102.Fz s.2.1+xs.length*(2*(Z102.Cz s.1+dQ (fun y:ay=>ay.size y) xs)+dQ (fun y:ay=>ay.size y) xs)∧
  (dW (tH z l now) fin xs s).kO.length≤s.2.2.length+xs.length∧ah.size (dW (tH z l now) fin xs s).aN≤dQ (fun y:ay=>ay.size y) xs
 | [],s=>⟨Nat.le_add_right _ _,Nat.le_add_right _ _,Nat.le_refl _,Nat.zero_le _⟩
 | y::xs,s=>by
  have hg:=yC z l now y ⟨s.1,s.2.1⟩
  have hy:ah.size y.aN≤ay.size y:=by unfold ay.size;omega
  rw [xX]
  unfold dW
  cases hb:(nJ z l now y ⟨s.1,s.2.1⟩).2==1
  ·have e:tH z l now y s=.inl ((nJ z l now y ⟨s.1,s.2.1⟩).1.aF,(nJ z l now y ⟨s.1,s.2.1⟩).1.bg,s.2.2++[(nJ z l now y ⟨s.1,s.2.1⟩).2]):=by unfold tH;rw [hb];rfl
   rw [e]
   obtain ⟨h1,h2,h3,h4⟩:=grow z l now xs ((nJ z l now y ⟨s.1,s.2.1⟩).1.aF,(nJ z l now y ⟨s.1,s.2.1⟩).1.bg,s.2.2++[(nJ z l now y ⟨s.1,s.2.1⟩).2])
   simp only at h1 h2 h3 h4 hg ⊢
   generalize dQ (fun y:ay=>ay.size y) xs=w at *
   generalize ay.size y=q at *
   generalize Z102.Cz (nJ z l now y ⟨s.1,s.2.1⟩).1.aF=c1 at *
   generalize Z102.Cz s.1=c0 at *
   have hm:xs.length*(2*(c1+w)+w)≤xs.length*(2*(c0+(w+(q+1)))+(w+(q+1))):=Nat.mul_le_mul_left _ (by omega)
   rw [List.length_cons,Nat.succ_mul]
   rw [List.length_append] at h3
   refine ⟨by omega,by omega,by simp only [List.length_cons,List.length_nil] at h3;omega,by omega⟩
  ·have e:tH z l now y s=.inr ⟨(nJ z l now y ⟨s.1,s.2.1⟩).1,y.cj,y.aN,true,s.2.2++[(nJ z l now y ⟨s.1,s.2.1⟩).2]⟩:=by unfold tH;rw [hb];rfl
   rw [e]
   simp only at hg ⊢
   generalize dQ (fun y:ay=>ay.size y) xs=w at *
   generalize ay.size y=q at *
   generalize Z102.Cz s.1=c0 at *
   rw [List.length_cons,Nat.succ_mul,List.length_append]
   refine ⟨by omega,by omega,by simp only [List.length_cons,List.length_nil];omega,by omega⟩
theorem Az {z:Int}{l:ByteArray}{now:Int}{y:ay}{k:au}(hk:au.Sm (2^21) k)(hy:ay.Sm (2^21) y):au.Sm (2^21) (nJ z l now y k).1:=by
 unfold nJ
 cases (Z70.md y.aQ).2&&((Z70.md y.aQ).1.bA==z)
 ·exact hk
 ·exact Z102.gh ⟨hk,hy.1⟩
theorem uh {z:Int}{l:ByteArray}{now:Int}:∀(xs:List ay) (s:List (List aa)×List aB×List Int),au.Sm (2^21) ⟨s.1,s.2.1⟩→(∀y∈xs,ay.Sm (2^21) y)→s.2.2.length+xs.length≤2^21→bO.Sm (2^21) (dW (tH z l now) fin xs s)
 | [],s,hk,_,hc=>⟨hk,⟨Nat.zero_le _,bK.nil⟩,hc,fun _ _=>trivial⟩
 | y::xs,s,hk,hx,hc=>by
  have hy:=hx y (by simp)
  have he:=Az (z:=z) (l:=l) (now:=now) hk hy
  simp only [List.length_cons] at hc
  unfold dW
  cases hb:(nJ z l now y ⟨s.1,s.2.1⟩).2==1
  ·have e:tH z l now y s=.inl ((nJ z l now y ⟨s.1,s.2.1⟩).1.aF,(nJ z l now y ⟨s.1,s.2.1⟩).1.bg,s.2.2++[(nJ z l now y ⟨s.1,s.2.1⟩).2]):=by unfold tH;rw [hb];rfl
   rw [e]
   exact uh xs _ he (fun y hy=>hx y (by simp [hy])) (by simp only [List.length_append,List.length_cons,List.length_nil];omega)
  ·have e:tH z l now y s=.inr ⟨(nJ z l now y ⟨s.1,s.2.1⟩).1,y.cj,y.aN,true,s.2.2++[(nJ z l now y ⟨s.1,s.2.1⟩).2]⟩:=by unfold tH;rw [hb];rfl
   rw [e]
   exact ⟨he,hy.2.1,by simp only [List.length_append,List.length_cons,List.length_nil];omega,fun _ _=>trivial⟩
theorem gh {a0:au}{a1:List ay}{a2:Int}{a3:ByteArray}{a4:Int}(hg:gd a0 a1 a2 a3 a4):bO.Sm (2^21) (md a0 a1 a2 a3 a4):=by
 unfold gd at hg
 rw [qQ]
 exact uh a1 _ hg.1 hg.2.1.2 (by have:=hg.2.1.1;simp only [List.length_nil];omega)
end Z118
namespace Z119
def F (x0:cY):aG:=(cond (!x0.kf) (ret (((⟨(⟨#[]⟩:ByteArray),0,0,[]⟩:aS),false):aS×Bool)) (cond (!x0.cj) (ret (((⟨(⟨#[]⟩:ByteArray),0,0,[]⟩:aS),false):aS×Bool)) (call (Z89.R x0.aN) fun v1=>ret ((v1,true):aS×Bool))))
def md (a0:bO):ah×Bool:=(cond (!a0.kf) ((⟨((⟨#[]⟩:ByteArray):ByteArray),0,0,[]⟩:ah),false) (cond (!a0.cj) ((⟨((⟨#[]⟩:ByteArray):ByteArray),0,0,[]⟩:ah),false) (a0.aN,true)))
def gd (a0:bO):Prop:=(bO.Sm (2^21) a0)
def R:=RR gd md
theorem aj {a0}(h:gd a0):R (bO.r a0)=some ((ah.r (md a0).1),(md a0).2):=aM (a:=a0) h
def aV:=CN [.agg Ag] (.iT [(true,f61),(false,[fB])]) RT.dec R
theorem bq (a0)(hg:gd a0):F (bO.r a0)=ret ((ah.r (md a0).1),(md a0).2):=by
 unfold gd at hg
 have H0:=hg
 unfold F md
 try simp only [SS]
 refine av (fun b:ah×Bool=>ret (((ah.r b.1),b.2):aS×Bool)) (fun c1=>?_) (fun c1=>?_)
 ·all_goals exact fz
 ·refine av (fun b:ah×Bool=>ret (((ah.r b.1),b.2):aS×Bool)) (fun c2=>?_) (fun c2=>?_)
  ·all_goals exact fz
  ·refine ct (Z89.aj H0.2.1) ?_
   try simp only [SS]
   all_goals exact fz
theorem af:cw 211 aV:=W1 16 F mix aD bq (.cons Z89.af .nil) Tryz.func211
end Z119
namespace Z120
def F (x0:cY):aG:=(cond x0.kf (ret ((!x0.cj):Bool)) (ret (false:Bool)))
def md (a0:bO):Bool:=(cond a0.kf ((!a0.cj):Bool) (false:Bool))
def gd (a0:bO):Prop:=True
def R:=RR gd md
theorem aj {a0}(h:gd a0):R (bO.r a0)=some (md a0):=aM (a:=a0) h
def aV:=CN [.agg Ag] oB RT.dec R
theorem bq (a0)(hg:gd a0):F (bO.r a0)=ret (md a0):=by
 unfold F md
 try simp only [SS]
 refine av ret (fun c1=>?_) (fun _=>rfl)
 all_goals exact fz
theorem af:cw 212 aV:=W1 10 F mix aD bq .nil Tryz.func212
end Z120
namespace Z121
inductive Pt where
 | p0 (a:List (List L)) (b:Int) (c:Int) (d:List (List L)) (e:Int) (f:ByteArray) (g:Int) (h:Int) (i:Int) (j:Int) (k:ByteArray) (l:Int) (m:Int) (n:Int) (o:List (List L)) (p:List (List L)) (q:List (List L))
def pid:Pt→Nat
 | .p0 ..=>6
def bY:Pt→List V
 | .p0 a b c d e f g h i j k l m n o p q=>[.sl none 227 a,.int .i64 b,.dc 0 0,.dc 1 0,.int .i64 c,.sl none 9 d,.dc 1 0]
def bZ:Pt→List aU
 | .p0 a b c d e f g h i j k l m n o p q=>[.box [.nil,.nil,.int .i64 e,.str f,.int .i64 g,.int .i64 h,.nil,.nil,.int .i64 i],.box [.own 2,.own 3,.int .i64 j,.str k,.int .i64 l,.int .i64 m,.nil,.own 4,.int .i64 n],.row 92 o,.row 280 p,.row 3 q]
def step (J:Pt→aG):Pt→aG
 | .p0 a b c d e f g h i j k l m n o p q=>(bX (eU (((q.length:Int)+1)*8)) (bX (decide ((0:Int)<(d.length:Int))) (call (Z96.R (a,c,(pZ d 0))) fun v1=>(bX (decide ((0:Int)<(d.length:Int))) (call (Z118.R ((⟨o,p⟩:bn),v1,c,(pZ d 0),b)) fun v2=>(call (Z119.R v2) fun v3=>(call (Z120.R v2) fun v4=>(cond v4 (ret ((⟨v2.bV,2,(⟨k,l,m,[]⟩:aS),(q++[[L.int c]]),n⟩:cV):cV)) (cond (!v3.2) (ret ((⟨v2.bV,3,(⟨k,l,m,[]⟩:aS),(q++[[L.int c]]),n⟩:cV):cV)) (cond (v3.1.bD==3) (call (Z44.R v3.1.bC) fun v5=>(bX (decide ((1:Int)≤(d.length:Int))) (bX (decide ((d.length:Int)≤(d.length:Int))) (bX (eU (((v5.length:Int)+((List.take (toNat ((d.length:Int) - 1)) (List.drop 1 d)).length:Int))*16)) (cond (decide (n≥3)) (ret ((⟨v2.bV,5,(⟨k,l,m,[]⟩:aS),(q++[[L.int c]]),n⟩:cV):cV)) (call (Z43.R (v5++(List.take (toNat ((d.length:Int) - 1)) (List.drop 1 d)))) fun v6=>(cond (!v6) (ret ((⟨v2.bV,5,(⟨k,l,m,[]⟩:aS),(q++[[L.int c]]),n⟩:cV):cV)) (J (.p0 a b v3.1.bS (v5++(List.take (toNat ((d.length:Int) - 1)) (List.drop 1 d))) e f g h i j k l m (i64.wrap (n+1)) v2.bV.aF v2.bV.bg (q++[[L.int c]])))))))))) (cond ((d.length:Int)==1) (ret ((⟨v2.bV,1,v3.1,(q++[[L.int c]]),n⟩:cV):cV)) (cond (v3.1.bD != 2) (ret ((⟨v2.bV,4,(⟨k,l,m,[]⟩:aS),(q++[[L.int c]]),n⟩:cV):cV)) (bX (decide ((1:Int)≤(d.length:Int))) (bX (decide ((d.length:Int)≤(d.length:Int))) (J (.p0 a b v3.1.bS (List.take (toNat ((d.length:Int) - 1)) (List.drop 1 d)) e f g h i j k l m n v2.bV.aF v2.bV.bg (q++[[L.int c]])))))))))))))))))
def start (J:Pt→aG)(x0:bn)(x1:List (List L))(x2:Int)(x3:List (List L))(x4:Int):aG:=(call (Z40.R x0) fun v1=>(call (Z43.R x3) fun v2=>(cond (!v2) (ret ((⟨v1,6,(⟨(⟨#[]⟩:ByteArray),0,0,[]⟩:aS),[],0⟩:cV):cV)) (call (Z44.R x3) fun v3=>J (.p0 x1 x4 x2 v3 0 ⟨#[]⟩ 0 0 0 6 ⟨#[]⟩ 0 0 0 v1.aF v1.bg [])))))
def live:Nat→Live:=fun i=>match i with | 6=>[(1,none),(4,none),(10,none),(11,none),(12,none),(13,some 1099511627785),(11,some 7340035)] | _=>[]
def nx (l:bO)(mv:Int)(p:List ByteArray):(Int×ah)⊕(Int×Int×List ByteArray):=
 bif !l.kf then .inl (3,⟨⟨#[]⟩,0,0,[]⟩) else bif !l.cj then .inl (2,⟨⟨#[]⟩,0,0,[]⟩)
 else bif l.aN.bD==3 then (cond (decide (mv≥3)) (.inl (5,⟨⟨#[]⟩,0,0,[]⟩)) (bif !Z43.md (l.aN.bC++p.tail) then .inl (5,⟨⟨#[]⟩,0,0,[]⟩) else .inr (mv+1,l.aN.bS,l.aN.bC++p.tail)))
 else bif (p.tail.length:Int)==0 then .inl (1,l.aN) else bif l.aN.bD==2 then .inr (mv,l.aN.bS,p.tail) else .inl (4,⟨⟨#[]⟩,0,0,[]⟩)
def rs {σ:Type}(look:σ→au→Int→ByteArray→bO×σ):Nat→σ→au→List Int→Int→Int→List ByteArray→bz×σ
 | 0,c,k,zs,mv,_,_=>(⟨k,0,⟨⟨#[]⟩,0,0,[]⟩,zs,mv⟩,c)
 | n+1,c,k,zs,mv,z,p=>match nx (look c k z (p.getD 0 ⟨#[]⟩)).1 mv p with
  | .inl q=>(⟨(look c k z (p.getD 0 ⟨#[]⟩)).1.bV,q.1,q.2,zs++[z],mv⟩,(look c k z (p.getD 0 ⟨#[]⟩)).2)
  | .inr q=>rs look n (look c k z (p.getD 0 ⟨#[]⟩)).2 (look c k z (p.getD 0 ⟨#[]⟩)).1.bV (zs++[z]) q.1 q.2.1 q.2.2
def lk (s:List az)(now:Int)(_:Unit)(k:au)(z:Int)(l:ByteArray):bO×Unit:=(Z118.md k (Z96.md s z l) z l now,())
theorem vE {σ:Type}{look:σ→au→Int→ByteArray→bO×σ}{n:Nat}{c:σ}{k:au}{zs:List Int}{mv z:Int}{p:List ByteArray}{q:Int×ah}(h:nx (look c k z (p.getD 0 ⟨#[]⟩)).1 mv p=.inl q) :
  rs look (n+1) c k zs mv z p=(⟨(look c k z (p.getD 0 ⟨#[]⟩)).1.bV,q.1,q.2,zs++[z],mv⟩,(look c k z (p.getD 0 ⟨#[]⟩)).2):=by
 show (match nx (look c k z (p.getD 0 ⟨#[]⟩)).1 mv p with | .inl q=>_ | .inr q=>_)=_
 rw [h]
theorem vF {σ:Type}{look:σ→au→Int→ByteArray→bO×σ}{n:Nat}{c:σ}{k:au}{zs:List Int}{mv z:Int}{p:List ByteArray}{q:Int×Int×List ByteArray}(h:nx (look c k z (p.getD 0 ⟨#[]⟩)).1 mv p=.inr q) :
  rs look (n+1) c k zs mv z p=rs look n (look c k z (p.getD 0 ⟨#[]⟩)).2 (look c k z (p.getD 0 ⟨#[]⟩)).1.bV (zs++[z]) q.1 q.2.1 q.2.2:=by
 show (match nx (look c k z (p.getD 0 ⟨#[]⟩)).1 mv p with | .inl q=>_ | .inr q=>_)=_
 rw [h]
theorem wD {Pt:Type}{step:(Pt→aG)→Pt→aG}{p:Pt}{r:aG}(h:∃m,step (iter step m) p=r):∃m,iter step m p=r:=h.elim fun m h=>⟨m+1,h⟩
def md (a0:au)(a1:List az)(a2:Int)(a3:List ByteArray)(a4:Int):bz:=(cond (!Z43.md a3) ⟨a0,6,⟨⟨#[]⟩,0,0,[]⟩,[],0⟩ ((rs (lk a1 a4) 17 () a0 [] 0 a2 a3).1))
def gd (a0:au)(a1:List az)(a2:Int)(a3:List ByteArray)(a4:Int):Prop:=(au.Sm (2^21) a0)∧(bK (2^21) (fun y:az=>az.Sm (2^21) y) a1)∧(bK (2^21) (fun y:ByteArray=>y.size≤(2^21)) a3)
def R:=RR (p5 gd) (u5 md)
theorem aj {a0 a1 a2 a3 a4}(h:gd a0 a1 a2 a3 a4):R ((au.r a0),(a1.map az.row),a2,(a3.map cA),a4)=some (bz.r (md a0 a1 a2 a3 a4)):=aM (a:=(a0,a1,a2,a3,a4)) h
def aV:=CN [.agg tI,pL 227,pI,pL 9,pI] (.agg f64) RT.dec R
theorem bq (a0)(a1)(a2)(a3)(a4)(hg:gd a0 a1 a2 a3 a4):∃n,start (iter step n) (au.r a0) (a1.map az.row) a2 (a3.map cA) a4=ret (bz.r (md a0 a1 a2 a3 a4)):=by
 obtain ⟨H0,H1,H3⟩:=hg
 have key:∀(n:Nat) (k:au) (zs:List Int) (mv z:Int) (p:List ByteArray),au.Sm (2^21) k→Z43.md p=true→0≤mv→mv≤3→(3 - mv)*4+(p.length:Int)≤n→zs.length+n≤100→
   ∃m,iter step m (Pt.p0 (a1.map az.row) a4 z (p.map cA) 0 ⟨#[]⟩ 0 0 0 6 ⟨#[]⟩ 0 0 mv (k.aF.map (dK aa.row)) (k.bg.map aB.row) (zs.map aZ))=ret (bz.r (rs (lk a1 a4) n () k zs mv z p).1):=by
  intro n
  induction n with
  | zero=>intro k zs mv z p _ hp _ _ hm _;have:=(Z43.tr hp).1;omega
  | succ n ih=>
   intro k zs mv z p hk hp h0 h3 hm hz
   obtain ⟨⟨p1,p4⟩,p8⟩:=Z43.tr hp
   obtain ⟨x,xs,rfl⟩:∃x xs,p=x::xs:=by
    cases p with
    | nil=>simp at p1
    | cons x xs=>exact ⟨x,xs,rfl⟩
   have hx:x.size≤2^21:=Nat.le_trans (p8 x (by simp)) (by decide)
   have hxs:∀y∈xs,y.size≤2^22:=fun y hy=>Nat.le_trans (p8 y (by simp [hy])) (by decide)
   have hask:=Z96.gh (a0:=a1) (a1:=z) (a2:=x) ⟨H1,hx⟩
   have hlk:=Z118.gh (a0:=k) (a1:=Z96.md a1 z x) (a2:=z) (a3:=x) (a4:=a4) ⟨hk,hask,hx⟩
   have hat:pZ ((x::xs).map cA) 0=x:=rfl
   have hg0:(x::xs).getD 0 ⟨#[]⟩=x:=rfl
   have ht:List.take (toNat (((xs.length+1:Nat):Int) - 1)) (List.drop 1 ((x::xs).map cA))=xs.map cA:=by
    simp only [List.map_cons,List.drop_succ_cons,List.drop_zero]
    exact List.take_of_length_le (by simp)
   have hkn:(lk a1 a4 () k z ((x::xs).getD 0 ⟨#[]⟩)).1=Z118.md k (Z96.md a1 z x) z x a4:=rfl
   simp only [List.length_cons] at p4 hm
   refine wD ?_
   simp only [step,hat,List.length_map,List.length_cons,ht]
   refine dI lm ?_
   refine dI dt ?_
   refine cx (Z96.aj (a0:=a1) ⟨H1,hx⟩) ?_
   refine dI dt ?_
   refine cx (Z118.aj (a0:=k) (a1:=Z96.md a1 z x) ⟨hk,hask,hx⟩) ?_
   have hcase:∀q,nx (Z118.md k (Z96.md a1 z x) z x a4) mv (x::xs)=.inl q→rs (lk a1 a4) (n+1) () k zs mv z (x::xs)=(⟨(Z118.md k (Z96.md a1 z x) z x a4).bV,q.1,q.2,zs++[z],mv⟩,()):=fun q hq=>vE hq
   have hcase2:∀q,nx (Z118.md k (Z96.md a1 z x) z x a4) mv (x::xs)=.inr q→rs (lk a1 a4) (n+1) () k zs mv z (x::xs)=rs (lk a1 a4) n () (Z118.md k (Z96.md a1 z x) z x a4).bV (zs++[z]) q.1 q.2.1 q.2.2:=fun q hq=>vF hq
   revert hcase hcase2 hlk
   generalize Z118.md k (Z96.md a1 z x) z x a4=l
   intro hlk hcase hcase2
   refine cx (Z119.aj (a0:=l) hlk) ?_
   refine cx (Z120.aj (a0:=l) trivial) ?_
   obtain ⟨lk0,lf,le,ld,lc⟩:=l
   unfold nx at hcase hcase2
   unfold Z120.md Z119.md
   cases ld
   ·exact ⟨0,by rw [hcase _ rfl];exact fz⟩
   cases lf
   ·exact ⟨0,by rw [hcase _ rfl];exact fz⟩
   simp only [Bool.not_true,bk,bf,List.tail_cons] at hcase hcase2 ⊢
   have hpl:bK (2^21) (fun y:ByteArray=>y.size≤(2^21)) le.bC:=hlk.2.1.2
   have hpl1:le.bC.length≤2^21:=hpl.1
   have hzz:zs.map aZ++[[L.int z]]=(zs++[z]).map aZ:=by simp [aZ]
   try simp only [SS]
   cases hk3:(le.bD==3)
   ·simp only [hk3,bk] at hcase hcase2 ⊢
    by_cases hx0:xs.length=0
    ·have e0:((xs.length:Int)==0)=true:=by simp [hx0]
     rw [e0] at hcase
     exact ⟨0,by rw [hcase _ rfl];exact ak (beq_iff_eq.2 (by omega)) fz⟩
    ·have e0:((xs.length:Int)==0)=false:=by simpa using hx0
     rw [e0] at hcase hcase2
     refine dx (beq_eq_false_iff_ne.2 (by omega)) ?_
     cases hk2:(le.bD==2)
     ·simp only [hk2,bk] at hcase
      exact ⟨0,by rw [hcase _ rfl];exact ak (by simpa using hk2) fz⟩
     ·simp only [hk2,bk,bf] at hcase2
      refine dx (by simpa using hk2) (dI dt (dI dt ?_))
      have hip:Z43.md xs=true:=Z43.tl hp hx0
      rw [hcase2 _ rfl,hzz]
      exact ih lk0 (zs++[z]) mv le.bS xs hlk.1 hip h0 h3 (by omega) (by simp;omega)
   ·simp only [hk3,bf] at hcase hcase2 ⊢
    refine cx (Z44.aj (a0:=le.bC) hpl) ?_
    refine dI dt (dI dt (dI (by have :(le.bC.map cA).length=le.bC.length:=List.length_map ..;have :(xs.map cA).length=xs.length:=List.length_map ..;exact iS (by omega)) ?_))
    by_cases hmv:mv≥3
    ·rw [decide_eq_true hmv] at hcase ⊢
     exact ⟨0,by rw [hcase _ rfl];exact fz⟩
    ·rw [decide_eq_false hmv] at hcase hcase2 ⊢
     simp only [bk] at hcase hcase2 ⊢
     have e:le.bC.map cA++xs.map cA=(le.bC++xs).map cA:=by simp
     rw [e]
     refine cx (Z43.aj (a0:=le.bC++xs) ⟨by rw [List.length_append];omega,fun y hy=>(List.mem_append.1 hy).elim (fun h=>Nat.le_trans (hpl.2 y h) (by decide)) (hxs y)⟩) ?_
     cases hip:Z43.md (le.bC++xs)
     ·rw [hip] at hcase
      exact ⟨0,by rw [hcase _ rfl];exact fz⟩
     ·rw [hip] at hcase2
      have ht:=Z43.tr hip
      rw [hcase2 _ rfl,hzz,wi _ (by omega)]
      exact ih lk0 (zs++[z]) (mv+1) le.bS (le.bC++xs) hlk.1 hip (by omega) (by omega) (by omega) (by simp;omega)
 unfold start md
 refine cx (Z40.aj (a0:=a0) H0) ?_
 refine cx (Z43.aj (a0:=a3) (bK.mono H3 (by decide) (fun y hy=>Nat.le_trans hy (by decide)))) ?_
 cases hp:Z43.md a3
 ·exact ⟨0,rfl⟩
 ·simp only [Bool.not_true,bk]
  refine cx (Z44.aj (a0:=a3) H3) ?_
  exact key 17 a0 [] 0 a2 a3 H0 hp (by decide) (by decide) (by have:=(Z43.tr hp).1;omega) (by simp)
theorem af:cw 129 aV:=L5 109 pid bY bZ live step start mix aD bq (.cons Z40.af (.cons Z43.af (.cons Z44.af (.cons Z96.af (.cons Z118.af (.cons Z119.af (.cons Z120.af .nil))))))) Tryz.func129
theorem zV {σ:Type}{look:σ→au→Int→ByteArray→bO×σ}{A B:Nat}(I:σ→Prop)(hI:∀c k z s,I c→I (look c k z s).2)(hl:∀c k z s,I c→Z102.Cz (look c k z s).1.bV.aF≤Z102.Cz k.aF+A∧Z102.Fz (look c k z s).1.bV.bg≤Z102.Fz k.bg+4*(2*(Z102.Cz k.aF+A)+A)∧ah.size (look c k z s).1.aN≤A) :
  ∀(n:Nat) (c:σ) (k:au) (zs:List Int) (mv z:Int) (p:List ByteArray),I c→Z102.Cz k.aF+n*A≤B→
   Z102.Cz (rs look n c k zs mv z p).1.bV.aF≤B∧Z102.Fz (rs look n c k zs mv z p).1.bV.bg≤Z102.Fz k.bg+n*(8*B+12*A)∧ah.size (rs look n c k zs mv z p).1.aN≤A∧(rs look n c k zs mv z p).1.bE.length≤zs.length+n∧I (rs look n c k zs mv z p).2
 | 0,c,k,zs,mv,z,p,hi,hb=>⟨by show Z102.Cz k.aF≤B;omega,Nat.le_add_right _ _,Nat.zero_le _,Nat.le_refl _,hi⟩
 | n+1,c,k,zs,mv,z,p,hi,hb=>by
  obtain ⟨h1,h2,h3⟩:=hl c k z (p.getD 0 ⟨#[]⟩) hi
  have hi2:=hI c k z (p.getD 0 ⟨#[]⟩) hi
  rw [Nat.succ_mul] at hb
  cases hn:nx (look c k z (p.getD 0 ⟨#[]⟩)).1 mv p with
  | inl q=>
   rw [vE hn]
   have hq:ah.size q.2≤A:=by
    have e0:ah.size ⟨⟨#[]⟩,0,0,[]⟩=0:=rfl
    unfold nx at hn
    simp only [Bool.cond_eq_ite] at hn
    revert hn
    repeat' split
    all_goals (intro hn;first | (cases hn;done) | (injection hn with hn;subst hn;first | exact h3 | exact Nat.zero_le _))
   refine ⟨by simp only;omega,?_,hq,by simp,hi2⟩
   simp only
   rw [Nat.succ_mul]
   omega
  | inr q=>
   rw [vF hn]
   obtain ⟨g1,g2,g3,g4,g5⟩:=zV (A:=A) (B:=B) I hI hl n (look c k z (p.getD 0 ⟨#[]⟩)).2 (look c k z (p.getD 0 ⟨#[]⟩)).1.bV (zs++[z]) q.1 q.2.1 q.2.2 hi2 (by omega)
   rw [List.length_append,List.length_cons,List.length_nil] at g4
   refine ⟨g1,?_,g3,by omega,g5⟩
   rw [Nat.succ_mul]
   omega
theorem AV (s:List az)(now:Int)(k:au)(z:Int)(l:ByteArray){A:Nat}(hA:6*dQ (fun y:az=>az.size y) s≤A) :
  Z102.Cz (lk s now () k z l).1.bV.aF≤Z102.Cz k.aF+A∧Z102.Fz (lk s now () k z l).1.bV.bg≤Z102.Fz k.bg+4*(2*(Z102.Cz k.aF+A)+A)∧ah.size (lk s now () k z l).1.aN≤A:=by
 have hg:=Z118.grow z l now (Z96.md s z l) (k.aF,k.bg,[])
 rw [←Z118.qQ] at hg
 obtain ⟨g1,g2,_,g4⟩:=hg
 have h1:=Z96.sz s z l
 have h2:=Z96.BO s z l
 simp only at g1 g2
 have h3:=Nat.mul_le_mul_right (2*(Z102.Cz k.aF+dQ (fun y:ay=>ay.size y) (Z96.md s z l))+dQ (fun y:ay=>ay.size y) (Z96.md s z l)) h2
 unfold lk
 refine ⟨by simp only;omega,by simp only;omega,by simp only;omega⟩
theorem sz (a0:au)(a1:List az)(a2:Int)(a3:List ByteArray)(a4:Int)(h0:au.size a0≤2^20)(h1:dQ (fun y:az=>az.size y) a1≤2^20):bz.size (md a0 a1 a2 a3 a4)≤2^40:=by
 have hk:au.size a0=Z102.Cz a0.aF+Z102.Fz a0.bg:=rfl
 unfold md
 cases Z43.md a3
 ·show bz.size ⟨a0,6,⟨⟨#[]⟩,0,0,[]⟩,[],0⟩≤_
  have :bz.size ⟨a0,6,⟨⟨#[]⟩,0,0,[]⟩,[],0⟩=au.size a0:=rfl
  omega
 ·simp only [Bool.not_true,bk]
  obtain ⟨g1,g2,g3,g4,_⟩:=zV (look:=lk a1 a4) (A:=6*2^20) (B:=2^20+17*(6*2^20)) (fun _=>True) (fun _ _ _ _ _=>trivial) (fun _ k z s _=>AV a1 a4 k z s (by omega)) 17 () a0 [] 0 a2 a3 trivial (by omega)
  have hd:∀t:bz,bz.size t=Z102.Cz t.bV.aF+Z102.Fz t.bV.bg+ah.size t.aN+t.bE.length:=by
   intro t
   unfold bz.size au.size Z102.Cz Z102.Fz
   rw [qZ]
  rw [hd]
  simp only [List.length_nil] at g4
  omega
end Z121
namespace Z122
def F (x0:List (List L)):aG:=(cond x0.isEmpty (either (ret ([]:List (List L))) ((bX (eU ((x0.length:Int)*8)) (ret (x0:List (List L)))))) (bX (eU ((x0.length:Int)*8)) (ret (x0:List (List L)))))
def md (a0:List Int):List Int:=a0
def gd (a0:List Int):Prop:=bK (2^38) (fun y:Int=>True) a0
def R:=RR gd md
theorem aj {a0}(h:gd a0):R (a0.map aZ)=some (a0.map aZ):=aM (a:=a0) h
def aV:=CN [pL 3] (oL 3) RT.dec R
theorem bq (a0)(hg:gd a0):F (a0.map aZ)=ret ((md a0).map aZ):=by
 have H0:=hg.1
 unfold F md
 have hl:eU (((a0.map aZ).length:Int)*8)=true:=iS (by simp only [List.length_map];omega)
 simp only [hl,bf]
 cases a0 with
 | nil=>exact lN
 | cons x xs=>rfl
theorem af:cw 350 aV:=W1 8 F mix aD bq .nil Tryz.func350
end Z122
namespace Z123
def F (x0:bu):aG:=(call (Z122.R x0.aT) fun v1=>ret ((⟨v1,x0.cu⟩:bu):bu))
def md (a0:aJ):aJ:=a0
def gd (a0:aJ):Prop:=(aJ.Sm (2^21) a0)
def R:=RR gd md
theorem aj {a0}(h:gd a0):R (aJ.r a0)=some (aJ.r a0):=aM (a:=a0) h
def aV:=CN [.agg qb] (.agg f98) RT.dec R
theorem bq (a0)(hg:gd a0):F (aJ.r a0)=ret (aJ.r (md a0)):=by
 unfold gd at hg
 have H0:=hg
 unfold F md
 try simp only [SS]
 refine ct (Z122.aj (H0.mono (by decide) (fun x hx=>trivial))) ?_
 try simp only [SS]
 all_goals exact fz
theorem af:cw 220 aV:=W1 9 F mix aD bq (.cons Z122.af .nil) Tryz.func220
end Z123
namespace Z124
def F (x0:bU):aG:=(call (Z123.R x0.bJ) fun v1=>(call (Z123.R x0.bw) fun v2=>(call (Z123.R x0.bp) fun v3=>ret ((⟨x0.bA,x0.cE,x0.bD,x0.cB,x0.cq,x0.cg,x0.cS,x0.dz,v1,v2,x0.cW,v3,x0.bB⟩:bU):bU))))
def md (a0:aC):aC:=a0
def gd (a0:aC):Prop:=(aC.Sm (2^21) a0)
def R:=RR gd md
theorem aj {a0}(h:gd a0):R (aC.r a0)=some (aC.r a0):=aM (a:=a0) h
def aV:=CN [.agg fX] (.agg f102) RT.dec R
theorem bq (a0)(hg:gd a0):F (aC.r a0)=ret (aC.r (md a0)):=by
 unfold gd at hg
 have H0:=hg
 unfold F md
 try simp only [SS]
 refine ct (Z123.aj H0.1) ?_
 try simp only [SS]
 refine ct (Z123.aj H0.2.1) ?_
 try simp only [SS]
 refine ct (Z123.aj H0.2.2) ?_
 try simp only [SS]
 all_goals exact fz
theorem af:cw 351 aV:=W1 16 F mix aD bq (.cons Z123.af .nil) Tryz.func351
end Z124
namespace Z125
def F (x0:List (List L)):aG:=(cond x0.isEmpty (either (ret ([]:List (List L))) ((bX (eU ((x0.length:Int)*16)) (ret (x0:List (List L)))))) (bX (eU ((x0.length:Int)*16)) (ret (x0:List (List L)))))
def md (a0:List aY):List aY:=a0
def gd (a0:List aY):Prop:=bK (2^21) (fun y:aY=>aY.Sm (2^21) y) a0
def R:=RR gd md
theorem aj {a0}(h:gd a0):R (a0.map aY.row)=some (a0.map aY.row):=aM (a:=a0) h
def aV:=CN [pL 428] (oL 428) RT.dec R
theorem bq (a0)(hg:gd a0):F (a0.map aY.row)=ret ((md a0).map aY.row):=by
 have H0:=hg.1
 unfold F md
 have hl:eU (((a0.map aY.row).length:Int)*16)=true:=iS (by simp only [List.length_map];omega)
 simp only [hl,bf]
 cases a0 with
 | nil=>exact lN
 | cons x xs=>rfl
theorem af:cw 451 aV:=W1 8 F mix aD bq .nil Tryz.func451
end Z125
namespace Z126
def F (x0:aO):aG:=(call (Z124.R x0.aq) fun v1=>(call (Z125.R x0.bW) fun v2=>ret ((⟨v1,v2⟩:aO):aO)))
def md (a0:aa):aa:=a0
def gd (a0:aa):Prop:=(aa.Sm (2^21) a0)
def R:=RR gd md
theorem aj {a0}(h:gd a0):R (aa.r a0)=some (aa.r a0):=aM (a:=a0) h
def aV:=CN [.agg kH] (.agg f123) RT.dec R
theorem bq (a0)(hg:gd a0):F (aa.r a0)=ret (aa.r (md a0)):=by
 unfold gd at hg
 have H0:=hg
 unfold F md
 try simp only [SS]
 refine ct (Z124.aj H0.1) ?_
 try simp only [SS]
 refine ct (Z125.aj H0.2) ?_
 try simp only [SS]
 all_goals exact fz
theorem af:cw 364 aV:=W1 10 F mix aD bq (.cons Z124.af (.cons Z125.af .nil)) Tryz.func364
end Z126
namespace Z127
inductive Pt where
 | p0 (a:List (List L)) (b:Int) (c:Int) (d:List (List L))
def pid:Pt→Nat
 | .p0 ..=>3
def bY:Pt→List V
 | .p0 a b c d=>[.own 0,.sl none 123 a,.int .i64 b,.int .i64 c]
def bZ:Pt→List aU
 | .p0 a b c d=>[.row 123 d]
def step (J:Pt→aG):Pt→aG
 | .p0 a b c d=>(cond (decide (c<b)) (m2 c (a.length:Int) (call (Z126.R (aO.at a (toNat c))) fun v1=>(bX (eU (((d.length:Int)+1)*200)) (J (.p0 a b (i64.wrap (c+1)) (d++[(aO.enc v1)])))))) (ret (d:List (List L))))
def start (J:Pt→aG)(x0:List (List L)):aG:=J (.p0 x0 (x0.length:Int) 0 [])
def live:Nat→Live:=fun i=>match i with | 3=>[(3,some 123),(7,none),(8,none),(9,none)] | _=>[]
def md (a0:List aa):List aa:=a0
def gd (a0:List aa):Prop:=(bK (2^21) (fun y:aa=>aa.Sm (2^21) y) a0)
def R:=RR gd md
theorem aj {a0}(h:gd a0):R (a0.map aa.row)=some (a0.map aa.row):=aM (a:=a0) h
def aV:=CN [pL 123] (oL 123) RT.dec R
theorem bq (a0)(hg:gd a0):∃n,start (iter step n) (a0.map aa.row)=ret ((md a0).map aa.row):=by
 unfold gd at hg
 have H0:=hg
 unfold start md
 try simp only [SS]
 have Bh2:a0.length≤maxLen:=(by
   have:=(H0).1
   try simp only [maxLen] at *
   omega)
 refine ex_eq (out:=(fun b:List aa=>ret ((b.map aa.row):List (List L)))) (iB (xs:=a0) (z:=aa.zero) (t:=fun s3:List aa=>s3)) ?_
 refine dN (p:=Pt.p0 (a0.map aa.row) (a0.length:Int) 0 ([].map aa.row)) fz ?_
 refine ck (pt:=fun (i1:Nat) (s3:List aa)=>Pt.p0 (a0.map aa.row) (a0.length:Int) (i1:Int) (s3.map aa.row)) (s:=([]:List aa)) (out:=(fun b:List aa=>ret ((b.map aa.row):List (List L)))) (fun (i1:Nat) (s3:List aa)=>s3.length≤([]:List Int).length+1*i1) (fun J i1 s3 h2 hih2=>?_) (fun s3 hih2=>?_) (by simp)
 ·simp only [step,SS]
  have gr_:=hih2
  try simp only [LN] at gr_
  have bb_:=Bh2
  simp only [maxLen] at bb_
  have:=(H0).1
  refine bt.yes (by apply decide_eq_true;omega) ?_
  refine bt.yes aH ?_
  refine bt.yes (aL h2) ?_
  refine cr (Z126.aj (bK.getD (z:=aa.zero) H0 h2)) ?_
  try simp only [SS]
  refine bt.yes lm ?_
  refine bt.inl (by
    have g_:=hih2
    try simp only [LN] at g_ ⊢
    first | omega | (simp;done) | (simp;omega)) ?_
  rw [aE h2 Bh2]
  all_goals exact fz
 ·simp only [step,SS]
  have gr_:=hih2
  try simp only [LN] at gr_
  have:=(H0).1
  refine dx (by apply decide_eq_false;omega) ?_
  refine ⟨0,?_⟩
  all_goals exact fz
theorem af:cw 241 aV:=L1 20 pid bY bZ live step start mix aD bq (.cons Z126.af .nil) Tryz.func241
end Z127
namespace Z128
def F (x0:bF):aG:=(call (Z126.R x0.aP) fun v1=>(call (Z126.R x0.fA) fun v2=>(call (Z126.R x0.fB) fun v3=>ret ((⟨v1,v2,v3⟩:bF):bF))))
def md (a0:aB):aB:=a0
def gd (a0:aB):Prop:=(aB.Sm (2^21) a0)
def R:=RR gd md
theorem aj {a0}(h:gd a0):R (aB.r a0)=some (aB.r a0):=aM (a:=a0) h
def aV:=CN [.agg sQ] (.agg f280) RT.dec R
theorem bq (a0)(hg:gd a0):F (aB.r a0)=ret (aB.r (md a0)):=by
 unfold gd at hg
 have H0:=hg
 unfold F md
 try simp only [SS]
 refine ct (Z126.aj H0.1) ?_
 try simp only [SS]
 refine ct (Z126.aj H0.2.1) ?_
 try simp only [SS]
 refine ct (Z126.aj H0.2.2) ?_
 try simp only [SS]
 all_goals exact fz
theorem af:cw 327 aV:=W1 13 F mix aD bq (.cons Z126.af .nil) Tryz.func327
end Z128
namespace Z129
inductive Pt where
 | p0 (a:List (List L)) (b:Int) (c:Int) (d:bn) (e:List (List L))
 | p1 (a:List (List L)) (b:Int) (c:Int) (d:List (List L)) (e:List (List L))
def pid:Pt→Nat
 | .p0 ..=>3
 | .p1 ..=>8
def bY:Pt→List V
 | .p0 a b c d e=>[.dc 0 0,.dc 1 0,.dc 2 0,.sl none 92 a,.int .i64 b,.int .i64 c,.dc 2 0]
 | .p1 a b c d e=>[.dc 0 0,.dc 1 0,.sl none 280 a,.int .i64 b,.int .i64 c,.dc 1 0,.dc 1 0]
def bZ:Pt→List aU
 | .p0 a b c d e=>[.box [.sl none 92 d.aF,.sl none 280 d.bg],.box [.nil,.nil],.box [.own 3,.nil],.row 92 e]
 | .p1 a b c d e=>[.box [.nil,.nil],.box [.own 2,.own 3],.row 92 d,.row 280 e]
def step (J:Pt→aG):Pt→aG
 | .p0 a b c d e=>(cond (decide (c<b)) (m2 c (a.length:Int) (call (Z127.R (oO a (toNat c))) fun v1=>(bX (eU (((e.length:Int)+1)*24)) (J (.p0 a b (i64.wrap (c+1)) d (e++[[L.sl v1]])))))) (J (.p1 d.bg (d.bg.length:Int) 0 e [])))
 | .p1 a b c d e=>(cond (decide (c<b)) (m2 c (a.length:Int) (call (Z128.R (bF.at a (toNat c))) fun v1=>(bX (eU (((e.length:Int)+1)*600)) (J (.p1 a b (i64.wrap (c+1)) d (e++[(bF.enc v1)])))))) (ret ((⟨d,e⟩:bn):bn)))
def start (J:Pt→aG)(x0:bn):aG:=J (.p0 x0.aF (x0.aF.length:Int) 0 x0 [])
def live:Nat→Live:=fun i=>match i with | 3=>[(1,none),(2,none),(3,none),(10,none),(11,none),(12,none),(3,some 92)] | 8=>[(2,none),(3,none),(25,none),(26,none),(27,none),(3,some 92),(3,some 1048856)] | _=>[]
def md (a0:au):au:=a0
def gd (a0:au):Prop:=(au.Sm (2^21) a0)
def R:=RR gd md
theorem aj {a0}(h:gd a0):R (au.r a0)=some (au.r a0):=aM (a:=a0) h
def aV:=CN [.agg tI] (.agg f37) RT.dec R
theorem bq (a0)(hg:gd a0):∃n,start (iter step n) (au.r a0)=ret (au.r (md a0)):=by
 unfold gd at hg
 have H0:=hg
 unfold start md
 try simp only [SS]
 have Bh2:a0.aF.length≤maxLen:=(by
   have:=(H0.1).1
   try simp only [maxLen] at *
   omega)
 refine ex_eq (out:=(fun b:au=>ret ((au.r b):bn))) (iB (xs:=a0.aF) (z:=[]) (t:=fun s3:List (List aa)=>(⟨s3,a0.bg⟩:au))) ?_
 refine dN (p:=Pt.p0 (a0.aF.map (dK aa.row)) (a0.aF.length:Int) 0 (au.r a0) ([].map (dK aa.row))) fz ?_
 refine ck (pt:=fun (i1:Nat) (s3:List (List aa))=>Pt.p0 (a0.aF.map (dK aa.row)) (a0.aF.length:Int) (i1:Int) (au.r a0) (s3.map (dK aa.row))) (s:=([]:List (List aa))) (out:=(fun b:au=>ret ((au.r b):bn))) (fun (i1:Nat) (s3:List (List aa))=>s3.length≤([]:List Int).length+1*i1) (fun J i1 s3 h2 hih2=>?_) (fun s3 hih2=>?_) (by simp)
 ·simp only [step,SS]
  have gr_:=hih2
  try simp only [LN] at gr_
  have bb_:=Bh2
  simp only [maxLen] at bb_
  have:=(H0.1).1
  refine bt.yes (by apply decide_eq_true;omega) ?_
  refine bt.yes aH ?_
  refine bt.yes (aL h2) ?_
  refine cr (Z127.aj (bK.getD (z:=[]) H0.1 h2)) ?_
  try simp only [SS]
  refine bt.yes lm ?_
  refine bt.inl (by
    have g_:=hih2
    try simp only [LN] at g_ ⊢
    first | omega | (simp;done) | (simp;omega)) ?_
  rw [aE h2 Bh2]
  all_goals exact fz
 ·simp only [step,SS]
  have gr_:=hih2
  try simp only [LN] at gr_
  have:=(H0.1).1
  refine dx (by apply decide_eq_false;omega) ?_
  have Bh5:a0.bg.length≤maxLen:=(by
    have:=(H0.2).1
    try simp only [maxLen] at *
    omega)
  refine ex_eq (out:=(fun b:au=>ret ((au.r b):bn))) (iB (xs:=a0.bg) (z:=aB.zero) (t:=fun s6:List aB=>(⟨s3,s6⟩:au))) ?_
  refine dN (p:=Pt.p1 (a0.bg.map aB.row) (a0.bg.length:Int) 0 (s3.map (dK aa.row)) ([].map aB.row)) fz ?_
  refine ck (pt:=fun (i4:Nat) (s6:List aB)=>Pt.p1 (a0.bg.map aB.row) (a0.bg.length:Int) (i4:Int) (s3.map (dK aa.row)) (s6.map aB.row)) (s:=([]:List aB)) (out:=(fun b:au=>ret ((au.r b):bn))) (fun (i4:Nat) (s6:List aB)=>s6.length≤([]:List Int).length+1*i4) (fun J i4 s6 h5 hih5=>?_) (fun s6 hih5=>?_) (by simp)
  ·simp only [step,SS]
   have gr_:=hih5
   try simp only [LN] at gr_
   have bb_:=Bh5
   simp only [maxLen] at bb_
   have:=(H0.2).1
   refine bt.yes (by apply decide_eq_true;omega) ?_
   refine bt.yes aH ?_
   refine bt.yes (aL h5) ?_
   refine cr (Z128.aj (bK.getD (z:=aB.zero) H0.2 h5)) ?_
   try simp only [SS]
   refine bt.yes lm ?_
   refine bt.inl (by
     have g_:=hih5
     try simp only [LN] at g_ ⊢
     first | omega | (simp;done) | (simp;omega)) ?_
   rw [aE h5 Bh5]
   all_goals exact fz
  ·simp only [step,SS]
   have gr_:=hih5
   try simp only [LN] at gr_
   have:=(H0.2).1
   refine dx (by apply decide_eq_false;omega) ?_
   refine ⟨0,?_⟩
   all_goals exact fz
theorem af:cw 170 aV:=L1 40 pid bY bZ live step start mix aD bq (.cons Z127.af (.cons Z128.af .nil)) Tryz.func170
end Z129
namespace Z130
def F (x0:Int)(x1:Int)(x2:Int):aG:=(cond (decide (x1≤x0)) (ret ((decide (x0≤x2)):Bool)) (ret (false:Bool)))
def md (a0:Int)(a1:Int)(a2:Int):Bool:=(cond (decide (a1≤a0)) ((decide (a0≤a2)):Bool) (false:Bool))
def gd (a0:Int)(a1:Int)(a2:Int):Prop:=True
def R:=RR (p3 gd) (u3 md)
theorem aj {a0 a1 a2}(h:gd a0 a1 a2):R (a0,a1,a2)=some (md a0 a1 a2):=aM (a:=(a0,a1,a2)) h
def aV:=CN [pI,pI,pI] oB RT.dec R
theorem bq (a0)(a1)(a2)(hg:gd a0 a1 a2):F a0 a1 a2=ret (md a0 a1 a2):=by
 unfold F md
 try simp only [SS]
 refine av ret (fun c1=>?_) (fun _=>rfl)
 all_goals exact fz
theorem af:cw 348 aV:=W3 15 F mix aD bq .nil Tryz.func348
theorem br (a0:Int)(a1:Int)(a2:Int):md a0 a1 a2=Z41.md a0 a1 a2:=by
 unfold md Z41.md
 first | rfl | (rw [Bool.eq_iff_iff];simp)
end Z130
namespace Z131
inductive Pt where
 | p0 (a:ByteArray) (b:Int) (c:Int)
def pid:Pt→Nat
 | .p0 ..=>2
def bY:Pt→List V
 | .p0 a b c=>[.str a,.int .i64 b,.int .i64 c]
def bZ:Pt→List aU
 | .p0 a b c=>[]
def step (J:Pt→aG):Pt→aG
 | .p0 a b c=>(cond (decide (c<b)) (m2 c (a.size:Int) (cond (decide ((ec a (toNat c))≥97)) (cond (decide ((ec a (toNat c))≤122)) (J (.p0 a b (i64.wrap (c+1)))) (cond (decide ((ec a (toNat c))≥48)) (cond (decide ((ec a (toNat c))≤57)) (J (.p0 a b (i64.wrap (c+1)))) (cond ((ec a (toNat c))==45) (cond (decide (c>0)) (cond (!(decide (c<(i64.wrap ((a.size:Int) - 1))))) (ret (false:Bool)) (J (.p0 a b (i64.wrap (c+1))))) (ret (false:Bool))) (ret (false:Bool)))) (cond ((ec a (toNat c))==45) (cond (decide (c>0)) (cond (!(decide (c<(i64.wrap ((a.size:Int) - 1))))) (ret (false:Bool)) (J (.p0 a b (i64.wrap (c+1))))) (ret (false:Bool))) (ret (false:Bool))))) (cond (decide ((ec a (toNat c))≥48)) (cond (decide ((ec a (toNat c))≤57)) (J (.p0 a b (i64.wrap (c+1)))) (cond ((ec a (toNat c))==45) (cond (decide (c>0)) (cond (!(decide (c<(i64.wrap ((a.size:Int) - 1))))) (ret (false:Bool)) (J (.p0 a b (i64.wrap (c+1))))) (ret (false:Bool))) (ret (false:Bool)))) (cond ((ec a (toNat c))==45) (cond (decide (c>0)) (cond (!(decide (c<(i64.wrap ((a.size:Int) - 1))))) (ret (false:Bool)) (J (.p0 a b (i64.wrap (c+1))))) (ret (false:Bool))) (ret (false:Bool)))))) (call (Z130.R ((a.size:Int),1,8)) fun v1=>ret (v1:Bool)))
def start (J:Pt→aG)(x0:ByteArray):aG:=J (.p0 x0 (x0.size:Int) 0)
def live:Nat→Live:=fun i=>match i with | 2=>[(0,none),(6,none),(7,none)] | _=>[]
def md (a0:ByteArray):Bool:=(eg (S:=Unit) (β:=Bool) (fun (i1:Nat) (s3:Unit)=>(cond (decide ((ec a0 i1)≥97)) (cond (decide ((ec a0 i1)≤122)) (.inl ()) (cond (decide ((ec a0 i1)≥48)) (cond (decide ((ec a0 i1)≤57)) (.inl ()) (cond ((ec a0 i1)==45) (cond (decide ((i1:Int)>0)) (cond (!(decide ((i1:Int)<(i64.wrap ((a0.size:Int) - 1))))) (.inr (false:Bool)) (.inl ())) (.inr (false:Bool))) (.inr (false:Bool)))) (cond ((ec a0 i1)==45) (cond (decide ((i1:Int)>0)) (cond (!(decide ((i1:Int)<(i64.wrap ((a0.size:Int) - 1))))) (.inr (false:Bool)) (.inl ())) (.inr (false:Bool))) (.inr (false:Bool))))) (cond (decide ((ec a0 i1)≥48)) (cond (decide ((ec a0 i1)≤57)) (.inl ()) (cond ((ec a0 i1)==45) (cond (decide ((i1:Int)>0)) (cond (!(decide ((i1:Int)<(i64.wrap ((a0.size:Int) - 1))))) (.inr (false:Bool)) (.inl ())) (.inr (false:Bool))) (.inr (false:Bool)))) (cond ((ec a0 i1)==45) (cond (decide ((i1:Int)>0)) (cond (!(decide ((i1:Int)<(i64.wrap ((a0.size:Int) - 1))))) (.inr (false:Bool)) (.inl ())) (.inr (false:Bool))) (.inr (false:Bool)))))) (fun (s3:Unit)=>((Z130.md (a0.size:Int) 1 8):Bool)) a0.size 0 ())
def gd (a0:ByteArray):Prop:=(a0.size≤(2^22))
def R:=RR gd md
theorem aj {a0}(h:gd a0):R a0=some (md a0):=aM (a:=a0) h
def aV:=CN [pS] oB RT.dec R
theorem bq (a0)(hg:gd a0):∃n,start (iter step n) a0=ret (md a0):=by
 unfold gd at hg
 have H0:=hg
 unfold start md
 try simp only [SS]
 have Bh2:a0.size≤maxLen:=(by
   have:=H0
   try simp only [maxLen] at *
   omega)
 refine dN (p:=Pt.p0 a0 (a0.size:Int) 0) fz ?_
 refine ck (pt:=fun (i1:Nat) (s3:Unit)=>Pt.p0 a0 (a0.size:Int) (i1:Int)) (s:=(():Unit)) (out:=ret) (fun _ _=>True) (fun J i1 s3 h2 hih2=>?_) (fun s3 hih2=>?_) trivial
 ·simp only [step,SS]
  have bb_:=Bh2
  simp only [maxLen] at bb_
  have:=H0
  refine bt.yes (by apply decide_eq_true;omega) ?_
  refine bt.yes aH ?_
  refine bt.yes (aL h2) ?_
  refine bt.bif (fun c4=>?_) (fun c4=>?_)
  ·refine bt.bif (fun c5=>?_) (fun c5=>?_)
   ·refine bt.inl trivial ?_
    rw [aE h2 Bh2]
    all_goals exact fz
   ·refine bt.bif (fun c6=>?_) (fun c6=>?_)
    ·refine bt.bif (fun c7=>?_) (fun c7=>?_)
     ·refine bt.inl trivial ?_
      rw [aE h2 Bh2]
      all_goals exact fz
     ·refine bt.bif (fun c8=>?_) (fun _=>bt.inr rfl)
      refine bt.bif (fun c9=>?_) (fun _=>bt.inr rfl)
      refine bt.bif (fun _=>bt.inr rfl) (fun c10=>?_)
      refine bt.inl trivial ?_
      rw [aE h2 Bh2]
      all_goals exact fz
    ·refine bt.bif (fun c11=>?_) (fun _=>bt.inr rfl)
     refine bt.bif (fun c12=>?_) (fun _=>bt.inr rfl)
     refine bt.bif (fun _=>bt.inr rfl) (fun c13=>?_)
     refine bt.inl trivial ?_
     rw [aE h2 Bh2]
     all_goals exact fz
  ·refine bt.bif (fun c14=>?_) (fun c14=>?_)
   ·refine bt.bif (fun c15=>?_) (fun c15=>?_)
    ·refine bt.inl trivial ?_
     rw [aE h2 Bh2]
     all_goals exact fz
    ·refine bt.bif (fun c16=>?_) (fun _=>bt.inr rfl)
     refine bt.bif (fun c17=>?_) (fun _=>bt.inr rfl)
     refine bt.bif (fun _=>bt.inr rfl) (fun c18=>?_)
     refine bt.inl trivial ?_
     rw [aE h2 Bh2]
     all_goals exact fz
   ·refine bt.bif (fun c19=>?_) (fun _=>bt.inr rfl)
    refine bt.bif (fun c20=>?_) (fun _=>bt.inr rfl)
    refine bt.bif (fun _=>bt.inr rfl) (fun c21=>?_)
    refine bt.inl trivial ?_
    rw [aE h2 Bh2]
    all_goals exact fz
 ·simp only [step,SS]
  have:=H0
  refine dx (by apply decide_eq_false;omega) ?_
  refine cx (Z130.aj trivial) ?_
  refine ⟨0,?_⟩
  all_goals exact fz
theorem af:cw 311 aV:=L1 47 pid bY bZ live step start mix aD bq (.cons Z130.af .nil) Tryz.func311
theorem br (a0:ByteArray):md a0=Z42.md a0:=by
 unfold md Z42.md
 by_cases hl:1≤a0.size∧a0.size≤8
 ·have e1:Z41.md (a0.size:Int) 1 8=true:=by simp [Z41.md];omega
  simp only [Z130.br,e1]
  have ew:i64.wrap ((a0.size:Int) - 1)=((a0.size - 1:Nat):Int):=by
   rw [Go.IntWalk.i64_in _ (by omega)];omega
  simp only [ew,cF]
  rw [Bool.eq_iff_iff]
  rw [jo (fun i=>(97≤ec a0 i∧ec a0 i≤122)∨(48≤ec a0 i∧ec a0 i≤57)∨(ec a0 i=45∧0<i∧i<a0.size - 1)) (fun i hi h=>by simp;grind) (fun i hi h=>by simp;grind)]
  have e2:=jo (n:=a0.size) (f:=fun (i4:Nat) (s6:Unit)=>(cond (decide ((ec a0 i4)<97)) (cond (decide ((ec a0 i4)<48)) (cond ((ec a0 i4) != 45) (.inr (false:Bool)) (.inl ())) (cond (decide ((ec a0 i4)>57)) (cond ((ec a0 i4) != 45) (.inr (false:Bool)) (.inl ())) (.inl ()))) (cond (decide ((ec a0 i4)>122)) (cond (decide ((ec a0 i4)<48)) (cond ((ec a0 i4) != 45) (.inr (false:Bool)) (.inl ())) (cond (decide ((ec a0 i4)>57)) (cond ((ec a0 i4) != 45) (.inr (false:Bool)) (.inl ())) (.inl ()))) (.inl ())))) (t:=fun _=>true)
   (fun i=>(97≤ec a0 i∧ec a0 i≤122)∨(48≤ec a0 i∧ec a0 i≤57)∨ec a0 i=45) (fun i hi h=>by simp;grind) (fun i hi h=>by simp;grind)
  have e3:∀b c d:Bool,(cond (!true) false (bif b then false else bif c then false else d))=true↔b=false∧c=false∧d=true:=by intro b c d;cases b<;>cases c<;>simp
  rw [e3,e2]
  simp only [beq_eq_false_iff_ne,ne_eq,and_true]
  constructor
  ·intro h
   refine ⟨fun h0=>?_,fun h0=>?_,fun i hi=>?_⟩
   ·have:=h 0 (by omega);omega
   ·have:=h (a0.size - 1) (by omega);omega
   ·have:=h i hi;omega
  ·intro ⟨h1,h2,h3⟩ i hi
   have:=h3 i hi
   by_cases h0:i=0
   ·subst h0;omega
   ·by_cases h9:i=a0.size - 1
    ·subst h9;omega
    ·omega
 ·have e1:Z41.md (a0.size:Int) 1 8=false:=by simp [Z41.md];omega
  simp only [Z130.br,e1]
  refine oT ?_ _ _ _
  intro i s b h
  revert h
  simp only [Bool.cond_eq_ite]
  repeat' split
  all_goals (intro h;first | (cases h;rfl) | cases h)
end Z131
namespace Z132
def F (x0:ByteArray):aG:=(call (Z131.R x0) fun v1=>ret ((!v1):Bool))
def md (a0:ByteArray):Bool:=((!(Z131.md a0)):Bool)
def gd (a0:ByteArray):Prop:=(a0.size≤(2^22))
def R:=RR gd md
theorem aj {a0}(h:gd a0):R a0=some (md a0):=aM (a:=a0) h
def aV:=CN [pS] oB RT.dec R
theorem bq (a0)(hg:gd a0):F a0=ret (md a0):=by
 unfold gd at hg
 have H0:=hg
 unfold F md
 try simp only [SS]
 refine ct (Z131.aj H0) ?_
 all_goals exact fz
theorem af:cw 410 aV:=W1 6 F mix aD bq (.cons Z131.af .nil) Tryz.func410
end Z132
namespace Z133
inductive Pt where
 | p0 (a:List (List L)) (b:Int) (c:Int)
def pid:Pt→Nat
 | .p0 ..=>2
def bY:Pt→List V
 | .p0 a b c=>[.sl none 9 a,.fn 410 [],.int .i64 b,.int .i64 c]
def bZ:Pt→List aU
 | .p0 a b c=>[]
def step (J:Pt→aG):Pt→aG
 | .p0 a b c=>(cond (decide (c<b)) (m2 c (a.length:Int) (call (Z132.R (pZ a (toNat c))) fun v1=>(cond v1 (ret (c:Int)) (J (.p0 a b (i64.wrap (c+1))))))) (ret ((-1):Int)))
def start (J:Pt→aG)(x0:List (List L)):aG:=J (.p0 x0 (x0.length:Int) 0)
def live:Nat→Live:=fun i=>match i with | 2=>[(0,none),(1,none),(7,none),(8,none)] | _=>[]
def pats:List gq:=[.rd (.sl 9),.fn 410 []]
def res:RP:=.one (.rd (.int .i64))
abbrev E:Env:={ T:=assoc kQ,G:=dy [(410,Z132.aV)],nt:=19 }
theorem step_eq (I:cG)(p:Pt):cT E live I (pid p) (bM Tryz.f474) (fM (live (pid p)) (bY p) (bZ p)) (cH E Tryz.f474 res)=step (fun q=>I (pid q) (bY q) (bZ q)) p:=by
 cases p<;>kernel_rfl
theorem start_eq (I:cG)(ls:List L):eX E live I (bM Tryz.f474) (cZ pats ls) (cH E Tryz.f474 res)=start (fun q=>I (pid q) (bY q) (bZ q)) (ls.headD .hole).aR:=by kernel_rfl
theorem run_eq (n:Nat)(ls:List L):eO E live Tryz.f474 res n (cZ pats ls)=start (iter step n) (ls.headD .hole).aR:=cC (id:=pid) (vs:=bY) (hs:=bZ) (step:=step) (start:=fun J=>start J (ls.headD .hole).aR) step_eq (fun I=>start_eq I ls) n
def md (a0:List ByteArray):Int:=(dS (S:=Unit) (β:=Int) (fun (i1:Nat) (y1:ByteArray) (s3:Unit)=>(cond (Z132.md y1) (.inr ((i1:Int):Int)) (.inl ()))) (fun (s3:Unit)=>((-1):Int)) 0 a0 ())
def gd (a0:List ByteArray):Prop:=(bK (2^22) (fun y:ByteArray=>y.size≤(2^22)) a0)
def acc (ls:List L):List (List L):=(ls.headD .hole).aR
def R:(List (List L))→Option Int:=RR gd md
theorem aj {a0}(h:gd a0):R (a0.map cA)=some (md a0):=aM (a:=a0) h
def aV:fW:=CN pats res acc R
theorem bq (a0:List ByteArray)(hg:gd a0):∃n,start (iter step n) (a0.map cA)=ret ((md a0):Int):=by
 unfold gd at hg
 have H0:=hg
 unfold start md
 try simp only [SS]
 have Bh2:a0.length≤maxLen:=(by
   have:=(H0).1
   try simp only [maxLen] at *
   omega)
 refine ex_eq (out:=ret) (cX (z:=⟨#[]⟩)) ?_
 refine dN (p:=Pt.p0 (a0.map cA) (a0.length:Int) 0) fz ?_
 refine ck (pt:=fun (i1:Nat) (s3:Unit)=>Pt.p0 (a0.map cA) (a0.length:Int) (i1:Int)) (s:=(():Unit)) (out:=ret) (fun _ _=>True) (fun J i1 s3 h2 hih2=>?_) (fun s3 hih2=>?_) trivial
 ·simp only [step,SS]
  have bb_:=Bh2
  simp only [maxLen] at bb_
  have:=(H0).1
  refine bt.yes (by apply decide_eq_true;omega) ?_
  refine bt.yes aH ?_
  refine bt.yes (aL h2) ?_
  refine cr (Z132.aj (bK.getD (z:=⟨#[]⟩) H0 h2)) ?_
  refine bt.bif (fun c4=>?_) (fun c4=>?_)
  ·refine bt.inr ?_
   all_goals exact fz
  ·refine bt.inl trivial ?_
   rw [aE h2 Bh2]
   all_goals exact fz
 ·simp only [step,SS]
  have:=(H0).1
  refine dx (by apply decide_eq_false;omega) ?_
  refine ⟨0,?_⟩
  all_goals exact fz
theorem af:cw 474 aV:=VV (run:=fun n x=>start (iter step n) x) mix aD (.cons Z132.af .nil) Tryz.func474 (by kernel_rfl) run_eq (fun _ a _ _ hg=>bq a hg)
theorem fa (a0:List ByteArray):-1≤md a0∧md a0<(a0.length:Int):=by
 unfold md
 refine gb ?_ _ _
 all_goals
  intro i x s b h
  revert h
  simp only [Bool.cond_eq_ite]
  repeat' split
  all_goals (intro h;first | (cases h;rfl) | cases h)
theorem idx_eq (a0:List ByteArray):md a0=iX (fun y=>Z132.md y) 0 a0:=by
 unfold md
 exact gV
end Z133
namespace Z134
def F (x0:List (List L)):aG:=(call (Z133.R x0) fun v1=>ret ((decide (v1≥0)):Bool))
def pats:List gq:=[.rd (.sl 9),.fn 410 []]
def res:RP:=.one (.rd (.bool))
def md (a0:List ByteArray):Bool:=((decide ((Z133.md a0)≥0)):Bool)
def gd (a0:List ByteArray):Prop:=(bK (2^22) (fun y:ByteArray=>y.size≤(2^22)) a0)
def acc (ls:List L):List (List L):=(ls.headD .hole).aR
def R:(List (List L))→Option Bool:=RR gd md
theorem aj {a0}(h:gd a0):R (a0.map cA)=some (md a0):=aM (a:=a0) h
def aV:fW:=CN pats res acc R
theorem bq (a0:List ByteArray)(hg:gd a0):F (a0.map cA)=ret ((md a0):Bool):=by
 unfold gd at hg
 have H0:=hg
 unfold F md
 try simp only [SS]
 refine ct (Z133.aj H0) ?_
 have fv1_:=Z133.fa a0
 all_goals exact fz
theorem af:cw 409 aV:=VV (live:=fun _=>[]) (nt:=9) (run:=fun _ x=>F x) mix aD (.cons Z133.af .nil) Tryz.func409 (by kernel_rfl) (fun _ _=>by kernel_rfl) (fun _ a _ _ hg=>⟨0,bq a hg⟩)
theorem any_eq (a0:List ByteArray):md a0=a0.any (fun y=>Z132.md y):=by
 unfold md
 rw [Z133.idx_eq]
 exact qG
end Z134
namespace Z135
def F (x0:List (List L)):aG:=(call (Z130.R ((x0.length:Int),1,4)) fun v1=>(cond v1 (call (Z134.R x0) fun v2=>ret ((!v2):Bool)) (ret (false:Bool))))
def md (a0:List ByteArray):Bool:=(cond (Z130.md (a0.length:Int) 1 4) ((!(Z134.md a0)):Bool) (false:Bool))
def gd (a0:List ByteArray):Prop:=(bK (2^22) (fun y:ByteArray=>y.size≤(2^22)) a0)
def R:=RR gd md
theorem aj {a0}(h:gd a0):R (a0.map cA)=some (md a0):=aM (a:=a0) h
def aV:=CN [pL 9] oB RT.dec R
theorem bq (a0)(hg:gd a0):F (a0.map cA)=ret (md a0):=by
 unfold gd at hg
 have H0:=hg
 unfold F md
 try simp only [SS]
 refine ct (Z130.aj trivial) ?_
 refine av ret (fun c1=>?_) (fun _=>rfl)
 refine ct (Z134.aj H0) ?_
 all_goals exact fz
theorem af:cw 298 aV:=W1 11 F mix aD bq (.cons Z130.af (.cons Z134.af .nil)) Tryz.func298
theorem br (a0:List ByteArray):md a0=Z43.md a0:=by
 unfold md Z43.md
 rw [Z134.any_eq]
 have e:=lQ (p:=fun y=>!(Z42.md y)) (b:=false) (c:=Z41.md (a0.length:Int) 1 4) (xs:=a0) (s:=())
 refine Eq.trans ?_ e.symm
 simp only [Z132.md,Z131.br,Z130.br]
 cases a0.any (fun y=>!(Z42.md y))<;>cases Z41.md (a0.length:Int) 1 4<;>rfl
end Z135
namespace Z136
def F (x0:Int):aG:=(call (Z130.R (x0,0,2147483646)) fun v1=>ret (v1:Bool))
def md (a0:Int):Bool:=((Z130.md a0 0 2147483646):Bool)
def gd (a0:Int):Prop:=True
def R:=RR gd md
theorem aj {a0}(h:gd a0):R a0=some (md a0):=aM (a:=a0) h
def aV:=CN [pI] oB RT.dec R
theorem bq (a0)(hg:gd a0):F a0=ret (md a0):=by
 unfold F md
 try simp only [SS]
 refine ct (Z130.aj trivial) ?_
 all_goals exact fz
theorem af:cw 312 aV:=W1 5 F mix aD bq (.cons Z130.af .nil) Tryz.func312
end Z136
namespace Z137
def F (x0:bU):aG:=(cond (decide (x0.cB≥0)) (cond (decide (x0.cB≤x0.cq)) (cond (decide (x0.cq≤100000)) (ret ((decide ((i64.wrap (x0.cq - x0.cB))≤200)):Bool)) (ret (false:Bool))) (ret (false:Bool))) (ret (false:Bool)))
def md (a0:aC):Bool:=(cond (decide (a0.cB≥0)) (cond (decide (a0.cB≤a0.cq)) (cond (decide (a0.cq≤100000)) ((decide ((i64.wrap (a0.cq - a0.cB))≤200)):Bool) (false:Bool)) (false:Bool)) (false:Bool))
def gd (a0:aC):Prop:=True
def R:=RR gd md
theorem aj {a0}(h:gd a0):R (aC.r a0)=some (md a0):=aM (a:=a0) h
def aV:=CN [.agg fX] oB RT.dec R
theorem bq (a0)(hg:gd a0):F (aC.r a0)=ret (md a0):=by
 unfold F md
 try simp only [SS]
 refine av ret (fun c1=>?_) (fun _=>rfl)
 refine av ret (fun c2=>?_) (fun _=>rfl)
 refine av ret (fun c3=>?_) (fun _=>rfl)
 all_goals exact fz
theorem af:cw 528 aV:=W1 26 F mix aD bq .nil Tryz.func528
end Z137
namespace Z138
inductive Pt where
 | p0 (a:List (List L)) (b:Int) (c:Int)
def pid:Pt→Nat
 | .p0 ..=>2
def bY:Pt→List V
 | .p0 a b c=>[.sl none 3 a,.int .i64 b,.int .i64 c]
def bZ:Pt→List aU
 | .p0 a b c=>[]
def step (J:Pt→aG):Pt→aG
 | .p0 a b c=>(cond (decide (c<b)) (cond (decide (c>0)) (m2 c (a.length:Int) (bX (decide ((0:Int)≤(i64.wrap (c - 1)))) (bX (decide ((i64.wrap (c - 1))<(a.length:Int))) (cond (decide ((jv a (toNat c))≤(jv a (toNat (i64.wrap (c - 1)))))) (ret (false:Bool)) (J (.p0 a b (i64.wrap (c+1)))))))) (J (.p0 a b (i64.wrap (c+1))))) (ret (true:Bool)))
def start (J:Pt→aG)(x0:List (List L)):aG:=J (.p0 x0 (x0.length:Int) 0)
def live:Nat→Live:=fun i=>match i with | 2=>[(0,none),(5,none),(6,none)] | _=>[]
def md (a0:List Int):Bool:=(dS (S:=Unit) (β:=Bool) (fun (i1:Nat) (y1:Int) (s3:Unit)=>(cond (decide ((i1:Int)>0)) (cond (decide (y1≤(a0.getD (toNat (i64.wrap ((i1:Int) - 1))) 0))) (.inr (false:Bool)) (.inl ())) (.inl ()))) (fun (s3:Unit)=>(true:Bool)) 0 a0 ())
def gd (a0:List Int):Prop:=(bK (2^38) (fun y:Int=>True) a0)
def R:=RR gd md
theorem aj {a0}(h:gd a0):R (a0.map aZ)=some (md a0):=aM (a:=a0) h
def aV:=CN [pL 3] oB RT.dec R
theorem bq (a0)(hg:gd a0):∃n,start (iter step n) (a0.map aZ)=ret (md a0):=by
 unfold gd at hg
 have H0:=hg
 unfold start md
 try simp only [SS]
 have Bh2:a0.length≤maxLen:=(by
   have:=(H0).1
   try simp only [maxLen] at *
   omega)
 refine ex_eq (out:=ret) (cX (z:=0)) ?_
 refine dN (p:=Pt.p0 (a0.map aZ) (a0.length:Int) 0) fz ?_
 refine ck (pt:=fun (i1:Nat) (s3:Unit)=>Pt.p0 (a0.map aZ) (a0.length:Int) (i1:Int)) (s:=(():Unit)) (out:=ret) (fun _ _=>True) (fun J i1 s3 h2 hih2=>?_) (fun s3 hih2=>?_) trivial
 ·simp only [step,SS]
  have bb_:=Bh2
  simp only [maxLen] at bb_
  have:=(H0).1
  refine bt.yes (by apply decide_eq_true;omega) ?_
  refine bt.bif (fun c4=>?_) (fun c4=>?_)
  ·have dc4:=c4
   try simp only [DC] at dc4
   refine bt.yes aH ?_
   refine bt.yes (aL h2) ?_
   refine bt.yes dt ?_
   refine bt.yes (have:=(H0).1;dt) ?_
   refine bt.bif (fun _=>bt.inr rfl) (fun c5=>?_)
   refine bt.inl trivial ?_
   rw [aE h2 Bh2]
   all_goals exact fz
  ·refine bt.inl trivial ?_
   rw [aE h2 Bh2]
   all_goals exact fz
 ·simp only [step,SS]
  have:=(H0).1
  refine dx (by apply decide_eq_false;omega) ?_
  refine ⟨0,?_⟩
  all_goals exact fz
theorem af:cw 357 aV:=L1 24 pid bY bZ live step start mix aD bq .nil Tryz.func357
end Z138
namespace Z139
def F (x0:Int):aG:=(call (Z130.R (x0,1,99)) fun v1=>ret (v1:Bool))
def md (a0:Int):Bool:=((Z130.md a0 1 99):Bool)
def gd (a0:Int):Prop:=True
def R:=RR gd md
theorem aj {a0}(h:gd a0):R a0=some (md a0):=aM (a:=a0) h
def aV:=CN [pI] oB RT.dec R
theorem bq (a0)(hg:gd a0):F a0=ret (md a0):=by
 unfold F md
 try simp only [SS]
 refine ct (Z130.aj trivial) ?_
 all_goals exact fz
theorem af:cw 358 aV:=W1 5 F mix aD bq (.cons Z130.af .nil) Tryz.func358
end Z139
namespace Z140
def F (x0:bu):aG:=(call (Z130.R ((x0.aT.length:Int),1,4)) fun v1=>(cond v1 (call (Z138.R x0.aT) fun v2=>(cond v2 (bX (decide ((0:Int)<(x0.aT.length:Int))) (call (Z139.R (jv x0.aT 0)) fun v3=>(cond v3 (bX (decide ((0:Int)≤(i64.wrap ((x0.aT.length:Int) - 1)))) (bX (decide ((i64.wrap ((x0.aT.length:Int) - 1))<(x0.aT.length:Int))) (call (Z139.R (jv x0.aT (toNat (i64.wrap ((x0.aT.length:Int) - 1))))) fun v4=>(cond v4 (call (Z130.R (x0.cu,1,(x0.aT.length:Int))) fun v5=>ret (v5:Bool)) (ret (false:Bool)))))) (ret (false:Bool))))) (ret (false:Bool)))) (ret (false:Bool))))
def md (a0:aJ):Bool:=(cond (Z130.md (a0.aT.length:Int) 1 4) (cond (Z138.md a0.aT) (cond (Z139.md (a0.aT.getD 0 0)) (cond (Z139.md (a0.aT.getD (toNat (i64.wrap ((a0.aT.length:Int) - 1))) 0)) ((Z130.md a0.cu 1 (a0.aT.length:Int)):Bool) (false:Bool)) (false:Bool)) (false:Bool)) (false:Bool))
def gd (a0:aJ):Prop:=(aJ.Sm (2^21) a0)
def R:=RR gd md
theorem aj {a0}(h:gd a0):R (aJ.r a0)=some (md a0):=aM (a:=a0) h
def aV:=CN [.agg qb] oB RT.dec R
theorem bq (a0)(hg:gd a0):F (aJ.r a0)=ret (md a0):=by
 unfold gd at hg
 have H0:=hg
 unfold F md
 try simp only [SS]
 refine ct (Z130.aj trivial) ?_
 refine av ret (fun c1=>?_) (fun _=>rfl)
 have Dc1:=c1
 try simp [Z130.md] at Dc1
 refine ct (Z138.aj (H0.mono (by decide) (fun x hx=>trivial))) ?_
 refine av ret (fun c2=>?_) (fun _=>rfl)
 refine ak (have:=(H0).1;dt) ?_
 refine ct (Z139.aj trivial) ?_
 refine av ret (fun c3=>?_) (fun _=>rfl)
 refine ak (have:=(H0).1;dt) ?_
 refine ak (have:=(H0).1;dt) ?_
 refine ct (Z139.aj trivial) ?_
 refine av ret (fun c4=>?_) (fun _=>rfl)
 refine ct (Z130.aj trivial) ?_
 all_goals exact fz
theorem af:cw 232 aV:=W1 38 F mix aD bq (.cons Z130.af (.cons Z138.af (.cons Z139.af .nil))) Tryz.func232
-- uses Z45
theorem BR {l:List Int}(h:∀i:Nat,i<l.length→0<i→l.getD (i - 1) 0<l.getD i 0):∀(k i:Nat),i+k<l.length→l.getD i 0≤l.getD (i+k) 0
 | 0,i,_=>Int.le_refl _
 | k+1,i,hi=>by
  have h1:=BR h k i (by omega)
  have h2:=h (i+(k+1)) hi (by omega)
  rw [show i+(k+1) - 1=i+k by omega] at h2
  omega
theorem br (a0:aJ):md a0=Z45.md a0:=by
 unfold md Z45.md Z138.md
 simp only [Z130.br,Z139.md]
 by_cases hl:1≤a0.aT.length∧a0.aT.length≤4
 ·have e1:Z41.md (a0.aT.length:Int) 1 4=true:=by simp [Z41.md];omega
  rw [e1]
  have wp:∀i:Nat,0<i→i≤4→toNat (i64.wrap ((i:Int) - 1))=i - 1:=fun i h1 h2=>by
   rw [Go.IntWalk.i64_in _ (by omega)];omega
  rw [wp _ (by omega) (by omega)]
  generalize a0.cu=n
  generalize a0.aT=l at *
  have i1:∀x a b:Int,Z41.md x a b=true↔a≤x∧x≤b:=fun x a b=>by simp [Z41.md]
  have i2:∀x a b:Int,Z41.md x a b=false↔¬(a≤x∧x≤b):=fun x a b=>by rw [←i1];simp
  have w2:∀i:Nat,i<l.length→0<i→toNat (i64.wrap ((i:Int) - 1))=i - 1:=fun i h1 h2=>wp i h2 (by omega)
  rw [Bool.eq_iff_iff,←cX (z:=0),←cX (z:=0)]
  have e3:∀a b c d:Bool,(cond true (cond a (cond b (cond c d false) false) false) false)=true↔a=true∧b=true∧c=true∧d=true:=by
   intro a b c d;cases a<;>cases b<;>cases c<;>simp
  have pos:∀i:Nat,0<i→decide ((i:Int)>0)=true:=fun i h=>by simpa using h
  have npos:∀i:Nat,¬0<i→decide ((i:Int)>0)=false:=fun i h=>by simpa using h
  rw [e3]
  rw [jo (fun i=>0<i→l.getD (i - 1) 0<l.getD i 0) (fun i hi h=>?_) (fun i hi h=>?_),jo (fun i=>(1≤l.getD i 0∧l.getD i 0≤99)∧(0<i→l.getD (i - 1) 0<l.getD i 0)) (fun i hi h=>?_) (fun i hi h=>?_)]
  ·simp only [i1,and_true,bf]
   constructor
   ·rintro ⟨h1,⟨h2,h3⟩,⟨h4,h5⟩,h6⟩
    refine ⟨fun i hi=>⟨⟨?_,?_⟩,h1 i hi⟩,h6⟩
    ·have:=BR h1 i 0 (by omega)
     rw [Nat.zero_add] at this;omega
    ·have:=BR h1 (l.length - 1 - i) i (by omega)
     rw [show i+(l.length - 1 - i)=l.length - 1 by omega] at this;omega
   ·rintro ⟨h1,h6⟩
    exact ⟨fun i hi=>(h1 i hi).2,(h1 0 (by omega)).1,(h1 (l.length - 1) (by omega)).1,h6⟩
  ·have e2:=(i1 (l.getD i 0) 1 99).2 h.1
   rw [e2]
   by_cases h0:0<i
   ·have:=h.2 h0
    rw [pos i h0,w2 i hi h0,decide_eq_false (by omega)];rfl
   ·rw [npos i h0];rfl
  ·by_cases h1:1≤l.getD i 0∧l.getD i 0≤99
   ·have e2:=(i1 (l.getD i 0) 1 99).2 h1
    have h0:0<i:=Classical.byContradiction fun hc=>h ⟨h1,fun h=>(hc h).elim⟩
    have h2:¬l.getD (i - 1) 0<l.getD i 0:=fun hc=>h ⟨h1,fun _=>hc⟩
    rw [e2,pos i h0,w2 i hi h0,decide_eq_true (by omega)];rfl
   ·rw [(i2 _ _ _).2 h1];rfl
  ·by_cases h0:0<i
   ·have:=h h0
    rw [pos i h0,w2 i hi h0,decide_eq_false (by omega)];rfl
   ·rw [npos i h0];rfl
  ·have h0:0<i:=Classical.byContradiction fun hc=>h fun h=>(hc h).elim
   have h2:¬l.getD (i - 1) 0<l.getD i 0:=fun hc=>h fun _=>hc
   rw [pos i h0,w2 i hi h0,decide_eq_true (by omega)];rfl
 ·have e1:Z41.md (a0.aT.length:Int) 1 4=false:=by simp [Z41.md];omega
  rw [e1]
  simp only [bk]
  symm
  exact lg (by
   intro i x s b h
   revert h
   simp only [Bool.cond_eq_ite]
   repeat' split
   all_goals (intro h;first | (cases h;rfl) | cases h)) _ _ _
end Z140
namespace Z141
def F (x0:bu):aG:=(cond (x0.cu==0) (ret (((x0.aT.length:Int)==0):Bool)) (ret (false:Bool)))
def md (a0:aJ):Bool:=(cond (a0.cu==0) (((a0.aT.length:Int)==0):Bool) (false:Bool))
def gd (a0:aJ):Prop:=True
def R:=RR gd md
theorem aj {a0}(h:gd a0):R (aJ.r a0)=some (md a0):=aM (a:=a0) h
def aV:=CN [.agg qb] oB RT.dec R
theorem bq (a0)(hg:gd a0):F (aJ.r a0)=ret (md a0):=by
 unfold F md
 try simp only [SS]
 refine av ret (fun c1=>?_) (fun _=>rfl)
 all_goals exact fz
theorem af:cw 531 aV:=W1 12 F mix aD bq .nil Tryz.func531
theorem br (a0:aJ):md a0=Z46.md a0:=by
 unfold md Z46.md
 first
 | (simp only [id];done)
 | (simp only [id];rfl)
 | rfl
end Z141
namespace Z142
def F (x0:bu):aG:=(call (Z141.R x0) fun v1=>(cond v1 (ret (true:Bool)) (call (Z140.R x0) fun v2=>ret (v2:Bool))))
def md (a0:aJ):Bool:=(cond (Z141.md a0) (true:Bool) ((Z140.md a0):Bool))
def gd (a0:aJ):Prop:=(aJ.Sm (2^21) a0)
def R:=RR gd md
theorem aj {a0}(h:gd a0):R (aJ.r a0)=some (md a0):=aM (a:=a0) h
def aV:=CN [.agg qb] oB RT.dec R
theorem bq (a0)(hg:gd a0):F (aJ.r a0)=ret (md a0):=by
 unfold gd at hg
 have H0:=hg
 unfold F md
 try simp only [SS]
 refine ct (Z141.aj trivial) ?_
 refine av ret (fun _=>rfl) (fun c1=>?_)
 refine ct (Z140.aj H0) ?_
 all_goals exact fz
theorem af:cw 529 aV:=W1 9 F mix aD bq (.cons Z141.af (.cons Z140.af .nil)) Tryz.func529
end Z142
namespace Z143
def F (x0:Int)(x1:bu):aG:=(call (Z141.R x1) fun v1=>(cond v1 (ret ((x0==0):Bool)) (call (Z130.R (x0,1,500)) fun v2=>ret (v2:Bool))))
def md (a0:Int)(a1:aJ):Bool:=(cond (Z141.md a1) ((a0==0):Bool) ((Z130.md a0 1 500):Bool))
def gd (a0:Int)(a1:aJ):Prop:=True
def R:=RR (p2 gd) (u2 md)
theorem aj {a0 a1}(h:gd a0 a1):R (a0,(aJ.r a1))=some (md a0 a1):=aM (a:=(a0,a1)) h
def aV:=CN [pI,.agg qb] oB RT.dec R
theorem bq (a0)(a1)(hg:gd a0 a1):F a0 (aJ.r a1)=ret (md a0 a1):=by
 unfold F md
 try simp only [SS]
 refine ct (Z141.aj trivial) ?_
 refine av ret (fun c1=>?_) (fun c1=>?_)
 ·all_goals exact fz
 ·refine ct (Z130.aj trivial) ?_
  all_goals exact fz
theorem af:cw 530 aV:=W2 11 F mix aD bq (.cons Z141.af (.cons Z130.af .nil)) Tryz.func530
end Z143
namespace Z144
def F (x0:bU):aG:=(call (Z136.R x0.bA) fun v1=>(cond v1 (call (Z136.R x0.cS) fun v2=>(cond v2 (call (Z136.R x0.dz) fun v3=>(cond v3 (call (Z130.R (x0.cE,0,200)) fun v4=>(cond v4 (call (Z130.R (x0.bD,1,3)) fun v5=>(cond v5 (call (Z137.R x0) fun v6=>(cond v6 (call (Z130.R (x0.cg,0,12)) fun v7=>(cond v7 (call (Z140.R x0.bJ) fun v8=>(cond v8 (call (Z142.R x0.bw) fun v9=>(cond v9 (call (Z142.R x0.bp) fun v10=>(cond v10 (call (Z143.R (x0.cW,x0.bw)) fun v11=>(cond v11 (cond x0.bB (call (Z141.R x0.bp) fun v12=>ret ((!v12):Bool)) (ret (true:Bool))) (ret (false:Bool)))) (ret (false:Bool)))) (ret (false:Bool)))) (ret (false:Bool)))) (ret (false:Bool)))) (ret (false:Bool)))) (ret (false:Bool)))) (ret (false:Bool)))) (ret (false:Bool)))) (ret (false:Bool)))) (ret (false:Bool))))
def md (a0:aC):Bool:=(cond (Z136.md a0.bA) (cond (Z136.md a0.cS) (cond (Z136.md a0.dz) (cond (Z130.md a0.cE 0 200) (cond (Z130.md a0.bD 1 3) (cond (Z137.md a0) (cond (Z130.md a0.cg 0 12) (cond (Z140.md a0.bJ) (cond (Z142.md a0.bw) (cond (Z142.md a0.bp) (cond (Z143.md a0.cW a0.bw) (cond a0.bB ((!(Z141.md a0.bp)):Bool) (true:Bool)) (false:Bool)) (false:Bool)) (false:Bool)) (false:Bool)) (false:Bool)) (false:Bool)) (false:Bool)) (false:Bool)) (false:Bool)) (false:Bool)) (false:Bool))
def gd (a0:aC):Prop:=(aC.Sm (2^21) a0)
def R:=RR gd md
theorem aj {a0}(h:gd a0):R (aC.r a0)=some (md a0):=aM (a:=a0) h
def aV:=CN [.agg fX] oB RT.dec R
theorem bq (a0)(hg:gd a0):F (aC.r a0)=ret (md a0):=by
 unfold gd at hg
 have H0:=hg
 unfold F md
 try simp only [SS]
 refine ct (Z136.aj trivial) ?_
 refine av ret (fun c1=>?_) (fun _=>rfl)
 refine ct (Z136.aj trivial) ?_
 refine av ret (fun c2=>?_) (fun _=>rfl)
 refine ct (Z136.aj trivial) ?_
 refine av ret (fun c3=>?_) (fun _=>rfl)
 refine ct (Z130.aj trivial) ?_
 refine av ret (fun c4=>?_) (fun _=>rfl)
 refine ct (Z130.aj trivial) ?_
 refine av ret (fun c5=>?_) (fun _=>rfl)
 refine ct (Z137.aj trivial) ?_
 refine av ret (fun c6=>?_) (fun _=>rfl)
 refine ct (Z130.aj trivial) ?_
 refine av ret (fun c7=>?_) (fun _=>rfl)
 refine ct (Z140.aj H0.1) ?_
 refine av ret (fun c8=>?_) (fun _=>rfl)
 refine ct (Z142.aj H0.2.1) ?_
 refine av ret (fun c9=>?_) (fun _=>rfl)
 refine ct (Z142.aj H0.2.2) ?_
 refine av ret (fun c10=>?_) (fun _=>rfl)
 refine ct (Z143.aj trivial) ?_
 refine av ret (fun c11=>?_) (fun _=>rfl)
 refine av ret (fun c12=>?_) (fun _=>rfl)
 refine ct (Z141.aj trivial) ?_
 all_goals exact fz
theorem af:cw 454 aV:=W1 67 F mix aD bq (.cons Z136.af (.cons Z130.af (.cons Z137.af (.cons Z140.af (.cons Z142.af (.cons Z143.af (.cons Z141.af .nil))))))) Tryz.func454
theorem br (a0:aC):md a0=Z47.md a0:=by
 unfold md Z47.md
 simp only [Z140.br,Z130.br,Z136.md,Z142.md,Z143.md,Z141.br]
 have hs:Z137.md a0=(Z41.md a0.cB 0 100000&&(Z41.md a0.cq a0.cB 100000&&!decide ((i64.wrap (a0.cq - a0.cB))>200))):=by
  rw [Bool.eq_iff_iff]
  simp [Z137.md,Z41.md]
  omega
 have hk:Z45.md a0.bp=true→Z46.md a0.bp=false:=fun h=>by
  have:=Z45.tr h
  have e:((a0.bp.aT.length:Int)==0)=false:=beq_eq_false_iff_ne.2 (by omega)
  unfold Z46.md
  rw [e]
  cases a0.bp.cu==0<;>rfl
 rw [hs]
 revert hk
 simp only [AO,zX,Bool.and_assoc]
 generalize Z41.md a0.bA 0 2147483646=b1
 generalize Z41.md a0.cS 0 2147483646=b2
 generalize Z41.md a0.dz 0 2147483646=b3
 generalize Z41.md a0.cE 0 200=b4
 generalize Z41.md a0.bD 1 3=b5
 generalize Z41.md a0.cB 0 100000=b6
 generalize Z41.md a0.cq a0.cB 100000=b7
 generalize decide ((i64.wrap (a0.cq - a0.cB))>200)=b8
 generalize Z41.md a0.cg 0 12=b9
 generalize Z45.md a0.bJ=b10
 generalize Z45.md a0.bw=kh
 generalize Z46.md a0.bw=nh
 generalize Z45.md a0.bp=kj
 generalize Z46.md a0.bp=nj
 generalize Z41.md a0.cW 1 500=lw
 have hw:(a0.cW != 0)=!(a0.cW==0):=rfl
 rw [hw]
 generalize (a0.cW==0)=w0
 generalize a0.bB=fz
 intro hk
 cases b1;· rfl
 cases b2;· rfl
 cases b3;· rfl
 cases b4;· rfl
 cases b5;· rfl
 cases b6;· rfl
 cases b7;· rfl
 cases b8;rotate_left;· rfl
 cases b9;· rfl
 cases b10;· rfl
 revert hk
 revert kh nh kj nj lw w0 fz
 decide
end Z144
namespace Z145
def F (x0:bu):aG:=(bX (eU (((2:Int)+(x0.aT.length:Int))*8)) (ret (([[L.int x0.cu],[L.int (x0.aT.length:Int)]]++x0.aT):List (List L))))
def md (a0:aJ):List Int:=([a0.cu,(a0.aT.length:Int)]++a0.aT)
def gd (a0:aJ):Prop:=(aJ.Sm (2^21) a0)
def R:=RR gd md
theorem aj {a0}(h:gd a0):R (aJ.r a0)=some ((md a0).map aZ):=aM (a:=a0) h
def aV:=CN [.agg qb] (oL 3) RT.dec R
theorem bq (a0)(hg:gd a0):F (aJ.r a0)=ret ((md a0).map aZ):=by
 unfold gd at hg
 have H0:=hg
 unfold F md
 try simp only [SS]
 refine ak (have:=(H0).1;lm) ?_
 all_goals exact fz
theorem af:cw 459 aV:=W1 12 F mix aD bq .nil Tryz.func459
theorem len (a0:aJ):(md a0).length=2+a0.aT.length:=by simp [md];omega
theorem br (a0:aJ):md a0=Z48.md a0:=by
 unfold md Z48.md
 first
 | (simp only [id];done)
 | (simp only [id];rfl)
 | rfl
end Z145
namespace Z146
def F (x0:Int)(x1:Int):aG:=(call (Z130.R (x1,1,1000000000000)) fun v1=>(cond (!v1) (ret (0:Int)) (cond (decide (x1=0)) none (cond (decide (x1=0)) none (ret ((Int.tmod (i64.wrap ((Int.tmod x0 x1)+x1)) x1):Int))))))
def md (a0:Int)(a1:Int):Int:=(cond (!(Z130.md a1 1 1000000000000)) (0:Int) ((Int.tmod (i64.wrap ((Int.tmod a0 a1)+a1)) a1):Int))
def gd (a0:Int)(a1:Int):Prop:=True
def R:=RR (p2 gd) (u2 md)
theorem aj {a0 a1}(h:gd a0 a1):R (a0,a1)=some (md a0 a1):=aM (a:=(a0,a1)) h
def aV:=CN [pI,pI] oI RT.dec R
theorem bq (a0)(a1)(hg:gd a0 a1):F a0 a1=ret (md a0 a1):=by
 unfold F md
 try simp only [SS]
 refine ct (Z130.aj trivial) ?_
 refine av ret (fun _=>rfl) (fun c1=>?_)
 have dc1:=c1
 try simp only [DC] at dc1
 have Dc1:=c1
 try simp [Z130.md] at Dc1
 refine cN df ?_
 refine cN df ?_
 all_goals exact fz
theorem af:cw 572 aV:=W2 15 F mix aD bq (.cons Z130.af .nil) Tryz.func572
theorem br (a0:Int)(a1:Int):md a0 a1=Z49.md a0 a1:=by
 unfold md Z49.md
 first
 | (simp only [Z130.br];done)
 | (simp only [Z130.br];rfl)
 | rfl
end Z146
namespace Z147
inductive Pt where
 | p0 (a:Int) (b:List (List L)) (c:Int) (d:Int)
def pid:Pt→Nat
 | .p0 ..=>3
def bY:Pt→List V
 | .p0 a b c d=>[.int .i64 a,.sl none 3 b,.int .i64 c,.int .i64 d]
def bZ:Pt→List aU
 | .p0 a b c d=>[]
def step (J:Pt→aG):Pt→aG
 | .p0 a b c d=>(cond (decide (d<c)) (m2 d (b.length:Int) (call (Z146.R ((jv b (toNat d)),2147483647)) fun v1=>J (.p0 (Int.tmod (i64.wrap ((i64.wrap ((i64.wrap (a*1000003))+v1))+13)) 2147483647) b c (i64.wrap (d+1))))) (ret (a:Int)))
def start (J:Pt→aG)(x0:List (List L)):aG:=J (.p0 11 x0 (x0.length:Int) 0)
def live:Nat→Live:=fun i=>match i with | 3=>[(3,none),(6,none),(7,none),(8,none)] | _=>[]
def md (a0:List Int):Int:=(dW (S:=Int) (β:=Int) (fun (y1:Int) (s3:Int)=>(.inl (Int.tmod (i64.wrap ((i64.wrap ((i64.wrap (s3*1000003))+(Z146.md y1 2147483647)))+13)) 2147483647))) (fun (s3:Int)=>(s3:Int)) a0 11)
def gd (a0:List Int):Prop:=(bK (2^43) (fun y:Int=>True) a0)
def R:=RR gd md
theorem aj {a0}(h:gd a0):R (a0.map aZ)=some (md a0):=aM (a:=a0) h
def aV:=CN [pL 3] oI RT.dec R
theorem bq (a0)(hg:gd a0):∃n,start (iter step n) (a0.map aZ)=ret (md a0):=by
 unfold gd at hg
 have H0:=hg
 unfold start md
 try simp only [SS]
 have Bh2:a0.length≤maxLen:=(by
   have:=(H0).1
   try simp only [maxLen] at *
   omega)
 refine ex_eq (out:=ret) (eE (z:=0)) ?_
 refine dN (p:=Pt.p0 11 (a0.map aZ) (a0.length:Int) 0) fz ?_
 refine ck (pt:=fun (i1:Nat) (s3:Int)=>Pt.p0 s3 (a0.map aZ) (a0.length:Int) (i1:Int)) (s:=(11:Int)) (out:=ret) (fun _ _=>True) (fun J i1 s3 h2 hih2=>?_) (fun s3 hih2=>?_) trivial
 ·simp only [step,SS]
  have bb_:=Bh2
  simp only [maxLen] at bb_
  have:=(H0).1
  refine bt.yes (by apply decide_eq_true;omega) ?_
  refine bt.yes aH ?_
  refine bt.yes (aL h2) ?_
  refine cr (Z146.aj trivial) ?_
  refine bt.inl trivial ?_
  rw [aE h2 Bh2]
  all_goals exact fz
 ·simp only [step,SS]
  have:=(H0).1
  refine dx (by apply decide_eq_false;omega) ?_
  refine ⟨0,?_⟩
  all_goals exact fz
theorem af:cw 532 aV:=L1 21 pid bY bZ live step start mix aD bq (.cons Z146.af .nil) Tryz.func532
theorem br (a0:List Int):md a0=Z50.md a0:=by
 unfold md Z50.md
 first
 | (simp only [Z146.br];done)
 | (simp only [Z146.br];rfl)
 | rfl
end Z147
namespace Z148
def F (x0:bu)(x1:Int):aG:=(call (Z145.R x0) fun v1=>(bX (eU (((2:Int)+(v1.length:Int))*8)) (call (Z147.R ([[L.int 239],[L.int x1]]++v1)) fun v2=>ret (v2:Int))))
def md (a0:aJ)(a1:Int):Int:=((Z147.md ([239,a1]++(Z145.md a0))):Int)
def gd (a0:aJ)(a1:Int):Prop:=(aJ.Sm (2^21) a0)
def R:=RR (p2 gd) (u2 md)
theorem aj {a0 a1}(h:gd a0 a1):R ((aJ.r a0),a1)=some (md a0 a1):=aM (a:=(a0,a1)) h
def aV:=CN [.agg qb,pI] oI RT.dec R
theorem bq (a0)(a1)(hg:gd a0 a1):F (aJ.r a0) a1=ret (md a0 a1):=by
 unfold gd at hg
 have H0:=hg
 unfold F md
 try simp only [SS]
 refine ct (Z145.aj H0) ?_
 try simp only [SS]
 refine ak (have:=Z145.len a0;have:=(H0).1;lm) ?_
 refine bh (Z147.md ([239,a1]++(Z145.md a0))) (rq (Z147.aj (a0:=([239,a1]++(Z145.md a0))) ⟨(have:=Z145.len a0;have:=(H0).1;om),fun _ _=>trivial⟩)) ?_
 all_goals exact fz
theorem af:cw 455 aV:=W2 11 F mix aD bq (.cons Z145.af (.cons Z147.af .nil)) Tryz.func455
theorem br (a0:aJ)(a1:Int):md a0 a1=Z51.md a0 a1:=by
 unfold md Z51.md
 first
 | (simp only [Z145.br,Z147.br];done)
 | (simp only [Z145.br,Z147.br];rfl)
 | rfl
end Z148
namespace Z149
def F (x0:Bool):aG:=(cond x0 (ret (1:Int)) (ret (0:Int)))
def md (a0:Bool):Int:=(cond a0 (1:Int) (0:Int))
def gd (a0:Bool):Prop:=True
def R:=RR gd md
theorem aj {a0}(h:gd a0):R a0=some (md a0):=aM (a:=a0) h
def aV:=CN [pB] oI RT.dec R
theorem bq (a0)(hg:gd a0):F a0=ret (md a0):=by
 unfold F md
 try simp only [SS]
 refine av ret (fun _=>rfl) (fun _=>rfl)
theorem af:cw 237 aV:=W1 4 F mix aD bq .nil Tryz.func237
end Z149
namespace Z150
set_option maxHeartbeats 1000000 in
set_option maxRecDepth 100000 in
open Go.RowKit in
theorem Am (b:Option Addr)(w:World):Calls Tryz.prog 538 #[.slice b 0 0,.int .i64 0] w fun e w'=>e=.returned (.slice b 0 0)∧w'=w:=by
 go_enter Tryz.func538,Tryz.ntmps538
 go_wp2
 go_ret
 exact ⟨rfl,rfl⟩
theorem A6:Tryz.t3.size=1:=by kernel_rfl
theorem xU:Tryz.t3.bytes=8:=by kernel_rfl
set_option maxHeartbeats 1000000 in
set_option maxRecDepth 100000 in
open Go.RowKit in
theorem Ak (b:Option Addr)(n:Nat)(w:World)(h0:0<n)(h1:n*8≤140737488355328):Calls Tryz.prog 538 #[.slice b 0 0,.int .i64 n] w fun e w'=>e=.returned (.slice (some ⟨w.heap.size,0,none⟩) 0 (grownCap w n 0 3))∧w'=(w.drew.alloc (.cells (Builtin.zeroCells #[.int .i64 0] n++Builtin.zeroCells #[.int .i64 0] (grownCap w n 0 3 - n)) 3)):=by
 have hp:(0:Int)<n:=by omega
 have hnn:¬((n:Int)<0):=by omega
 have hold:(Builtin.firstCells Tryz.t3.size 0 (.slice b 0 0)).run Tryz.prog w.drew=.ok ([]:List Value).toArray w.drew:=by
  cases b with
  | none=>exact run_firstCells_none _ _ _ _ _
  | some b=>exact run_firstCells_some _ _ _ _ _ _ [] (by simp) (fun j v hj=>by simp at hj)
 have H:=fun ty=>Lib.run_append_grow_zeros (P:=Tryz.prog) w 62 3 ty 3 Tryz.t3 (.int .i64 0) .i64 .i64 (by kernel_rfl) (by kernel_rfl) (by kernel_rfl) (by kernel_rfl) b 0 0 [] hold n h0 (by rw [A6];omega) (by omega) (by omega) (by rw [xU];omega) (by
  rw [Nat.zero_add,nextslicecap_zero h0,xU];omega)
 simp only [Nat.zero_add,Array.empty_append] at H
 have H2:=Lib.hid H
 clear H hold
 go_enter Tryz.func538,Tryz.ntmps538
 go_wp2_with (at_builtin;refine Lib.wpList_append_run _ rfl _ _ _ _ rfl _ _ rfl rfl _ _ (H2.out _) ?_)
 go_ret
 exact ⟨rfl,rfl⟩
def R (x0:Int):Option (List (List L)):=bif decide (0≤x0)&&decide (x0*8≤140737488355328) then some [] else none
theorem aj {a0:Int}(h:0≤a0∧a0*8≤140737488355328):R a0=some []:=by simp [R,h.1,h.2]
def sem:List L→Option (List L)
 | [y0]=>(R y0.toInt).map RT.enc
 | _=>none
def aV:fW:=⟨[.nil,.rd (.int .i64)],.one (.fr 3),sem⟩
theorem AD:Ev.cells 3=[.int .i64]:=by kernel_rfl
theorem af:cw 538 aV:=by
 refine wT ⟨Tryz.f538,Tryz.func538,by kernel_rfl,by kernel_rfl⟩ rfl fun ls r w vs Z hs hf=>?_
 simp only [aV] at hs
 unfold sem at hs
 split at hs
 ·rename_i y
  obtain ⟨v,hv,hq⟩:=map_some hs
  unfold R at hv
  cases hc:(decide (0≤y.toInt)&&decide (y.toInt*8≤140737488355328))<;>simp only [hc,bf,bk] at hv
  ·cases hv
  injection hv with hv
  subst hv
  subst hq
  simp only [Bool.and_eq_true,decide_eq_true_eq] at hc
  cases hf with
  | cons h1 ht=>
   cases ht with
   | cons h2 ht=>
    cases ht
    obtain ⟨b,rfl⟩:=(show V0 Ev.cells w (A0 Z w) .nil _ from h1)
    have e2:_=Value.int .i64 y.toInt:=h2
    subst e2
    obtain ⟨n,hn⟩:∃n:Nat,y.toInt=n:=⟨y.toInt.toNat,by omega⟩
    rw [hn] at hc ⊢
    rcases Nat.eq_zero_or_pos n with h0 | h0
    ·subst h0
     exact (Am b w).mono fun e w' ⟨h3,h4⟩=>⟨_,fun _=>False,h3,by rw [h4];exact Fr.refl _ _,fun b hb=>hb.elim,.nil _ _ _ _ rfl⟩
    ·refine (Ak b n w h0 (by omega)).mono fun e w' ⟨h3,h4⟩=>⟨_,fun b=>b=w.heap.size,h3,?_,fun b hb=>?_,?_⟩
     ·rw [h4];exact ((Fr.refl w _).drew).alloc _
     ·subst hb;rw [h4];simp
     ·have hge:=grownCap_ge w n 0 3
      have hle:grownCap w n 0 3≤maxLen:=grownCap_le_maxLen w n 0 3 (by simp only [maxLen];omega)
      rw [h4]
      refine .sl _ 3 0 _ w.heap.size 3 _ _ (fun _ _=>Go.undef) (fun _ _ _=>False) rfl (Nat.zero_le _) hle (heap_alloc_new w.drew _) ?_ rfl (fun _ _ _ h=>h.elim) (fun _ _ _ _ _ h=>h.elim) (fun i j k hi=>by omega) (fun i j k hi=>by omega)
      rw [AD]
      simp only [Array.size_append,size_zeroCells,List.length_singleton]
      simp
      omega
 ·cases hs
end Z150
namespace Z151
inductive Pt where
 | p0 (a:List (List L)) (b:Int) (c:List (List L)) (d:Int) (e:Int)
 | p1 (a:List (List L)) (b:Int) (c:Int) (d:List (List L))
def pid:Pt→Nat
 | .p0 ..=>3
 | .p1 ..=>11
def bY:Pt→List V
 | .p0 a b c d e=>[.sl none 62 a,.int .i64 b,.sl none 62 c,.int .i64 d,.int .i64 e]
 | .p1 a b c d=>[.own 0,.sl none 62 a,.int .i64 b,.int .i64 c]
def bZ:Pt→List aU
 | .p0 a b c d e=>[]
 | .p1 a b c d=>[.row 3 d]
def step (J:Pt→aG):Pt→aG
 | .p0 a b c d e=>(cond (decide (e<d)) (m2 e (c.length:Int) (cond (decide ((i64.wrap (b+((oO c (toNat e)).length:Int)))<0)) none (J (.p0 a (i64.wrap (b+((oO c (toNat e)).length:Int))) c d (i64.wrap (e+1)))))) (call (Z150.R b) fun v1=>J (.p1 a (a.length:Int) 0 v1)))
 | .p1 a b c d=>(cond (decide (c<b)) (m2 c (a.length:Int) (bX (eU (((d.length:Int)+((oO a (toNat c)).length:Int))*8)) (J (.p1 a b (i64.wrap (c+1)) (d++(oO a (toNat c))))))) (ret (d:List (List L))))
def start (J:Pt→aG)(x0:List (List L)):aG:=J (.p0 x0 0 x0 (x0.length:Int) 0)
def live:Nat→Live:=fun i=>match i with | 3=>[(0,none),(3,none),(9,none),(10,none),(11,none)] | 11=>[(6,none),(25,none),(26,none),(27,none)] | _=>[]
def md (a0:List (List Int)):List Int:=a0.flatten
def gd (a0:List (List Int)):Prop:=a0.length≤8∧∀x∈a0,x.length≤2^40
def R:=RR gd md
theorem aj {a0}(h:gd a0):R (a0.map (dK aZ))=some ((md a0).map aZ):=aM (a:=a0) h
def aV:=CN [pL 62] (oL 3) RT.dec R
theorem bq (a0)(hg:gd a0):∃n,start (iter step n) (a0.map (dK aZ))=ret ((md a0).map aZ):=by
 obtain ⟨hl,hx⟩:=hg
 have hs:∀i,i≤a0.length→((a0.take i).map List.length).sum≤i*2^40:=by
  intro i
  induction i with
  | zero=>intro _;simp
  | succ i ih=>
   intro hi
   rw [List.take_succ_eq_append_getElem (by omega)]
   have h1:=hx a0[i] (List.getElem_mem _)
   have h2:=ih (by omega)
   simp only [List.map_append,List.map_cons,List.map_nil,List.sum_append,List.sum_cons,List.sum_nil]
   omega
 have hstep:∀i (h:i<a0.length),((a0.take (i+1)).map List.length).sum=((a0.take i).map List.length).sum+a0[i].length:=by
  intro i hi
  rw [List.take_succ_eq_append_getElem (by omega)]
  simp only [List.map_append,List.map_cons,List.map_nil,List.sum_append,List.sum_cons,List.sum_nil]
  omega
 have hf:∀i,(a0.take i).flatten.length=((a0.take i).map List.length).sum:=fun i=>List.length_flatten
 have second:∀k i,i+k=a0.length→∃n,iter step n (Pt.p1 (a0.map (dK aZ)) (a0.length:Int) (i:Int) ((a0.take i).flatten.map aZ))=ret (a0.flatten.map aZ:List (List L)):=by
  intro k
  induction k with
  | zero=>
   intro i hi
   obtain rfl:i=a0.length:=by omega
   refine ⟨1,?_⟩
   show step (iter step 0) (Pt.p1 _ _ _ _)=_
   simp only [step]
   refine cN (by simp) ?_
   rw [List.take_length]
  | succ k ih=>
   intro i hi
   obtain ⟨n,hn⟩:=ih (i+1) (by omega)
   refine ⟨n+1,?_⟩
   show step (iter step n) (Pt.p1 _ _ _ _)=_
   have hlt:i<a0.length:=by omega
   have b1:=hs (i+1) (by omega)
   have b2:=hstep i hlt
   simp only [step,List.length_map,cF,qY]
   refine ak (by simp;omega) (ak (by simp) (ak (by simp;omega) (ak (iS ?_) ?_)))
   ·rw [eJ hlt,hf];omega
   ·rw [aE hlt (by simp only [maxLen];omega),eJ hlt,←List.map_append]
    have e:(a0.take i).flatten++a0[i]=(a0.take (i+1)).flatten:=by
     rw [List.take_succ_eq_append_getElem (by omega)]
     simp only [List.flatten_append,List.flatten_cons,List.flatten_nil,List.append_nil]
    rw [e];exact hn
 have first:∀k i,i+k=a0.length→∃n,iter step n (Pt.p0 (a0.map (dK aZ)) ((((a0.take i).map List.length).sum:Nat):Int) (a0.map (dK aZ)) (a0.length:Int) (i:Int))=ret (a0.flatten.map aZ:List (List L)):=by
  intro k
  induction k with
  | zero=>
   intro i hi
   obtain rfl:i=a0.length:=by omega
   obtain ⟨n,hn⟩:=second a0.length 0 (by omega)
   refine ⟨n+1,?_⟩
   show step (iter step n) (Pt.p0 _ _ _ _ _)=_
   have b1:=hs a0.length (by omega)
   simp only [step]
   refine cN (by simp) (bh [] (Z150.aj ⟨by omega,by omega⟩) ?_)
   simpa using hn
  | succ k ih=>
   intro i hi
   obtain ⟨n,hn⟩:=ih (i+1) (by omega)
   refine ⟨n+1,?_⟩
   show step (iter step n) (Pt.p0 _ _ _ _ _)=_
   have hlt:i<a0.length:=by omega
   have b1:=hs (i+1) (by omega)
   have b2:=hstep i hlt
   simp only [step,List.length_map,cF,qY,eJ hlt]
   have e:i64.wrap (((((a0.take i).map List.length).sum:Nat):Int)+(a0[i].length:Int))=((((a0.take (i+1)).map List.length).sum:Nat):Int):=by
    rw [Go.IntWalk.i64_in _ (by omega)];omega
   rw [e]
   refine ak (by simp;omega) (ak (by simp) (ak (by simp;omega) (cN (by simp) ?_)))
   rw [aE hlt (by simp only [maxLen];omega)]
   exact hn
 unfold md
 obtain ⟨n,hn⟩:=first a0.length 0 (by omega)
 refine ⟨n,?_⟩
 unfold start
 simpa using hn
theorem af:cw 458 aV:=L1 36 pid bY bZ live step start mix aD bq (.cons Z150.af .nil) Tryz.func458
theorem len (a0:List (List Int)):(md a0).length=(a0.map List.length).sum:=by simp [md]
end Z151
namespace Z152
def F (x0:bU):aG:=(call (Z145.R x0.bJ) fun v1=>(call (Z145.R x0.bw) fun v2=>(call (Z145.R x0.bp) fun v3=>(call (Z149.R x0.bB) fun v4=>(call (Z151.R [[L.sl [[L.int x0.bA],[L.int x0.cE],[L.int x0.bD],[L.int x0.cB],[L.int x0.cq],[L.int x0.cg],[L.int x0.cS],[L.int x0.dz]]],[L.sl v1],[L.sl v2],[L.sl [[L.int x0.cW]]],[L.sl v3],[L.sl [[L.int v4]]]]) fun v5=>ret (v5:List (List L)))))))
def md (a0:aC):List Int:=(Z151.md [[a0.bA,a0.cE,a0.bD,a0.cB,a0.cq,a0.cg,a0.cS,a0.dz],(Z145.md a0.bJ),(Z145.md a0.bw),[a0.cW],(Z145.md a0.bp),[(Z149.md a0.bB)]])
def gd (a0:aC):Prop:=(aC.Sm (2^21) a0)
def R:=RR gd md
theorem aj {a0}(h:gd a0):R (aC.r a0)=some ((md a0).map aZ):=aM (a:=a0) h
def aV:=CN [.agg fX] (oL 3) RT.dec R
theorem bq (a0)(hg:gd a0):F (aC.r a0)=ret ((md a0).map aZ):=by
 unfold gd at hg
 have H0:=hg
 unfold F md
 try simp only [SS]
 refine ct (Z145.aj H0.1) ?_
 try simp only [SS]
 refine ct (Z145.aj H0.2.1) ?_
 try simp only [SS]
 refine ct (Z145.aj H0.2.2) ?_
 try simp only [SS]
 refine ct (Z149.aj trivial) ?_
 refine bh ((Z151.md [[a0.bA,a0.cE,a0.bD,a0.cB,a0.cq,a0.cg,a0.cS,a0.dz],(Z145.md a0.bJ),(Z145.md a0.bw),[a0.cW],(Z145.md a0.bp),[(Z149.md a0.bB)]]).map aZ) (rq (Z151.aj (a0:=[[a0.bA,a0.cE,a0.bD,a0.cB,a0.cq,a0.cg,a0.cS,a0.dz],(Z145.md a0.bJ),(Z145.md a0.bw),[a0.cW],(Z145.md a0.bp),[(Z149.md a0.bB)]]) ⟨(by simp),(by
   have:=Z145.len a0.bJ
   have:=(H0.1).1
   have:=Z145.len a0.bw
   have:=(H0.2.1).1
   have:=Z145.len a0.bp
   have:=(H0.2.2).1
   intro x_ hx_
   simp only [List.mem_cons,List.not_mem_nil,or_false] at hx_
   rcases hx_ with hx_ | hx_ | hx_ | hx_ | hx_ | hx_
   all_goals (subst hx_;first | omega | (simp only [LN];omega)))⟩)) ?_
 try simp only [SS]
 all_goals exact fz
theorem af:cw 375 aV:=W1 38 F mix aD bq (.cons Z145.af (.cons Z149.af (.cons Z151.af .nil))) Tryz.func375
theorem len (a0:aC):(md a0).length=16+a0.bJ.aT.length+a0.bw.aT.length+a0.bp.aT.length:=by unfold md;simp [Z151.md,Z145.len];omega
theorem br (a0:aC):md a0=Z52.md a0:=by
 rw [Z52.tE]
 unfold md Z151.md
 simp only [Z145.br,Z149.md,List.flatten_cons,List.flatten_nil,List.cons_append,List.nil_append,List.append_nil]
end Z152
namespace Z153
def F (x0:Int)(x1:List (List L)):aG:=(call (Z151.R [[L.sl [[L.int x0]]],[L.sl x1],[L.sl [[L.int x0]]]]) fun v1=>(call (Z147.R v1) fun v2=>ret (v2:Int)))
def md (a0:Int)(a1:List Int):Int:=((Z147.md (Z151.md [[a0],a1,[a0]])):Int)
def gd (a0:Int)(a1:List Int):Prop:=(bK (2^40) (fun y:Int=>True) a1)
def R:=RR (p2 gd) (u2 md)
theorem aj {a0 a1}(h:gd a0 a1):R (a0,(a1.map aZ))=some (md a0 a1):=aM (a:=(a0,a1)) h
def aV:=CN [pI,pL 3] oI RT.dec R
theorem bq (a0)(a1)(hg:gd a0 a1):F a0 (a1.map aZ)=ret (md a0 a1):=by
 unfold gd at hg
 have H1:=hg
 unfold F md
 try simp only [SS]
 refine bh ((Z151.md [[a0],a1,[a0]]).map aZ) (rq (Z151.aj (a0:=[[a0],a1,[a0]]) ⟨(by simp),(by
   have:=(H1).1
   intro x_ hx_
   simp only [List.mem_cons,List.not_mem_nil,or_false] at hx_
   rcases hx_ with hx_ | hx_ | hx_
   all_goals (subst hx_;first | omega | (simp only [LN];omega)))⟩)) ?_
 try simp only [SS]
 refine ct (Z147.aj ⟨(by
   have:=Z151.len [[a0],a1,[a0]]
   try simp only [LN] at this
   have:=(H1).1
   exact om),fun _ _=>trivial⟩) ?_
 all_goals exact fz
theorem af:cw 613 aV:=W2 13 F mix aD bq (.cons Z151.af (.cons Z147.af .nil)) Tryz.func613
theorem br (a0:Int)(a1:List Int):md a0 a1=Z53.md a0 a1:=by
 unfold md Z53.md
 first
 | (simp only [Z147.br];done)
 | (simp only [Z147.br];rfl)
 | rfl
end Z153
namespace Z154
def F (x0:Int)(x1:List (List L)):aG:=(bX (eU (((1:Int)+(x1.length:Int))*8)) (call (Z153.R (x0,([[L.int 223]]++x1))) fun v1=>ret (v1:Int)))
def md (a0:Int)(a1:List Int):Int:=((Z153.md a0 ([223]++a1)):Int)
def gd (a0:Int)(a1:List Int):Prop:=(bK (2^39) (fun y:Int=>True) a1)
def R:=RR (p2 gd) (u2 md)
theorem aj {a0 a1}(h:gd a0 a1):R (a0,(a1.map aZ))=some (md a0 a1):=aM (a:=(a0,a1)) h
def aV:=CN [pI,pL 3] oI RT.dec R
theorem bq (a0)(a1)(hg:gd a0 a1):F a0 (a1.map aZ)=ret (md a0 a1):=by
 unfold gd at hg
 have H1:=hg
 unfold F md
 try simp only [SS]
 refine ak (have:=(H1).1;lm) ?_
 refine bh (Z153.md a0 ([223]++a1)) (rq (Z153.aj (a0:=a0) (a1:=([223]++a1)) ⟨(have:=(H1).1;om),fun _ _=>trivial⟩)) ?_
 all_goals exact fz
theorem af:cw 601 aV:=W2 10 F mix aD bq (.cons Z153.af .nil) Tryz.func601
theorem br (a0:Int)(a1:List Int):md a0 a1=Z54.md a0 a1:=by
 unfold md Z54.md
 first
 | (simp only [Z153.br];done)
 | (simp only [Z153.br];rfl)
 | rfl
end Z154
namespace Z155
def F (x0:aY)(x1:List (List L)):aG:=(call (Z139.R x0.gN) fun v1=>(cond v1 (call (Z154.R (x0.gN,x1)) fun v2=>ret ((x0.jw==v2):Bool)) (ret (false:Bool))))
def md (a0:aY)(a1:List Int):Bool:=(cond (Z139.md a0.gN) ((a0.jw==(Z154.md a0.gN a1)):Bool) (false:Bool))
def gd (a0:aY)(a1:List Int):Prop:=(bK (2^38) (fun y:Int=>True) a1)
def R:=RR (p2 gd) (u2 md)
theorem aj {a0 a1}(h:gd a0 a1):R (a0,(a1.map aZ))=some (md a0 a1):=aM (a:=(a0,a1)) h
def aV:=CN [.agg yI,pL 3] oB RT.dec R
theorem bq (a0)(a1)(hg:gd a0 a1):F a0 (a1.map aZ)=ret (md a0 a1):=by
 unfold gd at hg
 have H1:=hg
 unfold F md
 try simp only [SS]
 refine ct (Z139.aj trivial) ?_
 refine av ret (fun c1=>?_) (fun _=>rfl)
 refine ct (Z154.aj (H1.mono (by decide) (fun x hx=>trivial))) ?_
 all_goals exact fz
theorem af:cw 591 aV:=W2 17 F mix aD bq (.cons Z139.af (.cons Z154.af .nil)) Tryz.func591
theorem br (a0:aY)(a1:List Int):md a0 a1=Z55.md a0 a1:=by
 unfold md Z55.md
 first
 | (simp only [Z154.br];done)
 | (simp only [Z154.br];rfl)
 | rfl
end Z155
namespace Z156
def F (x0:aY)(x1:List L)(x2:List L):aG:=(cond (x0.gN==(gk x1)) (call (Z155.R (x0,(mm x2))) fun v1=>ret (v1:Bool)) (ret (false:Bool)))
def pats:List gq:=[.agg [.int .i64,.int .i64],.ptr [.int .i64],.ptr [.sl 3]]
def res:RP:=.one (.rd (.bool))
def md (a0:aY)(a1:Int)(a2:List Int):Bool:=(cond (a0.gN==a1) ((Z155.md a0 a2):Bool) (false:Bool))
def gd (a0:aY)(a1:Int)(a2:List Int):Prop:=(bK (2^38) (fun y:Int=>True) a2)
def acc (ls:List L):aY×Int×List (List L):=((aY.dec ls),(gk (cK 1 (aA 2 ls))),(mm (cK 1 (aA 3 ls))))
def R:(aY×Int×List (List L))→Option Bool:=RR (p3 gd) (u3 md)
theorem aj {a0 a1 a2}(h:gd a0 a1 a2):R (a0,a1,(a2.map aZ))=some (md a0 a1 a2):=aM (a:=(a0,a1,a2)) h
def aV:fW:=CN pats res acc R
theorem bq (a0:aY)(a1:Int)(a2:List Int)(p1:List L)(p2:List L)(e1:a1=(gk p1))(e2:(a2.map aZ)=(mm p2))(hg:gd a0 a1 a2):F a0 p1 p2=ret ((md a0 a1 a2):Bool):=by
 unfold gd at hg
 have H2:=hg
 unfold F md
 try simp only [SS,←e1,←e2]
 refine av ret (fun c1=>?_) (fun _=>rfl)
 refine ct (Z155.aj H2) ?_
 all_goals exact fz
theorem oJ (ls:List L)(a:aY×Int×List Int)(e:acc ls=Im.im a)(hg:(p3 gd) a):∃n:Nat,F (aY.dec ls) (cK 1 (aA 2 ls)) (cK 1 (aA 3 ls))=ret (Im.im ((u3 md) a)):=by
 have e0:a.1=(aY.dec ls):=(congrArg (fun x=>x.1) e.symm)
 have hn:=bq a.1 a.2.1 a.2.2 (cK 1 (aA 2 ls)) (cK 1 (aA 3 ls)) (congrArg (fun x=>x.2.1) e.symm) (congrArg (fun x=>x.2.2) e.symm) hg
 refine ⟨0,?_⟩
 rw [←e0]
 exact hn
theorem af:cw 590 aV:=VP (live:=fun _=>[]) (nt:=14) (accr:=fun ls=>((aY.dec ls),(cK 1 (aA 2 ls)),(cK 1 (aA 3 ls)))) (run:=fun _ x=>F x.1 x.2.1 x.2.2) mix aD (.cons Z155.af .nil) Tryz.func590 (by kernel_rfl) (fun _ _=>by kernel_rfl) (fun ls a _ e hg=>oJ ls a e hg)
end Z156
namespace Z157
inductive Pt where
 | p0 (a:List (List L)) (b:List L) (c:List L) (d:Int) (e:Int)
def pid:Pt→Nat
 | .p0 ..=>2
def bY:Pt→List V
 | .p0 a b c d e=>[.sl none 428 a,.fn 590 [.dD none [.int .i64] b 0,.dD none [.sl 3] c 0],.int .i64 d,.int .i64 e]
def bZ:Pt→List aU
 | .p0 a b c d e=>[]
def step (J:Pt→aG):Pt→aG
 | .p0 a b c d e=>(cond (decide (e<d)) (m2 e (a.length:Int) (call (Z156.R ((aY.at a (toNat e)),(gk b),(mm c))) fun v1=>(cond v1 (ret (e:Int)) (J (.p0 a b c d (i64.wrap (e+1))))))) (ret ((-1):Int)))
def start (J:Pt→aG)(x0:List (List L))(x1:List L)(x2:List L):aG:=J (.p0 x0 x1 x2 (x0.length:Int) 0)
def live:Nat→Live:=fun i=>match i with | 2=>[(0,none),(1,none),(7,none),(8,none)] | _=>[]
def pats:List gq:=[.rd (.sl 428),.fn 590 [[.int .i64],[.sl 3]]]
def res:RP:=.one (.rd (.int .i64))
abbrev E:Env:={ T:=assoc kQ,G:=dy [(590,Z156.aV)],nt:=19 }
theorem step_eq (I:cG)(p:Pt):cT E live I (pid p) (bM Tryz.f600) (fM (live (pid p)) (bY p) (bZ p)) (cH E Tryz.f600 res)=step (fun q=>I (pid q) (bY q) (bZ q)) p:=by
 cases p<;>kernel_rfl
theorem start_eq (I:cG)(ls:List L):eX E live I (bM Tryz.f600) (cZ pats ls) (cH E Tryz.f600 res)=start (fun q=>I (pid q) (bY q) (bZ q)) (ls.headD .hole).aR (cK 1 (aA 1 ls)) (cK 1 (aA 2 ls)):=by kernel_rfl
theorem run_eq (n:Nat)(ls:List L):eO E live Tryz.f600 res n (cZ pats ls)=start (iter step n) (ls.headD .hole).aR (cK 1 (aA 1 ls)) (cK 1 (aA 2 ls)):=cC (id:=pid) (vs:=bY) (hs:=bZ) (step:=step) (start:=fun J=>start J (ls.headD .hole).aR (cK 1 (aA 1 ls)) (cK 1 (aA 2 ls))) step_eq (fun I=>start_eq I ls) n
def md (a0:List aY)(a1:Int)(a2:List Int):Int:=(dS (S:=Unit) (β:=Int) (fun (i1:Nat) (y1:aY) (s3:Unit)=>(cond (Z156.md y1 a1 a2) (.inr ((i1:Int):Int)) (.inl ()))) (fun (s3:Unit)=>((-1):Int)) 0 a0 ())
def gd (a0:List aY)(a1:Int)(a2:List Int):Prop:=(bK (2^21) (fun y:aY=>aY.Sm (2^21) y) a0)∧(bK (2^38) (fun y:Int=>True) a2)
def acc (ls:List L):List (List L)×Int×List (List L):=((ls.headD .hole).aR,(gk (cK 1 (aA 1 ls))),(mm (cK 1 (aA 2 ls))))
def R:(List (List L)×Int×List (List L))→Option Int:=RR (p3 gd) (u3 md)
theorem aj {a0 a1 a2}(h:gd a0 a1 a2):R ((a0.map aY.row),a1,(a2.map aZ))=some (md a0 a1 a2):=aM (a:=(a0,a1,a2)) h
def aV:fW:=CN pats res acc R
theorem bq (a0:List aY)(a1:Int)(a2:List Int)(p1:List L)(p2:List L)(e1:a1=(gk p1))(e2:(a2.map aZ)=(mm p2))(hg:gd a0 a1 a2):∃n,start (iter step n) (a0.map aY.row) p1 p2=ret ((md a0 a1 a2):Int):=by
 obtain ⟨H0,H2⟩:=hg
 unfold start md
 try simp only [SS,←e1,←e2]
 have Bh2:a0.length≤maxLen:=(by
   have:=(H0).1
   try simp only [maxLen] at *
   omega)
 refine ex_eq (out:=ret) (cX (z:=aY.zero)) ?_
 refine dN (p:=Pt.p0 (a0.map aY.row) p1 p2 (a0.length:Int) 0) fz ?_
 refine ck (pt:=fun (i1:Nat) (s3:Unit)=>Pt.p0 (a0.map aY.row) p1 p2 (a0.length:Int) (i1:Int)) (s:=(():Unit)) (out:=ret) (fun _ _=>True) (fun J i1 s3 h2 hih2=>?_) (fun s3 hih2=>?_) trivial
 ·simp only [step,SS,←e1,←e2]
  have bb_:=Bh2
  simp only [maxLen] at bb_
  have:=(H0).1
  refine bt.yes (by apply decide_eq_true;omega) ?_
  refine bt.yes aH ?_
  refine bt.yes (aL h2) ?_
  refine cr (Z156.aj H2) ?_
  refine bt.bif (fun c4=>?_) (fun c4=>?_)
  ·refine bt.inr ?_
   all_goals exact fz
  ·refine bt.inl trivial ?_
   rw [aE h2 Bh2]
   all_goals exact fz
 ·simp only [step,SS,←e1,←e2]
  have:=(H0).1
  refine dx (by apply decide_eq_false;omega) ?_
  refine ⟨0,?_⟩
  all_goals exact fz
theorem oJ (ls:List L)(a:List aY×Int×List Int)(e:acc ls=Im.im a)(hg:(p3 gd) a):∃n:Nat,start (iter step n) ((ls.headD .hole).aR) (cK 1 (aA 1 ls)) (cK 1 (aA 2 ls))=ret (Im.im ((u3 md) a)):=by
 have e0:(a.1.map aY.row)=(ls.headD .hole).aR:=(congrArg (fun x=>x.1) e.symm)
 obtain ⟨n,hn⟩:=bq a.1 a.2.1 a.2.2 (cK 1 (aA 1 ls)) (cK 1 (aA 2 ls)) (congrArg (fun x=>x.2.1) e.symm) (congrArg (fun x=>x.2.2) e.symm) hg
 refine ⟨n,?_⟩
 rw [←e0]
 exact hn
theorem af:cw 600 aV:=VP (accr:=fun ls=>((ls.headD .hole).aR,(cK 1 (aA 1 ls)),(cK 1 (aA 2 ls)))) (run:=fun n x=>start (iter step n) x.1 x.2.1 x.2.2) mix aD (.cons Z156.af .nil) Tryz.func600 (by kernel_rfl) run_eq (fun ls a _ e hg=>oJ ls a e hg)
theorem fa (a0:List aY)(a1:Int)(a2:List Int):-1≤md a0 a1 a2∧md a0 a1 a2<(a0.length:Int):=by
 unfold md
 refine gb ?_ _ _
 all_goals
  intro i x s b h
  revert h
  simp only [Bool.cond_eq_ite]
  repeat' split
  all_goals (intro h;first | (cases h;rfl) | cases h)
theorem idx_eq (a0:List aY)(a1:Int)(a2:List Int):md a0 a1 a2=iX (fun y=>Z156.md y a1 a2) 0 a0:=by
 unfold md
 exact gV
end Z157
namespace Z158
def F (x0:List (List L))(x1:List L)(x2:List L):aG:=(call (Z157.R (x0,(gk x1),(mm x2))) fun v1=>ret ((decide (v1≥0)):Bool))
def pats:List gq:=[.rd (.sl 428),.fn 590 [[.int .i64],[.sl 3]]]
def res:RP:=.one (.rd (.bool))
def md (a0:List aY)(a1:Int)(a2:List Int):Bool:=((decide ((Z157.md a0 a1 a2)≥0)):Bool)
def gd (a0:List aY)(a1:Int)(a2:List Int):Prop:=(bK (2^21) (fun y:aY=>aY.Sm (2^21) y) a0)∧(bK (2^38) (fun y:Int=>True) a2)
def acc (ls:List L):List (List L)×Int×List (List L):=((ls.headD .hole).aR,(gk (cK 1 (aA 1 ls))),(mm (cK 1 (aA 2 ls))))
def R:(List (List L)×Int×List (List L))→Option Bool:=RR (p3 gd) (u3 md)
theorem aj {a0 a1 a2}(h:gd a0 a1 a2):R ((a0.map aY.row),a1,(a2.map aZ))=some (md a0 a1 a2):=aM (a:=(a0,a1,a2)) h
def aV:fW:=CN pats res acc R
theorem bq (a0:List aY)(a1:Int)(a2:List Int)(p1:List L)(p2:List L)(e1:a1=(gk p1))(e2:(a2.map aZ)=(mm p2))(hg:gd a0 a1 a2):F (a0.map aY.row) p1 p2=ret ((md a0 a1 a2):Bool):=by
 obtain ⟨H0,H2⟩:=hg
 unfold F md
 try simp only [SS,←e1,←e2]
 refine ct (Z157.aj ⟨H0,H2⟩) ?_
 have fv1_:=Z157.fa a0 a1 a2
 all_goals exact fz
theorem oJ (ls:List L)(a:List aY×Int×List Int)(e:acc ls=Im.im a)(hg:(p3 gd) a):∃n:Nat,F ((ls.headD .hole).aR) (cK 1 (aA 1 ls)) (cK 1 (aA 2 ls))=ret (Im.im ((u3 md) a)):=by
 have e0:(a.1.map aY.row)=(ls.headD .hole).aR:=(congrArg (fun x=>x.1) e.symm)
 have hn:=bq a.1 a.2.1 a.2.2 (cK 1 (aA 1 ls)) (cK 1 (aA 2 ls)) (congrArg (fun x=>x.2.1) e.symm) (congrArg (fun x=>x.2.2) e.symm) hg
 refine ⟨0,?_⟩
 rw [←e0]
 exact hn
theorem af:cw 589 aV:=VP (live:=fun _=>[]) (nt:=9) (accr:=fun ls=>((ls.headD .hole).aR,(cK 1 (aA 1 ls)),(cK 1 (aA 2 ls)))) (run:=fun _ x=>F x.1 x.2.1 x.2.2) mix aD (.cons Z157.af .nil) Tryz.func589 (by kernel_rfl) (fun _ _=>by kernel_rfl) (fun ls a _ e hg=>oJ ls a e hg)
theorem any_eq (a0:List aY)(a1:Int)(a2:List Int):md a0 a1 a2=a0.any (fun y=>Z156.md y a1 a2):=by
 unfold md
 rw [Z157.idx_eq]
 exact qG
end Z158
namespace Z159
inductive Pt where
 | p0 (a:List (List L)) (b:Int) (c:List (List L)) (d:Int) (e:Int) (f:List (List L))
def pid:Pt→Nat
 | .p0 ..=>3
def bY:Pt→List V
 | .p0 a b c d e f=>[.sl none 428 a,.dc 0 0,.int .i64 b,.sl none 3 c,.int .i64 d,.int .i64 e]
def bZ:Pt→List aU
 | .p0 a b c d e f=>[.box [.sl none 3 f]]
def step (J:Pt→aG):Pt→aG
 | .p0 a b c d e f=>(cond (decide (e<d)) (m2 e (c.length:Int) (call (Z158.R (a,(jv c (toNat e)),f)) fun v1=>(cond v1 (J (.p0 a (i64.wrap (b+1)) c d (i64.wrap (e+1)) f)) (J (.p0 a b c d (i64.wrap (e+1)) f))))) (ret (b:Int)))
def start (J:Pt→aG)(x0:bu)(x1:List (List L))(x2:List (List L)):aG:=J (.p0 x2 0 x0.aT (x0.aT.length:Int) 0 x1)
def live:Nat→Live:=fun i=>match i with | 3=>[(2,none),(4,none),(7,none),(11,none),(12,none),(13,none)] | _=>[]
def md (a0:aJ)(a1:List Int)(a2:List aY):Int:=(dW (S:=Int) (β:=Int) (fun (y1:Int) (s3:Int)=>(cond (Z158.md a2 y1 a1) (.inl (i64.wrap (s3+1))) (.inl s3))) (fun (s3:Int)=>(s3:Int)) a0.aT 0)
def gd (a0:aJ)(a1:List Int)(a2:List aY):Prop:=(aJ.Sm (2^21) a0)∧(bK (2^38) (fun y:Int=>True) a1)∧(bK (2^21) (fun y:aY=>aY.Sm (2^21) y) a2)
def R:=RR (p3 gd) (u3 md)
theorem aj {a0 a1 a2}(h:gd a0 a1 a2):R ((aJ.r a0),(a1.map aZ),(a2.map aY.row))=some (md a0 a1 a2):=aM (a:=(a0,a1,a2)) h
def aV:=CN [.agg qb,pL 3,pL 428] oI RT.dec R
theorem bq (a0)(a1)(a2)(hg:gd a0 a1 a2):∃n,start (iter step n) (aJ.r a0) (a1.map aZ) (a2.map aY.row)=ret (md a0 a1 a2):=by
 obtain ⟨H0,H1,H2⟩:=hg
 unfold start md
 try simp only [SS]
 have Bh2:a0.aT.length≤maxLen:=(by
   have:=(H0).1
   try simp only [maxLen] at *
   omega)
 refine ex_eq (out:=ret) (eE (z:=0)) ?_
 refine dN (p:=Pt.p0 (a2.map aY.row) 0 (a0.aT.map aZ) (a0.aT.length:Int) 0 (a1.map aZ)) fz ?_
 refine ck (pt:=fun (i1:Nat) (s3:Int)=>Pt.p0 (a2.map aY.row) s3 (a0.aT.map aZ) (a0.aT.length:Int) (i1:Int) (a1.map aZ)) (s:=(0:Int)) (out:=ret) (fun _ _=>True) (fun J i1 s3 h2 hih2=>?_) (fun s3 hih2=>?_) trivial
 ·simp only [step,SS]
  have bb_:=Bh2
  simp only [maxLen] at bb_
  have:=(H0).1
  refine bt.yes (by apply decide_eq_true;omega) ?_
  refine bt.yes aH ?_
  refine bt.yes (aL h2) ?_
  refine cr (Z158.aj ⟨H2,H1⟩) ?_
  refine bt.bif (fun c4=>?_) (fun c4=>?_)
  ·refine bt.inl trivial ?_
   rw [aE h2 Bh2]
   all_goals exact fz
  ·refine bt.inl trivial ?_
   rw [aE h2 Bh2]
   all_goals exact fz
 ·simp only [step,SS]
  have:=(H0).1
  refine dx (by apply decide_eq_false;omega) ?_
  refine ⟨0,?_⟩
  all_goals exact fz
theorem af:cw 573 aV:=L3 24 pid bY bZ live step start mix aD bq (.cons Z158.af .nil) Tryz.func573
theorem br (a0:aJ)(a1:List Int)(a2:List aY):md a0 a1 a2=Z56.md a0 a1 a2:=by
 unfold md Z56.md
 refine pJ (fun x _ s=>?_) (fun s=>rfl)
 rw [Z158.any_eq]
 refine Eq.trans ?_ (mJ (β:=Int⊕Int) (p:=fun y=>Z156.md y x a1) (b:=Sum.inl (i64.wrap (s+1))) (c:=Sum.inl s) (fun y s'=>?_) a2 ()).symm
 ·cases a2.any (fun y=>Z156.md y x a1)<;>rfl
 ·unfold Z156.md
  simp only [Z155.br]
  cases y.gN==x<;>cases Z55.md y a1<;>rfl
end Z159
namespace Z160
def F (x0:bu)(x1:List (List L))(x2:List (List L)):aG:=(call (Z140.R x0) fun v1=>(cond v1 (call (Z159.R (x0,x1,x2)) fun v2=>ret ((decide (v2≥x0.cu)):Bool)) (ret (false:Bool))))
def md (a0:aJ)(a1:List Int)(a2:List aY):Bool:=(cond (Z140.md a0) ((decide ((Z159.md a0 a1 a2)≥a0.cu)):Bool) (false:Bool))
def gd (a0:aJ)(a1:List Int)(a2:List aY):Prop:=(aJ.Sm (2^21) a0)∧(bK (2^38) (fun y:Int=>True) a1)∧(bK (2^21) (fun y:aY=>aY.Sm (2^21) y) a2)
def R:=RR (p3 gd) (u3 md)
theorem aj {a0 a1 a2}(h:gd a0 a1 a2):R ((aJ.r a0),(a1.map aZ),(a2.map aY.row))=some (md a0 a1 a2):=aM (a:=(a0,a1,a2)) h
def aV:=CN [.agg qb,pL 3,pL 428] oB RT.dec R
theorem bq (a0)(a1)(a2)(hg:gd a0 a1 a2):F (aJ.r a0) (a1.map aZ) (a2.map aY.row)=ret (md a0 a1 a2):=by
 obtain ⟨H0,H1,H2⟩:=hg
 unfold F md
 try simp only [SS]
 refine ct (Z140.aj H0) ?_
 refine av ret (fun c1=>?_) (fun _=>rfl)
 refine ct (Z159.aj ⟨H0,H1,H2⟩) ?_
 all_goals exact fz
theorem af:cw 533 aV:=W3 18 F mix aD bq (.cons Z140.af (.cons Z159.af .nil)) Tryz.func533
theorem br (a0:aJ)(a1:List Int)(a2:List aY):md a0 a1 a2=Z57.md a0 a1 a2:=by
 unfold md Z57.md
 first
 | (simp only [Z140.br,Z159.br];done)
 | (simp only [Z140.br,Z159.br];rfl)
 | rfl
end Z160
namespace Z161
def F (x0:aO)(x1:bu):aG:=(call (Z152.R x0.aq) fun v1=>(call (Z160.R (x1,v1,x0.bW)) fun v2=>ret (v2:Bool)))
def md (a0:aa)(a1:aJ):Bool:=((Z160.md a1 (Z152.md a0.aq) a0.bW):Bool)
def gd (a0:aa)(a1:aJ):Prop:=(aa.Sm (2^21) a0)∧(aJ.Sm (2^21) a1)
def R:=RR (p2 gd) (u2 md)
theorem aj {a0 a1}(h:gd a0 a1):R ((aa.r a0),(aJ.r a1))=some (md a0 a1):=aM (a:=(a0,a1)) h
def aV:=CN [.agg kH,.agg qb] oB RT.dec R
theorem bq (a0)(a1)(hg:gd a0 a1):F (aa.r a0) (aJ.r a1)=ret (md a0 a1):=by
 obtain ⟨H0,H1⟩:=hg
 unfold F md
 try simp only [SS]
 refine ct (Z152.aj H0.1) ?_
 try simp only [SS]
 refine ct (Z160.aj ⟨H1,⟨(have:=Z152.len a0.aq;have:=(H0.1.1).1;have:=(H0.1.2.1).1;have:=(H0.1.2.2).1;om),fun _ _=>trivial⟩,H0.2⟩) ?_
 all_goals exact fz
theorem af:cw 456 aV:=W2 12 F mix aD bq (.cons Z152.af (.cons Z160.af .nil)) Tryz.func456
end Z161
namespace Z162
def F (x0:aO):aG:=(call (Z144.R x0.aq) fun v1=>(cond v1 (cond (x0.aq.cE==0) (cond (x0.aq.bD==1) (cond (!x0.aq.bB) (call (Z148.R (x0.aq.bJ,x0.aq.dz)) fun v2=>(cond (x0.aq.bA==v2) (call (Z161.R (x0,x0.aq.bJ)) fun v3=>ret (v3:Bool)) (ret (false:Bool)))) (ret (false:Bool))) (ret (false:Bool))) (ret (false:Bool))) (ret (false:Bool))))
def md (a0:aa):Bool:=(cond (Z144.md a0.aq) (cond (a0.aq.cE==0) (cond (a0.aq.bD==1) (cond (!a0.aq.bB) (cond (a0.aq.bA==(Z148.md a0.aq.bJ a0.aq.dz)) ((Z161.md a0 a0.aq.bJ):Bool) (false:Bool)) (false:Bool)) (false:Bool)) (false:Bool)) (false:Bool))
def gd (a0:aa):Prop:=(aa.Sm (2^21) a0)
def R:=RR gd md
theorem aj {a0}(h:gd a0):R (aa.r a0)=some (md a0):=aM (a:=a0) h
def aV:=CN [.agg kH] oB RT.dec R
theorem bq (a0)(hg:gd a0):F (aa.r a0)=ret (md a0):=by
 unfold gd at hg
 have H0:=hg
 unfold F md
 try simp only [SS]
 refine ct (Z144.aj H0.1) ?_
 refine av ret (fun c1=>?_) (fun _=>rfl)
 refine av ret (fun c2=>?_) (fun _=>rfl)
 refine av ret (fun c3=>?_) (fun _=>rfl)
 refine av ret (fun c4=>?_) (fun _=>rfl)
 refine ct (Z148.aj H0.1.1) ?_
 refine av ret (fun c5=>?_) (fun _=>rfl)
 refine ct (Z161.aj ⟨H0,H0.1.1⟩) ?_
 all_goals exact fz
theorem af:cw 372 aV:=W1 39 F mix aD bq (.cons Z144.af (.cons Z148.af (.cons Z161.af .nil))) Tryz.func372
theorem br (a0:aa):md a0=Z58.md a0:=by
 unfold md Z58.md
 simp only [Z161.md,Z160.br,Z152.br,Z144.br,Z148.br]
end Z162
namespace Z163
def F (x0:bU):aG:=(call (Z152.R x0) fun v1=>(bX (eU (((1:Int)+(v1.length:Int))*8)) (call (Z147.R ([[L.int 233]]++v1)) fun v2=>ret (v2:Int))))
def md (a0:aC):Int:=((Z147.md ([233]++(Z152.md a0))):Int)
def gd (a0:aC):Prop:=(aC.Sm (2^21) a0)
def R:=RR gd md
theorem aj {a0}(h:gd a0):R (aC.r a0)=some (md a0):=aM (a:=a0) h
def aV:=CN [.agg fX] oI RT.dec R
theorem bq (a0)(hg:gd a0):F (aC.r a0)=ret (md a0):=by
 unfold gd at hg
 have H0:=hg
 unfold F md
 try simp only [SS]
 refine ct (Z152.aj H0) ?_
 try simp only [SS]
 refine ak (have:=Z152.len a0;have:=(H0.1).1;have:=(H0.2.1).1;have:=(H0.2.2).1;lm) ?_
 refine bh (Z147.md ([233]++(Z152.md a0))) (rq (Z147.aj (a0:=([233]++(Z152.md a0))) ⟨(have:=Z152.len a0;have:=(H0.1).1;have:=(H0.2.1).1;have:=(H0.2.2).1;om),fun _ _=>trivial⟩)) ?_
 all_goals exact fz
theorem af:cw 574 aV:=W1 8 F mix aD bq (.cons Z152.af (.cons Z147.af .nil)) Tryz.func574
theorem br (a0:aC):md a0=Z59.md a0:=by
 unfold md Z59.md
 first
 | (simp only [Z152.br,Z147.br];done)
 | (simp only [Z152.br,Z147.br];rfl)
 | rfl
end Z163
namespace Z164
def F (x0:bU)(x1:bU):aG:=(cond (x1.bA==x0.bA) (cond (x1.cE==(i64.wrap (x0.cE+1))) (call (Z163.R x0) fun v1=>(cond (x1.dz==v1) (ret ((decide (x1.cB≥x0.cB)):Bool)) (ret (false:Bool)))) (ret (false:Bool))) (ret (false:Bool)))
def md (a0:aC)(a1:aC):Bool:=(cond (a1.bA==a0.bA) (cond (a1.cE==(i64.wrap (a0.cE+1))) (cond (a1.dz==(Z163.md a0)) ((decide (a1.cB≥a0.cB)):Bool) (false:Bool)) (false:Bool)) (false:Bool))
def gd (a0:aC)(a1:aC):Prop:=(aC.Sm (2^21) a0)
def R:=RR (p2 gd) (u2 md)
theorem aj {a0 a1}(h:gd a0 a1):R ((aC.r a0),(aC.r a1))=some (md a0 a1):=aM (a:=(a0,a1)) h
def aV:=CN [.agg fX,.agg fX] oB RT.dec R
theorem bq (a0)(a1)(hg:gd a0 a1):F (aC.r a0) (aC.r a1)=ret (md a0 a1):=by
 unfold gd at hg
 have H0:=hg
 unfold F md
 try simp only [SS]
 refine av ret (fun c1=>?_) (fun _=>rfl)
 refine av ret (fun c2=>?_) (fun _=>rfl)
 refine ct (Z163.aj H0) ?_
 refine av ret (fun c3=>?_) (fun _=>rfl)
 all_goals exact fz
theorem af:cw 534 aV:=W2 32 F mix aD bq (.cons Z163.af .nil) Tryz.func534
end Z164
namespace Z165
def F (x0:bU)(x1:aO):aG:=(cond x0.bB (ret (4:Int)) (cond x1.aq.bB (ret (6:Int)) (call (Z161.R (x1,x0.bJ)) fun v1=>(cond (!v1) (ret (7:Int)) (ret (1:Int))))))
def md (a0:aC)(a1:aa):Int:=(cond a0.bB (4:Int) (cond a1.aq.bB (6:Int) (cond (!(Z161.md a1 a0.bJ)) (7:Int) (1:Int))))
def gd (a0:aC)(a1:aa):Prop:=(aC.Sm (2^21) a0)∧(aa.Sm (2^21) a1)
def R:=RR (p2 gd) (u2 md)
theorem aj {a0 a1}(h:gd a0 a1):R ((aC.r a0),(aa.r a1))=some (md a0 a1):=aM (a:=(a0,a1)) h
def aV:=CN [.agg fX,.agg kH] oI RT.dec R
theorem bq (a0)(a1)(hg:gd a0 a1):F (aC.r a0) (aa.r a1)=ret (md a0 a1):=by
 obtain ⟨H0,H1⟩:=hg
 unfold F md
 try simp only [SS]
 refine av ret (fun _=>rfl) (fun c1=>?_)
 refine av ret (fun _=>rfl) (fun c2=>?_)
 refine ct (Z161.aj ⟨H1,H0.1⟩) ?_
 refine av ret (fun _=>rfl) (fun _=>rfl)
theorem af:cw 535 aV:=W2 18 F mix aD bq (.cons Z161.af .nil) Tryz.func535
end Z165
namespace Z166
inductive Pt where
 | p0 (a:List (List L)) (b:List (List L)) (c:Int) (d:Int)
def pid:Pt→Nat
 | .p0 ..=>4
def bY:Pt→List V
 | .p0 a b c d=>[.sl none 3 a,.sl none 3 b,.int .i64 c,.int .i64 d]
def bZ:Pt→List aU
 | .p0 a b c d=>[]
def step (J:Pt→aG):Pt→aG
 | .p0 a b c d=>(cond (decide (d<c)) (m2 d (a.length:Int) (m2 d (b.length:Int) (cond ((jv a (toNat d)) != (jv b (toNat d))) (ret (false:Bool)) (J (.p0 a b c (i64.wrap (d+1))))))) (ret (true:Bool)))
def start (J:Pt→aG)(x0:List (List L))(x1:List (List L)):aG:=(cond ((x0.length:Int) != (x1.length:Int)) (ret (false:Bool)) (J (.p0 x0 x1 (x0.length:Int) 0)))
def live:Nat→Live:=fun i=>match i with | 4=>[(0,none),(1,none),(12,none),(13,none)] | _=>[]
def md (a0:List Int)(a1:List Int):Bool:=(bif ((a0.length:Int) != (a1.length:Int)) then (false:Bool) else (eg (S:=Unit) (β:=Bool) (fun (i2:Nat) (s4:Unit)=>(cond ((a0.getD i2 0) != (a1.getD i2 0)) (.inr (false:Bool)) (.inl ()))) (fun (s4:Unit)=>(true:Bool)) a0.length 0 ()))
def gd (a0:List Int)(a1:List Int):Prop:=(bK (2^38) (fun y:Int=>True) a0)∧(bK (2^38) (fun y:Int=>True) a1)
def R:=RR (p2 gd) (u2 md)
theorem aj {a0 a1}(h:gd a0 a1):R ((a0.map aZ),(a1.map aZ))=some (md a0 a1):=aM (a:=(a0,a1)) h
def aV:=CN [pL 3,pL 3] oB RT.dec R
theorem bq (a0)(a1)(hg:gd a0 a1):∃n,start (iter step n) (a0.map aZ) (a1.map aZ)=ret (md a0 a1):=by
 obtain ⟨H0,H1⟩:=hg
 unfold start md
 try simp only [SS]
 refine gT ret (fun _=>⟨0,rfl⟩) (fun c1=>?_)
 have dc1:=c1
 try simp only [DC] at dc1
 have Bh3:a0.length≤maxLen:=(by
   have:=(H0).1
   try simp only [maxLen] at *
   omega)
 refine dN (p:=Pt.p0 (a0.map aZ) (a1.map aZ) (a0.length:Int) 0) fz ?_
 refine ck (pt:=fun (i2:Nat) (s4:Unit)=>Pt.p0 (a0.map aZ) (a1.map aZ) (a0.length:Int) (i2:Int)) (s:=(():Unit)) (out:=ret) (fun _ _=>True) (fun J i2 s4 h3 hih3=>?_) (fun s4 hih3=>?_) trivial
 ·simp only [step,SS]
  have bb_:=Bh3
  simp only [maxLen] at bb_
  have:=(H0).1
  refine bt.yes (by apply decide_eq_true;omega) ?_
  refine bt.yes aH ?_
  refine bt.yes (aL h3) ?_
  refine bt.yes aH ?_
  refine bt.yes (have:=(H1).1;dt) ?_
  refine bt.bif (fun _=>bt.inr rfl) (fun c5=>?_)
  refine bt.inl trivial ?_
  rw [aE h3 Bh3]
  all_goals exact fz
 ·simp only [step,SS]
  have:=(H0).1
  refine dx (by apply decide_eq_false;omega) ?_
  refine ⟨0,?_⟩
  all_goals exact fz
theorem af:cw 223 aV:=L2 26 pid bY bZ live step start mix aD bq .nil Tryz.func223
theorem md_eq (a0:List Int)(a1:List Int):md a0 a1=dZ a0 a1:=by
 unfold md
 refine jX (0) (fun i s h h2=>?_) (fun s=>rfl)
 simp only [bne,fq,bool_beq,eS]
 cases dZ _ _<;>rfl
end Z166
namespace Z167
def F (x0:bu)(x1:bu):aG:=(call (Z166.R (x0.aT,x1.aT)) fun v1=>(cond v1 (ret ((x0.cu==x1.cu):Bool)) (ret (false:Bool))))
def md (a0:aJ)(a1:aJ):Bool:=(cond (Z166.md a0.aT a1.aT) ((a0.cu==a1.cu):Bool) (false:Bool))
def gd (a0:aJ)(a1:aJ):Prop:=(aJ.Sm (2^21) a0)∧(aJ.Sm (2^21) a1)
def R:=RR (p2 gd) (u2 md)
theorem aj {a0 a1}(h:gd a0 a1):R ((aJ.r a0),(aJ.r a1))=some (md a0 a1):=aM (a:=(a0,a1)) h
def aV:=CN [.agg qb,.agg qb] oB RT.dec R
theorem bq (a0)(a1)(hg:gd a0 a1):F (aJ.r a0) (aJ.r a1)=ret (md a0 a1):=by
 obtain ⟨H0,H1⟩:=hg
 unfold F md
 try simp only [SS]
 refine ct (Z166.aj ⟨(H0.mono (by decide) (fun x hx=>trivial)),(H1.mono (by decide) (fun x hx=>trivial))⟩) ?_
 refine av ret (fun c1=>?_) (fun _=>rfl)
 all_goals exact fz
theorem af:cw 69 aV:=W2 17 F mix aD bq (.cons Z166.af .nil) Tryz.func69
theorem md_eq (a0:aJ)(a1:aJ):md a0 a1=dZ a0 a1:=by
 unfold md
 cases a0;cases a1
 rw [Bool.eq_iff_iff]
 simp [dm,eS,aJ.mk.injEq,Z166.md_eq]
 try (constructor<;>(intro h;simp_all))
end Z167
namespace Z168
def F (x0:bU)(x1:bU):aG:=(cond (x0.cg==x1.cg) (ret ((x0.cS==x1.cS):Bool)) (ret (false:Bool)))
def md (a0:aC)(a1:aC):Bool:=(cond (a0.cg==a1.cg) ((a0.cS==a1.cS):Bool) (false:Bool))
def gd (a0:aC)(a1:aC):Prop:=True
def R:=RR (p2 gd) (u2 md)
theorem aj {a0 a1}(h:gd a0 a1):R ((aC.r a0),(aC.r a1))=some (md a0 a1):=aM (a:=(a0,a1)) h
def aV:=CN [.agg fX,.agg fX] oB RT.dec R
theorem bq (a0)(a1)(hg:gd a0 a1):F (aC.r a0) (aC.r a1)=ret (md a0 a1):=by
 unfold F md
 try simp only [SS]
 refine av ret (fun c1=>?_) (fun _=>rfl)
 all_goals exact fz
theorem af:cw 575 aV:=W2 17 F mix aD bq .nil Tryz.func575
theorem br (a0:aC)(a1:aC):md a0 a1=Z63.md a0 a1:=by
 unfold md Z63.md
 first
 | (simp only [id];done)
 | (simp only [id];rfl)
 | rfl
end Z168
namespace Z169
def F (x0:bU)(x1:aO):aG:=(cond x0.bB (ret (4:Int)) (call (Z141.R x0.bw) fun v1=>(cond v1 (ret (5:Int)) (cond (decide (x1.aq.cB<(i64.wrap (x0.cq+x0.cW)))) (ret (5:Int)) (cond x1.aq.bB (ret (6:Int)) (call (Z167.R (x1.aq.bJ,x0.bw)) fun v2=>(cond (!v2) (ret (6:Int)) (call (Z168.R (x1.aq,x0)) fun v3=>(cond (!v3) (ret (6:Int)) (call (Z161.R (x1,x0.bw)) fun v4=>(cond (!v4) (ret (7:Int)) (ret (1:Int)))))))))))))
def md (a0:aC)(a1:aa):Int:=(cond a0.bB (4:Int) (cond (Z141.md a0.bw) (5:Int) (cond (decide (a1.aq.cB<(i64.wrap (a0.cq+a0.cW)))) (5:Int) (cond a1.aq.bB (6:Int) (cond (!(Z167.md a1.aq.bJ a0.bw)) (6:Int) (cond (!(Z168.md a1.aq a0)) (6:Int) (cond (!(Z161.md a1 a0.bw)) (7:Int) (1:Int))))))))
def gd (a0:aC)(a1:aa):Prop:=(aC.Sm (2^21) a0)∧(aa.Sm (2^21) a1)
def R:=RR (p2 gd) (u2 md)
theorem aj {a0 a1}(h:gd a0 a1):R ((aC.r a0),(aa.r a1))=some (md a0 a1):=aM (a:=(a0,a1)) h
def aV:=CN [.agg fX,.agg kH] oI RT.dec R
theorem bq (a0)(a1)(hg:gd a0 a1):F (aC.r a0) (aa.r a1)=ret (md a0 a1):=by
 obtain ⟨H0,H1⟩:=hg
 unfold F md
 try simp only [SS]
 refine av ret (fun _=>rfl) (fun c1=>?_)
 refine ct (Z141.aj trivial) ?_
 refine av ret (fun _=>rfl) (fun c2=>?_)
 refine av ret (fun _=>rfl) (fun c3=>?_)
 refine av ret (fun _=>rfl) (fun c4=>?_)
 refine ct (Z167.aj ⟨H1.1.1,H0.2.1⟩) ?_
 refine av ret (fun _=>rfl) (fun c5=>?_)
 refine ct (Z168.aj trivial) ?_
 refine av ret (fun _=>rfl) (fun c6=>?_)
 refine ct (Z161.aj ⟨H1,H0.2.1⟩) ?_
 refine av ret (fun _=>rfl) (fun _=>rfl)
theorem af:cw 536 aV:=W2 48 F mix aD bq (.cons Z141.af (.cons Z167.af (.cons Z168.af (.cons Z161.af .nil)))) Tryz.func536
end Z169
namespace Z170
def F (x0:bU)(x1:aO):aG:=(call (Z168.R (x1.aq,x0)) fun v1=>(cond v1 (call (Z167.R (x1.aq.bp,x0.bp)) fun v2=>(cond v2 (call (Z167.R (x1.aq.bw,x0.bw)) fun v3=>(cond v3 (call (Z141.R x0.bp) fun v4=>(cond v4 (ret (5:Int)) (cond (x1.aq.bB==x0.bB) (ret (6:Int)) (cond (!(x1.aq.cW==x0.cW)) (ret (6:Int)) (cond x1.aq.bB (call (Z167.R (x1.aq.bJ,x0.bJ)) fun v5=>(cond (!v5) (ret (6:Int)) (call (Z161.R (x1,x0.bp)) fun v6=>(cond (!v6) (ret (7:Int)) (ret (1:Int)))))) (call (Z161.R (x1,x0.bp)) fun v7=>(cond (!v7) (ret (7:Int)) (ret (1:Int))))))))) (call (Z141.R x0.bp) fun v8=>(cond v8 (ret (5:Int)) (cond (x1.aq.bB==x0.bB) (ret (6:Int)) (ret (6:Int))))))) (call (Z141.R x0.bp) fun v9=>(cond v9 (ret (5:Int)) (cond (x1.aq.bB==x0.bB) (ret (6:Int)) (ret (6:Int))))))) (call (Z141.R x0.bp) fun v10=>(cond v10 (ret (5:Int)) (cond (x1.aq.bB==x0.bB) (ret (6:Int)) (ret (6:Int)))))))
def md (a0:aC)(a1:aa):Int:=(cond (Z168.md a1.aq a0) (cond (Z167.md a1.aq.bp a0.bp) (cond (Z167.md a1.aq.bw a0.bw) (cond (Z141.md a0.bp) (5:Int) (cond (a1.aq.bB==a0.bB) (6:Int) (cond (!(a1.aq.cW==a0.cW)) (6:Int) (cond a1.aq.bB (cond (!(Z167.md a1.aq.bJ a0.bJ)) (6:Int) (cond (!(Z161.md a1 a0.bp)) (7:Int) (1:Int))) (cond (!(Z161.md a1 a0.bp)) (7:Int) (1:Int)))))) (cond (Z141.md a0.bp) (5:Int) (cond (a1.aq.bB==a0.bB) (6:Int) (6:Int)))) (cond (Z141.md a0.bp) (5:Int) (cond (a1.aq.bB==a0.bB) (6:Int) (6:Int)))) (cond (Z141.md a0.bp) (5:Int) (cond (a1.aq.bB==a0.bB) (6:Int) (6:Int))))
def gd (a0:aC)(a1:aa):Prop:=(aC.Sm (2^21) a0)∧(aa.Sm (2^21) a1)
def R:=RR (p2 gd) (u2 md)
theorem aj {a0 a1}(h:gd a0 a1):R ((aC.r a0),(aa.r a1))=some (md a0 a1):=aM (a:=(a0,a1)) h
def aV:=CN [.agg fX,.agg kH] oI RT.dec R
theorem bq (a0)(a1)(hg:gd a0 a1):F (aC.r a0) (aa.r a1)=ret (md a0 a1):=by
 obtain ⟨H0,H1⟩:=hg
 unfold F md
 try simp only [SS]
 refine ct (Z168.aj trivial) ?_
 refine av ret (fun c1=>?_) (fun c1=>?_)
 ·refine ct (Z167.aj ⟨H1.1.2.2,H0.2.2⟩) ?_
  refine av ret (fun c2=>?_) (fun c2=>?_)
  ·refine ct (Z167.aj ⟨H1.1.2.1,H0.2.1⟩) ?_
   refine av ret (fun c3=>?_) (fun c3=>?_)
   ·refine ct (Z141.aj trivial) ?_
    refine av ret (fun _=>rfl) (fun c4=>?_)
    refine av ret (fun _=>rfl) (fun c5=>?_)
    refine av ret (fun _=>rfl) (fun c6=>?_)
    refine av ret (fun c7=>?_) (fun c7=>?_)
    ·refine ct (Z167.aj ⟨H1.1.1,H0.1⟩) ?_
     refine av ret (fun _=>rfl) (fun c8=>?_)
     refine ct (Z161.aj ⟨H1,H0.2.2⟩) ?_
     refine av ret (fun _=>rfl) (fun _=>rfl)
    ·refine ct (Z161.aj ⟨H1,H0.2.2⟩) ?_
     refine av ret (fun _=>rfl) (fun _=>rfl)
   ·refine ct (Z141.aj trivial) ?_
    refine av ret (fun _=>rfl) (fun c11=>?_)
    refine av ret (fun _=>rfl) (fun _=>rfl)
  ·refine ct (Z141.aj trivial) ?_
   refine av ret (fun _=>rfl) (fun c13=>?_)
   refine av ret (fun _=>rfl) (fun _=>rfl)
 ·refine ct (Z141.aj trivial) ?_
  refine av ret (fun _=>rfl) (fun c15=>?_)
  refine av ret (fun _=>rfl) (fun _=>rfl)
theorem af:cw 537 aV:=W2 65 F mix aD bq (.cons Z168.af (.cons Z167.af (.cons Z141.af (.cons Z161.af .nil)))) Tryz.func537
end Z170
namespace Z171
def F (x0:bU)(x1:aO):aG:=(call (Z144.R x0) fun v1=>(cond (!v1) (ret (2:Int)) (call (Z144.R x1.aq) fun v2=>(cond (!v2) (ret (2:Int)) (call (Z164.R (x0,x1.aq)) fun v3=>(cond (!v3) (ret (3:Int)) (cond (x1.aq.bD==1) (call (Z165.R (x0,x1)) fun v4=>ret (v4:Int)) (cond (x1.aq.bD==2) (call (Z169.R (x0,x1)) fun v5=>ret (v5:Int)) (call (Z170.R (x0,x1)) fun v6=>ret (v6:Int))))))))))
def md (a0:aC)(a1:aa):Int:=(cond (!(Z144.md a0)) (2:Int) (cond (!(Z144.md a1.aq)) (2:Int) (cond (!(Z164.md a0 a1.aq)) (3:Int) (cond (a1.aq.bD==1) ((Z165.md a0 a1):Int) (cond (a1.aq.bD==2) ((Z169.md a0 a1):Int) ((Z170.md a0 a1):Int))))))
def gd (a0:aC)(a1:aa):Prop:=(aC.Sm (2^21) a0)∧(aa.Sm (2^21) a1)
def R:=RR (p2 gd) (u2 md)
theorem aj {a0 a1}(h:gd a0 a1):R ((aC.r a0),(aa.r a1))=some (md a0 a1):=aM (a:=(a0,a1)) h
def aV:=CN [.agg fX,.agg kH] oI RT.dec R
theorem bq (a0)(a1)(hg:gd a0 a1):F (aC.r a0) (aa.r a1)=ret (md a0 a1):=by
 obtain ⟨H0,H1⟩:=hg
 unfold F md
 try simp only [SS]
 refine ct (Z144.aj H0) ?_
 refine av ret (fun _=>rfl) (fun c1=>?_)
 refine ct (Z144.aj H1.1) ?_
 refine av ret (fun _=>rfl) (fun c2=>?_)
 refine ct (Z164.aj H0) ?_
 refine av ret (fun _=>rfl) (fun c3=>?_)
 refine av ret (fun c4=>?_) (fun c4=>?_)
 ·refine ct (Z165.aj ⟨H0,H1⟩) ?_
  all_goals exact fz
 ·refine av ret (fun c5=>?_) (fun c5=>?_)
  ·refine ct (Z169.aj ⟨H0,H1⟩) ?_
   all_goals exact fz
  ·refine ct (Z170.aj ⟨H0,H1⟩) ?_
   all_goals exact fz
theorem af:cw 457 aV:=W2 40 F mix aD bq (.cons Z144.af (.cons Z164.af (.cons Z165.af (.cons Z169.af (.cons Z170.af .nil))))) Tryz.func457
theorem br (a0:aC)(a1:aa):md a0 a1=Z66.md a0 a1:=by
 unfold md Z66.md Z164.md Z165.md Z169.md Z170.md Z161.md Z60.md Z64.md Z65.md
 simp only [Z144.br,Z163.br,Z160.br,Z152.br,Z141.br,Z167.md_eq,Z62.md_eq,Z168.br,bne]
 cases Z47.md a0
 ·rfl
 cases h2:Z47.md a1.aq
 ·rfl
 obtain ⟨⟨k1,k2⟩,_⟩:=Z47.tr h2
 have ht:decide (a1.aq.cB<a0.cB)=!decide (a1.aq.cB≥a0.cB):=by
  rw [Bool.eq_iff_iff];simp
 rw [ht]
 cases a1.aq.bA==a0.bA
 ·rfl
 cases a1.aq.cE==i64.wrap (a0.cE+1)
 ·rfl
 cases a1.aq.dz==Z59.md a0
 ·rfl
 cases decide (a1.aq.cB≥a0.cB)
 ·rfl
 have hk:a1.aq.bD=1∨a1.aq.bD=2∨a1.aq.bD=3:=by omega
 generalize Z57.md a0.bJ (Z52.md a1.aq) a1.bW=s1
 generalize Z57.md a0.bw (Z52.md a1.aq) a1.bW=s2
 generalize Z57.md a0.bp (Z52.md a1.aq) a1.bW=s3
 generalize Z46.md a0.bw=n1
 generalize Z46.md a0.bp=n2
 generalize decide (a1.aq.cB<i64.wrap (a0.cq+a0.cW))=d1
 generalize dZ a1.aq.bJ a0.bw=e1
 generalize dZ a1.aq.bp a0.bp=e2
 generalize dZ a1.aq.bw a0.bw=e3
 generalize dZ a1.aq.bJ a0.bJ=e4
 generalize Z63.md a1.aq a0=c1
 generalize (a1.aq.cW==a0.cW)=w1
 generalize a1.aq.bB=f1
 generalize a0.bB=f0
 rcases hk with hk | hk | hk<;>rw [hk]
 ·cases f0<;>cases f1<;>cases s1<;>rfl
 ·cases f0<;>cases n1<;>cases d1<;>cases f1<;>cases e1<;>cases c1<;>cases s2<;>rfl
 ·cases n2
  ·cases f1<;>cases f0<;>cases c1<;>cases e2<;>cases e3<;>cases w1<;>cases e4<;>cases s3<;>rfl
  ·cases c1<;>cases e2<;>cases e3<;>rfl
end Z171
namespace Z172
def F (x0:bU)(x1:aO):aG:=(call (Z171.R (x0,x1)) fun v1=>ret ((v1==1):Bool))
def md (a0:aC)(a1:aa):Bool:=(((Z171.md a0 a1)==1):Bool)
def gd (a0:aC)(a1:aa):Prop:=(aC.Sm (2^21) a0)∧(aa.Sm (2^21) a1)
def R:=RR (p2 gd) (u2 md)
theorem aj {a0 a1}(h:gd a0 a1):R ((aC.r a0),(aa.r a1))=some (md a0 a1):=aM (a:=(a0,a1)) h
def aV:=CN [.agg fX,.agg kH] oB RT.dec R
theorem bq (a0)(a1)(hg:gd a0 a1):F (aC.r a0) (aa.r a1)=ret (md a0 a1):=by
 obtain ⟨H0,H1⟩:=hg
 unfold F md
 try simp only [SS]
 refine ct (Z171.aj ⟨H0,H1⟩) ?_
 all_goals exact fz
theorem af:cw 373 aV:=W2 9 F mix aD bq (.cons Z171.af .nil) Tryz.func373
theorem br (a0:aC)(a1:aa):md a0 a1=Z67.md a0 a1:=by
 unfold md Z67.md
 first
 | (simp only [Z171.br];done)
 | (simp only [Z171.br];rfl)
 | rfl
end Z172
namespace Z173
inductive Pt where
 | p0 (a:List (List L)) (b:List (List L)) (c:Int) (d:Int)
def pid:Pt→Nat
 | .p0 ..=>2
def bY:Pt→List V
 | .p0 a b c d=>[.sl none 123 a,.sl none 123 b,.int .i64 c,.int .i64 d]
def bZ:Pt→List aU
 | .p0 a b c d=>[]
def step (J:Pt→aG):Pt→aG
 | .p0 a b c d=>(cond (decide (d<c)) (m2 d (b.length:Int) (cond (d==0) (call (Z162.R (aO.at b (toNat d))) fun v1=>(cond (!v1) (ret (d:Int)) (cond (decide (d>0)) (bX (decide ((0:Int)≤(i64.wrap (d - 1)))) (bX (decide ((i64.wrap (d - 1))<(a.length:Int))) (call (Z172.R ((aO.at a (toNat (i64.wrap (d - 1)))).aq,(aO.at b (toNat d)))) fun v2=>(cond (!v2) (ret (d:Int)) (J (.p0 a b c (i64.wrap (d+1)))))))) (J (.p0 a b c (i64.wrap (d+1))))))) (cond (decide (d>0)) (bX (decide ((0:Int)≤(i64.wrap (d - 1)))) (bX (decide ((i64.wrap (d - 1))<(a.length:Int))) (call (Z172.R ((aO.at a (toNat (i64.wrap (d - 1)))).aq,(aO.at b (toNat d)))) fun v3=>(cond (!v3) (ret (d:Int)) (J (.p0 a b c (i64.wrap (d+1)))))))) (J (.p0 a b c (i64.wrap (d+1))))))) (ret ((-1):Int)))
def start (J:Pt→aG)(x0:List (List L)):aG:=J (.p0 x0 x0 (x0.length:Int) 0)
def live:Nat→Live:=fun i=>match i with | 2=>[(0,none),(5,none),(6,none),(7,none)] | _=>[]
def md (a0:List aa):Int:=(dS (S:=Unit) (β:=Int) (fun (i1:Nat) (y1:aa) (s3:Unit)=>(cond ((i1:Int)==0) (cond (!(Z162.md y1)) (.inr ((i1:Int):Int)) (cond (decide ((i1:Int)>0)) (cond (!(Z172.md ((a0.getD (toNat (i64.wrap ((i1:Int) - 1))) aa.zero).aq) y1)) (.inr ((i1:Int):Int)) (.inl ())) (.inl ()))) (cond (decide ((i1:Int)>0)) (cond (!(Z172.md ((a0.getD (toNat (i64.wrap ((i1:Int) - 1))) aa.zero).aq) y1)) (.inr ((i1:Int):Int)) (.inl ())) (.inl ())))) (fun (s3:Unit)=>((-1):Int)) 0 a0 ())
def gd (a0:List aa):Prop:=(bK (2^21) (fun y:aa=>aa.Sm (2^21) y) a0)
def R:=RR gd md
theorem aj {a0}(h:gd a0):R (a0.map aa.row)=some (md a0):=aM (a:=a0) h
def aV:=CN [pL 123] oI RT.dec R
theorem bq (a0)(hg:gd a0):∃n,start (iter step n) (a0.map aa.row)=ret (md a0):=by
 unfold gd at hg
 have H0:=hg
 unfold start md
 try simp only [SS]
 have Bh2:a0.length≤maxLen:=(by
   have:=(H0).1
   try simp only [maxLen] at *
   omega)
 refine ex_eq (out:=ret) (cX (z:=aa.zero)) ?_
 refine dN (p:=Pt.p0 (a0.map aa.row) (a0.map aa.row) (a0.length:Int) 0) fz ?_
 refine ck (pt:=fun (i1:Nat) (s3:Unit)=>Pt.p0 (a0.map aa.row) (a0.map aa.row) (a0.length:Int) (i1:Int)) (s:=(():Unit)) (out:=ret) (fun _ _=>True) (fun J i1 s3 h2 hih2=>?_) (fun s3 hih2=>?_) trivial
 ·simp only [step,SS]
  have bb_:=Bh2
  simp only [maxLen] at bb_
  have:=(H0).1
  refine bt.yes (by apply decide_eq_true;omega) ?_
  refine bt.yes aH ?_
  refine bt.yes (aL h2) ?_
  refine bt.bif (fun c4=>?_) (fun c4=>?_)
  ·have dc4:=c4
   try simp only [DC] at dc4
   refine cr (Z162.aj (bK.getD (z:=aa.zero) H0 h2)) ?_
   refine bt.bif (fun c5=>?_) (fun c5=>?_)
   ·refine bt.inr ?_
    all_goals exact fz
   ·have dc5:=c5
    try simp only [DC] at dc5
    refine bt.bif (fun c6=>?_) (fun c6=>?_)
    ·have dc6:=c6
     try simp only [DC] at dc6
     refine bt.yes dt ?_
     refine bt.yes (have:=(H0).1;dt) ?_
     refine cr (Z172.aj ⟨(bK.getD (z:=aa.zero) H0 (by first | assumption | omega | (simp (disch:=omega) only [wi];omega) | (simp;omega))).1,(bK.getD (z:=aa.zero) H0 h2)⟩) ?_
     refine bt.bif (fun c7=>?_) (fun c7=>?_)
     ·refine bt.inr ?_
      all_goals exact fz
     ·refine bt.inl trivial ?_
      rw [aE h2 Bh2]
      all_goals exact fz
    ·refine bt.inl trivial ?_
     rw [aE h2 Bh2]
     all_goals exact fz
  ·have dc4:=c4
   try simp only [DC] at dc4
   refine bt.bif (fun c8=>?_) (fun c8=>?_)
   ·have dc8:=c8
    try simp only [DC] at dc8
    refine bt.yes dt ?_
    refine bt.yes (have:=(H0).1;dt) ?_
    refine cr (Z172.aj ⟨(bK.getD (z:=aa.zero) H0 (by first | assumption | omega | (simp (disch:=omega) only [wi];omega) | (simp;omega))).1,(bK.getD (z:=aa.zero) H0 h2)⟩) ?_
    refine bt.bif (fun c9=>?_) (fun c9=>?_)
    ·refine bt.inr ?_
     all_goals exact fz
    ·refine bt.inl trivial ?_
     rw [aE h2 Bh2]
     all_goals exact fz
   ·refine bt.inl trivial ?_
    rw [aE h2 Bh2]
    all_goals exact fz
 ·simp only [step,SS]
  have:=(H0).1
  refine dx (by apply decide_eq_false;omega) ?_
  refine ⟨0,?_⟩
  all_goals exact fz
theorem af:cw 349 aV:=L1 36 pid bY bZ live step start mix aD bq (.cons Z162.af (.cons Z172.af .nil)) Tryz.func349
theorem br (a0:List aa):md a0=Z68.md a0:=by
 unfold md Z68.md
 rw [←cX (z:=aa.zero),←cX (z:=aa.zero)]
 refine uf (fun _ _=>True) (fun i s hi _=>⟨?_,fun _ _=>trivial⟩) (fun _ _=>rfl) trivial
 simp only [Z162.br,Z172.br]
 by_cases h0:i=0
 ·subst h0;rfl
 ·have e:((i:Int)==0)=false:=beq_eq_false_iff_ne.2 (by omega)
  simp only [e,bk]
end Z173
namespace Z174
def F (x0:List (List L)):aG:=(call (Z130.R ((x0.length:Int),1,12)) fun v1=>(cond v1 (call (Z173.R x0) fun v2=>ret ((decide (v2<0)):Bool)) (ret (false:Bool))))
def md (a0:List aa):Bool:=(cond (Z130.md (a0.length:Int) 1 12) ((decide ((Z173.md a0)<0)):Bool) (false:Bool))
def gd (a0:List aa):Prop:=(bK (2^21) (fun y:aa=>aa.Sm (2^21) y) a0)
def R:=RR gd md
theorem aj {a0}(h:gd a0):R (a0.map aa.row)=some (md a0):=aM (a:=a0) h
def aV:=CN [pL 123] oB RT.dec R
theorem bq (a0)(hg:gd a0):F (a0.map aa.row)=ret (md a0):=by
 unfold gd at hg
 have H0:=hg
 unfold F md
 try simp only [SS]
 refine ct (Z130.aj trivial) ?_
 refine av ret (fun c1=>?_) (fun _=>rfl)
 refine ct (Z173.aj H0) ?_
 all_goals exact fz
theorem af:cw 219 aV:=W1 11 F mix aD bq (.cons Z130.af (.cons Z173.af .nil)) Tryz.func219
theorem tr {a0:List aa}(h:md a0=true):1≤a0.length∧a0.length≤12:=by simp [md,Z130.md] at h;omega
theorem br (a0:List aa):md a0=Z69.md a0:=by
 unfold md Z69.md
 first
 | (simp only [Z130.br,Z173.br];done)
 | (simp only [Z130.br,Z173.br];rfl)
 | rfl
end Z174
namespace Z175
def F (x0:List (List L)):aG:=(bX (decide ((0:Int)≤(i64.wrap ((x0.length:Int) - 1)))) (bX (decide ((i64.wrap ((x0.length:Int) - 1))<(x0.length:Int))) (ret ((aO.at x0 (toNat (i64.wrap ((x0.length:Int) - 1)))).aq:bU))))
def md (a0:List aa):aC:=(a0.getD (toNat (i64.wrap ((a0.length:Int) - 1))) aa.zero).aq
def gd (a0:List aa):Prop:=(bK (2^21) (fun y:aa=>aa.Sm (2^21) y) a0)∧(1≤a0.length)
def R:=RR gd md
theorem aj {a0}(h:gd a0):R (a0.map aa.row)=some (aC.r (md a0)):=aM (a:=a0) h
def aV:=CN [pL 123] (.agg [.rd (.int .i64),.rd (.int .i64),.rd (.int .i64),.rd (.int .i64),.rd (.int .i64),.rd (.int .i64),.rd (.int .i64),.rd (.int .i64),.rd (.sl 3),.rd (.int .i64),.rd (.sl 3),.rd (.int .i64),.rd (.int .i64),.rd (.sl 3),.rd (.int .i64),.rd (.bool)]) RT.dec R
theorem bq (a0)(hg:gd a0):F (a0.map aa.row)=ret (aC.r (md a0)):=by
 obtain ⟨H0,HX⟩:=hg
 unfold F md
 try simp only [SS]
 refine ak (have:=(H0).1;dt) ?_
 refine ak (have:=(H0).1;dt) ?_
 all_goals exact fz
theorem af:cw 228 aV:=W1 10 F mix aD bq .nil Tryz.func228
theorem gh {a0:List aa}(hg:gd a0):aC.Sm (2^21) (md a0):=by
 unfold gd at hg;unfold md
 have h1:=hg.1.1
 have h2:=hg.2
 exact (bK.getD hg.1 (by simp (disch:=omega) only [Go.IntWalk.i64_in];omega)).1
end Z175
namespace Z176
def F (x0:aS):aG:=(call (Z131.R x0.aW) fun v1=>(cond (!v1) (ret (false:Bool)) (cond (x0.bD==1) (call (Z130.R (x0.bS,0,999999)) fun v2=>(cond v2 (ret (((x0.bC.length:Int)==0):Bool)) (ret (false:Bool)))) (cond (x0.bD==2) (call (Z136.R x0.bS) fun v3=>(cond v3 (ret (((x0.bC.length:Int)==0):Bool)) (ret (false:Bool)))) (cond (x0.bD==3) (call (Z136.R x0.bS) fun v4=>(cond v4 (call (Z135.R x0.bC) fun v5=>ret (v5:Bool)) (ret (false:Bool)))) (ret (false:Bool)))))))
def md (a0:ah):Bool:=(cond (!(Z131.md a0.aW)) (false:Bool) (cond (a0.bD==1) (cond (Z130.md a0.bS 0 999999) (((a0.bC.length:Int)==0):Bool) (false:Bool)) (cond (a0.bD==2) (cond (Z136.md a0.bS) (((a0.bC.length:Int)==0):Bool) (false:Bool)) (cond (a0.bD==3) (cond (Z136.md a0.bS) ((Z135.md a0.bC):Bool) (false:Bool)) (false:Bool)))))
def gd (a0:ah):Prop:=(ah.Sm (2^21) a0)
def R:=RR gd md
theorem aj {a0}(h:gd a0):R (ah.r a0)=some (md a0):=aM (a:=a0) h
def aV:=CN [.agg ru] oB RT.dec R
theorem bq (a0)(hg:gd a0):F (ah.r a0)=ret (md a0):=by
 unfold gd at hg
 have H0:=hg
 unfold F md
 try simp only [SS]
 refine ct (Z131.aj (Nat.le_trans H0.1 (by decide))) ?_
 refine av ret (fun _=>rfl) (fun c1=>?_)
 refine av ret (fun c2=>?_) (fun c2=>?_)
 ·refine ct (Z130.aj trivial) ?_
  refine av ret (fun c3=>?_) (fun _=>rfl)
  all_goals exact fz
 ·refine av ret (fun c4=>?_) (fun c4=>?_)
  ·refine ct (Z136.aj trivial) ?_
   refine av ret (fun c5=>?_) (fun _=>rfl)
   all_goals exact fz
  ·refine av ret (fun c6=>?_) (fun _=>rfl)
   refine ct (Z136.aj trivial) ?_
   refine av ret (fun c7=>?_) (fun _=>rfl)
   refine ct (Z135.aj (H0.2.mono (by decide) (fun x hx=>(Nat.le_trans hx (by decide))))) ?_
   all_goals exact fz
theorem af:cw 299 aV:=W1 41 F mix aD bq (.cons Z131.af (.cons Z130.af (.cons Z136.af (.cons Z135.af .nil)))) Tryz.func299
theorem br (a0:ah):md a0=Z71.md a0:=by
 unfold md Z71.md
 simp only [Z131.br,Z130.br,Z136.md,Z135.br]
 cases Z42.md a0.aW<;>simp
end Z176
namespace Z177
set_option maxHeartbeats 1000000 in
set_option maxRecDepth 100000 in
open Go.RowKit in
theorem calls (a b:ByteArray)(w:World):Calls Tryz.prog 433 #[.string a,.string b] w fun e w'=>e=.returned (.int .i64 (Lib.compareBytes a.data.toList b.data.toList))∧w'=w:=by
 go_enter Tryz.func433,Tryz.ntmps433
 go_wp2
 rw [run_callFunc_extern Tryz.func505 (by kernel_rfl) (by kernel_rfl) (by kernel_rfl) (e:=Extern.BytealgCompare.compare) (by kernel_rfl),Lib.run_compareString]
 simp only [Result.andThen]
 rw [Oper.upon_value]
 go_wp2
 go_ret
 exact ⟨rfl,rfl⟩
def md (a0 a1:ByteArray):Int:=Lib.compareBytes a0.data.toList a1.data.toList
def R (x:ByteArray×ByteArray):Option Int:=some (md x.1 x.2)
theorem aj {a0 a1:ByteArray}(_:True):R (a0,a1)=some (md a0 a1):=rfl
def sem:List L→Option (List L)
 | [y0,y1]=>(R (y0.toStr,y1.toStr)).map RT.enc
 | _=>none
def aV:fW:=⟨[.rd .str,.rd .str],.one (.rd (.int .i64)),sem⟩
theorem af:cw 433 aV:=by
 refine uG ⟨Tryz.f433,Tryz.func433,by kernel_rfl,by kernel_rfl⟩ rfl (fun _=>rfl) fun ls r w vs Z hs hf=>?_
 simp only [aV] at hs
 unfold sem at hs
 split at hs
 ·rename_i a b
  cases hf with
  | cons h1 ht=>
   cases ht with
   | cons h2 ht=>
    cases ht
    have e1:_=Value.string a.toStr:=h1
    have e2:_=Value.string b.toStr:=h2
    subst e1;subst e2
    refine (calls a.toStr b.toStr w).mono fun e w' ⟨h3,h4⟩=>⟨_,h3,h4,?_⟩
    injection hs with hs
    subst hs
    rfl
 ·cases hs
end Z177
namespace Z178
def F (x0:ByteArray)(x1:ByteArray):aG:=(call (Z177.R (x0,x1)) fun v1=>ret (v1:Int))
def md (a0:ByteArray)(a1:ByteArray):Int:=((Z177.md a0 a1):Int)
def gd (a0:ByteArray)(a1:ByteArray):Prop:=True
def R:=RR (p2 gd) (u2 md)
theorem aj {a0 a1}(h:gd a0 a1):R (a0,a1)=some (md a0 a1):=aM (a:=(a0,a1)) h
def aV:=CN [pS,pS] oI RT.dec R
theorem bq (a0)(a1)(hg:gd a0 a1):F a0 a1=ret (md a0 a1):=by
 unfold F md
 try simp only [SS]
 refine ct (Z177.aj trivial) ?_
 all_goals exact fz
theorem af:cw 340 aV:=W2 8 F mix aD bq (.cons Z177.af .nil) Tryz.func340
end Z178
namespace Z179
def F (x0:ByteArray)(x1:ByteArray):aG:=(call (Z178.R (x0,x1)) fun v1=>ret (v1:Int))
def md (a0:ByteArray)(a1:ByteArray):Int:=((Z178.md a0 a1):Int)
def gd (a0:ByteArray)(a1:ByteArray):Prop:=True
def R:=RR (p2 gd) (u2 md)
theorem aj {a0 a1}(h:gd a0 a1):R (a0,a1)=some (md a0 a1):=aM (a:=(a0,a1)) h
def aV:=CN [pS,pS] oI RT.dec R
theorem bq (a0)(a1)(hg:gd a0 a1):F a0 a1=ret (md a0 a1):=by
 unfold F md
 try simp only [SS]
 refine ct (Z178.aj trivial) ?_
 all_goals exact fz
theorem af:cw 204 aV:=W2 8 F mix aD bq (.cons Z178.af .nil) Tryz.func204
theorem cmp:∀a b:List UInt8,Lib.compareBytes a b=(cond (Op.bytesLess a b) ((-1):Int) (cond (!((Op.bytesLess a b)||(a==b))) (1:Int) (0:Int)))
 | [],[]=>by simp [Lib.compareBytes,Op.bytesLess]
 | [],_::_=>by simp [Lib.compareBytes,Op.bytesLess]
 | _::_,[]=>by simp [Lib.compareBytes,Op.bytesLess]
 | a::xs,b::ys=>by
  simp only [Lib.compareBytes,Op.bytesLess]
  rw [cmp xs ys]
  by_cases h1:a<b
  ·simp [h1]
  ·by_cases h2:b<a
   ·have hne:a≠b:=fun e=>by subst e;exact h1 h2
    have hb:(a==b)=false:=beq_eq_false_iff_ne.2 hne
    simp [h1,h2,hb,hne]
   ·have he:a=b:=by
     have:=UInt8.lt_or_eq_of_le (UInt8.not_lt.1 h1)
     rcases this with h | h
     ·exact (h2 h).elim
     ·exact h.symm
    subst he
    simp [h1]
theorem br (a0:ByteArray)(a1:ByteArray):md a0 a1=Z72.md a0 a1:=by
 unfold md Z72.md Z178.md Z177.md
 rw [cmp,ByteArray.toList_eq,ByteArray.toList_eq]
end Z179
namespace Z180
inductive Pt where
 | p0 (a:List (List L)) (b:List (List L)) (c:Int) (d:Int)
def pid:Pt→Nat
 | .p0 ..=>2
def bY:Pt→List V
 | .p0 a b c d=>[.sl none 61 a,.sl none 61 b,.int .i64 c,.int .i64 d]
def bZ:Pt→List aU
 | .p0 a b c d=>[]
def step (J:Pt→aG):Pt→aG
 | .p0 a b c d=>(cond (decide (d<c)) (m2 d (b.length:Int) (call (Z176.R (aS.at b (toNat d))) fun v1=>(cond (!v1) (ret (false:Bool)) (cond (decide (d>0)) (bX (decide ((0:Int)≤(i64.wrap (d - 1)))) (bX (decide ((i64.wrap (d - 1))<(a.length:Int))) (call (Z179.R ((aS.at b (toNat d)).aW,(aS.at a (toNat (i64.wrap (d - 1)))).aW)) fun v2=>(cond (decide (v2≤0)) (ret (false:Bool)) (J (.p0 a b c (i64.wrap (d+1)))))))) (J (.p0 a b c (i64.wrap (d+1)))))))) (ret ((decide ((a.length:Int)≤12)):Bool)))
def start (J:Pt→aG)(x0:List (List L)):aG:=J (.p0 x0 x0 (x0.length:Int) 0)
def live:Nat→Live:=fun i=>match i with | 2=>[(0,none),(5,none),(6,none),(7,none)] | _=>[]
def md (a0:List ah):Bool:=(dS (S:=Unit) (β:=Bool) (fun (i1:Nat) (y1:ah) (s3:Unit)=>(cond (!(Z176.md y1)) (.inr (false:Bool)) (cond (decide ((i1:Int)>0)) (cond (decide ((Z179.md (y1.aW) ((a0.getD (toNat (i64.wrap ((i1:Int) - 1))) ah.zero).aW))≤0)) (.inr (false:Bool)) (.inl ())) (.inl ())))) (fun (s3:Unit)=>((decide ((a0.length:Int)≤12)):Bool)) 0 a0 ())
def gd (a0:List ah):Prop:=(bK (2^21) (fun y:ah=>ah.Sm (2^21) y) a0)
def R:=RR gd md
theorem aj {a0}(h:gd a0):R (a0.map ah.row)=some (md a0):=aM (a:=a0) h
def aV:=CN [pL 61] oB RT.dec R
theorem bq (a0)(hg:gd a0):∃n,start (iter step n) (a0.map ah.row)=ret (md a0):=by
 unfold gd at hg
 have H0:=hg
 unfold start md
 try simp only [SS]
 have Bh2:a0.length≤maxLen:=(by
   have:=(H0).1
   try simp only [maxLen] at *
   omega)
 refine ex_eq (out:=ret) (cX (z:=ah.zero)) ?_
 refine dN (p:=Pt.p0 (a0.map ah.row) (a0.map ah.row) (a0.length:Int) 0) fz ?_
 refine ck (pt:=fun (i1:Nat) (s3:Unit)=>Pt.p0 (a0.map ah.row) (a0.map ah.row) (a0.length:Int) (i1:Int)) (s:=(():Unit)) (out:=ret) (fun _ _=>True) (fun J i1 s3 h2 hih2=>?_) (fun s3 hih2=>?_) trivial
 ·simp only [step,SS]
  have bb_:=Bh2
  simp only [maxLen] at bb_
  have:=(H0).1
  refine bt.yes (by apply decide_eq_true;omega) ?_
  refine bt.yes aH ?_
  refine bt.yes (aL h2) ?_
  refine cr (Z176.aj (bK.getD (z:=ah.zero) H0 h2)) ?_
  refine bt.bif (fun _=>bt.inr rfl) (fun c4=>?_)
  have dc4:=c4
  try simp only [DC] at dc4
  refine bt.bif (fun c5=>?_) (fun c5=>?_)
  ·have dc5:=c5
   try simp only [DC] at dc5
   refine bt.yes dt ?_
   refine bt.yes (have:=(H0).1;dt) ?_
   refine cr (Z179.aj trivial) ?_
   refine bt.bif (fun _=>bt.inr rfl) (fun c6=>?_)
   refine bt.inl trivial ?_
   rw [aE h2 Bh2]
   all_goals exact fz
  ·refine bt.inl trivial ?_
   rw [aE h2 Bh2]
   all_goals exact fz
 ·simp only [step,SS]
  have:=(H0).1
  refine dx (by apply decide_eq_false;omega) ?_
  refine ⟨0,?_⟩
  all_goals exact fz
theorem af:cw 565 aV:=L1 35 pid bY bZ live step start mix aD bq (.cons Z176.af (.cons Z179.af .nil)) Tryz.func565
theorem br (a0:List ah):md a0=Z73.md a0:=by
 unfold md Z73.md
 refine kS (fun i x _ s=>?_) (fun s=>rfl)
 simp only [Z176.br,Z179.br,Z72.swap]
end Z180
namespace Z181
inductive Pt where
 | p0 (a:List (List L)) (b:Int) (c:Int) (d:List (List L))
def pid:Pt→Nat
 | .p0 ..=>3
def bY:Pt→List V
 | .p0 a b c d=>[.own 0,.sl none 5 a,.int .i64 b,.int .i64 c]
def bZ:Pt→List aU
 | .p0 a b c d=>[.row 3 d]
def step (J:Pt→aG):Pt→aG
 | .p0 a b c d=>(cond (decide (c<b)) (m2 c (a.length:Int) (bX (eU (((d.length:Int)+1)*8)) (J (.p0 a b (i64.wrap (c+1)) (d++[[L.int (i64.wrap (jv a (toNat c)))]]))))) (ret (d:List (List L))))
def start (J:Pt→aG)(x0:List (List L)):aG:=J (.p0 x0 (x0.length:Int) 0 [[L.int (x0.length:Int)]])
def live:Nat→Live:=fun i=>match i with | 3=>[(3,none),(9,none),(10,none),(11,none)] | _=>[]
def md (a0:List Int):List Int:=([(a0.length:Int)]++a0.map (fun (y1:Int)=>(i64.wrap y1)))
def gd (a0:List Int):Prop:=(bK (2^38) (fun y:Int=>True) a0)
def R:=RR gd md
theorem aj {a0}(h:gd a0):R (a0.map aZ)=some ((md a0).map aZ):=aM (a:=a0) h
def aV:=CN [pL 5] (oL 3) RT.dec R
theorem bq (a0)(hg:gd a0):∃n,start (iter step n) (a0.map aZ)=ret ((md a0).map aZ):=by
 unfold gd at hg
 have H0:=hg
 unfold start md
 try simp only [SS]
 have Bh2:a0.length≤maxLen:=(by
   have:=(H0).1
   try simp only [maxLen] at *
   omega)
 refine ex_eq (out:=(fun b:List Int=>ret ((b.map aZ):List (List L)))) (lR (g:=fun (y1:Int)=>(i64.wrap y1)) (z:=0) (t:=fun (s3:List Int)=>s3) (s:=[(a0.length:Int)])) ?_
 refine dN (p:=Pt.p0 (a0.map aZ) (a0.length:Int) 0 ([(a0.length:Int)].map aZ)) fz ?_
 refine ck (pt:=fun (i1:Nat) (s3:List Int)=>Pt.p0 (a0.map aZ) (a0.length:Int) (i1:Int) (s3.map aZ)) (s:=([(a0.length:Int)]:List Int)) (out:=(fun b:List Int=>ret ((b.map aZ):List (List L)))) (fun (i1:Nat) (s3:List Int)=>s3.length≤[(a0.length:Int)].length+1*i1) (fun J i1 s3 h2 hih2=>?_) (fun s3 hih2=>?_) (by simp)
 ·simp only [step,SS]
  have gr_:=hih2
  try simp only [LN] at gr_
  have:=(H0).1
  have bb_:=Bh2
  simp only [maxLen] at bb_
  have:=(H0).1
  refine bt.yes (by apply decide_eq_true;omega) ?_
  refine bt.yes aH ?_
  refine bt.yes (aL h2) ?_
  refine bt.yes lm ?_
  refine bt.inl (by
    have g_:=hih2
    try simp only [LN] at g_ ⊢
    first | omega | (simp;done) | (simp;omega)) ?_
  rw [aE h2 Bh2]
  all_goals exact fz
 ·simp only [step,SS]
  have gr_:=hih2
  try simp only [LN] at gr_
  have:=(H0).1
  have:=(H0).1
  refine dx (by apply decide_eq_false;omega) ?_
  refine ⟨0,?_⟩
  all_goals exact fz
theorem af:cw 602 aV:=L1 22 pid bY bZ live step start mix aD bq .nil Tryz.func602
theorem len (a0:List Int):(md a0).length=1+a0.length:=by simp [md];omega
theorem br (a0:List Int):md a0=Z74.md a0:=by
 unfold md Z74.md
 first
 | (simp only [id];done)
 | (simp only [id];rfl)
 | rfl
end Z181
namespace Z182
def F (x0:ByteArray):aG:=(bX (decide ((x0.size:Int)≤140737488355328)) (call (Z181.R (iF x0)) fun v1=>ret (v1:List (List L))))
def md (a0:ByteArray):List Int:=(Z181.md (iU a0))
def gd (a0:ByteArray):Prop:=(a0.size≤(2^21))
def R:=RR gd md
theorem aj {a0}(h:gd a0):R a0=some ((md a0).map aZ):=aM (a:=a0) h
def aV:=CN [pS] (oL 3) RT.dec R
theorem bq (a0)(hg:gd a0):F a0=ret ((md a0).map aZ):=by
 unfold gd at hg
 have H0:=hg
 unfold F md
 try simp only [SS]
 refine ak (have:=H0;dt) ?_
 refine bh ((Z181.md (iU a0)).map aZ) (rq (Z181.aj (a0:=(iU a0)) ⟨(have:=gJ a0;have:=H0;om),fun _ _=>trivial⟩)) ?_
 try simp only [SS]
 all_goals exact fz
theorem af:cw 592 aV:=W1 6 F mix aD bq (.cons Z181.af .nil) Tryz.func592
theorem len (a0:ByteArray):(md a0).length=1+a0.size:=by simp [md,Z181.len,gJ]
theorem br (a0:ByteArray):md a0=Z75.md a0:=by
 unfold md Z75.md
 first
 | (simp only [Z181.br];done)
 | (simp only [Z181.br];rfl)
 | rfl
end Z182
namespace Z183
inductive Pt where
 | p0 (a:List (List L)) (b:Int) (c:Int) (d:List (List L))
def pid:Pt→Nat
 | .p0 ..=>3
def bY:Pt→List V
 | .p0 a b c d=>[.own 0,.sl none 9 a,.int .i64 b,.int .i64 c]
def bZ:Pt→List aU
 | .p0 a b c d=>[.row 3 d]
def step (J:Pt→aG):Pt→aG
 | .p0 a b c d=>(cond (decide (c<b)) (m2 c (a.length:Int) (call (Z182.R (pZ a (toNat c))) fun v1=>(bX (eU (((d.length:Int)+(v1.length:Int))*8)) (J (.p0 a b (i64.wrap (c+1)) (d++v1)))))) (ret (d:List (List L))))
def start (J:Pt→aG)(x0:aS):aG:=(call (Z182.R x0.aW) fun v1=>(bX (eU (((v1.length:Int)+3)*8)) (J (.p0 x0.bC (x0.bC.length:Int) 0 (v1++[[L.int x0.bD],[L.int x0.bS],[L.int (x0.bC.length:Int)]])))))
def live:Nat→Live:=fun i=>match i with | 3=>[(3,none),(19,none),(20,none),(21,none)] | _=>[]
def md (a0:ah):List Int:=(((Z182.md a0.aW)++[a0.bD,a0.bS,(a0.bC.length:Int)])++a0.bC.flatMap (fun (y1:ByteArray)=>(Z182.md y1)))
def gd (a0:ah):Prop:=(ah.Sm (2^21) a0)
def R:=RR gd md
theorem aj {a0}(h:gd a0):R (ah.r a0)=some ((md a0).map aZ):=aM (a:=a0) h
def aV:=CN [.agg ru] (oL 3) RT.dec R
theorem bq (a0)(hg:gd a0):∃n,start (iter step n) (ah.r a0)=ret ((md a0).map aZ):=by
 unfold gd at hg
 have H0:=hg
 unfold start md
 try simp only [SS]
 refine cx (Z182.aj H0.1) ?_
 try simp only [SS]
 refine dI (have:=Z182.len a0.aW;have:=H0.1;lm) ?_
 have Bh2:a0.bC.length≤maxLen:=(by
   have:=(H0.2).1
   try simp only [maxLen] at *
   omega)
 refine ex_eq (out:=(fun b:List Int=>ret ((b.map aZ):List (List L)))) (qK (g:=fun (y1:ByteArray)=>(Z182.md y1)) (z:=⟨#[]⟩) (t:=fun (s3:List Int)=>s3) (s:=((Z182.md a0.aW)++[a0.bD,a0.bS,(a0.bC.length:Int)]))) ?_
 refine dN (p:=Pt.p0 (a0.bC.map cA) (a0.bC.length:Int) 0 (((Z182.md a0.aW)++[a0.bD,a0.bS,(a0.bC.length:Int)]).map aZ)) fz ?_
 refine ck (pt:=fun (i1:Nat) (s3:List Int)=>Pt.p0 (a0.bC.map cA) (a0.bC.length:Int) (i1:Int) (s3.map aZ)) (s:=(((Z182.md a0.aW)++[a0.bD,a0.bS,(a0.bC.length:Int)]):List Int)) (out:=(fun b:List Int=>ret ((b.map aZ):List (List L)))) (fun (i1:Nat) (s3:List Int)=>s3.length≤4+a0.aW.size+i1*(2^21+1)) (fun J i1 s3 h2 hih2=>?_) (fun s3 hih2=>?_) (by
   have:=(H0.2).1
   have:=Z182.len a0.aW
   have:=H0.1
   try simp only [LN]
   try simp
   try omega)
 ·simp only [step,SS]
  have gr_:=hih2
  try simp only [LN] at gr_
  have:=H0.1
  have bb_:=Bh2
  simp only [maxLen] at bb_
  have:=(H0.2).1
  refine bt.yes (by apply decide_eq_true;omega) ?_
  refine bt.yes aH ?_
  refine bt.yes (aL h2) ?_
  refine cr (Z182.aj (bK.getD (z:=⟨#[]⟩) H0.2 h2)) ?_
  try simp only [SS]
  refine bt.yes (have:=Z182.len (a0.bC.getD i1 ⟨#[]⟩);have:=(bK.getD (z:=⟨#[]⟩) H0.2 h2);lm) ?_
  refine bt.inl (by
    have:=Z182.len (a0.bC.getD i1 ⟨#[]⟩)
    have:=(bK.getD (z:=⟨#[]⟩) H0.2 h2)
    have g_:=hih2
    try simp only [LN] at g_ ⊢
    first | omega | (simp;done) | (simp;omega)) ?_
  rw [aE h2 Bh2]
  all_goals exact fz
 ·simp only [step,SS]
  have gr_:=hih2
  try simp only [LN] at gr_
  have:=H0.1
  have:=(H0.2).1
  refine dx (by apply decide_eq_false;omega) ?_
  refine ⟨0,?_⟩
  all_goals exact fz
theorem af:cw 577 aV:=L1 31 pid bY bZ live step start mix aD bq (.cons Z182.af .nil) Tryz.func577
theorem gh {a0:ah}(hg:gd a0):bK (2^43 - 1) (fun y:Int=>True) (md a0):=by
 unfold gd at hg
 refine ⟨?_,fun _ _=>trivial⟩
 unfold md
 have h1:=lK (xs:=a0.bC) (g:=fun y=>Z182.md y) (n:=2^21+1) (fun x hx=>by rw [Z182.len];have:=hg.2.2 x hx;omega)
 have h2:=hg.1
 have h3:=hg.2.1
 have h4:=Z182.len a0.aW
 simp only [List.length_append,List.length_cons,List.length_nil]
 omega
theorem br (a0:ah):md a0=Z76.md a0:=by
 unfold md Z76.md
 first
 | (simp only [Z182.br];done)
 | (simp only [Z182.br];rfl)
 | rfl
end Z183
namespace Z184
def F (x0:aS):aG:=(call (Z183.R x0) fun v1=>(bX (eU (((1:Int)+(v1.length:Int))*8)) (call (Z147.R ([[L.int 227]]++v1)) fun v2=>ret (v2:Int))))
def md (a0:ah):Int:=((Z147.md ([227]++(Z183.md a0))):Int)
def gd (a0:ah):Prop:=(ah.Sm (2^21) a0)
def R:=RR gd md
theorem aj {a0}(h:gd a0):R (ah.r a0)=some (md a0):=aM (a:=a0) h
def aV:=CN [.agg ru] oI RT.dec R
theorem bq (a0)(hg:gd a0):F (ah.r a0)=ret (md a0):=by
 unfold gd at hg
 have H0:=hg
 unfold F md
 try simp only [SS]
 refine ct (Z183.aj H0) ?_
 try simp only [SS]
 refine ak (have:=((Z183.gh (a0:=a0) H0)).1;lm) ?_
 refine bh (Z147.md ([227]++(Z183.md a0))) (rq (Z147.aj (a0:=([227]++(Z183.md a0))) ⟨(have:=((Z183.gh (a0:=a0) H0)).1;om),fun _ _=>trivial⟩)) ?_
 all_goals exact fz
theorem af:cw 541 aV:=W1 8 F mix aD bq (.cons Z183.af (.cons Z147.af .nil)) Tryz.func541
theorem br (a0:ah):md a0=Z77.md a0:=by
 unfold md Z77.md
 first
 | (simp only [Z183.br,Z147.br];done)
 | (simp only [Z183.br,Z147.br];rfl)
 | rfl
end Z184
namespace Z185
inductive Pt where
 | p0 (a:List (List L)) (b:Int) (c:Int) (d:List (List L))
def pid:Pt→Nat
 | .p0 ..=>3
def bY:Pt→List V
 | .p0 a b c d=>[.own 0,.sl none 61 a,.int .i64 b,.int .i64 c]
def bZ:Pt→List aU
 | .p0 a b c d=>[.row 3 d]
def step (J:Pt→aG):Pt→aG
 | .p0 a b c d=>(cond (decide (c<b)) (m2 c (a.length:Int) (call (Z184.R (aS.at a (toNat c))) fun v1=>(bX (eU (((d.length:Int)+1)*8)) (J (.p0 a b (i64.wrap (c+1)) (d++[[L.int v1]])))))) (ret (d:List (List L))))
def start (J:Pt→aG)(x0:List (List L)):aG:=J (.p0 x0 (x0.length:Int) 0 [])
def live:Nat→Live:=fun i=>match i with | 3=>[(3,some 3),(7,none),(8,none),(9,none)] | _=>[]
def md (a0:List ah):List Int:=(a0.map (fun (y1:ah)=>(Z184.md y1)))
def gd (a0:List ah):Prop:=(bK (2^21) (fun y:ah=>ah.Sm (2^21) y) a0)
def R:=RR gd md
theorem aj {a0}(h:gd a0):R (a0.map ah.row)=some ((md a0).map aZ):=aM (a:=a0) h
def aV:=CN [pL 61] (oL 3) RT.dec R
theorem bq (a0)(hg:gd a0):∃n,start (iter step n) (a0.map ah.row)=ret ((md a0).map aZ):=by
 unfold gd at hg
 have H0:=hg
 unfold start md
 try simp only [SS]
 have Bh2:a0.length≤maxLen:=(by
   have:=(H0).1
   try simp only [maxLen] at *
   omega)
 refine ex_eq (out:=(fun b:List Int=>ret ((b.map aZ):List (List L)))) (mL (g:=fun (y1:ah)=>(Z184.md y1)) (z:=ah.zero) (t:=fun (s3:List Int)=>s3)) ?_
 refine dN (p:=Pt.p0 (a0.map ah.row) (a0.length:Int) 0 ([].map aZ)) fz ?_
 refine ck (pt:=fun (i1:Nat) (s3:List Int)=>Pt.p0 (a0.map ah.row) (a0.length:Int) (i1:Int) (s3.map aZ)) (s:=([]:List Int)) (out:=(fun b:List Int=>ret ((b.map aZ):List (List L)))) (fun (i1:Nat) (s3:List Int)=>s3.length≤([]:List Int).length+1*i1) (fun J i1 s3 h2 hih2=>?_) (fun s3 hih2=>?_) (by simp)
 ·simp only [step,SS]
  have gr_:=hih2
  try simp only [LN] at gr_
  have bb_:=Bh2
  simp only [maxLen] at bb_
  have:=(H0).1
  refine bt.yes (by apply decide_eq_true;omega) ?_
  refine bt.yes aH ?_
  refine bt.yes (aL h2) ?_
  refine cr (Z184.aj (bK.getD (z:=ah.zero) H0 h2)) ?_
  refine bt.yes lm ?_
  refine bt.inl (by
    have g_:=hih2
    try simp only [LN] at g_ ⊢
    first | omega | (simp;done) | (simp;omega)) ?_
  rw [aE h2 Bh2]
  all_goals exact fz
 ·simp only [step,SS]
  have gr_:=hih2
  try simp only [LN] at gr_
  have:=(H0).1
  refine dx (by apply decide_eq_false;omega) ?_
  refine ⟨0,?_⟩
  all_goals exact fz
theorem af:cw 564 aV:=L1 20 pid bY bZ live step start mix aD bq (.cons Z184.af .nil) Tryz.func564
theorem len (a0:List ah):(md a0).length=a0.length:=by simp [md]
theorem br (a0:List ah):md a0=Z78.md a0:=by
 unfold md Z78.md
 first
 | (simp only [Z184.br];done)
 | (simp only [Z184.br];rfl)
 | rfl
end Z185
namespace Z186
def F (x0:List (List L)):aG:=(call (Z147.R x0) fun v1=>ret (v1:Int))
def md (a0:List Int):Int:=((Z147.md a0):Int)
def gd (a0:List Int):Prop:=(bK (2^42) (fun y:Int=>True) a0)
def R:=RR gd md
theorem aj {a0}(h:gd a0):R (a0.map aZ)=some (md a0):=aM (a:=a0) h
def aV:=CN [pL 3] oI RT.dec R
theorem bq (a0)(hg:gd a0):F (a0.map aZ)=ret (md a0):=by
 unfold gd at hg
 have H0:=hg
 unfold F md
 try simp only [SS]
 refine ct (Z147.aj (H0.mono (by decide) (fun x hx=>trivial))) ?_
 all_goals exact fz
theorem af:cw 578 aV:=W1 5 F mix aD bq (.cons Z147.af .nil) Tryz.func578
theorem br (a0:List Int):md a0=Z50.md a0:=by
 unfold md
 exact Z147.br a0
end Z186
namespace Z187
def F (x0:Int)(x1:Int):aG:=(call (Z186.R [[L.int 229],[L.int x0],[L.int x1]]) fun v1=>ret (v1:Int))
def md (a0:Int)(a1:Int):Int:=((Z186.md [229,a0,a1]):Int)
def gd (a0:Int)(a1:Int):Prop:=True
def R:=RR (p2 gd) (u2 md)
theorem aj {a0 a1}(h:gd a0 a1):R (a0,a1)=some (md a0 a1):=aM (a:=(a0,a1)) h
def aV:=CN [pI,pI] oI RT.dec R
theorem bq (a0)(a1)(hg:gd a0 a1):F a0 a1=ret (md a0 a1):=by
 unfold F md
 try simp only [SS]
 refine bh (Z186.md [229,a0,a1]) (rq (Z186.aj (a0:=[229,a0,a1]) ⟨(om),fun _ _=>trivial⟩)) ?_
 all_goals exact fz
theorem af:cw 576 aV:=W2 9 F mix aD bq (.cons Z186.af .nil) Tryz.func576
theorem br (a0:Int)(a1:Int):md a0 a1=Z79.md a0 a1:=by
 unfold md Z79.md
 first
 | (simp only [Z186.br];done)
 | (simp only [Z186.br];rfl)
 | rfl
end Z187
namespace Z188
inductive Pt where
 | p0 (a:List (List L)) (b:Int) (c:List (List L))
def pid:Pt→Nat
 | .p0 ..=>3
def bY:Pt→List V
 | .p0 a b c=>[.sl none 3 a,.own 0,.int .i64 b]
def bZ:Pt→List aU
 | .p0 a b c=>[.row 3 c]
def step (J:Pt→aG):Pt→aG
 | .p0 a b c=>(cond (decide (b<(a.length:Int))) (cond (decide ((i64.wrap (b+1))<(a.length:Int))) (m2 b (a.length:Int) (bX (decide ((0:Int)≤(i64.wrap (b+1)))) (bX (decide ((i64.wrap (b+1))<(a.length:Int))) (call (Z187.R ((jv a (toNat b)),(jv a (toNat (i64.wrap (b+1)))))) fun v1=>(bX (eU (((c.length:Int)+1)*8)) (J (.p0 a (i64.wrap (b+2)) (c++[[L.int v1]])))))))) (m2 b (a.length:Int) (bX (eU (((c.length:Int)+1)*8)) (J (.p0 a (i64.wrap (b+2)) (c++[[L.int (jv a (toNat b))]])))))) (ret (c:List (List L))))
def start (J:Pt→aG)(x0:List (List L)):aG:=J (.p0 x0 0 [])
def live:Nat→Live:=fun i=>match i with | 3=>[(0,none),(3,some 3),(4,none)] | _=>[]
def md (a0:List Int):List Int:=Z80.md a0
def gd (a0:List Int):Prop:=bK (2^38) (fun y:Int=>True) a0
def R:=RR gd md
theorem aj {a0}(h:gd a0):R (a0.map aZ)=some ((md a0).map aZ):=aM (a:=a0) h
def aV:=CN [pL 3] (oL 3) RT.dec R
theorem bq (a0)(hg:gd a0):∃n,start (iter step n) (a0.map aZ)=ret ((md a0).map aZ):=by
 obtain ⟨H1,_⟩:=hg
 have key:∀(k i:Nat) (c:List Int),i+k=a0.length→c.length≤i→∃n,iter step n (Pt.p0 (a0.map aZ) (i:Int) (c.map aZ))=ret ((c++Z80.up (a0.drop i)).map aZ:List (List L)):=by
  intro k
  induction k using Nat.strongRecOn with
  | _ k ih=>
  intro i c hi hc
  match k,hi,ih with
  | 0,hi,_=>
   refine ⟨1,?_⟩
   show step (iter step 0) (Pt.p0 _ _ _)=_
   simp only [step,List.length_map]
   refine cN (decide_eq_false (by omega)) ?_
   rw [List.drop_eq_nil_of_le (by omega)]
   simp only [Z80.up,List.append_nil]
  | 1,hi,ih=>
   obtain ⟨n,hn⟩:=ih 0 (by omega) (i+1) (c++[a0.getD i 0]) (by omega) (by simp;omega)
   have h2:∃n,iter step n (Pt.p0 (a0.map aZ) (i64.wrap ((i:Int)+2)) ((c++[a0.getD i 0]).map aZ))=ret ((c++[a0.getD i 0]).map aZ:List (List L)):=by
    refine ⟨1,?_⟩
    show step (iter step 0) (Pt.p0 _ _ _)=_
    simp only [step,List.length_map]
    refine cN (decide_eq_false ?_) rfl
    rw [Go.IntWalk.i64_in _ (by omega)];omega
   obtain ⟨n,hn⟩:=h2
   refine ⟨n+1,?_⟩
   show step (iter step n) (Pt.p0 _ _ _)=_
   simp only [step,List.length_map,cF,gQ]
   refine ak (decide_eq_true (by omega)) (cN (decide_eq_false ?_) (ak (decide_eq_true (by omega)) (ak (decide_eq_true (by omega)) (ak (iS (by omega)) ?_))))
   ·rw [Go.IntWalk.i64_in _ (by omega)];omega
   ·rw [List.map_append] at hn
    refine Eq.trans hn ?_
    rw [List.drop_eq_getElem_cons (by omega),List.drop_eq_nil_of_le (by omega),eJ (by omega:i<a0.length)]
    simp only [Z80.up,List.map_append]
  | k+2,hi,ih=>
   obtain ⟨n,hn⟩:=ih k (by omega) (i+2) (c++[Z79.md (a0.getD i 0) (a0.getD (i+1) 0)]) (by omega) (by simp;omega)
   refine ⟨n+1,?_⟩
   show step (iter step n) (Pt.p0 _ _ _)=_
   have w1:i64.wrap ((i:Int)+1)=((i+1:Nat):Int):=by rw [Go.IntWalk.i64_in _ (by omega)];omega
   have w2:i64.wrap ((i:Int)+2)=((i+2:Nat):Int):=by rw [Go.IntWalk.i64_in _ (by omega)];omega
   simp only [step,List.length_map,w1,w2,cF,gQ]
   refine ak (decide_eq_true (by omega)) (ak (decide_eq_true (by omega)) (ak (decide_eq_true (by omega)) (ak (decide_eq_true (by omega)) (ak (decide_eq_true (by omega)) (ak (decide_eq_true (by omega)) ?_)))))
   refine bh (Z79.md (a0.getD i 0) (a0.getD (i+1) 0)) (by have:=Z187.aj (a0:=a0.getD i 0) (a1:=a0.getD (i+1) 0) trivial;rw [Z187.br] at this;exact this) (ak (iS (by omega)) ?_)
   rw [List.map_append] at hn
   refine Eq.trans hn ?_
   rw [List.drop_eq_getElem_cons (by omega:i<a0.length),List.drop_eq_getElem_cons (by omega:i+1<a0.length),eJ (by omega:i<a0.length),eJ (by omega:i+1<a0.length)]
   simp only [Z80.up,List.append_assoc,List.cons_append,List.nil_append]
 have:=key a0.length 0 [] (by omega) (by simp)
 unfold start md Z80.md
 simpa using this
theorem af:cw 587 aV:=L1 38 pid bY bZ live step start mix aD bq (.cons Z187.af .nil) Tryz.func587
theorem br (a0:List Int):md a0=Z80.md a0:=by
 unfold md Z80.md
 first
 | (simp only [Z187.br];done)
 | (simp only [Z187.br];rfl)
 | rfl
end Z188
namespace Z189
inductive Pt where
 | p0 (a:List (List L))
 | p1 (a:List (List L))
def pid:Pt→Nat
 | .p0 ..=>3
 | .p1 ..=>3
def bY:Pt→List V
 | .p0 a=>[.sl none 3 a]
 | .p1 a=>[.own 0]
def bZ:Pt→List aU
 | .p0 a=>[]
 | .p1 a=>[.row 3 a]
def step (J:Pt→aG):Pt→aG
 | .p0 a=>(cond (decide ((a.length:Int)>1)) (call (Z188.R a) fun v1=>J (.p1 v1)) (bX (decide ((0:Int)<(a.length:Int))) (ret ((jv a 0):Int))))
 | .p1 a=>(cond (decide ((a.length:Int)>1)) (call (Z188.R a) fun v1=>J (.p1 v1)) (bX (decide ((0:Int)<(a.length:Int))) (ret ((jv a 0):Int))))
def start (J:Pt→aG)(x0:List (List L)):aG:=(cond ((x0.length:Int)==0) (call (Z186.R [[L.int 229]]) fun v1=>ret (v1:Int)) (J (.p0 x0)))
def live:Nat→Live:=fun i=>match i with | 3=>[(0,none)] | _=>[]
def md (a0:List Int):Int:=Z81.md a0
def gd (a0:List Int):Prop:=bK (2^38) (fun y:Int=>True) a0
def R:=RR gd md
theorem aj {a0}(h:gd a0):R (a0.map aZ)=some (md a0):=aM (a:=a0) h
def aV:=CN [pL 3] oI RT.dec R
theorem bq (a0)(hg:gd a0):∃n,start (iter step n) (a0.map aZ)=ret (md a0):=by
 have one:∀(l:List Int) (r:Int) (n:Nat),bK (2^38) (fun y:Int=>True) l→0<l.length→(if l.length>1 then iter step n (Pt.p1 ((Z80.up l).map aZ))=ret r else ret (l.getD 0 0:Int)=ret r)→step (iter step n) (Pt.p0 (l.map aZ))=ret r∧step (iter step n) (Pt.p1 (l.map aZ))=ret r:=by
  intro l r n hl hp h
  simp only [step,List.length_map,gQ]
  by_cases h1:l.length>1
  ·rw [if_pos h1] at h
   have hx:∀y:aG,(cond (decide ((l.length:Int)>1)) (call (Z188.R (l.map aZ)) (fun v1=>iter step n (Pt.p1 v1))) y)=ret r:=fun y=>
    ak (decide_eq_true (by omega)) (bh ((Z80.up l).map aZ) (Z188.aj hl) h)
   exact ⟨hx _,hx _⟩
  ·rw [if_neg h1] at h
   have hx:∀y:aG,(cond (decide ((l.length:Int)>1)) y (cond (decide ((0:Int)<(l.length:Int))) (ret (l.getD 0 0:Int)) none))=ret r:=fun y=>
    cN (decide_eq_false (by omega)) (ak (decide_eq_true (by omega)) h)
   exact ⟨hx _,hx _⟩
 have key:∀(k:Nat) (l:List Int),bK (2^38) (fun y:Int=>True) l→0<l.length→l.length≤k+1→∃n,step (iter step n) (Pt.p0 (l.map aZ))=ret (Z81.top k l)∧step (iter step n) (Pt.p1 (l.map aZ))=ret (Z81.top k l):=by
  intro k
  induction k with
  | zero=>
   intro l hl hp hk
   exact ⟨0,one l _ 0 hl hp (by rw [if_neg (by omega)];rfl)⟩
  | succ k ih=>
   intro l hl hp hk
   by_cases h1:l.length>1
   ·have hu:=Z80.jZ l
    have hl1:=hl.1
    obtain ⟨n,_,hn⟩:=ih (Z80.up l) ⟨by omega,fun _ _=>trivial⟩ (by omega) (by omega)
    refine ⟨n+1,one l _ (n+1) hl hp ?_⟩
    rw [if_pos h1]
    refine Eq.trans hn ?_
    unfold Z81.top
    rw [if_pos h1]
    cases k<;>rfl
   ·refine ⟨0,one l _ 0 hl hp ?_⟩
    rw [if_neg h1]
    unfold Z81.top
    rw [if_neg h1]
 unfold md Z81.md
 unfold start
 simp only [List.length_map]
 by_cases h0:a0.length=0
 ·have e:((a0.length:Int)==0)=true:=by simpa using List.length_eq_zero_iff.1 h0
  refine ⟨0,?_⟩
  rw [e]
  refine bh (Z50.md [229]) (by have:=Z186.aj (a0:=[229]) ⟨by decide,fun _ _=>trivial⟩;rw [Z186.br] at this;exact this) ?_
  rw [if_pos h0]
 ·have e:((a0.length:Int)==0)=false:=beq_eq_false_iff_ne.2 (by omega)
  obtain ⟨n,hn,_⟩:=key a0.length a0 hg (by omega) (by omega)
  refine ⟨n+1,?_⟩
  rw [e,if_neg h0]
  exact hn
theorem af:cw 579 aV:=L1 16 pid bY bZ live step start mix aD bq (.cons Z186.af (.cons Z188.af .nil)) Tryz.func579
theorem br (a0:List Int):md a0=Z81.md a0:=by
 unfold md Z81.md
 first
 | (simp only [Z186.br,Z188.br];done)
 | (simp only [Z186.br,Z188.br];rfl)
 | rfl
end Z189
namespace Z190
def F (x0:Int)(x1:Int):aG:=(call (Z186.R [[L.int 231],[L.int x0],[L.int x1]]) fun v1=>ret (v1:Int))
def md (a0:Int)(a1:Int):Int:=((Z186.md [231,a0,a1]):Int)
def gd (a0:Int)(a1:Int):Prop:=True
def R:=RR (p2 gd) (u2 md)
theorem aj {a0 a1}(h:gd a0 a1):R (a0,a1)=some (md a0 a1):=aM (a:=(a0,a1)) h
def aV:=CN [pI,pI] oI RT.dec R
theorem bq (a0)(a1)(hg:gd a0 a1):F a0 a1=ret (md a0 a1):=by
 unfold F md
 try simp only [SS]
 refine bh (Z186.md [231,a0,a1]) (rq (Z186.aj (a0:=[231,a0,a1]) ⟨(om),fun _ _=>trivial⟩)) ?_
 all_goals exact fz
theorem af:cw 542 aV:=W2 9 F mix aD bq (.cons Z186.af .nil) Tryz.func542
theorem br (a0:Int)(a1:Int):md a0 a1=Z82.md a0 a1:=by
 unfold md Z82.md
 first
 | (simp only [Z186.br];done)
 | (simp only [Z186.br];rfl)
 | rfl
end Z190
namespace Z191
def F (x0:List (List L)):aG:=(call (Z185.R x0) fun v1=>(call (Z189.R v1) fun v2=>(call (Z190.R ((x0.length:Int),v2)) fun v3=>ret (v3:Int))))
def md (a0:List ah):Int:=((Z190.md (a0.length:Int) (Z189.md (Z185.md a0))):Int)
def gd (a0:List ah):Prop:=(bK (2^21) (fun y:ah=>ah.Sm (2^21) y) a0)
def R:=RR gd md
theorem aj {a0}(h:gd a0):R (a0.map ah.row)=some (md a0):=aM (a:=a0) h
def aV:=CN [pL 61] oI RT.dec R
theorem bq (a0)(hg:gd a0):F (a0.map ah.row)=ret (md a0):=by
 unfold gd at hg
 have H0:=hg
 unfold F md
 try simp only [SS]
 refine ct (Z185.aj H0) ?_
 try simp only [SS]
 refine ct (Z189.aj ⟨(have:=Z185.len a0;have:=(H0).1;om),fun _ _=>trivial⟩) ?_
 refine ct (Z190.aj trivial) ?_
 all_goals exact fz
theorem af:cw 543 aV:=W1 9 F mix aD bq (.cons Z185.af (.cons Z189.af (.cons Z190.af .nil))) Tryz.func543
theorem br (a0:List ah):md a0=Z83.md a0:=by
 unfold md Z83.md
 first
 | (simp only [Z185.br,Z189.br,Z190.br];done)
 | (simp only [Z185.br,Z189.br,Z190.br];rfl)
 | rfl
end Z191
namespace Z192
def F (x0:Int)(x1:List (List L)):aG:=(call (Z180.R x1) fun v1=>(cond v1 (call (Z191.R x1) fun v2=>ret ((v2==x0):Bool)) (ret (false:Bool))))
def md (a0:Int)(a1:List ah):Bool:=(cond (Z180.md a1) (((Z191.md a1)==a0):Bool) (false:Bool))
def gd (a0:Int)(a1:List ah):Prop:=(bK (2^21) (fun y:ah=>ah.Sm (2^21) y) a1)
def R:=RR (p2 gd) (u2 md)
theorem aj {a0 a1}(h:gd a0 a1):R (a0,(a1.map ah.row))=some (md a0 a1):=aM (a:=(a0,a1)) h
def aV:=CN [pI,pL 61] oB RT.dec R
theorem bq (a0)(a1)(hg:gd a0 a1):F a0 (a1.map ah.row)=ret (md a0 a1):=by
 unfold gd at hg
 have H1:=hg
 unfold F md
 try simp only [SS]
 refine ct (Z180.aj H1) ?_
 refine av ret (fun c1=>?_) (fun _=>rfl)
 refine ct (Z191.aj H1) ?_
 all_goals exact fz
theorem af:cw 560 aV:=W2 13 F mix aD bq (.cons Z180.af (.cons Z191.af .nil)) Tryz.func560
theorem br (a0:Int)(a1:List ah):md a0 a1=Z84.md a0 a1:=by
 unfold md Z84.md
 first
 | (simp only [Z180.br,Z191.br];done)
 | (simp only [Z180.br,Z191.br];rfl)
 | rfl
end Z192
namespace Z193
def F (x0:dH):aG:=(call (Z174.R x0.aQ) fun v1=>(cond (!v1) (ret (false:Bool)) (call (Z175.R x0.aQ) fun v2=>(cond (v2.cg==(x0.bH.length:Int)) (call (Z192.R (v2.cS,x0.bH)) fun v3=>ret (v3:Bool)) (ret (false:Bool))))))
def md (a0:aI):Bool:=(cond (!(Z174.md a0.aQ)) (false:Bool) (cond ((Z175.md a0.aQ).cg==(a0.bH.length:Int)) ((Z192.md ((Z175.md a0.aQ).cS) a0.bH):Bool) (false:Bool)))
def gd (a0:aI):Prop:=(aI.Sm (2^21) a0)
def R:=RR gd md
theorem aj {a0}(h:gd a0):R (aI.r a0)=some (md a0):=aM (a:=a0) h
def aV:=CN [.agg sH] oB RT.dec R
theorem bq (a0)(hg:gd a0):F (aI.r a0)=ret (md a0):=by
 unfold gd at hg
 have H0:=hg
 unfold F md
 try simp only [SS]
 refine ct (Z174.aj H0.1) ?_
 refine av ret (fun _=>rfl) (fun c1=>?_)
 have dc1:=c1
 try simp only [DC] at dc1
 try have tc1:=Z174.tr (by simpa using c1)
 refine ct (Z175.aj ⟨H0.1,(by
   have:=(H0.1).1
   first | assumption | exact om)⟩) ?_
 try simp only [SS]
 refine av ret (fun c2=>?_) (fun _=>rfl)
 refine ct (Z192.aj H0.2) ?_
 all_goals exact fz
theorem af:cw 510 aV:=W1 24 F mix aD bq (.cons Z174.af (.cons Z175.af (.cons Z192.af .nil))) Tryz.func510
theorem tr {a0:aI}(h:md a0=true):1≤a0.aQ.length:=by
 unfold md at h
 cases hc:Z174.md a0.aQ
 ·rw [hc] at h;cases h
 ·exact (Z174.tr hc).1
theorem br (a0:aI):md a0=Z85.md a0:=by
 unfold md Z85.md
 rw [Z174.br,Z192.br]
 unfold Z175.md Z70.md
 cases h:Z69.md a0.aQ
 ·rfl
 ·rfl
end Z193
namespace Z194
def F (x0:dH):aG:=(call (Z193.R x0) fun v1=>(cond (!v1) (ret ((-1):Int)) (call (Z175.R x0.aQ) fun v2=>ret (v2.bA:Int))))
def md (a0:aI):Int:=(cond (!(Z193.md a0)) ((-1):Int) ((Z175.md a0.aQ).bA:Int))
def gd (a0:aI):Prop:=(aI.Sm (2^21) a0)
def R:=RR gd md
theorem aj {a0}(h:gd a0):R (aI.r a0)=some (md a0):=aM (a:=a0) h
def aV:=CN [.agg sH] oI RT.dec R
theorem bq (a0)(hg:gd a0):F (aI.r a0)=ret (md a0):=by
 unfold gd at hg
 have H0:=hg
 unfold F md
 try simp only [SS]
 refine ct (Z193.aj H0) ?_
 refine av ret (fun _=>rfl) (fun c1=>?_)
 have dc1:=c1
 try simp only [DC] at dc1
 try have tc1:=Z193.tr (by simpa using c1)
 refine ct (Z175.aj ⟨H0.1,(by
   have:=(H0.1).1
   first | assumption | exact om)⟩) ?_
 try simp only [SS]
 all_goals exact fz
theorem af:cw 509 aV:=W1 10 F mix aD bq (.cons Z193.af (.cons Z175.af .nil)) Tryz.func509
theorem br (a0:aI):md a0=Z86.md a0:=by
 unfold md Z86.md
 rw [Z193.br]
 cases h:Z85.md a0
 ·rfl
 ·have h2:Z69.md a0.aQ=true:=by
   unfold Z85.md Z70.md at h
   cases hc:Z69.md a0.aQ
   ·rw [hc] at h;cases h
   ·rfl
  unfold Z175.md Z70.md
  rw [h2]
  rfl
end Z194
namespace Z195
def F (x0:dH)(x1:List L):aG:=(call (Z194.R x0) fun v1=>ret ((v1==(gk x1)):Bool))
def pats:List gq:=[.agg [.sl 123,.sl 61],.ptr [.int .i64]]
def res:RP:=.one (.rd (.bool))
def md (a0:aI)(a1:Int):Bool:=(((Z194.md a0)==a1):Bool)
def gd (a0:aI)(a1:Int):Prop:=(aI.Sm (2^21) a0)
def acc (ls:List L):dH×Int:=((dH.dec ls),(gk (cK 1 (aA 2 ls))))
def R:(dH×Int)→Option Bool:=RR (p2 gd) (u2 md)
theorem aj {a0 a1}(h:gd a0 a1):R ((aI.r a0),a1)=some (md a0 a1):=aM (a:=(a0,a1)) h
def aV:fW:=CN pats res acc R
theorem bq (a0:aI)(a1:Int)(p1:List L)(e1:a1=(gk p1))(hg:gd a0 a1):F (aI.r a0) p1=ret ((md a0 a1):Bool):=by
 unfold gd at hg
 have H0:=hg
 unfold F md
 try simp only [SS,←e1]
 refine ct (Z194.aj H0) ?_
 all_goals exact fz
theorem oJ (ls:List L)(a:aI×Int)(e:acc ls=Im.im a)(hg:(p2 gd) a):∃n:Nat,F (dH.dec ls) (cK 1 (aA 2 ls))=ret (Im.im ((u2 md) a)):=by
 have e0:(aI.r a.1)=(dH.dec ls):=(congrArg (fun x=>x.1) e.symm)
 have hn:=bq a.1 a.2 (cK 1 (aA 2 ls)) (congrArg (fun x=>x.2) e.symm) hg
 refine ⟨0,?_⟩
 rw [←e0]
 exact hn
theorem af:cw 508 aV:=VP (live:=fun _=>[]) (nt:=8) (accr:=fun ls=>((dH.dec ls),(cK 1 (aA 2 ls)))) (run:=fun _ x=>F x.1 x.2) mix aD (.cons Z194.af .nil) Tryz.func508 (by kernel_rfl) (fun _ _=>by kernel_rfl) (fun ls a _ e hg=>oJ ls a e hg)
end Z195
namespace Z196
inductive Pt where
 | p0 (a:List (List L)) (b:List L) (c:Int) (d:Int)
def pid:Pt→Nat
 | .p0 ..=>2
def bY:Pt→List V
 | .p0 a b c d=>[.sl none 293 a,.fn 508 [.dD none [.int .i64] b 0],.int .i64 c,.int .i64 d]
def bZ:Pt→List aU
 | .p0 a b c d=>[]
def step (J:Pt→aG):Pt→aG
 | .p0 a b c d=>(cond (decide (d<c)) (m2 d (a.length:Int) (call (Z195.R ((dH.at a (toNat d)),(gk b))) fun v1=>(cond v1 (ret (d:Int)) (J (.p0 a b c (i64.wrap (d+1))))))) (ret ((-1):Int)))
def start (J:Pt→aG)(x0:List (List L))(x1:List L):aG:=J (.p0 x0 x1 (x0.length:Int) 0)
def live:Nat→Live:=fun i=>match i with | 2=>[(0,none),(1,none),(7,none),(8,none)] | _=>[]
def pats:List gq:=[.rd (.sl 293),.fn 508 [[.int .i64]]]
def res:RP:=.one (.rd (.int .i64))
abbrev E:Env:={ T:=assoc kQ,G:=dy [(508,Z195.aV)],nt:=19 }
theorem step_eq (I:cG)(p:Pt):cT E live I (pid p) (bM Tryz.f507) (fM (live (pid p)) (bY p) (bZ p)) (cH E Tryz.f507 res)=step (fun q=>I (pid q) (bY q) (bZ q)) p:=by
 cases p<;>kernel_rfl
theorem start_eq (I:cG)(ls:List L):eX E live I (bM Tryz.f507) (cZ pats ls) (cH E Tryz.f507 res)=start (fun q=>I (pid q) (bY q) (bZ q)) (ls.headD .hole).aR (cK 1 (aA 1 ls)):=by kernel_rfl
theorem run_eq (n:Nat)(ls:List L):eO E live Tryz.f507 res n (cZ pats ls)=start (iter step n) (ls.headD .hole).aR (cK 1 (aA 1 ls)):=cC (id:=pid) (vs:=bY) (hs:=bZ) (step:=step) (start:=fun J=>start J (ls.headD .hole).aR (cK 1 (aA 1 ls))) step_eq (fun I=>start_eq I ls) n
def md (a0:List aI)(a1:Int):Int:=(dS (S:=Unit) (β:=Int) (fun (i1:Nat) (y1:aI) (s3:Unit)=>(cond (Z195.md y1 a1) (.inr ((i1:Int):Int)) (.inl ()))) (fun (s3:Unit)=>((-1):Int)) 0 a0 ())
def gd (a0:List aI)(a1:Int):Prop:=(bK (2^21) (fun y:aI=>aI.Sm (2^21) y) a0)
def acc (ls:List L):List (List L)×Int:=((ls.headD .hole).aR,(gk (cK 1 (aA 1 ls))))
def R:(List (List L)×Int)→Option Int:=RR (p2 gd) (u2 md)
theorem aj {a0 a1}(h:gd a0 a1):R ((a0.map aI.row),a1)=some (md a0 a1):=aM (a:=(a0,a1)) h
def aV:fW:=CN pats res acc R
theorem bq (a0:List aI)(a1:Int)(p1:List L)(e1:a1=(gk p1))(hg:gd a0 a1):∃n,start (iter step n) (a0.map aI.row) p1=ret ((md a0 a1):Int):=by
 unfold gd at hg
 have H0:=hg
 unfold start md
 try simp only [SS,←e1]
 have Bh2:a0.length≤maxLen:=(by
   have:=(H0).1
   try simp only [maxLen] at *
   omega)
 refine ex_eq (out:=ret) (cX (z:=aI.zero)) ?_
 refine dN (p:=Pt.p0 (a0.map aI.row) p1 (a0.length:Int) 0) fz ?_
 refine ck (pt:=fun (i1:Nat) (s3:Unit)=>Pt.p0 (a0.map aI.row) p1 (a0.length:Int) (i1:Int)) (s:=(():Unit)) (out:=ret) (fun _ _=>True) (fun J i1 s3 h2 hih2=>?_) (fun s3 hih2=>?_) trivial
 ·simp only [step,SS,←e1]
  have bb_:=Bh2
  simp only [maxLen] at bb_
  have:=(H0).1
  refine bt.yes (by apply decide_eq_true;omega) ?_
  refine bt.yes aH ?_
  refine bt.yes (aL h2) ?_
  refine cr (Z195.aj (bK.getD (z:=aI.zero) H0 h2)) ?_
  refine bt.bif (fun c4=>?_) (fun c4=>?_)
  ·refine bt.inr ?_
   all_goals exact fz
  ·refine bt.inl trivial ?_
   rw [aE h2 Bh2]
   all_goals exact fz
 ·simp only [step,SS,←e1]
  have:=(H0).1
  refine dx (by apply decide_eq_false;omega) ?_
  refine ⟨0,?_⟩
  all_goals exact fz
theorem oJ (ls:List L)(a:List aI×Int)(e:acc ls=Im.im a)(hg:(p2 gd) a):∃n:Nat,start (iter step n) ((ls.headD .hole).aR) (cK 1 (aA 1 ls))=ret (Im.im ((u2 md) a)):=by
 have e0:(a.1.map aI.row)=(ls.headD .hole).aR:=(congrArg (fun x=>x.1) e.symm)
 obtain ⟨n,hn⟩:=bq a.1 a.2 (cK 1 (aA 1 ls)) (congrArg (fun x=>x.2) e.symm) hg
 refine ⟨n,?_⟩
 rw [←e0]
 exact hn
theorem af:cw 507 aV:=VP (accr:=fun ls=>((ls.headD .hole).aR,(cK 1 (aA 1 ls)))) (run:=fun n x=>start (iter step n) x.1 x.2) mix aD (.cons Z195.af .nil) Tryz.func507 (by kernel_rfl) run_eq (fun ls a _ e hg=>oJ ls a e hg)
theorem fa (a0:List aI)(a1:Int):-1≤md a0 a1∧md a0 a1<(a0.length:Int):=by
 unfold md
 refine gb ?_ _ _
 all_goals
  intro i x s b h
  revert h
  simp only [Bool.cond_eq_ite]
  repeat' split
  all_goals (intro h;first | (cases h;rfl) | cases h)
theorem idx_eq (a0:List aI)(a1:Int):md a0 a1=iX (fun y=>Z195.md y a1) 0 a0:=by
 unfold md
 exact gV
end Z196
namespace Z197
def F (x0:cI)(x1:Int):aG:=(cond (decide (x1<0)) (ret ((-1):Int)) (call (Z196.R (x0.bE,x1)) fun v1=>ret (v1:Int)))
def md (a0:az)(a1:Int):Int:=(cond (decide (a1<0)) ((-1):Int) ((Z196.md a0.bE a1):Int))
def gd (a0:az)(a1:Int):Prop:=(az.Sm (2^21) a0)
def R:=RR (p2 gd) (u2 md)
theorem aj {a0 a1}(h:gd a0 a1):R ((az.r a0),a1)=some (md a0 a1):=aM (a:=(a0,a1)) h
def aV:=CN [.agg yM,pI] oI RT.dec R
theorem bq (a0)(a1)(hg:gd a0 a1):F (az.r a0) a1=ret (md a0 a1):=by
 unfold gd at hg
 have H0:=hg
 unfold F md
 try simp only [SS]
 refine av ret (fun _=>rfl) (fun c1=>?_)
 refine ct (Z196.aj H0) ?_
 have fv1_:=Z196.fa a0.bE a1
 all_goals exact fz
theorem af:cw 436 aV:=W2 11 F mix aD bq (.cons Z196.af .nil) Tryz.func436
theorem fa (a0:az)(a1:Int):-1≤md a0 a1∧md a0 a1<(a0.bE.length:Int):=by
 unfold md
 have:=Z196.fa a0.bE a1
 cases decide (a1<0)
 ·exact this
 ·simp only [bf];omega
theorem br (a0:az)(a1:Int):md a0 a1=Z87.md a0 a1:=by
 unfold md Z87.md
 rw [Z196.idx_eq]
 rw [lF (p:=fun y=>(Z86.md y==a1)&&decide (a1≥0)) (fun i x s=>by cases (Z86.md x==a1)<;>cases decide (a1≥0)<;>rfl)]
 have e:(fun y=>Z195.md y a1)=fun y=>Z86.md y==a1:=by
  funext y
  unfold Z195.md
  rw [Z194.br]
 have key:∀(xs:List aI) (i:Nat),iX (fun _=>false) i xs=-1:=by
  intro xs
  induction xs with
  | nil=>intro i;rfl
  | cons x xs ih=>intro i;unfold iX;exact ih _
 rw [e]
 by_cases h:a1<0
 ·rw [decide_eq_true h,decide_eq_false (show ¬a1≥0 by omega)]
  simp only [bf,Bool.and_false,key]
 ·rw [decide_eq_false h,decide_eq_true (show a1≥0 by omega)]
  simp only [bk,Bool.and_true]
end Z197
namespace Z198
def F (x0:aS)(x1:List L):aG:=ret ((x0.aW==(sDec x1)):Bool)
def pats:List gq:=[.agg [.str,.int .i64,.int .i64,.sl 9],.ptr [.str]]
def res:RP:=.one (.rd (.bool))
def md (a0:ah)(a1:ByteArray):Bool:=((a0.aW==a1):Bool)
def gd (a0:ah)(a1:ByteArray):Prop:=True
def acc (ls:List L):aS×ByteArray:=((aS.dec ls),(sDec (cK 1 (aA 4 ls))))
def R:(aS×ByteArray)→Option Bool:=RR (p2 gd) (u2 md)
theorem aj {a0 a1}(h:gd a0 a1):R ((ah.r a0),a1)=some (md a0 a1):=aM (a:=(a0,a1)) h
def aV:fW:=CN pats res acc R
theorem bq (a0:ah)(a1:ByteArray)(p1:List L)(e1:a1=(sDec p1))(hg:gd a0 a1):F (ah.r a0) p1=ret ((md a0 a1):Bool):=by
 unfold F md
 try simp only [SS,←e1]
 all_goals exact fz
theorem oJ (ls:List L)(a:ah×ByteArray)(e:acc ls=Im.im a)(hg:(p2 gd) a):∃n:Nat,F (aS.dec ls) (cK 1 (aA 4 ls))=ret (Im.im ((u2 md) a)):=by
 have e0:(ah.r a.1)=(aS.dec ls):=(congrArg (fun x=>x.1) e.symm)
 have hn:=bq a.1 a.2 (cK 1 (aA 4 ls)) (congrArg (fun x=>x.2) e.symm) hg
 refine ⟨0,?_⟩
 rw [←e0]
 exact hn
theorem af:cw 562 aV:=VP (live:=fun _=>[]) (nt:=8) (accr:=fun ls=>((aS.dec ls),(cK 1 (aA 4 ls)))) (run:=fun _ x=>F x.1 x.2) mix aD .nil Tryz.func562 (by kernel_rfl) (fun _ _=>by kernel_rfl) (fun ls a _ e hg=>oJ ls a e hg)
end Z198
end Go.DM
end
