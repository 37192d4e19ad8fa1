/- What the functions compute that the law reaches, and that the law returns true. Conditions: none. -/
import Derived.Test.YtcepeleohipibaaGreatLResolvedTy
import Derived.Test.YtcepeleohipibaaGreatLResolvedFnA
set_option linter.all false
set_option maxRecDepth 100000
noncomputable section
namespace Go.DM
open Go.Proofs
open Go.IntKind (i64)
open Int (toNat)
open Nat (le_trans zero_le)
namespace Z96
inductive Pt where
 | p0 (a b c:Int) (d e:aq)
def pid:Pt->Nat
 | .p0 ..=>3
def cM:Pt->List V
 | .p0 a b c d e=>[.bP 0 0,.own 2,.int .i64 a]
def dQ:Pt->List aK
 | .p0 a b c d e=>[.box [.own 1,.int .i64 b,.int .i64 c],.vw 5 d,.row 9 e]
def step (J:Pt->aD):Pt->aD
 | .p0 a b c d e=>(cond (a>0) (call (Z6.R (d,b,c)) fun v1=>(cA (eK (((e.length:Int)+1)*16)) (J (.p0 (i64.wrap (a - 1)) v1.2.1 v1.2.2.1 d (e++[[L.str v1.2.2.2]]))))) (ret ((Hl.mk,b,c,e):Hl×Int×Int×aq)))
def start (J:Pt->aD)(x0:aq)(x1 x2:Int):aD:=(call (Z4.R (x0,x1,x2,3)) fun v1=>J (.p0 (i64.wrap (1+v1.2.2.2)) v1.2.1 v1.2.2.1 x0 []))
def live:Nat->Live:=gL [(3,[(0,none),(3,some 9),(4,none)])]
abbrev eg:List K:=[.sl 5,aE,aE]
def pats:List (Option fF):=[none]
def res:RP:=.one (.fr 9)
abbrev E:Env:={ T:=assoc mC,G:=cZ [],nt:=19,M:=ff [],np:=(nC eg),mt:=false,I:=gy [(139,Z4.ic (nC eg)),(237,Z6.ic (nC eg))] }
def step_eq (I:dD)(p:Pt):dU E live I (pid p) (bL Tryz.f277) (iT (live (pid p)) (cM p) (dQ p)) (dA E Tryz.f277 (.cur eg res.parts))=step (fun q=>I (pid q) (cM q) (dQ q)) p:=by
 cases p<;>kernel_rfl
def start_eq (I:dD)(ls:List L):gO E live I (bL Tryz.f277) (iG eg pats ls) (dA E Tryz.f277 (.cur eg res.parts))=start (fun q=>I (pid q) (cM q) (dQ q)) (eU ls) (cF 1 ls) (cF 2 ls):=by kernel_rfl
def run_eq (n:Nat)(ls:List L):eY E live Tryz.f277 (.cur eg res.parts) n (iG eg pats ls)=start (iter step n) (eU ls) (cF 1 ls) (cF 2 ls):=dI (id:=pid) (vs:=cM) (hs:=dQ) (step:=step) (start:=fun J=>start J (eU ls) (cF 1 ls) (cF 2 ls)) step_eq (fun I=>start_eq I ls) n
def gd (x0:aq)(x1 x2:Int):Prop:=CI x0 x1
def post (x0:aq)(x1 x2:Int)(y:Hl×Int×Int×aq):Prop:=CI x0 y.2.1/\∃m:List av,y.2.2.2=m.map dL/\bg 16 (fun y:av=>y.size<=16) m
def wp (x0:aq)(x1 x2:Int)(hg:gd x0 x1 x2):∃n,Wp (start (iter step n) x0 x1 x2) (post x0 x1 x2):=by
 have key:∀a d e,0<=a->a<=6->CI x0 d->∃n,Wp (iter step n (.p0 a d e x0 [])) (post x0 x1 x2):=by
  intro a d e h1 h2 h3
  refine ⟨8,kH (fun p=>match p with | .p0 a b c d e=>0<=a/\a<=6/\CI d b/\d=x0/\∃ms:List av,e=ms.map dL/\(ms.length:Int)+a<=6/\∀s∈ms,s.size<=16) (fun p=>match p with | .p0 a b c d e=>a.toNat) (fun J p hI hJ=>?_) _ _ ⟨h1,h2,h3,rfl,[],rfl,by show (0:Int)+a<=6;omega,fun _ h=>(nomatch h)⟩ (by show a.toNat<8;omega)⟩
  obtain ⟨a,b,c,d,e⟩:=p
  obtain ⟨k1,k2,k3,rfl,ms,rfl,h6,h7⟩:=hI
  refine wp_cond (fun c1=>?_) (fun c1=>?_)
  ·have c1:=of_decide_eq_true c1
   have e1:i64.wrap (a - 1)=a - 1:=wi _ (by omega)
   refine Z6.eJ k3 (fun v ⟨hv,hs⟩=>fE (gC (by rw [List.length_map];omega)) (hJ _ ⟨?_,?_,hv,rfl,ms++[v.2.2.2],by simp [dL],?_,fun s hm=>?_⟩ ?_))
   ·show 0<=i64.wrap (a - 1);omega
   ·show i64.wrap (a - 1)<=6;omega
   ·show ((ms++[_]).length:Int)+i64.wrap (a - 1)<=6;rw [e1];simp;omega
   ·rcases List.mem_append.1 hm with hm | hm
    ·exact h7 s hm
    ·simp at hm;subst hm;exact hs
   ·show (i64.wrap (a - 1)).toNat<a.toNat;omega
  ·exact wp_ret ⟨k3,ms,rfl,(show ms.length<=16 by omega),h7⟩
 obtain ⟨v,hv,pv⟩:=Z4.iN (x3:=3) hg
 obtain ⟨h1,h2⟩:=pv.2.2 (by decide)
 obtain ⟨n,hn⟩:=key (i64.wrap (1+v.2.2.2)) v.2.1 v.2.2.1 (by rw [wi _ (by omega)];omega) (by rw [wi _ (by omega)];omega) pv.1
 exact ⟨n,bX hv hn⟩
def R:(aq×Int×Int)->Option (Hl×Int×Int×aq):=RQ (fun n x=>start (iter step n) x.1 x.2.1 x.2.2) (fun x=>post x.1 x.2.1 x.2.2)
def eJ {x0:aq}{x1 x2:Int}{γ:Type}[RT γ]{k:(Hl×Int×Int×aq)->aD}{Q:γ->Prop}(hg:gd x0 x1 x2)(hk:∀y,post x0 x1 x2 y->Wp (k y) Q):Wp (call (R (x0,x1,x2)) k) Q:=gq (wp x0 x1 x2 hg) hk
def acc (ls:List L):aq×Int×Int:=((eU ls),(cF 1 ls),(cF 2 ls))
def aM:jO:=CC eg pats res acc R
def af:gD Tryz.prog Ev 277 aM:=VC (live:=live) (mt:=false) mix az .nil .nil (.cons (Z4.bR (nC eg)) (.cons (Z6.bR (nC eg)) .nil)) Tryz.func277 (by kernel_rfl) run_eq
def ic (_:Nat):gA:=kg Ev aM
def bR (n:Nat):dX Tryz.prog Ev n 277 (ic n):=eR af
end Z96
namespace Z97
def F (x0:aq)(x1 x2:Int):aD:=(call (Z96.R (x0,x1,x2)) fun v1=>(call (Z4.R (x0,v1.2.1,v1.2.2.1,8)) fun v2=>(cond (v2.2.2.2==0) (call (Z94.R (x0,v2.2.1,v2.2.2.1)) fun v3=>(call (Z94.R (x0,v3.2.1,v3.2.2.1)) fun v4=>(cA (eK (((v1.2.2.2.length:Int)+2)*16)) (ret ((Hl.mk,v4.2.1,v4.2.2.1,(v1.2.2.2++[[L.str v3.2.2.2],[L.str v4.2.2.2]])):Hl×Int×Int×aq))))) (cond (v2.2.2.2==1) (ret ((Hl.mk,v2.2.1,v2.2.2.1,[]):Hl×Int×Int×aq)) (ret ((Hl.mk,v2.2.1,v2.2.2.1,v1.2.2.2):Hl×Int×Int×aq))))))
abbrev eg:List K:=[.sl 5,aE,aE]
def pats:List (Option fF):=[none]
def res:RP:=.one (.fr 9)
abbrev E:Env:={ T:=assoc mC,G:=cZ [],nt:=21,M:=ff [],np:=(nC eg),mt:=false,I:=gy [(277,Z96.ic (nC eg)),(139,Z4.ic (nC eg)),(201,Z94.ic (nC eg))] }
def run_eq (n:Nat)(ls:List L):eY E (fun _=>[]) Tryz.f181 (.cur eg res.parts) n (iG eg pats ls)=F (eU ls) (cF 1 ls) (cF 2 ls):=by kernel_rfl
def gd (x0:aq)(x1 x2:Int):Prop:=CI x0 x1
def post (x0:aq)(x1 x2:Int)(y:Hl×Int×Int×aq):Prop:=CI x0 y.2.1/\∃m:List av,y.2.2.2=m.map dL/\bg 32 (fun y:av=>y.size<=16) m
def wp (x0:aq)(x1 x2:Int)(hg:gd x0 x1 x2):Wp (F x0 x1 x2) (post x0 x1 x2):=by
 unfold F
 refine Z96.eJ hg (fun v ⟨hv,m,e,hm⟩=>Z4.eJ hv (fun w ⟨hw,_,_⟩=>wp_cond (fun _=>?_) (fun _=>wp_cond (fun _=>wp_ret ⟨hw,[],rfl,bg.nil⟩) (fun _=>wp_ret ⟨hw,m,e,hm.mono (by decide) fun _ h=>h⟩))))
 refine Z94.eJ hw (fun s ⟨hs,h1⟩=>Z94.eJ hs (fun t ⟨ht,h2⟩=>?_))
 have hl:=hm.1
 rw [e]
 refine fE (gC (by rw [List.length_map];omega)) (wp_ret ⟨ht,m++[s.2.2.2,t.2.2.2],by rw [List.map_append];rfl,by simp;omega,fun z hz=>?_⟩)
 rcases List.mem_append.1 hz with hz | hz
 ·exact hm.2 z hz
 ·simp at hz
  rcases hz with rfl | rfl
  ·exact h1
  ·exact h2
def R:(aq×Int×Int)->Option (Hl×Int×Int×aq):=RQ (fun _ x=>F x.1 x.2.1 x.2.2) (fun x=>post x.1 x.2.1 x.2.2)
def eJ {x0:aq}{x1 x2:Int}{γ:Type}[RT γ]{k:(Hl×Int×Int×aq)->aD}{Q:γ->Prop}(hg:gd x0 x1 x2)(hk:∀y,post x0 x1 x2 y->Wp (k y) Q):Wp (call (R (x0,x1,x2)) k) Q:=gq ⟨0,wp x0 x1 x2 hg⟩ hk
def acc (ls:List L):aq×Int×Int:=((eU ls),(cF 1 ls),(cF 2 ls))
def aM:jO:=CC eg pats res acc R
def af:gD Tryz.prog Ev 181 aM:=VC (live:=(fun _=>[])) (mt:=false) mix az .nil .nil (.cons (Z96.bR (nC eg)) (.cons (Z4.bR (nC eg)) (.cons (Z94.bR (nC eg)) .nil))) Tryz.func181 (by kernel_rfl) run_eq
def ic (_:Nat):gA:=kg Ev aM
def bR (n:Nat):dX Tryz.prog Ev n 181 (ic n):=eR af
end Z97
namespace Z98
inductive Pt where
 | p0 (a:Int) (b:aq) (c d:Int) (e f g h:aq)
def pid:Pt->Nat
 | .p0 ..=>6
def cM:Pt->List V
 | .p0 a b c d e f g h=>[.bP 0 0,.bP 1 0,.own 2,.own 3,.bP 4 0,.int .i64 a,.bP 4 0,.bP 4 0]
def dQ:Pt->List aK
 | .p0 a b c d e f g h=>[.box [.nil,.nil],.box [.sl none 5 b,.int .i64 c,.int .i64 d],.row 188 e,.row 280 f,.box [.own 5,.own 6],.row 37 g,.row 170 h]
def step (J:Pt->aD):Pt->aD
 | .p0 a b c d e f g h=>(cond (a>0) (call (Z4.R (b,c,d,3)) fun v1=>(cA ((0:Int)<=v1.2.2.2) (cA (v1.2.2.2<(e.length:Int)) (call (Z93.R ((⟨g,h⟩:aW),(bU.at e (toNat v1.2.2.2)).aC)) fun v2=>J (.p0 (i64.wrap (a - 1)) b v1.2.1 v1.2.2.1 e f v2.1.ay v2.1.aY))))) (call (Z84.R (b,c,d,[[L.int 0],[L.int 0],[L.int 0],[L.int 1],[L.int 2]])) fun v3=>(cA ((0:Int)<=v3.2.2.2) (cA (v3.2.2.2<(e.length:Int)) (call (Z64.R (bU.at e (toNat v3.2.2.2))) fun v4=>(call (Z95.R (b,v3.2.1,v3.2.2.1)) fun v5=>(call (Z67.R (b,v5.2.1,v5.2.2.1,12)) fun v6=>(cond v6.2.2.2 (call (Z97.R (b,v6.2.1,v6.2.2.1)) fun v7=>(call (Z84.R (b,v7.2.1,v7.2.2.1,[[L.int 1],[L.int 20],[L.int 149],[L.int 150],[L.int 151],[L.int 400]])) fun v8=>ret (((⟨g,h⟩:aW),f,v4,v7.2.2.2,v8.2.2.2):aW×aq×Int×aq×Int))) (call (Z84.R (b,v6.2.1,v6.2.2.1,[[L.int 1],[L.int 20],[L.int 149],[L.int 150],[L.int 151],[L.int 400]])) fun v9=>ret (((⟨g,h⟩:aW),f,v4,v5.2.2.2,v9.2.2.2):aW×aq×Int×aq×Int))))))))))
def start (J:Pt->aD)(x0:aq):aD:=(call (Z1.R x0) fun v1=>(call (Z78.R (v1.1,v1.2.1,v1.2.2)) fun v2=>(call (Z85.R (v1.1,v2.2.1,v2.2.2.1,v2.2.2.2)) fun v3=>(call (Z4.R (v1.1,v3.2.1,v3.2.2.1,3)) fun v4=>J (.p0 v4.2.2.2 v1.1 v4.2.1 v4.2.2.1 v2.2.2.2 v3.2.2.2 [] [])))))
def live:Nat->Live:=gL [(6,[(2,none),(7,none),(8,none),(9,none),(10,none),(11,none),(10,some 37),(10,some 1048746)])]
def pats:List fF:=[.rd (.sl 5)]
def res:RP:=.gW [(true,[.fr 37,.fr 170]),(false,[.fr 280]),(false,[.rd (.int .i64)]),(false,[.fr 9]),(false,[.rd (.int .i64)])]
abbrev E:Env:={ T:=assoc mC,G:=cZ [(23,Z93.aM),(144,Z64.aM)],nt:=59,M:=ff [],np:=0,mt:=false,I:=gy [(137,Z1.ic 0),(178,Z78.ic 0),(179,Z85.ic 0),(139,Z4.ic 0),(145,Z84.ic 0),(180,Z95.ic 0),(142,Z67.ic 0),(181,Z97.ic 0)] }
def step_eq (I:dD)(p:Pt):dU E live I (pid p) (bL Tryz.f59) (iT (live (pid p)) (cM p) (dQ p)) (dA E Tryz.f59 res)=step (fun q=>I (pid q) (cM q) (dQ q)) p:=by
 cases p<;>kernel_rfl
def start_eq (I:dD)(ls:List L):gO E live I (bL Tryz.f59) (dJ pats ls) (dA E Tryz.f59 res)=start (fun q=>I (pid q) (cM q) (dQ q)) (eU ls):=by kernel_rfl
def run_eq (n:Nat)(ls:List L):eY E live Tryz.f59 res n (dJ pats ls)=start (iter step n) (eU ls):=dI (id:=pid) (vs:=cM) (hs:=dQ) (step:=step) (start:=fun J=>start J (eU ls)) step_eq (fun I=>start_eq I ls) n
def xz {α:Type}{p:α->Bool}{z:α}:∀{xs:List α} {i k:Nat},i<xs.length->p (xs.getD i z)=true->(∀j,j<i->p (xs.getD j z)=false)->iD p k xs=((k+i:Nat):Int)
 | x::xs,0,k,_,h,_=>by
  unfold iD
  rw [show p x=true from h];rfl
 | x::xs,i+1,k,hi,h,hn=>by
  unfold iD
  rw [show p x=false from hn 0 (by omega)]
  have:=xz (p:=p) (z:=z) (xs:=xs) (i:=i) (k:=k+1) (by simpa using hi) h (fun j hj=>hn (j+1) (by omega))
  show iD p (k+1) xs=_
  rw [this];congr 1;omega
def z0 (c:List aa):Int:=(c.getD 0 aa.zero).an.aX
def Pz (z:Int)(y:List aa):Bool:=decide ((y.length:Int)>0)&&((y.getD 0 aa.zero).an.aX==z)
def find_eq (k:ak)(z:Int):Z88.md k z=iD (Pz z) 0 k.ay:=by
 unfold Z88.md
 exact kJ (fun i x s=>by
  unfold Pz
  cases decide ((x.length:Int)>0)
  ·rfl
  ·cases ((x.getD 0 aa.zero).an.aX==z)<;>rfl) _ _ _
def AN {z:Int}{y:List aa}:Pz z y=true↔0<y.length/\z0 y=z:=by
 unfold Pz z0
 rw [Bool.and_eq_true,decide_eq_true_iff,beq_iff_eq]
 constructor<;>(rintro ⟨a,b⟩;exact ⟨by omega,b⟩)
def Be {z:Int}{y:List aa}(h:z0 y≠z):Pz z y=false:=by
 cases e:Pz z y
 ·rfl
 ·exact absurd (AN.1 e).2 h
def yl (k:ak):Prop:=(∀i,i<k.ay.length->0<(k.ay.getD i []).length)/\∀i j,j<i->i<k.ay.length->z0 (k.ay.getD j [])≠z0 (k.ay.getD i [])
def yl.find {k:ak}(h:yl k){i:Nat}(hi:i<k.ay.length):Z88.md k (z0 (k.ay.getD i []))=(i:Int):=by
 rw [find_eq,xz (z:=[]) hi (AN.2 ⟨h.1 i hi,rfl⟩) (fun j hj=>Be (h.2 i j hj hi))]
 congr 1;omega
def pre (a b:List aa):Prop:=a.length<=b.length/\∀i,i<a.length->(a.getD i aa.zero).an=(b.getD i aa.zero).an
def zq {a b:List aa}:Z90.md a b=true↔pre a b:=by
 unfold Z90.md pre
 cases e:decide ((a.length:Int)>(b.length:Int))
 ·have e:=of_decide_eq_false e
  rw [aR]
  rw [iZ (fun i=>(a.getD i aa.zero).an=(b.getD i aa.zero).an) (fun i hi h=>?_) (fun i hi h=>?_)]
  ·exact ⟨fun h=>⟨by omega,h.1⟩,fun h=>⟨h.2,rfl⟩⟩
  ·rw [Z89.md_eq,dO.2 h];rfl
  ·cases e2:Z89.md (a.getD i aa.zero).an (b.getD i aa.zero).an
   ·rfl
   ·rw [Z89.md_eq] at e2;exact absurd (dO.1 e2) h
 ·have e:=of_decide_eq_true e
  rw [aO]
  exact ⟨fun h=>(by cases h),fun h=>by omega⟩
def tI (a:List aa):pre a a:=⟨Nat.le_refl _,fun _ _=>rfl⟩
def zW {a b c:List aa}(h:pre a b)(h2:pre b c):pre a c:=⟨le_trans h.1 h2.1,fun i hi=>(h.2 i hi).trans (h2.2 i (Nat.lt_of_lt_of_le hi h.1))⟩
def vP {a b:List aa}(h:pre a b)(ha:0<a.length):0<b.length/\z0 b=z0 a:=⟨Nat.lt_of_lt_of_le ha h.1,by unfold z0;rw [h.2 0 ha]⟩
def Ext (k k2:ak):Prop:=∀i,i<k.ay.length->i<k2.ay.length/\pre (k.ay.getD i []) (k2.ay.getD i [])
def Ext.refl (k:ak):Ext k k:=fun i hi=>⟨hi,tI _⟩
def Ext.trans {a b c:ak}(h:Ext a b)(h2:Ext b c):Ext a c:=fun i hi=>⟨(h2 i (h i hi).1).1,zW (h i hi).2 (h2 i (h i hi).1).2⟩
def DP {k:ak}{l:List aa}(h:Z91.md k l=1):0<l.length/\Z88.md k (z0 l)<0:=by
 unfold Z91.md at h
 cases hc:Z60.md l
 ·rw [hc] at h;cases h
 ·refine ⟨(Z60.tr hc).1,?_⟩
  rw [hc] at h
  cases hd:decide (Z88.md k ((l.getD 0 aa.zero).an.aX)<0)
  ·rw [hd] at h
   revert h
   simp only [Bool.not_true,Bool.cond_eq_ite]
   repeat' split
   all_goals (intro h;first | cases h | skip)
   all_goals simp_all
  ·exact of_decide_eq_true hd
def DV {k:ak}{l:List aa}(h:Z91.md k l=3):0<l.length/\0<=Z88.md k (z0 l)/\pre (k.ay.getD (toNat (Z88.md k (z0 l))) []) l:=by
 unfold Z91.md at h
 cases hc:Z60.md l
 ·rw [hc] at h;cases h
 ·refine ⟨(Z60.tr hc).1,?_⟩
  rw [hc] at h
  cases hd:decide (Z88.md k ((l.getD 0 aa.zero).an.aX)<0)
  ·refine ⟨by have:=of_decide_eq_false hd;unfold z0;omega,?_⟩
   rw [hd] at h
   refine zq.1 ?_
   unfold z0
   cases hp:Z90.md (k.ay.getD (toNat (Z88.md k ((l.getD 0 aa.zero).an.aX))) []) l
   ·rw [hp] at h
    revert h
    simp only [Bool.not_true,Bool.cond_eq_ite]
    repeat' split
    all_goals (intro h;first | cases h | skip)
    all_goals simp_all
   ·rfl
  ·rw [hd] at h;cases h
def pO {α:Type}{xs:List α}{x z:α}{i:Nat}(h:i<xs.length):(xs++[x]).getD i z=xs.getD i z:=by
 rw [List.getD_eq_getElem?_getD,List.getD_eq_getElem?_getD,List.getElem?_append_left h]
def wN {α:Type}{xs:List α}{x z:α}:(xs++[x]).getD xs.length z=x:=by
 rw [List.getD_eq_getElem?_getD];simp
def xH {k:ak}(l:List aa)(h:yl k):yl (Z93.md k l).1/\Ext k (Z93.md k l).1:=by
 have same:yl k/\Ext k k:=⟨h,Ext.refl k⟩
 unfold Z93.md
 cases h1:(Z91.md k l==1)
 ·cases h3:(Z91.md k l==3)
  ·cases h5:(Z91.md k l==5)
   ·exact same
   ·simp only [aO,aR]
    generalize Z92.md _ _=f
    cases f.2
    ·exact same
    ·simp only [aO]
     cases decide ((k.aY.length:Int)<8)
     ·exact same
     ·exact ⟨h,Ext.refl k⟩
  ·obtain ⟨m1,m2,m3⟩:=DV (beq_iff_eq.1 h3)
   simp only [aO,aR]
   have hf:=Z88.fa k (z0 l)
   have e0:Z88.md k ((l.getD 0 aa.zero).an.aX)=Z88.md k (z0 l):=rfl
   rw [e0]
   generalize hj:toNat (Z88.md k (z0 l))=j at *
   have hjl:j<k.ay.length:=by omega
   have at_:∀i,i<k.ay.length->pre (k.ay.getD i []) ((k.ay.set j l).getD i []):=by
    intro i hi
    by_cases hij:i=j
    ·subst hij;rw [List.getD_eq_getElem?_getD (l:=k.ay.set i l),List.getElem?_set_self hi];exact m3
    ·rw [List.getD_eq_getElem?_getD (l:=k.ay.set j l),List.getElem?_set_ne (fun h=>hij h.symm),<-List.getD_eq_getElem?_getD];exact tI _
   refine ⟨⟨fun i hi=>?_,fun i m hm hi=>?_⟩,fun i hi=>⟨by show i<(k.ay.set j l).length;rw [List.length_set];exact hi,at_ i hi⟩⟩
   ·have hi:i<k.ay.length:=by have hi:i<(k.ay.set j l).length:=hi;rwa [List.length_set] at hi
    exact (vP (at_ i hi) (h.1 i hi)).1
   ·have hi:i<k.ay.length:=by have hi:i<(k.ay.set j l).length:=hi;rwa [List.length_set] at hi
    show z0 ((k.ay.set j l).getD m [])≠z0 ((k.ay.set j l).getD i [])
    rw [(vP (at_ i hi) (h.1 i hi)).2,(vP (at_ m (by omega)) (h.1 m (by omega))).2]
    exact h.2 i m hm hi
 ·obtain ⟨m1,m2⟩:=DP (beq_iff_eq.1 h1)
  simp only [aO]
  cases decide ((k.ay.length:Int)>=8)
  ·simp only [aR]
   have hno:∀i,i<k.ay.length->z0 (k.ay.getD i [])≠z0 l:=by
    intro i hi he
    have:=h.find hi
    rw [he] at this;omega
   refine ⟨⟨fun i hi=>?_,fun i j hj hi=>?_⟩,fun i hi=>⟨by show i<(k.ay++[l]).length;simp;omega,by rw [pO hi];exact tI _⟩⟩
   ·show 0<((k.ay++[l]).getD i []).length
    by_cases hc:i<k.ay.length
    ·rw [pO hc];exact h.1 i hc
    ·have hi:i<(k.ay++[l]).length:=hi
     rw [List.length_append,List.length_singleton] at hi
     obtain rfl:i=k.ay.length:=by omega
     rw [wN];exact m1
   ·show z0 ((k.ay++[l]).getD j [])≠z0 ((k.ay++[l]).getD i [])
    have hi:i<(k.ay++[l]).length:=hi
    rw [List.length_append,List.length_singleton] at hi
    rw [pO (show j<k.ay.length by omega)]
    by_cases hc:i<k.ay.length
    ·rw [pO hc];exact h.2 i j hj hc
    ·obtain rfl:i=k.ay.length:=by omega
     rw [wN];exact hno j (by omega)
  ·exact same
def gd (x0:aq):Prop:=x0.length<=1048576
def post (x0:aq)(y:aW×aq×Int×aq×Int):Prop:=∃(k:ak) (s:List aB) (p:List av),y=(ak.r k,s.map aB.row,y.2.2.1,p.map dL,y.2.2.2.2)/\ak.Sm (2^21) k/\yl k/\bg 3 (fun z:aB=>aB.Sm 64 z) s/\bg 32 (fun y:av=>y.size<=16) p
def wp (x0:aq)(hg:gd x0):∃n,Wp (start (iter step n) x0) (post x0):=by
 obtain ⟨v1,w1,e1,c1⟩:=Z1.iN hg
 obtain ⟨v2,w2,c2,zs,e2,l2,o2⟩:=Z78.iN (x0:=v1.1) (x1:=v1.2.1) (x2:=v1.2.2) (by rw [e1];exact c1)
 obtain ⟨v3,w3,c3,ss,e3,s3⟩:=Z85.iN (x0:=v1.1) (x1:=v2.2.1) (x2:=v2.2.2.1) (x3:=v2.2.2.2) ⟨c2,zs,e2,l2,o2⟩
 obtain ⟨v4,w4,c4,_,b4⟩:=Z4.iN (x0:=v1.1) (x1:=v3.2.1) (x2:=v3.2.2.1) (x3:=3) c3
 obtain ⟨b1,b2⟩:=b4 (by decide)
 have key:∃n,Wp (iter step n (.p0 v4.2.2.2 v1.1 v4.2.1 v4.2.2.1 v2.2.2.2 v3.2.2.2 [] [])) (post x0):=by
  refine ⟨5,kH (fun z=>match z with | .p0 a b c d e f g h=>0<=a/\a<=2/\b=v1.1/\CI b c/\e=zs.map aH.row/\f=ss.map aB.row/\∃k:ak,g=k.ay.map (fR aa.row)/\h=k.aY.map aN.row/\ak.Sm (2^21) k/\yl k) (fun z=>match z with | .p0 a b c d e f g h=>a.toNat) (fun J z hI hJ=>?_) _ _ ⟨b1,by omega,rfl,c4,e2,e3,⟨[],[]⟩,rfl,rfl,⟨bg.nil,bg.nil⟩,fun i hi=>absurd hi (Nat.not_lt_zero _),fun i j _ hi=>absurd hi (Nat.not_lt_zero _)⟩ (by show v4.2.2.2.toNat<5;omega)⟩
  obtain ⟨a,b,c,d,e,f,g,h⟩:=z
  obtain ⟨h1,h2,rfl,h3,rfl,rfl,k,rfl,rfl,hk,ho⟩:=hI
  refine wp_cond (fun ha=>?_) (fun _=>?_)
  ·have ha:=of_decide_eq_true ha
   have e5:i64.wrap (a - 1)=a - 1:=wi _ (by omega)
   refine Z4.eJ h3 (fun u ⟨cu,_,bu⟩=>?_)
   obtain ⟨u1,u2⟩:=bu (by decide)
   have hi:u.2.2.2.toNat<zs.length:=by omega
   refine fE (decide_eq_true u1) (fE (decide_eq_true (by rw [List.length_map];omega)) ?_)
   rw [aH.sW hi]
   have oz:=o2 _ (List.getElem_mem hi)
   have hg0:Z93.gd k zs[u.2.2.2.toNat].aC:=⟨hk,oz.1.2.mono (by decide) fun _ h=>aa.dV (by decide) h⟩
   refine bX (Z93.aj (a0:=k) (a1:=zs[u.2.2.2.toNat].aC) hg0) (hJ _ ⟨by show 0<=i64.wrap (a - 1);omega,by show i64.wrap (a - 1)<=2;omega,rfl,cu,rfl,rfl,(Z93.md k zs[u.2.2.2.toNat].aC).1,rfl,rfl,Z93.fo hg0,(xH _ ho).1⟩ ?_)
   show (i64.wrap (a - 1)).toNat<a.toNat
   omega
  ·refine Z84.eJ ⟨h3,by show 0<5;decide⟩ (fun u ⟨cu,i,hi,eu⟩=>?_)
   have hu:0<=u.2.2.2/\u.2.2.2<3:=by
    rw [eu]
    have hi:i<5:=hi
    match i,hi with
    | 0,_=>exact ⟨show (0:Int)<=0 by decide,show (0:Int)<3 by decide⟩
    | 1,_=>exact ⟨show (0:Int)<=0 by decide,show (0:Int)<3 by decide⟩
    | 2,_=>exact ⟨show (0:Int)<=0 by decide,show (0:Int)<3 by decide⟩
    | 3,_=>exact ⟨show (0:Int)<=1 by decide,show (1:Int)<3 by decide⟩
    | 4,_=>exact ⟨show (0:Int)<=2 by decide,show (2:Int)<3 by decide⟩
   clear eu
   have hj:u.2.2.2.toNat<zs.length:=by omega
   refine fE (decide_eq_true hu.1) (fE (decide_eq_true (by rw [List.length_map];omega)) ?_)
   rw [aH.sW hj]
   refine bX (Z64.aj (a0:=zs[u.2.2.2.toNat]) (aH.dV (by decide) (Z45.BJ (o2 _ (List.getElem_mem hj))))) ?_
   refine Z95.eJ cu (fun v5 ⟨c5,ps,e5,s5⟩=>Z67.eJ c5 (fun v6 c6=>wp_cond (fun _=>?_) (fun _=>?_)))
   ·refine Z97.eJ c6 (fun v7 ⟨c7,qs,e7,s7⟩=>Z84.eJ ⟨c7,by show 0<6;decide⟩ (fun v8 _=>?_))
    rw [e7]
    exact wp_ret ⟨k,ss,qs,rfl,hk,ho,s3,s7⟩
   ·refine Z84.eJ ⟨c6,by show 0<6;decide⟩ (fun v8 _=>?_)
    rw [e5]
    exact wp_ret ⟨k,ss,ps,rfl,hk,ho,s3,s5.mono (by decide) fun _ h=>h⟩
 obtain ⟨n,hn⟩:=key
 exact ⟨n,bX w1 (bX w2 (bX w3 (bX w4 hn)))⟩
def R:(aq)->Option (aW×aq×Int×aq×Int):=RQ (fun n x=>start (iter step n) x) (fun x=>post x)
def iN {x0:aq}(hg:gd x0):∃y,R x0=some y/\post x0 y:=mh (wp x0 hg)
def acc (ls:List L):aq:=(eU ls)
def aM:gj:=CN pats res acc R
def af:cj 59 aM:=VQ (live:=live) (mt:=false) mix az (fc Z93.af Z64.af) .nil (.cons (Z1.bR 0) (.cons (Z78.bR 0) (.cons (Z85.bR 0) (.cons (Z4.bR 0) (.cons (Z84.bR 0) (.cons (Z95.bR 0) (.cons (Z67.bR 0) (.cons (Z97.bR 0) .nil)))))))) Tryz.func59 (by kernel_rfl) run_eq
end Z98
namespace Z99
inductive Pt where
 | p0 (a:aq) (b:av) (c:Int)
def cM:Pt->List V
 | .p0 a b c=>[.sl none 62 a,.str b,.int .i64 c]
def step (J:Pt->aD):Pt->aD
 | .p0 a b c=>(cond (c<(a.length:Int)) (m2 c (a.length:Int) (cond ((bk.at a (toNat c)).aS==b) (ret (c:Int)) (J (.p0 a b (i64.wrap (c+1)))))) mV)
def start (J:Pt->aD)(x0:aq)(x1:av):aD:=J (.p0 x0 x1 0)
def live:Nat->Live:=gL [(2,jC [0,1,5])]
def md (a0:List ah)(a1:av):Int:=(dY (S:=Unit) (β:=Int) (fun i1 y1 s3=>(cond (y1.aS==a1) (.inr (i1)) (.inl ()))) (fun s3=>((-1):Int)) 0 a0 ())
def gd (a0:List ah)(a1:av):Prop:=(bg (2^21) (fun y:ah=>ah.Sm (2^21) y) a0)
def R:=cI gd md
def aj {a0 a1}(h:gd a0 a1):R ((a0.map ah.row),a1)=some (md a0 a1):=cH h
def aM:=CN [pL 62,pS] oI RT.dec R
def bn (a0)(a1)(H0:gd a0 a1):∃n,start (iter step n) (a0.map ah.row) a1=ret (md a0 a1):=by
 have Bh2:=bl H0
 refine ex_eq (cK (z:=ah.zero)) (dy fz ?_)
 refine bH (pt:=fun (i1:Nat) (s3:Unit)=>Pt.p0 (a0.map ah.row) a1 (i1:Int)) (fun _ _=>True) (fun J i1 s3 h2 hih2=>?_) (fun s3 hih2=>?_) trivial
 ·simp only [step,SS]
  refine aP.yes dt (aP.yes bB ?_)
  refine aP.yes (bQ h2) (aP.bif (fun c4=>aP.inr fz) (fun c4=>?_))
  refine aP.inl trivial ?_
  rw [aF h2 Bh2]
 ·simp only [step,SS]
  refine cL dn (⟨0,?_⟩)
  exact fz
def af:cj 232 aM:=L2 20 (fun _=>2) cM (fun _=>[]) live step start mix az bn .nil Tryz.func232
def fa (a0:List ah)(a1:av):-1<=md a0 a1/\md a0 a1<(a0.length:Int):=by
 refine jV ?_ _ _
 all_goals
  intro i x s b h
  revert h
  simp only [Bool.cond_eq_ite]
  repeat' split
  all_goals (intro h;first | (cases h;rfl) | cases h)
end Z99
namespace Z100
inductive Pt where
 | p0 (a:Int) (b c:aq)
 | p1 (a:Int) (b c:aq)
def cM:Pt->List V
 | .p0 a b c=>[.int .i64 a,.own 0,.sl none 3 b]
 | .p1 a b c=>[.int .i64 a,.own 0,.own 1]
def dQ:Pt->List aK
 | .p0 a b c=>[.row 3 c]
 | .p1 a b c=>[.row 3 b,.row 3 c]
def step (J:Pt->aD):Pt->aD
 | .p0 a b c=>(cond ((b.length:Int)>1) (cond ((i64.wrap ((i64.wrap (a+1)) - (i64.wrap (2*(Int.tmod a 2)))))<(b.length:Int)) (cA ((0:Int)<=(i64.wrap ((i64.wrap (a+1)) - (i64.wrap (2*(Int.tmod a 2)))))) (cA ((i64.wrap ((i64.wrap (a+1)) - (i64.wrap (2*(Int.tmod a 2)))))<(b.length:Int)) (cA (eK (((c.length:Int)+1)*8)) (call (Z29.R b) fun v1=>J (.p1 (i64.wrap (Int.tdiv a 2)) (c++[[L.int (jz b (toNat (i64.wrap ((i64.wrap (a+1)) - (i64.wrap (2*(Int.tmod a 2)))))))]]) v1))))) (call (Z29.R b) fun v2=>J (.p1 (i64.wrap (Int.tdiv a 2)) c v2))) (ret (c:aq)))
 | .p1 a b c=>(cond ((c.length:Int)>1) (cond ((i64.wrap ((i64.wrap (a+1)) - (i64.wrap (2*(Int.tmod a 2)))))<(c.length:Int)) (cA ((0:Int)<=(i64.wrap ((i64.wrap (a+1)) - (i64.wrap (2*(Int.tmod a 2)))))) (cA ((i64.wrap ((i64.wrap (a+1)) - (i64.wrap (2*(Int.tmod a 2)))))<(c.length:Int)) (cA (eK (((b.length:Int)+1)*8)) (call (Z29.R c) fun v1=>J (.p1 (i64.wrap (Int.tdiv a 2)) (b++[[L.int (jz c (toNat (i64.wrap ((i64.wrap (a+1)) - (i64.wrap (2*(Int.tmod a 2)))))))]]) v1))))) (call (Z29.R c) fun v2=>J (.p1 (i64.wrap (Int.tdiv a 2)) b v2))) (ret (b:aq)))
def start (J:Pt->aD)(x0:aq)(x1:Int):aD:=(call (Z11.R (x1,0,(i64.wrap (x0.length - 1)))) fun v1=>(cond (!v1) (ret ([]:aq)) (J (.p0 x1 x0 []))))
def live:Nat->Live:=gL [(5,[(1,none),(5,some 3),(6,none)])]
def ya (i:Nat):Nat:=if i % 2=0 then i+1 else i - 1
def xY (i:Nat)(l c:List Int):List Int:=if ya i<l.length then c++[l.getD (ya i) 0] else c
def BT:Nat->Nat->List Int->List Int->List Int
 | 0,_,_,c=>c
 | k+1,i,l,c=>if l.length>1 then BT k (i / 2) (Z29.up l) (xY i l c) else c
def vC:∀(k i:Nat) (l c:List Int),(BT k i l c).length<=c.length+k
 | 0,_,_,c=>Nat.le_refl _
 | k+1,i,l,c=>by
  unfold BT
  by_cases h:l.length>1
  ·rw [if_pos h]
   have:=vC k (i / 2) (Z29.up l) (xY i l c)
   have h2:(xY i l c).length<=c.length+1:=by unfold xY;split<;>simp
   omega
  ·rw [if_neg h];omega
def half (i:Nat)(h:i<2^40):i64.wrap (Int.tdiv (i:Int) 2)=((i / 2:Nat):Int):=by
 rw [show Int.tdiv (i:Int) 2=((i / 2:Nat):Int) from rfl,wi _ (by omega)]
def DD (i:Nat)(h:i<2^40):i64.wrap (i64.wrap ((i:Int)+1) - i64.wrap (2*Int.tmod (i:Int) 2))=((ya i:Nat):Int):=by
 rw [show Int.tmod (i:Int) 2=((i % 2:Nat):Int) from rfl,wi ((i:Int)+1) (by omega),wi (2*((i % 2:Nat):Int)) (by omega),wi _ (by omega)]
 unfold ya
 split<;>omega
def md (a0:List Int)(a1:Int):List Int:=bif Z11.md a1 0 (i64.wrap (a0.length - 1)) then BT a0.length a1.toNat a0 [] else []
def gd (a0:List Int)(a1:Int):Prop:=bg (2^38) (fun y:Int=>True) a0
def R:=cI gd md
def aj {a0 a1}(h:gd a0 a1):R ((a0.map aV),a1)=some ((md a0 a1).map aV):=cH h
def aM:=CN [pL 3,pI] (oL 3) RT.dec R
def bn (a0)(a1)(hg:gd a0 a1):∃n,start (iter step n) (a0.map aV) a1=ret ((md a0 a1).map aV):=by
 have one:∀(i:Nat) (l c r:List Int) (n:Nat),bg (2^38) (fun y:Int=>True) l->i<2^40->c.length<2^40->(if l.length>1 then iter step n (Pt.p1 ((i / 2:Nat):Int) ((xY i l c).map aV) ((Z29.up l).map aV))=ret (r.map aV) else c=r)->
   step (iter step n) (Pt.p0 (i:Int) (l.map aV) (c.map aV))=ret (r.map aV)/\step (iter step n) (Pt.p1 (i:Int) (c.map aV) (l.map aV))=ret (r.map aV):=by
  intro i l c r n hl hi hc h
  have hs:=DD i hi
  have hd:=half i hi
  refine ⟨?_,?_⟩
  all_goals
   simp only [step,MM,List.length_map,iu,hs,hd,gv]
   by_cases h1:l.length>1
   ·rw [if_pos h1] at h
    rw [decide_eq_true (show (l.length:Int)>1 by omega),aO]
    by_cases h2:ya i<l.length
    ·rw [xY,if_pos h2,List.map_append] at h
     rw [decide_eq_true (show ((ya i:Nat):Int)<(l.length:Int) by omega),aO,decide_eq_true (show (0:Int)<=((ya i:Nat):Int) by omega),aO,aO,gC (by omega),aO]
     exact cG _ (Z29.aj hl) h
    ·rw [xY,if_neg h2] at h
     rw [decide_eq_false (show ¬((ya i:Nat):Int)<(l.length:Int) by omega),aR]
     exact cG _ (Z29.aj hl) h
   ·rw [if_neg h1] at h
    rw [decide_eq_false (show ¬(l.length:Int)>1 by omega),aR,h]
 have key:∀(k i:Nat) (l c:List Int),bg (2^38) (fun y:Int=>True) l->l.length<=k->i<2^40->c.length+k<2^40->
   ∃n,step (iter step n) (Pt.p0 (i:Int) (l.map aV) (c.map aV))=ret ((BT k i l c).map aV)/\step (iter step n) (Pt.p1 (i:Int) (c.map aV) (l.map aV))=ret ((BT k i l c).map aV):=by
  intro k
  induction k with
  | zero=>intro i l c hl hk hi hc;exact ⟨0,one i l c _ 0 hl hi (by omega) (by rw [if_neg (by omega)];rfl)⟩
  | succ k ih=>
   intro i l c hl hk hi hc
   unfold BT
   by_cases h1:l.length>1
   ·have hu:=Z29.lA l
    have hl1:=hl.1
    have h2:(xY i l c).length<=c.length+1:=by unfold xY;split<;>simp
    obtain ⟨n,_,hn⟩:=ih (i / 2) (Z29.up l) (xY i l c) ⟨by omega,fun _ _=>trivial⟩ (by omega) (by omega) (by omega)
    rw [if_pos h1]
    exact ⟨n+1,one i l c _ (n+1) hl hi (by omega) (by rw [if_pos h1];exact hn)⟩
   ·rw [if_neg h1]
    exact ⟨0,one i l c _ 0 hl hi (by omega) (by rw [if_neg h1])⟩
 unfold start md
 simp only [List.length_map]
 have hlen:=hg.1
 cases h:Z11.md a1 0 (i64.wrap ((a0.length:Int) - 1))
 ·exact ⟨0,cG false (by rw [<-h];exact Z11.aj trivial) rfl⟩
 ·have hh:=h
  rw [wi _ (by omega)] at hh
  simp [Z11.md] at hh
  obtain ⟨i,rfl⟩:=Int.eq_ofNat_of_zero_le hh.1
  obtain ⟨n,hn,_⟩:=key a0.length i a0 [] hg (Nat.le_refl _) (by omega) (by simp only [List.length_nil];omega)
  exact ⟨n+1,cG true (by rw [<-h];exact Z11.aj trivial) hn⟩
def af:cj 305 aM:=L2 42 (fun _=>5) cM dQ live step start mix az bn (fc Z11.af Z29.af) Tryz.func305
def len (a0:List Int)(a1:Int):(md a0 a1).length<=a0.length:=by
 unfold md
 cases Z11.md _ 0 _
 ·exact zero_le _
 ·exact le_trans (vC _ _ _ _) (by simp)
end Z100
namespace Z101
def F (x0:aq)(x1:av):aD:=(call (Z99.R (x0,x1)) fun v1=>(cond (v1<0) (ret (((⟨0,[]⟩),false):eC×Bool)) (call (Z27.R x0) fun v2=>(call (Z100.R (v2,v1)) fun v3=>ret (((⟨v1,v3⟩),true):eC×Bool)))))
def md (a0:List ah)(a1:av):aT×Bool:=(cond ((Z99.md a0 a1)<0) ((⟨0,[]⟩),false) ((⟨(Z99.md a0 a1),(Z100.md (Z27.md a0) (Z99.md a0 a1))⟩),true))
def gd (a0:List ah)(a1:av):Prop:=(bg (2^21) (fun y:ah=>ah.Sm (2^21) y) a0)
def R:=cI gd md
def aj {a0 a1}(h:gd a0 a1):R ((a0.map ah.row),a1)=some ((aT.r (md a0 a1).1),(md a0 a1).2):=cH h
def aM:=CN [pL 62,pS] (.gW [(true,f64),(false,[fB])]) RT.dec R
def bn (a0)(a1)(H0:gd a0 a1):F (a0.map ah.row) a1=ret ((aT.r (md a0 a1).1),(md a0 a1).2):=by
 refine ct (Z99.aj H0) (bM (fun b:aT×Bool=>ret (((aT.r b.1),b.2):eC×Bool)) (fun c1=>fz) (fun c1=>?_))
 refine ct (Z27.aj H0) (ct (Z100.aj ⟨(have:=Z27.len a0;have:=(H0).1;om),fun _ _=>trivial⟩) ?_)
 exact fz
def af:cj 233 aM:=W2 19 F mix az bn (jB Z99.af Z27.af Z100.af) Tryz.func233
def fo {a0:List ah}{a1:av}(hg:gd a0 a1):aT.Sm (2^21) ((md a0 a1).1):=by
 unfold gd at hg;unfold md
 cases decide (Z99.md a0 a1<0)
 ·refine ⟨?_,fun _ _=>trivial⟩
  have h:=Z100.len (Z27.md a0) (Z99.md a0 a1)
  rw [Z27.len] at h
  exact le_trans h hg.1
 ·exact bg.nil
end Z101
namespace Z102
inductive Pt where
 | p0 (a:aq) (b:av) (c d:Int)
def cM:Pt->List V
 | .p0 a b c d=>[.sl none 62 a,.str b,.int .i64 c,.int .i64 d]
def step (J:Pt->aD):Pt->aD
 | .p0 a b c d=>(cond (d<(a.length:Int)) (m2 d (a.length:Int) (call (Z8.R ((bk.at a (toNat d)).aS,b)) fun v1=>(cond (v1<0) (J (.p0 a b (i64.wrap (c+1)) (i64.wrap (d+1)))) (J (.p0 a b c (i64.wrap (d+1))))))) (ret (c:Int)))
def start (J:Pt->aD)(x0:aq)(x1:av):aD:=J (.p0 x0 x1 0 0)
def live:Nat->Live:=gL [(3,jC [0,1,5,6])]
def md (a0:List ah)(a1:av):Int:=(dM (S:=Int) (β:=Int) (fun y1 s3=>(cond ((Z8.md (y1.aS) a1)<0) (.inl (i64.wrap (s3+1))) (.inl s3))) (fun s3=>s3) a0 0)
def gd (a0:List ah)(a1:av):Prop:=(bg (2^21) (fun y:ah=>ah.Sm (2^21) y) a0)
def R:=cI gd md
def aj {a0 a1}(h:gd a0 a1):R ((a0.map ah.row),a1)=some (md a0 a1):=cH h
def aM:=CN [pL 62,pS] oI RT.dec R
def bn (a0)(a1)(H0:gd a0 a1):∃n,start (iter step n) (a0.map ah.row) a1=ret (md a0 a1):=by
 have Bh2:=bl H0
 refine ex_eq (dZ (z:=ah.zero)) (dy fz ?_)
 refine bH (pt:=fun (i1:Nat) (s3:Int)=>Pt.p0 (a0.map ah.row) a1 s3 (i1:Int)) (fun _ _=>True) (fun J i1 s3 h2 hih2=>?_) (fun s3 hih2=>?_) trivial
 ·simp only [step,SS]
  refine aP.yes dt (aP.yes bB ?_)
  refine aP.yes (bQ h2) (cr (Z8.aj trivial) ?_)
  refine aP.bif (fun c4=>?_) (fun c4=>?_)
  ·refine aP.inl trivial ?_
   rw [aF h2 Bh2]
  ·refine aP.inl trivial ?_
   rw [aF h2 Bh2]
 ·simp only [step,SS]
  refine cL dn (⟨0,?_⟩)
  exact fz
def af:cj 308 aM:=L2 24 (fun _=>3) cM (fun _=>[]) live step start mix az bn (cO Z8.af) Tryz.func308
def fa (a0:List ah)(a1:av):a0.length<=2^21->0<=md a0 a1/\md a0 a1<=(a0.length:Int):=fun hl=>by
 have key:∀(xs:List ah) (s:Int),0<=s->s+xs.length<=2^22->0<=dM (S:=Int) (β:=Int) (fun (y1:ah) (s3:Int)=>(cond ((Z8.md (y1.aS) a1)<0) (.inl (i64.wrap (s3+1))) (.inl s3))) (fun (s3:Int)=>(s3:Int)) xs s/\dM (S:=Int) (β:=Int) (fun (y1:ah) (s3:Int)=>(cond ((Z8.md (y1.aS) a1)<0) (.inl (i64.wrap (s3+1))) (.inl s3))) (fun (s3:Int)=>(s3:Int)) xs s<=s+xs.length:=by
  intro xs
  induction xs with
  | nil=>intro s h0 h1;exact ⟨h0,by simp [dM]⟩
  | cons x xs ih=>
   intro s h0 h1
   simp only [List.length_cons] at h1 ⊢
   unfold dM
   cases decide (Z8.md x.aS a1<0)
   ·have:=ih s h0 (by omega)
    simp only [aR]
    omega
   ·have:=ih (s+1) (by omega) (by omega)
    simp only [aO]
    rw [wi _ (by omega)]
    omega
 have:=key a0 0 (Int.le_refl _) (by omega)
 unfold md
 omega
end Z102
namespace Z103
def F (x0:aq)(x1:av):aD:=(call (Z15.R x0) fun v1=>(cond (!v1) (ret (((⟨0,(⟨(⟨#[]⟩:av),0,0,[]⟩),(⟨(⟨#[]⟩:av),0,0,[]⟩),(⟨0,[]⟩),(⟨0,[]⟩)⟩),false):fK×Bool)) (call (Z12.R x1) fun v2=>(cond (!v2) (ret (((⟨0,(⟨(⟨#[]⟩:av),0,0,[]⟩),(⟨(⟨#[]⟩:av),0,0,[]⟩),(⟨0,[]⟩),(⟨0,[]⟩)⟩),false):fK×Bool)) (call (Z99.R (x0,x1)) fun v3=>(cond (v3>=0) (ret (((⟨0,(⟨(⟨#[]⟩:av),0,0,[]⟩),(⟨(⟨#[]⟩:av),0,0,[]⟩),(⟨0,[]⟩),(⟨0,[]⟩)⟩),false):fK×Bool)) (call (Z102.R (x0,x1)) fun v4=>(cond (v4>0) (cA ((0:Int)<=(i64.wrap (v4 - 1))) (cA ((i64.wrap (v4 - 1))<x0.length) (call (Z10.R (bk.at x0 (toNat (i64.wrap (v4 - 1))))) fun v5=>(cA ((0:Int)<=(i64.wrap (v4 - 1))) (cA ((i64.wrap (v4 - 1))<x0.length) (call (Z101.R (x0,(bk.at x0 (toNat (i64.wrap (v4 - 1)))).aS)) fun v6=>(cond (v4<x0.length) (m2 v4 x0.length (call (Z10.R (bk.at x0 (toNat v4))) fun v7=>(m2 v4 x0.length (call (Z101.R (x0,(bk.at x0 (toNat v4)).aS)) fun v8=>ret (((⟨v4,v5,v7,v6.1,v8.1⟩),true):fK×Bool))))) (ret (((⟨v4,v5,(⟨(⟨#[]⟩:av),0,0,[]⟩),v6.1,(⟨0,[]⟩)⟩),true):fK×Bool))))))))) (cond (v4<x0.length) (m2 v4 x0.length (call (Z10.R (bk.at x0 (toNat v4))) fun v9=>(m2 v4 x0.length (call (Z101.R (x0,(bk.at x0 (toNat v4)).aS)) fun v10=>ret (((⟨v4,(⟨(⟨#[]⟩:av),0,0,[]⟩),v9,(⟨0,[]⟩),v10.1⟩),true):fK×Bool))))) (ret (((⟨v4,(⟨(⟨#[]⟩:av),0,0,[]⟩),(⟨(⟨#[]⟩:av),0,0,[]⟩),(⟨0,[]⟩),(⟨0,[]⟩)⟩),true):fK×Bool)))))))))))
def md (a0:List ah)(a1:av):bS×Bool:=(cond (!(Z15.md a0)) ((⟨0,(⟨((⟨#[]⟩:av)),0,0,[]⟩),(⟨((⟨#[]⟩:av)),0,0,[]⟩),(⟨0,[]⟩),(⟨0,[]⟩)⟩),false) (cond (!(Z12.md a1)) ((⟨0,(⟨((⟨#[]⟩:av)),0,0,[]⟩),(⟨((⟨#[]⟩:av)),0,0,[]⟩),(⟨0,[]⟩),(⟨0,[]⟩)⟩),false) (cond ((Z99.md a0 a1)>=0) ((⟨0,(⟨((⟨#[]⟩:av)),0,0,[]⟩),(⟨((⟨#[]⟩:av)),0,0,[]⟩),(⟨0,[]⟩),(⟨0,[]⟩)⟩),false) (cond ((Z102.md a0 a1)>0) (cond ((Z102.md a0 a1)<a0.length) ((⟨(Z102.md a0 a1),(a0.getD (toNat (i64.wrap ((Z102.md a0 a1) - 1))) ah.zero),(a0.getD (toNat (Z102.md a0 a1)) ah.zero),(Z101.md a0 ((a0.getD (toNat (i64.wrap ((Z102.md a0 a1) - 1))) ah.zero).aS)).1,(Z101.md a0 ((a0.getD (toNat (Z102.md a0 a1)) ah.zero).aS)).1⟩),true) ((⟨(Z102.md a0 a1),(a0.getD (toNat (i64.wrap ((Z102.md a0 a1) - 1))) ah.zero),(⟨((⟨#[]⟩:av)),0,0,[]⟩),(Z101.md a0 ((a0.getD (toNat (i64.wrap ((Z102.md a0 a1) - 1))) ah.zero).aS)).1,(⟨0,[]⟩)⟩),true)) (cond ((Z102.md a0 a1)<a0.length) ((⟨(Z102.md a0 a1),(⟨((⟨#[]⟩:av)),0,0,[]⟩),(a0.getD (toNat (Z102.md a0 a1)) ah.zero),(⟨0,[]⟩),(Z101.md a0 ((a0.getD (toNat (Z102.md a0 a1)) ah.zero).aS)).1⟩),true) ((⟨(Z102.md a0 a1),(⟨((⟨#[]⟩:av)),0,0,[]⟩),(⟨((⟨#[]⟩:av)),0,0,[]⟩),(⟨0,[]⟩),(⟨0,[]⟩)⟩),true))))))
def gd (a0:List ah)(a1:av):Prop:=(bg (2^21) (fun y:ah=>ah.Sm (2^21) y) a0)/\(a1.size<=(2^21))
def R:=cI gd md
def aj {a0 a1}(h:gd a0 a1):R ((a0.map ah.row),a1)=some ((bS.r (md a0 a1).1),(md a0 a1).2):=cH h
def aM:=CN [pL 62,pS] (.gW [(true,f66),(false,[fB])]) RT.dec R
def bn (a0)(a1)(hg:gd a0 a1):F (a0.map ah.row) a1=ret ((bS.r (md a0 a1).1),(md a0 a1).2):=by
 obtain ⟨H0,H1⟩:=hg
 unfold F md
 simp only [SS]
 refine ct (Z15.aj H0) (bM (fun b:bS×Bool=>ret (((bS.r b.1),b.2):fK×Bool)) (fun c1=>fz) (fun c1=>?_))
 refine ct (Z12.aj (le_trans H1 (by decide))) (bM (fun b:bS×Bool=>ret (((bS.r b.1),b.2):fK×Bool)) (fun c2=>fz) (fun c2=>?_))
 refine ct (Z99.aj H0) (bM (fun b:bS×Bool=>ret (((bS.r b.1),b.2):fK×Bool)) (fun c3=>fz) (fun c3=>?_))
 refine ct (Z102.aj H0) ?_
 have fv4_:=Z102.fa a0 a1
 refine bM (fun b:bS×Bool=>ret (((bS.r b.1),b.2):fK×Bool)) (fun c4=>?_) (fun c4=>?_)
 ·have dc4:=c4
  simp only [DC] at dc4
  refine aG (have:=(H0).1;dt) (aG (have:=(H0).1;have:=(H0).1;dt) ?_)
  refine ct (Z10.aj (bg.getD H0 (by have:=(H0).1;first | assumption | omega | (simp (disch:=omega) only [wi];omega) | (simp;omega)))) (aG (have:=(H0).1;dt) ?_)
  refine aG (have:=(H0).1;have:=(H0).1;dt) (ct (Z101.aj H0) ?_)
  refine bM (fun b:bS×Bool=>ret (((bS.r b.1),b.2):fK×Bool)) (fun c5=>?_) (fun c5=>fz)
  have dc5:=c5
  simp only [DC] at dc5
  refine aG dt (aG (have:=(H0).1;have:=(H0).1;dt) ?_)
  refine ct (Z10.aj (bg.getD H0 (by have:=(H0).1;first | assumption | omega | (simp (disch:=omega) only [wi];omega) | (simp;omega)))) (aG dt ?_)
  refine aG (have:=(H0).1;have:=(H0).1;dt) (ct (Z101.aj H0) ?_)
  exact fz
 ·refine bM (fun b:bS×Bool=>ret (((bS.r b.1),b.2):fK×Bool)) (fun c6=>?_) (fun c6=>fz)
  have dc6:=c6
  simp only [DC] at dc6
  refine aG (have:=(H0).1;dt) (aG (have:=(H0).1;have:=(H0).1;dt) ?_)
  refine ct (Z10.aj (bg.getD H0 (by have:=(H0).1;first | assumption | omega | (simp (disch:=omega) only [wi];omega) | (simp;omega)))) (aG (have:=(H0).1;dt) ?_)
  refine aG (have:=(H0).1;have:=(H0).1;dt) (ct (Z101.aj H0) ?_)
  exact fz
def af:cj 234 aM:=W2 71 F mix az bn (vY Z15.af Z12.af Z99.af Z102.af Z10.af Z101.af) Tryz.func234
def fo {a0:List ah}{a1:av}(hg:gd a0 a1):bS.Sm (2^21) ((md a0 a1).1):=by
 unfold gd at hg;unfold md
 have ez:ah.Sm (2^21) ⟨⟨#[]⟩,0,0,[]⟩:=⟨zero_le _,bg.nil⟩
 have pz:aT.Sm (2^21) ⟨0,[]⟩:=bg.nil
 have he:∀i,ah.Sm (2^21) (a0.getD i ah.zero):=fun i=>bg.yg hg.1 ez
 have hp:∀x,aT.Sm (2^21) (Z101.md a0 x).1:=fun x=>Z101.fo hg.1
 simp only [Bool.cond_eq_ite]
 repeat' split
 all_goals (refine ⟨?_,?_,?_,?_⟩<;>first | exact he _ | exact hp _ | exact ez | exact pz)
end Z103
namespace Z104
def F (x0:bU)(x1:av):aD:=(call (Z63.R x0) fun v1=>(cond (!v1) (ret ((⟨[],false,(⟨(⟨#[]⟩:av),0,0,[]⟩),(⟨0,[]⟩),(⟨0,(⟨(⟨#[]⟩:av),0,0,[]⟩),(⟨(⟨#[]⟩:av),0,0,[]⟩),(⟨0,[]⟩),(⟨0,[]⟩)⟩)⟩):bw)) (call (Z12.R x1) fun v2=>(cond (!v2) (ret ((⟨[],false,(⟨(⟨#[]⟩:av),0,0,[]⟩),(⟨0,[]⟩),(⟨0,(⟨(⟨#[]⟩:av),0,0,[]⟩),(⟨(⟨#[]⟩:av),0,0,[]⟩),(⟨0,[]⟩),(⟨0,[]⟩)⟩)⟩):bw)) (call (Z72.R x0.aC) fun v3=>(call (Z99.R (x0.bI,x1)) fun v4=>(cond (v4>=0) (m2 v4 x0.bI.length (call (Z10.R (bk.at x0.bI (toNat v4))) fun v5=>(call (Z101.R (x0.bI,x1)) fun v6=>ret ((⟨v3,true,v5,v6.1,(⟨0,(⟨(⟨#[]⟩:av),0,0,[]⟩),(⟨(⟨#[]⟩:av),0,0,[]⟩),(⟨0,[]⟩),(⟨0,[]⟩)⟩)⟩):bw)))) (call (Z103.R (x0.bI,x1)) fun v7=>ret ((⟨v3,false,(⟨(⟨#[]⟩:av),0,0,[]⟩),(⟨0,[]⟩),v7.1⟩):bw)))))))))
def md (a0:aH)(a1:av):aA:=(cond (!(Z63.md a0)) (⟨[],false,(⟨((⟨#[]⟩:av)),0,0,[]⟩),(⟨0,[]⟩),(⟨0,(⟨((⟨#[]⟩:av)),0,0,[]⟩),(⟨((⟨#[]⟩:av)),0,0,[]⟩),(⟨0,[]⟩),(⟨0,[]⟩)⟩)⟩) (cond (!(Z12.md a1)) (⟨[],false,(⟨((⟨#[]⟩:av)),0,0,[]⟩),(⟨0,[]⟩),(⟨0,(⟨((⟨#[]⟩:av)),0,0,[]⟩),(⟨((⟨#[]⟩:av)),0,0,[]⟩),(⟨0,[]⟩),(⟨0,[]⟩)⟩)⟩) (cond ((Z99.md a0.bI a1)>=0) (⟨a0.aC,true,(a0.bI.getD (toNat (Z99.md a0.bI a1)) ah.zero),(Z101.md a0.bI a1).1,(⟨0,(⟨((⟨#[]⟩:av)),0,0,[]⟩),(⟨((⟨#[]⟩:av)),0,0,[]⟩),(⟨0,[]⟩),(⟨0,[]⟩)⟩)⟩) (⟨a0.aC,false,(⟨((⟨#[]⟩:av)),0,0,[]⟩),(⟨0,[]⟩),(Z103.md a0.bI a1).1⟩))))
def gd (a0:aH)(a1:av):Prop:=(aH.Sm (2^21) a0)/\(a1.size<=(2^21))
def R:=cI gd md
def aj {a0 a1}(h:gd a0 a1):R ((aH.r a0),a1)=some (aA.r (md a0 a1)):=cH h
def aM:=CN [.agg tc,pS] (.agg f68) RT.dec R
def bn (a0)(a1)(hg:gd a0 a1):F (aH.r a0) a1=ret (aA.r (md a0 a1)):=by
 obtain ⟨H0,H1⟩:=hg
 refine ct (Z63.aj H0) (bo (fun c1=>fz) (fun c1=>?_))
 refine ct (Z12.aj (le_trans H1 (by decide))) (bo (fun c2=>fz) (fun c2=>?_))
 refine ct (Z72.aj H0.1) ?_
 simp only [SS]
 refine ct (Z99.aj H0.2) ?_
 have fv4_:=Z99.fa a0.bI a1
 refine bo (fun c3=>?_) (fun c3=>ct (Z103.aj ⟨H0.2,H1⟩) fz)
 have dc3:=c3
 simp only [DC] at dc3
 refine aG dt (aG (have:=(H0.2).1;dt) ?_)
 refine ct (Z10.aj (bg.getD H0.2 (by omega))) (ct (Z101.aj H0.2) ?_)
 exact fz
def af:cj 141 aM:=W2 52 F mix az bn (yd Z63.af Z12.af Z72.af Z99.af Z10.af Z101.af Z103.af) Tryz.func141
def fo {a0:aH}{a1:av}(hg:gd a0 a1):aA.Sm (2^21) (md a0 a1):=by
 unfold gd at hg;unfold md
 obtain ⟨⟨hc,hl⟩,_⟩:=hg
 have ez:ah.Sm (2^21) ⟨⟨#[]⟩,0,0,[]⟩:=⟨zero_le _,bg.nil⟩
 have pz:aT.Sm (2^21) ⟨0,[]⟩:=bg.nil
 have gz:bS.Sm (2^21) ⟨0,⟨⟨#[]⟩,0,0,[]⟩,⟨⟨#[]⟩,0,0,[]⟩,⟨0,[]⟩,⟨0,[]⟩⟩:=⟨ez,ez,pz,pz⟩
 have he:∀i,ah.Sm (2^21) (a0.bI.getD i ah.zero):=fun i=>bg.yg hl ez
 have hp:∀x,aT.Sm (2^21) (Z101.md a0.bI x).1:=fun x=>Z101.fo hl
 have hga:bS.Sm (2^21) (Z103.md a0.bI a1).1:=Z103.fo ⟨hl,by assumption⟩
 simp only [Bool.cond_eq_ite]
 repeat' split
 all_goals (refine ⟨?_,?_,?_,?_⟩<;>first | exact hc | exact bg.nil | exact he _ | exact hp _ | exact hga | exact ez | exact pz | exact gz)
end Z104
namespace Z105
def F (x0:bW)(x1:Int)(x2:av):aD:=(call (Z82.R (x0,x1)) fun v1=>(cond (v1<0) (ret ((⟨[],false,(⟨(⟨#[]⟩:av),0,0,[]⟩),(⟨0,[]⟩),(⟨0,(⟨(⟨#[]⟩:av),0,0,[]⟩),(⟨(⟨#[]⟩:av),0,0,[]⟩),(⟨0,[]⟩),(⟨0,[]⟩)⟩)⟩):bw)) (cond (x0.gJ==4) (ret ((⟨[],false,(⟨(⟨#[]⟩:av),0,0,[]⟩),(⟨0,[]⟩),(⟨0,(⟨(⟨#[]⟩:av),0,0,[]⟩),(⟨(⟨#[]⟩:av),0,0,[]⟩),(⟨0,[]⟩),(⟨0,[]⟩)⟩)⟩):bw)) (m2 v1 x0.bf.length (call (Z104.R ((bU.at x0.bf (toNat v1)),x2)) fun v2=>(cond (x0.gJ==1) (ret ((⟨v2.aC,v2.bK,(⟨v2.aJ.aS,v2.aJ.bt,(i64.wrap (v2.aJ.bO+1)),v2.aJ.bC⟩),v2.eI,v2.fq⟩):bw)) (cond (x0.gJ==2) (cond ((v2.aC.length:Int)>0) (cA ((0:Int)<=(i64.wrap (v2.aC.length - 1))) (cA ((i64.wrap (v2.aC.length - 1))<=v2.aC.length) (ret ((⟨(List.take (toNat (i64.wrap (v2.aC.length - 1))) v2.aC),v2.bK,v2.aJ,v2.eI,v2.fq⟩):bw)))) (ret v2)) (cond (x0.gJ==3) (ret ((⟨v2.aC,false,(⟨(⟨#[]⟩:av),0,0,[]⟩),(⟨0,[]⟩),(⟨0,(⟨(⟨#[]⟩:av),0,0,[]⟩),(⟨(⟨#[]⟩:av),0,0,[]⟩),(⟨0,[]⟩),(⟨0,[]⟩)⟩)⟩):bw)) (ret v2)))))))))
def pats:List fF:=[.agg [.sl 188,aE],.rd (.int .i64),.rd (.str)]
def res:RP:=.agg [.fr 53,.rd (.bool),.rd (.str),.rd (.int .i64),.rd (.int .i64),.fr 9,.rd (.int .i64),.fr 3,.rd (.int .i64),.rd (.str),.rd (.int .i64),.rd (.int .i64),.fr 9,.rd (.str),.rd (.int .i64),.rd (.int .i64),.fr 9,.rd (.int .i64),.fr 3,.rd (.int .i64),.fr 3]
def md (a0:aB)(a1:Int)(a2:av):aA:=(cond ((Z82.md a0 a1)<0) (⟨[],false,(⟨((⟨#[]⟩:av)),0,0,[]⟩),(⟨0,[]⟩),(⟨0,(⟨((⟨#[]⟩:av)),0,0,[]⟩),(⟨((⟨#[]⟩:av)),0,0,[]⟩),(⟨0,[]⟩),(⟨0,[]⟩)⟩)⟩) (cond (a0.gJ==4) (⟨[],false,(⟨((⟨#[]⟩:av)),0,0,[]⟩),(⟨0,[]⟩),(⟨0,(⟨((⟨#[]⟩:av)),0,0,[]⟩),(⟨((⟨#[]⟩:av)),0,0,[]⟩),(⟨0,[]⟩),(⟨0,[]⟩)⟩)⟩) (cond (a0.gJ==1) (⟨(Z104.md (a0.bf.getD (toNat (Z82.md a0 a1)) aH.zero) a2).aC,(Z104.md (a0.bf.getD (toNat (Z82.md a0 a1)) aH.zero) a2).bK,(⟨(Z104.md (a0.bf.getD (toNat (Z82.md a0 a1)) aH.zero) a2).aJ.aS,(Z104.md (a0.bf.getD (toNat (Z82.md a0 a1)) aH.zero) a2).aJ.bt,(i64.wrap ((Z104.md (a0.bf.getD (toNat (Z82.md a0 a1)) aH.zero) a2).aJ.bO+1)),(Z104.md (a0.bf.getD (toNat (Z82.md a0 a1)) aH.zero) a2).aJ.bC⟩),(Z104.md (a0.bf.getD (toNat (Z82.md a0 a1)) aH.zero) a2).eI,(Z104.md (a0.bf.getD (toNat (Z82.md a0 a1)) aH.zero) a2).fq⟩) (cond (a0.gJ==2) (cond (((Z104.md (a0.bf.getD (toNat (Z82.md a0 a1)) aH.zero) a2).aC.length:Int)>0) (⟨(List.take (toNat (i64.wrap (((Z104.md (a0.bf.getD (toNat (Z82.md a0 a1)) aH.zero) a2).aC.length) - 1))) (Z104.md (a0.bf.getD (toNat (Z82.md a0 a1)) aH.zero) a2).aC),(Z104.md (a0.bf.getD (toNat (Z82.md a0 a1)) aH.zero) a2).bK,(Z104.md (a0.bf.getD (toNat (Z82.md a0 a1)) aH.zero) a2).aJ,(Z104.md (a0.bf.getD (toNat (Z82.md a0 a1)) aH.zero) a2).eI,(Z104.md (a0.bf.getD (toNat (Z82.md a0 a1)) aH.zero) a2).fq⟩) (Z104.md (a0.bf.getD (toNat (Z82.md a0 a1)) aH.zero) a2)) (cond (a0.gJ==3) (⟨(Z104.md (a0.bf.getD (toNat (Z82.md a0 a1)) aH.zero) a2).aC,false,(⟨((⟨#[]⟩:av)),0,0,[]⟩),(⟨0,[]⟩),(⟨0,(⟨((⟨#[]⟩:av)),0,0,[]⟩),(⟨((⟨#[]⟩:av)),0,0,[]⟩),(⟨0,[]⟩),(⟨0,[]⟩)⟩)⟩) (Z104.md (a0.bf.getD (toNat (Z82.md a0 a1)) aH.zero) a2))))))
def gd (a0:aB)(a1:Int)(a2:av):Prop:=(aB.Sm (2^21) a0)/\(a2.size<=(2^21))
def acc (ls:List L):bW×Int×av:=((bW.dec ls),(cF 2 ls),(rL 3 ls))
def R:(bW×Int×av)->Option bw:=lP gd md
def aj {a0 a1 a2}(h:gd a0 a1 a2):R ((aB.r a0),a1,a2)=some (aA.r (md a0 a1 a2)):=mq h
def aM:gj:=CN pats res acc R
def bn (a0:aB)(a1:Int)(a2:av)(hg:gd a0 a1 a2):F (aB.r a0) a1 a2=ret ((aA.r (md a0 a1 a2)):bw):=by
 obtain ⟨H0,H2⟩:=hg
 unfold F md
 simp only [SS]
 refine ct (Z82.aj H0) ?_
 have fv1_:=Z82.fa a0 a1
 refine bo (fun c1=>fz) (fun c1=>?_)
 have dc1:=c1
 simp only [DC] at dc1
 refine bo (fun c2=>fz) (fun c2=>?_)
 refine aG dt (aG (have:=(H0).1;have:=(H0).1;dt) ?_)
 refine ct (Z104.aj ⟨(bg.getD H0 (by have:=(H0).1;first | assumption | omega | (simp (disch:=omega) only [wi];omega) | (simp;omega))),H2⟩) ?_
 simp only [SS]
 refine bo (fun c3=>fz) (fun c3=>?_)
 refine bo (fun c4=>?_) (fun c4=>?_)
 ·refine bo (fun c5=>?_) (fun c5=>fz)
  have dc5:=c5
  simp only [DC] at dc5
  refine aG (have:=((Z104.fo (a0:=a0.bf.getD (toNat (Z82.md a0 a1)) aH.zero) ⟨(bg.getD H0 (by have:=(H0).1;first | assumption | omega | (simp (disch:=omega) only [wi];omega) | (simp;omega))),H2⟩).1).1;have:=(H0).1;dt) (aG (have:=((Z104.fo (a0:=a0.bf.getD (toNat (Z82.md a0 a1)) aH.zero) ⟨(bg.getD H0 (by have:=(H0).1;first | assumption | omega | (simp (disch:=omega) only [wi];omega) | (simp;omega))),H2⟩).1).1;have:=(H0).1;dt) ?_)
  exact fz
 ·exact bo (fun c6=>fz) (fun c6=>fz)
def af:cj 259 aM:=VT (live:=fun _=>[]) (nt:=57) (run:=fun _ x=>F x.1 x.2.1 x.2.2) mix az (fc Z82.af Z104.af) .nil Tryz.func259 (by kernel_rfl) (fun _ _=>by kernel_rfl) (fun _ a _ _ hg=>⟨0,bn a.1 a.2.1 a.2.2 hg⟩)
def fo {a0:aB}{a1:Int}{a2:av}(hg:gd a0 a1 a2):aA.Sm (2^21) (md a0 a1 a2):=by
 unfold gd at hg;unfold md
 obtain ⟨hs,hl⟩:=hg
 have ez:ah.Sm (2^21) ⟨⟨#[]⟩,0,0,[]⟩:=⟨zero_le _,bg.nil⟩
 have pz:aT.Sm (2^21) ⟨0,[]⟩:=bg.nil
 have gz:bS.Sm (2^21) ⟨0,⟨⟨#[]⟩,0,0,[]⟩,⟨⟨#[]⟩,0,0,[]⟩,⟨0,[]⟩,⟨0,[]⟩⟩:=⟨ez,ez,pz,pz⟩
 have zz:aH.Sm (2^21) aH.zero:=⟨bg.nil,bg.nil⟩
 have ha:∀i,aA.Sm (2^21) (Z104.md (a0.bf.getD i aH.zero) a2):=fun i=>Z104.fo ⟨bg.yg hs zz,hl⟩
 have ht2:∀i n,bg (2^21) (fun y:aa=>aa.Sm (2^21) y) (List.take n (Z104.md (a0.bf.getD i aH.zero) a2).aC):=fun i n=>⟨le_trans (by simp;omega) (ha i).1.1,fun x hx=>(ha i).1.2 x (List.mem_of_mem_take hx)⟩
 simp only [Bool.cond_eq_ite]
 repeat' split
 all_goals first | exact ha _ | (refine ⟨?_,?_,?_,?_⟩<;>first | exact ht _ _ | exact ht2 _ _ | exact bg.nil | exact (ha _).1 | exact (ha _).2.1 | exact (ha _).2.2.1 | exact (ha _).2.2.2 | exact ez | exact pz | exact gz)
end Z105
namespace Z106
inductive Pt where
 | p0 (a:aq) (b:Int) (c:av) (d:Int) (e:aq)
def cM:Pt->List V
 | .p0 a b c d e=>[.sl none 280 a,.int .i64 b,.str c,.own 0,.int .i64 d]
def dQ:Pt->List aK
 | .p0 a b c d e=>[.row 68 e]
def step (J:Pt->aD):Pt->aD
 | .p0 a b c d e=>(cond (d<(a.length:Int)) (cond (d<4) (m2 d (a.length:Int) (call (Z105.R ((bW.at a (toNat d)),b,c)) fun v1=>(cA (eK (((e.length:Int)+1)*304)) (J (.p0 a b c (i64.wrap (d+1)) (e++[(bw.enc v1)])))))) (ret (e:aq))) (ret (e:aq)))
def start (J:Pt->aD)(x0:aq)(x1:Int)(x2:av):aD:=J (.p0 x0 x1 x2 0 [])
def live:Nat->Live:=gL [(3,[(0,none),(1,none),(2,none),(7,some 68),(8,none)])]
def md (a0:List aB)(a1:Int)(a2:av):List aA:=(dY (S:=List aA) (β:=List aA) (fun i1 y1 (s3:List aA)=>(cond ((i1:Int)<4) (.inl (s3++[(Z105.md y1 a1 a2)])) (.inr s3))) (fun (s3:List aA)=>s3) 0 a0 [])
def gd (a0:List aB)(a1:Int)(a2:av):Prop:=(bg (2^21) (fun y:aB=>aB.Sm (2^21) y) a0)/\(a2.size<=(2^21))
def R:=lP gd md
def aj {a0 a1 a2}(h:gd a0 a1 a2):R ((a0.map aB.row),a1,a2)=some ((md a0 a1 a2).map aA.row):=mq h
def aM:=CN [pL 280,pI,pS] (oL 68) RT.dec R
def bn (a0)(a1)(a2)(hg:gd a0 a1 a2):∃n,start (iter step n) (a0.map aB.row) a1 a2=ret ((md a0 a1 a2).map aA.row):=by
 obtain ⟨H0,H2⟩:=hg
 have Bh2:=bl H0
 refine ex_eq (out:=(fun b:List aA=>ret ((b.map aA.row):aq))) (cK (z:=aB.zero)) (dy fz ?_)
 refine bH (pt:=fun (i1:Nat) (s3:List aA)=>Pt.p0 (a0.map aB.row) a1 a2 (i1:Int) (s3.map aA.row)) (s:=([]:List aA)) (out:=(fun b:List aA=>ret ((b.map aA.row):aq))) (fun (i1:Nat) (s3:List aA)=>s3.length<=([]:List Int).length+1*i1) (fun J i1 s3 h2 hih2=>?_) (fun s3 hih2=>?_) (by simp)
 ·simp only [step,SS]
  have gr_:=hih2
  simp only [LN] at gr_
  refine aP.yes dt (aP.bif (fun c4=>?_) (fun c4=>aP.inr fz))
  have dc4:=c4
  simp only [DC] at dc4
  refine aP.yes bB (aP.yes (bQ h2) ?_)
  refine cr (Z105.aj ⟨(bg.getD H0 h2),H2⟩) (aP.yes lm ?_)
  refine aP.inl (by
    (simp;omega)) ?_
  rw [aF h2 Bh2]
  exact fz
 ·simp only [step,SS]
  refine cL dn (⟨0,?_⟩)
  exact fz
def af:cj 164 aM:=L3 31 (fun _=>3) cM dQ live step start mix az bn (cO Z105.af) Tryz.func164
def zv (a0:List aB)(a1:Int)(a2:av):md a0 a1 a2=(a0.take 4).map (fun y=>Z105.md y a1 a2):=by
 have key:∀(xs:List aB) (i:Nat) (s:List aA),i<=4->dY (fun (i1:Nat) (y1:aB) (s3:List aA)=>(cond ((i1:Int)<4) (.inl (s3++[(Z105.md y1 a1 a2)])) (.inr s3))) (fun (s3:List aA)=>s3) i xs s=s++(xs.take (4 - i)).map (fun y=>Z105.md y a1 a2):=by
  intro xs
  induction xs with
  | nil=>intro i s _;simp [dY]
  | cons x xs ih=>
   intro i s hi
   unfold dY
   by_cases h:i<4
   ·rw [decide_eq_true (by omega)]
    simp only [aO]
    rw [ih (i+1) _ (by omega),show 4 - i=(4 - (i+1))+1 by omega]
    simp
   ·rw [decide_eq_false (by omega),show 4 - i=0 by omega]
    simp
 exact (key a0 0 [] (by omega)).trans (by simp)
def fo {a0:List aB}{a1:Int}{a2:av}(hg:gd a0 a1 a2):bg (2^21) (fun y:aA=>aA.Sm (2^21) y) (md a0 a1 a2):=by
 rw [zv]
 exact (bg.take hg.1).map fun x hx=>Z105.fo ⟨hx,hg.2⟩
end Z106
namespace Z107
def F (x0:bN)(x1:Int):aD:=(call (Z11.R (x1,x0.cg,x0.cm)) fun v1=>ret v1)
def md (a0:au)(a1:Int):Bool:=((Z11.md a1 a0.cg a0.cm))
def gd (a0:au)(a1:Int):Prop:=True
def R:=cI gd md
def aj {a0 a1}(h:gd a0 a1):R ((au.r a0),a1)=some (md a0 a1):=cH h
def aM:=CN [.agg lu,pI] oB RT.dec R
def bn (a0)(a1)(hg:gd a0 a1):F (au.r a0) a1=ret (md a0 a1):=ct (Z11.aj trivial) fz
def af:cj 155 aM:=W2 11 F mix az bn (cO Z11.af) Tryz.func155
end Z107
namespace Z108
inductive Pt where
 | p0 (a b c:Int) (d:aq) (e:Int)
def cM:Pt->List V
 | .p0 a b c d e=>[.int .i64 a,.int .i64 b,.int .i64 c,.sl none 3 d,.int .i64 e]
def step (J:Pt->aD):Pt->aD
 | .p0 a b c d e=>(cond (c>1) (cond ((Int.tmod b 2)==1) (cond (e>=(d.length:Int)) (ret ((0,false):Int×Bool)) (cond ((Int.tmod b 2)==1) (m2 e (d.length:Int) (call (Z28.R ((jz d (toNat e)),a)) fun v1=>J (.p0 v1 (i64.wrap (Int.tdiv b 2)) (i64.wrap (Int.tdiv (i64.wrap (c+1)) 2)) d (i64.wrap (e+1))))) (m2 e (d.length:Int) (call (Z28.R (a,(jz d (toNat e)))) fun v2=>J (.p0 v2 (i64.wrap (Int.tdiv b 2)) (i64.wrap (Int.tdiv (i64.wrap (c+1)) 2)) d (i64.wrap (e+1))))))) (cond ((i64.wrap (b+1))<c) (cond (e>=(d.length:Int)) (ret ((0,false):Int×Bool)) (cond ((Int.tmod b 2)==1) (m2 e (d.length:Int) (call (Z28.R ((jz d (toNat e)),a)) fun v3=>J (.p0 v3 (i64.wrap (Int.tdiv b 2)) (i64.wrap (Int.tdiv (i64.wrap (c+1)) 2)) d (i64.wrap (e+1))))) (m2 e (d.length:Int) (call (Z28.R (a,(jz d (toNat e)))) fun v4=>J (.p0 v4 (i64.wrap (Int.tdiv b 2)) (i64.wrap (Int.tdiv (i64.wrap (c+1)) 2)) d (i64.wrap (e+1))))))) (J (.p0 a (i64.wrap (Int.tdiv b 2)) (i64.wrap (Int.tdiv (i64.wrap (c+1)) 2)) d e)))) (cond (e != (d.length:Int)) (ret ((0,false):Int×Bool)) (ret ((a,true):Int×Bool))))
def start (J:Pt->aD)(x0 x1 x2:Int)(x3:aq):aD:=(call (Z11.R (x2,1,12)) fun v1=>(cond (!v1) (ret ((0,false):Int×Bool)) (call (Z11.R (x1,0,(i64.wrap (x2 - 1)))) fun v2=>(cond (!v2) (ret ((0,false):Int×Bool)) (J (.p0 x0 x1 x2 x3 0))))))
def live:Nat->Live:=gL [(4,jC [0,1,2,3,10])]
def tf:Nat->Int->Int->Int->List Int->Int×Bool
 | 0,_,_,_,_=>(0,false)
 | k+1,leaf,i,n,path=>
  if n>1 then
   if i % 2=1∨i+1<n then
    match path with
    | []=>(0,false)
    | p::ps=>tf k (if i % 2=1 then Z28.md p leaf else Z28.md leaf p) (i / 2) ((n+1) / 2) ps
   else tf k leaf (i / 2) ((n+1) / 2) path
  else if path.isEmpty then (leaf,true) else (0,false)
def md (a0 a1 a2:Int)(a3:List Int):Int×Bool:=(cond (!(Z11.md a2 1 12)) (0,false) (bif !(Z11.md a1 0 (i64.wrap (a2 - 1))) then (0,false) else tf 5 a0 a1 a2 a3))
def gd (a0 a1 a2:Int)(a3:List Int):Prop:=bg (2^38) (fun y:Int=>True) a3
def R:=tQ gd md
def aj {a0 a1 a2 a3}(h:gd a0 a1 a2 a3):R (a0,a1,a2,(a3.map aV))=some ((md a0 a1 a2 a3).1,(md a0 a1 a2 a3).2):=so h
def aM:=CN [pI,pI,pI,pL 3] (.gW [(false,[fI]),(false,[fB])]) RT.dec R
def bn (a0)(a1)(a2)(a3)(hg:gd a0 a1 a2 a3):∃n,start (iter step n) a0 a1 a2 (a3.map aV)=ret ((md a0 a1 a2 a3).1,(md a0 a1 a2 a3).2):=by
 have tm:∀b:Int,0<=b->b<=11->Int.tmod b 2=b % 2:=fun b h1 h2=>Int.tmod_eq_emod_of_nonneg h1
 have td:∀b:Int,0<=b->b<=13->i64.wrap (Int.tdiv b 2)=b / 2:=fun b h1 h2=>by
  rw [Int.tdiv_eq_ediv_of_nonneg h1,Go.IntWalk.i64_in _ (by omega)]
 have t1:∀b:Int,0<=b->b<=13->i64.wrap (b+1)=b+1:=fun b h1 h2=>Go.IntWalk.i64_in _ (by omega)
 obtain ⟨H3,_⟩:=hg
 have key:∀(k:Nat) (leaf i n:Int) (u:Nat),0<=i->i<n->n<=12->n<=2^k->u<=a3.length->∃m,iter step m (Pt.p0 leaf i n (a3.map aV) (u:Int))=ret ((tf (k+1) leaf i n (a3.drop u)).1,(tf (k+1) leaf i n (a3.drop u)).2):=by
  intro k
  induction k with
  | zero=>
   intro leaf i n u h1 h2 h3 h4 h5
   refine ⟨1,?_⟩
   show step (iter step 0) (Pt.p0 _ _ _ _ _)=_
   have hn:n=1:=by omega
   subst hn
   simp only [step,List.length_map]
   refine eH (by decide) ?_
   unfold tf
   rw [if_neg (by omega)]
   by_cases hu:u=a3.length
   ·rw [List.drop_eq_nil_of_le (by omega),show ((u:Int) != (a3.length:Int))=false from bne_eq_false_iff_eq.2 (by omega)];rfl
   ·have hne:(a3.drop u).isEmpty=false:=by
     rw [List.drop_eq_getElem_cons (by omega)];rfl
    rw [hne,show ((u:Int) != (a3.length:Int))=true from bne_iff_ne.2 (by omega)];rfl
  | succ k ih=>
   intro leaf i n u h1 h2 h3 h4 h5
   unfold tf
   by_cases hn:n>1
   ·have e1:=tm i h1 (by omega)
    have e2:=td i h1 (by omega)
    have e3:=t1 n (by omega) (by omega)
    have e4:=td (n+1) (by omega) (by omega)
    have e5:=t1 i h1 (by omega)
    rw [if_pos hn]
    by_cases hc:i % 2=1∨i+1<n
    ·rw [if_pos hc]
     by_cases hu:u=a3.length
     ·refine ⟨1,?_⟩
      show step (iter step 0) (Pt.p0 _ _ _ _ _)=_
      rw [List.drop_eq_nil_of_le (by omega)]
      simp only [step,List.length_map,e1,e5]
      refine aG (decide_eq_true (by omega)) ?_
      by_cases hm:i % 2=1
      ·rw [hm]
       exact aG rfl (aG (decide_eq_true (by omega)) rfl)
      ·refine eH (beq_eq_false_iff_ne.2 hm) (aG (decide_eq_true (by omega)) (aG (decide_eq_true (by omega)) rfl))
     ·have hlt:u<a3.length:=by omega
      rw [List.drop_eq_getElem_cons hlt]
      obtain ⟨m,hm⟩:=ih (if i % 2=1 then Z28.md a3[u] leaf else Z28.md leaf a3[u]) (i / 2) ((n+1) / 2) (u+1) (by omega) (by omega) (by omega) (by omega) (by omega)
      refine ⟨m+1,?_⟩
      show step (iter step m) (Pt.p0 _ _ _ _ _)=_
      have w:i64.wrap ((u:Int)+1)=((u+1:Nat):Int):=by rw [Go.IntWalk.i64_in _ (by omega)];omega
      simp only [step,List.length_map,e1,e2,e3,e4,e5,w,gv,iu,fH hlt]
      refine aG (decide_eq_true (by omega)) ?_
      by_cases hp:i % 2=1
      ·rw [if_pos hp] at hm
       rw [hp]
       refine aG rfl (eH (decide_eq_false (by omega)) (aG rfl (aG (decide_eq_true (by omega)) (aG (decide_eq_true (by omega)) (cG _ (Z28.aj trivial) ?_)))))
       rw [if_pos rfl]
       exact hm
      ·rw [if_neg hp] at hm
       have hb:(i % 2==1)=false:=beq_eq_false_iff_ne.2 hp
       rw [hb]
       refine eH rfl (aG (decide_eq_true (by omega)) (eH (decide_eq_false (by omega)) (eH rfl (aG (decide_eq_true (by omega)) (aG (decide_eq_true (by omega)) (cG _ (Z28.aj trivial) ?_))))))
       rw [if_neg hp]
       exact hm
    ·rw [if_neg hc]
     obtain ⟨m,hm⟩:=ih leaf (i / 2) ((n+1) / 2) u (by omega) (by omega) (by omega) (by omega) h5
     refine ⟨m+1,?_⟩
     show step (iter step m) (Pt.p0 _ _ _ _ _)=_
     simp only [step,List.length_map,e1,e2,e3,e4,e5]
     have hb:(i % 2==1)=false:=beq_eq_false_iff_ne.2 (by omega)
     rw [hb]
     exact aG (decide_eq_true (by omega)) (eH rfl (eH (decide_eq_false (by omega)) hm))
   ·refine ⟨1,?_⟩
    show step (iter step 0) (Pt.p0 _ _ _ _ _)=_
    have hn1:n=1:=by omega
    subst hn1
    simp only [step,List.length_map]
    refine eH (by decide) ?_
    rw [if_neg (by omega)]
    by_cases hu:u=a3.length
    ·rw [List.drop_eq_nil_of_le (by omega),show ((u:Int) != (a3.length:Int))=false from bne_eq_false_iff_eq.2 (by omega)];rfl
    ·have hne:(a3.drop u).isEmpty=false:=by
      rw [List.drop_eq_getElem_cons (by omega)];rfl
     rw [hne,show ((u:Int) != (a3.length:Int))=true from bne_iff_ne.2 (by omega)];rfl
 unfold start md
 refine fu _ (Z11.aj trivial) ?_
 cases hc:Z11.md a2 1 12
 ·exact ⟨0,rfl⟩
 simp only [Bool.not_true,aR]
 refine fu _ (Z11.aj trivial) ?_
 cases hd:Z11.md a1 0 (i64.wrap (a2 - 1))
 ·exact ⟨0,rfl⟩
 have i1:1<=a2/\a2<=12:=by simpa [Z11.md] using hc
 rw [Go.IntWalk.i64_in _ (by omega)] at hd
 have i2:0<=a1/\a1<=a2 - 1:=by simpa [Z11.md] using hd
 exact key 4 a0 a1 a2 0 (by omega) (by omega) (by omega) (by omega) (by omega)
def af:cj 314 aM:=L4 63 (fun _=>4) cM (fun _=>[]) live step start mix az bn (fc Z11.af Z28.af) Tryz.func314
end Z108
namespace Z109
def F (x0 x1:Int)(x2:bk)(x3:eC):aD:=(call (Z26.R x2) fun v1=>(call (Z108.R (v1,x3.eG,x1,x3.bC)) fun v2=>(call (Z14.R x2) fun v3=>(cond v3 (cond v2.2 (call (Z31.R (x1,v2.1)) fun v4=>ret ((v4==x0))) (ret false)) (ret false)))))
def md (a0 a1:Int)(a2:ah)(a3:aT):Bool:=(cond (Z14.md a2) (cond ((Z108.md (Z26.md a2) a3.eG a1 a3.bC).2) (((Z31.md a1 ((Z108.md (Z26.md a2) a3.eG a1 a3.bC).1))==a0)) false) false)
def gd (a0 a1:Int)(a2:ah)(a3:aT):Prop:=(ah.Sm (2^21) a2)/\(aT.Sm (2^21) a3)
def R:=tQ gd md
def aj {a0 a1 a2 a3}(h:gd a0 a1 a2 a3):R (a0,a1,(ah.r a2),(aT.r a3))=some (md a0 a1 a2 a3):=so h
def aM:=CN [pI,pI,.agg vZ,.agg BS] oB RT.dec R
def bn (a0)(a1)(a2)(a3)(hg:gd a0 a1 a2 a3):F a0 a1 (ah.r a2) (aT.r a3)=ret (md a0 a1 a2 a3):=by
 obtain ⟨H2,H3⟩:=hg
 refine ct (Z26.aj H2) (ct (Z108.aj (H3.mono (by decide) (fun x hx=>trivial))) ?_)
 refine ct (Z14.aj H2) (bs (fun c1=>?_) (fun _=>rfl))
 refine bs (fun c2=>?_) (fun _=>rfl)
 exact ct (Z31.aj trivial) fz
def af:cj 247 aM:=W4 34 F mix az bn (nP Z26.af Z108.af Z14.af Z31.af) Tryz.func247
end Z109
namespace Z110
inductive Pt where
 | p0 (a b:aq) (c:Int)
def cM:Pt->List V
 | .p0 a b c=>[.sl none 9 a,.sl none 9 b,.int .i64 c]
def step (J:Pt->aD):Pt->aD
 | .p0 a b c=>(cond (c<(a.length:Int)) (m2 c (a.length:Int) (m2 c (b.length:Int) (cond (!((tS a (toNat c))==(tS b (toNat c)))) eM (J (.p0 a b (i64.wrap (c+1))))))) nS)
def start (J:Pt->aD)(x0 x1:aq):aD:=(cond (x0.length != (x1.length:Int)) (ret false) (J (.p0 x0 x1 0)))
def live:Nat->Live:=gL [(4,jC [0,1,5])]
def md (a0 a1:List av):Bool:=(bif (a0.length != (a1.length:Int)) then false else (eB (S:=Unit) (β:=Bool) (fun i2 s4=>(cond (!((a0.getD i2 ⟨#[]⟩)==(a1.getD i2 ⟨#[]⟩))) (.inr false) (.inl ()))) (fun s4=>true) a0.length 0 ()))
def gd (a0 a1:List av):Prop:=(bg (2^21) (fun y:av=>y.size<=(2^21)) a0)/\(bg (2^21) (fun y:av=>y.size<=(2^21)) a1)
def R:=cI gd md
def aj {a0 a1}(h:gd a0 a1):R ((a0.map dL),(a1.map dL))=some (md a0 a1):=cH h
def aM:=CN [pL 9,pL 9] oB RT.dec R
def bn (a0)(a1)(hg:gd a0 a1):∃n,start (iter step n) (a0.map dL) (a1.map dL)=ret (md a0 a1):=by
 obtain ⟨H0,H1⟩:=hg
 unfold start md
 simp only [SS]
 refine gE ret (fun _=>⟨0,rfl⟩) (fun c1=>?_)
 have dc1:=c1
 simp only [DC] at dc1
 have Bh3:=bl H0
 refine dy fz (bH (pt:=fun (i2:Nat) (s4:Unit)=>Pt.p0 (a0.map dL) (a1.map dL) (i2:Int)) (fun _ _=>True) (fun J i2 s4 h3 hih3=>?_) (fun s4 hih3=>?_) trivial)
 ·simp only [step,SS]
  refine aP.yes dt (aP.yes bB ?_)
  refine aP.yes (bQ h3) (aP.yes bB ?_)
  refine aP.yes dt (aP.bif (fun _=>aP.inr rfl) (fun c5=>?_))
  refine aP.inl trivial ?_
  rw [aF h3 Bh3]
 ·simp only [step,SS]
  refine cL dn (⟨0,?_⟩)
  exact fz
def af:cj 383 aM:=L2 26 (fun _=>4) cM (fun _=>[]) live step start mix az bn .nil Tryz.func383
def md_eq (a0 a1:List av):md a0 a1=iV a0 a1:=by
 refine iR (⟨#[]⟩) (fun i s h h2=>?_) (fun s=>rfl)
 simp only [bne,jQ,bool_beq,gp]
 cases iV _ _<;>rfl
end Z110
namespace Z111
def F (x0 x1:bk):aD:=(cond (x0.aS==x1.aS) (cond (x0.bt==x1.bt) (cond (x0.bO==x1.bO) (call (Z110.R (x0.bC,x1.bC)) fun v1=>ret v1) (ret false)) (ret false)) (ret false))
def md (a0 a1:ah):Bool:=(cond (a0.aS==a1.aS) (cond (a0.bt==a1.bt) (cond (a0.bO==a1.bO) ((Z110.md a0.bC a1.bC)) false) false) false)
def gd (a0 a1:ah):Prop:=(ah.Sm (2^21) a0)/\(ah.Sm (2^21) a1)
def R:=cI gd md
def aj {a0 a1}(h:gd a0 a1):R ((ah.r a0),(ah.r a1))=some (md a0 a1):=cH h
def aM:=CN [.agg vZ,.agg vZ] oB RT.dec R
def bn (a0)(a1)(hg:gd a0 a1):F (ah.r a0) (ah.r a1)=ret (md a0 a1):=by
 obtain ⟨H0,H1⟩:=hg
 refine bs (fun c1=>?_) (fun _=>rfl)
 refine bs (fun c2=>?_) (fun _=>rfl)
 refine bs (fun c3=>?_) (fun _=>rfl)
 exact ct (Z110.aj ⟨H0.2,H1.2⟩) fz
def af:cj 318 aM:=W2 31 F mix az bn (cO Z110.af) Tryz.func318
def md_eq (a0 a1:ah):md a0 a1=iV a0 a1:=by
 unfold md
 cases a0;cases a1
 rw [Bool.eq_iff_iff]
 simp [dO,gp,ah.mk.injEq,Z110.md_eq]
end Z111
namespace Z112
def F (x0 x1:eC):aD:=(cond (x0.eG==x1.eG) (call (Z52.R (x0.bC,x1.bC)) fun v1=>ret v1) (ret false))
def md (a0 a1:aT):Bool:=(cond (a0.eG==a1.eG) ((Z52.md a0.bC a1.bC)) false)
def gd (a0 a1:aT):Prop:=(aT.Sm (2^21) a0)/\(aT.Sm (2^21) a1)
def R:=cI gd md
def aj {a0 a1}(h:gd a0 a1):R ((aT.r a0),(aT.r a1))=some (md a0 a1):=cH h
def aM:=CN [.agg BS,.agg BS] oB RT.dec R
def bn (a0)(a1)(hg:gd a0 a1):F (aT.r a0) (aT.r a1)=ret (md a0 a1):=by
 obtain ⟨H0,H1⟩:=hg
 refine bs (fun c1=>?_) (fun _=>rfl)
 exact ct (Z52.aj ⟨(H0.mono (by decide) (fun x hx=>trivial)),(H1.mono (by decide) (fun x hx=>trivial))⟩) fz
def af:cj 319 aM:=W2 17 F mix az bn (cO Z52.af) Tryz.func319
def md_eq (a0 a1:aT):md a0 a1=iV a0 a1:=by
 unfold md
 cases a0;cases a1
 rw [Bool.eq_iff_iff]
 simp [dO,gp,aT.mk.injEq,Z52.md_eq]
end Z112
namespace Z113
def F (x0 x1:fK):aD:=(cond (x0.eG==x1.eG) (call (Z111.R (x0.bp,x1.bp)) fun v1=>(cond v1 (call (Z111.R (x0.bY,x1.bY)) fun v2=>(cond v2 (call (Z112.R (x0.eL,x1.eL)) fun v3=>(cond v3 (call (Z112.R (x0.cE,x1.cE)) fun v4=>ret v4) (ret false))) (ret false))) (ret false))) (ret false))
def md (a0 a1:bS):Bool:=(cond (a0.eG==a1.eG) (cond (Z111.md a0.bp a1.bp) (cond (Z111.md a0.bY a1.bY) (cond (Z112.md a0.eL a1.eL) ((Z112.md a0.cE a1.cE)) false) false) false) false)
def gd (a0 a1:bS):Prop:=(bS.Sm (2^21) a0)/\(bS.Sm (2^21) a1)
def R:=cI gd md
def aj {a0 a1}(h:gd a0 a1):R ((bS.r a0),(bS.r a1))=some (md a0 a1):=cH h
def aM:=CN [.agg Dw,.agg Dw] oB RT.dec R
def bn (a0)(a1)(hg:gd a0 a1):F (bS.r a0) (bS.r a1)=ret (md a0 a1):=by
 obtain ⟨H0,H1⟩:=hg
 refine bs (fun c1=>?_) (fun _=>rfl)
 refine ct (Z111.aj ⟨H0.1,H1.1⟩) (bs (fun c2=>?_) (fun _=>rfl))
 refine ct (Z111.aj ⟨H0.2.1,H1.2.1⟩) (bs (fun c3=>?_) (fun _=>rfl))
 refine ct (Z112.aj ⟨H0.2.2.1,H1.2.2.1⟩) (bs (fun c4=>?_) (fun _=>rfl))
 exact ct (Z112.aj ⟨H0.2.2.2,H1.2.2.2⟩) fz
def af:cj 248 aM:=W2 38 F mix az bn (fc Z111.af Z112.af) Tryz.func248
def md_eq (a0 a1:bS):md a0 a1=iV a0 a1:=by
 unfold md
 cases a0;cases a1
 rw [Bool.eq_iff_iff]
 simp [dO,gp,bS.mk.injEq,Z111.md_eq,Z112.md_eq]
end Z113
namespace Z114
def F (x0:bk)(x1:eC):aD:=(call (Z111.R (x0,(⟨(⟨#[]⟩:av),0,0,[]⟩))) fun v1=>(cond v1 (call (Z112.R (x1,(⟨0,[]⟩))) fun v2=>ret v2) (ret false)))
def md (a0:ah)(a1:aT):Bool:=(cond (Z111.md a0 (⟨((⟨#[]⟩:av)),0,0,[]⟩)) ((Z112.md a1 (⟨0,[]⟩))) false)
def gd (a0:ah)(a1:aT):Prop:=(ah.Sm (2^21) a0)/\(aT.Sm (2^21) a1)
def R:=cI gd md
def aj {a0 a1}(h:gd a0 a1):R ((ah.r a0),(aT.r a1))=some (md a0 a1):=cH h
def aM:=CN [.agg vZ,.agg BS] oB RT.dec R
def bn (a0)(a1)(hg:gd a0 a1):F (ah.r a0) (aT.r a1)=ret (md a0 a1):=by
 obtain ⟨H0,H1⟩:=hg
 refine ct (Z111.aj (a1:=(⟨((⟨#[]⟩:av):av),0,0,[]⟩:ah)) ⟨H0,⟨(by decide),bg.nil⟩⟩) (bs (fun c1=>?_) (fun _=>rfl))
 exact ct (Z112.aj (a1:=(⟨0,[]⟩:aT)) ⟨H1,bg.nil⟩) fz
def af:cj 250 aM:=W2 13 F mix az bn (fc Z111.af Z112.af) Tryz.func250
end Z114
namespace Z115
def F (x0 x1:Int)(x2:av)(x3:fK):aD:=(call (Z12.R x2) fun v1=>(cond (!v1) (ret false) (call (Z11.R (x3.eG,0,x1)) fun v2=>(cond (!v2) (ret false) (cond (x1==0) (call (Z32.R []) fun v3=>(cond (x0 != v3) (ret false) (cond (x3.eG==0) (call (Z114.R (x3.bp,x3.eL)) fun v4=>(cond (!v4) (ret false) (cond (x3.eG==x1) (call (Z114.R (x3.bY,x3.cE)) fun v5=>ret v5) (call (Z109.R (x0,x1,x3.bY,x3.cE)) fun v6=>(cond v6 (cond (x3.cE.eG==x3.eG) (call (Z8.R (x3.bY.aS,x2)) fun v7=>ret ((v7==1))) (ret false)) (ret false)))))) (call (Z109.R (x0,x1,x3.bp,x3.eL)) fun v8=>(cond (!v8) (ret false) (cond (x3.eL.eG != (i64.wrap (x3.eG - 1))) (ret false) (call (Z8.R (x3.bp.aS,x2)) fun v9=>(cond (v9 != (-1)) (ret false) (cond (x3.eG==x1) (call (Z114.R (x3.bY,x3.cE)) fun v10=>ret v10) (call (Z109.R (x0,x1,x3.bY,x3.cE)) fun v11=>(cond v11 (cond (x3.cE.eG==x3.eG) (call (Z8.R (x3.bY.aS,x2)) fun v12=>ret ((v12==1))) (ret false)) (ret false)))))))))))) (cond (x3.eG==0) (call (Z114.R (x3.bp,x3.eL)) fun v13=>(cond (!v13) (ret false) (cond (x3.eG==x1) (call (Z114.R (x3.bY,x3.cE)) fun v14=>ret v14) (call (Z109.R (x0,x1,x3.bY,x3.cE)) fun v15=>(cond v15 (cond (x3.cE.eG==x3.eG) (call (Z8.R (x3.bY.aS,x2)) fun v16=>ret ((v16==1))) (ret false)) (ret false)))))) (call (Z109.R (x0,x1,x3.bp,x3.eL)) fun v17=>(cond (!v17) (ret false) (cond (x3.eL.eG != (i64.wrap (x3.eG - 1))) (ret false) (call (Z8.R (x3.bp.aS,x2)) fun v18=>(cond (v18 != (-1)) (ret false) (cond (x3.eG==x1) (call (Z114.R (x3.bY,x3.cE)) fun v19=>ret v19) (call (Z109.R (x0,x1,x3.bY,x3.cE)) fun v20=>(cond v20 (cond (x3.cE.eG==x3.eG) (call (Z8.R (x3.bY.aS,x2)) fun v21=>ret ((v21==1))) (ret false)) (ret false)))))))))))))))
def md (a0 a1:Int)(a2:av)(a3:bS):Bool:=(cond (!(Z12.md a2)) false (cond (!(Z11.md a3.eG 0 a1)) false (cond (a1==0) (cond (a0 != (Z32.md [])) false (cond (a3.eG==0) (cond (!(Z114.md a3.bp a3.eL)) false (cond (a3.eG==a1) ((Z114.md a3.bY a3.cE)) (cond (Z109.md a0 a1 a3.bY a3.cE) (cond (a3.cE.eG==a3.eG) (((Z8.md a3.bY.aS a2)==1)) false) false))) (cond (!(Z109.md a0 a1 a3.bp a3.eL)) false (cond (a3.eL.eG != (i64.wrap (a3.eG - 1))) false (cond ((Z8.md a3.bp.aS a2) != (-1)) false (cond (a3.eG==a1) ((Z114.md a3.bY a3.cE)) (cond (Z109.md a0 a1 a3.bY a3.cE) (cond (a3.cE.eG==a3.eG) (((Z8.md a3.bY.aS a2)==1)) false) false))))))) (cond (a3.eG==0) (cond (!(Z114.md a3.bp a3.eL)) false (cond (a3.eG==a1) ((Z114.md a3.bY a3.cE)) (cond (Z109.md a0 a1 a3.bY a3.cE) (cond (a3.cE.eG==a3.eG) (((Z8.md a3.bY.aS a2)==1)) false) false))) (cond (!(Z109.md a0 a1 a3.bp a3.eL)) false (cond (a3.eL.eG != (i64.wrap (a3.eG - 1))) false (cond ((Z8.md a3.bp.aS a2) != (-1)) false (cond (a3.eG==a1) ((Z114.md a3.bY a3.cE)) (cond (Z109.md a0 a1 a3.bY a3.cE) (cond (a3.cE.eG==a3.eG) (((Z8.md a3.bY.aS a2)==1)) false) false)))))))))
def gd (a0 a1:Int)(a2:av)(a3:bS):Prop:=(a2.size<=(2^21))/\(bS.Sm (2^21) a3)
def R:=tQ gd md
def aj {a0 a1 a2 a3}(h:gd a0 a1 a2 a3):R (a0,a1,a2,(bS.r a3))=some (md a0 a1 a2 a3):=so h
def aM:=CN [pI,pI,pS,.agg Dw] oB RT.dec R
def bn (a0)(a1)(a2)(a3)(hg:gd a0 a1 a2 a3):F a0 a1 a2 (bS.r a3)=ret (md a0 a1 a2 a3):=by
 obtain ⟨H2,H3⟩:=hg
 refine ct (Z12.aj (le_trans H2 (by decide))) (bs (fun _=>rfl) (fun c1=>?_))
 refine ct (Z11.aj trivial) (bs (fun _=>rfl) (fun c2=>?_))
 refine bs (fun c3=>?_) (fun c3=>?_)
 ·refine cG _ (rq (Z32.aj bg.nil)) (bs (fun _=>rfl) (fun c4=>?_))
  refine bs (fun c5=>?_) (fun c5=>?_)
  ·refine ct (Z114.aj ⟨H3.1,H3.2.2.1⟩) (bs (fun _=>rfl) (fun c6=>?_))
   refine bs (fun c7=>ct (Z114.aj ⟨H3.2.1,H3.2.2.2⟩) fz) (fun c7=>?_)
   refine ct (Z109.aj ⟨H3.2.1,H3.2.2.2⟩) (bs (fun c8=>?_) (fun _=>rfl))
   refine bs (fun c9=>?_) (fun _=>rfl)
   exact ct (Z8.aj trivial) fz
  ·refine ct (Z109.aj ⟨H3.1,H3.2.2.1⟩) (bs (fun _=>rfl) (fun c10=>?_))
   refine bs (fun _=>rfl) (fun c11=>?_)
   refine ct (Z8.aj trivial) (bs (fun _=>rfl) (fun c12=>?_))
   refine bs (fun c13=>ct (Z114.aj ⟨H3.2.1,H3.2.2.2⟩) fz) (fun c13=>?_)
   refine ct (Z109.aj ⟨H3.2.1,H3.2.2.2⟩) (bs (fun c14=>?_) (fun _=>rfl))
   refine bs (fun c15=>?_) (fun _=>rfl)
   exact ct (Z8.aj trivial) fz
 ·refine bs (fun c16=>?_) (fun c16=>?_)
  ·refine ct (Z114.aj ⟨H3.1,H3.2.2.1⟩) (bs (fun _=>rfl) (fun c17=>?_))
   refine bs (fun c18=>ct (Z114.aj ⟨H3.2.1,H3.2.2.2⟩) fz) (fun c18=>?_)
   refine ct (Z109.aj ⟨H3.2.1,H3.2.2.2⟩) (bs (fun c19=>?_) (fun _=>rfl))
   refine bs (fun c20=>?_) (fun _=>rfl)
   exact ct (Z8.aj trivial) fz
  ·refine ct (Z109.aj ⟨H3.1,H3.2.2.1⟩) (bs (fun _=>rfl) (fun c21=>?_))
   refine bs (fun _=>rfl) (fun c22=>?_)
   refine ct (Z8.aj trivial) (bs (fun _=>rfl) (fun c23=>?_))
   refine bs (fun c24=>ct (Z114.aj ⟨H3.2.1,H3.2.2.2⟩) fz) (fun c24=>?_)
   refine ct (Z109.aj ⟨H3.2.1,H3.2.2.2⟩) (bs (fun c25=>?_) (fun _=>rfl))
   refine bs (fun c26=>?_) (fun _=>rfl)
   exact ct (Z8.aj trivial) fz
def af:cj 249 aM:=W4 95 F mix az bn (vY Z12.af Z11.af Z32.af Z114.af Z109.af Z8.af) Tryz.func249
end Z115
namespace Z116
def F (x0:bN)(x1:av)(x2:bw):aD:=(cond x2.bK (cond (x2.aJ.aS==x1) (call (Z109.R (x0.dx,x0.bZ,x2.aJ,x2.eI)) fun v1=>(cond v1 (call (Z113.R (x2.fq,(⟨0,(⟨(⟨#[]⟩:av),0,0,[]⟩),(⟨(⟨#[]⟩:av),0,0,[]⟩),(⟨0,[]⟩),(⟨0,[]⟩)⟩))) fun v2=>ret v2) (ret false))) (ret false)) (call (Z115.R (x0.dx,x0.bZ,x1,x2.fq)) fun v3=>(cond v3 (call (Z114.R (x2.aJ,x2.eI)) fun v4=>ret v4) (ret false))))
def md (a0:au)(a1:av)(a2:aA):Bool:=(cond a2.bK (cond (a2.aJ.aS==a1) (cond (Z109.md a0.dx a0.bZ a2.aJ a2.eI) ((Z113.md a2.fq (⟨0,(⟨((⟨#[]⟩:av)),0,0,[]⟩),(⟨((⟨#[]⟩:av)),0,0,[]⟩),(⟨0,[]⟩),(⟨0,[]⟩)⟩))) false) false) (cond (Z115.md a0.dx a0.bZ a1 a2.fq) ((Z114.md a2.aJ a2.eI)) false))
def gd (a0:au)(a1:av)(a2:aA):Prop:=(a1.size<=(2^21))/\(aA.Sm (2^21) a2)
def R:=lP gd md
def aj {a0 a1 a2}(h:gd a0 a1 a2):R ((au.r a0),a1,(aA.r a2))=some (md a0 a1 a2):=mq h
def aM:=CN [.agg lu,pS,.agg D3] oB RT.dec R
def bn (a0)(a1)(a2)(hg:gd a0 a1 a2):F (au.r a0) a1 (aA.r a2)=ret (md a0 a1 a2):=by
 obtain ⟨H1,H2⟩:=hg
 refine bs (fun c1=>?_) (fun c1=>?_)
 ·refine bs (fun c2=>?_) (fun _=>rfl)
  refine ct (Z109.aj ⟨H2.2.1,H2.2.2.1⟩) (bs (fun c3=>?_) (fun _=>rfl))
  exact ct (Z113.aj (a1:=(⟨0,(⟨((⟨#[]⟩:av):av),0,0,[]⟩:ah),(⟨((⟨#[]⟩:av):av),0,0,[]⟩:ah),(⟨0,[]⟩:aT),(⟨0,[]⟩:aT)⟩:bS)) ⟨H2.2.2.2,⟨⟨(by decide),bg.nil⟩,⟨(by decide),bg.nil⟩,bg.nil,bg.nil⟩⟩) fz
 ·refine ct (Z115.aj ⟨H1,H2.2.2.2⟩) (bs (fun c4=>?_) (fun _=>rfl))
  exact ct (Z114.aj ⟨H2.2.1,H2.2.2.1⟩) fz
def af:cj 156 aM:=W3 46 F mix az bn (nP Z109.af Z113.af Z115.af Z114.af) Tryz.func156
end Z116
namespace Z117
def F (x0:Int)(x1:av)(x2:bw)(x3:Int):aD:=(call (Z61.R x2.aC) fun v1=>(cond (!v1.2) (ret (3:Int)) (cond (v1.1.aX != x0) (ret (2:Int)) (call (Z107.R (v1.1,x3)) fun v2=>(cond (!v2) (ret (4:Int)) (cond v1.1.bh (ret (5:Int)) (call (Z116.R (v1.1,x1,x2)) fun v3=>(cond (!v3) (ret (6:Int)) (ret (1:Int))))))))))
def md (a0:Int)(a1:av)(a2:aA)(a3:Int):Int:=(cond (!(Z61.md a2.aC).2) (3:Int) (cond ((Z61.md a2.aC).1.aX != a0) (2:Int) (cond (!(Z107.md ((Z61.md a2.aC).1) a3)) (4:Int) (cond ((Z61.md a2.aC).1.bh) (5:Int) (cond (!(Z116.md ((Z61.md a2.aC).1) a1 a2)) (6:Int) (1:Int))))))
def gd (a0:Int)(a1:av)(a2:aA)(a3:Int):Prop:=(a1.size<=(2^21))/\(aA.Sm (2^21) a2)
def R:=tQ gd md
def aj {a0 a1 a2 a3}(h:gd a0 a1 a2 a3):R (a0,a1,(aA.r a2),a3)=some (md a0 a1 a2 a3):=so h
def aM:=CN [pI,pS,.agg D3,pI] oI RT.dec R
def bn (a0)(a1)(a2)(a3)(hg:gd a0 a1 a2 a3):F a0 a1 (aA.r a2) a3=ret (md a0 a1 a2 a3):=by
 obtain ⟨H1,H2⟩:=hg
 refine ct (Z61.aj H2.1) (bs (fun _=>rfl) (fun c1=>?_))
 refine bs (fun _=>rfl) (fun c2=>?_)
 refine ct (Z107.aj trivial) (bs (fun _=>rfl) (fun c3=>?_))
 refine bs (fun _=>rfl) (fun c4=>?_)
 refine ct (Z116.aj ⟨H1,H2⟩) (bs (fun _=>rfl) (fun _=>rfl))
def af:cj 35 aM:=W4 39 F mix az bn (jB Z61.af Z107.af Z116.af) Tryz.func35
end Z117
namespace Z118
inductive Pt where
 | p0 (a:Int) (b c:aU)
def cM:Pt->List V
 | .p0 a b c=>[.bP 0 0,.bP 1 0,.int .i64 a]
def dQ:Pt->List aK
 | .p0 a b c=>[.box [.int .i64 b.an.aX,.int .i64 b.an.cw,.int .i64 b.an.bt,.int .i64 b.an.cg,.int .i64 b.an.cm,.int .i64 b.an.bZ,.int .i64 b.an.dx,.int .i64 b.an.ec,.sl none 3 b.an.bV.bz,.int .i64 b.an.bV.dw,.sl none 3 b.an.bG.bz,.int .i64 b.an.bG.dw,.int .i64 b.an.cW,.sl none 3 b.an.bD.bz,.int .i64 b.an.bD.dw,.bool b.an.bh,.sl none 315 b.dR],.box [.int .i64 c.an.aX,.int .i64 c.an.cw,.int .i64 c.an.bt,.int .i64 c.an.cg,.int .i64 c.an.cm,.int .i64 c.an.bZ,.int .i64 c.an.dx,.int .i64 c.an.ec,.sl none 3 c.an.bV.bz,.int .i64 c.an.bV.dw,.sl none 3 c.an.bG.bz,.int .i64 c.an.bG.dw,.int .i64 c.an.cW,.sl none 3 c.an.bD.bz,.int .i64 c.an.bD.dw,.bool c.an.bh,.sl none 315 c.dR]]
def step (J:Pt->aD):Pt->aD
 | .p0 a b c=>(cond (a<(b.dR.length:Int)) (m2 a (b.dR.length:Int) (m2 a (c.dR.length:Int) (cond (!((((bE.at b.dR (toNat a)).jJ:Int)==(bE.at c.dR (toNat a)).jJ)&&((((bE.at b.dR (toNat a)).pg:Int)==(bE.at c.dR (toNat a)).pg)&&true))) eM (J (.p0 (i64.wrap (a+1)) b c))))) nS)
def start (J:Pt->aD)(x0 x1:aU):aD:=(call (Z89.R (x0.an,x1.an)) fun v1=>(cond (!v1) (ret false) (cond (x0.dR.length != (x1.dR.length:Int)) (ret false) (J (.p0 0 x0 x1)))))
def live:Nat->Live:=gL [(4,jC [2,3,5])]
def md (a0 a1:aa):Bool:=(bif (!(Z89.md a0.an a1.an)) then false else (bif (a0.dR.length != (a1.dR.length:Int)) then false else (eB (S:=Unit) (β:=Bool) (fun i3 s5=>(cond (!((((a0.dR.getD i3 bE.zero).jJ)==(a1.dR.getD i3 bE.zero).jJ)&&((((a0.dR.getD i3 bE.zero).pg)==(a1.dR.getD i3 bE.zero).pg)&&true))) (.inr false) (.inl ()))) (fun s5=>true) a0.dR.length 0 ())))
def gd (a0 a1:aa):Prop:=(aa.Sm (2^21) a0)/\(aa.Sm (2^21) a1)
def R:=cI gd md
def aj {a0 a1}(h:gd a0 a1):R ((aa.r a0),(aa.r a1))=some (md a0 a1):=cH h
def aM:=CN [.agg wh,.agg wh] oB RT.dec R
def bn (a0)(a1)(hg:gd a0 a1):∃n,start (iter step n) (aa.r a0) (aa.r a1)=ret (md a0 a1):=by
 obtain ⟨H0,H1⟩:=hg
 unfold start md
 simp only [SS]
 refine cx (Z89.aj ⟨H0.1,H1.1⟩) (gE ret (fun _=>⟨0,rfl⟩) (fun c1=>?_))
 refine gE ret (fun _=>⟨0,rfl⟩) (fun c2=>?_)
 have dc2:=c2
 simp only [DC] at dc2
 have Bh4:=bl H0.2
 refine dy fz (bH (pt:=fun (i3:Nat) (s5:Unit)=>Pt.p0 (i3:Int) (aa.r a0) (aa.r a1)) (fun _ _=>True) (fun J i3 s5 h4 hih4=>?_) (fun s5 hih4=>?_) trivial)
 ·simp only [step,SS]
  refine aP.yes dt (aP.yes bB ?_)
  refine aP.yes (bQ h4) (aP.yes bB ?_)
  refine aP.yes (have:=(H1.2).1;dt) (aP.bif (fun _=>aP.inr rfl) (fun c6=>?_))
  refine aP.inl trivial ?_
  rw [aF h4 Bh4]
 ·simp only [step,SS]
  refine cL dn (⟨0,?_⟩)
  exact fz
def af:cj 225 aM:=L2 39 (fun _=>4) cM dQ live step start mix az bn (cO Z89.af) Tryz.func225
def md_eq (a0 a1:aa):md a0 a1=iV a0 a1:=by
 unfold md
 simp only [Z89.md_eq,jQ,bE.eqc]
 rw [iR bE.zero (fun i s h h2=>by cases iV (a0.dR.getD i bE.zero) (a1.dR.getD i bE.zero)<;>rfl) (fun s=>rfl)]
 rw [Bool.eq_iff_iff]
 cases a0;cases a1
 simp [dO]
end Z118
namespace Z119
def F (x0:cB):aD:=(call (Z89.R (x0.fA.an,x0.fB.an)) fun v1=>(cond v1 (ret false) (call (Z118.R (x0.bp,(⟨(⟨0,0,0,0,0,0,0,0,(⟨[],0⟩),(⟨[],0⟩),0,(⟨[],0⟩),false⟩),[]⟩))) fun v2=>(cond v2 (call (Z49.R x0.fA) fun v3=>(cond v3 (call (Z49.R x0.fB) fun v4=>(cond v4 (ret ((x0.fA.an.aX==x0.fB.an.aX))) (ret false))) (ret false))) (call (Z58.R (x0.bp.an,x0.fA)) fun v5=>(cond v5 (call (Z58.R (x0.bp.an,x0.fB)) fun v6=>ret v6) (ret false)))))))
def md (a0:aN):Bool:=(cond (Z89.md a0.fA.an a0.fB.an) false (cond (Z118.md a0.bp (⟨(⟨0,0,0,0,0,0,0,0,(⟨[],0⟩),(⟨[],0⟩),0,(⟨[],0⟩),false⟩),[]⟩)) (cond (Z49.md a0.fA) (cond (Z49.md a0.fB) ((a0.fA.an.aX==a0.fB.an.aX)) false) false) (cond (Z58.md a0.bp.an a0.fA) ((Z58.md a0.bp.an a0.fB)) false)))
def gd (a0:aN):Prop:=(aN.Sm (2^21) a0)
def R:=RR gd md
def aj {a0}(h:gd a0):R (aN.r a0)=some (md a0):=cQ h
def aM:=CN [.agg vK] oB RT.dec R
def bn (a0)(H0:gd a0):F (aN.r a0)=ret (md a0):=by
 refine ct (Z89.aj ⟨H0.2.1.1,H0.2.2.1⟩) (bs (fun _=>rfl) (fun c1=>?_))
 refine ct (Z118.aj (a1:=(⟨(⟨0,0,0,0,0,0,0,0,(⟨[],0⟩:aL),(⟨[],0⟩:aL),0,(⟨[],0⟩:aL),false⟩:au),[]⟩:aa)) ⟨H0.1,⟨⟨bg.nil,bg.nil,bg.nil⟩,bg.nil⟩⟩) (bs (fun c2=>?_) (fun c2=>?_))
 ·refine ct (Z49.aj H0.2.1) (bs (fun c3=>?_) (fun _=>rfl))
  refine ct (Z49.aj H0.2.2) (bs (fun c4=>?_) (fun _=>rfl))
  exact fz
 ·refine ct (Z58.aj ⟨H0.1.1,H0.2.1⟩) (bs (fun c5=>?_) (fun _=>rfl))
  exact ct (Z58.aj ⟨H0.1.1,H0.2.2⟩) fz
def af:cj 133 aM:=W1 47 F mix az bn (nP Z89.af Z118.af Z49.af Z58.af) Tryz.func133
end Z119
namespace Z120
def F (x0:cB):aD:=(call (Z119.R x0) fun v1=>(cond (!v1) mV (ret x0.fA.an.aX)))
def md (a0:aN):Int:=(cond (!(Z119.md a0)) ((-1):Int) a0.fA.an.aX)
def gd (a0:aN):Prop:=(aN.Sm (2^21) a0)
def R:=RR gd md
def aj {a0}(h:gd a0):R (aN.r a0)=some (md a0):=cQ h
def aM:=CN [.agg vK] oI RT.dec R
def bn (a0)(H0:gd a0):F (aN.r a0)=ret (md a0):=by
 refine ct (Z119.aj H0) (bs (fun _=>rfl) (fun c1=>?_))
 exact fz
def af:cj 261 aM:=W1 10 F mix az bn (cO Z119.af) Tryz.func261
end Z120
namespace Z121
inductive Pt where
 | p0 (a b:Int) (c:aW)
def cM:Pt->List V
 | .p0 a b c=>[.int .i64 a,.bP 0 0,.int .i64 b]
def dQ:Pt->List aK
 | .p0 a b c=>[.box [.sl none 37 c.ay,.sl none 170 c.aY]]
def step (J:Pt->aD):Pt->aD
 | .p0 a b c=>(cond (b<(c.aY.length:Int)) (m2 b (c.aY.length:Int) (call (Z120.R (cB.at c.aY (toNat b))) fun v1=>(cond (v1==a) (cond (a>=0) nS (J (.p0 a (i64.wrap (b+1)) c))) (J (.p0 a (i64.wrap (b+1)) c))))) eM)
def start (J:Pt->aD)(x0:aW)(x1:Int):aD:=J (.p0 x1 0 x0)
def live:Nat->Live:=gL [(2,jC [1,2,5])]
def md (a0:ak)(a1:Int):Bool:=(dM (S:=Unit) (β:=Bool) (fun y1 s3=>(cond ((Z120.md y1)==a1) (cond (a1>=0) (.inr true) (.inl ())) (.inl ()))) (fun s3=>false) a0.aY ())
def gd (a0:ak)(a1:Int):Prop:=(ak.Sm (2^21) a0)
def R:=cI gd md
def aj {a0 a1}(h:gd a0 a1):R ((ak.r a0),a1)=some (md a0 a1):=cH h
def aM:=CN [.agg wg,pI] oB RT.dec R
def bn (a0)(a1)(H0:gd a0 a1):∃n,start (iter step n) (ak.r a0) a1=ret (md a0 a1):=by
 have Bh2:=bl H0.2
 refine ex_eq (dZ (z:=aN.zero)) (dy fz ?_)
 refine bH (pt:=fun (i1:Nat) (s3:Unit)=>Pt.p0 a1 (i1:Int) (ak.r a0)) (fun _ _=>True) (fun J i1 s3 h2 hih2=>?_) (fun s3 hih2=>?_) trivial
 ·simp only [step,SS]
  refine aP.yes dt (aP.yes bB ?_)
  refine aP.yes (bQ h2) (cr (Z120.aj (bg.getD H0.2 h2)) ?_)
  refine aP.bif (fun c4=>?_) (fun c4=>?_)
  ·refine aP.bif (fun _=>aP.inr rfl) (fun c5=>?_)
   refine aP.inl trivial ?_
   rw [aF h2 Bh2]
  ·refine aP.inl trivial ?_
   rw [aF h2 Bh2]
 ·simp only [step,SS]
  refine cL dn (⟨0,?_⟩)
  exact fz
def af:cj 167 aM:=L2 25 (fun _=>2) cM dQ live step start mix az bn (cO Z120.af) Tryz.func167
end Z121
namespace Z122
inductive Pt where
 | p0 (a:aq) (b:Int) (c:av) (d e:Int) (f:Bool) (g:av) (h i:Int) (j k:Bool) (l:av) (m n:Int) (o:Bool) (p q s:aq)
def cM:Pt->List V
 | .p0 a b c d e f g h i j k l m n o p q s=>[.sl none 68 a,.int .i64 b,.str c,.int .i64 d,.bP 0 0,.bP 1 0,.int .i64 e,.bP 1 0]
def dQ:Pt->List aK
 | .p0 a b c d e f g h i j k l m n o p q s=>[.box [.nil,.nil,.bool f,.str g,.int .i64 h,.int .i64 i,.nil,.bool j,.nil],.box [.own 2,.own 3,.bool k,.str l,.int .i64 m,.int .i64 n,.nil,.bool o,.own 4],.row 37 p,.row 170 q,.row 3 s]
def step (J:Pt->aD):Pt->aD
 | .p0 a b c d e f g h i j k l m n o p q s=>(cond (e<(a.length:Int)) (m2 e (a.length:Int) (call (Z61.R ((bw.at a (toNat e)).aC)) fun v1=>(cond v1.2 (cond (v1.1.aX==b) (call (Z93.R ((⟨p,q⟩:aW),(bw.at a (toNat e)).aC)) fun v2=>(call (Z117.R (b,c,(bw.at a (toNat e)),d)) fun v3=>(cond (v2.2==1) (cond (v3==1) (call (Z121.R (v2.1,b)) fun v4=>(cond v4 (cA (eK (((s.length:Int)+1)*8)) (J (.p0 a b c d (i64.wrap (e+1)) f g h i j k l m n o v2.1.ay v2.1.aY (s++[[L.int 3]])))) (cA (eK (((s.length:Int)+1)*8)) (cond (v3==1) (call (Z10.R ((bw.at a (toNat e)).aJ)) fun v5=>ret ((⟨v2.1,(bw.at a (toNat e)).bK,v5,true,(s++[[L.int v3]])⟩:cP):cP)) (J (.p0 a b c d (i64.wrap (e+1)) f g h i j k l m n o v2.1.ay v2.1.aY (s++[[L.int v3]]))))))) (cA (eK (((s.length:Int)+1)*8)) (cond (v3==1) (call (Z10.R ((bw.at a (toNat e)).aJ)) fun v6=>ret ((⟨v2.1,(bw.at a (toNat e)).bK,v6,true,(s++[[L.int v3]])⟩:cP):cP)) (J (.p0 a b c d (i64.wrap (e+1)) f g h i j k l m n o v2.1.ay v2.1.aY (s++[[L.int v3]])))))) (cond (v2.2==2) (cond (v3==1) (call (Z121.R (v2.1,b)) fun v7=>(cond v7 (cA (eK (((s.length:Int)+1)*8)) (J (.p0 a b c d (i64.wrap (e+1)) f g h i j k l m n o v2.1.ay v2.1.aY (s++[[L.int 3]])))) (cA (eK (((s.length:Int)+1)*8)) (cond (v3==1) (call (Z10.R ((bw.at a (toNat e)).aJ)) fun v8=>ret ((⟨v2.1,(bw.at a (toNat e)).bK,v8,true,(s++[[L.int v3]])⟩:cP):cP)) (J (.p0 a b c d (i64.wrap (e+1)) f g h i j k l m n o v2.1.ay v2.1.aY (s++[[L.int v3]]))))))) (cA (eK (((s.length:Int)+1)*8)) (cond (v3==1) (call (Z10.R ((bw.at a (toNat e)).aJ)) fun v9=>ret ((⟨v2.1,(bw.at a (toNat e)).bK,v9,true,(s++[[L.int v3]])⟩:cP):cP)) (J (.p0 a b c d (i64.wrap (e+1)) f g h i j k l m n o v2.1.ay v2.1.aY (s++[[L.int v3]])))))) (cond (v3==1) (cond (!(v2.2==3)) (cA (eK (((s.length:Int)+1)*8)) (J (.p0 a b c d (i64.wrap (e+1)) f g h i j k l m n o v2.1.ay v2.1.aY (s++[[L.int 3]])))) (call (Z121.R (v2.1,b)) fun v10=>(cond v10 (cA (eK (((s.length:Int)+1)*8)) (J (.p0 a b c d (i64.wrap (e+1)) f g h i j k l m n o v2.1.ay v2.1.aY (s++[[L.int 3]])))) (cA (eK (((s.length:Int)+1)*8)) (cond (v3==1) (call (Z10.R ((bw.at a (toNat e)).aJ)) fun v11=>ret ((⟨v2.1,(bw.at a (toNat e)).bK,v11,true,(s++[[L.int v3]])⟩:cP):cP)) (J (.p0 a b c d (i64.wrap (e+1)) f g h i j k l m n o v2.1.ay v2.1.aY (s++[[L.int v3]])))))))) (cA (eK (((s.length:Int)+1)*8)) (cond (v3==1) (call (Z10.R ((bw.at a (toNat e)).aJ)) fun v12=>ret ((⟨v2.1,(bw.at a (toNat e)).bK,v12,true,(s++[[L.int v3]])⟩:cP):cP)) (J (.p0 a b c d (i64.wrap (e+1)) f g h i j k l m n o v2.1.ay v2.1.aY (s++[[L.int v3]])))))))))) (call (Z117.R (b,c,(bw.at a (toNat e)),d)) fun v13=>(cond (v13==1) (cA (eK (((s.length:Int)+1)*8)) (J (.p0 a b c d (i64.wrap (e+1)) f g h i j k l m n o p q (s++[[L.int 3]])))) (cA (eK (((s.length:Int)+1)*8)) (cond (v13==1) (call (Z10.R ((bw.at a (toNat e)).aJ)) fun v14=>ret ((⟨(⟨p,q⟩:aW),(bw.at a (toNat e)).bK,v14,true,(s++[[L.int v13]])⟩:cP):cP)) (J (.p0 a b c d (i64.wrap (e+1)) f g h i j k l m n o p q (s++[[L.int v13]])))))))) (call (Z117.R (b,c,(bw.at a (toNat e)),d)) fun v15=>(cond (v15==1) (cA (eK (((s.length:Int)+1)*8)) (J (.p0 a b c d (i64.wrap (e+1)) f g h i j k l m n o p q (s++[[L.int 3]])))) (cA (eK (((s.length:Int)+1)*8)) (cond (v15==1) (call (Z10.R ((bw.at a (toNat e)).aJ)) fun v16=>ret ((⟨(⟨p,q⟩:aW),(bw.at a (toNat e)).bK,v16,true,(s++[[L.int v15]])⟩:cP):cP)) (J (.p0 a b c d (i64.wrap (e+1)) f g h i j k l m n o p q (s++[[L.int v15]])))))))))) (ret ((⟨(⟨p,q⟩:aW),k,(⟨l,m,n,[]⟩:bk),o,s⟩:cP):cP)))
def start (J:Pt->aD)(x0:aW)(x1:aq)(x2:Int)(x3:av)(x4:Int):aD:=(call (Z87.R x0) fun v1=>J (.p0 x1 x2 x3 x4 0 false ⟨#[]⟩ 0 0 false false ⟨#[]⟩ 0 0 false v1.ay v1.aY []))
def live:Nat->Live:=gL [(3,[(1,none),(2,none),(3,none),(4,none),(10,none),(11,none),(12,none),(11,some 8388611)])]
def md (a0:ak)(a1:List aA)(a2:Int)(a3:av)(a4:Int):bF:=(dM (S:=List (List aa)×List aN×List Int) (β:=bF) (fun (y1:aA) (s3:List (List aa)×List aN×List Int)=>(cond ((Z61.md (y1.aC)).2) (cond ((Z61.md (y1.aC)).1.aX==a2) (cond ((Z93.md (⟨s3.1,s3.2.1⟩:ak) (y1.aC)).2==1) (cond ((Z117.md a2 a3 y1 a4)==1) (cond (Z121.md ((Z93.md (⟨s3.1,s3.2.1⟩:ak) (y1.aC)).1) a2) (.inl ((Z93.md (⟨s3.1,s3.2.1⟩:ak) (y1.aC)).1.ay,(Z93.md (⟨s3.1,s3.2.1⟩:ak) (y1.aC)).1.aY,(s3.2.2++[3]))) (cond ((Z117.md a2 a3 y1 a4)==1) (.inr (⟨(Z93.md (⟨s3.1,s3.2.1⟩:ak) (y1.aC)).1,y1.bK,(y1.aJ),true,(s3.2.2++[(Z117.md a2 a3 y1 a4)])⟩:bF)) (.inl ((Z93.md (⟨s3.1,s3.2.1⟩:ak) (y1.aC)).1.ay,(Z93.md (⟨s3.1,s3.2.1⟩:ak) (y1.aC)).1.aY,(s3.2.2++[(Z117.md a2 a3 y1 a4)]))))) (cond ((Z117.md a2 a3 y1 a4)==1) (.inr (⟨(Z93.md (⟨s3.1,s3.2.1⟩:ak) (y1.aC)).1,y1.bK,(y1.aJ),true,(s3.2.2++[(Z117.md a2 a3 y1 a4)])⟩:bF)) (.inl ((Z93.md (⟨s3.1,s3.2.1⟩:ak) (y1.aC)).1.ay,(Z93.md (⟨s3.1,s3.2.1⟩:ak) (y1.aC)).1.aY,(s3.2.2++[(Z117.md a2 a3 y1 a4)]))))) (cond ((Z93.md (⟨s3.1,s3.2.1⟩:ak) (y1.aC)).2==2) (cond ((Z117.md a2 a3 y1 a4)==1) (cond (Z121.md ((Z93.md (⟨s3.1,s3.2.1⟩:ak) (y1.aC)).1) a2) (.inl ((Z93.md (⟨s3.1,s3.2.1⟩:ak) (y1.aC)).1.ay,(Z93.md (⟨s3.1,s3.2.1⟩:ak) (y1.aC)).1.aY,(s3.2.2++[3]))) (cond ((Z117.md a2 a3 y1 a4)==1) (.inr (⟨(Z93.md (⟨s3.1,s3.2.1⟩:ak) (y1.aC)).1,y1.bK,(y1.aJ),true,(s3.2.2++[(Z117.md a2 a3 y1 a4)])⟩:bF)) (.inl ((Z93.md (⟨s3.1,s3.2.1⟩:ak) (y1.aC)).1.ay,(Z93.md (⟨s3.1,s3.2.1⟩:ak) (y1.aC)).1.aY,(s3.2.2++[(Z117.md a2 a3 y1 a4)]))))) (cond ((Z117.md a2 a3 y1 a4)==1) (.inr (⟨(Z93.md (⟨s3.1,s3.2.1⟩:ak) (y1.aC)).1,y1.bK,(y1.aJ),true,(s3.2.2++[(Z117.md a2 a3 y1 a4)])⟩:bF)) (.inl ((Z93.md (⟨s3.1,s3.2.1⟩:ak) (y1.aC)).1.ay,(Z93.md (⟨s3.1,s3.2.1⟩:ak) (y1.aC)).1.aY,(s3.2.2++[(Z117.md a2 a3 y1 a4)]))))) (cond ((Z117.md a2 a3 y1 a4)==1) (cond (!((Z93.md (⟨s3.1,s3.2.1⟩:ak) (y1.aC)).2==3)) (.inl ((Z93.md (⟨s3.1,s3.2.1⟩:ak) (y1.aC)).1.ay,(Z93.md (⟨s3.1,s3.2.1⟩:ak) (y1.aC)).1.aY,(s3.2.2++[3]))) (cond (Z121.md ((Z93.md (⟨s3.1,s3.2.1⟩:ak) (y1.aC)).1) a2) (.inl ((Z93.md (⟨s3.1,s3.2.1⟩:ak) (y1.aC)).1.ay,(Z93.md (⟨s3.1,s3.2.1⟩:ak) (y1.aC)).1.aY,(s3.2.2++[3]))) (cond ((Z117.md a2 a3 y1 a4)==1) (.inr (⟨(Z93.md (⟨s3.1,s3.2.1⟩:ak) (y1.aC)).1,y1.bK,(y1.aJ),true,(s3.2.2++[(Z117.md a2 a3 y1 a4)])⟩:bF)) (.inl ((Z93.md (⟨s3.1,s3.2.1⟩:ak) (y1.aC)).1.ay,(Z93.md (⟨s3.1,s3.2.1⟩:ak) (y1.aC)).1.aY,(s3.2.2++[(Z117.md a2 a3 y1 a4)])))))) (cond ((Z117.md a2 a3 y1 a4)==1) (.inr (⟨(Z93.md (⟨s3.1,s3.2.1⟩:ak) (y1.aC)).1,y1.bK,(y1.aJ),true,(s3.2.2++[(Z117.md a2 a3 y1 a4)])⟩:bF)) (.inl ((Z93.md (⟨s3.1,s3.2.1⟩:ak) (y1.aC)).1.ay,(Z93.md (⟨s3.1,s3.2.1⟩:ak) (y1.aC)).1.aY,(s3.2.2++[(Z117.md a2 a3 y1 a4)]))))))) (cond ((Z117.md a2 a3 y1 a4)==1) (.inl (s3.1,s3.2.1,(s3.2.2++[3]))) (cond ((Z117.md a2 a3 y1 a4)==1) (.inr (⟨(⟨s3.1,s3.2.1⟩:ak),y1.bK,(y1.aJ),true,(s3.2.2++[(Z117.md a2 a3 y1 a4)])⟩:bF)) (.inl (s3.1,s3.2.1,(s3.2.2++[(Z117.md a2 a3 y1 a4)])))))) (cond ((Z117.md a2 a3 y1 a4)==1) (.inl (s3.1,s3.2.1,(s3.2.2++[3]))) (cond ((Z117.md a2 a3 y1 a4)==1) (.inr (⟨(⟨s3.1,s3.2.1⟩:ak),y1.bK,(y1.aJ),true,(s3.2.2++[(Z117.md a2 a3 y1 a4)])⟩:bF)) (.inl (s3.1,s3.2.1,(s3.2.2++[(Z117.md a2 a3 y1 a4)]))))))) (fun (s3:List (List aa)×List aN×List Int)=>(⟨(⟨s3.1,s3.2.1⟩:ak),false,(⟨(⟨#[]⟩:av),0,0,[]⟩:ah),false,s3.2.2⟩:bF)) a1 (a0.ay,a0.aY,[]))
def gd (a0:ak)(a1:List aA)(a2:Int)(a3:av)(a4:Int):Prop:=(ak.Sm (2^21) a0)/\(bg (2^21) (fun y:aA=>aA.Sm (2^21) y) a1)/\(a3.size<=(2^21))
def R:=sL gd md
def aj {a0 a1 a2 a3 a4}(h:gd a0 a1 a2 a3 a4):R ((ak.r a0),(a1.map aA.row),a2,a3,a4)=some (bF.r (md a0 a1 a2 a3 a4)):=sR h
def aM:=CN [.agg wg,pL 68,pI,pS,pI] (.agg f89) RT.dec R
def bn (a0)(a1)(a2)(a3)(a4)(hg:gd a0 a1 a2 a3 a4):∃n,start (iter step n) (ak.r a0) (a1.map aA.row) a2 a3 a4=ret (bF.r (md a0 a1 a2 a3 a4)):=by
 obtain ⟨H0,H1,H3⟩:=hg
 unfold start md
 try simp only [SS]
 refine cx (Z87.aj H0) ?_
 try simp only [SS]
 have Bh2:a1.length<=maxLen:=(by
   have:=(H1).1
   try simp only [maxLen] at *
   omega)
 refine ex_eq (out:=(fun b:bF=>ret ((bF.r b):cP))) (dZ (z:=aA.zero)) ?_
 refine dy (p:=Pt.p0 (a1.map aA.row) a2 a3 a4 0 false (⟨#[]⟩:av) 0 0 false false (⟨#[]⟩:av) 0 0 false (a0.ay.map (fR aa.row)) (a0.aY.map aN.row) ([].map aV)) fz ?_
 refine bH (pt:=fun (i1:Nat) (s3:List (List aa)×List aN×List Int)=>Pt.p0 (a1.map aA.row) a2 a3 a4 (i1:Int) false (⟨#[]⟩:av) 0 0 false false (⟨#[]⟩:av) 0 0 false (s3.1.map (fR aa.row)) (s3.2.1.map aN.row) (s3.2.2.map aV)) (s:=((a0.ay,a0.aY,[]):List (List aa)×List aN×List Int)) (out:=(fun b:bF=>ret ((bF.r b):cP))) (fun (i1:Nat) (s3:List (List aa)×List aN×List Int)=>ak.Sm (2^21) (⟨s3.1,s3.2.1⟩:ak)/\s3.2.2.length<=i1) (fun J i1 s3 h2 hih2=>?_) (fun s3 hih2=>?_) ⟨H0,zero_le _⟩
 ·simp only [step,SS]
  have gr_:=hih2
  try simp only [LN] at gr_
  have bb_:=Bh2
  simp only [maxLen] at bb_
  have:=(H1).1
  refine aP.yes (by apply decide_eq_true;omega) ?_
  refine aP.yes bB ?_
  refine aP.yes (bQ h2) ?_
  refine cr (Z61.aj (bg.getD (z:=aA.zero) H1 h2).1) ?_
  try simp only [SS]
  refine aP.bif (fun c4=>?_) (fun c4=>?_)
  ·refine aP.bif (fun c5=>?_) (fun c5=>?_)
   ·have dc5:=c5
    try simp only [DC] at dc5
    refine cr (Z93.aj (a0:=(⟨s3.1,s3.2.1⟩:ak)) ⟨⟨hih2.1.1,hih2.1.2⟩,(bg.getD (z:=aA.zero) H1 h2).1⟩) ?_
    try simp only [SS]
    refine cr (Z117.aj ⟨H3,(bg.getD (z:=aA.zero) H1 h2)⟩) ?_
    refine aP.bif (fun c6=>?_) (fun c6=>?_)
    ·have dc6:=c6
     try simp only [DC] at dc6
     refine aP.bif (fun c7=>?_) (fun c7=>?_)
     ·have dc7:=c7
      try simp only [DC] at dc7
      refine cr (Z121.aj (a0:=(Z93.md (⟨s3.1,s3.2.1⟩:ak) ((a1.getD i1 aA.zero).aC)).1) (Z93.fo (a0:=(⟨s3.1,s3.2.1⟩:ak)) (a1:=(a1.getD i1 aA.zero).aC) ⟨⟨hih2.1.1,hih2.1.2⟩,(bg.getD (z:=aA.zero) H1 h2).1⟩)) ?_
      refine aP.bif (fun c8=>?_) (fun c8=>?_)
      ·refine aP.yes lm ?_
       refine aP.inl (by first | exact ⟨hih2.1,kX hih2.2⟩ | exact ⟨Z93.fo ⟨hih2.1,(bg.getD H1 h2).1⟩,kX hih2.2⟩) ?_
       rw [aF h2 Bh2]
       all_goals exact fz
      ·refine aP.yes lm ?_
       refine aP.bif (fun c9=>?_) (fun c9=>?_)
       ·refine cr (Z10.aj (bg.getD (z:=aA.zero) H1 h2).2.1) ?_
        try simp only [SS]
        refine aP.inr ?_
        all_goals exact fz
       ·refine aP.inl (by first | exact ⟨hih2.1,kX hih2.2⟩ | exact ⟨Z93.fo ⟨hih2.1,(bg.getD H1 h2).1⟩,kX hih2.2⟩) ?_
        rw [aF h2 Bh2]
        all_goals exact fz
     ·have dc7:=c7
      try simp only [DC] at dc7
      refine aP.yes lm ?_
      refine aP.bif (fun c10=>?_) (fun c10=>?_)
      ·refine cr (Z10.aj (bg.getD (z:=aA.zero) H1 h2).2.1) ?_
       try simp only [SS]
       refine aP.inr ?_
       all_goals exact fz
      ·refine aP.inl (by first | exact ⟨hih2.1,kX hih2.2⟩ | exact ⟨Z93.fo ⟨hih2.1,(bg.getD H1 h2).1⟩,kX hih2.2⟩) ?_
       rw [aF h2 Bh2]
       all_goals exact fz
    ·have dc6:=c6
     try simp only [DC] at dc6
     refine aP.bif (fun c11=>?_) (fun c11=>?_)
     ·have dc11:=c11
      try simp only [DC] at dc11
      refine aP.bif (fun c12=>?_) (fun c12=>?_)
      ·have dc12:=c12
       try simp only [DC] at dc12
       refine cr (Z121.aj (a0:=(Z93.md (⟨s3.1,s3.2.1⟩:ak) ((a1.getD i1 aA.zero).aC)).1) (Z93.fo (a0:=(⟨s3.1,s3.2.1⟩:ak)) (a1:=(a1.getD i1 aA.zero).aC) ⟨⟨hih2.1.1,hih2.1.2⟩,(bg.getD (z:=aA.zero) H1 h2).1⟩)) ?_
       refine aP.bif (fun c13=>?_) (fun c13=>?_)
       ·refine aP.yes lm ?_
        refine aP.inl (by first | exact ⟨hih2.1,kX hih2.2⟩ | exact ⟨Z93.fo ⟨hih2.1,(bg.getD H1 h2).1⟩,kX hih2.2⟩) ?_
        rw [aF h2 Bh2]
        all_goals exact fz
       ·refine aP.yes lm ?_
        refine aP.bif (fun c14=>?_) (fun c14=>?_)
        ·refine cr (Z10.aj (bg.getD (z:=aA.zero) H1 h2).2.1) ?_
         try simp only [SS]
         refine aP.inr ?_
         all_goals exact fz
        ·refine aP.inl (by first | exact ⟨hih2.1,kX hih2.2⟩ | exact ⟨Z93.fo ⟨hih2.1,(bg.getD H1 h2).1⟩,kX hih2.2⟩) ?_
         rw [aF h2 Bh2]
         all_goals exact fz
      ·have dc12:=c12
       try simp only [DC] at dc12
       refine aP.yes lm ?_
       refine aP.bif (fun c15=>?_) (fun c15=>?_)
       ·refine cr (Z10.aj (bg.getD (z:=aA.zero) H1 h2).2.1) ?_
        try simp only [SS]
        refine aP.inr ?_
        all_goals exact fz
       ·refine aP.inl (by first | exact ⟨hih2.1,kX hih2.2⟩ | exact ⟨Z93.fo ⟨hih2.1,(bg.getD H1 h2).1⟩,kX hih2.2⟩) ?_
        rw [aF h2 Bh2]
        all_goals exact fz
     ·have dc11:=c11
      try simp only [DC] at dc11
      refine aP.bif (fun c16=>?_) (fun c16=>?_)
      ·have dc16:=c16
       try simp only [DC] at dc16
       refine aP.bif (fun c17=>?_) (fun c17=>?_)
       ·have dc17:=c17
        try simp only [DC] at dc17
        refine aP.yes lm ?_
        refine aP.inl (by first | exact ⟨hih2.1,kX hih2.2⟩ | exact ⟨Z93.fo ⟨hih2.1,(bg.getD H1 h2).1⟩,kX hih2.2⟩) ?_
        rw [aF h2 Bh2]
        all_goals exact fz
       ·have dc17:=c17
        try simp only [DC] at dc17
        refine cr (Z121.aj (a0:=(Z93.md (⟨s3.1,s3.2.1⟩:ak) ((a1.getD i1 aA.zero).aC)).1) (Z93.fo (a0:=(⟨s3.1,s3.2.1⟩:ak)) (a1:=(a1.getD i1 aA.zero).aC) ⟨⟨hih2.1.1,hih2.1.2⟩,(bg.getD (z:=aA.zero) H1 h2).1⟩)) ?_
        refine aP.bif (fun c18=>?_) (fun c18=>?_)
        ·refine aP.yes lm ?_
         refine aP.inl (by first | exact ⟨hih2.1,kX hih2.2⟩ | exact ⟨Z93.fo ⟨hih2.1,(bg.getD H1 h2).1⟩,kX hih2.2⟩) ?_
         rw [aF h2 Bh2]
         all_goals exact fz
        ·refine aP.yes lm ?_
         refine aP.bif (fun c19=>?_) (fun c19=>?_)
         ·refine cr (Z10.aj (bg.getD (z:=aA.zero) H1 h2).2.1) ?_
          try simp only [SS]
          refine aP.inr ?_
          all_goals exact fz
         ·refine aP.inl (by first | exact ⟨hih2.1,kX hih2.2⟩ | exact ⟨Z93.fo ⟨hih2.1,(bg.getD H1 h2).1⟩,kX hih2.2⟩) ?_
          rw [aF h2 Bh2]
          all_goals exact fz
      ·have dc16:=c16
       try simp only [DC] at dc16
       refine aP.yes lm ?_
       refine aP.bif (fun c20=>?_) (fun c20=>?_)
       ·refine cr (Z10.aj (bg.getD (z:=aA.zero) H1 h2).2.1) ?_
        try simp only [SS]
        refine aP.inr ?_
        all_goals exact fz
       ·refine aP.inl (by first | exact ⟨hih2.1,kX hih2.2⟩ | exact ⟨Z93.fo ⟨hih2.1,(bg.getD H1 h2).1⟩,kX hih2.2⟩) ?_
        rw [aF h2 Bh2]
        all_goals exact fz
   ·have dc5:=c5
    try simp only [DC] at dc5
    refine cr (Z117.aj ⟨H3,(bg.getD (z:=aA.zero) H1 h2)⟩) ?_
    refine aP.bif (fun c21=>?_) (fun c21=>?_)
    ·have dc21:=c21
     try simp only [DC] at dc21
     refine aP.yes lm ?_
     refine aP.inl (by first | exact ⟨hih2.1,kX hih2.2⟩ | exact ⟨Z93.fo ⟨hih2.1,(bg.getD H1 h2).1⟩,kX hih2.2⟩) ?_
     rw [aF h2 Bh2]
     all_goals exact fz
    ·have dc21:=c21
     try simp only [DC] at dc21
     refine aP.yes lm ?_
     refine aP.bif (fun c22=>?_) (fun c22=>?_)
     ·refine cr (Z10.aj (bg.getD (z:=aA.zero) H1 h2).2.1) ?_
      try simp only [SS]
      refine aP.inr ?_
      all_goals exact fz
     ·refine aP.inl (by first | exact ⟨hih2.1,kX hih2.2⟩ | exact ⟨Z93.fo ⟨hih2.1,(bg.getD H1 h2).1⟩,kX hih2.2⟩) ?_
      rw [aF h2 Bh2]
      all_goals exact fz
  ·refine cr (Z117.aj ⟨H3,(bg.getD (z:=aA.zero) H1 h2)⟩) ?_
   refine aP.bif (fun c23=>?_) (fun c23=>?_)
   ·have dc23:=c23
    try simp only [DC] at dc23
    refine aP.yes lm ?_
    refine aP.inl (by first | exact ⟨hih2.1,kX hih2.2⟩ | exact ⟨Z93.fo ⟨hih2.1,(bg.getD H1 h2).1⟩,kX hih2.2⟩) ?_
    rw [aF h2 Bh2]
    all_goals exact fz
   ·have dc23:=c23
    try simp only [DC] at dc23
    refine aP.yes lm ?_
    refine aP.bif (fun c24=>?_) (fun c24=>?_)
    ·refine cr (Z10.aj (bg.getD (z:=aA.zero) H1 h2).2.1) ?_
     try simp only [SS]
     refine aP.inr ?_
     all_goals exact fz
    ·refine aP.inl (by first | exact ⟨hih2.1,kX hih2.2⟩ | exact ⟨Z93.fo ⟨hih2.1,(bg.getD H1 h2).1⟩,kX hih2.2⟩) ?_
     rw [aF h2 Bh2]
     all_goals exact fz
 ·simp only [step,SS]
  have gr_:=hih2
  try simp only [LN] at gr_
  have:=(H1).1
  refine cL (by apply decide_eq_false;omega) ?_
  refine ⟨0,?_⟩
  all_goals exact fz
def af:cj 48 aM:=L5 99 (fun _=>3) cM dQ live step start mix az bn (vY Z87.af Z61.af Z93.af Z117.af Z121.af Z10.af) Tryz.func48
def pq (z:Int)(l:av)(now:Int)(y:aA)(k:ak):ak×Int:=
 let kn:=bif (Z61.md y.aC).2&&((Z61.md y.aC).1.aX==z) then Z93.md k y.aC else (k,6)
 (kn.1,bif (Z117.md z l y now==1)&&!((kn.2==1||(kn.2==2||kn.2==3))&&!Z121.md kn.1 z) then 3 else Z117.md z l y now)
def vL (z:Int)(l:av)(now:Int)(y:aA)(s:List (List aa)×List aN×List Int):List (List aa)×List aN×List Int⊕bF:=
 bif (pq z l now y ⟨s.1,s.2.1⟩).2==1 then .inr ⟨(pq z l now y ⟨s.1,s.2.1⟩).1,y.bK,y.aJ,true,s.2.2++[(pq z l now y ⟨s.1,s.2.1⟩).2]⟩
 else .inl ((pq z l now y ⟨s.1,s.2.1⟩).1.ay,(pq z l now y ⟨s.1,s.2.1⟩).1.aY,s.2.2++[(pq z l now y ⟨s.1,s.2.1⟩).2])
def fin (s:List (List aa)×List aN×List Int):bF:=⟨⟨s.1,s.2.1⟩,false,⟨⟨#[]⟩,0,0,[]⟩,false,s.2.2⟩
def sF (a0:ak)(a1:List aA)(a2:Int)(a3:av)(a4:Int):md a0 a1 a2 a3 a4=dM (vL a2 a3 a4) fin a1 (a0.ay,a0.aY,[]):=by
 unfold md
 refine rD (fun y _ s=>?_) (fun s=>rfl)
 have h31:((3:Int)==1)=false:=rfl
 have h61:((6:Int)==1)=false:=rfl
 have h62:((6:Int)==2)=false:=rfl
 have h63:((6:Int)==3)=false:=rfl
 unfold vL pq
 cases g1:(Z61.md y.aC).2
 ·cases g2:(Z117.md a2 a3 y a4==1)<;>simp [g2,h31,h61,h62,h63]
 cases g3:((Z61.md y.aC).1.aX==a2)
 ·cases g2:(Z117.md a2 a3 y a4==1)<;>simp [g2,h31,h61,h62,h63]
 generalize Z93.md (⟨s.1,s.2.1⟩:ak) y.aC=r
 cases g2:(Z117.md a2 a3 y a4==1)<;>cases g4:(r.2==1)<;>cases g5:(r.2==2)<;>cases g6:(r.2==3)<;>cases g7:Z121.md r.1 a2<;>simp [g2,g4,g5,g6,g7,h31]
def Dn {z:Int}{l:av}{now:Int}{y:aA}{k:ak}(hk:ak.Sm (2^21) k)(hy:aA.Sm (2^21) y):ak.Sm (2^21) (pq z l now y k).1:=by
 unfold pq
 cases (Z61.md y.aC).2&&((Z61.md y.aC).1.aX==z)
 ·exact hk
 ·exact Z93.fo ⟨hk,hy.1⟩
def wA {z:Int}{l:av}{now:Int}:∀(xs:List aA) (s:List (List aa)×List aN×List Int),ak.Sm (2^21) ⟨s.1,s.2.1⟩->(∀y∈xs,aA.Sm (2^21) y)->s.2.2.length+xs.length<=2^21->bF.Sm (2^21) (dM (vL z l now) fin xs s)
 | [],s,hk,_,hc=>⟨hk,⟨zero_le _,bg.nil⟩,hc,fun _ _=>trivial⟩
 | y::xs,s,hk,hx,hc=>by
  have hy:=hx y (by simp)
  have he:=Dn (z:=z) (l:=l) (now:=now) hk hy
  simp only [List.length_cons] at hc
  unfold dM
  cases hb:(pq z l now y ⟨s.1,s.2.1⟩).2==1
  ·have e:vL z l now y s=.inl ((pq z l now y ⟨s.1,s.2.1⟩).1.ay,(pq z l now y ⟨s.1,s.2.1⟩).1.aY,s.2.2++[(pq z l now y ⟨s.1,s.2.1⟩).2]):=by unfold vL;rw [hb];rfl
   rw [e]
   exact wA xs _ he (fun y hy=>hx y (by simp [hy])) (by simp only [List.length_append,List.length_cons,List.length_nil];omega)
  ·have e:vL z l now y s=.inr ⟨(pq z l now y ⟨s.1,s.2.1⟩).1,y.bK,y.aJ,true,s.2.2++[(pq z l now y ⟨s.1,s.2.1⟩).2]⟩:=by unfold vL;rw [hb];rfl
   rw [e]
   exact ⟨he,hy.2.1,by simp only [List.length_append,List.length_cons,List.length_nil];omega,fun _ _=>trivial⟩
def fo {a0:ak}{a1:List aA}{a2:Int}{a3:av}{a4:Int}(hg:gd a0 a1 a2 a3 a4):bF.Sm (2^21) (md a0 a1 a2 a3 a4):=by
 unfold gd at hg
 rw [sF]
 exact wA a1 _ hg.1 hg.2.1.2 (by have:=hg.2.1.1;simp only [List.length_nil];omega)
end Z122
namespace Z123
def F (x0:cP):aD:=(cond (!x0.jy) (ret (((⟨(⟨#[]⟩:av),0,0,[]⟩),false):bk×Bool)) (cond (!x0.bK) (ret (((⟨(⟨#[]⟩:av),0,0,[]⟩),false):bk×Bool)) (call (Z10.R x0.aJ) fun v1=>ret ((v1,true):bk×Bool))))
def md (a0:bF):ah×Bool:=(cond (!a0.jy) ((⟨((⟨#[]⟩:av)),0,0,[]⟩),false) (cond (!a0.bK) ((⟨((⟨#[]⟩:av)),0,0,[]⟩),false) (a0.aJ,true)))
def gd (a0:bF):Prop:=(bF.Sm (2^21) a0)
def R:=RR gd md
def aj {a0}(h:gd a0):R (bF.r a0)=some ((ah.r (md a0).1),(md a0).2):=cQ h
def aM:=CN [.agg EN] (.gW [(true,f62),(false,[fB])]) RT.dec R
def bn (a0)(H0:gd a0):F (bF.r a0)=ret ((ah.r (md a0).1),(md a0).2):=by
 refine bM (fun b:ah×Bool=>ret (((ah.r b.1),b.2):bk×Bool)) (fun c1=>fz) (fun c1=>?_)
 exact bM (fun b:ah×Bool=>ret (((ah.r b.1),b.2):bk×Bool)) (fun c2=>fz) (fun c2=>ct (Z10.aj H0.2.1) fz)
def af:cj 186 aM:=W1 16 F mix az bn (cO Z10.af) Tryz.func186
end Z123
namespace Z124
def F (x0:cP):aD:=(cond x0.jy (ret ((!x0.bK))) (ret false))
def md (a0:bF):Bool:=(cond a0.jy ((!a0.bK)) false)
def gd (a0:bF):Prop:=True
def R:=RR gd md
def aj {a0}(h:gd a0):R (bF.r a0)=some (md a0):=cQ h
def aM:=CN [.agg EN] oB RT.dec R
def bn (a0)(hg:gd a0):F (bF.r a0)=ret (md a0):=by
 refine bs (fun c1=>?_) (fun _=>rfl)
 exact fz
def af:cj 187 aM:=W1 10 F mix az bn .nil Tryz.func187
end Z124
namespace Z125
inductive Pt where
 | p0 (a:aq) (b c:Int) (d:aq) (e:Int) (f:av) (g h i j:Int) (k:av) (l m n:Int) (o p q:aq)
def cM:Pt->List V
 | .p0 a b c d e f g h i j k l m n o p q=>[.sl none 280 a,.int .i64 b,.bP 0 0,.bP 1 0,.int .i64 c,.sl none 9 d,.bP 1 0]
def dQ:Pt->List aK
 | .p0 a b c d e f g h i j k l m n o p q=>[.box [.nil,.nil,.int .i64 e,.str f,.int .i64 g,.int .i64 h,.nil,.nil,.int .i64 i],.box [.own 2,.own 3,.int .i64 j,.str k,.int .i64 l,.int .i64 m,.nil,.own 4,.int .i64 n],.row 37 o,.row 170 p,.row 3 q]
def step (J:Pt->aD):Pt->aD
 | .p0 a b c d e f g h i j k l m n o p q=>(cA (eK (((q.length:Int)+1)*8)) (cA ((0:Int)<(d.length:Int)) (call (Z106.R (a,c,(tS d 0))) fun v1=>(cA ((0:Int)<(d.length:Int)) (call (Z122.R ((⟨o,p⟩:aW),v1,c,(tS d 0),b)) fun v2=>(call (Z123.R v2) fun v3=>(call (Z124.R v2) fun v4=>(cond v4 (ret ((⟨v2.bJ,2,(⟨k,l,m,[]⟩:bk),(q++[[L.int c]]),n⟩:cT):cT)) (cond (!v3.2) (ret ((⟨v2.bJ,3,(⟨k,l,m,[]⟩:bk),(q++[[L.int c]]),n⟩:cT):cT)) (cond (v3.1.bt==3) (call (Z9.R v3.1.bC) fun v5=>(cA ((1:Int)<=(d.length:Int)) (cA ((d.length:Int)<=(d.length:Int)) (cA (eK (((v5.length:Int)+((List.take (toNat ((d.length:Int) - 1)) (List.drop 1 d)).length:Int))*16)) (cond (n>=3) (ret ((⟨v2.bJ,5,(⟨k,l,m,[]⟩:bk),(q++[[L.int c]]),n⟩:cT):cT)) (call (Z13.R (v5++(List.take (toNat ((d.length:Int) - 1)) (List.drop 1 d)))) fun v6=>(cond (!v6) (ret ((⟨v2.bJ,5,(⟨k,l,m,[]⟩:bk),(q++[[L.int c]]),n⟩:cT):cT)) (J (.p0 a b v3.1.bO (v5++(List.take (toNat ((d.length:Int) - 1)) (List.drop 1 d))) e f g h i j k l m (i64.wrap (n+1)) v2.bJ.ay v2.bJ.aY (q++[[L.int c]])))))))))) (cond ((d.length:Int)==1) (ret ((⟨v2.bJ,1,v3.1,(q++[[L.int c]]),n⟩:cT):cT)) (cond (v3.1.bt != 2) (ret ((⟨v2.bJ,4,(⟨k,l,m,[]⟩:bk),(q++[[L.int c]]),n⟩:cT):cT)) (cA ((1:Int)<=(d.length:Int)) (cA ((d.length:Int)<=(d.length:Int)) (J (.p0 a b v3.1.bO (List.take (toNat ((d.length:Int) - 1)) (List.drop 1 d)) e f g h i j k l m n v2.bJ.ay v2.bJ.aY (q++[[L.int c]])))))))))))))))))
def start (J:Pt->aD)(x0:aW)(x1:aq)(x2:Int)(x3:aq)(x4:Int):aD:=(call (Z87.R x0) fun v1=>(call (Z13.R x3) fun v2=>(cond (!v2) (ret ((⟨v1,6,(⟨(⟨#[]⟩:av),0,0,[]⟩:bk),[],0⟩:cT):cT)) (call (Z9.R x3) fun v3=>J (.p0 x1 x4 x2 v3 0 ⟨#[]⟩ 0 0 0 6 ⟨#[]⟩ 0 0 0 v1.ay v1.aY [])))))
def live:Nat->Live:=gL [(6,[(1,none),(4,none),(10,none),(11,none),(12,none),(13,some 1099511627785),(11,some 7340035)])]
def nx (l:bF)(mv:Int)(p:List av):(Int×ah)⊕(Int×Int×List av):=
 bif !l.jy then .inl (3,⟨⟨#[]⟩,0,0,[]⟩) else bif !l.bK then .inl (2,⟨⟨#[]⟩,0,0,[]⟩)
 else bif l.aJ.bt==3 then (cond (mv>=3) (.inl (5,⟨⟨#[]⟩,0,0,[]⟩)) (bif !Z13.md (l.aJ.bC++p.tail) then .inl (5,⟨⟨#[]⟩,0,0,[]⟩) else .inr (mv+1,l.aJ.bO,l.aJ.bC++p.tail)))
 else bif (p.tail.length:Int)==0 then .inl (1,l.aJ) else bif l.aJ.bt==2 then .inr (mv,l.aJ.bO,p.tail) else .inl (4,⟨⟨#[]⟩,0,0,[]⟩)
def rs {σ:Type}(look:σ->ak->Int->av->bF×σ):Nat->σ->ak->List Int->Int->Int->List av->bq×σ
 | 0,c,k,zs,mv,_,_=>(⟨k,0,⟨⟨#[]⟩,0,0,[]⟩,zs,mv⟩,c)
 | n+1,c,k,zs,mv,z,p=>match nx (look c k z (p.getD 0 ⟨#[]⟩)).1 mv p with
  | .inl q=>(⟨(look c k z (p.getD 0 ⟨#[]⟩)).1.bJ,q.1,q.2,zs++[z],mv⟩,(look c k z (p.getD 0 ⟨#[]⟩)).2)
  | .inr q=>rs look n (look c k z (p.getD 0 ⟨#[]⟩)).2 (look c k z (p.getD 0 ⟨#[]⟩)).1.bJ (zs++[z]) q.1 q.2.1 q.2.2
def lk (s:List aB)(now:Int)(_:Unit)(k:ak)(z:Int)(l:av):bF×Unit:=(Z122.md k (Z106.md s z l) z l now,())
def vB {σ:Type}{look:σ->ak->Int->av->bF×σ}{n:Nat}{c:σ}{k:ak}{zs:List Int}{mv z:Int}{p:List av}{q:Int×ah}(h:nx (look c k z (p.getD 0 ⟨#[]⟩)).1 mv p=.inl q) :
  rs look (n+1) c k zs mv z p=(⟨(look c k z (p.getD 0 ⟨#[]⟩)).1.bJ,q.1,q.2,zs++[z],mv⟩,(look c k z (p.getD 0 ⟨#[]⟩)).2):=by
 show (match nx (look c k z (p.getD 0 ⟨#[]⟩)).1 mv p with | .inl q=>_ | .inr q=>_)=_
 rw [h]
def vq {σ:Type}{look:σ->ak->Int->av->bF×σ}{n:Nat}{c:σ}{k:ak}{zs:List Int}{mv z:Int}{p:List av}{q:Int×Int×List av}(h:nx (look c k z (p.getD 0 ⟨#[]⟩)).1 mv p=.inr q) :
  rs look (n+1) c k zs mv z p=rs look n (look c k z (p.getD 0 ⟨#[]⟩)).2 (look c k z (p.getD 0 ⟨#[]⟩)).1.bJ (zs++[z]) q.1 q.2.1 q.2.2:=by
 show (match nx (look c k z (p.getD 0 ⟨#[]⟩)).1 mv p with | .inl q=>_ | .inr q=>_)=_
 rw [h]
def yZ {Pt:Type}{step:(Pt->aD)->Pt->aD}{p:Pt}{r:aD}(h:∃m,step (iter step m) p=r):∃m,iter step m p=r:=h.elim fun m h=>⟨m+1,h⟩
def md (a0:ak)(a1:List aB)(a2:Int)(a3:List av)(a4:Int):bq:=(cond (!Z13.md a3) ⟨a0,6,⟨⟨#[]⟩,0,0,[]⟩,[],0⟩ ((rs (lk a1 a4) 17 () a0 [] 0 a2 a3).1))
def gd (a0:ak)(a1:List aB)(a2:Int)(a3:List av)(a4:Int):Prop:=(ak.Sm (2^21) a0)/\(bg (2^21) (fun y:aB=>aB.Sm (2^21) y) a1)/\(bg (2^21) (fun y:av=>y.size<=(2^21)) a3)
def R:=sL gd md
def aj {a0 a1 a2 a3 a4}(h:gd a0 a1 a2 a3 a4):R ((ak.r a0),(a1.map aB.row),a2,(a3.map dL),a4)=some (bq.r (md a0 a1 a2 a3 a4)):=sR h
def aM:=CN [.agg wg,pL 280,pI,pL 9,pI] (.agg f108) RT.dec R
def bn (a0)(a1)(a2)(a3)(a4)(hg:gd a0 a1 a2 a3 a4):∃n,start (iter step n) (ak.r a0) (a1.map aB.row) a2 (a3.map dL) a4=ret (bq.r (md a0 a1 a2 a3 a4)):=by
 obtain ⟨H0,H1,H3⟩:=hg
 have key:∀(n:Nat) (k:ak) (zs:List Int) (mv z:Int) (p:List av),ak.Sm (2^21) k->Z13.md p=true->0<=mv->mv<=3->(3 - mv)*4+(p.length:Int)<=n->zs.length+n<=100->
   ∃m,iter step m (Pt.p0 (a1.map aB.row) a4 z (p.map dL) 0 ⟨#[]⟩ 0 0 0 6 ⟨#[]⟩ 0 0 mv (k.ay.map (fR aa.row)) (k.aY.map aN.row) (zs.map aV))=ret (bq.r (rs (lk a1 a4) n () k zs mv z p).1):=by
  intro n
  induction n with
  | zero=>intro k zs mv z p _ hp _ _ hm _;have:=(Z13.tr hp).1;omega
  | succ n ih=>
   intro k zs mv z p hk hp h0 h3 hm hz
   obtain ⟨⟨p1,p4⟩,p8⟩:=Z13.tr hp
   obtain ⟨x,xs,rfl⟩:∃x xs,p=x::xs:=by
    cases p with
    | nil=>simp at p1
    | cons x xs=>exact ⟨x,xs,rfl⟩
   have hx:x.size<=2^21:=le_trans (p8 x (by simp)) (by decide)
   have hxs:∀y∈xs,y.size<=2^22:=fun y hy=>le_trans (p8 y (by simp [hy])) (by decide)
   have hask:=Z106.fo (a0:=a1) (a1:=z) (a2:=x) ⟨H1,hx⟩
   have hlk:=Z122.fo (a0:=k) (a1:=Z106.md a1 z x) (a2:=z) (a3:=x) (a4:=a4) ⟨hk,hask,hx⟩
   have hat:tS ((x::xs).map dL) 0=x:=rfl
   have hg0:(x::xs).getD 0 ⟨#[]⟩=x:=rfl
   have ht:List.take (toNat (((xs.length+1:Nat):Int) - 1)) (List.drop 1 ((x::xs).map dL))=xs.map dL:=by
    simp only [List.map_cons,List.drop_succ_cons,List.drop_zero]
    exact List.take_of_length_le (by simp)
   have hkn:(lk a1 a4 () k z ((x::xs).getD 0 ⟨#[]⟩)).1=Z122.md k (Z106.md a1 z x) z x a4:=rfl
   simp only [List.length_cons] at p4 hm
   refine yZ ?_
   simp only [step,hat,List.length_map,List.length_cons,ht]
   refine dP lm ?_
   refine dP dt ?_
   refine cx (Z106.aj (a0:=a1) ⟨H1,hx⟩) ?_
   refine dP dt ?_
   refine cx (Z122.aj (a0:=k) (a1:=Z106.md a1 z x) ⟨hk,hask,hx⟩) ?_
   have hcase:∀q,nx (Z122.md k (Z106.md a1 z x) z x a4) mv (x::xs)=.inl q->rs (lk a1 a4) (n+1) () k zs mv z (x::xs)=(⟨(Z122.md k (Z106.md a1 z x) z x a4).bJ,q.1,q.2,zs++[z],mv⟩,()):=fun q hq=>vB hq
   have hcase2:∀q,nx (Z122.md k (Z106.md a1 z x) z x a4) mv (x::xs)=.inr q->rs (lk a1 a4) (n+1) () k zs mv z (x::xs)=rs (lk a1 a4) n () (Z122.md k (Z106.md a1 z x) z x a4).bJ (zs++[z]) q.1 q.2.1 q.2.2:=fun q hq=>vq hq
   revert hcase hcase2 hlk
   generalize Z122.md k (Z106.md a1 z x) z x a4=l
   intro hlk hcase hcase2
   refine cx (Z123.aj (a0:=l) hlk) ?_
   refine cx (Z124.aj (a0:=l) trivial) ?_
   obtain ⟨lk0,lf,le,ld,lc⟩:=l
   unfold nx at hcase hcase2
   unfold Z124.md Z123.md
   cases ld
   ·exact ⟨0,by rw [hcase _ rfl];exact fz⟩
   cases lf
   ·exact ⟨0,by rw [hcase _ rfl];exact fz⟩
   simp only [Bool.not_true,aR,aO,List.tail_cons] at hcase hcase2 ⊢
   have hpl:bg (2^21) (fun y:av=>y.size<=(2^21)) le.bC:=hlk.2.1.2
   have hpl1:le.bC.length<=2^21:=hpl.1
   have hzz:zs.map aV++[[L.int z]]=(zs++[z]).map aV:=by simp [aV]
   try simp only [SS]
   cases hk3:(le.bt==3)
   ·simp only [hk3,aR] at hcase hcase2 ⊢
    by_cases hx0:xs.length=0
    ·have e0:((xs.length:Int)==0)=true:=by simp [hx0]
     rw [e0] at hcase
     exact ⟨0,by rw [hcase _ rfl];exact aG (beq_iff_eq.2 (by omega)) fz⟩
    ·have e0:((xs.length:Int)==0)=false:=by simpa using hx0
     rw [e0] at hcase hcase2
     refine cL (beq_eq_false_iff_ne.2 (by omega)) ?_
     cases hk2:(le.bt==2)
     ·simp only [hk2,aR] at hcase
      exact ⟨0,by rw [hcase _ rfl];exact aG (by simpa using hk2) fz⟩
     ·simp only [hk2,aR,aO] at hcase2
      refine cL (by simpa using hk2) (dP dt (dP dt ?_))
      have hip:Z13.md xs=true:=Z13.tl hp hx0
      rw [hcase2 _ rfl,hzz]
      exact ih lk0 (zs++[z]) mv le.bO xs hlk.1 hip h0 h3 (by omega) (by simp;omega)
   ·simp only [hk3,aO] at hcase hcase2 ⊢
    refine cx (Z9.aj (a0:=le.bC) hpl) ?_
    refine dP dt (dP dt (dP (by have :(le.bC.map dL).length=le.bC.length:=List.length_map ..;have :(xs.map dL).length=xs.length:=List.length_map ..;exact gC (by omega)) ?_))
    by_cases hmv:mv>=3
    ·rw [decide_eq_true hmv] at hcase ⊢
     exact ⟨0,by rw [hcase _ rfl];exact fz⟩
    ·rw [decide_eq_false hmv] at hcase hcase2 ⊢
     simp only [aR] at hcase hcase2 ⊢
     have e:le.bC.map dL++xs.map dL=(le.bC++xs).map dL:=by simp
     rw [e]
     refine cx (Z13.aj (a0:=le.bC++xs) ⟨by rw [List.length_append];omega,fun y hy=>(List.mem_append.1 hy).elim (fun h=>le_trans (hpl.2 y h) (by decide)) (hxs y)⟩) ?_
     cases hip:Z13.md (le.bC++xs)
     ·rw [hip] at hcase
      exact ⟨0,by rw [hcase _ rfl];exact fz⟩
     ·rw [hip] at hcase2
      have ht:=Z13.tr hip
      rw [hcase2 _ rfl,hzz,wi _ (by omega)]
      exact ih lk0 (zs++[z]) (mv+1) le.bO (le.bC++xs) hlk.1 hip (by omega) (by omega) (by omega) (by simp;omega)
 unfold start md
 refine cx (Z87.aj (a0:=a0) H0) ?_
 refine cx (Z13.aj (a0:=a3) (bg.mono H3 (by decide) (fun y hy=>le_trans hy (by decide)))) ?_
 cases hp:Z13.md a3
 ·exact ⟨0,rfl⟩
 ·simp only [Bool.not_true,aR]
  refine cx (Z9.aj (a0:=a3) H3) ?_
  exact key 17 a0 [] 0 a2 a3 H0 hp (by decide) (by decide) (by have:=(Z13.tr hp).1;omega) (by simp)
def af:cj 62 aM:=L5 109 (fun _=>6) cM dQ live step start mix az bn (yd Z87.af Z13.af Z9.af Z106.af Z122.af Z123.af Z124.af) Tryz.func62
def D4 {l:bF}{mv:Int}{p:List av}{q:Int×ah}(h:nx l mv p=.inl q)(hl:ah.Sm (2^21) l.aJ):ah.Sm (2^21) q.2:=by
 have ez:ah.Sm (2^21) ⟨⟨#[]⟩,0,0,[]⟩:=⟨zero_le _,bg.nil⟩
 unfold nx at h
 simp only [Bool.cond_eq_ite] at h
 revert h
 repeat' split
 all_goals (intro h;first | (cases h;done) | (injection h with h;subst h;first | exact hl | exact ez))
def Cu {l:bF}{mv:Int}{p:List av}{q:Int×Int×List av}(h:nx l mv p=.inr q)(hp:Z13.md p=true):Z13.md q.2.2=true:=by
 cases p with
 | nil=>have:=(Z13.tr hp).1;simp at this
 | cons x xs=>
  unfold nx at h
  simp only [Bool.cond_eq_ite,List.tail_cons] at h
  revert h
  repeat' split
  all_goals (intro h;first | (cases h;done) | (injection h with h;subst h;first | (rename_i h0 _;exact Z13.tl hp (by intro e;simp [e] at h0)) | simp_all))
def CW {σ:Type}{look:σ->ak->Int->av->bF×σ}(I:σ->Prop)(hl:∀c k z s,I c->ak.Sm (2^21) k->s.size<=2^21->bF.Sm (2^21) (look c k z s).1/\I (look c k z s).2) :
  ∀(n:Nat) (c:σ) (k:ak) (zs:List Int) (mv z:Int) (p:List av),I c->ak.Sm (2^21) k->Z13.md p=true->zs.length+n<=2^21->
   bq.Sm (2^21) (rs look n c k zs mv z p).1/\I (rs look n c k zs mv z p).2
 | 0,c,k,zs,mv,z,p,hi,hk,_,hz=>⟨⟨hk,⟨zero_le _,bg.nil⟩,hz,fun _ _=>trivial⟩,hi⟩
 | n+1,c,k,zs,mv,z,p,hi,hk,hp,hz=>by
  have h8:=(Z13.tr hp).2
  have hx:(p.getD 0 ⟨#[]⟩).size<=2^21:=by
   cases p with
   | nil=>exact zero_le _
   | cons x xs=>exact le_trans (h8 x (by simp)) (by decide)
  obtain ⟨h1,h2⟩:=hl c k z (p.getD 0 ⟨#[]⟩) hi hk hx
  cases hn:nx (look c k z (p.getD 0 ⟨#[]⟩)).1 mv p with
  | inl q=>
   rw [vB hn]
   exact ⟨⟨h1.1,D4 hn h1.2.1,by simp only [List.length_append,List.length_cons,List.length_nil];omega,fun _ _=>trivial⟩,h2⟩
  | inr q=>
   rw [vq hn]
   exact CW I hl n _ _ _ _ _ _ h2 h1.1 (Cu hn hp) (by simp only [List.length_append,List.length_cons,List.length_nil];omega)
def fo {a0:ak}{a1:List aB}{a2:Int}{a3:List av}{a4:Int}(hg:gd a0 a1 a2 a3 a4):bq.Sm (2^21) (md a0 a1 a2 a3 a4):=by
 unfold gd at hg
 unfold md
 cases hp:Z13.md a3
 ·exact ⟨hg.1,⟨zero_le _,bg.nil⟩,zero_le _,fun _ _=>trivial⟩
 ·simp only [Bool.not_true,aR]
  exact (CW (look:=lk a1 a4) (fun _=>True) (fun c k z s _ hk hs=>⟨Z122.fo ⟨hk,Z106.fo ⟨hg.2.1,hs⟩,hs⟩,trivial⟩) 17 () a0 [] 0 a2 a3 trivial hg.1 hp (show 0+17<=2^21 by omega)).1
end Z125
namespace Z126
def F (x0:aq):aD:=(cond x0.isEmpty (either (ret ([]:aq)) ((cA (eK (x0.length*8)) (ret (x0:aq))))) (cA (eK (x0.length*8)) (ret (x0:aq))))
def md (a0:List Int):List Int:=a0
def gd (a0:List Int):Prop:=bg (2^38) (fun y:Int=>True) a0
def R:=RR gd md
def aj {a0}(h:gd a0):R (a0.map aV)=some (a0.map aV):=cQ h
def aM:=CN [pL 3] (oL 3) RT.dec R
def bn (a0)(hg:gd a0):F (a0.map aV)=ret ((md a0).map aV):=by
 have H0:=hg.1
 unfold F md
 have hl:eK (((a0.map aV).length:Int)*8)=true:=gC (by simp only [List.length_map];omega)
 simp only [hl,aO]
 cases a0 with
 | nil=>exact mO
 | cons x xs=>rfl
def af:cj 313 aM:=W1 8 F mix az bn .nil Tryz.func313
end Z126
namespace Z127
def F (x0:cX):aD:=(call (Z126.R x0.bz) fun v1=>ret ((⟨v1,x0.dw⟩):cX))
def md (a0:aL):aL:=a0
def gd (a0:aL):Prop:=(aL.Sm (2^21) a0)
def R:=RR gd md
def aj {a0}(h:gd a0):R (aL.r a0)=some (aL.r a0):=cQ h
def aM:=CN [.agg qW] (.agg f48) RT.dec R
def bn (a0)(H0:gd a0):F (aL.r a0)=ret (aL.r (md a0)):=ct (Z126.aj (H0.mono (by decide) (fun x hx=>trivial))) fz
def af:cj 321 aM:=W1 9 F mix az bn (cO Z126.af) Tryz.func321
end Z127
namespace Z128
def F (x0:bN):aD:=(call (Z127.R x0.bV) fun v1=>(call (Z127.R x0.bG) fun v2=>(call (Z127.R x0.bD) fun v3=>ret ((⟨x0.aX,x0.cw,x0.bt,x0.cg,x0.cm,x0.bZ,x0.dx,x0.ec,v1,v2,x0.cW,v3,x0.bh⟩):bN))))
def md (a0:au):au:=a0
def gd (a0:au):Prop:=(au.Sm (2^21) a0)
def R:=RR gd md
def aj {a0}(h:gd a0):R (au.r a0)=some (au.r a0):=cQ h
def aM:=CN [.agg lu] (.agg f50) RT.dec R
def bn (a0)(H0:gd a0):F (au.r a0)=ret (au.r (md a0)):=by
 refine ct (Z127.aj H0.1) (ct (Z127.aj H0.2.1) ?_)
 exact ct (Z127.aj H0.2.2) fz
def af:cj 252 aM:=W1 16 F mix az bn (cO Z127.af) Tryz.func252
end Z128
namespace Z129
def F (x0:aq):aD:=(cond x0.isEmpty (either (ret ([]:aq)) ((cA (eK (x0.length*16)) (ret (x0:aq))))) (cA (eK (x0.length*16)) (ret (x0:aq))))
def md (a0:List bE):List bE:=a0
def gd (a0:List bE):Prop:=bg (2^21) (fun y:bE=>bE.Sm (2^21) y) a0
def R:=RR gd md
def aj {a0}(h:gd a0):R (a0.map bE.row)=some (a0.map bE.row):=cQ h
def aM:=CN [pL 315] (oL 315) RT.dec R
def bn (a0)(hg:gd a0):F (a0.map bE.row)=ret ((md a0).map bE.row):=by
 have H0:=hg.1
 unfold F md
 have hl:eK (((a0.map bE.row).length:Int)*16)=true:=gC (by simp only [List.length_map];omega)
 simp only [hl,aO]
 cases a0 with
 | nil=>exact mO
 | cons x xs=>rfl
def af:cj 290 aM:=W1 8 F mix az bn .nil Tryz.func290
end Z129
namespace Z130
def F (x0:aU):aD:=(call (Z128.R x0.an) fun v1=>(call (Z129.R x0.dR) fun v2=>ret ((⟨v1,v2⟩):aU)))
def md (a0:aa):aa:=a0
def gd (a0:aa):Prop:=(aa.Sm (2^21) a0)
def R:=RR gd md
def aj {a0}(h:gd a0):R (aa.r a0)=some (aa.r a0):=cQ h
def aM:=CN [.agg wh] (.agg f53) RT.dec R
def bn (a0)(H0:gd a0):F (aa.r a0)=ret (aa.r (md a0)):=by
 refine ct (Z128.aj H0.1) (ct (Z129.aj H0.2) ?_)
 exact fz
def af:cj 211 aM:=W1 10 F mix az bn (fc Z128.af Z129.af) Tryz.func211
end Z130
namespace Z131
inductive Pt where
 | p0 (a:aq) (b c:Int) (d:aq)
def cM:Pt->List V
 | .p0 a b c d=>[.own 0,.sl none 53 a,.int .i64 b,.int .i64 c]
def dQ:Pt->List aK
 | .p0 a b c d=>[.row 53 d]
def step (J:Pt->aD):Pt->aD
 | .p0 a b c d=>(cond (c<b) (m2 c (a.length:Int) (call (Z130.R (aU.at a (toNat c))) fun v1=>(cA (eK (((d.length:Int)+1)*200)) (J (.p0 a b (i64.wrap (c+1)) (d++[(aU.enc v1)])))))) (ret (d:aq)))
def start (J:Pt->aD)(x0:aq):aD:=J (.p0 x0 x0.length 0 [])
def live:Nat->Live:=gL [(3,[(3,some 53),(7,none),(8,none),(9,none)])]
def md (a0:List aa):List aa:=a0
def gd (a0:List aa):Prop:=(bg (2^21) (fun y:aa=>aa.Sm (2^21) y) a0)
def R:=RR gd md
def aj {a0}(h:gd a0):R (a0.map aa.row)=some (a0.map aa.row):=cQ h
def aM:=CN [pL 53] (oL 53) RT.dec R
def bn (a0)(H0:gd a0):∃n,start (iter step n) (a0.map aa.row)=ret ((md a0).map aa.row):=by
 have Bh2:=bl H0
 refine ex_eq (out:=(fun b:List aa=>ret ((b.map aa.row):aq))) (gZ (xs:=a0) (z:=aa.zero) (t:=fun s3:List aa=>s3)) (dy (p:=Pt.p0 (a0.map aa.row) (a0.length:Int) 0 ([].map aa.row)) fz ?_)
 refine bH (pt:=fun (i1:Nat) (s3:List aa)=>Pt.p0 (a0.map aa.row) (a0.length:Int) (i1:Int) (s3.map aa.row)) (out:=(fun b:List aa=>ret ((b.map aa.row):aq))) (fun (i1:Nat) (s3:List aa)=>s3.length<=([]:List Int).length+1*i1) (fun J i1 s3 h2 hih2=>?_) (fun s3 hih2=>?_) (by simp)
 ·simp only [step,SS]
  have gr_:=hih2
  simp only [LN] at gr_
  have:=(H0).1
  refine aP.yes dt (aP.yes bB ?_)
  refine aP.yes (bQ h2) (cr (Z130.aj (bg.getD H0 h2)) ?_)
  refine aP.yes lm ?_
  refine aP.inl (by
    (simp;omega)) ?_
  rw [aF h2 Bh2]
  exact fz
 ·simp only [step,SS]
  refine cL dn (⟨0,?_⟩)
  exact fz
def af:cj 117 aM:=L1 20 (fun _=>3) cM dQ live step start mix az bn (cO Z130.af) Tryz.func117
end Z131
namespace Z132
def F (x0:cB):aD:=(call (Z130.R x0.bp) fun v1=>(call (Z130.R x0.fA) fun v2=>(call (Z130.R x0.fB) fun v3=>ret ((⟨v1,v2,v3⟩):cB))))
def md (a0:aN):aN:=a0
def gd (a0:aN):Prop:=(aN.Sm (2^21) a0)
def R:=RR gd md
def aj {a0}(h:gd a0):R (aN.r a0)=some (aN.r a0):=cQ h
def aM:=CN [.agg vK] (.agg f170) RT.dec R
def bn (a0)(H0:gd a0):F (aN.r a0)=ret (aN.r (md a0)):=by
 refine ct (Z130.aj H0.1) (ct (Z130.aj H0.2.1) ?_)
 exact ct (Z130.aj H0.2.2) fz
def af:cj 210 aM:=W1 13 F mix az bn (cO Z130.af) Tryz.func210
end Z132
namespace Z133
inductive Pt where
 | p0 (a:aq) (b c:Int) (d:aW) (e:aq)
 | p1 (a:aq) (b c:Int) (d e:aq)
def pid:Pt->Nat
 | .p0 ..=>3
 | .p1 ..=>8
def cM:Pt->List V
 | .p0 a b c d e=>[.bP 0 0,.bP 1 0,.bP 2 0,.sl none 37 a,.int .i64 b,.int .i64 c,.bP 2 0]
 | .p1 a b c d e=>[.bP 0 0,.bP 1 0,.sl none 170 a,.int .i64 b,.int .i64 c,.bP 1 0,.bP 1 0]
def dQ:Pt->List aK
 | .p0 a b c d e=>[.box [.sl none 37 d.ay,.sl none 170 d.aY],.box [.nil,.nil],.box [.own 3,.nil],.row 37 e]
 | .p1 a b c d e=>[.box [.nil,.nil],.box [.own 2,.own 3],.row 37 d,.row 170 e]
def step (J:Pt->aD):Pt->aD
 | .p0 a b c d e=>(cond (c<b) (m2 c (a.length:Int) (call (Z131.R (rK a (toNat c))) fun v1=>(cA (eK (((e.length:Int)+1)*24)) (J (.p0 a b (i64.wrap (c+1)) d (e++[[L.sl v1]])))))) (J (.p1 d.aY (d.aY.length:Int) 0 e [])))
 | .p1 a b c d e=>(cond (c<b) (m2 c (a.length:Int) (call (Z132.R (cB.at a (toNat c))) fun v1=>(cA (eK (((e.length:Int)+1)*600)) (J (.p1 a b (i64.wrap (c+1)) d (e++[(cB.enc v1)])))))) (ret ((⟨d,e⟩:aW):aW)))
def start (J:Pt->aD)(x0:aW):aD:=J (.p0 x0.ay x0.ay.length 0 x0 [])
def live:Nat->Live:=gL [(3,[(1,none),(2,none),(3,none),(10,none),(11,none),(12,none),(3,some 37)]),(8,[(2,none),(3,none),(25,none),(26,none),(27,none),(3,some 37),(3,some 1048746)])]
def md (a0:ak):ak:=a0
def gd (a0:ak):Prop:=(ak.Sm (2^21) a0)
def R:=RR gd md
def aj {a0}(h:gd a0):R (ak.r a0)=some (ak.r a0):=cQ h
def aM:=CN [.agg wg] (.agg f36) RT.dec R
def bn (a0)(H0:gd a0):∃n,start (iter step n) (ak.r a0)=ret (ak.r (md a0)):=by
 have Bh2:=bl H0.1
 refine ex_eq (out:=(fun b:ak=>ret ((ak.r b):aW))) (gZ (xs:=a0.ay) (z:=[]) (t:=fun s3:List (List aa)=>(⟨s3,a0.aY⟩:ak))) (dy (p:=Pt.p0 (a0.ay.map (fR aa.row)) (a0.ay.length:Int) 0 (ak.r a0) ([].map (fR aa.row))) fz ?_)
 refine bH (pt:=fun (i1:Nat) (s3:List (List aa))=>Pt.p0 (a0.ay.map (fR aa.row)) (a0.ay.length:Int) (i1:Int) (ak.r a0) (s3.map (fR aa.row))) (out:=(fun b:ak=>ret ((ak.r b):aW))) (fun (i1:Nat) (s3:List (List aa))=>s3.length<=([]:List Int).length+1*i1) (fun J i1 s3 h2 hih2=>?_) (fun s3 hih2=>?_) (by simp)
 ·simp only [step,SS]
  have gr_:=hih2
  simp only [LN] at gr_
  have:=(H0.1).1
  refine aP.yes dt (aP.yes bB ?_)
  refine aP.yes (bQ h2) (cr (Z131.aj (bg.getD H0.1 h2)) ?_)
  refine aP.yes lm ?_
  refine aP.inl (by
    (simp;omega)) ?_
  rw [aF h2 Bh2]
  exact fz
 ·simp only [step,SS]
  refine cL dn ?_
  have Bh5:=bl H0.2
  refine ex_eq (out:=(fun b:ak=>ret ((ak.r b):aW))) (gZ (xs:=a0.aY) (z:=aN.zero) (t:=fun s6:List aN=>(⟨s3,s6⟩:ak))) (dy fz ?_)
  refine bH (pt:=fun (i4:Nat) (s6:List aN)=>Pt.p1 (a0.aY.map aN.row) (a0.aY.length:Int) (i4:Int) (s3.map (fR aa.row)) (s6.map aN.row)) (s:=([]:List aN)) (out:=(fun b:ak=>ret ((ak.r b):aW))) (fun (i4:Nat) (s6:List aN)=>s6.length<=([]:List Int).length+1*i4) (fun J i4 s6 h5 hih5=>?_) (fun s6 hih5=>?_) (by simp)
  ·simp only [step,SS]
   have gr_:=hih5
   simp only [LN] at gr_
   have:=(H0.2).1
   refine aP.yes dt (aP.yes bB ?_)
   refine aP.yes (bQ h5) (cr (Z132.aj (bg.getD H0.2 h5)) ?_)
   refine aP.yes lm ?_
   refine aP.inl (by
     (simp;omega)) ?_
   rw [aF h5 Bh5]
   exact fz
  ·simp only [step,SS]
   refine cL dn (⟨0,?_⟩)
   exact fz
def af:cj 116 aM:=L1 40 pid cM dQ live step start mix az bn (fc Z131.af Z132.af) Tryz.func116
end Z133
namespace Z134
def F (x0 x1 x2:Int):aD:=(cond (x1<=x0) (ret ((decide (x0<=x2)))) (ret false))
def md (a0 a1 a2:Int):Bool:=(cond (a1<=a0) ((decide (a0<=a2))) false)
def gd (a0 a1 a2:Int):Prop:=True
def R:=lP gd md
def aj {a0 a1 a2}(h:gd a0 a1 a2):R (a0,a1,a2)=some (md a0 a1 a2):=mq h
def aM:=CN [pI,pI,pI] oB RT.dec R
def bn (a0)(a1)(a2)(hg:gd a0 a1 a2):F a0 a1 a2=ret (md a0 a1 a2):=by
 refine bs (fun c1=>?_) (fun _=>rfl)
 exact fz
def af:cj 219 aM:=W3 15 F mix az bn .nil Tryz.func219
def br (a0 a1 a2:Int):md a0 a1 a2=Z11.md a0 a1 a2:=by
 unfold md Z11.md
 rfl
end Z134
namespace Z135
inductive Pt where
 | p0 (a:av) (b c:Int)
def cM:Pt->List V
 | .p0 a b c=>[.str a,.int .i64 b,.int .i64 c]
def step (J:Pt->aD):Pt->aD
 | .p0 a b c=>(cond (c<b) (m2 c (a.size:Int) (cond ((eF a (toNat c))>=97) (cond ((eF a (toNat c))<=122) (J (.p0 a b (i64.wrap (c+1)))) (cond ((eF a (toNat c))>=48) (cond ((eF a (toNat c))<=57) (J (.p0 a b (i64.wrap (c+1)))) (cond ((eF a (toNat c))==45) (cond (c>0) (cond (!(decide (c<(i64.wrap ((a.size:Int) - 1))))) eM (J (.p0 a b (i64.wrap (c+1))))) eM) eM)) (cond ((eF a (toNat c))==45) (cond (c>0) (cond (!(decide (c<(i64.wrap ((a.size:Int) - 1))))) eM (J (.p0 a b (i64.wrap (c+1))))) eM) eM))) (cond ((eF a (toNat c))>=48) (cond ((eF a (toNat c))<=57) (J (.p0 a b (i64.wrap (c+1)))) (cond ((eF a (toNat c))==45) (cond (c>0) (cond (!(decide (c<(i64.wrap ((a.size:Int) - 1))))) eM (J (.p0 a b (i64.wrap (c+1))))) eM) eM)) (cond ((eF a (toNat c))==45) (cond (c>0) (cond (!(decide (c<(i64.wrap ((a.size:Int) - 1))))) eM (J (.p0 a b (i64.wrap (c+1))))) eM) eM)))) (call (Z134.R ((a.size:Int),1,8)) fun v1=>ret (v1:Bool)))
def start (J:Pt->aD)(x0:av):aD:=J (.p0 x0 x0.size 0)
def live:Nat->Live:=gL [(2,jC [0,6,7])]
def md (a0:av):Bool:=(eB (S:=Unit) (β:=Bool) (fun i1 s3=>(cond ((eF a0 i1)>=97) (cond ((eF a0 i1)<=122) (.inl ()) (cond ((eF a0 i1)>=48) (cond ((eF a0 i1)<=57) (.inl ()) (cond ((eF a0 i1)==45) (cond ((i1:Int)>0) (cond (!(decide (i1<(i64.wrap (a0.size - 1))))) (.inr false) (.inl ())) (.inr false)) (.inr false))) (cond ((eF a0 i1)==45) (cond ((i1:Int)>0) (cond (!(decide (i1<(i64.wrap (a0.size - 1))))) (.inr false) (.inl ())) (.inr false)) (.inr false)))) (cond ((eF a0 i1)>=48) (cond ((eF a0 i1)<=57) (.inl ()) (cond ((eF a0 i1)==45) (cond ((i1:Int)>0) (cond (!(decide (i1<(i64.wrap (a0.size - 1))))) (.inr false) (.inl ())) (.inr false)) (.inr false))) (cond ((eF a0 i1)==45) (cond ((i1:Int)>0) (cond (!(decide (i1<(i64.wrap (a0.size - 1))))) (.inr false) (.inl ())) (.inr false)) (.inr false))))) (fun s3=>((Z134.md a0.size 1 8))) a0.size 0 ())
def gd (a0:av):Prop:=(a0.size<=(2^22))
def R:=RR gd md
def aj {a0}(h:gd a0):R a0=some (md a0):=cQ h
def aM:=CN [pS] oB RT.dec R
def bn (a0)(hg:gd a0):∃n,start (iter step n) a0=ret (md a0):=by
 unfold gd at hg
 have Bh2:a0.size<=maxLen:=(by
   simp only [maxLen] at *
   omega)
 refine dy fz (bH (pt:=fun (i1:Nat) (s3:Unit)=>Pt.p0 a0 (a0.size:Int) (i1:Int)) (fun _ _=>True) (fun J i1 s3 h2 hih2=>?_) (fun s3 hih2=>?_) trivial)
 ·simp only [step,SS]
  refine aP.yes dt (aP.yes bB ?_)
  refine aP.yes (bQ h2) (aP.bif (fun c4=>?_) (fun c4=>?_))
  ·refine aP.bif (fun c5=>?_) (fun c5=>?_)
   ·refine aP.inl trivial ?_
    rw [aF h2 Bh2]
   ·refine aP.bif (fun c6=>?_) (fun c6=>?_)
    ·refine aP.bif (fun c7=>?_) (fun c7=>?_)
     ·refine aP.inl trivial ?_
      rw [aF h2 Bh2]
     ·refine aP.bif (fun c8=>?_) (fun _=>aP.inr rfl)
      refine aP.bif (fun c9=>?_) (fun _=>aP.inr rfl)
      refine aP.bif (fun _=>aP.inr rfl) (fun c10=>?_)
      refine aP.inl trivial ?_
      rw [aF h2 Bh2]
    ·refine aP.bif (fun c11=>?_) (fun _=>aP.inr rfl)
     refine aP.bif (fun c12=>?_) (fun _=>aP.inr rfl)
     refine aP.bif (fun _=>aP.inr rfl) (fun c13=>?_)
     refine aP.inl trivial ?_
     rw [aF h2 Bh2]
  ·refine aP.bif (fun c14=>?_) (fun c14=>?_)
   ·refine aP.bif (fun c15=>?_) (fun c15=>?_)
    ·refine aP.inl trivial ?_
     rw [aF h2 Bh2]
    ·refine aP.bif (fun c16=>?_) (fun _=>aP.inr rfl)
     refine aP.bif (fun c17=>?_) (fun _=>aP.inr rfl)
     refine aP.bif (fun _=>aP.inr rfl) (fun c18=>?_)
     refine aP.inl trivial ?_
     rw [aF h2 Bh2]
   ·refine aP.bif (fun c19=>?_) (fun _=>aP.inr rfl)
    refine aP.bif (fun c20=>?_) (fun _=>aP.inr rfl)
    refine aP.bif (fun _=>aP.inr rfl) (fun c21=>?_)
    refine aP.inl trivial ?_
    rw [aF h2 Bh2]
 ·simp only [step,SS]
  refine cL dn (cx (Z134.aj trivial) ?_)
  refine ⟨0,?_⟩
  exact fz
def af:cj 193 aM:=L1 47 (fun _=>2) cM (fun _=>[]) live step start mix az bn (cO Z134.af) Tryz.func193
def br (a0:av):md a0=Z12.md a0:=by
 unfold md Z12.md
 by_cases hl:1<=a0.size/\a0.size<=8
 ·have e1:Z11.md (a0.size:Int) 1 8=true:=by simp [Z11.md];omega
  simp only [Z134.br,e1]
  have ew:i64.wrap ((a0.size:Int) - 1)=((a0.size - 1:Nat):Int):=by
   rw [Go.IntWalk.i64_in _ (by omega)];omega
  simp only [ew,gv]
  rw [Bool.eq_iff_iff]
  rw [iZ (fun i=>(97<=eF a0 i/\eF a0 i<=122)∨(48<=eF a0 i/\eF a0 i<=57)∨(eF a0 i=45/\0<i/\i<a0.size - 1)) (fun i hi h=>by simp;grind) (fun i hi h=>by simp;grind)]
  have e2:=iZ (n:=a0.size) (f:=fun (i4:Nat) (s6:Unit)=>(cond ((eF a0 i4)<97) (cond ((eF a0 i4)<48) (cond ((eF a0 i4) != 45) (.inr (false:Bool)) (.inl ())) (cond ((eF a0 i4)>57) (cond ((eF a0 i4) != 45) (.inr (false:Bool)) (.inl ())) (.inl ()))) (cond ((eF a0 i4)>122) (cond ((eF a0 i4)<48) (cond ((eF a0 i4) != 45) (.inr (false:Bool)) (.inl ())) (cond ((eF a0 i4)>57) (cond ((eF a0 i4) != 45) (.inr (false:Bool)) (.inl ())) (.inl ()))) (.inl ())))) (t:=fun _=>true)
   (fun i=>(97<=eF a0 i/\eF a0 i<=122)∨(48<=eF a0 i/\eF a0 i<=57)∨eF a0 i=45) (fun i hi h=>by simp;grind) (fun i hi h=>by simp;grind)
  have e3:∀b c d:Bool,(cond (!true) false (bif b then false else bif c then false else d))=true↔b=false/\c=false/\d=true:=by intro b c d;cases b<;>cases c<;>simp
  rw [e3,e2]
  simp only [beq_eq_false_iff_ne,ne_eq,and_true]
  constructor
  ·intro h
   refine ⟨fun h0=>?_,fun h0=>?_,fun i hi=>?_⟩
   ·have:=h 0 (by omega);omega
   ·have:=h (a0.size - 1) (by omega);omega
   ·have:=h i hi;omega
  ·intro ⟨h1,h2,h3⟩ i hi
   have:=h3 i hi
   by_cases h0:i=0
   ·subst h0;omega
   ·by_cases h9:i=a0.size - 1
    ·subst h9;omega
    ·omega
 ·have e1:Z11.md (a0.size:Int) 1 8=false:=by simp [Z11.md];omega
  simp only [Z134.br,e1]
  refine qZ ?_ _ _ _
  intro i s b h
  revert h
  simp only [Bool.cond_eq_ite]
  repeat' split
  all_goals (intro h;first | (cases h;rfl) | cases h)
end Z135
namespace Z136
def F (x0:av):aD:=(call (Z135.R x0) fun v1=>ret ((!v1)))
def md (a0:av):Bool:=((!(Z135.md a0)))
def gd (a0:av):Prop:=(a0.size<=(2^22))
def R:=RR gd md
def aj {a0}(h:gd a0):R a0=some (md a0):=cQ h
def aM:=CN [pS] oB RT.dec R
def bn (a0)(H0:gd a0):F a0=ret (md a0):=ct (Z135.aj H0) fz
def af:cj 343 aM:=W1 6 F mix az bn (cO Z135.af) Tryz.func343
end Z136
namespace Z137
inductive Pt where
 | p0 (a:aq) (b c:Int)
def pid:Pt->Nat
 | .p0 ..=>2
def cM:Pt->List V
 | .p0 a b c=>[.sl none 9 a,.fn 343 [],.int .i64 b,.int .i64 c]
def dQ:Pt->List aK
 | .p0 a b c=>[]
def step (J:Pt->aD):Pt->aD
 | .p0 a b c=>(cond (c<b) (m2 c (a.length:Int) (call (Z136.R (tS a (toNat c))) fun v1=>(cond v1 (ret (c:Int)) (J (.p0 a b (i64.wrap (c+1))))))) mV)
def start (J:Pt->aD)(x0:aq):aD:=J (.p0 x0 x0.length 0)
def live:Nat->Live:=gL [(2,jC [0,1,7,8])]
def pats:List fF:=[.rd (.sl 9),.fn 343 []]
def res:RP:=.one (.rd (.int .i64))
abbrev E:Env:={ T:=assoc mC,G:=cZ [(343,Z136.aM)],nt:=19 }
def step_eq (I:dD)(p:Pt):dU E live I (pid p) (bL Tryz.f402) (iT (live (pid p)) (cM p) (dQ p)) (dA E Tryz.f402 res)=step (fun q=>I (pid q) (cM q) (dQ q)) p:=by
 cases p<;>kernel_rfl
def start_eq (I:dD)(ls:List L):gO E live I (bL Tryz.f402) (dJ pats ls) (dA E Tryz.f402 res)=start (fun q=>I (pid q) (cM q) (dQ q)) (eU ls):=by kernel_rfl
def run_eq (n:Nat)(ls:List L):eY E live Tryz.f402 res n (dJ pats ls)=start (iter step n) (eU ls):=dI (id:=pid) (vs:=cM) (hs:=dQ) (step:=step) (start:=fun J=>start J (eU ls)) step_eq (fun I=>start_eq I ls) n
def md (a0:List av):Int:=(dY (S:=Unit) (β:=Int) (fun i1 y1 s3=>(cond (Z136.md y1) (.inr (i1)) (.inl ()))) (fun s3=>((-1):Int)) 0 a0 ())
def gd (a0:List av):Prop:=(bg (2^22) (fun y:av=>y.size<=(2^22)) a0)
def acc (ls:List L):aq:=(eU ls)
def R:(aq)->Option Int:=RR gd md
def aj {a0}(h:gd a0):R (a0.map dL)=some (md a0):=cQ h
def aM:gj:=CN pats res acc R
def bn (a0:List av)(H0:gd a0):∃n,start (iter step n) (a0.map dL)=ret ((md a0):Int):=by
 have Bh2:=bl H0
 refine ex_eq (cK (z:=⟨#[]⟩)) (dy (p:=Pt.p0 (a0.map dL) (a0.length:Int) 0) fz ?_)
 refine bH (pt:=fun (i1:Nat) (s3:Unit)=>Pt.p0 (a0.map dL) (a0.length:Int) (i1:Int)) (fun _ _=>True) (fun J i1 s3 h2 hih2=>?_) (fun s3 hih2=>?_) trivial
 ·simp only [step,SS]
  refine aP.yes dt (aP.yes bB ?_)
  refine aP.yes (bQ h2) (cr (Z136.aj (bg.getD H0 h2)) ?_)
  refine aP.bif (fun c4=>aP.inr fz) (fun c4=>?_)
  refine aP.inl trivial ?_
  rw [aF h2 Bh2]
 ·simp only [step,SS]
  refine cL dn (⟨0,?_⟩)
  exact fz
def af:cj 402 aM:=VV (run:=fun n x=>start (iter step n) x) mix az (cO Z136.af) Tryz.func402 (by kernel_rfl) run_eq (fun _ a _ _ hg=>bn a hg)
def idx_eq (a0:List av):md a0=iD (fun y=>Z136.md y) 0 a0:=jg
end Z137
namespace Z138
def F (x0:aq):aD:=(call (Z137.R x0) fun v1=>ret ((decide (v1>=0))))
def pats:List fF:=[.rd (.sl 9),.fn 343 []]
def res:RP:=.one (.rd (.bool))
def md (a0:List av):Bool:=((decide ((Z137.md a0)>=0)))
def gd (a0:List av):Prop:=(bg (2^22) (fun y:av=>y.size<=(2^22)) a0)
def acc (ls:List L):aq:=(eU ls)
def R:(aq)->Option Bool:=RR gd md
def aj {a0}(h:gd a0):R (a0.map dL)=some (md a0):=cQ h
def aM:gj:=CN pats res acc R
def bn (a0:List av)(H0:gd a0):F (a0.map dL)=ret ((md a0):Bool):=ct (Z137.aj H0) fz
def af:cj 342 aM:=VV (live:=fun _=>[]) (nt:=9) (run:=fun _ x=>F x) mix az (cO Z137.af) Tryz.func342 (by kernel_rfl) (fun _ _=>by kernel_rfl) (fun _ a _ _ hg=>⟨0,bn a hg⟩)
def any_eq (a0:List av):md a0=a0.any (fun y=>Z136.md y):=by
 unfold md
 rw [Z137.idx_eq]
 exact rX
end Z138
namespace Z139
def F (x0:aq):aD:=(call (Z134.R (x0.length,1,4)) fun v1=>(cond v1 (call (Z138.R x0) fun v2=>ret ((!v2))) (ret false)))
def md (a0:List av):Bool:=(cond (Z134.md a0.length 1 4) ((!(Z138.md a0))) false)
def gd (a0:List av):Prop:=(bg (2^22) (fun y:av=>y.size<=(2^22)) a0)
def R:=RR gd md
def aj {a0}(h:gd a0):R (a0.map dL)=some (md a0):=cQ h
def aM:=CN [pL 9] oB RT.dec R
def bn (a0)(H0:gd a0):F (a0.map dL)=ret (md a0):=by
 unfold F md
 simp only [SS]
 refine ct (Z134.aj trivial) (bs (fun c1=>?_) (fun _=>rfl))
 exact ct (Z138.aj H0) fz
def af:cj 278 aM:=W1 11 F mix az bn (fc Z134.af Z138.af) Tryz.func278
def br (a0:List av):md a0=Z13.md a0:=by
 unfold md Z13.md
 rw [Z138.any_eq]
 have e:=nF (p:=fun y=>!(Z12.md y)) (b:=false) (c:=Z11.md (a0.length:Int) 1 4) (xs:=a0) (s:=())
 refine Eq.trans ?_ e.symm
 simp only [Z136.md,Z135.br,Z134.br]
 cases a0.any (fun y=>!(Z12.md y))<;>cases Z11.md (a0.length:Int) 1 4<;>rfl
end Z139
namespace Z140
def F (x0:Int):aD:=(call (Z134.R (x0,0,2147483646)) fun v1=>ret v1)
def md (a0:Int):Bool:=((Z134.md a0 0 2147483646))
def gd (a0:Int):Prop:=True
def R:=RR gd md
def aj {a0}(h:gd a0):R a0=some (md a0):=cQ h
def aM:=CN [pI] oB RT.dec R
def bn (a0)(hg:gd a0):F a0=ret (md a0):=ct (Z134.aj trivial) fz
def af:cj 194 aM:=W1 5 F mix az bn (cO Z134.af) Tryz.func194
end Z140
namespace Z141
def F (x0:bN):aD:=(cond (x0.cg>=0) (cond (x0.cg<=x0.cm) (cond (x0.cm<=100000) (ret ((decide ((i64.wrap (x0.cm - x0.cg))<=200)))) (ret false)) (ret false)) (ret false))
def md (a0:au):Bool:=(cond (a0.cg>=0) (cond (a0.cg<=a0.cm) (cond (a0.cm<=100000) ((decide ((i64.wrap (a0.cm - a0.cg))<=200))) false) false) false)
def gd (a0:au):Prop:=True
def R:=RR gd md
def aj {a0}(h:gd a0):R (au.r a0)=some (md a0):=cQ h
def aM:=CN [.agg lu] oB RT.dec R
def bn (a0)(hg:gd a0):F (au.r a0)=ret (md a0):=by
 refine bs (fun c1=>?_) (fun _=>rfl)
 refine bs (fun c2=>?_) (fun _=>rfl)
 refine bs (fun c3=>?_) (fun _=>rfl)
 exact fz
def af:cj 354 aM:=W1 26 F mix az bn .nil Tryz.func354
end Z141
namespace Z142
inductive Pt where
 | p0 (a:aq) (b c:Int)
def cM:Pt->List V
 | .p0 a b c=>[.sl none 3 a,.int .i64 b,.int .i64 c]
def step (J:Pt->aD):Pt->aD
 | .p0 a b c=>(cond (c<b) (cond (c>0) (m2 c (a.length:Int) (cA ((0:Int)<=(i64.wrap (c - 1))) (cA ((i64.wrap (c - 1))<(a.length:Int)) (cond ((jz a (toNat c))<=(jz a (toNat (i64.wrap (c - 1))))) eM (J (.p0 a b (i64.wrap (c+1)))))))) (J (.p0 a b (i64.wrap (c+1))))) nS)
def start (J:Pt->aD)(x0:aq):aD:=J (.p0 x0 x0.length 0)
def live:Nat->Live:=gL [(2,jC [0,5,6])]
def md (a0:List Int):Bool:=(dY (S:=Unit) (β:=Bool) (fun i1 y1 s3=>(cond ((i1:Int)>0) (cond (y1<=(a0.getD (toNat (i64.wrap (i1 - 1))) 0)) (.inr false) (.inl ())) (.inl ()))) (fun s3=>true) 0 a0 ())
def gd (a0:List Int):Prop:=(bg (2^38) (fun y:Int=>True) a0)
def R:=RR gd md
def aj {a0}(h:gd a0):R (a0.map aV)=some (md a0):=cQ h
def aM:=CN [pL 3] oB RT.dec R
def bn (a0)(H0:gd a0):∃n,start (iter step n) (a0.map aV)=ret (md a0):=by
 have Bh2:=bl H0
 refine ex_eq (cK (z:=0)) (dy (p:=Pt.p0 (a0.map aV) (a0.length:Int) 0) fz ?_)
 refine bH (pt:=fun (i1:Nat) (s3:Unit)=>Pt.p0 (a0.map aV) (a0.length:Int) (i1:Int)) (fun _ _=>True) (fun J i1 s3 h2 hih2=>?_) (fun s3 hih2=>?_) trivial
 ·simp only [step,SS]
  have:=(H0).1
  refine aP.yes dt (aP.bif (fun c4=>?_) (fun c4=>?_))
  ·have dc4:=c4
   simp only [DC] at dc4
   refine aP.yes bB (aP.yes (bQ h2) ?_)
   refine aP.yes dt (aP.yes dt ?_)
   refine aP.bif (fun _=>aP.inr rfl) (fun c5=>?_)
   refine aP.inl trivial ?_
   rw [aF h2 Bh2]
  ·refine aP.inl trivial ?_
   rw [aF h2 Bh2]
 ·simp only [step,SS]
  refine cL dn (⟨0,?_⟩)
  exact fz
def af:cj 416 aM:=L1 24 (fun _=>2) cM (fun _=>[]) live step start mix az bn .nil Tryz.func416
end Z142
namespace Z143
def F (x0:Int):aD:=(call (Z134.R (x0,1,99)) fun v1=>ret v1)
def md (a0:Int):Bool:=((Z134.md a0 1 99))
def gd (a0:Int):Prop:=True
def R:=RR gd md
def aj {a0}(h:gd a0):R a0=some (md a0):=cQ h
def aM:=CN [pI] oB RT.dec R
def bn (a0)(hg:gd a0):F a0=ret (md a0):=ct (Z134.aj trivial) fz
def af:cj 417 aM:=W1 5 F mix az bn (cO Z134.af) Tryz.func417
end Z143
namespace Z144
def F (x0:cX):aD:=(call (Z134.R (x0.bz.length,1,4)) fun v1=>(cond v1 (call (Z142.R x0.bz) fun v2=>(cond v2 (cA ((0:Int)<x0.bz.length) (call (Z143.R (jz x0.bz 0)) fun v3=>(cond v3 (cA ((0:Int)<=(i64.wrap (x0.bz.length - 1))) (cA ((i64.wrap (x0.bz.length - 1))<x0.bz.length) (call (Z143.R (jz x0.bz (toNat (i64.wrap (x0.bz.length - 1))))) fun v4=>(cond v4 (call (Z134.R (x0.dw,1,x0.bz.length)) fun v5=>ret v5) (ret false))))) (ret false)))) (ret false))) (ret false)))
def md (a0:aL):Bool:=(cond (Z134.md a0.bz.length 1 4) (cond (Z142.md a0.bz) (cond (Z143.md (a0.bz.getD 0 0)) (cond (Z143.md (a0.bz.getD (toNat (i64.wrap (a0.bz.length - 1))) 0)) ((Z134.md a0.dw 1 a0.bz.length)) false) false) false) false)
def gd (a0:aL):Prop:=(aL.Sm (2^21) a0)
def R:=RR gd md
def aj {a0}(h:gd a0):R (aL.r a0)=some (md a0):=cQ h
def aM:=CN [.agg qW] oB RT.dec R
def bn (a0)(H0:gd a0):F (aL.r a0)=ret (md a0):=by
 unfold F md
 simp only [SS]
 refine ct (Z134.aj trivial) (bs (fun c1=>?_) (fun _=>rfl))
 have Dc1:=c1
 simp [Z134.md] at Dc1
 refine ct (Z142.aj (H0.mono (by decide) (fun x hx=>trivial))) (bs (fun c2=>?_) (fun _=>rfl))
 refine aG dt (ct (Z143.aj trivial) ?_)
 refine bs (fun c3=>?_) (fun _=>rfl)
 refine aG dt (aG dt ?_)
 refine ct (Z143.aj trivial) (bs (fun c4=>?_) (fun _=>rfl))
 exact ct (Z134.aj trivial) fz
def af:cj 355 aM:=W1 38 F mix az bn (jB Z134.af Z142.af Z143.af) Tryz.func355
def EJ {l:List Int}(h:∀i:Nat,i<l.length->0<i->l.getD (i - 1) 0<l.getD i 0):∀(k i:Nat),i+k<l.length->l.getD i 0<=l.getD (i+k) 0
 | 0,i,_=>Int.le_refl _
 | k+1,i,hi=>by
  have h1:=EJ h k i (by omega)
  have h2:=h (i+(k+1)) hi (by omega)
  rw [show i+(k+1) - 1=i+k by omega] at h2
  omega
def br (a0:aL):md a0=Z34.md a0:=by
 unfold md Z34.md Z142.md
 simp only [Z134.br,Z143.md]
 by_cases hl:1<=a0.bz.length/\a0.bz.length<=4
 ·have e1:Z11.md (a0.bz.length:Int) 1 4=true:=by simp [Z11.md];omega
  rw [e1]
  have wp:∀i:Nat,0<i->i<=4->toNat (i64.wrap ((i:Int) - 1))=i - 1:=fun i h1 h2=>by
   rw [Go.IntWalk.i64_in _ (by omega)];omega
  rw [wp _ (by omega) (by omega)]
  generalize a0.dw=n
  generalize a0.bz=l at *
  have i1:∀x a b:Int,Z11.md x a b=true↔a<=x/\x<=b:=fun x a b=>by simp [Z11.md]
  have i2:∀x a b:Int,Z11.md x a b=false↔¬(a<=x/\x<=b):=fun x a b=>by rw [<-i1];simp
  have w2:∀i:Nat,i<l.length->0<i->toNat (i64.wrap ((i:Int) - 1))=i - 1:=fun i h1 h2=>wp i h2 (by omega)
  rw [Bool.eq_iff_iff,<-cK (z:=0),<-cK]
  have e3:∀a b c d:Bool,(cond true (cond a (cond b (cond c d false) false) false) false)=true↔a=true/\b=true/\c=true/\d=true:=by
   intro a b c d;cases a<;>cases b<;>cases c<;>simp
  have pos:∀i:Nat,0<i->decide ((i:Int)>0)=true:=fun i h=>by simpa using h
  have npos:∀i:Nat,¬0<i->decide ((i:Int)>0)=false:=fun i h=>by simpa using h
  rw [e3]
  rw [iZ (fun i=>0<i->l.getD (i - 1) 0<l.getD i 0) (fun i hi h=>?_) (fun i hi h=>?_),iZ (fun i=>(1<=l.getD i 0/\l.getD i 0<=99)/\(0<i->l.getD (i - 1) 0<l.getD i 0)) (fun i hi h=>?_) (fun i hi h=>?_)]
  ·simp only [i1,and_true,aO]
   constructor
   ·rintro ⟨h1,⟨h2,h3⟩,⟨h4,h5⟩,h6⟩
    refine ⟨fun i hi=>⟨⟨?_,?_⟩,h1 i hi⟩,h6⟩
    ·have:=EJ h1 i 0 (by omega)
     rw [Nat.zero_add] at this;omega
    ·have:=EJ h1 (l.length - 1 - i) i (by omega)
     rw [show i+(l.length - 1 - i)=l.length - 1 by omega] at this;omega
   ·rintro ⟨h1,h6⟩
    exact ⟨fun i hi=>(h1 i hi).2,(h1 0 (by omega)).1,(h1 (l.length - 1) (by omega)).1,h6⟩
  ·have e2:=(i1 (l.getD i 0) 1 99).2 h.1
   rw [e2]
   by_cases h0:0<i
   ·rw [pos i h0,w2 i hi h0,decide_eq_false (by omega)];rfl
   ·rw [npos i h0];rfl
  ·by_cases h1:1<=l.getD i 0/\l.getD i 0<=99
   ·have e2:=(i1 (l.getD i 0) 1 99).2 h1
    have h0:0<i:=Classical.byContradiction fun hc=>h ⟨h1,fun h=>(hc h).elim⟩
    rw [e2,pos i h0,w2 i hi h0,decide_eq_true (by omega)];rfl
   ·rw [(i2 _ _ _).2 h1];rfl
  ·by_cases h0:0<i
   ·rw [pos i h0,w2 i hi h0,decide_eq_false (by omega)];rfl
   ·rw [npos i h0];rfl
  ·have h0:0<i:=Classical.byContradiction fun hc=>h fun h=>(hc h).elim
   rw [pos i h0,w2 i hi h0,decide_eq_true (by omega)];rfl
 ·have e1:Z11.md (a0.bz.length:Int) 1 4=false:=by simp [Z11.md];omega
  rw [e1]
  simp only [aR]
  symm
  exact kL (by
   intro i x s b h
   revert h
   simp only [Bool.cond_eq_ite]
   repeat' split
   all_goals (intro h;first | (cases h;rfl) | cases h)) _ _ _
end Z144
namespace Z145
def F (x0:cX):aD:=(cond (x0.dw==0) (ret (((x0.bz.length:Int)==0))) (ret false))
def md (a0:aL):Bool:=(cond (a0.dw==0) (((a0.bz.length:Int)==0)) false)
def gd (a0:aL):Prop:=True
def R:=RR gd md
def aj {a0}(h:gd a0):R (aL.r a0)=some (md a0):=cQ h
def aM:=CN [.agg qW] oB RT.dec R
def bn (a0)(hg:gd a0):F (aL.r a0)=ret (md a0):=by
 refine bs (fun c1=>?_) (fun _=>rfl)
 exact fz
def af:cj 358 aM:=W1 12 F mix az bn .nil Tryz.func358
def br (a0:aL):md a0=Z35.md a0:=by
 unfold md Z35.md
 simp only [id]
end Z145
namespace Z146
def F (x0:cX):aD:=(call (Z145.R x0) fun v1=>(cond v1 (ret true) (call (Z144.R x0) fun v2=>ret v2)))
def md (a0:aL):Bool:=(cond (Z145.md a0) true ((Z144.md a0)))
def gd (a0:aL):Prop:=(aL.Sm (2^21) a0)
def R:=RR gd md
def aj {a0}(h:gd a0):R (aL.r a0)=some (md a0):=cQ h
def aM:=CN [.agg qW] oB RT.dec R
def bn (a0)(H0:gd a0):F (aL.r a0)=ret (md a0):=by
 refine ct (Z145.aj trivial) (bs (fun _=>rfl) (fun c1=>?_))
 exact ct (Z144.aj H0) fz
def af:cj 356 aM:=W1 9 F mix az bn (fc Z145.af Z144.af) Tryz.func356
end Z146
namespace Z147
def F (x0:Int)(x1:cX):aD:=(call (Z145.R x1) fun v1=>(cond v1 (ret ((x0==0))) (call (Z134.R (x0,1,500)) fun v2=>ret v2)))
def md (a0:Int)(a1:aL):Bool:=(cond (Z145.md a1) ((a0==0)) ((Z134.md a0 1 500)))
def gd (a0:Int)(a1:aL):Prop:=True
def R:=cI gd md
def aj {a0 a1}(h:gd a0 a1):R (a0,(aL.r a1))=some (md a0 a1):=cH h
def aM:=CN [pI,.agg qW] oB RT.dec R
def bn (a0)(a1)(hg:gd a0 a1):F a0 (aL.r a1)=ret (md a0 a1):=ct (Z145.aj trivial) (bs (fun c1=>fz) (fun c1=>ct (Z134.aj trivial) fz))
def af:cj 357 aM:=W2 11 F mix az bn (fc Z145.af Z134.af) Tryz.func357
end Z147
namespace Z148
def F (x0:bN):aD:=(call (Z140.R x0.aX) fun v1=>(cond v1 (call (Z140.R x0.dx) fun v2=>(cond v2 (call (Z140.R x0.ec) fun v3=>(cond v3 (call (Z134.R (x0.cw,0,200)) fun v4=>(cond v4 (call (Z134.R (x0.bt,1,3)) fun v5=>(cond v5 (call (Z141.R x0) fun v6=>(cond v6 (call (Z134.R (x0.bZ,0,12)) fun v7=>(cond v7 (call (Z144.R x0.bV) fun v8=>(cond v8 (call (Z146.R x0.bG) fun v9=>(cond v9 (call (Z146.R x0.bD) fun v10=>(cond v10 (call (Z147.R (x0.cW,x0.bG)) fun v11=>(cond v11 (cond x0.bh (call (Z145.R x0.bD) fun v12=>ret ((!v12))) (ret true)) (ret false))) (ret false))) (ret false))) (ret false))) (ret false))) (ret false))) (ret false))) (ret false))) (ret false))) (ret false))) (ret false)))
def md (a0:au):Bool:=(cond (Z140.md a0.aX) (cond (Z140.md a0.dx) (cond (Z140.md a0.ec) (cond (Z134.md a0.cw 0 200) (cond (Z134.md a0.bt 1 3) (cond (Z141.md a0) (cond (Z134.md a0.bZ 0 12) (cond (Z144.md a0.bV) (cond (Z146.md a0.bG) (cond (Z146.md a0.bD) (cond (Z147.md a0.cW a0.bG) (cond a0.bh ((!(Z145.md a0.bD))) true) false) false) false) false) false) false) false) false) false) false) false)
def gd (a0:au):Prop:=(au.Sm (2^21) a0)
def R:=RR gd md
def aj {a0}(h:gd a0):R (au.r a0)=some (md a0):=cQ h
def aM:=CN [.agg lu] oB RT.dec R
def bn (a0)(H0:gd a0):F (au.r a0)=ret (md a0):=by
 refine ct (Z140.aj trivial) (bs (fun c1=>?_) (fun _=>rfl))
 refine ct (Z140.aj trivial) (bs (fun c2=>?_) (fun _=>rfl))
 refine ct (Z140.aj trivial) (bs (fun c3=>?_) (fun _=>rfl))
 refine ct (Z134.aj trivial) (bs (fun c4=>?_) (fun _=>rfl))
 refine ct (Z134.aj trivial) (bs (fun c5=>?_) (fun _=>rfl))
 refine ct (Z141.aj trivial) (bs (fun c6=>?_) (fun _=>rfl))
 refine ct (Z134.aj trivial) (bs (fun c7=>?_) (fun _=>rfl))
 refine ct (Z144.aj H0.1) (bs (fun c8=>?_) (fun _=>rfl))
 refine ct (Z146.aj H0.2.1) (bs (fun c9=>?_) (fun _=>rfl))
 refine ct (Z146.aj H0.2.2) (bs (fun c10=>?_) (fun _=>rfl))
 refine ct (Z147.aj trivial) (bs (fun c11=>?_) (fun _=>rfl))
 refine bs (fun c12=>?_) (fun _=>rfl)
 exact ct (Z145.aj trivial) fz
def af:cj 294 aM:=W1 67 F mix az bn (yd Z140.af Z134.af Z141.af Z144.af Z146.af Z147.af Z145.af) Tryz.func294
def br (a0:au):md a0=Z36.md a0:=by
 unfold md Z36.md
 simp only [Z144.br,Z134.br,Z140.md,Z146.md,Z147.md,Z145.br]
 have hs:Z141.md a0=(Z11.md a0.cg 0 100000&&(Z11.md a0.cm a0.cg 100000&&!decide ((i64.wrap (a0.cm - a0.cg))>200))):=by
  rw [Bool.eq_iff_iff]
  simp [Z141.md,Z11.md]
  omega
 have hk:Z34.md a0.bD=true->Z35.md a0.bD=false:=fun h=>by
  have:=Z34.tr h
  have e:((a0.bD.bz.length:Int)==0)=false:=beq_eq_false_iff_ne.2 (by omega)
  unfold Z35.md
  rw [e]
  cases a0.bD.dw==0<;>rfl
 rw [hs]
 revert hk
 simp only [Ec,CR,Bool.and_assoc]
 generalize Z11.md a0.aX 0 2147483646=b1
 generalize Z11.md a0.dx 0 2147483646=b2
 generalize Z11.md a0.ec 0 2147483646=b3
 generalize Z11.md a0.cw 0 200=b4
 generalize Z11.md a0.bt 1 3=b5
 generalize Z11.md a0.cg 0 100000=b6
 generalize Z11.md a0.cm a0.cg 100000=b7
 generalize decide ((i64.wrap (a0.cm - a0.cg))>200)=b8
 generalize Z11.md a0.bZ 0 12=b9
 generalize Z34.md a0.bV=b10
 generalize Z34.md a0.bG=kh
 generalize Z35.md a0.bG=nh
 generalize Z34.md a0.bD=kj
 generalize Z35.md a0.bD=nj
 generalize Z11.md a0.cW 1 500=lw
 have hw:(a0.cW != 0)=!(a0.cW==0):=rfl
 rw [hw]
 generalize (a0.cW==0)=w0
 generalize a0.bh=fz
 intro hk
 cases b1;· rfl
 cases b2;· rfl
 cases b3;· rfl
 cases b4;· rfl
 cases b5;· rfl
 cases b6;· rfl
 cases b7;· rfl
 cases b8;rotate_left;· rfl
 cases b9;· rfl
 cases b10;· rfl
 revert hk
 revert kh nh kj nj lw w0 fz
 decide
end Z148
namespace Z149
def F (x0:cX):aD:=(cA (eK (((2:Int)+x0.bz.length)*8)) (ret (([[L.int x0.dw],[L.int x0.bz.length]]++x0.bz):aq)))
def md (a0:aL):List Int:=([a0.dw,a0.bz.length]++a0.bz)
def gd (a0:aL):Prop:=(aL.Sm (2^21) a0)
def R:=RR gd md
def aj {a0}(h:gd a0):R (aL.r a0)=some ((md a0).map aV):=cQ h
def aM:=CN [.agg qW] (oL 3) RT.dec R
def bn (a0)(H0:gd a0):F (aL.r a0)=ret ((md a0).map aV):=by
 unfold F md
 simp only [SS]
 exact aG (have:=(H0).1;lm) fz
def af:cj 303 aM:=W1 12 F mix az bn .nil Tryz.func303
def len (a0:aL):(md a0).length=2+a0.bz.length:=by simp [md];omega
def br (a0:aL):md a0=Z19.md a0:=by
 unfold md Z19.md
 simp only [id]
end Z149
namespace Z150
def F (x0 x1:Int):aD:=(call (Z134.R (x1,1,1000000000000)) fun v1=>(cond (!v1) (ret (0:Int)) (cond (x1=0) none (cond (x1=0) none (ret ((Int.tmod (i64.wrap ((Int.tmod x0 x1)+x1)) x1)))))))
def md (a0 a1:Int):Int:=(cond (!(Z134.md a1 1 1000000000000)) (0:Int) ((Int.tmod (i64.wrap ((Int.tmod a0 a1)+a1)) a1)))
def gd (a0 a1:Int):Prop:=True
def R:=cI gd md
def aj {a0 a1}(h:gd a0 a1):R (a0,a1)=some (md a0 a1):=cH h
def aM:=CN [pI,pI] oI RT.dec R
def bn (a0)(a1)(hg:gd a0 a1):F a0 a1=ret (md a0 a1):=by
 refine ct (Z134.aj trivial) (bs (fun _=>rfl) (fun c1=>?_))
 have Dc1:=c1
 simp [Z134.md] at Dc1
 refine eH df (eH df ?_)
 exact fz
def af:cj 418 aM:=W2 15 F mix az bn (cO Z134.af) Tryz.func418
def br (a0 a1:Int):md a0 a1=Z20.md a0 a1:=by
 unfold md Z20.md
 simp only [Z134.br]
end Z150
namespace Z151
inductive Pt where
 | p0 (a:Int) (b:aq) (c d:Int)
def cM:Pt->List V
 | .p0 a b c d=>[.int .i64 a,.sl none 3 b,.int .i64 c,.int .i64 d]
def step (J:Pt->aD):Pt->aD
 | .p0 a b c d=>(cond (d<c) (m2 d (b.length:Int) (call (Z150.R ((jz b (toNat d)),2147483647)) fun v1=>J (.p0 (Int.tmod (i64.wrap ((i64.wrap ((i64.wrap (a*1000003))+v1))+13)) 2147483647) b c (i64.wrap (d+1))))) (ret (a:Int)))
def start (J:Pt->aD)(x0:aq):aD:=J (.p0 11 x0 x0.length 0)
def live:Nat->Live:=gL [(3,jC [3,6,7,8])]
def md (a0:List Int):Int:=(dM (S:=Int) (β:=Int) (fun y1 s3=>(.inl (Int.tmod (i64.wrap ((i64.wrap ((i64.wrap (s3*1000003))+(Z150.md y1 2147483647)))+13)) 2147483647))) (fun s3=>s3) a0 11)
def gd (a0:List Int):Prop:=(bg (2^43) (fun y:Int=>True) a0)
def R:=RR gd md
def aj {a0}(h:gd a0):R (a0.map aV)=some (md a0):=cQ h
def aM:=CN [pL 3] oI RT.dec R
def bn (a0)(H0:gd a0):∃n,start (iter step n) (a0.map aV)=ret (md a0):=by
 have Bh2:=bl H0
 refine ex_eq (dZ (z:=0)) (dy (p:=Pt.p0 11 (a0.map aV) (a0.length:Int) 0) fz ?_)
 refine bH (pt:=fun (i1:Nat) (s3:Int)=>Pt.p0 s3 (a0.map aV) (a0.length:Int) (i1:Int)) (fun _ _=>True) (fun J i1 s3 h2 hih2=>?_) (fun s3 hih2=>?_) trivial
 ·simp only [step,SS]
  refine aP.yes dt (aP.yes bB ?_)
  refine aP.yes (bQ h2) (cr (Z150.aj trivial) ?_)
  refine aP.inl trivial ?_
  rw [aF h2 Bh2]
 ·simp only [step,SS]
  refine cL dn (⟨0,?_⟩)
  exact fz
def af:cj 359 aM:=L1 21 (fun _=>3) cM (fun _=>[]) live step start mix az bn (cO Z150.af) Tryz.func359
def br (a0:List Int):md a0=Z21.md a0:=by
 unfold md Z21.md
 simp only [Z150.br]
end Z151
namespace Z152
def F (x0:cX)(x1:Int):aD:=(call (Z149.R x0) fun v1=>(cA (eK (((2:Int)+v1.length)*8)) (call (Z151.R ([[L.int 239],[L.int x1]]++v1)) fun v2=>ret v2)))
def md (a0:aL)(a1:Int):Int:=((Z151.md ([239,a1]++(Z149.md a0))))
def gd (a0:aL)(a1:Int):Prop:=(aL.Sm (2^21) a0)
def R:=cI gd md
def aj {a0 a1}(h:gd a0 a1):R ((aL.r a0),a1)=some (md a0 a1):=cH h
def aM:=CN [.agg qW,pI] oI RT.dec R
def bn (a0)(a1)(H0:gd a0 a1):F (aL.r a0) a1=ret (md a0 a1):=by
 refine ct (Z149.aj H0) (aG (have:=Z149.len a0;have:=(H0).1;lm) ?_)
 exact cG _ (rq (Z151.aj (a0:=([239,a1]++(Z149.md a0))) ⟨(have:=Z149.len a0;have:=(H0).1;om),fun _ _=>trivial⟩)) fz
def af:cj 295 aM:=W2 11 F mix az bn (fc Z149.af Z151.af) Tryz.func295
def br (a0:aL)(a1:Int):md a0 a1=Z22.md a0 a1:=by
 unfold md Z22.md
 simp only [Z149.br,Z151.br]
end Z152
namespace Z153
def F (x0:Bool):aD:=(cond x0 (ret (1:Int)) (ret (0:Int)))
def md (a0:Bool):Int:=(cond a0 (1:Int) (0:Int))
def gd (a0:Bool):Prop:=True
def R:=RR gd md
def aj {a0}(h:gd a0):R a0=some (md a0):=cQ h
def aM:=CN [pB] oI RT.dec R
def bn (a0)(hg:gd a0):F a0=ret (md a0):=by
 refine bs (fun _=>rfl) (fun _=>rfl)
def af:cj 169 aM:=W1 4 F mix az bn .nil Tryz.func169
end Z153
namespace Z154
set_option maxHeartbeats 1000000 in
set_option maxRecDepth 100000 in
open Go.RowKit in
def Dh (b:Option Addr)(w:World):Calls Tryz.prog 373 #[.slice b 0 0,.int .i64 0] w fun e w'=>e=.returned (.slice b 0 0)/\w'=w:=by
 go_enter Tryz.func373,Tryz.ntmps373
 go_wp2
 go_ret
 exact ⟨rfl,rfl⟩
def D5:Tryz.t3.size=1:=by kernel_rfl
def BO:Tryz.t3.bytes=8:=by kernel_rfl
set_option maxHeartbeats 1000000 in
set_option maxRecDepth 100000 in
open Go.RowKit in
def C6 (b:Option Addr)(n:Nat)(w:World)(h0:0<n)(h1:n*8<=140737488355328):Calls Tryz.prog 373 #[.slice b 0 0,.int .i64 n] w fun e w'=>e=.returned (.slice (some ⟨w.heap.size,0,none⟩) 0 (grownCap w n 0 3))/\w'=(w.drew.alloc (.cells (Builtin.zeroCells #[.int .i64 0] n++Builtin.zeroCells #[.int .i64 0] (grownCap w n 0 3 - n)) 3)):=by
 have hp:(0:Int)<n:=by omega
 have hnn:¬((n:Int)<0):=by omega
 have hold:(Builtin.firstCells Tryz.t3.size 0 (.slice b 0 0)).run Tryz.prog w.drew=.ok ([]:List Value).toArray w.drew:=by
  cases b with
  | none=>exact run_firstCells_none _ _ _ _ _
  | some b=>exact run_firstCells_some _ _ _ _ _ _ [] (by simp) (fun j v hj=>by simp at hj)
 have H:=fun ty=>Lib.run_append_grow_zeros (P:=Tryz.prog) w 46 3 ty 3 Tryz.t3 (.int .i64 0) .i64 .i64 (by kernel_rfl) (by kernel_rfl) (by kernel_rfl) (by kernel_rfl) b 0 0 [] hold n h0 (by rw [D5];omega) (by omega) (by omega) (by rw [BO];omega) (by
  rw [Nat.zero_add,nextslicecap_zero h0,BO];omega)
 simp only [Nat.zero_add,Array.empty_append] at H
 have H2:=Lib.hid H
 clear H hold
 go_enter Tryz.func373,Tryz.ntmps373
 go_wp2_with (at_builtin;refine Lib.wpList_append_run _ rfl _ _ _ _ rfl _ _ rfl rfl _ _ (H2.out _) ?_)
 go_ret
 exact ⟨rfl,rfl⟩
def R (x0:Int):Option (aq):=bif decide (0<=x0)&&decide (x0*8<=140737488355328) then some [] else none
def aj {a0:Int}(h:0<=a0/\a0*8<=140737488355328):R a0=some []:=by simp [R,h.1,h.2]
def sem:List L->Option (List L)
 | [y0]=>(R y0.toInt).map RT.enc
 | _=>none
def aM:gj:=⟨[.nil,.rd (.int .i64)],.one (.fr 3),sem⟩
def Dt:Ev.cells 3=[aE]:=by kernel_rfl
def af:cj 373 aM:=by
 refine zH ⟨Tryz.f373,Tryz.func373,by kernel_rfl,by kernel_rfl⟩ rfl fun ls r w vs Z hs hf=>?_
 simp only [aM] at hs
 unfold sem at hs
 split at hs
 ·rename_i y
  obtain ⟨v,hv,hq⟩:=map_some hs
  unfold R at hv
  cases hc:(decide (0<=y.toInt)&&decide (y.toInt*8<=140737488355328))<;>simp only [hc,aO,aR] at hv
  ·cases hv
  injection hv with hv
  subst hv
  subst hq
  simp only [Bool.and_eq_true,decide_eq_true_eq] at hc
  cases hf with
  | cons h1 ht=>
   cases ht with
   | cons h2 ht=>
    cases ht
    obtain ⟨b,rfl⟩:=(show V0 Ev.cells w (A0 Z w) .nil _ from h1)
    have e2:_=Value.int .i64 y.toInt:=h2
    subst e2
    obtain ⟨n,hn⟩:∃n:Nat,y.toInt=n:=⟨y.toInt.toNat,by omega⟩
    rw [hn] at hc ⊢
    rcases Nat.eq_zero_or_pos n with h0 | h0
    ·subst h0
     exact (Dh b w).mono fun e w' ⟨h3,h4⟩=>⟨_,fun _=>False,h3,by rw [h4];exact Fr.refl _ _,fun b hb=>hb.elim,.nil _ _ _ _ rfl⟩
    ·refine (C6 b n w h0 (by omega)).mono fun e w' ⟨h3,h4⟩=>⟨_,fun b=>b=w.heap.size,h3,?_,fun b hb=>?_,?_⟩
     ·rw [h4];exact ((Fr.refl w _).drew).alloc _
     ·subst hb;rw [h4];simp
     ·have hge:=grownCap_ge w n 0 3
      have hle:grownCap w n 0 3<=maxLen:=grownCap_le_maxLen w n 0 3 (by simp only [maxLen];omega)
      rw [h4]
      refine .sl _ 3 0 _ w.heap.size 3 _ _ (fun _ _=>Go.undef) (fun _ _ _=>False) rfl (zero_le _) hle (heap_alloc_new w.drew _) ?_ rfl (fun _ _ _ h=>h.elim) (fun _ _ _ _ _ h=>h.elim) (fun i j k hi=>by omega) (fun i j k hi=>by omega)
      rw [Dt]
      simp only [Array.size_append,size_zeroCells,List.length_singleton]
      simp
      omega
 ·cases hs
end Z154
namespace Z155
inductive Pt where
 | p0 (a:aq) (b:Int) (c:aq) (d e:Int)
 | p1 (a:aq) (b c:Int) (d:aq)
def pid:Pt->Nat
 | .p0 ..=>3
 | .p1 ..=>11
def cM:Pt->List V
 | .p0 a b c d e=>[.sl none 46 a,.int .i64 b,.sl none 46 c,.int .i64 d,.int .i64 e]
 | .p1 a b c d=>[.own 0,.sl none 46 a,.int .i64 b,.int .i64 c]
def dQ:Pt->List aK
 | .p0 a b c d e=>[]
 | .p1 a b c d=>[.row 3 d]
def step (J:Pt->aD):Pt->aD
 | .p0 a b c d e=>(cond (e<d) (m2 e (c.length:Int) (cond ((i64.wrap (b+((rK c (toNat e)).length:Int)))<0) none (J (.p0 a (i64.wrap (b+((rK c (toNat e)).length:Int))) c d (i64.wrap (e+1)))))) (call (Z154.R b) fun v1=>J (.p1 a (a.length:Int) 0 v1)))
 | .p1 a b c d=>(cond (c<b) (m2 c (a.length:Int) (cA (eK (((d.length:Int)+((rK a (toNat c)).length:Int))*8)) (J (.p1 a b (i64.wrap (c+1)) (d++(rK a (toNat c))))))) (ret (d:aq)))
def start (J:Pt->aD)(x0:aq):aD:=J (.p0 x0 0 x0 x0.length 0)
def live:Nat->Live:=gL [(3,jC [0,3,9,10,11]),(11,jC [6,25,26,27])]
def md (a0:List (List Int)):List Int:=a0.flatten
def gd (a0:List (List Int)):Prop:=a0.length<=8/\∀x∈a0,x.length<=2^40
def R:=RR gd md
def aj {a0}(h:gd a0):R (a0.map (fR aV))=some ((md a0).map aV):=cQ h
def aM:=CN [pL 46] (oL 3) RT.dec R
def bn (a0)(hg:gd a0):∃n,start (iter step n) (a0.map (fR aV))=ret ((md a0).map aV):=by
 obtain ⟨hl,hx⟩:=hg
 have hs:∀i,i<=a0.length->((a0.take i).map List.length).sum<=i*2^40:=by
  intro i
  induction i with
  | zero=>intro _;simp
  | succ i ih=>
   intro hi
   rw [List.take_succ_eq_append_getElem (by omega)]
   have h1:=hx a0[i] (List.getElem_mem _)
   simp only [List.map_append,List.map_cons,List.map_nil,List.sum_append,List.sum_cons,List.sum_nil]
   omega
 have hstep:∀i (h:i<a0.length),((a0.take (i+1)).map List.length).sum=((a0.take i).map List.length).sum+a0[i].length:=by
  intro i hi
  rw [List.take_succ_eq_append_getElem (by omega)]
  simp only [List.map_append,List.map_cons,List.map_nil,List.sum_append,List.sum_cons,List.sum_nil]
  omega
 have hf:∀i,(a0.take i).flatten.length=((a0.take i).map List.length).sum:=fun i=>List.length_flatten
 have second:∀k i,i+k=a0.length->∃n,iter step n (Pt.p1 (a0.map (fR aV)) (a0.length:Int) (i:Int) ((a0.take i).flatten.map aV))=ret (a0.flatten.map aV:aq):=by
  intro k
  induction k with
  | zero=>
   intro i hi
   obtain rfl:i=a0.length:=by omega
   refine ⟨1,?_⟩
   show step (iter step 0) (Pt.p1 _ _ _ _)=_
   simp only [step]
   refine eH (by simp) ?_
   rw [List.take_length]
  | succ k ih=>
   intro i hi
   obtain ⟨n,hn⟩:=ih (i+1) (by omega)
   refine ⟨n+1,?_⟩
   show step (iter step n) (Pt.p1 _ _ _ _)=_
   have hlt:i<a0.length:=by omega
   have b1:=hs (i+1) (by omega)
   have b2:=hstep i hlt
   simp only [step,List.length_map,gv,sJ]
   refine aG (by simp;omega) (aG (by simp) (aG (by simp;omega) (aG (gC ?_) ?_)))
   ·rw [fH hlt,hf];omega
   ·rw [aF hlt (by simp only [maxLen];omega),fH hlt,<-List.map_append]
    have e:(a0.take i).flatten++a0[i]=(a0.take (i+1)).flatten:=by
     rw [List.take_succ_eq_append_getElem (by omega)]
     simp only [List.flatten_append,List.flatten_cons,List.flatten_nil,List.append_nil]
    rw [e];exact hn
 have first:∀k i,i+k=a0.length->∃n,iter step n (Pt.p0 (a0.map (fR aV)) ((((a0.take i).map List.length).sum:Nat):Int) (a0.map (fR aV)) (a0.length:Int) (i:Int))=ret (a0.flatten.map aV:aq):=by
  intro k
  induction k with
  | zero=>
   intro i hi
   obtain rfl:i=a0.length:=by omega
   obtain ⟨n,hn⟩:=second a0.length 0 (by omega)
   refine ⟨n+1,?_⟩
   show step (iter step n) (Pt.p0 _ _ _ _ _)=_
   have b1:=hs a0.length (by omega)
   simp only [step]
   refine eH (by simp) (cG [] (Z154.aj ⟨by omega,by omega⟩) ?_)
   simpa using hn
  | succ k ih=>
   intro i hi
   obtain ⟨n,hn⟩:=ih (i+1) (by omega)
   refine ⟨n+1,?_⟩
   show step (iter step n) (Pt.p0 _ _ _ _ _)=_
   have hlt:i<a0.length:=by omega
   have b1:=hs (i+1) (by omega)
   have b2:=hstep i hlt
   simp only [step,List.length_map,gv,sJ,fH hlt]
   have e:i64.wrap (((((a0.take i).map List.length).sum:Nat):Int)+(a0[i].length:Int))=((((a0.take (i+1)).map List.length).sum:Nat):Int):=by
    rw [Go.IntWalk.i64_in _ (by omega)];omega
   rw [e]
   refine aG (by simp;omega) (aG (by simp) (aG (by simp;omega) (eH (by simp) ?_)))
   rw [aF hlt (by simp only [maxLen];omega)]
   exact hn
 unfold md
 obtain ⟨n,hn⟩:=first a0.length 0 (by omega)
 refine ⟨n,?_⟩
 unfold start
 simpa using hn
def af:cj 302 aM:=L1 36 pid cM dQ live step start mix az bn (cO Z154.af) Tryz.func302
def len (a0:List (List Int)):(md a0).length=(a0.map List.length).sum:=by simp [md]
end Z155
namespace Z156
def F (x0:bN):aD:=(call (Z149.R x0.bV) fun v1=>(call (Z149.R x0.bG) fun v2=>(call (Z149.R x0.bD) fun v3=>(call (Z153.R x0.bh) fun v4=>(call (Z155.R [[L.sl [[L.int x0.aX],[L.int x0.cw],[L.int x0.bt],[L.int x0.cg],[L.int x0.cm],[L.int x0.bZ],[L.int x0.dx],[L.int x0.ec]]],[L.sl v1],[L.sl v2],[L.sl [[L.int x0.cW]]],[L.sl v3],[L.sl [[L.int v4]]]]) fun v5=>ret (v5:aq))))))
def md (a0:au):List Int:=(Z155.md [[a0.aX,a0.cw,a0.bt,a0.cg,a0.cm,a0.bZ,a0.dx,a0.ec],(Z149.md a0.bV),(Z149.md a0.bG),[a0.cW],(Z149.md a0.bD),[(Z153.md a0.bh)]])
def gd (a0:au):Prop:=(au.Sm (2^21) a0)
def R:=RR gd md
def aj {a0}(h:gd a0):R (au.r a0)=some ((md a0).map aV):=cQ h
def aM:=CN [.agg lu] (oL 3) RT.dec R
def bn (a0)(H0:gd a0):F (au.r a0)=ret ((md a0).map aV):=by
 refine ct (Z149.aj H0.1) (ct (Z149.aj H0.2.1) ?_)
 refine ct (Z149.aj H0.2.2) (ct (Z153.aj trivial) ?_)
 refine cG _ (rq (Z155.aj (a0:=[[a0.aX,a0.cw,a0.bt,a0.cg,a0.cm,a0.bZ,a0.dx,a0.ec],(Z149.md a0.bV),(Z149.md a0.bG),[a0.cW],(Z149.md a0.bD),[(Z153.md a0.bh)]]) ⟨(by simp),(by
   have:=Z149.len a0.bV
   have:=(H0.1).1
   have:=Z149.len a0.bG
   have:=(H0.2.1).1
   have:=Z149.len a0.bD
   have:=(H0.2.2).1
   intro x_ hx_
   simp only [List.mem_cons,List.not_mem_nil,or_false] at hx_
   rcases hx_ with hx_ | hx_ | hx_ | hx_ | hx_ | hx_
   all_goals (subst hx_;first | omega | (simp only [LN];omega)))⟩)) ?_
 exact fz
def af:cj 229 aM:=W1 38 F mix az bn (jB Z149.af Z153.af Z155.af) Tryz.func229
def len (a0:au):(md a0).length=16+a0.bV.bz.length+a0.bG.bz.length+a0.bD.bz.length:=by unfold md;simp [Z155.md,Z149.len];omega
def br (a0:au):md a0=Z39.md a0:=by
 rw [Z39.vk]
 unfold md Z155.md
 simp only [Z149.br,Z153.md,List.flatten_cons,List.flatten_nil,List.cons_append,List.nil_append,List.append_nil]
end Z156
namespace Z157
def F (x0:Int)(x1:aq):aD:=(call (Z155.R [[L.sl [[L.int x0]]],[L.sl x1],[L.sl [[L.int x0]]]]) fun v1=>(call (Z151.R v1) fun v2=>ret v2))
def md (a0:Int)(a1:List Int):Int:=((Z151.md (Z155.md [[a0],a1,[a0]])))
def gd (a0:Int)(a1:List Int):Prop:=(bg (2^40) (fun y:Int=>True) a1)
def R:=cI gd md
def aj {a0 a1}(h:gd a0 a1):R (a0,(a1.map aV))=some (md a0 a1):=cH h
def aM:=CN [pI,pL 3] oI RT.dec R
def bn (a0)(a1)(H1:gd a0 a1):F a0 (a1.map aV)=ret (md a0 a1):=by
 refine cG _ (rq (Z155.aj (a0:=[[a0],a1,[a0]]) ⟨(by simp),(by
   have:=(H1).1
   intro x_ hx_
   simp only [List.mem_cons,List.not_mem_nil,or_false] at hx_
   rcases hx_ with hx_ | hx_ | hx_
   all_goals (subst hx_;first | omega | (simp only [LN];omega)))⟩)) ?_
 refine ct (Z151.aj ⟨(by
   have:=Z155.len [[a0],a1,[a0]]
   simp only [LN] at this
   have:=(H1).1
   exact om),fun _ _=>trivial⟩) ?_
 exact fz
def af:cj 495 aM:=W2 13 F mix az bn (fc Z155.af Z151.af) Tryz.func495
def br (a0:Int)(a1:List Int):md a0 a1=Z41.md a0 a1:=by
 unfold md Z41.md
 (simp only [Z151.br];rfl)
end Z157
namespace Z158
def F (x0:Int)(x1:aq):aD:=(cA (eK (((1:Int)+x1.length)*8)) (call (Z157.R (x0,([[L.int 223]]++x1))) fun v1=>ret v1))
def md (a0:Int)(a1:List Int):Int:=((Z157.md a0 ([223]++a1)))
def gd (a0:Int)(a1:List Int):Prop:=(bg (2^39) (fun y:Int=>True) a1)
def R:=cI gd md
def aj {a0 a1}(h:gd a0 a1):R (a0,(a1.map aV))=some (md a0 a1):=cH h
def aM:=CN [pI,pL 3] oI RT.dec R
def bn (a0)(a1)(H1:gd a0 a1):F a0 (a1.map aV)=ret (md a0 a1):=by
 refine aG (have:=(H1).1;lm) (cG _ (rq (Z157.aj (a1:=([223]++a1)) ⟨(have:=(H1).1;om),fun _ _=>trivial⟩)) ?_)
 exact fz
def af:cj 478 aM:=W2 10 F mix az bn (cO Z157.af) Tryz.func478
def br (a0:Int)(a1:List Int):md a0 a1=Z42.md a0 a1:=by
 unfold md Z42.md
 simp only [Z157.br]
end Z158
namespace Z159
def F (x0:bE)(x1:aq):aD:=(call (Z143.R x0.jJ) fun v1=>(cond v1 (call (Z158.R (x0.jJ,x1)) fun v2=>ret ((x0.pg==v2))) (ret false)))
def md (a0:bE)(a1:List Int):Bool:=(cond (Z143.md a0.jJ) ((a0.pg==(Z158.md a0.jJ a1))) false)
def gd (a0:bE)(a1:List Int):Prop:=(bg (2^38) (fun y:Int=>True) a1)
def R:=cI gd md
def aj {a0 a1}(h:gd a0 a1):R (a0,(a1.map aV))=some (md a0 a1):=cH h
def aM:=CN [.agg C9,pL 3] oB RT.dec R
def bn (a0)(a1)(H1:gd a0 a1):F a0 (a1.map aV)=ret (md a0 a1):=by
 refine ct (Z143.aj trivial) (bs (fun c1=>?_) (fun _=>rfl))
 exact ct (Z158.aj (H1.mono (by decide) (fun x hx=>trivial))) fz
def af:cj 460 aM:=W2 17 F mix az bn (fc Z143.af Z158.af) Tryz.func460
def br (a0:bE)(a1:List Int):md a0 a1=Z46.md a0 a1:=by
 unfold md Z46.md
 (simp only [Z158.br];rfl)
end Z159
namespace Z160
def F (x0:bE)(x1 x2:List L):aD:=(cond (x0.jJ==(gN x1)) (call (Z159.R (x0,(nR x2))) fun v1=>ret v1) (ret false))
def pats:List fF:=[.agg [aE,aE],.ptr [aE],.ptr [.sl 3]]
def res:RP:=.one (.rd (.bool))
def md (a0:bE)(a1:Int)(a2:List Int):Bool:=(cond (a0.jJ==a1) ((Z159.md a0 a2)) false)
def gd (a0:bE)(a1:Int)(a2:List Int):Prop:=(bg (2^38) (fun y:Int=>True) a2)
def acc (ls:List L):bE×Int×aq:=((bE.dec ls),(gN (ck 1 (bA 2 ls))),(nR (ck 1 (bA 3 ls))))
def R:(bE×Int×aq)->Option Bool:=lP gd md
def aj {a0 a1 a2}(h:gd a0 a1 a2):R (a0,a1,(a2.map aV))=some (md a0 a1 a2):=mq h
def aM:gj:=CN pats res acc R
def bn (a0:bE)(a1:Int)(a2:List Int)(p1 p2:List L)(e1:a1=(gN p1))(e2:(a2.map aV)=(nR p2))(H2:gd a0 a1 a2):F a0 p1 p2=ret ((md a0 a1 a2):Bool):=by
 unfold F md
 simp only [SS,<-e1,<-e2]
 refine bs (fun c1=>?_) (fun _=>rfl)
 exact ct (Z159.aj H2) fz
def qH (ls:List L)(a:bE×Int×List Int)(e:acc ls=Im.im a)(hg:(p3 gd) a):∃n:Nat,F (bE.dec ls) (ck 1 (bA 2 ls)) (ck 1 (bA 3 ls))=ret (Im.im ((u3 md) a)):=by
 have e0:a.1=(bE.dec ls):=(congrArg (fun x=>x.1) e.symm)
 have hn:=bn a.1 a.2.1 a.2.2 (ck 1 (bA 2 ls)) (ck 1 (bA 3 ls)) (congrArg (fun x=>x.2.1) e.symm) (congrArg (fun x=>x.2.2) e.symm) hg
 refine ⟨0,?_⟩
 rw [<-e0]
 exact hn
def af:cj 459 aM:=VP (live:=fun _=>[]) (nt:=14) (accr:=fun ls=>((bE.dec ls),(ck 1 (bA 2 ls)),(ck 1 (bA 3 ls)))) (run:=fun _ x=>F x.1 x.2.1 x.2.2) mix az (cO Z159.af) Tryz.func459 (by kernel_rfl) (fun _ _=>by kernel_rfl) (fun ls a _ e hg=>qH ls a e hg)
end Z160
namespace Z161
inductive Pt where
 | p0 (a:aq) (b c:List L) (d e:Int)
def pid:Pt->Nat
 | .p0 ..=>2
def cM:Pt->List V
 | .p0 a b c d e=>[.sl none 315 a,.fn 459 [.cS none [aE] b 0,.cS none [.sl 3] c 0],.int .i64 d,.int .i64 e]
def dQ:Pt->List aK
 | .p0 a b c d e=>[]
def step (J:Pt->aD):Pt->aD
 | .p0 a b c d e=>(cond (e<d) (m2 e (a.length:Int) (call (Z160.R ((bE.at a (toNat e)),(gN b),(nR c))) fun v1=>(cond v1 (ret (e:Int)) (J (.p0 a b c d (i64.wrap (e+1))))))) mV)
def start (J:Pt->aD)(x0:aq)(x1 x2:List L):aD:=J (.p0 x0 x1 x2 x0.length 0)
def live:Nat->Live:=gL [(2,jC [0,1,7,8])]
def pats:List fF:=[.rd (.sl 315),.fn 459 [[aE],[.sl 3]]]
def res:RP:=.one (.rd (.int .i64))
abbrev E:Env:={ T:=assoc mC,G:=cZ [(459,Z160.aM)],nt:=19 }
def step_eq (I:dD)(p:Pt):dU E live I (pid p) (bL Tryz.f477) (iT (live (pid p)) (cM p) (dQ p)) (dA E Tryz.f477 res)=step (fun q=>I (pid q) (cM q) (dQ q)) p:=by
 cases p<;>kernel_rfl
def start_eq (I:dD)(ls:List L):gO E live I (bL Tryz.f477) (dJ pats ls) (dA E Tryz.f477 res)=start (fun q=>I (pid q) (cM q) (dQ q)) (eU ls) (ck 1 (bA 1 ls)) (ck 1 (bA 2 ls)):=by kernel_rfl
def run_eq (n:Nat)(ls:List L):eY E live Tryz.f477 res n (dJ pats ls)=start (iter step n) (eU ls) (ck 1 (bA 1 ls)) (ck 1 (bA 2 ls)):=dI (id:=pid) (vs:=cM) (hs:=dQ) (step:=step) (start:=fun J=>start J (eU ls) (ck 1 (bA 1 ls)) (ck 1 (bA 2 ls))) step_eq (fun I=>start_eq I ls) n
def md (a0:List bE)(a1:Int)(a2:List Int):Int:=(dY (S:=Unit) (β:=Int) (fun i1 y1 s3=>(cond (Z160.md y1 a1 a2) (.inr (i1)) (.inl ()))) (fun s3=>((-1):Int)) 0 a0 ())
def gd (a0:List bE)(a1:Int)(a2:List Int):Prop:=(bg (2^21) (fun y:bE=>bE.Sm (2^21) y) a0)/\(bg (2^38) (fun y:Int=>True) a2)
def acc (ls:List L):aq×Int×aq:=((eU ls),(gN (ck 1 (bA 1 ls))),(nR (ck 1 (bA 2 ls))))
def R:(aq×Int×aq)->Option Int:=lP gd md
def aj {a0 a1 a2}(h:gd a0 a1 a2):R ((a0.map bE.row),a1,(a2.map aV))=some (md a0 a1 a2):=mq h
def aM:gj:=CN pats res acc R
def bn (a0:List bE)(a1:Int)(a2:List Int)(p1 p2:List L)(e1:a1=(gN p1))(e2:(a2.map aV)=(nR p2))(hg:gd a0 a1 a2):∃n,start (iter step n) (a0.map bE.row) p1 p2=ret ((md a0 a1 a2):Int):=by
 obtain ⟨H0,H2⟩:=hg
 have Bh2:=bl H0
 refine ex_eq (cK (z:=bE.zero)) (dy (p:=Pt.p0 (a0.map bE.row) p1 p2 (a0.length:Int) 0) fz ?_)
 refine bH (pt:=fun (i1:Nat) (s3:Unit)=>Pt.p0 (a0.map bE.row) p1 p2 (a0.length:Int) (i1:Int)) (fun _ _=>True) (fun J i1 s3 h2 hih2=>?_) (fun s3 hih2=>?_) trivial
 ·simp only [step,SS,<-e1,<-e2]
  refine aP.yes dt (aP.yes bB ?_)
  refine aP.yes (bQ h2) (cr (Z160.aj H2) ?_)
  refine aP.bif (fun c4=>aP.inr fz) (fun c4=>?_)
  refine aP.inl trivial ?_
  rw [aF h2 Bh2]
 ·simp only [step,SS,<-e1,<-e2]
  refine cL dn (⟨0,?_⟩)
  exact fz
def qH (ls:List L)(a:List bE×Int×List Int)(e:acc ls=Im.im a)(hg:(p3 gd) a):∃n:Nat,start (iter step n) ((eU ls)) (ck 1 (bA 1 ls)) (ck 1 (bA 2 ls))=ret (Im.im ((u3 md) a)):=by
 have e0:(a.1.map bE.row)=(eU ls):=(congrArg (fun x=>x.1) e.symm)
 obtain ⟨n,hn⟩:=bn a.1 a.2.1 a.2.2 (ck 1 (bA 1 ls)) (ck 1 (bA 2 ls)) (congrArg (fun x=>x.2.1) e.symm) (congrArg (fun x=>x.2.2) e.symm) hg
 refine ⟨n,?_⟩
 rw [<-e0]
 exact hn
def af:cj 477 aM:=VP (accr:=fun ls=>((eU ls),(ck 1 (bA 1 ls)),(ck 1 (bA 2 ls)))) (run:=fun n x=>start (iter step n) x.1 x.2.1 x.2.2) mix az (cO Z160.af) Tryz.func477 (by kernel_rfl) run_eq (fun ls a _ e hg=>qH ls a e hg)
def idx_eq (a0:List bE)(a1:Int)(a2:List Int):md a0 a1 a2=iD (fun y=>Z160.md y a1 a2) 0 a0:=jg
end Z161
namespace Z162
def F (x0:aq)(x1 x2:List L):aD:=(call (Z161.R (x0,(gN x1),(nR x2))) fun v1=>ret ((decide (v1>=0))))
def pats:List fF:=[.rd (.sl 315),.fn 459 [[aE],[.sl 3]]]
def res:RP:=.one (.rd (.bool))
def md (a0:List bE)(a1:Int)(a2:List Int):Bool:=((decide ((Z161.md a0 a1 a2)>=0)))
def gd (a0:List bE)(a1:Int)(a2:List Int):Prop:=(bg (2^21) (fun y:bE=>bE.Sm (2^21) y) a0)/\(bg (2^38) (fun y:Int=>True) a2)
def acc (ls:List L):aq×Int×aq:=((eU ls),(gN (ck 1 (bA 1 ls))),(nR (ck 1 (bA 2 ls))))
def R:(aq×Int×aq)->Option Bool:=lP gd md
def aj {a0 a1 a2}(h:gd a0 a1 a2):R ((a0.map bE.row),a1,(a2.map aV))=some (md a0 a1 a2):=mq h
def aM:gj:=CN pats res acc R
def bn (a0:List bE)(a1:Int)(a2:List Int)(p1 p2:List L)(e1:a1=(gN p1))(e2:(a2.map aV)=(nR p2))(hg:gd a0 a1 a2):F (a0.map bE.row) p1 p2=ret ((md a0 a1 a2):Bool):=by
 obtain ⟨H0,H2⟩:=hg
 unfold F md
 simp only [SS,<-e1,<-e2]
 exact ct (Z161.aj ⟨H0,H2⟩) fz
def qH (ls:List L)(a:List bE×Int×List Int)(e:acc ls=Im.im a)(hg:(p3 gd) a):∃n:Nat,F ((eU ls)) (ck 1 (bA 1 ls)) (ck 1 (bA 2 ls))=ret (Im.im ((u3 md) a)):=by
 have e0:(a.1.map bE.row)=(eU ls):=(congrArg (fun x=>x.1) e.symm)
 have hn:=bn a.1 a.2.1 a.2.2 (ck 1 (bA 1 ls)) (ck 1 (bA 2 ls)) (congrArg (fun x=>x.2.1) e.symm) (congrArg (fun x=>x.2.2) e.symm) hg
 refine ⟨0,?_⟩
 rw [<-e0]
 exact hn
def af:cj 458 aM:=VP (live:=fun _=>[]) (nt:=9) (accr:=fun ls=>((eU ls),(ck 1 (bA 1 ls)),(ck 1 (bA 2 ls)))) (run:=fun _ x=>F x.1 x.2.1 x.2.2) mix az (cO Z161.af) Tryz.func458 (by kernel_rfl) (fun _ _=>by kernel_rfl) (fun ls a _ e hg=>qH ls a e hg)
def any_eq (a0:List bE)(a1:Int)(a2:List Int):md a0 a1 a2=a0.any (fun y=>Z160.md y a1 a2):=by
 unfold md
 rw [Z161.idx_eq]
 exact rX
end Z162
namespace Z163
inductive Pt where
 | p0 (a:aq) (b:Int) (c:aq) (d e:Int) (f:aq)
def cM:Pt->List V
 | .p0 a b c d e f=>[.sl none 315 a,.bP 0 0,.int .i64 b,.sl none 3 c,.int .i64 d,.int .i64 e]
def dQ:Pt->List aK
 | .p0 a b c d e f=>[.box [.sl none 3 f]]
def step (J:Pt->aD):Pt->aD
 | .p0 a b c d e f=>(cond (e<d) (m2 e (c.length:Int) (call (Z162.R (a,(jz c (toNat e)),f)) fun v1=>(cond v1 (J (.p0 a (i64.wrap (b+1)) c d (i64.wrap (e+1)) f)) (J (.p0 a b c d (i64.wrap (e+1)) f))))) (ret (b:Int)))
def start (J:Pt->aD)(x0:cX)(x1 x2:aq):aD:=J (.p0 x2 0 x0.bz x0.bz.length 0 x1)
def live:Nat->Live:=gL [(3,jC [2,4,7,11,12,13])]
def md (a0:aL)(a1:List Int)(a2:List bE):Int:=(dM (S:=Int) (β:=Int) (fun y1 s3=>(cond (Z162.md a2 y1 a1) (.inl (i64.wrap (s3+1))) (.inl s3))) (fun s3=>s3) a0.bz 0)
def gd (a0:aL)(a1:List Int)(a2:List bE):Prop:=(aL.Sm (2^21) a0)/\(bg (2^38) (fun y:Int=>True) a1)/\(bg (2^21) (fun y:bE=>bE.Sm (2^21) y) a2)
def R:=lP gd md
def aj {a0 a1 a2}(h:gd a0 a1 a2):R ((aL.r a0),(a1.map aV),(a2.map bE.row))=some (md a0 a1 a2):=mq h
def aM:=CN [.agg qW,pL 3,pL 315] oI RT.dec R
def bn (a0)(a1)(a2)(hg:gd a0 a1 a2):∃n,start (iter step n) (aL.r a0) (a1.map aV) (a2.map bE.row)=ret (md a0 a1 a2):=by
 obtain ⟨H0,H1,H2⟩:=hg
 have Bh2:=bl H0
 refine ex_eq (dZ (z:=0)) (dy (p:=Pt.p0 (a2.map bE.row) 0 (a0.bz.map aV) (a0.bz.length:Int) 0 (a1.map aV)) fz ?_)
 refine bH (pt:=fun (i1:Nat) (s3:Int)=>Pt.p0 (a2.map bE.row) s3 (a0.bz.map aV) (a0.bz.length:Int) (i1:Int) (a1.map aV)) (fun _ _=>True) (fun J i1 s3 h2 hih2=>?_) (fun s3 hih2=>?_) trivial
 ·simp only [step,SS]
  refine aP.yes dt (aP.yes bB ?_)
  refine aP.yes (bQ h2) (cr (Z162.aj ⟨H2,H1⟩) ?_)
  refine aP.bif (fun c4=>?_) (fun c4=>?_)
  ·refine aP.inl trivial ?_
   rw [aF h2 Bh2]
  ·refine aP.inl trivial ?_
   rw [aF h2 Bh2]
 ·simp only [step,SS]
  refine cL dn (⟨0,?_⟩)
  exact fz
def af:cj 419 aM:=L3 24 (fun _=>3) cM dQ live step start mix az bn (cO Z162.af) Tryz.func419
def br (a0:aL)(a1:List Int)(a2:List bE):md a0 a1 a2=Z47.md a0 a1 a2:=by
 unfold md Z47.md
 refine rD (fun x _ s=>?_) (fun s=>rfl)
 rw [Z162.any_eq]
 refine Eq.trans ?_ (oK (p:=fun y=>Z160.md y x a1) (b:=Sum.inl (i64.wrap (s+1))) (c:=Sum.inl s) (fun y s'=>?_) a2 ()).symm
 ·cases a2.any (fun y=>Z160.md y x a1)<;>rfl
 ·unfold Z160.md
  simp only [Z159.br]
  cases y.jJ==x<;>cases Z46.md y a1<;>rfl
end Z163
namespace Z164
def F (x0:cX)(x1 x2:aq):aD:=(call (Z144.R x0) fun v1=>(cond v1 (call (Z163.R (x0,x1,x2)) fun v2=>ret ((decide (v2>=x0.dw)))) (ret false)))
def md (a0:aL)(a1:List Int)(a2:List bE):Bool:=(cond (Z144.md a0) ((decide ((Z163.md a0 a1 a2)>=a0.dw))) false)
def gd (a0:aL)(a1:List Int)(a2:List bE):Prop:=(aL.Sm (2^21) a0)/\(bg (2^38) (fun y:Int=>True) a1)/\(bg (2^21) (fun y:bE=>bE.Sm (2^21) y) a2)
def R:=lP gd md
def aj {a0 a1 a2}(h:gd a0 a1 a2):R ((aL.r a0),(a1.map aV),(a2.map bE.row))=some (md a0 a1 a2):=mq h
def aM:=CN [.agg qW,pL 3,pL 315] oB RT.dec R
def bn (a0)(a1)(a2)(hg:gd a0 a1 a2):F (aL.r a0) (a1.map aV) (a2.map bE.row)=ret (md a0 a1 a2):=by
 obtain ⟨H0,H1,H2⟩:=hg
 refine ct (Z144.aj H0) (bs (fun c1=>?_) (fun _=>rfl))
 exact ct (Z163.aj ⟨H0,H1,H2⟩) fz
def af:cj 360 aM:=W3 18 F mix az bn (fc Z144.af Z163.af) Tryz.func360
def br (a0:aL)(a1:List Int)(a2:List bE):md a0 a1 a2=Z48.md a0 a1 a2:=by
 unfold md Z48.md
 simp only [Z144.br,Z163.br]
end Z164
namespace Z165
def F (x0:aU)(x1:cX):aD:=(call (Z156.R x0.an) fun v1=>(call (Z164.R (x1,v1,x0.dR)) fun v2=>ret v2))
def md (a0:aa)(a1:aL):Bool:=((Z164.md a1 (Z156.md a0.an) a0.dR))
def gd (a0:aa)(a1:aL):Prop:=(aa.Sm (2^21) a0)/\(aL.Sm (2^21) a1)
def R:=cI gd md
def aj {a0 a1}(h:gd a0 a1):R ((aa.r a0),(aL.r a1))=some (md a0 a1):=cH h
def aM:=CN [.agg wh,.agg qW] oB RT.dec R
def bn (a0)(a1)(hg:gd a0 a1):F (aa.r a0) (aL.r a1)=ret (md a0 a1):=by
 obtain ⟨H0,H1⟩:=hg
 refine ct (Z156.aj H0.1) (ct (Z164.aj ⟨H1,⟨(have:=Z156.len a0.an;have:=(H0.1.1).1;have:=(H0.1.2.1).1;have:=(H0.1.2.2).1;om),fun _ _=>trivial⟩,H0.2⟩) ?_)
 exact fz
def af:cj 296 aM:=W2 12 F mix az bn (fc Z156.af Z164.af) Tryz.func296
end Z165
namespace Z166
def F (x0:aU):aD:=(call (Z148.R x0.an) fun v1=>(cond v1 (cond (x0.an.cw==0) (cond (x0.an.bt==1) (cond (!x0.an.bh) (call (Z152.R (x0.an.bV,x0.an.ec)) fun v2=>(cond (x0.an.aX==v2) (call (Z165.R (x0,x0.an.bV)) fun v3=>ret v3) (ret false))) (ret false)) (ret false)) (ret false)) (ret false)))
def md (a0:aa):Bool:=(cond (Z148.md a0.an) (cond (a0.an.cw==0) (cond (a0.an.bt==1) (cond (!a0.an.bh) (cond (a0.an.aX==(Z152.md a0.an.bV a0.an.ec)) ((Z165.md a0 a0.an.bV)) false) false) false) false) false)
def gd (a0:aa):Prop:=(aa.Sm (2^21) a0)
def R:=RR gd md
def aj {a0}(h:gd a0):R (aa.r a0)=some (md a0):=cQ h
def aM:=CN [.agg wh] oB RT.dec R
def bn (a0)(H0:gd a0):F (aa.r a0)=ret (md a0):=by
 refine ct (Z148.aj H0.1) (bs (fun c1=>?_) (fun _=>rfl))
 refine bs (fun c2=>?_) (fun _=>rfl)
 refine bs (fun c3=>?_) (fun _=>rfl)
 refine bs (fun c4=>?_) (fun _=>rfl)
 refine ct (Z152.aj H0.1.1) (bs (fun c5=>?_) (fun _=>rfl))
 exact ct (Z165.aj ⟨H0,H0.1.1⟩) fz
def af:cj 222 aM:=W1 39 F mix az bn (jB Z148.af Z152.af Z165.af) Tryz.func222
def br (a0:aa):md a0=Z49.md a0:=by
 unfold md Z49.md
 simp only [Z165.md,Z164.br,Z156.br,Z148.br,Z152.br]
end Z166
namespace Z167
def F (x0:bN):aD:=(call (Z156.R x0) fun v1=>(cA (eK (((1:Int)+v1.length)*8)) (call (Z151.R ([[L.int 233]]++v1)) fun v2=>ret v2)))
def md (a0:au):Int:=((Z151.md ([233]++(Z156.md a0))))
def gd (a0:au):Prop:=(au.Sm (2^21) a0)
def R:=RR gd md
def aj {a0}(h:gd a0):R (au.r a0)=some (md a0):=cQ h
def aM:=CN [.agg lu] oI RT.dec R
def bn (a0)(H0:gd a0):F (au.r a0)=ret (md a0):=by
 refine ct (Z156.aj H0) (aG (have:=Z156.len a0;have:=(H0.1).1;have:=(H0.2.1).1;have:=(H0.2.2).1;lm) ?_)
 exact cG _ (rq (Z151.aj (a0:=([233]++(Z156.md a0))) ⟨(have:=Z156.len a0;have:=(H0.1).1;have:=(H0.2.1).1;have:=(H0.2.2).1;om),fun _ _=>trivial⟩)) fz
def af:cj 420 aM:=W1 8 F mix az bn (fc Z156.af Z151.af) Tryz.func420
def br (a0:au):md a0=Z50.md a0:=by
 unfold md Z50.md
 simp only [Z156.br,Z151.br]
end Z167
namespace Z168
def F (x0 x1:bN):aD:=(cond (x1.aX==x0.aX) (cond (x1.cw==(i64.wrap (x0.cw+1))) (call (Z167.R x0) fun v1=>(cond (x1.ec==v1) (ret ((decide (x1.cg>=x0.cg)))) (ret false))) (ret false)) (ret false))
def md (a0 a1:au):Bool:=(cond (a1.aX==a0.aX) (cond (a1.cw==(i64.wrap (a0.cw+1))) (cond (a1.ec==(Z167.md a0)) ((decide (a1.cg>=a0.cg))) false) false) false)
def gd (a0 a1:au):Prop:=(au.Sm (2^21) a0)
def R:=cI gd md
def aj {a0 a1}(h:gd a0 a1):R ((au.r a0),(au.r a1))=some (md a0 a1):=cH h
def aM:=CN [.agg lu,.agg lu] oB RT.dec R
def bn (a0)(a1)(H0:gd a0 a1):F (au.r a0) (au.r a1)=ret (md a0 a1):=by
 refine bs (fun c1=>?_) (fun _=>rfl)
 refine bs (fun c2=>?_) (fun _=>rfl)
 refine ct (Z167.aj H0) (bs (fun c3=>?_) (fun _=>rfl))
 exact fz
def af:cj 361 aM:=W2 32 F mix az bn (cO Z167.af) Tryz.func361
end Z168
namespace Z169
def F (x0:bN)(x1:aU):aD:=(cond x0.bh (ret (4:Int)) (cond x1.an.bh (ret (6:Int)) (call (Z165.R (x1,x0.bV)) fun v1=>(cond (!v1) (ret (7:Int)) (ret (1:Int))))))
def md (a0:au)(a1:aa):Int:=(cond a0.bh (4:Int) (cond a1.an.bh (6:Int) (cond (!(Z165.md a1 a0.bV)) (7:Int) (1:Int))))
def gd (a0:au)(a1:aa):Prop:=(au.Sm (2^21) a0)/\(aa.Sm (2^21) a1)
def R:=cI gd md
def aj {a0 a1}(h:gd a0 a1):R ((au.r a0),(aa.r a1))=some (md a0 a1):=cH h
def aM:=CN [.agg lu,.agg wh] oI RT.dec R
def bn (a0)(a1)(hg:gd a0 a1):F (au.r a0) (aa.r a1)=ret (md a0 a1):=by
 obtain ⟨H0,H1⟩:=hg
 refine bs (fun _=>rfl) (fun c1=>?_)
 refine bs (fun _=>rfl) (fun c2=>?_)
 refine ct (Z165.aj ⟨H1,H0.1⟩) (bs (fun _=>rfl) (fun _=>rfl))
def af:cj 362 aM:=W2 18 F mix az bn (cO Z165.af) Tryz.func362
end Z169
namespace Z170
inductive Pt where
 | p0 (a b:aq) (c d:Int)
def cM:Pt->List V
 | .p0 a b c d=>[.sl none 3 a,.sl none 3 b,.int .i64 c,.int .i64 d]
def step (J:Pt->aD):Pt->aD
 | .p0 a b c d=>(cond (d<c) (m2 d (a.length:Int) (m2 d (b.length:Int) (cond ((jz a (toNat d)) != (jz b (toNat d))) eM (J (.p0 a b c (i64.wrap (d+1))))))) nS)
def start (J:Pt->aD)(x0 x1:aq):aD:=(cond (x0.length != (x1.length:Int)) (ret false) (J (.p0 x0 x1 x0.length 0)))
def live:Nat->Live:=gL [(4,jC [0,1,12,13])]
def md (a0 a1:List Int):Bool:=(bif (a0.length != (a1.length:Int)) then false else (eB (S:=Unit) (β:=Bool) (fun i2 s4=>(cond ((a0.getD i2 0) != (a1.getD i2 0)) (.inr false) (.inl ()))) (fun s4=>true) a0.length 0 ()))
def gd (a0 a1:List Int):Prop:=(bg (2^38) (fun y:Int=>True) a0)/\(bg (2^38) (fun y:Int=>True) a1)
def R:=cI gd md
def aj {a0 a1}(h:gd a0 a1):R ((a0.map aV),(a1.map aV))=some (md a0 a1):=cH h
def aM:=CN [pL 3,pL 3] oB RT.dec R
def bn (a0)(a1)(hg:gd a0 a1):∃n,start (iter step n) (a0.map aV) (a1.map aV)=ret (md a0 a1):=by
 obtain ⟨H0,H1⟩:=hg
 unfold start md
 simp only [SS]
 refine gE ret (fun _=>⟨0,rfl⟩) (fun c1=>?_)
 have dc1:=c1
 simp only [DC] at dc1
 have Bh3:=bl H0
 refine dy fz (bH (pt:=fun (i2:Nat) (s4:Unit)=>Pt.p0 (a0.map aV) (a1.map aV) (a0.length:Int) (i2:Int)) (fun _ _=>True) (fun J i2 s4 h3 hih3=>?_) (fun s4 hih3=>?_) trivial)
 ·simp only [step,SS]
  refine aP.yes dt (aP.yes bB ?_)
  refine aP.yes (bQ h3) (aP.yes bB ?_)
  refine aP.yes dt (aP.bif (fun _=>aP.inr rfl) (fun c5=>?_))
  refine aP.inl trivial ?_
  rw [aF h3 Bh3]
 ·simp only [step,SS]
  refine cL dn (⟨0,?_⟩)
  exact fz
def af:cj 166 aM:=L2 26 (fun _=>4) cM (fun _=>[]) live step start mix az bn .nil Tryz.func166
def md_eq (a0 a1:List Int):md a0 a1=iV a0 a1:=by
 refine iR (0) (fun i s h h2=>?_) (fun s=>rfl)
 simp only [bne,jQ,bool_beq,gp]
 cases iV _ _<;>rfl
end Z170
namespace Z171
def F (x0 x1:cX):aD:=(call (Z170.R (x0.bz,x1.bz)) fun v1=>(cond v1 (ret ((x0.dw==x1.dw))) (ret false)))
def md (a0 a1:aL):Bool:=(cond (Z170.md a0.bz a1.bz) ((a0.dw==a1.dw)) false)
def gd (a0 a1:aL):Prop:=(aL.Sm (2^21) a0)/\(aL.Sm (2^21) a1)
def R:=cI gd md
def aj {a0 a1}(h:gd a0 a1):R ((aL.r a0),(aL.r a1))=some (md a0 a1):=cH h
def aM:=CN [.agg qW,.agg qW] oB RT.dec R
def bn (a0)(a1)(hg:gd a0 a1):F (aL.r a0) (aL.r a1)=ret (md a0 a1):=by
 obtain ⟨H0,H1⟩:=hg
 refine ct (Z170.aj ⟨(H0.mono (by decide) (fun x hx=>trivial)),(H1.mono (by decide) (fun x hx=>trivial))⟩) (bs (fun c1=>?_) (fun _=>rfl))
 exact fz
def af:cj 228 aM:=W2 17 F mix az bn (cO Z170.af) Tryz.func228
def md_eq (a0 a1:aL):md a0 a1=iV a0 a1:=by
 unfold md
 cases a0;cases a1
 rw [Bool.eq_iff_iff]
 simp [dO,gp,aL.mk.injEq,Z170.md_eq]
end Z171
namespace Z172
def F (x0 x1:bN):aD:=(cond (x0.bZ==x1.bZ) (ret ((x0.dx==x1.dx))) (ret false))
def md (a0 a1:au):Bool:=(cond (a0.bZ==a1.bZ) ((a0.dx==a1.dx)) false)
def gd (a0 a1:au):Prop:=True
def R:=cI gd md
def aj {a0 a1}(h:gd a0 a1):R ((au.r a0),(au.r a1))=some (md a0 a1):=cH h
def aM:=CN [.agg lu,.agg lu] oB RT.dec R
def bn (a0)(a1)(hg:gd a0 a1):F (au.r a0) (au.r a1)=ret (md a0 a1):=by
 refine bs (fun c1=>?_) (fun _=>rfl)
 exact fz
def af:cj 421 aM:=W2 17 F mix az bn .nil Tryz.func421
def br (a0 a1:au):md a0 a1=Z54.md a0 a1:=by
 unfold md Z54.md
 simp only [id]
end Z172
namespace Z173
def F (x0:bN)(x1:aU):aD:=(cond x0.bh (ret (4:Int)) (call (Z145.R x0.bG) fun v1=>(cond v1 (ret (5:Int)) (cond (x1.an.cg<(i64.wrap (x0.cm+x0.cW))) (ret (5:Int)) (cond x1.an.bh (ret (6:Int)) (call (Z171.R (x1.an.bV,x0.bG)) fun v2=>(cond (!v2) (ret (6:Int)) (call (Z172.R (x1.an,x0)) fun v3=>(cond (!v3) (ret (6:Int)) (call (Z165.R (x1,x0.bG)) fun v4=>(cond (!v4) (ret (7:Int)) (ret (1:Int)))))))))))))
def md (a0:au)(a1:aa):Int:=(cond a0.bh (4:Int) (cond (Z145.md a0.bG) (5:Int) (cond (a1.an.cg<(i64.wrap (a0.cm+a0.cW))) (5:Int) (cond a1.an.bh (6:Int) (cond (!(Z171.md a1.an.bV a0.bG)) (6:Int) (cond (!(Z172.md a1.an a0)) (6:Int) (cond (!(Z165.md a1 a0.bG)) (7:Int) (1:Int))))))))
def gd (a0:au)(a1:aa):Prop:=(au.Sm (2^21) a0)/\(aa.Sm (2^21) a1)
def R:=cI gd md
def aj {a0 a1}(h:gd a0 a1):R ((au.r a0),(aa.r a1))=some (md a0 a1):=cH h
def aM:=CN [.agg lu,.agg wh] oI RT.dec R
def bn (a0)(a1)(hg:gd a0 a1):F (au.r a0) (aa.r a1)=ret (md a0 a1):=by
 obtain ⟨H0,H1⟩:=hg
 refine bs (fun _=>rfl) (fun c1=>?_)
 refine ct (Z145.aj trivial) (bs (fun _=>rfl) (fun c2=>?_))
 refine bs (fun _=>rfl) (fun c3=>?_)
 refine bs (fun _=>rfl) (fun c4=>?_)
 refine ct (Z171.aj ⟨H1.1.1,H0.2.1⟩) (bs (fun _=>rfl) (fun c5=>?_))
 refine ct (Z172.aj trivial) (bs (fun _=>rfl) (fun c6=>?_))
 refine ct (Z165.aj ⟨H1,H0.2.1⟩) (bs (fun _=>rfl) (fun _=>rfl))
def af:cj 363 aM:=W2 48 F mix az bn (nP Z145.af Z171.af Z172.af Z165.af) Tryz.func363
end Z173
namespace Z174
def F (x0:bN)(x1:aU):aD:=(call (Z172.R (x1.an,x0)) fun v1=>(cond v1 (call (Z171.R (x1.an.bD,x0.bD)) fun v2=>(cond v2 (call (Z171.R (x1.an.bG,x0.bG)) fun v3=>(cond v3 (call (Z145.R x0.bD) fun v4=>(cond v4 (ret (5:Int)) (cond (x1.an.bh==x0.bh) (ret (6:Int)) (cond (!(x1.an.cW==x0.cW)) (ret (6:Int)) (cond x1.an.bh (call (Z171.R (x1.an.bV,x0.bV)) fun v5=>(cond (!v5) (ret (6:Int)) (call (Z165.R (x1,x0.bD)) fun v6=>(cond (!v6) (ret (7:Int)) (ret (1:Int)))))) (call (Z165.R (x1,x0.bD)) fun v7=>(cond (!v7) (ret (7:Int)) (ret (1:Int))))))))) (call (Z145.R x0.bD) fun v8=>(cond v8 (ret (5:Int)) (cond (x1.an.bh==x0.bh) (ret (6:Int)) (ret (6:Int))))))) (call (Z145.R x0.bD) fun v9=>(cond v9 (ret (5:Int)) (cond (x1.an.bh==x0.bh) (ret (6:Int)) (ret (6:Int))))))) (call (Z145.R x0.bD) fun v10=>(cond v10 (ret (5:Int)) (cond (x1.an.bh==x0.bh) (ret (6:Int)) (ret (6:Int)))))))
def md (a0:au)(a1:aa):Int:=(cond (Z172.md a1.an a0) (cond (Z171.md a1.an.bD a0.bD) (cond (Z171.md a1.an.bG a0.bG) (cond (Z145.md a0.bD) (5:Int) (cond (a1.an.bh==a0.bh) (6:Int) (cond (!(a1.an.cW==a0.cW)) (6:Int) (cond a1.an.bh (cond (!(Z171.md a1.an.bV a0.bV)) (6:Int) (cond (!(Z165.md a1 a0.bD)) (7:Int) (1:Int))) (cond (!(Z165.md a1 a0.bD)) (7:Int) (1:Int)))))) (cond (Z145.md a0.bD) (5:Int) (cond (a1.an.bh==a0.bh) (6:Int) (6:Int)))) (cond (Z145.md a0.bD) (5:Int) (cond (a1.an.bh==a0.bh) (6:Int) (6:Int)))) (cond (Z145.md a0.bD) (5:Int) (cond (a1.an.bh==a0.bh) (6:Int) (6:Int))))
def gd (a0:au)(a1:aa):Prop:=(au.Sm (2^21) a0)/\(aa.Sm (2^21) a1)
def R:=cI gd md
def aj {a0 a1}(h:gd a0 a1):R ((au.r a0),(aa.r a1))=some (md a0 a1):=cH h
def aM:=CN [.agg lu,.agg wh] oI RT.dec R
def bn (a0)(a1)(hg:gd a0 a1):F (au.r a0) (aa.r a1)=ret (md a0 a1):=by
 obtain ⟨H0,H1⟩:=hg
 refine ct (Z172.aj trivial) (bs (fun c1=>?_) (fun c1=>?_))
 ·refine ct (Z171.aj ⟨H1.1.2.2,H0.2.2⟩) (bs (fun c2=>?_) (fun c2=>?_))
  ·refine ct (Z171.aj ⟨H1.1.2.1,H0.2.1⟩) (bs (fun c3=>?_) (fun c3=>?_))
   ·refine ct (Z145.aj trivial) (bs (fun _=>rfl) (fun c4=>?_))
    refine bs (fun _=>rfl) (fun c5=>?_)
    refine bs (fun _=>rfl) (fun c6=>?_)
    refine bs (fun c7=>?_) (fun c7=>?_)
    ·refine ct (Z171.aj ⟨H1.1.1,H0.1⟩) (bs (fun _=>rfl) (fun c8=>?_))
     refine ct (Z165.aj ⟨H1,H0.2.2⟩) (bs (fun _=>rfl) (fun _=>rfl))
    ·refine ct (Z165.aj ⟨H1,H0.2.2⟩) (bs (fun _=>rfl) (fun _=>rfl))
   ·refine ct (Z145.aj trivial) (bs (fun _=>rfl) (fun c11=>?_))
    refine bs (fun _=>rfl) (fun _=>rfl)
  ·refine ct (Z145.aj trivial) (bs (fun _=>rfl) (fun c13=>?_))
   refine bs (fun _=>rfl) (fun _=>rfl)
 ·refine ct (Z145.aj trivial) (bs (fun _=>rfl) (fun c15=>?_))
  refine bs (fun _=>rfl) (fun _=>rfl)
def af:cj 364 aM:=W2 65 F mix az bn (nP Z172.af Z171.af Z145.af Z165.af) Tryz.func364
end Z174
namespace Z175
def F (x0:bN)(x1:aU):aD:=(call (Z148.R x0) fun v1=>(cond (!v1) (ret (2:Int)) (call (Z148.R x1.an) fun v2=>(cond (!v2) (ret (2:Int)) (call (Z168.R (x0,x1.an)) fun v3=>(cond (!v3) (ret (3:Int)) (cond (x1.an.bt==1) (call (Z169.R (x0,x1)) fun v4=>ret v4) (cond (x1.an.bt==2) (call (Z173.R (x0,x1)) fun v5=>ret v5) (call (Z174.R (x0,x1)) fun v6=>ret v6)))))))))
def md (a0:au)(a1:aa):Int:=(cond (!(Z148.md a0)) (2:Int) (cond (!(Z148.md a1.an)) (2:Int) (cond (!(Z168.md a0 a1.an)) (3:Int) (cond (a1.an.bt==1) ((Z169.md a0 a1)) (cond (a1.an.bt==2) ((Z173.md a0 a1)) ((Z174.md a0 a1)))))))
def gd (a0:au)(a1:aa):Prop:=(au.Sm (2^21) a0)/\(aa.Sm (2^21) a1)
def R:=cI gd md
def aj {a0 a1}(h:gd a0 a1):R ((au.r a0),(aa.r a1))=some (md a0 a1):=cH h
def aM:=CN [.agg lu,.agg wh] oI RT.dec R
def bn (a0)(a1)(hg:gd a0 a1):F (au.r a0) (aa.r a1)=ret (md a0 a1):=by
 obtain ⟨H0,H1⟩:=hg
 refine ct (Z148.aj H0) (bs (fun _=>rfl) (fun c1=>?_))
 refine ct (Z148.aj H1.1) (bs (fun _=>rfl) (fun c2=>?_))
 refine ct (Z168.aj H0) (bs (fun _=>rfl) (fun c3=>?_))
 refine bs (fun c4=>ct (Z169.aj ⟨H0,H1⟩) fz) (fun c4=>?_)
 exact bs (fun c5=>ct (Z173.aj ⟨H0,H1⟩) fz) (fun c5=>ct (Z174.aj ⟨H0,H1⟩) fz)
def af:cj 297 aM:=W2 40 F mix az bn (xC Z148.af Z168.af Z169.af Z173.af Z174.af) Tryz.func297
def br (a0:au)(a1:aa):md a0 a1=Z57.md a0 a1:=by
 unfold md Z57.md Z168.md Z169.md Z173.md Z174.md Z165.md Z51.md Z55.md Z56.md
 simp only [Z148.br,Z167.br,Z164.br,Z156.br,Z145.br,Z171.md_eq,Z53.md_eq,Z172.br,bne]
 cases Z36.md a0
 ·rfl
 cases h2:Z36.md a1.an
 ·rfl
 obtain ⟨⟨k1,k2⟩,_⟩:=Z36.tr h2
 have ht:decide (a1.an.cg<a0.cg)=!decide (a1.an.cg>=a0.cg):=by
  rw [Bool.eq_iff_iff];simp
 rw [ht]
 cases a1.an.aX==a0.aX
 ·rfl
 cases a1.an.cw==i64.wrap (a0.cw+1)
 ·rfl
 cases a1.an.ec==Z50.md a0
 ·rfl
 cases decide (a1.an.cg>=a0.cg)
 ·rfl
 have hk:a1.an.bt=1∨a1.an.bt=2∨a1.an.bt=3:=by omega
 generalize Z48.md a0.bV (Z39.md a1.an) a1.dR=s1
 generalize Z48.md a0.bG (Z39.md a1.an) a1.dR=s2
 generalize Z48.md a0.bD (Z39.md a1.an) a1.dR=s3
 generalize Z35.md a0.bG=n1
 generalize Z35.md a0.bD=n2
 generalize decide (a1.an.cg<i64.wrap (a0.cm+a0.cW))=d1
 generalize iV a1.an.bV a0.bG=e1
 generalize iV a1.an.bD a0.bD=e2
 generalize iV a1.an.bG a0.bG=e3
 generalize iV a1.an.bV a0.bV=e4
 generalize Z54.md a1.an a0=c1
 generalize (a1.an.cW==a0.cW)=w1
 generalize a1.an.bh=f1
 generalize a0.bh=f0
 rcases hk with hk | hk | hk<;>rw [hk]
 ·cases f0<;>cases f1<;>cases s1<;>rfl
 ·cases f0<;>cases n1<;>cases d1<;>cases f1<;>cases e1<;>cases c1<;>cases s2<;>rfl
 ·cases n2
  ·cases f1<;>cases f0<;>cases c1<;>cases e2<;>cases e3<;>cases w1<;>cases e4<;>cases s3<;>rfl
  ·cases c1<;>cases e2<;>cases e3<;>rfl
end Z175
namespace Z176
def F (x0:bN)(x1:aU):aD:=(call (Z175.R (x0,x1)) fun v1=>ret ((v1==1)))
def md (a0:au)(a1:aa):Bool:=(((Z175.md a0 a1)==1))
def gd (a0:au)(a1:aa):Prop:=(au.Sm (2^21) a0)/\(aa.Sm (2^21) a1)
def R:=cI gd md
def aj {a0 a1}(h:gd a0 a1):R ((au.r a0),(aa.r a1))=some (md a0 a1):=cH h
def aM:=CN [.agg lu,.agg wh] oB RT.dec R
def bn (a0)(a1)(hg:gd a0 a1):F (au.r a0) (aa.r a1)=ret (md a0 a1):=by
 obtain ⟨H0,H1⟩:=hg
 exact ct (Z175.aj ⟨H0,H1⟩) fz
def af:cj 223 aM:=W2 9 F mix az bn (cO Z175.af) Tryz.func223
def br (a0:au)(a1:aa):md a0 a1=Z58.md a0 a1:=by
 unfold md Z58.md
 simp only [Z175.br]
end Z176
namespace Z177
inductive Pt where
 | p0 (a b:aq) (c d:Int)
def cM:Pt->List V
 | .p0 a b c d=>[.sl none 53 a,.sl none 53 b,.int .i64 c,.int .i64 d]
def step (J:Pt->aD):Pt->aD
 | .p0 a b c d=>(cond (d<c) (m2 d (b.length:Int) (cond (d==0) (call (Z166.R (aU.at b (toNat d))) fun v1=>(cond (!v1) (ret (d:Int)) (cond (d>0) (cA ((0:Int)<=(i64.wrap (d - 1))) (cA ((i64.wrap (d - 1))<(a.length:Int)) (call (Z176.R ((aU.at a (toNat (i64.wrap (d - 1)))).an,(aU.at b (toNat d)))) fun v2=>(cond (!v2) (ret (d:Int)) (J (.p0 a b c (i64.wrap (d+1)))))))) (J (.p0 a b c (i64.wrap (d+1))))))) (cond (d>0) (cA ((0:Int)<=(i64.wrap (d - 1))) (cA ((i64.wrap (d - 1))<(a.length:Int)) (call (Z176.R ((aU.at a (toNat (i64.wrap (d - 1)))).an,(aU.at b (toNat d)))) fun v3=>(cond (!v3) (ret (d:Int)) (J (.p0 a b c (i64.wrap (d+1)))))))) (J (.p0 a b c (i64.wrap (d+1))))))) mV)
def start (J:Pt->aD)(x0:aq):aD:=J (.p0 x0 x0 x0.length 0)
def live:Nat->Live:=gL [(2,jC [0,5,6,7])]
def md (a0:List aa):Int:=(dY (S:=Unit) (β:=Int) (fun i1 y1 s3=>(cond ((i1:Int)==0) (cond (!(Z166.md y1)) (.inr (i1)) (cond ((i1:Int)>0) (cond (!(Z176.md ((a0.getD (toNat (i64.wrap (i1 - 1))) aa.zero).an) y1)) (.inr (i1)) (.inl ())) (.inl ()))) (cond ((i1:Int)>0) (cond (!(Z176.md ((a0.getD (toNat (i64.wrap (i1 - 1))) aa.zero).an) y1)) (.inr (i1)) (.inl ())) (.inl ())))) (fun s3=>((-1):Int)) 0 a0 ())
def gd (a0:List aa):Prop:=(bg (2^21) (fun y:aa=>aa.Sm (2^21) y) a0)
def R:=RR gd md
def aj {a0}(h:gd a0):R (a0.map aa.row)=some (md a0):=cQ h
def aM:=CN [pL 53] oI RT.dec R
def bn (a0)(H0:gd a0):∃n,start (iter step n) (a0.map aa.row)=ret (md a0):=by
 have Bh2:=bl H0
 refine ex_eq (cK (z:=aa.zero)) (dy (p:=Pt.p0 (a0.map aa.row) (a0.map aa.row) (a0.length:Int) 0) fz ?_)
 refine bH (pt:=fun (i1:Nat) (s3:Unit)=>Pt.p0 (a0.map aa.row) (a0.map aa.row) (a0.length:Int) (i1:Int)) (fun _ _=>True) (fun J i1 s3 h2 hih2=>?_) (fun s3 hih2=>?_) trivial
 ·simp only [step,SS]
  have:=(H0).1
  refine aP.yes dt (aP.yes bB ?_)
  refine aP.yes (bQ h2) (aP.bif (fun c4=>?_) (fun c4=>?_))
  ·refine cr (Z166.aj (bg.getD H0 h2)) (aP.bif (fun c5=>aP.inr fz) (fun c5=>?_))
   refine aP.bif (fun c6=>?_) (fun c6=>?_)
   ·have dc6:=c6
    simp only [DC] at dc6
    refine aP.yes dt (aP.yes dt ?_)
    refine cr (Z176.aj ⟨(bg.getD H0 (by (simp (disch:=omega) only [wi];omega))).1,(bg.getD H0 h2)⟩) (aP.bif (fun c7=>aP.inr fz) (fun c7=>?_))
    refine aP.inl trivial ?_
    rw [aF h2 Bh2]
   ·refine aP.inl trivial ?_
    rw [aF h2 Bh2]
  ·refine aP.bif (fun c8=>?_) (fun c8=>?_)
   ·have dc8:=c8
    simp only [DC] at dc8
    refine aP.yes dt (aP.yes dt ?_)
    refine cr (Z176.aj ⟨(bg.getD H0 (by (simp (disch:=omega) only [wi];omega))).1,(bg.getD H0 h2)⟩) (aP.bif (fun c9=>aP.inr fz) (fun c9=>?_))
    refine aP.inl trivial ?_
    rw [aF h2 Bh2]
   ·refine aP.inl trivial ?_
    rw [aF h2 Bh2]
 ·simp only [step,SS]
  refine cL dn (⟨0,?_⟩)
  exact fz
def af:cj 220 aM:=L1 36 (fun _=>2) cM (fun _=>[]) live step start mix az bn (fc Z166.af Z176.af) Tryz.func220
def br (a0:List aa):md a0=Z59.md a0:=by
 unfold md Z59.md
 rw [<-cK,<-cK]
 refine wD (fun _ _=>True) (fun i s hi _=>⟨?_,fun _ _=>trivial⟩) (fun _ _=>rfl) trivial
 simp only [Z166.br,Z176.br]
 by_cases h0:i=0
 ·subst h0;rfl
 ·have e:((i:Int)==0)=false:=beq_eq_false_iff_ne.2 (by omega)
  simp only [e,aR]
end Z177
namespace Z178
def F (x0:aq):aD:=(call (Z134.R (x0.length,1,12)) fun v1=>(cond v1 (call (Z177.R x0) fun v2=>ret ((decide (v2<0)))) (ret false)))
def md (a0:List aa):Bool:=(cond (Z134.md a0.length 1 12) ((decide ((Z177.md a0)<0))) false)
def gd (a0:List aa):Prop:=(bg (2^21) (fun y:aa=>aa.Sm (2^21) y) a0)
def R:=RR gd md
def aj {a0}(h:gd a0):R (a0.map aa.row)=some (md a0):=cQ h
def aM:=CN [pL 53] oB RT.dec R
def bn (a0)(H0:gd a0):F (a0.map aa.row)=ret (md a0):=by
 unfold F md
 simp only [SS]
 refine ct (Z134.aj trivial) (bs (fun c1=>?_) (fun _=>rfl))
 exact ct (Z177.aj H0) fz
def af:cj 128 aM:=W1 11 F mix az bn (fc Z134.af Z177.af) Tryz.func128
def tr {a0:List aa}(h:md a0=true):1<=a0.length/\a0.length<=12:=by simp [md,Z134.md] at h;omega
def br (a0:List aa):md a0=Z60.md a0:=by
 unfold md Z60.md
 simp only [Z134.br,Z177.br]
end Z178
namespace Z179
def F (x0:aq):aD:=(cA ((0:Int)<=(i64.wrap (x0.length - 1))) (cA ((i64.wrap (x0.length - 1))<x0.length) (ret ((aU.at x0 (toNat (i64.wrap (x0.length - 1)))).an))))
def md (a0:List aa):au:=(a0.getD (toNat (i64.wrap (a0.length - 1))) aa.zero).an
def gd (a0:List aa):Prop:=(bg (2^21) (fun y:aa=>aa.Sm (2^21) y) a0)/\(1<=a0.length)
def R:=RR gd md
def aj {a0}(h:gd a0):R (a0.map aa.row)=some (au.r (md a0)):=cQ h
def aM:=CN [pL 53] (.agg [.rd (.int .i64),.rd (.int .i64),.rd (.int .i64),.rd (.int .i64),.rd (.int .i64),.rd (.int .i64),.rd (.int .i64),.rd (.int .i64),.rd (.sl 3),.rd (.int .i64),.rd (.sl 3),.rd (.int .i64),.rd (.int .i64),.rd (.sl 3),.rd (.int .i64),.rd (.bool)]) RT.dec R
def bn (a0)(hg:gd a0):F (a0.map aa.row)=ret (au.r (md a0)):=by
 obtain ⟨H0,HX⟩:=hg
 refine aG (have:=(H0).1;dt) (aG (have:=(H0).1;dt) ?_)
 exact fz
def af:cj 253 aM:=W1 10 F mix az bn .nil Tryz.func253
def fo {a0:List aa}(hg:gd a0):au.Sm (2^21) (md a0):=by
 unfold gd at hg;unfold md
 have h1:=hg.1.1
 exact (bg.getD hg.1 (by simp (disch:=omega) only [Go.IntWalk.i64_in];omega)).1
end Z179
namespace Z180
def F (x0:bk):aD:=(call (Z135.R x0.aS) fun v1=>(cond (!v1) (ret false) (cond (x0.bt==1) (call (Z134.R (x0.bO,0,999999)) fun v2=>(cond v2 (ret (((x0.bC.length:Int)==0))) (ret false))) (cond (x0.bt==2) (call (Z140.R x0.bO) fun v3=>(cond v3 (ret (((x0.bC.length:Int)==0))) (ret false))) (cond (x0.bt==3) (call (Z140.R x0.bO) fun v4=>(cond v4 (call (Z139.R x0.bC) fun v5=>ret v5) (ret false))) (ret false))))))
def md (a0:ah):Bool:=(cond (!(Z135.md a0.aS)) false (cond (a0.bt==1) (cond (Z134.md a0.bO 0 999999) (((a0.bC.length:Int)==0)) false) (cond (a0.bt==2) (cond (Z140.md a0.bO) (((a0.bC.length:Int)==0)) false) (cond (a0.bt==3) (cond (Z140.md a0.bO) ((Z139.md a0.bC)) false) false))))
def gd (a0:ah):Prop:=(ah.Sm (2^21) a0)
def R:=RR gd md
def aj {a0}(h:gd a0):R (ah.r a0)=some (md a0):=cQ h
def aM:=CN [.agg vZ] oB RT.dec R
def bn (a0)(H0:gd a0):F (ah.r a0)=ret (md a0):=by
 refine ct (Z135.aj (le_trans H0.1 (by decide))) (bs (fun _=>rfl) (fun c1=>?_))
 refine bs (fun c2=>?_) (fun c2=>?_)
 ·refine ct (Z134.aj trivial) (bs (fun c3=>?_) (fun _=>rfl))
  exact fz
 ·refine bs (fun c4=>?_) (fun c4=>?_)
  ·refine ct (Z140.aj trivial) (bs (fun c5=>?_) (fun _=>rfl))
   exact fz
  ·refine bs (fun c6=>?_) (fun _=>rfl)
   refine ct (Z140.aj trivial) (bs (fun c7=>?_) (fun _=>rfl))
   exact ct (Z139.aj (H0.2.mono (by decide) (fun x hx=>(le_trans hx (by decide))))) fz
def af:cj 377 aM:=W1 41 F mix az bn (nP Z135.af Z134.af Z140.af Z139.af) Tryz.func377
def br (a0:ah):md a0=Z14.md a0:=by
 unfold md Z14.md
 simp only [Z135.br,Z134.br,Z140.md,Z139.br]
 cases Z12.md a0.aS<;>simp
end Z180
namespace Z181
set_option maxHeartbeats 1000000 in
set_option maxRecDepth 100000 in
open Go.RowKit in
def calls (a b:av)(w:World):Calls Tryz.prog 285 #[.string a,.string b] w fun e w'=>e=.returned (.int .i64 (Lib.compareBytes a.data.toList b.data.toList))/\w'=w:=by
 go_enter Tryz.func285,Tryz.ntmps170
 go_wp2
 rw [run_callFunc_extern Tryz.func348 (by kernel_rfl) (by kernel_rfl) (by kernel_rfl) (e:=Extern.BytealgCompare.compare) (by kernel_rfl),Lib.run_compareString]
 simp only [Result.andThen]
 rw [Oper.upon_value]
 go_wp2
 go_ret
 exact ⟨rfl,rfl⟩
def md (a0 a1:av):Int:=Lib.compareBytes a0.data.toList a1.data.toList
def R (x:av×av):Option Int:=some (md x.1 x.2)
def aj {a0 a1:av}(_:True):R (a0,a1)=some (md a0 a1):=rfl
def sem:List L->Option (List L)
 | [y0,y1]=>(R (y0.toStr,y1.toStr)).map RT.enc
 | _=>none
def aM:gj:=⟨[.rd .str,.rd .str],.one (.rd (.int .i64)),sem⟩
def af:cj 285 aM:=by
 refine wL ⟨Tryz.f285,Tryz.func285,by kernel_rfl,by kernel_rfl⟩ rfl (fun _=>rfl) fun ls r w vs Z hs hf=>?_
 simp only [aM] at hs
 unfold sem at hs
 split at hs
 ·rename_i a b
  cases hf with
  | cons h1 ht=>
   cases ht with
   | cons h2 ht=>
    cases ht
    have e1:_=Value.string a.toStr:=h1
    have e2:_=Value.string b.toStr:=h2
    subst e1;subst e2
    refine (calls a.toStr b.toStr w).mono fun e w' ⟨h3,h4⟩=>⟨_,h3,h4,?_⟩
    injection hs with hs
    subst hs
    rfl
 ·cases hs
end Z181
namespace Z182
def F (x0 x1:av):aD:=(call (Z181.R (x0,x1)) fun v1=>ret v1)
def md (a0 a1:av):Int:=((Z181.md a0 a1))
def gd (a0 a1:av):Prop:=True
def R:=cI gd md
def aj {a0 a1}(h:gd a0 a1):R (a0,a1)=some (md a0 a1):=cH h
def aM:=CN [pS,pS] oI RT.dec R
def bn (a0)(a1)(hg:gd a0 a1):F a0 a1=ret (md a0 a1):=ct (Z181.aj trivial) fz
def af:cj 206 aM:=W2 8 F mix az bn (cO Z181.af) Tryz.func206
end Z182
namespace Z183
def F (x0 x1:av):aD:=(call (Z182.R (x0,x1)) fun v1=>ret v1)
def md (a0 a1:av):Int:=((Z182.md a0 a1))
def gd (a0 a1:av):Prop:=True
def R:=cI gd md
def aj {a0 a1}(h:gd a0 a1):R (a0,a1)=some (md a0 a1):=cH h
def aM:=CN [pS,pS] oI RT.dec R
def bn (a0)(a1)(hg:gd a0 a1):F a0 a1=ret (md a0 a1):=ct (Z182.aj trivial) fz
def af:cj 111 aM:=W2 8 F mix az bn (cO Z182.af) Tryz.func111
def cmp:∀a b:List UInt8,Lib.compareBytes a b=(cond (Op.bytesLess a b) ((-1):Int) (cond (!((Op.bytesLess a b)||(a==b))) (1:Int) (0:Int)))
 | [],[]=>by simp [Lib.compareBytes,Op.bytesLess]
 | [],_::_=>by simp [Lib.compareBytes,Op.bytesLess]
 | _::_,[]=>by simp [Lib.compareBytes,Op.bytesLess]
 | a::xs,b::ys=>by
  simp only [Lib.compareBytes,Op.bytesLess]
  rw [cmp xs ys]
  by_cases h1:a<b
  ·simp [h1]
  ·by_cases h2:b<a
   ·have hne:a≠b:=fun e=>by subst e;exact h1 h2
    have hb:(a==b)=false:=beq_eq_false_iff_ne.2 hne
    simp [h1,h2,hb,hne]
   ·have he:a=b:=by
     have:=UInt8.lt_or_eq_of_le (UInt8.not_lt.1 h1)
     rcases this with h | h
     ·exact (h2 h).elim
     ·exact h.symm
    subst he
    simp [h1]
def br (a0 a1:av):md a0 a1=Z8.md a0 a1:=by
 unfold md Z8.md Z182.md Z181.md
 rw [cmp,ByteArray.toList_eq,ByteArray.toList_eq]
end Z183
namespace Z184
inductive Pt where
 | p0 (a b:aq) (c d:Int)
def cM:Pt->List V
 | .p0 a b c d=>[.sl none 62 a,.sl none 62 b,.int .i64 c,.int .i64 d]
def step (J:Pt->aD):Pt->aD
 | .p0 a b c d=>(cond (d<c) (m2 d (b.length:Int) (call (Z180.R (bk.at b (toNat d))) fun v1=>(cond (!v1) eM (cond (d>0) (cA ((0:Int)<=(i64.wrap (d - 1))) (cA ((i64.wrap (d - 1))<(a.length:Int)) (call (Z183.R ((bk.at b (toNat d)).aS,(bk.at a (toNat (i64.wrap (d - 1)))).aS)) fun v2=>(cond (v2<=0) eM (J (.p0 a b c (i64.wrap (d+1)))))))) (J (.p0 a b c (i64.wrap (d+1)))))))) (ret ((decide ((a.length:Int)<=12)):Bool)))
def start (J:Pt->aD)(x0:aq):aD:=J (.p0 x0 x0 x0.length 0)
def live:Nat->Live:=gL [(2,jC [0,5,6,7])]
def md (a0:List ah):Bool:=(dY (S:=Unit) (β:=Bool) (fun i1 y1 s3=>(cond (!(Z180.md y1)) (.inr false) (cond ((i1:Int)>0) (cond ((Z183.md (y1.aS) ((a0.getD (toNat (i64.wrap (i1 - 1))) ah.zero).aS))<=0) (.inr false) (.inl ())) (.inl ())))) (fun s3=>((decide ((a0.length:Int)<=12)))) 0 a0 ())
def gd (a0:List ah):Prop:=(bg (2^21) (fun y:ah=>ah.Sm (2^21) y) a0)
def R:=RR gd md
def aj {a0}(h:gd a0):R (a0.map ah.row)=some (md a0):=cQ h
def aM:=CN [pL 62] oB RT.dec R
def bn (a0)(H0:gd a0):∃n,start (iter step n) (a0.map ah.row)=ret (md a0):=by
 have Bh2:=bl H0
 refine ex_eq (cK (z:=ah.zero)) (dy (p:=Pt.p0 (a0.map ah.row) (a0.map ah.row) (a0.length:Int) 0) fz ?_)
 refine bH (pt:=fun (i1:Nat) (s3:Unit)=>Pt.p0 (a0.map ah.row) (a0.map ah.row) (a0.length:Int) (i1:Int)) (fun _ _=>True) (fun J i1 s3 h2 hih2=>?_) (fun s3 hih2=>?_) trivial
 ·simp only [step,SS]
  have:=(H0).1
  refine aP.yes dt (aP.yes bB ?_)
  refine aP.yes (bQ h2) (cr (Z180.aj (bg.getD H0 h2)) ?_)
  refine aP.bif (fun _=>aP.inr rfl) (fun c4=>?_)
  refine aP.bif (fun c5=>?_) (fun c5=>?_)
  ·have dc5:=c5
   simp only [DC] at dc5
   refine aP.yes dt (aP.yes dt ?_)
   refine cr (Z183.aj trivial) (aP.bif (fun _=>aP.inr rfl) (fun c6=>?_))
   refine aP.inl trivial ?_
   rw [aF h2 Bh2]
  ·refine aP.inl trivial ?_
   rw [aF h2 Bh2]
 ·simp only [step,SS]
  refine cL dn (⟨0,?_⟩)
  exact fz
def af:cj 447 aM:=L1 35 (fun _=>2) cM (fun _=>[]) live step start mix az bn (fc Z180.af Z183.af) Tryz.func447
def br (a0:List ah):md a0=Z15.md a0:=by
 unfold md Z15.md
 refine mY (fun i x _ s=>?_) (fun s=>rfl)
 simp only [Z180.br,Z183.br,Z8.swap]
end Z184
namespace Z185
inductive Pt where
 | p0 (a:aq) (b c:Int) (d:aq)
def cM:Pt->List V
 | .p0 a b c d=>[.own 0,.sl none 5 a,.int .i64 b,.int .i64 c]
def dQ:Pt->List aK
 | .p0 a b c d=>[.row 3 d]
def step (J:Pt->aD):Pt->aD
 | .p0 a b c d=>(cond (c<b) (m2 c (a.length:Int) (cA (eK (((d.length:Int)+1)*8)) (J (.p0 a b (i64.wrap (c+1)) (d++[[L.int (i64.wrap (jz a (toNat c)))]]))))) (ret (d:aq)))
def start (J:Pt->aD)(x0:aq):aD:=J (.p0 x0 x0.length 0 [[L.int x0.length]])
def live:Nat->Live:=gL [(3,jC [3,9,10,11])]
def md (a0:List Int):List Int:=([(a0.length:Int)]++a0.map (fun y1=>(i64.wrap y1)))
def gd (a0:List Int):Prop:=(bg (2^38) (fun y:Int=>True) a0)
def R:=RR gd md
def aj {a0}(h:gd a0):R (a0.map aV)=some ((md a0).map aV):=cQ h
def aM:=CN [pL 5] (oL 3) RT.dec R
def bn (a0)(H0:gd a0):∃n,start (iter step n) (a0.map aV)=ret ((md a0).map aV):=by
 have Bh2:=bl H0
 refine ex_eq (out:=(fun b:List Int=>ret ((b.map aV):aq))) (nI (g:=fun (y1:Int)=>(i64.wrap y1)) (z:=0) (t:=fun (s3:List Int)=>s3)) (dy (p:=Pt.p0 (a0.map aV) (a0.length:Int) 0 ([(a0.length:Int)].map aV)) fz ?_)
 refine bH (pt:=fun (i1:Nat) (s3:List Int)=>Pt.p0 (a0.map aV) (a0.length:Int) (i1:Int) (s3.map aV)) (out:=(fun b:List Int=>ret ((b.map aV):aq))) (fun (i1:Nat) (s3:List Int)=>s3.length<=[(a0.length:Int)].length+1*i1) (fun J i1 s3 h2 hih2=>?_) (fun s3 hih2=>?_) (by simp)
 ·simp only [step,SS]
  have gr_:=hih2
  simp only [LN] at gr_
  have:=(H0).1
  refine aP.yes dt (aP.yes bB ?_)
  refine aP.yes (bQ h2) (aP.yes lm ?_)
  refine aP.inl (by
    (simp;omega)) ?_
  rw [aF h2 Bh2]
  exact fz
 ·simp only [step,SS]
  refine cL dn (⟨0,?_⟩)
  exact fz
def af:cj 479 aM:=L1 22 (fun _=>3) cM dQ live step start mix az bn .nil Tryz.func479
def len (a0:List Int):(md a0).length=1+a0.length:=by simp [md];omega
def br (a0:List Int):md a0=Z23.md a0:=by
 unfold md Z23.md
 simp only [id]
end Z185
namespace Z186
def F (x0:av):aD:=(cA ((x0.size:Int)<=140737488355328) (call (Z185.R (iY x0)) fun v1=>ret (v1:aq)))
def md (a0:av):List Int:=(Z185.md (lg a0))
def gd (a0:av):Prop:=(a0.size<=(2^21))
def R:=RR gd md
def aj {a0}(h:gd a0):R a0=some ((md a0).map aV):=cQ h
def aM:=CN [pS] (oL 3) RT.dec R
def bn (a0)(hg:gd a0):F a0=ret ((md a0).map aV):=by
 unfold gd at hg
 have H0:=hg
 refine aG (have:=H0;dt) (cG _ (rq (Z185.aj (a0:=(lg a0)) ⟨(have:=ir a0;have:=H0;om),fun _ _=>trivial⟩)) ?_)
 exact fz
def af:cj 461 aM:=W1 6 F mix az bn (cO Z185.af) Tryz.func461
def len (a0:av):(md a0).length=1+a0.size:=by simp [md,Z185.len,ir]
def br (a0:av):md a0=Z24.md a0:=by
 unfold md Z24.md
 simp only [Z185.br]
end Z186
namespace Z187
inductive Pt where
 | p0 (a:aq) (b c:Int) (d:aq)
def cM:Pt->List V
 | .p0 a b c d=>[.own 0,.sl none 9 a,.int .i64 b,.int .i64 c]
def dQ:Pt->List aK
 | .p0 a b c d=>[.row 3 d]
def step (J:Pt->aD):Pt->aD
 | .p0 a b c d=>(cond (c<b) (m2 c (a.length:Int) (call (Z186.R (tS a (toNat c))) fun v1=>(cA (eK (((d.length:Int)+(v1.length:Int))*8)) (J (.p0 a b (i64.wrap (c+1)) (d++v1)))))) (ret (d:aq)))
def start (J:Pt->aD)(x0:bk):aD:=(call (Z186.R x0.aS) fun v1=>(cA (eK ((v1.length+3)*8)) (J (.p0 x0.bC x0.bC.length 0 (v1++[[L.int x0.bt],[L.int x0.bO],[L.int x0.bC.length]])))))
def live:Nat->Live:=gL [(3,jC [3,19,20,21])]
def md (a0:ah):List Int:=(((Z186.md a0.aS)++[a0.bt,a0.bO,a0.bC.length])++a0.bC.flatMap (fun y1=>(Z186.md y1)))
def gd (a0:ah):Prop:=(ah.Sm (2^21) a0)
def R:=RR gd md
def aj {a0}(h:gd a0):R (ah.r a0)=some ((md a0).map aV):=cQ h
def aM:=CN [.agg vZ] (oL 3) RT.dec R
def bn (a0)(H0:gd a0):∃n,start (iter step n) (ah.r a0)=ret ((md a0).map aV):=by
 refine cx (Z186.aj H0.1) ?_
 simp only [SS]
 refine dP (have:=Z186.len a0.aS;have:=H0.1;lm) ?_
 have Bh2:=bl H0.2
 refine ex_eq (out:=(fun b:List Int=>ret ((b.map aV):aq))) (sB (g:=fun (y1:av)=>(Z186.md y1)) (z:=⟨#[]⟩) (t:=fun (s3:List Int)=>s3)) (dy (p:=Pt.p0 (a0.bC.map dL) (a0.bC.length:Int) 0 (((Z186.md a0.aS)++[a0.bt,a0.bO,(a0.bC.length:Int)]).map aV)) fz ?_)
 refine bH (pt:=fun (i1:Nat) (s3:List Int)=>Pt.p0 (a0.bC.map dL) (a0.bC.length:Int) (i1:Int) (s3.map aV)) (out:=(fun b:List Int=>ret ((b.map aV):aq))) (fun (i1:Nat) (s3:List Int)=>s3.length<=4+a0.aS.size+i1*(2^21+1)) (fun J i1 s3 h2 hih2=>?_) (fun s3 hih2=>?_) (by
   have:=Z186.len a0.aS
   simp
   try omega)
 ·simp only [step,SS]
  have:=H0.1
  have:=(H0.2).1
  refine aP.yes dt (aP.yes bB ?_)
  refine aP.yes (bQ h2) (cr (Z186.aj (bg.getD H0.2 h2)) ?_)
  refine aP.yes (have:=Z186.len (a0.bC.getD i1 ⟨#[]⟩);have:=(bg.getD (z:=⟨#[]⟩) H0.2 h2);lm) ?_
  refine aP.inl (by
    have:=Z186.len (a0.bC.getD i1 ⟨#[]⟩)
    have:=(bg.getD (z:=⟨#[]⟩) H0.2 h2)
    have g_:=hih2
    simp only [LN] at g_ ⊢
    first | omega | (simp;done) | (simp;omega)) ?_
  rw [aF h2 Bh2]
  exact fz
 ·simp only [step,SS]
  refine cL dn (⟨0,?_⟩)
  exact fz
def af:cj 427 aM:=L1 31 (fun _=>3) cM dQ live step start mix az bn (cO Z186.af) Tryz.func427
def fo {a0:ah}(hg:gd a0):bg (2^43 - 1) (fun y:Int=>True) (md a0):=by
 refine ⟨?_,fun _ _=>trivial⟩
 unfold md
 have h1:=mD (xs:=a0.bC) (g:=fun y=>Z186.md y) (n:=2^21+1) (fun x hx=>by rw [Z186.len];have:=hg.2.2 x hx;omega)
 have h2:=hg.1
 have h3:=hg.2.1
 have h4:=Z186.len a0.aS
 simp only [List.length_append,List.length_cons,List.length_nil]
 omega
def br (a0:ah):md a0=Z25.md a0:=by
 unfold md Z25.md
 simp only [Z186.br]
end Z187
namespace Z188
def F (x0:bk):aD:=(call (Z187.R x0) fun v1=>(cA (eK (((1:Int)+v1.length)*8)) (call (Z151.R ([[L.int 227]]++v1)) fun v2=>ret v2)))
def md (a0:ah):Int:=((Z151.md ([227]++(Z187.md a0))))
def gd (a0:ah):Prop:=(ah.Sm (2^21) a0)
def R:=RR gd md
def aj {a0}(h:gd a0):R (ah.r a0)=some (md a0):=cQ h
def aM:=CN [.agg vZ] oI RT.dec R
def bn (a0)(H0:gd a0):F (ah.r a0)=ret (md a0):=by
 refine ct (Z187.aj H0) (aG (have:=((Z187.fo H0)).1;lm) ?_)
 exact cG _ (rq (Z151.aj (a0:=([227]++(Z187.md a0))) ⟨(have:=((Z187.fo H0)).1;om),fun _ _=>trivial⟩)) fz
def af:cj 376 aM:=W1 8 F mix az bn (fc Z187.af Z151.af) Tryz.func376
def br (a0:ah):md a0=Z26.md a0:=by
 unfold md Z26.md
 simp only [Z187.br,Z151.br]
end Z188
namespace Z189
inductive Pt where
 | p0 (a:aq) (b c:Int) (d:aq)
def cM:Pt->List V
 | .p0 a b c d=>[.own 0,.sl none 62 a,.int .i64 b,.int .i64 c]
def dQ:Pt->List aK
 | .p0 a b c d=>[.row 3 d]
def step (J:Pt->aD):Pt->aD
 | .p0 a b c d=>(cond (c<b) (m2 c (a.length:Int) (call (Z188.R (bk.at a (toNat c))) fun v1=>(cA (eK (((d.length:Int)+1)*8)) (J (.p0 a b (i64.wrap (c+1)) (d++[[L.int v1]])))))) (ret (d:aq)))
def start (J:Pt->aD)(x0:aq):aD:=J (.p0 x0 x0.length 0 [])
def live:Nat->Live:=gL [(3,[(3,some 3),(7,none),(8,none),(9,none)])]
def md (a0:List ah):List Int:=(a0.map (fun y1=>(Z188.md y1)))
def gd (a0:List ah):Prop:=(bg (2^21) (fun y:ah=>ah.Sm (2^21) y) a0)
def R:=RR gd md
def aj {a0}(h:gd a0):R (a0.map ah.row)=some ((md a0).map aV):=cQ h
def aM:=CN [pL 62] (oL 3) RT.dec R
def bn (a0)(H0:gd a0):∃n,start (iter step n) (a0.map ah.row)=ret ((md a0).map aV):=by
 have Bh2:=bl H0
 refine ex_eq (out:=(fun b:List Int=>ret ((b.map aV):aq))) (ox (g:=fun (y1:ah)=>(Z188.md y1)) (z:=ah.zero) (t:=fun (s3:List Int)=>s3)) (dy (p:=Pt.p0 (a0.map ah.row) (a0.length:Int) 0 ([].map aV)) fz ?_)
 refine bH (pt:=fun (i1:Nat) (s3:List Int)=>Pt.p0 (a0.map ah.row) (a0.length:Int) (i1:Int) (s3.map aV)) (out:=(fun b:List Int=>ret ((b.map aV):aq))) (fun (i1:Nat) (s3:List Int)=>s3.length<=([]:List Int).length+1*i1) (fun J i1 s3 h2 hih2=>?_) (fun s3 hih2=>?_) (by simp)
 ·simp only [step,SS]
  have gr_:=hih2
  simp only [LN] at gr_
  have:=(H0).1
  refine aP.yes dt (aP.yes bB ?_)
  refine aP.yes (bQ h2) (cr (Z188.aj (bg.getD H0 h2)) ?_)
  refine aP.yes lm ?_
  refine aP.inl (by
    (simp;omega)) ?_
  rw [aF h2 Bh2]
  exact fz
 ·simp only [step,SS]
  refine cL dn (⟨0,?_⟩)
  exact fz
def af:cj 430 aM:=L1 20 (fun _=>3) cM dQ live step start mix az bn (cO Z188.af) Tryz.func430
def len (a0:List ah):(md a0).length=a0.length:=by simp [md]
def br (a0:List ah):md a0=Z27.md a0:=by
 unfold md Z27.md
 simp only [Z188.br]
end Z189
namespace Z190
def F (x0:aq):aD:=(call (Z151.R x0) fun v1=>ret v1)
def md (a0:List Int):Int:=((Z151.md a0))
def gd (a0:List Int):Prop:=(bg (2^42) (fun y:Int=>True) a0)
def R:=RR gd md
def aj {a0}(h:gd a0):R (a0.map aV)=some (md a0):=cQ h
def aM:=CN [pL 3] oI RT.dec R
def bn (a0)(H0:gd a0):F (a0.map aV)=ret (md a0):=ct (Z151.aj (H0.mono (by decide) (fun x hx=>trivial))) fz
def af:cj 428 aM:=W1 5 F mix az bn (cO Z151.af) Tryz.func428
def br (a0:List Int):md a0=Z21.md a0:=Z151.br a0
end Z190
namespace Z191
def F (x0 x1:Int):aD:=(call (Z190.R [[L.int 229],[L.int x0],[L.int x1]]) fun v1=>ret v1)
def md (a0 a1:Int):Int:=((Z190.md [229,a0,a1]))
def gd (a0 a1:Int):Prop:=True
def R:=cI gd md
def aj {a0 a1}(h:gd a0 a1):R (a0,a1)=some (md a0 a1):=cH h
def aM:=CN [pI,pI] oI RT.dec R
def bn (a0)(a1)(hg:gd a0 a1):F a0 a1=ret (md a0 a1):=cG _ (rq (Z190.aj (a0:=[229,a0,a1]) ⟨(om),fun _ _=>trivial⟩)) fz
def af:cj 426 aM:=W2 9 F mix az bn (cO Z190.af) Tryz.func426
def br (a0 a1:Int):md a0 a1=Z28.md a0 a1:=by
 unfold md Z28.md
 simp only [Z190.br]
end Z191
namespace Z192
inductive Pt where
 | p0 (a:aq) (b:Int) (c:aq)
def cM:Pt->List V
 | .p0 a b c=>[.sl none 3 a,.own 0,.int .i64 b]
def dQ:Pt->List aK
 | .p0 a b c=>[.row 3 c]
def step (J:Pt->aD):Pt->aD
 | .p0 a b c=>(cond (b<(a.length:Int)) (cond ((i64.wrap (b+1))<(a.length:Int)) (m2 b (a.length:Int) (cA ((0:Int)<=(i64.wrap (b+1))) (cA ((i64.wrap (b+1))<(a.length:Int)) (call (Z191.R ((jz a (toNat b)),(jz a (toNat (i64.wrap (b+1)))))) fun v1=>(cA (eK (((c.length:Int)+1)*8)) (J (.p0 a (i64.wrap (b+2)) (c++[[L.int v1]])))))))) (m2 b (a.length:Int) (cA (eK (((c.length:Int)+1)*8)) (J (.p0 a (i64.wrap (b+2)) (c++[[L.int (jz a (toNat b))]])))))) (ret (c:aq)))
def start (J:Pt->aD)(x0:aq):aD:=J (.p0 x0 0 [])
def live:Nat->Live:=gL [(3,[(0,none),(3,some 3),(4,none)])]
def md (a0:List Int):List Int:=Z29.md a0
def gd (a0:List Int):Prop:=bg (2^38) (fun y:Int=>True) a0
def R:=RR gd md
def aj {a0}(h:gd a0):R (a0.map aV)=some ((md a0).map aV):=cQ h
def aM:=CN [pL 3] (oL 3) RT.dec R
def bn (a0)(hg:gd a0):∃n,start (iter step n) (a0.map aV)=ret ((md a0).map aV):=by
 obtain ⟨H1,_⟩:=hg
 have key:∀(k i:Nat) (c:List Int),i+k=a0.length->c.length<=i->∃n,iter step n (Pt.p0 (a0.map aV) (i:Int) (c.map aV))=ret ((c++Z29.up (a0.drop i)).map aV:aq):=by
  intro k
  induction k using Nat.strongRecOn with
  | _ k ih=>
  intro i c hi hc
  match k,hi,ih with
  | 0,hi,_=>
   refine ⟨1,?_⟩
   show step (iter step 0) (Pt.p0 _ _ _)=_
   simp only [step,List.length_map]
   refine eH (decide_eq_false (by omega)) ?_
   rw [List.drop_eq_nil_of_le (by omega)]
   simp only [Z29.up,List.append_nil]
  | 1,hi,ih=>
   obtain ⟨n,hn⟩:=ih 0 (by omega) (i+1) (c++[a0.getD i 0]) (by omega) (by simp;omega)
   have h2:∃n,iter step n (Pt.p0 (a0.map aV) (i64.wrap ((i:Int)+2)) ((c++[a0.getD i 0]).map aV))=ret ((c++[a0.getD i 0]).map aV:aq):=by
    refine ⟨1,?_⟩
    show step (iter step 0) (Pt.p0 _ _ _)=_
    simp only [step,List.length_map]
    refine eH (decide_eq_false ?_) rfl
    rw [Go.IntWalk.i64_in _ (by omega)];omega
   obtain ⟨n,hn⟩:=h2
   refine ⟨n+1,?_⟩
   show step (iter step n) (Pt.p0 _ _ _)=_
   simp only [step,List.length_map,gv,iu]
   refine aG (decide_eq_true (by omega)) (eH (decide_eq_false ?_) (aG (decide_eq_true (by omega)) (aG (decide_eq_true (by omega)) (aG (gC (by omega)) ?_))))
   ·rw [Go.IntWalk.i64_in _ (by omega)];omega
   ·rw [List.map_append] at hn
    refine Eq.trans hn ?_
    rw [List.drop_eq_getElem_cons (by omega),List.drop_eq_nil_of_le (by omega),fH (by omega:i<a0.length)]
    simp only [Z29.up,List.map_append]
  | k+2,hi,ih=>
   obtain ⟨n,hn⟩:=ih k (by omega) (i+2) (c++[Z28.md (a0.getD i 0) (a0.getD (i+1) 0)]) (by omega) (by simp;omega)
   refine ⟨n+1,?_⟩
   show step (iter step n) (Pt.p0 _ _ _)=_
   have w1:i64.wrap ((i:Int)+1)=((i+1:Nat):Int):=by rw [Go.IntWalk.i64_in _ (by omega)];omega
   have w2:i64.wrap ((i:Int)+2)=((i+2:Nat):Int):=by rw [Go.IntWalk.i64_in _ (by omega)];omega
   simp only [step,List.length_map,w1,w2,gv,iu]
   refine aG (decide_eq_true (by omega)) (aG (decide_eq_true (by omega)) (aG (decide_eq_true (by omega)) (aG (decide_eq_true (by omega)) (aG (decide_eq_true (by omega)) (aG (decide_eq_true (by omega)) ?_)))))
   refine cG _ (by have:=Z191.aj (a0:=a0.getD i 0) (a1:=a0.getD (i+1) 0) trivial;rw [Z191.br] at this;exact this) (aG (gC (by omega)) ?_)
   rw [List.map_append] at hn
   refine Eq.trans hn ?_
   rw [List.drop_eq_getElem_cons (by omega:i<a0.length),List.drop_eq_getElem_cons (by omega:i+1<a0.length),fH (by omega:i<a0.length),fH (by omega:i+1<a0.length)]
   simp only [Z29.up,List.append_assoc,List.cons_append,List.nil_append]
 have:=key a0.length 0 [] (by omega) (by simp)
 unfold start md Z29.md
 simpa using this
def af:cj 462 aM:=L1 38 (fun _=>3) cM dQ live step start mix az bn (cO Z191.af) Tryz.func462
def br (a0:List Int):md a0=Z29.md a0:=by
 unfold md Z29.md
 simp only [Z191.br]
end Z192
namespace Z193
inductive Pt where
 | p0 (a:aq)
 | p1 (a:aq)
def cM:Pt->List V
 | .p0 a=>[.sl none 3 a]
 | .p1 a=>[.own 0]
def dQ:Pt->List aK
 | .p0 a=>[]
 | .p1 a=>[.row 3 a]
def step (J:Pt->aD):Pt->aD
 | .p0 a=>(cond ((a.length:Int)>1) (call (Z192.R a) fun v1=>J (.p1 v1)) (cA ((0:Int)<(a.length:Int)) (ret ((jz a 0):Int))))
 | .p1 a=>(cond ((a.length:Int)>1) (call (Z192.R a) fun v1=>J (.p1 v1)) (cA ((0:Int)<(a.length:Int)) (ret ((jz a 0):Int))))
def start (J:Pt->aD)(x0:aq):aD:=(cond ((x0.length:Int)==0) (call (Z190.R [[L.int 229]]) fun v1=>ret v1) (J (.p0 x0)))
def live:Nat->Live:=gL [(3,[(0,none)])]
def md (a0:List Int):Int:=Z30.md a0
def gd (a0:List Int):Prop:=bg (2^38) (fun y:Int=>True) a0
def R:=RR gd md
def aj {a0}(h:gd a0):R (a0.map aV)=some (md a0):=cQ h
def aM:=CN [pL 3] oI RT.dec R
def bn (a0)(hg:gd a0):∃n,start (iter step n) (a0.map aV)=ret (md a0):=by
 have one:∀(l:List Int) (r:Int) (n:Nat),bg (2^38) (fun y:Int=>True) l->0<l.length->(if l.length>1 then iter step n (Pt.p1 ((Z29.up l).map aV))=ret r else ret (l.getD 0 0:Int)=ret r)->step (iter step n) (Pt.p0 (l.map aV))=ret r/\step (iter step n) (Pt.p1 (l.map aV))=ret r:=by
  intro l r n hl hp h
  simp only [step,List.length_map,iu]
  by_cases h1:l.length>1
  ·rw [if_pos h1] at h
   have hx:∀y:aD,(cond ((l.length:Int)>1) (call (Z192.R (l.map aV)) (fun v1=>iter step n (Pt.p1 v1))) y)=ret r:=fun y=>
    aG (decide_eq_true (by omega)) (cG _ (Z192.aj hl) h)
   exact ⟨hx _,hx _⟩
  ·rw [if_neg h1] at h
   have hx:∀y:aD,(cond ((l.length:Int)>1) y (cond ((0:Int)<(l.length:Int)) (ret (l.getD 0 0:Int)) none))=ret r:=fun y=>
    eH (decide_eq_false (by omega)) (aG (decide_eq_true (by omega)) h)
   exact ⟨hx _,hx _⟩
 have key:∀(k:Nat) (l:List Int),bg (2^38) (fun y:Int=>True) l->0<l.length->l.length<=k+1->∃n,step (iter step n) (Pt.p0 (l.map aV))=ret (Z30.top k l)/\step (iter step n) (Pt.p1 (l.map aV))=ret (Z30.top k l):=by
  intro k
  induction k with
  | zero=>
   intro l hl hp hk
   exact ⟨0,one l _ 0 hl hp (by rw [if_neg (by omega)];rfl)⟩
  | succ k ih=>
   intro l hl hp hk
   by_cases h1:l.length>1
   ·have hu:=Z29.lA l
    have hl1:=hl.1
    obtain ⟨n,_,hn⟩:=ih (Z29.up l) ⟨by omega,fun _ _=>trivial⟩ (by omega) (by omega)
    refine ⟨n+1,one l _ (n+1) hl hp ?_⟩
    rw [if_pos h1]
    refine Eq.trans hn ?_
    unfold Z30.top
    rw [if_pos h1]
    cases k<;>rfl
   ·refine ⟨0,one l _ 0 hl hp ?_⟩
    rw [if_neg h1]
    unfold Z30.top
    rw [if_neg h1]
 unfold md Z30.md
 unfold start
 simp only [List.length_map]
 by_cases h0:a0.length=0
 ·have e:((a0.length:Int)==0)=true:=by simpa using List.length_eq_zero_iff.1 h0
  refine ⟨0,?_⟩
  rw [e]
  refine cG _ (by have:=Z190.aj (a0:=[229]) ⟨by decide,fun _ _=>trivial⟩;rw [Z190.br] at this;exact this) ?_
  rw [if_pos h0]
 ·have e:((a0.length:Int)==0)=false:=beq_eq_false_iff_ne.2 (by omega)
  obtain ⟨n,hn,_⟩:=key a0.length a0 hg (by omega) (by omega)
  refine ⟨n+1,?_⟩
  rw [e,if_neg h0]
  exact hn
def af:cj 429 aM:=L1 16 (fun _=>3) cM dQ live step start mix az bn (fc Z190.af Z192.af) Tryz.func429
def br (a0:List Int):md a0=Z30.md a0:=by
 unfold md Z30.md
 simp only [Z190.br,Z192.br]
end Z193
namespace Z194
def F (x0 x1:Int):aD:=(call (Z190.R [[L.int 231],[L.int x0],[L.int x1]]) fun v1=>ret v1)
def md (a0 a1:Int):Int:=((Z190.md [231,a0,a1]))
def gd (a0 a1:Int):Prop:=True
def R:=cI gd md
def aj {a0 a1}(h:gd a0 a1):R (a0,a1)=some (md a0 a1):=cH h
def aM:=CN [pI,pI] oI RT.dec R
def bn (a0)(a1)(hg:gd a0 a1):F a0 a1=ret (md a0 a1):=cG _ (rq (Z190.aj (a0:=[231,a0,a1]) ⟨(om),fun _ _=>trivial⟩)) fz
def af:cj 378 aM:=W2 9 F mix az bn (cO Z190.af) Tryz.func378
def br (a0 a1:Int):md a0 a1=Z31.md a0 a1:=by
 unfold md Z31.md
 simp only [Z190.br]
end Z194
namespace Z195
def F (x0:aq):aD:=(call (Z189.R x0) fun v1=>(call (Z193.R v1) fun v2=>(call (Z194.R (x0.length,v2)) fun v3=>ret v3)))
def md (a0:List ah):Int:=((Z194.md a0.length (Z193.md (Z189.md a0))))
def gd (a0:List ah):Prop:=(bg (2^21) (fun y:ah=>ah.Sm (2^21) y) a0)
def R:=RR gd md
def aj {a0}(h:gd a0):R (a0.map ah.row)=some (md a0):=cQ h
def aM:=CN [pL 62] oI RT.dec R
def bn (a0)(H0:gd a0):F (a0.map ah.row)=ret (md a0):=by
 refine ct (Z189.aj H0) ?_
 simp only [SS]
 refine ct (Z193.aj ⟨(have:=Z189.len a0;have:=(H0).1;om),fun _ _=>trivial⟩) (ct (Z194.aj trivial) ?_)
 exact fz
def af:cj 379 aM:=W1 9 F mix az bn (jB Z189.af Z193.af Z194.af) Tryz.func379
def br (a0:List ah):md a0=Z32.md a0:=by
 unfold md Z32.md
 simp only [Z189.br,Z193.br,Z194.br]
end Z195
namespace Z196
def F (x0:Int)(x1:aq):aD:=(call (Z184.R x1) fun v1=>(cond v1 (call (Z195.R x1) fun v2=>ret ((v2==x0))) (ret false)))
def md (a0:Int)(a1:List ah):Bool:=(cond (Z184.md a1) (((Z195.md a1)==a0)) false)
def gd (a0:Int)(a1:List ah):Prop:=(bg (2^21) (fun y:ah=>ah.Sm (2^21) y) a1)
def R:=cI gd md
def aj {a0 a1}(h:gd a0 a1):R (a0,(a1.map ah.row))=some (md a0 a1):=cH h
def aM:=CN [pI,pL 62] oB RT.dec R
def bn (a0)(a1)(H1:gd a0 a1):F a0 (a1.map ah.row)=ret (md a0 a1):=by
 refine ct (Z184.aj H1) (bs (fun c1=>?_) (fun _=>rfl))
 exact ct (Z195.aj H1) fz
def af:cj 443 aM:=W2 13 F mix az bn (fc Z184.af Z195.af) Tryz.func443
def br (a0:Int)(a1:List ah):md a0 a1=Z62.md a0 a1:=by
 unfold md Z62.md
 simp only [Z184.br,Z195.br]
end Z196
namespace Z197
def F (x0:bU):aD:=(call (Z178.R x0.aC) fun v1=>(cond (!v1) (ret false) (call (Z179.R x0.aC) fun v2=>(cond (v2.bZ==x0.bI.length) (call (Z196.R (v2.dx,x0.bI)) fun v3=>ret v3) (ret false)))))
def md (a0:aH):Bool:=(cond (!(Z178.md a0.aC)) false (cond ((Z179.md a0.aC).bZ==a0.bI.length) ((Z196.md ((Z179.md a0.aC).dx) a0.bI)) false))
def gd (a0:aH):Prop:=(aH.Sm (2^21) a0)
def R:=RR gd md
def aj {a0}(h:gd a0):R (aH.r a0)=some (md a0):=cQ h
def aM:=CN [.agg tc] oB RT.dec R
def bn (a0)(H0:gd a0):F (aH.r a0)=ret (md a0):=by
 refine ct (Z178.aj H0.1) (bs (fun _=>rfl) (fun c1=>?_))
 have tc1:=Z178.tr (by simpa using c1)
 refine ct (Z179.aj ⟨H0.1,om⟩) ?_
 simp only [SS]
 refine bs (fun c2=>?_) (fun _=>rfl)
 exact ct (Z196.aj H0.2) fz
def af:cj 406 aM:=W1 24 F mix az bn (jB Z178.af Z179.af Z196.af) Tryz.func406
def tr {a0:aH}(h:md a0=true):1<=a0.aC.length:=by
 unfold md at h
 cases hc:Z178.md a0.aC
 ·rw [hc] at h;cases h
 ·exact (Z178.tr hc).1
def br (a0:aH):md a0=Z63.md a0:=by
 unfold md Z63.md
 rw [Z178.br,Z196.br]
 unfold Z179.md Z61.md
 cases h:Z60.md a0.aC
 ·rfl
 ·rfl
end Z197
namespace Z198
def F (x0:bU):aD:=(call (Z197.R x0) fun v1=>(cond (!v1) mV (call (Z179.R x0.aC) fun v2=>ret v2.aX)))
def md (a0:aH):Int:=(cond (!(Z197.md a0)) ((-1):Int) ((Z179.md a0.aC).aX))
def gd (a0:aH):Prop:=(aH.Sm (2^21) a0)
def R:=RR gd md
def aj {a0}(h:gd a0):R (aH.r a0)=some (md a0):=cQ h
def aM:=CN [.agg tc] oI RT.dec R
def bn (a0)(H0:gd a0):F (aH.r a0)=ret (md a0):=by
 refine ct (Z197.aj H0) (bs (fun _=>rfl) (fun c1=>?_))
 have tc1:=Z197.tr (by simpa using c1)
 exact ct (Z179.aj ⟨H0.1,om⟩) fz
def af:cj 405 aM:=W1 10 F mix az bn (fc Z197.af Z179.af) Tryz.func405
def br (a0:aH):md a0=Z64.md a0:=by
 unfold md Z64.md
 rw [Z197.br]
 cases h:Z63.md a0
 ·rfl
 ·have h2:Z60.md a0.aC=true:=by
   unfold Z63.md Z61.md at h
   cases hc:Z60.md a0.aC
   ·rw [hc] at h;cases h
   ·rfl
  unfold Z179.md Z61.md
  rw [h2]
  rfl
end Z198
namespace Z199
def F (x0:bU)(x1:List L):aD:=(call (Z198.R x0) fun v1=>ret ((v1==(gN x1))))
def pats:List fF:=[.agg [.sl 53,.sl 62],.ptr [aE]]
def res:RP:=.one (.rd (.bool))
def md (a0:aH)(a1:Int):Bool:=(((Z198.md a0)==a1))
def gd (a0:aH)(a1:Int):Prop:=(aH.Sm (2^21) a0)
def acc (ls:List L):bU×Int:=((bU.dec ls),(gN (ck 1 (bA 2 ls))))
def R:(bU×Int)->Option Bool:=cI gd md
def aj {a0 a1}(h:gd a0 a1):R ((aH.r a0),a1)=some (md a0 a1):=cH h
def aM:gj:=CN pats res acc R
def bn (a0:aH)(a1:Int)(p1:List L)(e1:a1=(gN p1))(H0:gd a0 a1):F (aH.r a0) p1=ret ((md a0 a1):Bool):=by
 unfold F md
 simp only [SS,<-e1]
 exact ct (Z198.aj H0) fz
def qH (ls:List L)(a:aH×Int)(e:acc ls=Im.im a)(hg:(p2 gd) a):∃n:Nat,F (bU.dec ls) (ck 1 (bA 2 ls))=ret (Im.im ((u2 md) a)):=by
 have e0:(aH.r a.1)=(bU.dec ls):=(congrArg (fun x=>x.1) e.symm)
 have hn:=bn a.1 a.2 (ck 1 (bA 2 ls)) (congrArg (fun x=>x.2) e.symm) hg
 refine ⟨0,?_⟩
 rw [<-e0]
 exact hn
def af:cj 404 aM:=VP (live:=fun _=>[]) (nt:=8) (accr:=fun ls=>((bU.dec ls),(ck 1 (bA 2 ls)))) (run:=fun _ x=>F x.1 x.2) mix az (cO Z198.af) Tryz.func404 (by kernel_rfl) (fun _ _=>by kernel_rfl) (fun ls a _ e hg=>qH ls a e hg)
end Z199
namespace Z200
inductive Pt where
 | p0 (a:aq) (b:List L) (c d:Int)
def pid:Pt->Nat
 | .p0 ..=>2
def cM:Pt->List V
 | .p0 a b c d=>[.sl none 188 a,.fn 404 [.cS none [aE] b 0],.int .i64 c,.int .i64 d]
def dQ:Pt->List aK
 | .p0 a b c d=>[]
def step (J:Pt->aD):Pt->aD
 | .p0 a b c d=>(cond (d<c) (m2 d (a.length:Int) (call (Z199.R ((bU.at a (toNat d)),(gN b))) fun v1=>(cond v1 (ret (d:Int)) (J (.p0 a b c (i64.wrap (d+1))))))) mV)
def start (J:Pt->aD)(x0:aq)(x1:List L):aD:=J (.p0 x0 x1 x0.length 0)
def live:Nat->Live:=gL [(2,jC [0,1,7,8])]
def pats:List fF:=[.rd (.sl 188),.fn 404 [[aE]]]
def res:RP:=.one (.rd (.int .i64))
abbrev E:Env:={ T:=assoc mC,G:=cZ [(404,Z199.aM)],nt:=19 }
def step_eq (I:dD)(p:Pt):dU E live I (pid p) (bL Tryz.f403) (iT (live (pid p)) (cM p) (dQ p)) (dA E Tryz.f403 res)=step (fun q=>I (pid q) (cM q) (dQ q)) p:=by
 cases p<;>kernel_rfl
def start_eq (I:dD)(ls:List L):gO E live I (bL Tryz.f403) (dJ pats ls) (dA E Tryz.f403 res)=start (fun q=>I (pid q) (cM q) (dQ q)) (eU ls) (ck 1 (bA 1 ls)):=by kernel_rfl
def run_eq (n:Nat)(ls:List L):eY E live Tryz.f403 res n (dJ pats ls)=start (iter step n) (eU ls) (ck 1 (bA 1 ls)):=dI (id:=pid) (vs:=cM) (hs:=dQ) (step:=step) (start:=fun J=>start J (eU ls) (ck 1 (bA 1 ls))) step_eq (fun I=>start_eq I ls) n
def md (a0:List aH)(a1:Int):Int:=(dY (S:=Unit) (β:=Int) (fun i1 y1 s3=>(cond (Z199.md y1 a1) (.inr (i1)) (.inl ()))) (fun s3=>((-1):Int)) 0 a0 ())
def gd (a0:List aH)(a1:Int):Prop:=(bg (2^21) (fun y:aH=>aH.Sm (2^21) y) a0)
def acc (ls:List L):aq×Int:=((eU ls),(gN (ck 1 (bA 1 ls))))
def R:(aq×Int)->Option Int:=cI gd md
def aj {a0 a1}(h:gd a0 a1):R ((a0.map aH.row),a1)=some (md a0 a1):=cH h
def aM:gj:=CN pats res acc R
def bn (a0:List aH)(a1:Int)(p1:List L)(e1:a1=(gN p1))(H0:gd a0 a1):∃n,start (iter step n) (a0.map aH.row) p1=ret ((md a0 a1):Int):=by
 have Bh2:=bl H0
 refine ex_eq (cK (z:=aH.zero)) (dy (p:=Pt.p0 (a0.map aH.row) p1 (a0.length:Int) 0) fz ?_)
 refine bH (pt:=fun (i1:Nat) (s3:Unit)=>Pt.p0 (a0.map aH.row) p1 (a0.length:Int) (i1:Int)) (fun _ _=>True) (fun J i1 s3 h2 hih2=>?_) (fun s3 hih2=>?_) trivial
 ·simp only [step,SS,<-e1]
  refine aP.yes dt (aP.yes bB ?_)
  refine aP.yes (bQ h2) (cr (Z199.aj (bg.getD H0 h2)) ?_)
  refine aP.bif (fun c4=>aP.inr fz) (fun c4=>?_)
  refine aP.inl trivial ?_
  rw [aF h2 Bh2]
 ·simp only [step,SS,<-e1]
  refine cL dn (⟨0,?_⟩)
  exact fz
def qH (ls:List L)(a:List aH×Int)(e:acc ls=Im.im a)(hg:(p2 gd) a):∃n:Nat,start (iter step n) ((eU ls)) (ck 1 (bA 1 ls))=ret (Im.im ((u2 md) a)):=by
 have e0:(a.1.map aH.row)=(eU ls):=(congrArg (fun x=>x.1) e.symm)
 obtain ⟨n,hn⟩:=bn a.1 a.2 (ck 1 (bA 1 ls)) (congrArg (fun x=>x.2) e.symm) hg
 refine ⟨n,?_⟩
 rw [<-e0]
 exact hn
def af:cj 403 aM:=VP (accr:=fun ls=>((eU ls),(ck 1 (bA 1 ls)))) (run:=fun n x=>start (iter step n) x.1 x.2) mix az (cO Z199.af) Tryz.func403 (by kernel_rfl) run_eq (fun ls a _ e hg=>qH ls a e hg)
def fa (a0:List aH)(a1:Int):-1<=md a0 a1/\md a0 a1<(a0.length:Int):=by
 refine jV ?_ _ _
 all_goals
  intro i x s b h
  revert h
  simp only [Bool.cond_eq_ite]
  repeat' split
  all_goals (intro h;first | (cases h;rfl) | cases h)
def idx_eq (a0:List aH)(a1:Int):md a0 a1=iD (fun y=>Z199.md y a1) 0 a0:=jg
end Z200
end Go.DM
end
