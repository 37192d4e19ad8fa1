/- What the functions compute that the law reaches, and that the law returns true. Conditions: none. -/
import Derived.Test.YtgagkddebgbdmaaGreatCanResolveTy
import Derived.Test.YtgagkddebgbdmaaGreatCanResolveFnB
set_option linter.all false
set_option maxRecDepth 100000
noncomputable section
namespace Go.DM
open Go.Proofs
open Go.IntKind (i64)
open Int (toNat)
open Nat (le_trans zero_le)
namespace Z207
inductive Pt where
 | p0 (a:aF) (b c:Int) (d:aF)
def pid:Pt->Nat
 | .p0 ..=>3
def cQ:Pt->List V
 | .p0 a b c d=>[.own 0,.sl none 38 a,.int .i64 b,.int .i64 c]
def cR:Pt->List aS
 | .p0 a b c d=>[.row 3 d]
def step (J:Pt->aH):Pt->aH
 | .p0 a b c d=>(cond (decide (c<b)) (m2 c (a.length:Int) (call (Z206.R (aW.at a (toNat c))) fun v1=>(cK (eO (((d.length:Int)+1)*8)) (J (.p0 a b (i64.wrap (c+1)) (d++[[L.int v1]])))))) (ret (d:aF)))
def start (J:Pt->aH)(x0:aF):aH:=J (.p0 x0 (x0.length:Int) 0 [])
def live:Nat->Live:=fun i=>match i with | 3=>[(3,some 3),(7,none),(8,none),(9,none)] | _=>[]
def md (a0:List ah):List Int:=(a0.map (fun (y1:ah)=>(Z206.md y1)))
def gd (a0:List ah):Prop:=(bI (2^21) (fun y:ah=>ah.Sm (2^21) y) a0)
def R:=RR gd md
def ak {a0}(h:gd a0):R (a0.map ah.row)=some ((md a0).map bn):=aM (a:=a0) h
def aV:=CN [pL 38] (oL 3) RT.dec R
def bp (a0)(hg:gd a0):∃n,start (iter step n) (a0.map ah.row)=ret ((md a0).map bn):=by
 unfold gd at hg
 have H0:=hg
 unfold start md
 try simp only [SS]
 have Bh2:a0.length<=maxLen:=(by
   have:=(H0).1
   try simp only [maxLen] at *
   omega)
 refine ex_eq (out:=(fun b:List Int=>ret ((b.map bn):aF))) (mX (g:=fun (y1:ah)=>(Z206.md y1)) (z:=ah.zero) (t:=fun (s3:List Int)=>s3)) ?_
 refine dG (p:=Pt.p0 (a0.map ah.row) (a0.length:Int) 0 ([].map bn)) fz ?_
 refine bU (pt:=fun (i1:Nat) (s3:List Int)=>Pt.p0 (a0.map ah.row) (a0.length:Int) (i1:Int) (s3.map bn)) (s:=([]:List Int)) (out:=(fun b:List Int=>ret ((b.map bn):aF))) (fun (i1:Nat) (s3:List Int)=>s3.length<=([]:List Int).length+1*i1) (fun J i1 s3 h2 hih2=>?_) (fun s3 hih2=>?_) (by simp)
 ·simp only [step,SS]
  have gr_:=hih2
  try simp only [LN] at gr_
  have bb_:=Bh2
  simp only [maxLen] at bb_
  have:=(H0).1
  refine bk.yes (by apply decide_eq_true;omega) ?_
  refine bk.yes bE ?_
  refine bk.yes (bM h2) ?_
  refine cr (Z206.ak (bI.getD (z:=ah.zero) H0 h2)) ?_
  refine bk.yes lm ?_
  refine bk.inl (by
    have g_:=hih2
    try simp only [LN] at g_ ⊢
    first | omega | (simp;done) | (simp;omega)) ?_
  rw [aJ h2 Bh2]
  all_goals exact fz
 ·simp only [step,SS]
  have gr_:=hih2
  try simp only [LN] at gr_
  have:=(H0).1
  refine cY (by apply decide_eq_false;omega) ?_
  refine ⟨0,?_⟩
  all_goals exact fz
def af:cq 299 aV:=L1 20 pid cQ cR live step start mix aD bp (.cons Z206.af .nil) Tryz.func299
def len (a0:List ah):(md a0).length=a0.length:=by simp [md]
def br (a0:List ah):md a0=Z87.md a0:=by
 unfold md Z87.md
 first
 | (simp only [Z206.br];done)
 | (simp only [Z206.br];rfl)
 | rfl
end Z207
namespace Z208
def F (x0:aF):aH:=(call (Z169.R x0) fun v1=>ret (v1:Int))
def md (a0:List Int):Int:=((Z169.md a0):Int)
def gd (a0:List Int):Prop:=(bI (2^42) (fun y:Int=>True) a0)
def R:=RR gd md
def ak {a0}(h:gd a0):R (a0.map bn)=some (md a0):=aM (a:=a0) h
def aV:=CN [pL 3] oI RT.dec R
def bp (a0)(hg:gd a0):F (a0.map bn)=ret (md a0):=by
 unfold gd at hg
 have H0:=hg
 unfold F md
 try simp only [SS]
 refine ct (Z169.ak (H0.mono (by decide) (fun x hx=>trivial))) ?_
 all_goals exact fz
def af:cq 318 aV:=W1 5 F mix aD bp (.cons Z169.af .nil) Tryz.func318
def br (a0:List Int):md a0=Z59.md a0:=by
 unfold md
 exact Z169.br a0
end Z208
namespace Z209
def F (x0 x1:Int):aH:=(call (Z208.R [[L.int 229],[L.int x0],[L.int x1]]) fun v1=>ret (v1:Int))
def md (a0 a1:Int):Int:=((Z208.md [229,a0,a1]):Int)
def gd (a0 a1:Int):Prop:=True
def R:=RR (p2 gd) (u2 md)
def ak {a0 a1}(h:gd a0 a1):R (a0,a1)=some (md a0 a1):=aM (a:=(a0,a1)) h
def aV:=CN [pI,pI] oI RT.dec R
def bp (a0)(a1)(hg:gd a0 a1):F a0 a1=ret (md a0 a1):=by
 unfold F md
 try simp only [SS]
 refine cF (Z208.md [229,a0,a1]) (rq (Z208.ak (a0:=[229,a0,a1]) ⟨(om),fun _ _=>trivial⟩)) ?_
 all_goals exact fz
def af:cq 315 aV:=W2 9 F mix aD bp (.cons Z208.af .nil) Tryz.func315
def br (a0 a1:Int):md a0 a1=Z88.md a0 a1:=by
 unfold md Z88.md
 first
 | (simp only [Z208.br];done)
 | (simp only [Z208.br];rfl)
 | rfl
end Z209
namespace Z210
inductive Pt where
 | p0 (a:aF) (b:Int) (c:aF)
def pid:Pt->Nat
 | .p0 ..=>3
def cQ:Pt->List V
 | .p0 a b c=>[.sl none 3 a,.own 0,.int .i64 b]
def cR:Pt->List aS
 | .p0 a b c=>[.row 3 c]
def step (J:Pt->aH):Pt->aH
 | .p0 a b c=>(cond (decide (b<(a.length:Int))) (cond (decide ((i64.wrap (b+1))<(a.length:Int))) (m2 b (a.length:Int) (cK (decide ((0:Int)<=(i64.wrap (b+1)))) (cK (decide ((i64.wrap (b+1))<(a.length:Int))) (call (Z209.R ((jo a (toNat b)),(jo a (toNat (i64.wrap (b+1)))))) fun v1=>(cK (eO (((c.length:Int)+1)*8)) (J (.p0 a (i64.wrap (b+2)) (c++[[L.int v1]])))))))) (m2 b (a.length:Int) (cK (eO (((c.length:Int)+1)*8)) (J (.p0 a (i64.wrap (b+2)) (c++[[L.int (jo a (toNat b))]])))))) (ret (c:aF)))
def start (J:Pt->aH)(x0:aF):aH:=J (.p0 x0 0 [])
def live:Nat->Live:=fun i=>match i with | 3=>[(0,none),(3,some 3),(4,none)] | _=>[]
def md (a0:List Int):List Int:=Z89.md a0
def gd (a0:List Int):Prop:=bI (2^38) (fun y:Int=>True) a0
def R:=RR gd md
def ak {a0}(h:gd a0):R (a0.map bn)=some ((md a0).map bn):=aM (a:=a0) h
def aV:=CN [pL 3] (oL 3) RT.dec R
def bp (a0)(hg:gd a0):∃n,start (iter step n) (a0.map bn)=ret ((md a0).map bn):=by
 obtain ⟨H1,_⟩:=hg
 have key:∀(k i:Nat) (c:List Int),i+k=a0.length->c.length<=i->∃n,iter step n (Pt.p0 (a0.map bn) (i:Int) (c.map bn))=ret ((c++Z89.up (a0.drop i)).map bn:aF):=by
  intro k
  induction k using Nat.strongRecOn with
  | _ k ih=>
  intro i c hi hc
  match k,hi,ih with
  | 0,hi,_=>
   refine ⟨1,?_⟩
   show step (iter step 0) (Pt.p0 _ _ _)=_
   simp only [step,List.length_map]
   refine eE (decide_eq_false (by omega)) ?_
   rw [List.drop_eq_nil_of_le (by omega)]
   simp only [Z89.up,List.append_nil]
  | 1,hi,ih=>
   obtain ⟨n,hn⟩:=ih 0 (by omega) (i+1) (c++[a0.getD i 0]) (by omega) (by simp;omega)
   have h2:∃n,iter step n (Pt.p0 (a0.map bn) (i64.wrap ((i:Int)+2)) ((c++[a0.getD i 0]).map bn))=ret ((c++[a0.getD i 0]).map bn:aF):=by
    refine ⟨1,?_⟩
    show step (iter step 0) (Pt.p0 _ _ _)=_
    simp only [step,List.length_map]
    refine eE (decide_eq_false ?_) rfl
    rw [Go.IntWalk.i64_in _ (by omega)];omega
   obtain ⟨n,hn⟩:=h2
   refine ⟨n+1,?_⟩
   show step (iter step n) (Pt.p0 _ _ _)=_
   simp only [step,List.length_map,cP,gG]
   refine aN (decide_eq_true (by omega)) (eE (decide_eq_false ?_) (aN (decide_eq_true (by omega)) (aN (decide_eq_true (by omega)) (aN (gX (by omega)) ?_))))
   ·rw [Go.IntWalk.i64_in _ (by omega)];omega
   ·rw [List.map_append] at hn
    refine Eq.trans hn ?_
    rw [List.drop_eq_getElem_cons (by omega),List.drop_eq_nil_of_le (by omega),eU (by omega:i<a0.length)]
    simp only [Z89.up,List.map_append]
  | k+2,hi,ih=>
   obtain ⟨n,hn⟩:=ih k (by omega) (i+2) (c++[Z88.md (a0.getD i 0) (a0.getD (i+1) 0)]) (by omega) (by simp;omega)
   refine ⟨n+1,?_⟩
   show step (iter step n) (Pt.p0 _ _ _)=_
   have w1:i64.wrap ((i:Int)+1)=((i+1:Nat):Int):=by rw [Go.IntWalk.i64_in _ (by omega)];omega
   have w2:i64.wrap ((i:Int)+2)=((i+2:Nat):Int):=by rw [Go.IntWalk.i64_in _ (by omega)];omega
   simp only [step,List.length_map,w1,w2,cP,gG]
   refine aN (decide_eq_true (by omega)) (aN (decide_eq_true (by omega)) (aN (decide_eq_true (by omega)) (aN (decide_eq_true (by omega)) (aN (decide_eq_true (by omega)) (aN (decide_eq_true (by omega)) ?_)))))
   refine cF (Z88.md (a0.getD i 0) (a0.getD (i+1) 0)) (by have:=Z209.ak (a0:=a0.getD i 0) (a1:=a0.getD (i+1) 0) trivial;rw [Z209.br] at this;exact this) (aN (gX (by omega)) ?_)
   rw [List.map_append] at hn
   refine Eq.trans hn ?_
   rw [List.drop_eq_getElem_cons (by omega:i<a0.length),List.drop_eq_getElem_cons (by omega:i+1<a0.length),eU (by omega:i<a0.length),eU (by omega:i+1<a0.length)]
   simp only [Z89.up,List.append_assoc,List.cons_append,List.nil_append]
 have:=key a0.length 0 [] (by omega) (by simp)
 unfold start md Z89.md
 simpa using this
def af:cq 334 aV:=L1 38 pid cQ cR live step start mix aD bp (.cons Z209.af .nil) Tryz.func334
def br (a0:List Int):md a0=Z89.md a0:=by
 unfold md Z89.md
 first
 | (simp only [Z209.br];done)
 | (simp only [Z209.br];rfl)
 | rfl
end Z210
namespace Z211
inductive Pt where
 | p0 (a:aF)
 | p1 (a:aF)
def pid:Pt->Nat
 | .p0 ..=>3
 | .p1 ..=>3
def cQ:Pt->List V
 | .p0 a=>[.sl none 3 a]
 | .p1 a=>[.own 0]
def cR:Pt->List aS
 | .p0 a=>[]
 | .p1 a=>[.row 3 a]
def step (J:Pt->aH):Pt->aH
 | .p0 a=>(cond (decide ((a.length:Int)>1)) (call (Z210.R a) fun v1=>J (.p1 v1)) (cK (decide ((0:Int)<(a.length:Int))) (ret ((jo a 0):Int))))
 | .p1 a=>(cond (decide ((a.length:Int)>1)) (call (Z210.R a) fun v1=>J (.p1 v1)) (cK (decide ((0:Int)<(a.length:Int))) (ret ((jo a 0):Int))))
def start (J:Pt->aH)(x0:aF):aH:=(cond ((x0.length:Int)==0) (call (Z208.R [[L.int 229]]) fun v1=>ret (v1:Int)) (J (.p0 x0)))
def live:Nat->Live:=fun i=>match i with | 3=>[(0,none)] | _=>[]
def md (a0:List Int):Int:=Z90.md a0
def gd (a0:List Int):Prop:=bI (2^38) (fun y:Int=>True) a0
def R:=RR gd md
def ak {a0}(h:gd a0):R (a0.map bn)=some (md a0):=aM (a:=a0) h
def aV:=CN [pL 3] oI RT.dec R
def bp (a0)(hg:gd a0):∃n,start (iter step n) (a0.map bn)=ret (md a0):=by
 have one:∀(l:List Int) (r:Int) (n:Nat),bI (2^38) (fun y:Int=>True) l->0<l.length->(if l.length>1 then iter step n (Pt.p1 ((Z89.up l).map bn))=ret r else ret (l.getD 0 0:Int)=ret r)->step (iter step n) (Pt.p0 (l.map bn))=ret r/\step (iter step n) (Pt.p1 (l.map bn))=ret r:=by
  intro l r n hl hp h
  simp only [step,List.length_map,gG]
  by_cases h1:l.length>1
  ·rw [if_pos h1] at h
   have hx:∀y:aH,(cond (decide ((l.length:Int)>1)) (call (Z210.R (l.map bn)) (fun v1=>iter step n (Pt.p1 v1))) y)=ret r:=fun y=>
    aN (decide_eq_true (by omega)) (cF ((Z89.up l).map bn) (Z210.ak hl) h)
   exact ⟨hx _,hx _⟩
  ·rw [if_neg h1] at h
   have hx:∀y:aH,(cond (decide ((l.length:Int)>1)) y (cond (decide ((0:Int)<(l.length:Int))) (ret (l.getD 0 0:Int)) none))=ret r:=fun y=>
    eE (decide_eq_false (by omega)) (aN (decide_eq_true (by omega)) h)
   exact ⟨hx _,hx _⟩
 have key:∀(k:Nat) (l:List Int),bI (2^38) (fun y:Int=>True) l->0<l.length->l.length<=k+1->∃n,step (iter step n) (Pt.p0 (l.map bn))=ret (Z90.top k l)/\step (iter step n) (Pt.p1 (l.map bn))=ret (Z90.top k l):=by
  intro k
  induction k with
  | zero=>
   intro l hl hp hk
   exact ⟨0,one l _ 0 hl hp (by rw [if_neg (by omega)];rfl)⟩
  | succ k ih=>
   intro l hl hp hk
   by_cases h1:l.length>1
   ·have hu:=Z89.jU l
    have hl1:=hl.1
    obtain ⟨n,_,hn⟩:=ih (Z89.up l) ⟨by omega,fun _ _=>trivial⟩ (by omega) (by omega)
    refine ⟨n+1,one l _ (n+1) hl hp ?_⟩
    rw [if_pos h1]
    refine Eq.trans hn ?_
    unfold Z90.top
    rw [if_pos h1]
    cases k<;>rfl
   ·refine ⟨0,one l _ 0 hl hp ?_⟩
    rw [if_neg h1]
    unfold Z90.top
    rw [if_neg h1]
 unfold md Z90.md
 unfold start
 simp only [List.length_map]
 by_cases h0:a0.length=0
 ·have e:((a0.length:Int)==0)=true:=by simpa using List.length_eq_zero_iff.1 h0
  refine ⟨0,?_⟩
  rw [e]
  refine cF (Z59.md [229]) (by have:=Z208.ak (a0:=[229]) ⟨by decide,fun _ _=>trivial⟩;rw [Z208.br] at this;exact this) ?_
  rw [if_pos h0]
 ·have e:((a0.length:Int)==0)=false:=beq_eq_false_iff_ne.2 (by omega)
  obtain ⟨n,hn,_⟩:=key a0.length a0 hg (by omega) (by omega)
  refine ⟨n+1,?_⟩
  rw [e,if_neg h0]
  exact hn
def af:cq 321 aV:=L1 16 pid cQ cR live step start mix aD bp (.cons Z208.af (.cons Z210.af .nil)) Tryz.func321
def br (a0:List Int):md a0=Z90.md a0:=by
 unfold md Z90.md
 first
 | (simp only [Z208.br,Z210.br];done)
 | (simp only [Z208.br,Z210.br];rfl)
 | rfl
end Z211
namespace Z212
def F (x0 x1:Int):aH:=(call (Z208.R [[L.int 231],[L.int x0],[L.int x1]]) fun v1=>ret (v1:Int))
def md (a0 a1:Int):Int:=((Z208.md [231,a0,a1]):Int)
def gd (a0 a1:Int):Prop:=True
def R:=RR (p2 gd) (u2 md)
def ak {a0 a1}(h:gd a0 a1):R (a0,a1)=some (md a0 a1):=aM (a:=(a0,a1)) h
def aV:=CN [pI,pI] oI RT.dec R
def bp (a0)(a1)(hg:gd a0 a1):F a0 a1=ret (md a0 a1):=by
 unfold F md
 try simp only [SS]
 refine cF (Z208.md [231,a0,a1]) (rq (Z208.ak (a0:=[231,a0,a1]) ⟨(om),fun _ _=>trivial⟩)) ?_
 all_goals exact fz
def af:cq 269 aV:=W2 9 F mix aD bp (.cons Z208.af .nil) Tryz.func269
def br (a0 a1:Int):md a0 a1=Z91.md a0 a1:=by
 unfold md Z91.md
 first
 | (simp only [Z208.br];done)
 | (simp only [Z208.br];rfl)
 | rfl
end Z212
namespace Z213
def F (x0:aF):aH:=(call (Z207.R x0) fun v1=>(call (Z211.R v1) fun v2=>(call (Z212.R ((x0.length:Int),v2)) fun v3=>ret (v3:Int))))
def md (a0:List ah):Int:=((Z212.md (a0.length:Int) (Z211.md (Z207.md a0))):Int)
def gd (a0:List ah):Prop:=(bI (2^21) (fun y:ah=>ah.Sm (2^21) y) a0)
def R:=RR gd md
def ak {a0}(h:gd a0):R (a0.map ah.row)=some (md a0):=aM (a:=a0) h
def aV:=CN [pL 38] oI RT.dec R
def bp (a0)(hg:gd a0):F (a0.map ah.row)=ret (md a0):=by
 unfold gd at hg
 have H0:=hg
 unfold F md
 try simp only [SS]
 refine ct (Z207.ak H0) ?_
 try simp only [SS]
 refine ct (Z211.ak ⟨(have:=Z207.len a0;have:=(H0).1;om),fun _ _=>trivial⟩) ?_
 refine ct (Z212.ak trivial) ?_
 all_goals exact fz
def af:cq 272 aV:=W1 9 F mix aD bp (.cons Z207.af (.cons Z211.af (.cons Z212.af .nil))) Tryz.func272
def br (a0:List ah):md a0=Z92.md a0:=by
 unfold md Z92.md
 first
 | (simp only [Z207.br,Z211.br,Z212.br];done)
 | (simp only [Z207.br,Z211.br,Z212.br];rfl)
 | rfl
end Z213
namespace Z214
def F (x0:Int)(x1:aF):aH:=(call (Z202.R x1) fun v1=>(cond v1 (call (Z213.R x1) fun v2=>ret ((v2==x0):Bool)) bf))
def md (a0:Int)(a1:List ah):Bool:=(cond (Z202.md a1) (((Z213.md a1)==a0):Bool) (false:Bool))
def gd (a0:Int)(a1:List ah):Prop:=(bI (2^21) (fun y:ah=>ah.Sm (2^21) y) a1)
def R:=RR (p2 gd) (u2 md)
def ak {a0 a1}(h:gd a0 a1):R (a0,(a1.map ah.row))=some (md a0 a1):=aM (a:=(a0,a1)) h
def aV:=CN [pI,pL 38] oB RT.dec R
def bp (a0)(a1)(hg:gd a0 a1):F a0 (a1.map ah.row)=ret (md a0 a1):=by
 unfold gd at hg
 have H1:=hg
 unfold F md
 try simp only [SS]
 refine ct (Z202.ak H1) ?_
 refine aq ret (fun c1=>?_) (fun _=>rfl)
 refine ct (Z213.ak H1) ?_
 all_goals exact fz
def af:cq 295 aV:=W2 13 F mix aD bp (.cons Z202.af (.cons Z213.af .nil)) Tryz.func295
def br (a0:Int)(a1:List ah):md a0 a1=Z93.md a0 a1:=by
 unfold md Z93.md
 first
 | (simp only [Z202.br,Z213.br];done)
 | (simp only [Z202.br,Z213.br];rfl)
 | rfl
end Z214
namespace Z215
def F (x0:eV):aH:=(call (Z196.R x0.aP) fun v1=>(cond (!v1) bf (call (Z197.R x0.aP) fun v2=>(cond (v2.cB==(x0.cz.length:Int)) (call (Z214.R (v2.dg,x0.cz)) fun v3=>ret (v3:Bool)) bf))))
def md (a0:bA):Bool:=(cond (!(Z196.md a0.aP)) (false:Bool) (cond ((Z197.md a0.aP).cB==(a0.cz.length:Int)) ((Z214.md ((Z197.md a0.aP).dg) a0.cz):Bool) (false:Bool)))
def gd (a0:bA):Prop:=(bA.Sm (2^21) a0)
def R:=RR gd md
def ak {a0}(h:gd a0):R (bA.r a0)=some (md a0):=aM (a:=a0) h
def aV:=CN [.agg vI] oB RT.dec R
def bp (a0)(hg:gd a0):F (bA.r a0)=ret (md a0):=by
 unfold gd at hg
 have H0:=hg
 unfold F md
 try simp only [SS]
 refine ct (Z196.ak H0.1) ?_
 refine aq ret (fun _=>rfl) (fun c1=>?_)
 have dc1:=c1
 try simp only [DC] at dc1
 try have tc1:=Z196.tr (by simpa using c1)
 refine ct (Z197.ak ⟨H0.1,(by
   have:=(H0.1).1
   first | assumption | exact om)⟩) ?_
 try simp only [SS]
 refine aq ret (fun c2=>?_) (fun _=>rfl)
 refine ct (Z214.ak H0.2) ?_
 all_goals exact fz
def af:cq 246 aV:=W1 24 F mix aD bp (.cons Z196.af (.cons Z197.af (.cons Z214.af .nil))) Tryz.func246
def tr {a0:bA}(h:md a0=true):1<=a0.aP.length:=by
 unfold md at h
 cases hc:Z196.md a0.aP
 ·rw [hc] at h;cases h
 ·exact (Z196.tr hc).1
def br (a0:bA):md a0=Z94.md a0:=by
 unfold md Z94.md
 rw [Z196.br,Z214.br]
 unfold Z197.md Z79.md
 cases h:Z78.md a0.aP
 ·rfl
 ·rfl
end Z215
namespace Z216
def F (x0:eV):aH:=(call (Z215.R x0) fun v1=>(cond (!v1) (ret ((-1):Int)) (call (Z197.R x0.aP) fun v2=>ret (v2.bw:Int))))
def md (a0:bA):Int:=(cond (!(Z215.md a0)) ((-1):Int) ((Z197.md a0.aP).bw:Int))
def gd (a0:bA):Prop:=(bA.Sm (2^21) a0)
def R:=RR gd md
def ak {a0}(h:gd a0):R (bA.r a0)=some (md a0):=aM (a:=a0) h
def aV:=CN [.agg vI] oI RT.dec R
def bp (a0)(hg:gd a0):F (bA.r a0)=ret (md a0):=by
 unfold gd at hg
 have H0:=hg
 unfold F md
 try simp only [SS]
 refine ct (Z215.ak H0) ?_
 refine aq ret (fun _=>rfl) (fun c1=>?_)
 have dc1:=c1
 try simp only [DC] at dc1
 try have tc1:=Z215.tr (by simpa using c1)
 refine ct (Z197.ak ⟨H0.1,(by
   have:=(H0.1).1
   first | assumption | exact om)⟩) ?_
 try simp only [SS]
 all_goals exact fz
def af:cq 245 aV:=W1 10 F mix aD bp (.cons Z215.af (.cons Z197.af .nil)) Tryz.func245
def br (a0:bA):md a0=Z95.md a0:=by
 unfold md Z95.md
 rw [Z215.br]
 cases h:Z94.md a0
 ·rfl
 ·have h2:Z78.md a0.aP=true:=by
   unfold Z94.md Z79.md at h
   cases hc:Z78.md a0.aP
   ·rw [hc] at h;cases h
   ·rfl
  unfold Z197.md Z79.md
  rw [h2]
  rfl
end Z216
namespace Z217
def F (x0:eV)(x1:List L):aH:=(call (Z216.R x0) fun v1=>ret ((v1==(fH x1)):Bool))
def pats:List gF:=[.agg [.sl 178,.sl 38],.ptr [au]]
def res:RP:=.one (.rd (.bool))
def md (a0:bA)(a1:Int):Bool:=(((Z216.md a0)==a1):Bool)
def gd (a0:bA)(a1:Int):Prop:=(bA.Sm (2^21) a0)
def acc (ls:List L):eV×Int:=((eV.dec ls),(fH (cm 1 (av 2 ls))))
def R:(eV×Int)->Option Bool:=RR (p2 gd) (u2 md)
def ak {a0 a1}(h:gd a0 a1):R ((bA.r a0),a1)=some (md a0 a1):=aM (a:=(a0,a1)) h
def aV:gy:=CN pats res acc R
def bp (a0:bA)(a1:Int)(p1:List L)(e1:a1=(fH p1))(hg:gd a0 a1):F (bA.r a0) p1=ret ((md a0 a1):Bool):=by
 unfold gd at hg
 have H0:=hg
 unfold F md
 try simp only [SS,<-e1]
 refine ct (Z216.ak H0) ?_
 all_goals exact fz
def nu (ls:List L)(a:bA×Int)(e:acc ls=Im.im a)(hg:(p2 gd) a):∃n:Nat,F (eV.dec ls) (cm 1 (av 2 ls))=ret (Im.im ((u2 md) a)):=by
 have e0:(bA.r a.1)=(eV.dec ls):=(congrArg (fun x=>x.1) e.symm)
 have hn:=bp a.1 a.2 (cm 1 (av 2 ls)) (congrArg (fun x=>x.2) e.symm) hg
 refine ⟨0,?_⟩
 rw [<-e0]
 exact hn
def af:cq 244 aV:=VP (live:=fun _=>[]) (nt:=8) (accr:=fun ls=>((eV.dec ls),(cm 1 (av 2 ls)))) (run:=fun _ x=>F x.1 x.2) mix aD (.cons Z216.af .nil) Tryz.func244 (by kernel_rfl) (fun _ _=>by kernel_rfl) (fun ls a _ e hg=>nu ls a e hg)
end Z217
namespace Z218
inductive Pt where
 | p0 (a:aF) (b:List L) (c d:Int)
def pid:Pt->Nat
 | .p0 ..=>2
def cQ:Pt->List V
 | .p0 a b c d=>[.sl none 215 a,.fn 244 [.dc none [au] b 0],.int .i64 c,.int .i64 d]
def cR:Pt->List aS
 | .p0 a b c d=>[]
def step (J:Pt->aH):Pt->aH
 | .p0 a b c d=>(cond (decide (d<c)) (m2 d (a.length:Int) (call (Z217.R ((eV.at a (toNat d)),(fH b))) fun v1=>(cond v1 (ret (d:Int)) (J (.p0 a b c (i64.wrap (d+1))))))) (ret ((-1):Int)))
def start (J:Pt->aH)(x0:aF)(x1:List L):aH:=J (.p0 x0 x1 (x0.length:Int) 0)
def live:Nat->Live:=fun i=>match i with | 2=>[(0,none),(1,none),(7,none),(8,none)] | _=>[]
def pats:List gF:=[.rd (.sl 215),.fn 244 [[au]]]
def res:RP:=.one (.rd (.int .i64))
abbrev E:Env:={ T:=assoc rE,G:=dP [(244,Z217.aV)],nt:=19 }
def step_eq (I:dH)(p:Pt):dU E live I (pid p) (ck Tryz.f243) (ij (live (pid p)) (cQ p) (cR p)) (dD E Tryz.f243 res)=step (fun q=>I (pid q) (cQ q) (cR q)) p:=by
 cases p<;>kernel_rfl
def start_eq (I:dH)(ls:List L):gn E live I (ck Tryz.f243) (dO pats ls) (dD E Tryz.f243 res)=start (fun q=>I (pid q) (cQ q) (cR q)) (ls.headD .hole).aY (cm 1 (av 1 ls)):=by kernel_rfl
def run_eq (n:Nat)(ls:List L):fY E live Tryz.f243 res n (dO pats ls)=start (iter step n) (ls.headD .hole).aY (cm 1 (av 1 ls)):=dL (id:=pid) (vs:=cQ) (hs:=cR) (step:=step) (start:=fun J=>start J (ls.headD .hole).aY (cm 1 (av 1 ls))) step_eq (fun I=>start_eq I ls) n
def md (a0:List bA)(a1:Int):Int:=(dF (S:=Unit) (β:=Int) (fun (i1:Nat) (y1:bA) (s3:Unit)=>(cond (Z217.md y1 a1) (.inr ((i1:Int):Int)) (.inl ()))) (fun (s3:Unit)=>((-1):Int)) 0 a0 ())
def gd (a0:List bA)(a1:Int):Prop:=(bI (2^21) (fun y:bA=>bA.Sm (2^21) y) a0)
def acc (ls:List L):aF×Int:=((ls.headD .hole).aY,(fH (cm 1 (av 1 ls))))
def R:(aF×Int)->Option Int:=RR (p2 gd) (u2 md)
def ak {a0 a1}(h:gd a0 a1):R ((a0.map bA.row),a1)=some (md a0 a1):=aM (a:=(a0,a1)) h
def aV:gy:=CN pats res acc R
def bp (a0:List bA)(a1:Int)(p1:List L)(e1:a1=(fH p1))(hg:gd a0 a1):∃n,start (iter step n) (a0.map bA.row) p1=ret ((md a0 a1):Int):=by
 unfold gd at hg
 have H0:=hg
 unfold start md
 try simp only [SS,<-e1]
 have Bh2:a0.length<=maxLen:=(by
   have:=(H0).1
   try simp only [maxLen] at *
   omega)
 refine ex_eq (out:=ret) (cH (z:=bA.zero)) ?_
 refine dG (p:=Pt.p0 (a0.map bA.row) p1 (a0.length:Int) 0) fz ?_
 refine bU (pt:=fun (i1:Nat) (s3:Unit)=>Pt.p0 (a0.map bA.row) p1 (a0.length:Int) (i1:Int)) (s:=(():Unit)) (out:=ret) (fun _ _=>True) (fun J i1 s3 h2 hih2=>?_) (fun s3 hih2=>?_) trivial
 ·simp only [step,SS,<-e1]
  have bb_:=Bh2
  simp only [maxLen] at bb_
  have:=(H0).1
  refine bk.yes (by apply decide_eq_true;omega) ?_
  refine bk.yes bE ?_
  refine bk.yes (bM h2) ?_
  refine cr (Z217.ak (bI.getD (z:=bA.zero) H0 h2)) ?_
  refine bk.bif (fun c4=>?_) (fun c4=>?_)
  ·refine bk.inr ?_
   all_goals exact fz
  ·refine bk.inl trivial ?_
   rw [aJ h2 Bh2]
   all_goals exact fz
 ·simp only [step,SS,<-e1]
  have:=(H0).1
  refine cY (by apply decide_eq_false;omega) ?_
  refine ⟨0,?_⟩
  all_goals exact fz
def nu (ls:List L)(a:List bA×Int)(e:acc ls=Im.im a)(hg:(p2 gd) a):∃n:Nat,start (iter step n) ((ls.headD .hole).aY) (cm 1 (av 1 ls))=ret (Im.im ((u2 md) a)):=by
 have e0:(a.1.map bA.row)=(ls.headD .hole).aY:=(congrArg (fun x=>x.1) e.symm)
 obtain ⟨n,hn⟩:=bp a.1 a.2 (cm 1 (av 1 ls)) (congrArg (fun x=>x.2) e.symm) hg
 refine ⟨n,?_⟩
 rw [<-e0]
 exact hn
def af:cq 243 aV:=VP (accr:=fun ls=>((ls.headD .hole).aY,(cm 1 (av 1 ls)))) (run:=fun n x=>start (iter step n) x.1 x.2) mix aD (.cons Z217.af .nil) Tryz.func243 (by kernel_rfl) run_eq (fun ls a _ e hg=>nu ls a e hg)
def fa (a0:List bA)(a1:Int):-1<=md a0 a1/\md a0 a1<(a0.length:Int):=by
 unfold md
 refine fF ?_ _ _
 all_goals
  intro i x s b h
  revert h
  simp only [Bool.cond_eq_ite]
  repeat' split
  all_goals (intro h;first | (cases h;rfl) | cases h)
def idx_eq (a0:List bA)(a1:Int):md a0 a1=iF (fun y=>Z217.md y a1) 0 a0:=by
 unfold md
 exact gv
end Z218
namespace Z219
def F (x0:dR)(x1:Int):aH:=(cond (decide (x1<0)) (ret ((-1):Int)) (call (Z218.R (x0.bY,x1)) fun v1=>ret (v1:Int)))
def md (a0:aR)(a1:Int):Int:=(cond (decide (a1<0)) ((-1):Int) ((Z218.md a0.bY a1):Int))
def gd (a0:aR)(a1:Int):Prop:=(aR.Sm (2^21) a0)
def R:=RR (p2 gd) (u2 md)
def ak {a0 a1}(h:gd a0 a1):R ((aR.r a0),a1)=some (md a0 a1):=aM (a:=(a0,a1)) h
def aV:=CN [.agg AD,pI] oI RT.dec R
def bp (a0)(a1)(hg:gd a0 a1):F (aR.r a0) a1=ret (md a0 a1):=by
 unfold gd at hg
 have H0:=hg
 unfold F md
 try simp only [SS]
 refine aq ret (fun _=>rfl) (fun c1=>?_)
 refine ct (Z218.ak H0) ?_
 have fv1_:=Z218.fa a0.bY a1
 all_goals exact fz
def af:cq 193 aV:=W2 11 F mix aD bp (.cons Z218.af .nil) Tryz.func193
def fa (a0:aR)(a1:Int):-1<=md a0 a1/\md a0 a1<(a0.bY.length:Int):=by
 unfold md
 have:=Z218.fa a0.bY a1
 cases decide (a1<0)
 ·exact this
 ·simp only [aZ];omega
def br (a0:aR)(a1:Int):md a0 a1=Z96.md a0 a1:=by
 unfold md Z96.md
 rw [Z218.idx_eq]
 rw [jA (p:=fun y=>(Z95.md y==a1)&&decide (a1>=0)) (fun i x s=>by cases (Z95.md x==a1)<;>cases decide (a1>=0)<;>rfl)]
 have e:(fun y=>Z217.md y a1)=fun y=>Z95.md y==a1:=by
  funext y
  unfold Z217.md
  rw [Z216.br]
 have key:∀(xs:List bA) (i:Nat),iF (fun _=>false) i xs=-1:=by
  intro xs
  induction xs with
  | nil=>intro i;rfl
  | cons x xs ih=>intro i;unfold iF;exact ih _
 rw [e]
 by_cases h:a1<0
 ·rw [decide_eq_true h,decide_eq_false (show ¬a1>=0 by omega)]
  simp only [aZ,Bool.and_false,key]
 ·rw [decide_eq_false h,decide_eq_true (show a1>=0 by omega)]
  simp only [bh,Bool.and_true]
end Z219
namespace Z220
def F (x0:aW)(x1:List L):aH:=ret ((x0.aQ==(sDec x1)):Bool)
def pats:List gF:=[.agg [.str,au,au,.sl 9],.ptr [.str]]
def res:RP:=.one (.rd (.bool))
def md (a0:ah)(a1:aA):Bool:=((a0.aQ==a1):Bool)
def gd (a0:ah)(a1:aA):Prop:=True
def acc (ls:List L):aW×aA:=((aW.dec ls),(sDec (cm 1 (av 4 ls))))
def R:(aW×aA)->Option Bool:=RR (p2 gd) (u2 md)
def ak {a0 a1}(h:gd a0 a1):R ((ah.r a0),a1)=some (md a0 a1):=aM (a:=(a0,a1)) h
def aV:gy:=CN pats res acc R
def bp (a0:ah)(a1:aA)(p1:List L)(e1:a1=(sDec p1))(hg:gd a0 a1):F (ah.r a0) p1=ret ((md a0 a1):Bool):=by
 unfold F md
 try simp only [SS,<-e1]
 all_goals exact fz
def nu (ls:List L)(a:ah×aA)(e:acc ls=Im.im a)(hg:(p2 gd) a):∃n:Nat,F (aW.dec ls) (cm 1 (av 4 ls))=ret (Im.im ((u2 md) a)):=by
 have e0:(ah.r a.1)=(aW.dec ls):=(congrArg (fun x=>x.1) e.symm)
 have hn:=bp a.1 a.2 (cm 1 (av 4 ls)) (congrArg (fun x=>x.2) e.symm) hg
 refine ⟨0,?_⟩
 rw [<-e0]
 exact hn
def af:cq 297 aV:=VP (live:=fun _=>[]) (nt:=8) (accr:=fun ls=>((aW.dec ls),(cm 1 (av 4 ls)))) (run:=fun _ x=>F x.1 x.2) mix aD .nil Tryz.func297 (by kernel_rfl) (fun _ _=>by kernel_rfl) (fun ls a _ e hg=>nu ls a e hg)
end Z220
namespace Z221
inductive Pt where
 | p0 (a:aF) (b:List L) (c d:Int)
def pid:Pt->Nat
 | .p0 ..=>2
def cQ:Pt->List V
 | .p0 a b c d=>[.sl none 38 a,.fn 297 [.dc none [.str] b 0],.int .i64 c,.int .i64 d]
def cR:Pt->List aS
 | .p0 a b c d=>[]
def step (J:Pt->aH):Pt->aH
 | .p0 a b c d=>(cond (decide (d<c)) (m2 d (a.length:Int) (call (Z220.R ((aW.at a (toNat d)),(sDec b))) fun v1=>(cond v1 (ret (d:Int)) (J (.p0 a b c (i64.wrap (d+1))))))) (ret ((-1):Int)))
def start (J:Pt->aH)(x0:aF)(x1:List L):aH:=J (.p0 x0 x1 (x0.length:Int) 0)
def live:Nat->Live:=fun i=>match i with | 2=>[(0,none),(1,none),(7,none),(8,none)] | _=>[]
def pats:List gF:=[.rd (.sl 38),.fn 297 [[.str]]]
def res:RP:=.one (.rd (.int .i64))
abbrev E:Env:={ T:=assoc rE,G:=dP [(297,Z220.aV)],nt:=19 }
def step_eq (I:dH)(p:Pt):dU E live I (pid p) (ck Tryz.f296) (ij (live (pid p)) (cQ p) (cR p)) (dD E Tryz.f296 res)=step (fun q=>I (pid q) (cQ q) (cR q)) p:=by
 cases p<;>kernel_rfl
def start_eq (I:dH)(ls:List L):gn E live I (ck Tryz.f296) (dO pats ls) (dD E Tryz.f296 res)=start (fun q=>I (pid q) (cQ q) (cR q)) (ls.headD .hole).aY (cm 1 (av 1 ls)):=by kernel_rfl
def run_eq (n:Nat)(ls:List L):fY E live Tryz.f296 res n (dO pats ls)=start (iter step n) (ls.headD .hole).aY (cm 1 (av 1 ls)):=dL (id:=pid) (vs:=cQ) (hs:=cR) (step:=step) (start:=fun J=>start J (ls.headD .hole).aY (cm 1 (av 1 ls))) step_eq (fun I=>start_eq I ls) n
def md (a0:List ah)(a1:aA):Int:=(dF (S:=Unit) (β:=Int) (fun (i1:Nat) (y1:ah) (s3:Unit)=>(cond (Z220.md y1 a1) (.inr ((i1:Int):Int)) (.inl ()))) (fun (s3:Unit)=>((-1):Int)) 0 a0 ())
def gd (a0:List ah)(a1:aA):Prop:=(bI (2^21) (fun y:ah=>ah.Sm (2^21) y) a0)
def acc (ls:List L):aF×aA:=((ls.headD .hole).aY,(sDec (cm 1 (av 1 ls))))
def R:(aF×aA)->Option Int:=RR (p2 gd) (u2 md)
def ak {a0 a1}(h:gd a0 a1):R ((a0.map ah.row),a1)=some (md a0 a1):=aM (a:=(a0,a1)) h
def aV:gy:=CN pats res acc R
def bp (a0:List ah)(a1:aA)(p1:List L)(e1:a1=(sDec p1))(hg:gd a0 a1):∃n,start (iter step n) (a0.map ah.row) p1=ret ((md a0 a1):Int):=by
 unfold gd at hg
 have H0:=hg
 unfold start md
 try simp only [SS,<-e1]
 have Bh2:a0.length<=maxLen:=(by
   have:=(H0).1
   try simp only [maxLen] at *
   omega)
 refine ex_eq (out:=ret) (cH (z:=ah.zero)) ?_
 refine dG (p:=Pt.p0 (a0.map ah.row) p1 (a0.length:Int) 0) fz ?_
 refine bU (pt:=fun (i1:Nat) (s3:Unit)=>Pt.p0 (a0.map ah.row) p1 (a0.length:Int) (i1:Int)) (s:=(():Unit)) (out:=ret) (fun _ _=>True) (fun J i1 s3 h2 hih2=>?_) (fun s3 hih2=>?_) trivial
 ·simp only [step,SS,<-e1]
  have bb_:=Bh2
  simp only [maxLen] at bb_
  have:=(H0).1
  refine bk.yes (by apply decide_eq_true;omega) ?_
  refine bk.yes bE ?_
  refine bk.yes (bM h2) ?_
  refine cr (Z220.ak trivial) ?_
  refine bk.bif (fun c4=>?_) (fun c4=>?_)
  ·refine bk.inr ?_
   all_goals exact fz
  ·refine bk.inl trivial ?_
   rw [aJ h2 Bh2]
   all_goals exact fz
 ·simp only [step,SS,<-e1]
  have:=(H0).1
  refine cY (by apply decide_eq_false;omega) ?_
  refine ⟨0,?_⟩
  all_goals exact fz
def nu (ls:List L)(a:List ah×aA)(e:acc ls=Im.im a)(hg:(p2 gd) a):∃n:Nat,start (iter step n) ((ls.headD .hole).aY) (cm 1 (av 1 ls))=ret (Im.im ((u2 md) a)):=by
 have e0:(a.1.map ah.row)=(ls.headD .hole).aY:=(congrArg (fun x=>x.1) e.symm)
 obtain ⟨n,hn⟩:=bp a.1 a.2 (cm 1 (av 1 ls)) (congrArg (fun x=>x.2) e.symm) hg
 refine ⟨n,?_⟩
 rw [<-e0]
 exact hn
def af:cq 296 aV:=VP (accr:=fun ls=>((ls.headD .hole).aY,(cm 1 (av 1 ls)))) (run:=fun n x=>start (iter step n) x.1 x.2) mix aD (.cons Z220.af .nil) Tryz.func296 (by kernel_rfl) run_eq (fun ls a _ e hg=>nu ls a e hg)
def fa (a0:List ah)(a1:aA):-1<=md a0 a1/\md a0 a1<(a0.length:Int):=by
 unfold md
 refine fF ?_ _ _
 all_goals
  intro i x s b h
  revert h
  simp only [Bool.cond_eq_ite]
  repeat' split
  all_goals (intro h;first | (cases h;rfl) | cases h)
def idx_eq (a0:List ah)(a1:aA):md a0 a1=iF (fun y=>Z220.md y a1) 0 a0:=by
 unfold md
 exact gv
end Z221
namespace Z222
def F (x0:aF)(x1:aA):aH:=(call (Z221.R (x0,x1)) fun v1=>ret (v1:Int))
def md (a0:List ah)(a1:aA):Int:=((Z221.md a0 a1):Int)
def gd (a0:List ah)(a1:aA):Prop:=(bI (2^21) (fun y:ah=>ah.Sm (2^21) y) a0)
def R:=RR (p2 gd) (u2 md)
def ak {a0 a1}(h:gd a0 a1):R ((a0.map ah.row),a1)=some (md a0 a1):=aM (a:=(a0,a1)) h
def aV:=CN [pL 38,pS] oI RT.dec R
def bp (a0)(a1)(hg:gd a0 a1):F (a0.map ah.row) a1=ret (md a0 a1):=by
 unfold gd at hg
 have H0:=hg
 unfold F md
 try simp only [SS]
 refine ct (Z221.ak H0) ?_
 have fv1_:=Z221.fa a0 a1
 all_goals exact fz
def af:cq 247 aV:=W2 8 F mix aD bp (.cons Z221.af .nil) Tryz.func247
def fa (a0:List ah)(a1:aA):-1<=md a0 a1/\md a0 a1<(a0.length:Int):=by
 unfold md
 refine fF ?_ _ _
 all_goals
  intro i x s b h
  revert h
  simp only [Bool.cond_eq_ite]
  repeat' split
  all_goals (intro h;first | (cases h;rfl) | cases h)
def br (a0:List ah)(a1:aA):md a0 a1=Z97.md a0 a1:=by
 unfold md Z97.md
 first
 | (simp only [Z221.idx_eq];done)
 | (simp only [Z221.idx_eq];rfl)
 | rfl
end Z222
namespace Z223
inductive Pt where
 | p0 (a:aF) (b:Int) (c:aF)
 | p1 (a:Int) (b c:aF)
def pid:Pt->Nat
 | .p0 ..=>4
 | .p1 ..=>4
def cQ:Pt->List V
 | .p0 a b c=>[.sl none 3 a,.int .i64 b,.own 0]
 | .p1 a b c=>[.own 0,.int .i64 a,.own 1]
def cR:Pt->List aS
 | .p0 a b c=>[.row 3 c]
 | .p1 a b c=>[.row 3 b,.row 3 c]
def step (J:Pt->aH):Pt->aH
 | .p0 a b c=>(cond (decide ((a.length:Int)>1)) (cond (decide ((nk .i64 b 1)<(a.length:Int))) (cK (decide ((0:Int)<=(nk .i64 b 1))) (cK (decide ((nk .i64 b 1)<(a.length:Int))) (cK (eO (((c.length:Int)+1)*8)) (call (Z210.R a) fun v1=>J (.p1 (i64.wrap (Int.tdiv b 2)) v1 (c++[[L.int (jo a (toNat (nk .i64 b 1)))]])))))) (call (Z210.R a) fun v2=>J (.p1 (i64.wrap (Int.tdiv b 2)) v2 c))) (ret (c:aF)))
 | .p1 a b c=>(cond (decide ((b.length:Int)>1)) (cond (decide ((nk .i64 a 1)<(b.length:Int))) (cK (decide ((0:Int)<=(nk .i64 a 1))) (cK (decide ((nk .i64 a 1)<(b.length:Int))) (cK (eO (((c.length:Int)+1)*8)) (call (Z210.R b) fun v1=>J (.p1 (i64.wrap (Int.tdiv a 2)) v1 (c++[[L.int (jo b (toNat (nk .i64 a 1)))]])))))) (call (Z210.R b) fun v2=>J (.p1 (i64.wrap (Int.tdiv a 2)) v2 c))) (ret (c:aF)))
def start (J:Pt->aH)(x0:aF)(x1:Int):aH:=(call (Z148.R (x1,0,(i64.wrap ((x0.length:Int) - 1)))) fun v1=>(cond (!v1) (ret ([]:aF)) (J (.p0 x0 x1 []))))
def live:Nat->Live:=fun i=>match i with | 4=>[(0,none),(1,none),(5,some 3)] | _=>[]
def B6 (b:Nat)(h:b<2^40):nk .i64 (b:Int) 1=((Z98.vG b:Nat):Int):=by
 have e1:(BitVec.ofInt 64 (b:Int)).toNat=b:=by simp [BitVec.toNat_ofInt];omega
 have e2:(BitVec.ofInt 64 (1:Int)).toNat=1:=by decide
 have e3:(b ^^^ 1)=Z98.vG b:=by
  have a1:(b ^^^ 1) % 2=(b+1) % 2:=by
   have h:=Nat.xor_mod_two_pow (a:=b) (b:=1) (n:=1)
   rw [Nat.pow_one,show (1:Nat) % 2=1 from rfl] at h
   rcases Nat.mod_two_eq_zero_or_one b with e | e
   ·rw [e,show (0:Nat) ^^^ 1=1 from rfl] at h;omega
   ·rw [e,show (1:Nat) ^^^ 1=0 from rfl] at h;omega
  have a2:(b ^^^ 1) / 2=b / 2:=by rw [Nat.xor_div_two];simp
  unfold Z98.vG;split<;>omega
 show i64.wrap (((BitVec.ofInt 64 (b:Int) ^^^ BitVec.ofInt 64 1).toNat:Nat):Int)=_
 rw [BitVec.toNat_xor,e1,e2,e3,wi _ (by unfold Z98.vG;split<;>omega)]
def md (a0:List Int)(a1:Int):List Int:=Z98.md a0 a1
def gd (a0:List Int)(a1:Int):Prop:=bI (2^38) (fun y:Int=>True) a0
def R:=RR (p2 gd) (u2 md)
def ak {a0 a1}(h:gd a0 a1):R ((a0.map bn),a1)=some ((md a0 a1).map bn):=aM (a:=(a0,a1)) h
def aV:=CN [pL 3,pI] (oL 3) RT.dec R
def bp (a0)(a1)(hg:gd a0 a1):∃n,start (iter step n) (a0.map bn) a1=ret ((md a0 a1).map bn):=by
 have one:∀(i:Nat) (l c r:List Int) (n:Nat),bI (2^38) (fun y:Int=>True) l->i<2^40->c.length<2^40->(if l.length>1 then iter step n (Pt.p1 ((i / 2:Nat):Int) ((Z89.up l).map bn) ((Z98.vE i l c).map bn))=ret (r.map bn) else c=r)->
   step (iter step n) (Pt.p0 (l.map bn) (i:Int) (c.map bn))=ret (r.map bn)/\step (iter step n) (Pt.p1 (i:Int) (l.map bn) (c.map bn))=ret (r.map bn):=by
  intro i l c r n hl hi hc h
  have hs:=B6 i hi
  have hd:=Z98.half i hi
  refine ⟨?_,?_⟩
  all_goals
   simp only [step,MM,List.length_map,gG,hs,hd,cP]
   by_cases h1:l.length>1
   ·rw [if_pos h1] at h
    rw [decide_eq_true (show (l.length:Int)>1 by omega),aZ]
    by_cases h2:Z98.vG i<l.length
    ·rw [Z98.vE,if_pos h2,List.map_append] at h
     rw [decide_eq_true (show ((Z98.vG i:Nat):Int)<(l.length:Int) by omega),aZ,decide_eq_true (show (0:Int)<=((Z98.vG i:Nat):Int) by omega),aZ,aZ,gX (by omega),aZ]
     exact cF ((Z89.up l).map bn) (Z210.ak hl) h
    ·rw [Z98.vE,if_neg h2] at h
     rw [decide_eq_false (show ¬((Z98.vG i:Nat):Int)<(l.length:Int) by omega),bh]
     exact cF ((Z89.up l).map bn) (Z210.ak hl) h
   ·rw [if_neg h1] at h
    rw [decide_eq_false (show ¬(l.length:Int)>1 by omega),bh,h]
 have key:∀(k i:Nat) (l c:List Int),bI (2^38) (fun y:Int=>True) l->l.length<=k->i<2^40->c.length+k<2^40->
   ∃n,step (iter step n) (Pt.p0 (l.map bn) (i:Int) (c.map bn))=ret ((Z98.zo k i l c).map bn)/\step (iter step n) (Pt.p1 (i:Int) (l.map bn) (c.map bn))=ret ((Z98.zo k i l c).map bn):=by
  intro k
  induction k with
  | zero=>intro i l c hl hk hi hc;exact ⟨0,one i l c _ 0 hl hi (by omega) (by rw [if_neg (by omega)];rfl)⟩
  | succ k ih=>
   intro i l c hl hk hi hc
   unfold Z98.zo
   by_cases h1:l.length>1
   ·have hu:=Z89.jU l
    have hl1:=hl.1
    have h2:(Z98.vE i l c).length<=c.length+1:=by unfold Z98.vE;split<;>simp
    obtain ⟨n,_,hn⟩:=ih (i / 2) (Z89.up l) (Z98.vE i l c) ⟨by omega,fun _ _=>trivial⟩ (by omega) (by omega) (by omega)
    rw [if_pos h1]
    exact ⟨n+1,one i l c _ (n+1) hl hi (by omega) (by rw [if_pos h1];exact hn)⟩
   ·rw [if_neg h1]
    exact ⟨0,one i l c _ 0 hl hi (by omega) (by rw [if_neg h1])⟩
 unfold gd at hg
 unfold start md Z98.md
 simp only [List.length_map]
 have hlen:=hg.1
 cases h:Z49.md a1 0 (i64.wrap ((a0.length:Int) - 1))
 ·exact ⟨0,cF false (by rw [<-h,<-Z148.br];exact Z148.ak trivial) rfl⟩
 ·have hh:=h
  rw [wi _ (by omega)] at hh
  simp [Z49.md] at hh
  obtain ⟨i,rfl⟩:=Int.eq_ofNat_of_zero_le hh.1
  obtain ⟨n,hn,_⟩:=key a0.length i a0 [] hg (Nat.le_refl _) (by omega) (by simp only [List.length_nil];omega)
  exact ⟨n+1,cF true (by rw [<-h,<-Z148.br];exact Z148.ak trivial) hn⟩
def af:cq 298 aV:=L2 36 pid cQ cR live step start mix aD bp (.cons Z148.af (.cons Z210.af .nil)) Tryz.func298
def len (a0:List Int)(a1:Int):(md a0 a1).length<=a0.length:=by
 intros;unfold md Z98.md
 cases Z49.md _ 0 _
 ·exact zero_le _
 ·exact le_trans (Z98.tj _ _ _ _) (by simp)
def br (a0:List Int)(a1:Int):md a0 a1=Z98.md a0 a1:=by
 unfold md Z98.md
 first
 | (simp only [Z148.br,Z210.br];done)
 | (simp only [Z148.br,Z210.br];rfl)
 | rfl
end Z223
namespace Z224
def F (x0:aF)(x1:aA):aH:=(call (Z222.R (x0,x1)) fun v1=>(cond (decide (v1<0)) (ret (((⟨0,[]⟩:bH),false):bH×Bool)) (call (Z207.R x0) fun v2=>(call (Z223.R (v2,v1)) fun v3=>ret (((⟨v1,v3⟩:bH),true):bH×Bool)))))
def md (a0:List ah)(a1:aA):aB×Bool:=(cond (decide ((Z222.md a0 a1)<0)) ((⟨0,[]⟩:aB),false) ((⟨(Z222.md a0 a1),(Z223.md (Z207.md a0) (Z222.md a0 a1))⟩:aB),true))
def gd (a0:List ah)(a1:aA):Prop:=(bI (2^21) (fun y:ah=>ah.Sm (2^21) y) a0)
def R:=RR (p2 gd) (u2 md)
def ak {a0 a1}(h:gd a0 a1):R ((a0.map ah.row),a1)=some ((aB.r (md a0 a1).1),(md a0 a1).2):=aM (a:=(a0,a1)) h
def aV:=CN [pL 38,pS] (.hU [(true,f122),(false,[fB])]) RT.dec R
def bp (a0)(a1)(hg:gd a0 a1):F (a0.map ah.row) a1=ret ((aB.r (md a0 a1).1),(md a0 a1).2):=by
 unfold gd at hg
 have H0:=hg
 unfold F md
 try simp only [SS]
 refine ct (Z222.ak H0) ?_
 have fv1_:=Z222.fa a0 a1
 refine aq (fun b:aB×Bool=>ret (((aB.r b.1),b.2):bH×Bool)) (fun c1=>?_) (fun c1=>?_)
 ·all_goals exact fz
 ·have dc1:=c1
  try simp only [DC] at dc1
  refine ct (Z207.ak H0) ?_
  try simp only [SS]
  refine ct (Z223.ak ⟨(have:=Z207.len a0;have:=(H0).1;om),fun _ _=>trivial⟩) ?_
  try simp only [SS]
  all_goals exact fz
def af:cq 248 aV:=W2 19 F mix aD bp (.cons Z222.af (.cons Z207.af (.cons Z223.af .nil))) Tryz.func248
def gk {a0:List ah}{a1:aA}(hg:gd a0 a1):aB.Sm (2^21) ((md a0 a1).1):=by
 unfold gd at hg;unfold md
 cases decide (Z222.md a0 a1<0)
 ·refine ⟨?_,fun _ _=>trivial⟩
  have h:=Z223.len (Z207.md a0) (Z222.md a0 a1)
  rw [Z207.len] at h
  exact le_trans h hg.1
 ·exact bI.nil
def br (a0:List ah)(a1:aA):md a0 a1=Z99.md a0 a1:=by
 unfold md Z99.md
 first
 | (simp only [Z222.br,Z207.br,Z223.br];done)
 | (simp only [Z222.br,Z207.br,Z223.br];rfl)
 | rfl
end Z224
namespace Z225
inductive Pt where
 | p0 (a:aA) (b:Int) (c:aF) (d e:Int)
def pid:Pt->Nat
 | .p0 ..=>3
def cQ:Pt->List V
 | .p0 a b c d e=>[.str a,.int .i64 b,.sl none 38 c,.int .i64 d,.int .i64 e]
def cR:Pt->List aS
 | .p0 a b c d e=>[]
def step (J:Pt->aH):Pt->aH
 | .p0 a b c d e=>(cond (decide (e<d)) (m2 e (c.length:Int) (call (Z201.R ((aW.at c (toNat e)).aQ,a)) fun v1=>(cond (decide (v1<0)) (J (.p0 a (i64.wrap (b+1)) c d (i64.wrap (e+1)))) (J (.p0 a b c d (i64.wrap (e+1))))))) (ret (b:Int)))
def start (J:Pt->aH)(x0:aF)(x1:aA):aH:=J (.p0 x1 0 x0 (x0.length:Int) 0)
def live:Nat->Live:=fun i=>match i with | 3=>[(1,none),(5,none),(8,none),(9,none),(10,none)] | _=>[]
def md (a0:List ah)(a1:aA):Int:=(dV (S:=Int) (β:=Int) (fun (y1:ah) (s3:Int)=>(cond (decide ((Z201.md (y1.aQ) a1)<0)) (.inl (i64.wrap (s3+1))) (.inl s3))) (fun (s3:Int)=>(s3:Int)) a0 0)
def gd (a0:List ah)(a1:aA):Prop:=(bI (2^21) (fun y:ah=>ah.Sm (2^21) y) a0)
def R:=RR (p2 gd) (u2 md)
def ak {a0 a1}(h:gd a0 a1):R ((a0.map ah.row),a1)=some (md a0 a1):=aM (a:=(a0,a1)) h
def aV:=CN [pL 38,pS] oI RT.dec R
def bp (a0)(a1)(hg:gd a0 a1):∃n,start (iter step n) (a0.map ah.row) a1=ret (md a0 a1):=by
 unfold gd at hg
 have H0:=hg
 unfold start md
 try simp only [SS]
 have Bh2:a0.length<=maxLen:=(by
   have:=(H0).1
   try simp only [maxLen] at *
   omega)
 refine ex_eq (out:=ret) (eJ (z:=ah.zero)) ?_
 refine dG (p:=Pt.p0 a1 0 (a0.map ah.row) (a0.length:Int) 0) fz ?_
 refine bU (pt:=fun (i1:Nat) (s3:Int)=>Pt.p0 a1 s3 (a0.map ah.row) (a0.length:Int) (i1:Int)) (s:=(0:Int)) (out:=ret) (fun _ _=>True) (fun J i1 s3 h2 hih2=>?_) (fun s3 hih2=>?_) trivial
 ·simp only [step,SS]
  have bb_:=Bh2
  simp only [maxLen] at bb_
  have:=(H0).1
  refine bk.yes (by apply decide_eq_true;omega) ?_
  refine bk.yes bE ?_
  refine bk.yes (bM h2) ?_
  refine cr (Z201.ak trivial) ?_
  refine bk.bif (fun c4=>?_) (fun c4=>?_)
  ·refine bk.inl trivial ?_
   rw [aJ h2 Bh2]
   all_goals exact fz
  ·refine bk.inl trivial ?_
   rw [aJ h2 Bh2]
   all_goals exact fz
 ·simp only [step,SS]
  have:=(H0).1
  refine cY (by apply decide_eq_false;omega) ?_
  refine ⟨0,?_⟩
  all_goals exact fz
def af:cq 301 aV:=L2 23 pid cQ cR live step start mix aD bp (.cons Z201.af .nil) Tryz.func301
def fa (a0:List ah)(a1:aA):a0.length<=2^21->0<=md a0 a1/\md a0 a1<=(a0.length:Int):=fun hl=>by
 have key:∀(xs:List ah) (s:Int),0<=s->s+xs.length<=2^22->0<=dV (S:=Int) (β:=Int) (fun (y1:ah) (s3:Int)=>(cond (decide ((Z201.md (y1.aQ) a1)<0)) (.inl (i64.wrap (s3+1))) (.inl s3))) (fun (s3:Int)=>(s3:Int)) xs s/\dV (S:=Int) (β:=Int) (fun (y1:ah) (s3:Int)=>(cond (decide ((Z201.md (y1.aQ) a1)<0)) (.inl (i64.wrap (s3+1))) (.inl s3))) (fun (s3:Int)=>(s3:Int)) xs s<=s+xs.length:=by
  intro xs
  induction xs with
  | nil=>intro s h0 h1;exact ⟨h0,by simp [dV]⟩
  | cons x xs ih=>
   intro s h0 h1
   simp only [List.length_cons] at h1 ⊢
   unfold dV
   cases decide (Z201.md x.aQ a1<0)
   ·have:=ih s h0 (by omega)
    simp only [bh]
    omega
   ·have:=ih (s+1) (by omega) (by omega)
    simp only [aZ]
    rw [wi _ (by omega)]
    omega
 have:=key a0 0 (Int.le_refl _) (by omega)
 unfold md
 omega
def br (a0:List ah)(a1:aA):md a0 a1=Z100.md a0 a1:=by
 unfold md Z100.md
 first
 | (simp only [Z201.br];done)
 | (simp only [Z201.br];rfl)
 | rfl
end Z225
namespace Z226
def F (x0:aF)(x1:aA):aH:=(call (Z202.R x0) fun v1=>(cond (!v1) (ret (((⟨0,(⟨(⟨#[]⟩:aA),0,0,[]⟩:aW),(⟨(⟨#[]⟩:aA),0,0,[]⟩:aW),(⟨0,[]⟩:bH),(⟨0,[]⟩:bH)⟩:dm),false):dm×Bool)) (call (Z149.R x1) fun v2=>(cond (!v2) (ret (((⟨0,(⟨(⟨#[]⟩:aA),0,0,[]⟩:aW),(⟨(⟨#[]⟩:aA),0,0,[]⟩:aW),(⟨0,[]⟩:bH),(⟨0,[]⟩:bH)⟩:dm),false):dm×Bool)) (call (Z222.R (x0,x1)) fun v3=>(cond (decide (v3>=0)) (ret (((⟨0,(⟨(⟨#[]⟩:aA),0,0,[]⟩:aW),(⟨(⟨#[]⟩:aA),0,0,[]⟩:aW),(⟨0,[]⟩:bH),(⟨0,[]⟩:bH)⟩:dm),false):dm×Bool)) (call (Z225.R (x0,x1)) fun v4=>(cond (decide (v4>0)) (cK (decide ((0:Int)<=(i64.wrap (v4 - 1)))) (cK (decide ((i64.wrap (v4 - 1))<(x0.length:Int))) (call (Z140.R (aW.at x0 (toNat (i64.wrap (v4 - 1))))) fun v5=>(call (Z224.R (x0,v5.aQ)) fun v6=>(cond (decide (v4<(x0.length:Int))) (m2 v4 (x0.length:Int) (call (Z140.R (aW.at x0 (toNat v4))) fun v7=>(call (Z224.R (x0,v7.aQ)) fun v8=>ret (((⟨v4,v5,v7,v6.1,v8.1⟩:dm),true):dm×Bool)))) (ret (((⟨v4,v5,(⟨(⟨#[]⟩:aA),0,0,[]⟩:aW),v6.1,(⟨0,[]⟩:bH)⟩:dm),true):dm×Bool))))))) (cond (decide (v4<(x0.length:Int))) (m2 v4 (x0.length:Int) (call (Z140.R (aW.at x0 (toNat v4))) fun v9=>(call (Z224.R (x0,v9.aQ)) fun v10=>ret (((⟨v4,(⟨(⟨#[]⟩:aA),0,0,[]⟩:aW),v9,(⟨0,[]⟩:bH),v10.1⟩:dm),true):dm×Bool)))) (ret (((⟨v4,(⟨(⟨#[]⟩:aA),0,0,[]⟩:aW),(⟨(⟨#[]⟩:aA),0,0,[]⟩:aW),(⟨0,[]⟩:bH),(⟨0,[]⟩:bH)⟩:dm),true):dm×Bool)))))))))))
def md (a0:List ah)(a1:aA):bG×Bool:=(cond (!(Z202.md a0)) ((⟨0,(⟨((⟨#[]⟩:aA):aA),0,0,[]⟩:ah),(⟨((⟨#[]⟩:aA):aA),0,0,[]⟩:ah),(⟨0,[]⟩:aB),(⟨0,[]⟩:aB)⟩:bG),false) (cond (!(Z149.md a1)) ((⟨0,(⟨((⟨#[]⟩:aA):aA),0,0,[]⟩:ah),(⟨((⟨#[]⟩:aA):aA),0,0,[]⟩:ah),(⟨0,[]⟩:aB),(⟨0,[]⟩:aB)⟩:bG),false) (cond (decide ((Z222.md a0 a1)>=0)) ((⟨0,(⟨((⟨#[]⟩:aA):aA),0,0,[]⟩:ah),(⟨((⟨#[]⟩:aA):aA),0,0,[]⟩:ah),(⟨0,[]⟩:aB),(⟨0,[]⟩:aB)⟩:bG),false) (cond (decide ((Z225.md a0 a1)>0)) (cond (decide ((Z225.md a0 a1)<(a0.length:Int))) ((⟨(Z225.md a0 a1),(a0.getD (toNat (i64.wrap ((Z225.md a0 a1) - 1))) ah.zero),(a0.getD (toNat (Z225.md a0 a1)) ah.zero),(Z224.md a0 ((a0.getD (toNat (i64.wrap ((Z225.md a0 a1) - 1))) ah.zero).aQ)).1,(Z224.md a0 ((a0.getD (toNat (Z225.md a0 a1)) ah.zero).aQ)).1⟩:bG),true) ((⟨(Z225.md a0 a1),(a0.getD (toNat (i64.wrap ((Z225.md a0 a1) - 1))) ah.zero),(⟨((⟨#[]⟩:aA):aA),0,0,[]⟩:ah),(Z224.md a0 ((a0.getD (toNat (i64.wrap ((Z225.md a0 a1) - 1))) ah.zero).aQ)).1,(⟨0,[]⟩:aB)⟩:bG),true)) (cond (decide ((Z225.md a0 a1)<(a0.length:Int))) ((⟨(Z225.md a0 a1),(⟨((⟨#[]⟩:aA):aA),0,0,[]⟩:ah),(a0.getD (toNat (Z225.md a0 a1)) ah.zero),(⟨0,[]⟩:aB),(Z224.md a0 ((a0.getD (toNat (Z225.md a0 a1)) ah.zero).aQ)).1⟩:bG),true) ((⟨(Z225.md a0 a1),(⟨((⟨#[]⟩:aA):aA),0,0,[]⟩:ah),(⟨((⟨#[]⟩:aA):aA),0,0,[]⟩:ah),(⟨0,[]⟩:aB),(⟨0,[]⟩:aB)⟩:bG),true))))))
def gd (a0:List ah)(a1:aA):Prop:=(bI (2^21) (fun y:ah=>ah.Sm (2^21) y) a0)/\(a1.size<=(2^21))
def R:=RR (p2 gd) (u2 md)
def ak {a0 a1}(h:gd a0 a1):R ((a0.map ah.row),a1)=some ((bG.r (md a0 a1).1),(md a0 a1).2):=aM (a:=(a0,a1)) h
def aV:=CN [pL 38,pS] (.hU [(true,f124),(false,[fB])]) RT.dec R
def bp (a0)(a1)(hg:gd a0 a1):F (a0.map ah.row) a1=ret ((bG.r (md a0 a1).1),(md a0 a1).2):=by
 obtain ⟨H0,H1⟩:=hg
 unfold F md
 try simp only [SS]
 refine ct (Z202.ak H0) ?_
 refine aq (fun b:bG×Bool=>ret (((bG.r b.1),b.2):dm×Bool)) (fun c1=>?_) (fun c1=>?_)
 ·all_goals exact fz
 ·have dc1:=c1
  try simp only [DC] at dc1
  refine ct (Z149.ak (le_trans H1 (by decide))) ?_
  refine aq (fun b:bG×Bool=>ret (((bG.r b.1),b.2):dm×Bool)) (fun c2=>?_) (fun c2=>?_)
  ·all_goals exact fz
  ·have dc2:=c2
   try simp only [DC] at dc2
   refine ct (Z222.ak H0) ?_
   have fv3_:=Z222.fa a0 a1
   refine aq (fun b:bG×Bool=>ret (((bG.r b.1),b.2):dm×Bool)) (fun c3=>?_) (fun c3=>?_)
   ·all_goals exact fz
   ·have dc3:=c3
    try simp only [DC] at dc3
    refine ct (Z225.ak H0) ?_
    have fv4_:=Z225.fa a0 a1
    refine aq (fun b:bG×Bool=>ret (((bG.r b.1),b.2):dm×Bool)) (fun c4=>?_) (fun c4=>?_)
    ·have dc4:=c4
     try simp only [DC] at dc4
     refine aN (have:=(H0).1;dt) ?_
     refine aN (have:=(H0).1;have:=(H0).1;dt) ?_
     refine ct (Z140.ak (bI.getD (z:=ah.zero) H0 (by have:=(H0).1;first | assumption | omega | (simp (disch:=omega) only [wi];omega) | (simp;omega)))) ?_
     try simp only [SS]
     refine ct (Z224.ak H0) ?_
     try simp only [SS]
     refine aq (fun b:bG×Bool=>ret (((bG.r b.1),b.2):dm×Bool)) (fun c5=>?_) (fun c5=>?_)
     ·have dc5:=c5
      try simp only [DC] at dc5
      refine aN (have:=(H0).1;dt) ?_
      refine aN (have:=(H0).1;have:=(H0).1;dt) ?_
      refine ct (Z140.ak (bI.getD (z:=ah.zero) H0 (by have:=(H0).1;first | assumption | omega | (simp (disch:=omega) only [wi];omega) | (simp;omega)))) ?_
      try simp only [SS]
      refine ct (Z224.ak H0) ?_
      try simp only [SS]
      all_goals exact fz
     ·all_goals exact fz
    ·have dc4:=c4
     try simp only [DC] at dc4
     refine aq (fun b:bG×Bool=>ret (((bG.r b.1),b.2):dm×Bool)) (fun c6=>?_) (fun c6=>?_)
     ·have dc6:=c6
      try simp only [DC] at dc6
      refine aN (have:=(H0).1;dt) ?_
      refine aN (have:=(H0).1;have:=(H0).1;dt) ?_
      refine ct (Z140.ak (bI.getD (z:=ah.zero) H0 (by have:=(H0).1;first | assumption | omega | (simp (disch:=omega) only [wi];omega) | (simp;omega)))) ?_
      try simp only [SS]
      refine ct (Z224.ak H0) ?_
      try simp only [SS]
      all_goals exact fz
     ·all_goals exact fz
def af:cq 249 aV:=W2 68 F mix aD bp (.cons Z202.af (.cons Z149.af (.cons Z222.af (.cons Z225.af (.cons Z140.af (.cons Z224.af .nil)))))) Tryz.func249
def gk {a0:List ah}{a1:aA}(hg:gd a0 a1):bG.Sm (2^21) ((md a0 a1).1):=by
 unfold gd at hg;unfold md
 have ez:ah.Sm (2^21) ⟨⟨#[]⟩,0,0,[]⟩:=⟨zero_le _,bI.nil⟩
 have pz:aB.Sm (2^21) ⟨0,[]⟩:=bI.nil
 have he:∀i,ah.Sm (2^21) (a0.getD i ah.zero):=fun i=>bI.rP hg.1 ez
 have hp:∀x,aB.Sm (2^21) (Z224.md a0 x).1:=fun x=>Z224.gk hg.1
 simp only [Bool.cond_eq_ite]
 repeat' split
 all_goals (refine ⟨?_,?_,?_,?_⟩<;>first | exact he _ | exact hp _ | exact ez | exact pz)
def br (a0:List ah)(a1:aA):md a0 a1=Z101.md a0 a1:=by
 unfold md Z101.md
 first
 | (simp only [Z202.br,Z149.br,Z222.br,Z225.br,Z224.br];done)
 | (simp only [Z202.br,Z149.br,Z222.br,Z225.br,Z224.br];rfl)
 | rfl
end Z226
namespace Z227
def F (x0:eV)(x1:aA):aH:=(call (Z215.R x0) fun v1=>(cond (!v1) (ret ((⟨[],false,(⟨(⟨#[]⟩:aA),0,0,[]⟩:aW),(⟨0,[]⟩:bH),(⟨0,(⟨(⟨#[]⟩:aA),0,0,[]⟩:aW),(⟨(⟨#[]⟩:aA),0,0,[]⟩:aW),(⟨0,[]⟩:bH),(⟨0,[]⟩:bH)⟩:dm)⟩:aO):aO)) (call (Z149.R x1) fun v2=>(cond (!v2) (ret ((⟨[],false,(⟨(⟨#[]⟩:aA),0,0,[]⟩:aW),(⟨0,[]⟩:bH),(⟨0,(⟨(⟨#[]⟩:aA),0,0,[]⟩:aW),(⟨(⟨#[]⟩:aA),0,0,[]⟩:aW),(⟨0,[]⟩:bH),(⟨0,[]⟩:bH)⟩:dm)⟩:aO):aO)) (call (Z138.R x0.aP) fun v3=>(call (Z222.R (x0.cz,x1)) fun v4=>(cond (decide (v4>=0)) (m2 v4 (x0.cz.length:Int) (call (Z140.R (aW.at x0.cz (toNat v4))) fun v5=>(call (Z224.R (x0.cz,x1)) fun v6=>ret ((⟨v3,true,v5,v6.1,(⟨0,(⟨(⟨#[]⟩:aA),0,0,[]⟩:aW),(⟨(⟨#[]⟩:aA),0,0,[]⟩:aW),(⟨0,[]⟩:bH),(⟨0,[]⟩:bH)⟩:dm)⟩:aO):aO)))) (call (Z226.R (x0.cz,x1)) fun v7=>ret ((⟨v3,false,(⟨(⟨#[]⟩:aA),0,0,[]⟩:aW),(⟨0,[]⟩:bH),v7.1⟩:aO):aO)))))))))
def md (a0:bA)(a1:aA):aj:=(cond (!(Z215.md a0)) (⟨[],false,(⟨((⟨#[]⟩:aA):aA),0,0,[]⟩:ah),(⟨0,[]⟩:aB),(⟨0,(⟨((⟨#[]⟩:aA):aA),0,0,[]⟩:ah),(⟨((⟨#[]⟩:aA):aA),0,0,[]⟩:ah),(⟨0,[]⟩:aB),(⟨0,[]⟩:aB)⟩:bG)⟩:aj) (cond (!(Z149.md a1)) (⟨[],false,(⟨((⟨#[]⟩:aA):aA),0,0,[]⟩:ah),(⟨0,[]⟩:aB),(⟨0,(⟨((⟨#[]⟩:aA):aA),0,0,[]⟩:ah),(⟨((⟨#[]⟩:aA):aA),0,0,[]⟩:ah),(⟨0,[]⟩:aB),(⟨0,[]⟩:aB)⟩:bG)⟩:aj) (cond (decide ((Z222.md a0.cz a1)>=0)) (⟨a0.aP,true,(a0.cz.getD (toNat (Z222.md a0.cz a1)) ah.zero),(Z224.md a0.cz a1).1,(⟨0,(⟨((⟨#[]⟩:aA):aA),0,0,[]⟩:ah),(⟨((⟨#[]⟩:aA):aA),0,0,[]⟩:ah),(⟨0,[]⟩:aB),(⟨0,[]⟩:aB)⟩:bG)⟩:aj) (⟨a0.aP,false,(⟨((⟨#[]⟩:aA):aA),0,0,[]⟩:ah),(⟨0,[]⟩:aB),(Z226.md a0.cz a1).1⟩:aj))))
def gd (a0:bA)(a1:aA):Prop:=(bA.Sm (2^21) a0)/\(a1.size<=(2^21))
def R:=RR (p2 gd) (u2 md)
def ak {a0 a1}(h:gd a0 a1):R ((bA.r a0),a1)=some (aj.r (md a0 a1)):=aM (a:=(a0,a1)) h
def aV:=CN [.agg vI,pS] (.agg f126) RT.dec R
def bp (a0)(a1)(hg:gd a0 a1):F (bA.r a0) a1=ret (aj.r (md a0 a1)):=by
 obtain ⟨H0,H1⟩:=hg
 unfold F md
 try simp only [SS]
 refine ct (Z215.ak H0) ?_
 refine aq (fun b:aj=>ret ((aj.r b):aO)) (fun c1=>?_) (fun c1=>?_)
 ·all_goals exact fz
 ·have dc1:=c1
  try simp only [DC] at dc1
  try have tc1:=Z215.tr (by simpa using c1)
  refine ct (Z149.ak (le_trans H1 (by decide))) ?_
  refine aq (fun b:aj=>ret ((aj.r b):aO)) (fun c2=>?_) (fun c2=>?_)
  ·all_goals exact fz
  ·have dc2:=c2
   try simp only [DC] at dc2
   refine ct (Z138.ak H0.1) ?_
   try simp only [SS]
   refine ct (Z222.ak H0.2) ?_
   have fv4_:=Z222.fa a0.cz a1
   refine aq (fun b:aj=>ret ((aj.r b):aO)) (fun c3=>?_) (fun c3=>?_)
   ·have dc3:=c3
    try simp only [DC] at dc3
    refine aN dt ?_
    refine aN (have:=(H0.2).1;dt) ?_
    refine ct (Z140.ak (bI.getD (z:=ah.zero) H0.2 (by first | assumption | omega | (simp (disch:=omega) only [wi];omega) | (simp;omega)))) ?_
    try simp only [SS]
    refine ct (Z224.ak H0.2) ?_
    try simp only [SS]
    all_goals exact fz
   ·refine ct (Z226.ak ⟨H0.2,H1⟩) ?_
    try simp only [SS]
    all_goals exact fz
def af:cq 194 aV:=W2 51 F mix aD bp (.cons Z215.af (.cons Z149.af (.cons Z138.af (.cons Z222.af (.cons Z140.af (.cons Z224.af (.cons Z226.af .nil))))))) Tryz.func194
def gk {a0:bA}{a1:aA}(hg:gd a0 a1):aj.Sm (2^21) (md a0 a1):=by
 unfold gd at hg;unfold md
 obtain ⟨⟨hc,hl⟩,_⟩:=hg
 have ez:ah.Sm (2^21) ⟨⟨#[]⟩,0,0,[]⟩:=⟨zero_le _,bI.nil⟩
 have pz:aB.Sm (2^21) ⟨0,[]⟩:=bI.nil
 have gz:bG.Sm (2^21) ⟨0,⟨⟨#[]⟩,0,0,[]⟩,⟨⟨#[]⟩,0,0,[]⟩,⟨0,[]⟩,⟨0,[]⟩⟩:=⟨ez,ez,pz,pz⟩
 have he:∀i,ah.Sm (2^21) (a0.cz.getD i ah.zero):=fun i=>bI.rP hl ez
 have hp:∀x,aB.Sm (2^21) (Z224.md a0.cz x).1:=fun x=>Z224.gk hl
 have hga:bG.Sm (2^21) (Z226.md a0.cz a1).1:=Z226.gk ⟨hl,by assumption⟩
 simp only [Bool.cond_eq_ite]
 repeat' split
 all_goals (refine ⟨?_,?_,?_,?_⟩<;>first | exact hc | exact bI.nil | exact he _ | exact hp _ | exact hga | exact ez | exact pz | exact gz)
def br (a0:bA)(a1:aA):md a0 a1=Z102.md a0 a1:=by
 unfold md Z102.md
 first
 | (simp only [Z215.br,Z149.br,Z222.br,Z224.br,Z226.br];done)
 | (simp only [Z215.br,Z149.br,Z222.br,Z224.br,Z226.br];rfl)
 | rfl
end Z227
namespace Z228
def F (x0:dR)(x1:Int)(x2:aA):aH:=(call (Z219.R (x0,x1)) fun v1=>(cond (decide (v1<0)) (ret ((⟨[],false,(⟨(⟨#[]⟩:aA),0,0,[]⟩:aW),(⟨0,[]⟩:bH),(⟨0,(⟨(⟨#[]⟩:aA),0,0,[]⟩:aW),(⟨(⟨#[]⟩:aA),0,0,[]⟩:aW),(⟨0,[]⟩:bH),(⟨0,[]⟩:bH)⟩:dm)⟩:aO):aO)) (cond (x0.iQ==4) (ret ((⟨[],false,(⟨(⟨#[]⟩:aA),0,0,[]⟩:aW),(⟨0,[]⟩:bH),(⟨0,(⟨(⟨#[]⟩:aA),0,0,[]⟩:aW),(⟨(⟨#[]⟩:aA),0,0,[]⟩:aW),(⟨0,[]⟩:bH),(⟨0,[]⟩:bH)⟩:dm)⟩:aO):aO)) (m2 v1 (x0.bY.length:Int) (call (Z227.R ((eV.at x0.bY (toNat v1)),x2)) fun v2=>(cond (x0.iQ==1) (ret ((⟨v2.aP,v2.bS,(⟨v2.bg.aQ,v2.bg.bL,(i64.wrap (v2.bg.bX+1)),v2.bg.bB⟩:aW),v2.cX,v2.eo⟩:aO):aO)) (cond (x0.iQ==2) (cK (decide ((0:Int)<=(cond (decide ((0:Int)<(i64.wrap ((v2.aP.length:Int) - 1)))) (i64.wrap ((v2.aP.length:Int) - 1)) 0))) (cK (decide ((cond (decide ((0:Int)<(i64.wrap ((v2.aP.length:Int) - 1)))) (i64.wrap ((v2.aP.length:Int) - 1)) 0)<=(v2.aP.length:Int))) (ret ((⟨(List.take (toNat (cond (decide ((0:Int)<(i64.wrap ((v2.aP.length:Int) - 1)))) (i64.wrap ((v2.aP.length:Int) - 1)) 0)) v2.aP),v2.bS,v2.bg,v2.cX,v2.eo⟩:aO):aO)))) (cond (x0.iQ==3) (ret ((⟨v2.aP,false,(⟨(⟨#[]⟩:aA),0,0,[]⟩:aW),(⟨0,[]⟩:bH),(⟨0,(⟨(⟨#[]⟩:aA),0,0,[]⟩:aW),(⟨(⟨#[]⟩:aA),0,0,[]⟩:aW),(⟨0,[]⟩:bH),(⟨0,[]⟩:bH)⟩:dm)⟩:aO):aO)) (ret (v2:aO))))))))))
def pats:List gF:=[.agg [.sl 215,au],.rd (.int .i64),.rd (.str)]
def res:RP:=.agg [.fr 178,.rd (.bool),.rd (.str),.rd (.int .i64),.rd (.int .i64),.fr 9,.rd (.int .i64),.fr 3,.rd (.int .i64),.rd (.str),.rd (.int .i64),.rd (.int .i64),.fr 9,.rd (.str),.rd (.int .i64),.rd (.int .i64),.fr 9,.rd (.int .i64),.fr 3,.rd (.int .i64),.fr 3]
def md (a0:aR)(a1:Int)(a2:aA):aj:=(cond (decide ((Z219.md a0 a1)<0)) (⟨[],false,(⟨((⟨#[]⟩:aA):aA),0,0,[]⟩:ah),(⟨0,[]⟩:aB),(⟨0,(⟨((⟨#[]⟩:aA):aA),0,0,[]⟩:ah),(⟨((⟨#[]⟩:aA):aA),0,0,[]⟩:ah),(⟨0,[]⟩:aB),(⟨0,[]⟩:aB)⟩:bG)⟩:aj) (cond (a0.iQ==4) (⟨[],false,(⟨((⟨#[]⟩:aA):aA),0,0,[]⟩:ah),(⟨0,[]⟩:aB),(⟨0,(⟨((⟨#[]⟩:aA):aA),0,0,[]⟩:ah),(⟨((⟨#[]⟩:aA):aA),0,0,[]⟩:ah),(⟨0,[]⟩:aB),(⟨0,[]⟩:aB)⟩:bG)⟩:aj) (cond (a0.iQ==1) (⟨(Z227.md (a0.bY.getD (toNat (Z219.md a0 a1)) bA.zero) a2).aP,(Z227.md (a0.bY.getD (toNat (Z219.md a0 a1)) bA.zero) a2).bS,(⟨(Z227.md (a0.bY.getD (toNat (Z219.md a0 a1)) bA.zero) a2).bg.aQ,(Z227.md (a0.bY.getD (toNat (Z219.md a0 a1)) bA.zero) a2).bg.bL,(i64.wrap ((Z227.md (a0.bY.getD (toNat (Z219.md a0 a1)) bA.zero) a2).bg.bX+1)),(Z227.md (a0.bY.getD (toNat (Z219.md a0 a1)) bA.zero) a2).bg.bB⟩:ah),(Z227.md (a0.bY.getD (toNat (Z219.md a0 a1)) bA.zero) a2).cX,(Z227.md (a0.bY.getD (toNat (Z219.md a0 a1)) bA.zero) a2).eo⟩:aj) (cond (a0.iQ==2) (⟨(List.take (toNat (cond (decide ((0:Int)<(i64.wrap (((Z227.md (a0.bY.getD (toNat (Z219.md a0 a1)) bA.zero) a2).aP.length:Int) - 1)))) (i64.wrap (((Z227.md (a0.bY.getD (toNat (Z219.md a0 a1)) bA.zero) a2).aP.length:Int) - 1)) 0)) (Z227.md (a0.bY.getD (toNat (Z219.md a0 a1)) bA.zero) a2).aP),(Z227.md (a0.bY.getD (toNat (Z219.md a0 a1)) bA.zero) a2).bS,(Z227.md (a0.bY.getD (toNat (Z219.md a0 a1)) bA.zero) a2).bg,(Z227.md (a0.bY.getD (toNat (Z219.md a0 a1)) bA.zero) a2).cX,(Z227.md (a0.bY.getD (toNat (Z219.md a0 a1)) bA.zero) a2).eo⟩:aj) (cond (a0.iQ==3) (⟨(Z227.md (a0.bY.getD (toNat (Z219.md a0 a1)) bA.zero) a2).aP,false,(⟨((⟨#[]⟩:aA):aA),0,0,[]⟩:ah),(⟨0,[]⟩:aB),(⟨0,(⟨((⟨#[]⟩:aA):aA),0,0,[]⟩:ah),(⟨((⟨#[]⟩:aA):aA),0,0,[]⟩:ah),(⟨0,[]⟩:aB),(⟨0,[]⟩:aB)⟩:bG)⟩:aj) (Z227.md (a0.bY.getD (toNat (Z219.md a0 a1)) bA.zero) a2))))))
def gd (a0:aR)(a1:Int)(a2:aA):Prop:=(aR.Sm (2^21) a0)/\(a2.size<=(2^21))
def acc (ls:List L):dR×Int×aA:=((dR.dec ls),((av 2 ls).headD .hole).toInt,((av 3 ls).headD .hole).toStr)
def R:(dR×Int×aA)->Option aO:=RR (p3 gd) (u3 md)
def ak {a0 a1 a2}(h:gd a0 a1 a2):R ((aR.r a0),a1,a2)=some (aj.r (md a0 a1 a2)):=aM (a:=(a0,a1,a2)) h
def aV:gy:=CN pats res acc R
def bp (a0:aR)(a1:Int)(a2:aA)(hg:gd a0 a1 a2):F (aR.r a0) a1 a2=ret ((aj.r (md a0 a1 a2)):aO):=by
 obtain ⟨H0,H2⟩:=hg
 unfold F md
 try simp only [SS]
 refine ct (Z219.ak H0) ?_
 have fv1_:=Z219.fa a0 a1
 refine aq (fun b:aj=>ret ((aj.r b):aO)) (fun c1=>?_) (fun c1=>?_)
 ·all_goals exact fz
 ·have dc1:=c1
  try simp only [DC] at dc1
  refine aq (fun b:aj=>ret ((aj.r b):aO)) (fun c2=>?_) (fun c2=>?_)
  ·all_goals exact fz
  ·have dc2:=c2
   try simp only [DC] at dc2
   refine aN (have:=(H0).1;dt) ?_
   refine aN (have:=(H0).1;have:=(H0).1;dt) ?_
   refine ct (Z227.ak ⟨(bI.getD (z:=bA.zero) H0 (by have:=(H0).1;first | assumption | omega | (simp (disch:=omega) only [wi];omega) | (simp;omega))),H2⟩) ?_
   try simp only [SS]
   refine aq (fun b:aj=>ret ((aj.r b):aO)) (fun c3=>?_) (fun c3=>?_)
   ·all_goals exact fz
   ·have dc3:=c3
    try simp only [DC] at dc3
    refine aq (fun b:aj=>ret ((aj.r b):aO)) (fun c4=>?_) (fun c4=>?_)
    ·have dc4:=c4
     try simp only [DC] at dc4
     refine aN (have:=((Z227.gk (a0:=a0.bY.getD (toNat (Z219.md a0 a1)) bA.zero) (a1:=a2) ⟨(bI.getD (z:=bA.zero) H0 (by have:=(H0).1;first | assumption | omega | (simp (disch:=omega) only [wi];omega) | (simp;omega))),H2⟩).1).1;have:=(H0).1;dt) ?_
     refine aN (have:=((Z227.gk (a0:=a0.bY.getD (toNat (Z219.md a0 a1)) bA.zero) (a1:=a2) ⟨(bI.getD (z:=bA.zero) H0 (by have:=(H0).1;first | assumption | omega | (simp (disch:=omega) only [wi];omega) | (simp;omega))),H2⟩).1).1;have:=(H0).1;dt) ?_
     all_goals exact fz
    ·refine aq (fun b:aj=>ret ((aj.r b):aO)) (fun c5=>?_) (fun c5=>?_)
     ·all_goals exact fz
     ·all_goals exact fz
def af:cq 148 aV:=VT (live:=fun _=>[]) (nt:=54) (run:=fun _ x=>F x.1 x.2.1 x.2.2) mix aD (.cons Z219.af (.cons Z227.af .nil)) .nil Tryz.func148 (by kernel_rfl) (fun _ _=>by kernel_rfl) (fun _ a _ _ hg=>⟨0,bp a.1 a.2.1 a.2.2 hg⟩)
def br (a0:aR)(a1:Int)(a2:aA):md a0 a1 a2=Z103.md a0 a1 a2:=by
 unfold md Z103.md
 simp only [Z219.br,Z227.br]
 generalize Z102.md (a0.bY.getD (toNat (Z96.md a0 a1)) bA.zero) a2=A
 have mx:∀n:Int,toNat (cond (decide ((0:Int)<n)) n 0)=toNat n:=by
  intro n
  by_cases h:(0:Int)<n
  ·rw [decide_eq_true h];rfl
  ·rw [decide_eq_false h];simp only [bh];omega
 have e:∀k:Nat,(⟨List.take k A.aP,A.bS,A.bg,A.cX,A.eo⟩:aj)=bif decide ((A.aP.length:Int)>0) then (⟨List.take k A.aP,A.bS,A.bg,A.cX,A.eo⟩:aj) else A:=by
  intro k
  obtain ⟨ch,f,e,p,g⟩:=A
  cases ch with
  | nil=>simp
  | cons x xs=>simp only [List.length_cons];rw [decide_eq_true (by omega)];rfl
 simp only [mx,<-e]
end Z228
namespace Z229
inductive Pt where
 | p0 (a:Int) (b:aA) (c:aF) (d e:Int) (f:aF)
def pid:Pt->Nat
 | .p0 ..=>3
def cQ:Pt->List V
 | .p0 a b c d e f=>[.int .i64 a,.str b,.own 0,.sl none 138 c,.int .i64 d,.int .i64 e]
def cR:Pt->List aS
 | .p0 a b c d e f=>[.row 126 f]
def step (J:Pt->aH):Pt->aH
 | .p0 a b c d e f=>(cond (decide (e<d)) (m2 e (c.length:Int) (call (Z228.R ((dR.at c (toNat e)),a,b)) fun v1=>(cK (eO (((f.length:Int)+1)*304)) (J (.p0 a b c d (i64.wrap (e+1)) (f++[(aO.enc v1)])))))) (ret (f:aF)))
def start (J:Pt->aH)(x0:aF)(x1:Int)(x2:aA):aH:=(cK (decide ((0:Int)<=(cond (decide ((x0.length:Int)<4)) (x0.length:Int) 4))) (cK (decide ((cond (decide ((x0.length:Int)<4)) (x0.length:Int) 4)<=(x0.length:Int))) (J (.p0 x1 x2 (List.take (toNat ((cond (decide ((x0.length:Int)<4)) (x0.length:Int) 4) - 0)) (List.drop 0 x0)) ((List.take (toNat ((cond (decide ((x0.length:Int)<4)) (x0.length:Int) 4) - 0)) (List.drop 0 x0)).length:Int) 0 []))))
def live:Nat->Live:=fun i=>match i with | 3=>[(1,none),(2,none),(7,some 126),(15,none),(16,none),(17,none)] | _=>[]
def md (a0:List aR)(a1:Int)(a2:aA):List aj:=((List.take (toNat ((cond (decide ((a0.length:Int)<4)) (a0.length:Int) 4) - 0)) (List.drop 0 a0)).map (fun (y1:aR)=>(Z228.md y1 a1 a2)))
def gd (a0:List aR)(a1:Int)(a2:aA):Prop:=(bI (2^21) (fun y:aR=>aR.Sm (2^21) y) a0)/\(a2.size<=(2^21))
def R:=RR (p3 gd) (u3 md)
def ak {a0 a1 a2}(h:gd a0 a1 a2):R ((a0.map aR.row),a1,a2)=some ((md a0 a1 a2).map aj.row):=aM (a:=(a0,a1,a2)) h
def aV:=CN [pL 138,pI,pS] (oL 126) RT.dec R
def bp (a0)(a1)(a2)(hg:gd a0 a1 a2):∃n,start (iter step n) (a0.map aR.row) a1 a2=ret ((md a0 a1 a2).map aj.row):=by
 obtain ⟨H0,H2⟩:=hg
 unfold start md
 try simp only [SS]
 refine dw (have:=(H0).1;dt) ?_
 refine dw (have:=(H0).1;dt) ?_
 have Bh2:(List.take (toNat ((cond (decide ((a0.length:Int)<4)) (a0.length:Int) 4) - 0)) (List.drop 0 a0)).length<=maxLen:=(by
   have:=(H0).1
   have:=((bI.take (k:=(toNat ((cond (decide ((a0.length:Int)<4)) (a0.length:Int) 4) - 0))) (bI.drop (k:=0) H0))).1
   try simp only [maxLen] at *
   omega)
 refine ex_eq (out:=(fun b:List aj=>ret ((b.map aj.row):aF))) (mX (g:=fun (y1:aR)=>(Z228.md y1 a1 a2)) (z:=aR.zero) (t:=fun (s3:List aj)=>s3)) ?_
 refine dG (p:=Pt.p0 a1 a2 ((List.take (toNat ((cond (decide ((a0.length:Int)<4)) (a0.length:Int) 4) - 0)) (List.drop 0 a0)).map aR.row) ((List.take (toNat ((cond (decide ((a0.length:Int)<4)) (a0.length:Int) 4) - 0)) (List.drop 0 a0)).length:Int) 0 ([].map aj.row)) fz ?_
 refine bU (pt:=fun (i1:Nat) (s3:List aj)=>Pt.p0 a1 a2 ((List.take (toNat ((cond (decide ((a0.length:Int)<4)) (a0.length:Int) 4) - 0)) (List.drop 0 a0)).map aR.row) ((List.take (toNat ((cond (decide ((a0.length:Int)<4)) (a0.length:Int) 4) - 0)) (List.drop 0 a0)).length:Int) (i1:Int) (s3.map aj.row)) (s:=([]:List aj)) (out:=(fun b:List aj=>ret ((b.map aj.row):aF))) (fun (i1:Nat) (s3:List aj)=>s3.length<=([]:List Int).length+1*i1) (fun J i1 s3 h2 hih2=>?_) (fun s3 hih2=>?_) (by simp)
 ·simp only [step,SS]
  have gr_:=hih2
  try simp only [LN] at gr_
  have bb_:=Bh2
  simp only [maxLen] at bb_
  have:=(H0).1
  have:=((bI.take (k:=(toNat ((cond (decide ((a0.length:Int)<4)) (a0.length:Int) 4) - 0))) (bI.drop (k:=0) H0))).1
  refine bk.yes (by apply decide_eq_true;omega) ?_
  refine bk.yes bE ?_
  refine bk.yes (bM h2) ?_
  refine cr (Z228.ak ⟨(bI.getD (z:=aR.zero) (bI.take (k:=(toNat ((cond (decide ((a0.length:Int)<4)) (a0.length:Int) 4) - 0))) (bI.drop (k:=0) H0)) h2),H2⟩) ?_
  try simp only [SS]
  refine bk.yes lm ?_
  refine bk.inl (by
    have g_:=hih2
    try simp only [LN] at g_ ⊢
    first | omega | (simp;done) | (simp;omega)) ?_
  rw [aJ h2 Bh2]
  all_goals exact fz
 ·simp only [step,SS]
  have gr_:=hih2
  try simp only [LN] at gr_
  have:=(H0).1
  have:=((bI.take (k:=(toNat ((cond (decide ((a0.length:Int)<4)) (a0.length:Int) 4) - 0))) (bI.drop (k:=0) H0))).1
  refine cY (by apply decide_eq_false;omega) ?_
  refine ⟨0,?_⟩
  all_goals exact fz
def af:cq 98 aV:=L3 30 pid cQ cR live step start mix aD bp (.cons Z228.af .nil) Tryz.func98
def br (a0:List aR)(a1:Int)(a2:aA):md a0 a1 a2=Z104.md a0 a1 a2:=by
 rw [Z104.tc]
 unfold md
 simp only [Z228.br,Int.sub_zero,List.drop_zero]
 congr 1
 by_cases h:(a0.length:Int)<4
 ·rw [decide_eq_true h,aZ,List.take_of_length_le (by omega),List.take_of_length_le (by omega)]
 ·rw [decide_eq_false h];rfl
end Z229
namespace Z230
def F (x0:aF):aH:=(call (Z196.R x0) fun v1=>(cond (!v1) (ret (((⟨0,0,0,0,0,0,0,0,(⟨[],0⟩:bC),(⟨[],0⟩:bC),0,(⟨[],0⟩:bC),false⟩:bW),false):bW×Bool)) (call (Z197.R x0) fun v2=>(call (Z135.R v2) fun v3=>ret ((v3,true):bW×Bool)))))
def md (a0:List aa):aE×Bool:=(cond (!(Z196.md a0)) ((⟨0,0,0,0,0,0,0,0,(⟨[],0⟩:aL),(⟨[],0⟩:aL),0,(⟨[],0⟩:aL),false⟩:aE),false) ((Z197.md a0),true))
def gd (a0:List aa):Prop:=(bI (2^21) (fun y:aa=>aa.Sm (2^21) y) a0)
def R:=RR gd md
def ak {a0}(h:gd a0):R (a0.map aa.row)=some ((aE.r (md a0).1),(md a0).2):=aM (a:=a0) h
def aV:=CN [pL 178] (.hU [(true,f175),(false,[fB])]) RT.dec R
def bp (a0)(hg:gd a0):F (a0.map aa.row)=ret ((aE.r (md a0).1),(md a0).2):=by
 unfold gd at hg
 have H0:=hg
 unfold F md
 try simp only [SS]
 refine ct (Z196.ak H0) ?_
 refine aq (fun b:aE×Bool=>ret (((aE.r b.1),b.2):bW×Bool)) (fun c1=>?_) (fun c1=>?_)
 ·all_goals exact fz
 ·have dc1:=c1
  try simp only [DC] at dc1
  try have tc1:=Z196.tr (by simpa using c1)
  refine ct (Z197.ak ⟨H0,(by
    have:=(H0).1
    first | assumption | exact om)⟩) ?_
  try simp only [SS]
  refine ct (Z135.ak (Z197.gk (a0:=a0) ⟨H0,(by
    have:=(H0).1
    first | assumption | exact om)⟩)) ?_
  try simp only [SS]
  all_goals exact fz
def af:cq 156 aV:=W1 11 F mix aD bp (.cons Z196.af (.cons Z197.af (.cons Z135.af .nil))) Tryz.func156
def br (a0:List aa):md a0=Z79.md a0:=by
 unfold md Z79.md
 first
 | (simp only [Z196.br];done)
 | (simp only [Z196.br];rfl)
 | rfl
end Z230
namespace Z231
def F (x0:bW)(x1:Int):aH:=(call (Z148.R (x1,x0.cE,x0.cD)) fun v1=>ret (v1:Bool))
def md (a0:aE)(a1:Int):Bool:=((Z148.md a1 a0.cE a0.cD):Bool)
def gd (a0:aE)(a1:Int):Prop:=True
def R:=RR (p2 gd) (u2 md)
def ak {a0 a1}(h:gd a0 a1):R ((aE.r a0),a1)=some (md a0 a1):=aM (a:=(a0,a1)) h
def aV:=CN [.agg fV,pI] oB RT.dec R
def bp (a0)(a1)(hg:gd a0 a1):F (aE.r a0) a1=ret (md a0 a1):=by
 unfold F md
 try simp only [SS]
 refine ct (Z148.ak trivial) ?_
 all_goals exact fz
def af:cq 157 aV:=W2 11 F mix aD bp (.cons Z148.af .nil) Tryz.func157
def br (a0:aE)(a1:Int):md a0 a1=Z111.md a0 a1:=by
 unfold md Z111.md
 first
 | (simp only [Z148.br];done)
 | (simp only [Z148.br];rfl)
 | rfl
end Z231
namespace Z232
inductive Pt where
 | p0 (a b c:Int) (d:aF)
def pid:Pt->Nat
 | .p0 ..=>3
def cQ:Pt->List V
 | .p0 a b c d=>[.int .i64 a,.int .i64 b,.int .i64 c,.sl none 3 d]
def cR:Pt->List aS
 | .p0 a b c d=>[]
def step (J:Pt->aH):Pt->aH
 | .p0 a b c d=>(cond (decide (c>1)) (cond (decide ((nk .i64 b 1)>=c)) (J (.p0 a (i64.wrap (Int.tdiv b 2)) (i64.wrap (Int.tdiv (i64.wrap (c+1)) 2)) d)) (cond ((d.length:Int)==0) (ret ((0,false):Int×Bool)) (cond ((Int.tmod b 2)==0) (cK (decide ((0:Int)<(d.length:Int))) (call (Z209.R (a,(jo d 0))) fun v1=>(cK (decide ((1:Int)<=(d.length:Int))) (cK (decide ((d.length:Int)<=(d.length:Int))) (J (.p0 v1 (i64.wrap (Int.tdiv b 2)) (i64.wrap (Int.tdiv (i64.wrap (c+1)) 2)) (List.take (toNat ((d.length:Int) - 1)) (List.drop 1 d)))))))) (cK (decide ((0:Int)<(d.length:Int))) (call (Z209.R ((jo d 0),a)) fun v2=>(cK (decide ((1:Int)<=(d.length:Int))) (cK (decide ((d.length:Int)<=(d.length:Int))) (J (.p0 v2 (i64.wrap (Int.tdiv b 2)) (i64.wrap (Int.tdiv (i64.wrap (c+1)) 2)) (List.take (toNat ((d.length:Int) - 1)) (List.drop 1 d))))))))))) (cond (decide ((d.length:Int)>0)) (ret ((0,false):Int×Bool)) (ret ((a,true):Int×Bool))))
def start (J:Pt->aH)(x0 x1 x2:Int)(x3:aF):aH:=(cond (decide (x2<1)) (ret ((0,false):Int×Bool)) (cond (decide (x2>12)) (ret ((0,false):Int×Bool)) (call (Z148.R (x1,0,(i64.wrap (x2 - 1)))) fun v1=>(cond (!v1) (ret ((0,false):Int×Bool)) (J (.p0 x0 x1 x2 x3))))))
def live:Nat->Live:=fun i=>match i with | 3=>[(0,none),(1,none),(2,none),(3,none)] | _=>[]
def md (a0 a1 a2:Int)(a3:List Int):Int×Bool:=Z112.md a0 a1 a2 a3
def gd (a0 a1 a2:Int)(a3:List Int):Prop:=bI (2^38) (fun y:Int=>True) a3
def R:=RR (p4 gd) (u4 md)
def ak {a0 a1 a2 a3}(h:gd a0 a1 a2 a3):R (a0,a1,a2,(a3.map bn))=some ((md a0 a1 a2 a3).1,(md a0 a1 a2 a3).2):=aM (a:=(a0,a1,a2,a3)) h
def aV:=CN [pI,pI,pI,pL 3] (.hU [(false,[fI]),(false,[fB])]) RT.dec R
def bp (a0)(a1)(a2)(a3)(hg:gd a0 a1 a2 a3):∃n,start (iter step n) a0 a1 a2 (a3.map bn)=ret ((md a0 a1 a2 a3).1,(md a0 a1 a2 a3).2):=by
 have tm:∀b:Int,0<=b->b<=11->Int.tmod b 2=b % 2:=fun b h1 h2=>Int.tmod_eq_emod_of_nonneg h1
 have td:∀b:Int,0<=b->b<=13->i64.wrap (Int.tdiv b 2)=b / 2:=fun b h1 h2=>by
  rw [Int.tdiv_eq_ediv_of_nonneg h1,Go.IntWalk.i64_in _ (by omega)]
 have t1:∀b:Int,0<=b->b<=13->i64.wrap (b+1)=b+1:=fun b h1 h2=>Go.IntWalk.i64_in _ (by omega)
 have xr:∀b:Int,0<=b->b<=11->nk .i64 b 1=if b % 2=0 then b+1 else b - 1:=by
  intro b h1 h2
  have :b=0∨b=1∨b=2∨b=3∨b=4∨b=5∨b=6∨b=7∨b=8∨b=9∨b=10∨b=11:=by omega
  rcases this with h | h | h | h | h | h | h | h | h | h | h | h<;>subst h<;>decide
 have key:∀(k:Nat) (leaf i n:Int) (p:List Int),p.length<=2^38->0<=i->i<n->n<=12->n<=2^k->∃m,iter step m (Pt.p0 leaf i n (p.map bn))=ret ((Z112.tf (k+1) leaf i n p).1,(Z112.tf (k+1) leaf i n p).2):=by
  have fin:∀(leaf:Int) (p:List Int) (J:Pt->aH),step J (Pt.p0 leaf 0 1 (p.map bn))=ret ((if p.isEmpty then (leaf,true) else (0,false)).1,(if p.isEmpty then (leaf,true) else (0,false)).2):=by
   intro leaf p J
   simp only [step,List.length_map]
   refine eE (by decide) ?_
   cases p with
   | nil=>rfl
   | cons x xs=>exact aN (decide_eq_true (by simp only [List.length_cons];omega)) rfl
  intro k
  induction k with
  | zero=>
   intro leaf i n p hp h1 h2 h3 h4
   have hn:n=1:=by omega
   subst hn
   have hi:i=0:=by omega
   subst hi
   exact ⟨1,(fin leaf p _).trans rfl⟩
  | succ k ih=>
   intro leaf i n p hp h1 h2 h3 h4
   have hk:n<=2*2^k:=by rw [Int.pow_succ] at h4;omega
   unfold Z112.tf
   by_cases hn:n>1
   ·have e1:=tm i h1 (by omega)
    have e2:=td i h1 (by omega)
    have e3:=t1 n (by omega) (by omega)
    have e4:=td (n+1) (by omega) (by omega)
    have e6:=xr i h1 (by omega)
    rw [if_pos hn]
    by_cases hc:i % 2=1∨i+1<n
    ·have hx:decide (nk .i64 i 1>=n)=false:=by
      rw [e6]
      split
      ·exact decide_eq_false (by omega)
      ·exact decide_eq_false (by omega)
     rw [if_pos hc]
     cases p with
     | nil=>
      refine ⟨1,?_⟩
      show step (iter step 0) (Pt.p0 _ _ _ _)=_
      simp only [step,hx]
      exact aN (decide_eq_true (by omega)) (eE rfl (aN rfl rfl))
     | cons x xs=>
      simp only [List.length_cons] at hp
      obtain ⟨m,hm⟩:=ih (if i % 2=1 then Z88.md x leaf else Z88.md leaf x) (i / 2) ((n+1) / 2) xs (by omega) (by omega) (by omega) (by omega) (by omega)
      refine ⟨m+1,?_⟩
      show step (iter step m) (Pt.p0 _ _ _ _)=_
      have ht:List.take (toNat ((xs.length:Int)+1 - 1)) (List.drop 1 ((x::xs).map bn))=xs.map bn:=by
       simp only [List.map_cons,List.drop_succ_cons,List.drop_zero]
       exact List.take_of_length_le (by simp)
      have hl:(((x::xs).map bn).length:Int)=(xs.length:Int)+1:=by simp
      simp only [step,hx,e1,e2,e3,e4,ht,hl]
      refine aN (decide_eq_true (by omega)) (eE rfl (eE (beq_eq_false_iff_ne.2 (by omega)) ?_))
      have hat:jo ((x::xs).map bn) 0=x:=rfl
      rw [hat]
      by_cases hp:i % 2=1
      ·rw [if_pos hp] at hm
       rw [hp]
       refine eE rfl (aN (decide_eq_true (by omega)) (cF (Z88.md x leaf) (by have:=Z209.ak (a0:=x) (a1:=leaf) trivial;rw [Z209.br] at this;exact this) (aN (decide_eq_true (by omega)) (aN (decide_eq_true (by omega)) ?_))))
       rw [if_pos rfl]
       exact hm
      ·rw [if_neg hp] at hm
       have h0:i % 2=0:=by omega
       rw [h0]
       refine aN rfl (aN (decide_eq_true (by omega)) (cF (Z88.md leaf x) (by have:=Z209.ak (a0:=leaf) (a1:=x) trivial;rw [Z209.br] at this;exact this) (aN (decide_eq_true (by omega)) (aN (decide_eq_true (by omega)) ?_))))
       rw [if_neg (by omega)]
       exact hm
    ·have hx:decide (nk .i64 i 1>=n)=true:=by
      rw [e6,if_pos (by omega)]
      exact decide_eq_true (by omega)
     rw [if_neg hc]
     obtain ⟨m,hm⟩:=ih leaf (i / 2) ((n+1) / 2) p hp (by omega) (by omega) (by omega) (by omega)
     refine ⟨m+1,?_⟩
     show step (iter step m) (Pt.p0 _ _ _ _)=_
     simp only [step,hx,e2,e3,e4]
     exact aN (decide_eq_true (by omega)) (aN rfl hm)
   ·have hn1:n=1:=by omega
    subst hn1
    have hi:i=0:=by omega
    subst hi
    refine ⟨1,(fin leaf p _).trans ?_⟩
    rw [if_neg (show ¬(1:Int)>1 by omega)]
 unfold start md Z112.md
 obtain ⟨H3,_⟩:=hg
 by_cases c1:a2<1
 ·refine ⟨0,aN (decide_eq_true c1) ?_⟩
  rw [show Z49.md a2 1 12=false from by simp [Z49.md];omega];rfl
 refine cY (decide_eq_false c1) ?_
 by_cases c2:a2>12
 ·refine ⟨0,aN (decide_eq_true c2) ?_⟩
  rw [show Z49.md a2 1 12=false from by simp [Z49.md];omega];rfl
 refine cY (decide_eq_false c2) ?_
 rw [show Z49.md a2 1 12=true from by simp [Z49.md];omega]
 simp only [Bool.not_true,bh]
 refine eW (Z49.md a1 0 (i64.wrap (a2 - 1))) (by have:=Z148.ak (a0:=a1) (a1:=0) (a2:=i64.wrap (a2 - 1)) trivial;rw [Z148.br] at this;exact this) ?_
 cases hd:Z49.md a1 0 (i64.wrap (a2 - 1))
 ·exact ⟨0,rfl⟩
 rw [Go.IntWalk.i64_in _ (by omega)] at hd
 have i2:0<=a1/\a1<=a2 - 1:=by simpa [Z49.md] using hd
 exact key 4 a0 a1 a2 a3 H3 (by omega) (by omega) (by omega) (by omega)
def af:cq 266 aV:=L4 56 pid cQ cR live step start mix aD bp (.cons Z148.af (.cons Z209.af .nil)) Tryz.func266
def br (a0 a1 a2:Int)(a3:List Int):md a0 a1 a2 a3=Z112.md a0 a1 a2 a3:=by
 unfold md Z112.md
 first
 | (simp only [Z148.br,Z209.br];done)
 | (simp only [Z148.br,Z209.br];rfl)
 | rfl
end Z232
namespace Z233
def F (x0 x1:Int)(x2:aW)(x3:bH):aH:=(call (Z206.R x2) fun v1=>(call (Z232.R (v1,x3.ec,x1,x3.bB)) fun v2=>(cond v2.2 (call (Z198.R x2) fun v3=>(cond v3 (call (Z212.R (x1,v2.1)) fun v4=>ret ((v4==x0):Bool)) bf)) bf)))
def md (a0 a1:Int)(a2:ah)(a3:aB):Bool:=(cond ((Z232.md (Z206.md a2) a3.ec a1 a3.bB).2) (cond (Z198.md a2) (((Z212.md a1 ((Z232.md (Z206.md a2) a3.ec a1 a3.bB).1))==a0):Bool) (false:Bool)) (false:Bool))
def gd (a0 a1:Int)(a2:ah)(a3:aB):Prop:=(ah.Sm (2^21) a2)/\(aB.Sm (2^21) a3)
def R:=RR (p4 gd) (u4 md)
def ak {a0 a1 a2 a3}(h:gd a0 a1 a2 a3):R (a0,a1,(ah.r a2),(aB.r a3))=some (md a0 a1 a2 a3):=aM (a:=(a0,a1,a2,a3)) h
def aV:=CN [pI,pI,.agg sX,.agg oo] oB RT.dec R
def bp (a0)(a1)(a2)(a3)(hg:gd a0 a1 a2 a3):F a0 a1 (ah.r a2) (aB.r a3)=ret (md a0 a1 a2 a3):=by
 obtain ⟨H2,H3⟩:=hg
 unfold F md
 try simp only [SS]
 refine ct (Z206.ak H2) ?_
 refine ct (Z232.ak (H3.mono (by decide) (fun x hx=>trivial))) ?_
 refine aq ret (fun c1=>?_) (fun _=>rfl)
 refine ct (Z198.ak H2) ?_
 refine aq ret (fun c2=>?_) (fun _=>rfl)
 refine ct (Z212.ak trivial) ?_
 all_goals exact fz
def af:cq 205 aV:=W4 34 F mix aD bp (.cons Z206.af (.cons Z232.af (.cons Z198.af (.cons Z212.af .nil)))) Tryz.func205
def br (a0 a1:Int)(a2:ah)(a3:aB):md a0 a1 a2 a3=Z113.md a0 a1 a2 a3:=by
 unfold md Z113.md
 simp only [Z232.br,Z206.br,Z198.br,Z212.br]
 cases Z80.md a2<;>cases (Z112.md (Z86.md a2) a3.ec a1 a3.bB).2<;>rfl
end Z233
namespace Z234
inductive Pt where
 | p0 (a b:aF) (c d:Int)
def pid:Pt->Nat
 | .p0 ..=>4
def cQ:Pt->List V
 | .p0 a b c d=>[.sl none 9 a,.sl none 9 b,.int .i64 c,.int .i64 d]
def cR:Pt->List aS
 | .p0 a b c d=>[]
def step (J:Pt->aH):Pt->aH
 | .p0 a b c d=>(cond (decide (d<c)) (m2 d (a.length:Int) (m2 d (b.length:Int) (cond (!((pW a (toNat d))==(pW b (toNat d)))) bf (J (.p0 a b c (i64.wrap (d+1))))))) eG)
def start (J:Pt->aH)(x0 x1:aF):aH:=(cond ((x0.length:Int) != (x1.length:Int)) bf (J (.p0 x0 x1 (x0.length:Int) 0)))
def live:Nat->Live:=fun i=>match i with | 4=>[(0,none),(1,none),(12,none),(13,none)] | _=>[]
def md (a0 a1:List aA):Bool:=(bif ((a0.length:Int) != (a1.length:Int)) then (false:Bool) else (eD (S:=Unit) (β:=Bool) (fun (i2:Nat) (s4:Unit)=>(cond (!((a0.getD i2 ⟨#[]⟩)==(a1.getD i2 ⟨#[]⟩))) (.inr (false:Bool)) (.inl ()))) (fun (s4:Unit)=>(true:Bool)) a0.length 0 ()))
def gd (a0 a1:List aA):Prop:=(bI (2^21) (fun y:aA=>y.size<=(2^21)) a0)/\(bI (2^21) (fun y:aA=>y.size<=(2^21)) a1)
def R:=RR (p2 gd) (u2 md)
def ak {a0 a1}(h:gd a0 a1):R ((a0.map cL),(a1.map cL))=some (md a0 a1):=aM (a:=(a0,a1)) h
def aV:=CN [pL 9,pL 9] oB RT.dec R
def bp (a0)(a1)(hg:gd a0 a1):∃n,start (iter step n) (a0.map cL) (a1.map cL)=ret (md a0 a1):=by
 obtain ⟨H0,H1⟩:=hg
 unfold start md
 try simp only [SS]
 refine gP ret (fun _=>⟨0,rfl⟩) (fun c1=>?_)
 have dc1:=c1
 try simp only [DC] at dc1
 have Bh3:a0.length<=maxLen:=(by
   have:=(H0).1
   try simp only [maxLen] at *
   omega)
 refine dG (p:=Pt.p0 (a0.map cL) (a1.map cL) (a0.length:Int) 0) fz ?_
 refine bU (pt:=fun (i2:Nat) (s4:Unit)=>Pt.p0 (a0.map cL) (a1.map cL) (a0.length:Int) (i2:Int)) (s:=(():Unit)) (out:=ret) (fun _ _=>True) (fun J i2 s4 h3 hih3=>?_) (fun s4 hih3=>?_) trivial
 ·simp only [step,SS]
  have bb_:=Bh3
  simp only [maxLen] at bb_
  have:=(H0).1
  refine bk.yes (by apply decide_eq_true;omega) ?_
  refine bk.yes bE ?_
  refine bk.yes (bM h3) ?_
  refine bk.yes bE ?_
  refine bk.yes (have:=(H1).1;dt) ?_
  refine bk.bif (fun _=>bk.inr rfl) (fun c5=>?_)
  refine bk.inl trivial ?_
  rw [aJ h3 Bh3]
  all_goals exact fz
 ·simp only [step,SS]
  have:=(H0).1
  refine cY (by apply decide_eq_false;omega) ?_
  refine ⟨0,?_⟩
  all_goals exact fz
def af:cq 319 aV:=L2 26 pid cQ cR live step start mix aD bp .nil Tryz.func319
def md_eq (a0 a1:List aA):md a0 a1=eu a0 a1:=by
 unfold md
 refine jY (⟨#[]⟩) (fun i s h h2=>?_) (fun s=>rfl)
 simp only [bne,eT,bool_beq,eM]
 cases eu _ _<;>rfl
end Z234
namespace Z235
def F (x0 x1:aW):aH:=(cond (x0.aQ==x1.aQ) (cond (x0.bL==x1.bL) (cond (x0.bX==x1.bX) (call (Z234.R (x0.bB,x1.bB)) fun v1=>ret (v1:Bool)) bf) bf) bf)
def md (a0 a1:ah):Bool:=(cond (a0.aQ==a1.aQ) (cond (a0.bL==a1.bL) (cond (a0.bX==a1.bX) ((Z234.md a0.bB a1.bB):Bool) (false:Bool)) (false:Bool)) (false:Bool))
def gd (a0 a1:ah):Prop:=(ah.Sm (2^21) a0)/\(ah.Sm (2^21) a1)
def R:=RR (p2 gd) (u2 md)
def ak {a0 a1}(h:gd a0 a1):R ((ah.r a0),(ah.r a1))=some (md a0 a1):=aM (a:=(a0,a1)) h
def aV:=CN [.agg sX,.agg sX] oB RT.dec R
def bp (a0)(a1)(hg:gd a0 a1):F (ah.r a0) (ah.r a1)=ret (md a0 a1):=by
 obtain ⟨H0,H1⟩:=hg
 unfold F md
 try simp only [SS]
 refine aq ret (fun c1=>?_) (fun _=>rfl)
 refine aq ret (fun c2=>?_) (fun _=>rfl)
 refine aq ret (fun c3=>?_) (fun _=>rfl)
 refine ct (Z234.ak ⟨H0.2,H1.2⟩) ?_
 all_goals exact fz
def af:cq 270 aV:=W2 31 F mix aD bp (.cons Z234.af .nil) Tryz.func270
def md_eq (a0 a1:ah):md a0 a1=eu a0 a1:=by
 unfold md
 cases a0;cases a1
 rw [Bool.eq_iff_iff]
 simp [cU,eM,ah.mk.injEq,Z234.md_eq]
 try (constructor<;>(intro h;simp_all))
end Z235
namespace Z236
def F (x0 x1:bH):aH:=(cond (x0.ec==x1.ec) (call (Z188.R (x0.bB,x1.bB)) fun v1=>ret (v1:Bool)) bf)
def md (a0 a1:aB):Bool:=(cond (a0.ec==a1.ec) ((Z188.md a0.bB a1.bB):Bool) (false:Bool))
def gd (a0 a1:aB):Prop:=(aB.Sm (2^21) a0)/\(aB.Sm (2^21) a1)
def R:=RR (p2 gd) (u2 md)
def ak {a0 a1}(h:gd a0 a1):R ((aB.r a0),(aB.r a1))=some (md a0 a1):=aM (a:=(a0,a1)) h
def aV:=CN [.agg oo,.agg oo] oB RT.dec R
def bp (a0)(a1)(hg:gd a0 a1):F (aB.r a0) (aB.r a1)=ret (md a0 a1):=by
 obtain ⟨H0,H1⟩:=hg
 unfold F md
 try simp only [SS]
 refine aq ret (fun c1=>?_) (fun _=>rfl)
 refine ct (Z188.ak ⟨(H0.mono (by decide) (fun x hx=>trivial)),(H1.mono (by decide) (fun x hx=>trivial))⟩) ?_
 all_goals exact fz
def af:cq 271 aV:=W2 17 F mix aD bp (.cons Z188.af .nil) Tryz.func271
def md_eq (a0 a1:aB):md a0 a1=eu a0 a1:=by
 unfold md
 cases a0;cases a1
 rw [Bool.eq_iff_iff]
 simp [cU,eM,aB.mk.injEq,Z188.md_eq]
 try (constructor<;>(intro h;simp_all))
end Z236
namespace Z237
def F (x0 x1:dm):aH:=(cond (x0.ec==x1.ec) (call (Z235.R (x0.aX,x1.aX)) fun v1=>(cond v1 (call (Z235.R (x0.bQ,x1.bQ)) fun v2=>(cond v2 (call (Z236.R (x0.dx,x1.dx)) fun v3=>(cond v3 (call (Z236.R (x0.cw,x1.cw)) fun v4=>ret (v4:Bool)) bf)) bf)) bf)) bf)
def md (a0 a1:bG):Bool:=(cond (a0.ec==a1.ec) (cond (Z235.md a0.aX a1.aX) (cond (Z235.md a0.bQ a1.bQ) (cond (Z236.md a0.dx a1.dx) ((Z236.md a0.cw a1.cw):Bool) (false:Bool)) (false:Bool)) (false:Bool)) (false:Bool))
def gd (a0 a1:bG):Prop:=(bG.Sm (2^21) a0)/\(bG.Sm (2^21) a1)
def R:=RR (p2 gd) (u2 md)
def ak {a0 a1}(h:gd a0 a1):R ((bG.r a0),(bG.r a1))=some (md a0 a1):=aM (a:=(a0,a1)) h
def aV:=CN [.agg ql,.agg ql] oB RT.dec R
def bp (a0)(a1)(hg:gd a0 a1):F (bG.r a0) (bG.r a1)=ret (md a0 a1):=by
 obtain ⟨H0,H1⟩:=hg
 unfold F md
 try simp only [SS]
 refine aq ret (fun c1=>?_) (fun _=>rfl)
 refine ct (Z235.ak ⟨H0.1,H1.1⟩) ?_
 refine aq ret (fun c2=>?_) (fun _=>rfl)
 refine ct (Z235.ak ⟨H0.2.1,H1.2.1⟩) ?_
 refine aq ret (fun c3=>?_) (fun _=>rfl)
 refine ct (Z236.ak ⟨H0.2.2.1,H1.2.2.1⟩) ?_
 refine aq ret (fun c4=>?_) (fun _=>rfl)
 refine ct (Z236.ak ⟨H0.2.2.2,H1.2.2.2⟩) ?_
 all_goals exact fz
def af:cq 206 aV:=W2 38 F mix aD bp (.cons Z235.af (.cons Z236.af .nil)) Tryz.func206
def md_eq (a0 a1:bG):md a0 a1=eu a0 a1:=by
 unfold md
 cases a0;cases a1
 rw [Bool.eq_iff_iff]
 simp [cU,eM,bG.mk.injEq,Z235.md_eq,Z236.md_eq]
 try (constructor<;>(intro h;simp_all))
end Z237
namespace Z238
def F (x0:aW):aH:=(call (Z235.R (x0,(⟨(⟨#[]⟩:aA),0,0,[]⟩:aW))) fun v1=>ret (v1:Bool))
def md (a0:ah):Bool:=((Z235.md a0 (⟨((⟨#[]⟩:aA):aA),0,0,[]⟩:ah)):Bool)
def gd (a0:ah):Prop:=(ah.Sm (2^21) a0)
def R:=RR gd md
def ak {a0}(h:gd a0):R (ah.r a0)=some (md a0):=aM (a:=a0) h
def aV:=CN [.agg sX] oB RT.dec R
def bp (a0)(hg:gd a0):F (ah.r a0)=ret (md a0):=by
 unfold gd at hg
 have H0:=hg
 unfold F md
 try simp only [SS]
 refine ct (Z235.ak (a1:=(⟨((⟨#[]⟩:aA):aA),0,0,[]⟩:ah)) ⟨H0,⟨(by decide),bI.nil⟩⟩) ?_
 all_goals exact fz
def af:cq 208 aV:=W1 6 F mix aD bp (.cons Z235.af .nil) Tryz.func208
end Z238
namespace Z239
def F (x0:bH):aH:=(call (Z236.R (x0,(⟨0,[]⟩:bH))) fun v1=>ret (v1:Bool))
def md (a0:aB):Bool:=((Z236.md a0 (⟨0,[]⟩:aB)):Bool)
def gd (a0:aB):Prop:=(aB.Sm (2^21) a0)
def R:=RR gd md
def ak {a0}(h:gd a0):R (aB.r a0)=some (md a0):=aM (a:=a0) h
def aV:=CN [.agg oo] oB RT.dec R
def bp (a0)(hg:gd a0):F (aB.r a0)=ret (md a0):=by
 unfold gd at hg
 have H0:=hg
 unfold F md
 try simp only [SS]
 refine ct (Z236.ak (a1:=(⟨0,[]⟩:aB)) ⟨H0,bI.nil⟩) ?_
 all_goals exact fz
def af:cq 209 aV:=W1 6 F mix aD bp (.cons Z236.af .nil) Tryz.func209
end Z239
namespace Z240
def F (x0 x1:Int)(x2:aW)(x3:bH)(x4:Int):aH:=(call (Z148.R (x4,0,(i64.wrap (x1 - 1)))) fun v1=>(cond (!v1) (call (Z238.R x2) fun v2=>(cond v2 (call (Z239.R x3) fun v3=>ret (v3:Bool)) bf)) (call (Z233.R (x0,x1,x2,x3)) fun v4=>(cond v4 (ret ((x3.ec==x4):Bool)) bf))))
def md (a0 a1:Int)(a2:ah)(a3:aB)(a4:Int):Bool:=(cond (!(Z148.md a4 0 (i64.wrap (a1 - 1)))) (cond (Z238.md a2) ((Z239.md a3):Bool) (false:Bool)) (cond (Z233.md a0 a1 a2 a3) ((a3.ec==a4):Bool) (false:Bool)))
def gd (a0 a1:Int)(a2:ah)(a3:aB)(a4:Int):Prop:=(ah.Sm (2^21) a2)/\(aB.Sm (2^21) a3)
def R:=RR (p5 gd) (u5 md)
def ak {a0 a1 a2 a3 a4}(h:gd a0 a1 a2 a3 a4):R (a0,a1,(ah.r a2),(aB.r a3),a4)=some (md a0 a1 a2 a3 a4):=aM (a:=(a0,a1,a2,a3,a4)) h
def aV:=CN [pI,pI,.agg sX,.agg oo,pI] oB RT.dec R
def bp (a0)(a1)(a2)(a3)(a4)(hg:gd a0 a1 a2 a3 a4):F a0 a1 (ah.r a2) (aB.r a3) a4=ret (md a0 a1 a2 a3 a4):=by
 obtain ⟨H2,H3⟩:=hg
 unfold F md
 try simp only [SS]
 refine ct (Z148.ak trivial) ?_
 refine aq ret (fun c1=>?_) (fun c1=>?_)
 ·refine ct (Z238.ak H2) ?_
  refine aq ret (fun c2=>?_) (fun _=>rfl)
  refine ct (Z239.ak H3) ?_
  all_goals exact fz
 ·refine ct (Z233.ak ⟨H2,H3⟩) ?_
  refine aq ret (fun c3=>?_) (fun _=>rfl)
  all_goals exact fz
def af:cq 273 aV:=W5 33 F mix aD bp (.cons Z148.af (.cons Z238.af (.cons Z239.af (.cons Z233.af .nil)))) Tryz.func273
end Z240
namespace Z241
def F (x0 x1:Int)(x2:aA)(x3:dm):aH:=(call (Z149.R x2) fun v1=>(cond (!v1) bf (call (Z148.R (x3.ec,0,x1)) fun v2=>(cond (!v2) bf (cond (x1==0) (call (Z213.R []) fun v3=>(cond (x0 != v3) bf (call (Z240.R (x0,x1,x3.aX,x3.dx,(i64.wrap (x3.ec - 1)))) fun v4=>(cond (!v4) bf (call (Z240.R (x0,x1,x3.bQ,x3.cw,x3.ec)) fun v5=>(cond (!v5) bf (cond (x3.ec==0) (cond (x3.ec==x1) eG (call (Z201.R (x3.bQ.aQ,x2)) fun v6=>ret ((decide (v6>0)):Bool))) (call (Z201.R (x3.aX.aQ,x2)) fun v7=>(cond (decide (v7<0)) (cond (x3.ec==x1) eG (call (Z201.R (x3.bQ.aQ,x2)) fun v8=>ret ((decide (v8>0)):Bool))) bf))))))))) (call (Z240.R (x0,x1,x3.aX,x3.dx,(i64.wrap (x3.ec - 1)))) fun v9=>(cond (!v9) bf (call (Z240.R (x0,x1,x3.bQ,x3.cw,x3.ec)) fun v10=>(cond (!v10) bf (cond (x3.ec==0) (cond (x3.ec==x1) eG (call (Z201.R (x3.bQ.aQ,x2)) fun v11=>ret ((decide (v11>0)):Bool))) (call (Z201.R (x3.aX.aQ,x2)) fun v12=>(cond (decide (v12<0)) (cond (x3.ec==x1) eG (call (Z201.R (x3.bQ.aQ,x2)) fun v13=>ret ((decide (v13>0)):Bool))) bf))))))))))))
def md (a0 a1:Int)(a2:aA)(a3:bG):Bool:=(cond (!(Z149.md a2)) (false:Bool) (cond (!(Z148.md a3.ec 0 a1)) (false:Bool) (cond (a1==0) (cond (a0 != (Z213.md [])) (false:Bool) (cond (!(Z240.md a0 a1 a3.aX a3.dx (i64.wrap (a3.ec - 1)))) (false:Bool) (cond (!(Z240.md a0 a1 a3.bQ a3.cw a3.ec)) (false:Bool) (cond (a3.ec==0) (cond (a3.ec==a1) (true:Bool) ((decide ((Z201.md a3.bQ.aQ a2)>0)):Bool)) (cond (decide ((Z201.md a3.aX.aQ a2)<0)) (cond (a3.ec==a1) (true:Bool) ((decide ((Z201.md a3.bQ.aQ a2)>0)):Bool)) (false:Bool)))))) (cond (!(Z240.md a0 a1 a3.aX a3.dx (i64.wrap (a3.ec - 1)))) (false:Bool) (cond (!(Z240.md a0 a1 a3.bQ a3.cw a3.ec)) (false:Bool) (cond (a3.ec==0) (cond (a3.ec==a1) (true:Bool) ((decide ((Z201.md a3.bQ.aQ a2)>0)):Bool)) (cond (decide ((Z201.md a3.aX.aQ a2)<0)) (cond (a3.ec==a1) (true:Bool) ((decide ((Z201.md a3.bQ.aQ a2)>0)):Bool)) (false:Bool))))))))
def gd (a0 a1:Int)(a2:aA)(a3:bG):Prop:=(a2.size<=(2^21))/\(bG.Sm (2^21) a3)
def R:=RR (p4 gd) (u4 md)
def ak {a0 a1 a2 a3}(h:gd a0 a1 a2 a3):R (a0,a1,a2,(bG.r a3))=some (md a0 a1 a2 a3):=aM (a:=(a0,a1,a2,a3)) h
def aV:=CN [pI,pI,pS,.agg ql] oB RT.dec R
def bp (a0)(a1)(a2)(a3)(hg:gd a0 a1 a2 a3):F a0 a1 a2 (bG.r a3)=ret (md a0 a1 a2 a3):=by
 obtain ⟨H2,H3⟩:=hg
 unfold F md
 try simp only [SS]
 refine ct (Z149.ak (le_trans H2 (by decide))) ?_
 refine aq ret (fun _=>rfl) (fun c1=>?_)
 refine ct (Z148.ak trivial) ?_
 refine aq ret (fun _=>rfl) (fun c2=>?_)
 refine aq ret (fun c3=>?_) (fun c3=>?_)
 ·refine cF (Z213.md []) (rq (Z213.ak (a0:=[]) bI.nil)) ?_
  refine aq ret (fun _=>rfl) (fun c4=>?_)
  refine ct (Z240.ak ⟨H3.1,H3.2.2.1⟩) ?_
  refine aq ret (fun _=>rfl) (fun c5=>?_)
  refine ct (Z240.ak ⟨H3.2.1,H3.2.2.2⟩) ?_
  refine aq ret (fun _=>rfl) (fun c6=>?_)
  refine aq ret (fun c7=>?_) (fun c7=>?_)
  ·refine aq ret (fun _=>rfl) (fun c8=>?_)
   refine ct (Z201.ak trivial) ?_
   all_goals exact fz
  ·refine ct (Z201.ak trivial) ?_
   refine aq ret (fun c9=>?_) (fun _=>rfl)
   refine aq ret (fun _=>rfl) (fun c10=>?_)
   refine ct (Z201.ak trivial) ?_
   all_goals exact fz
 ·refine ct (Z240.ak ⟨H3.1,H3.2.2.1⟩) ?_
  refine aq ret (fun _=>rfl) (fun c11=>?_)
  refine ct (Z240.ak ⟨H3.2.1,H3.2.2.2⟩) ?_
  refine aq ret (fun _=>rfl) (fun c12=>?_)
  refine aq ret (fun c13=>?_) (fun c13=>?_)
  ·refine aq ret (fun _=>rfl) (fun c14=>?_)
   refine ct (Z201.ak trivial) ?_
   all_goals exact fz
  ·refine ct (Z201.ak trivial) ?_
   refine aq ret (fun c15=>?_) (fun _=>rfl)
   refine aq ret (fun _=>rfl) (fun c16=>?_)
   refine ct (Z201.ak trivial) ?_
   all_goals exact fz
def af:cq 207 aV:=W4 76 F mix aD bp (.cons Z149.af (.cons Z148.af (.cons Z213.af (.cons Z240.af (.cons Z201.af .nil))))) Tryz.func207
def BY (a0 a1:Int)(a2:aA)(a3:bG)(hc:a1<=1000):md a0 a1 a2 a3=Z119.md a0 a1 a2 a3:=by
 unfold md Z119.md Z240.md Z118.md Z238.md Z239.md
 simp only [Z149.br,Z148.br,Z213.br,Z233.br,Z235.md_eq,Z115.md_eq,Z236.md_eq,Z116.md_eq,Z201.br,Z81.lt,Z81.gt]
 cases Z50.md a2
 ·rfl
 cases hr:Z49.md a3.ec 0 a1
 ·rfl
 have hi:0<=a3.ec/\a3.ec<=a1:=by simpa [Z49.md] using hr
 have w1:i64.wrap (a1 - 1)=a1 - 1:=Go.IntWalk.i64_in _ (by omega)
 have w2:i64.wrap (a3.ec - 1)=a3.ec - 1:=Go.IntWalk.i64_in _ (by omega)
 have e1:Z49.md (a3.ec - 1) 0 (a1 - 1)=!(a3.ec==0):=by
  rw [Bool.eq_iff_iff];simp [Z49.md];omega
 have e2:Z49.md a3.ec 0 (a1 - 1)=!(a3.ec==a1):=by
  rw [Bool.eq_iff_iff];simp [Z49.md];omega
 simp only [w1,w2,e1,e2,bne]
 generalize (a3.ec==0)=z
 generalize (a3.ec==a1)=e
 generalize (a1==0)=c0
 generalize (a0==Z92.md [])=rt
 generalize eu a3.aX _=x1
 generalize eu a3.dx _=x2
 generalize eu a3.bQ _=x3
 generalize eu a3.cw _=x4
 generalize Z113.md a0 a1 a3.aX a3.dx=k1
 generalize Z113.md a0 a1 a3.bQ a3.cw=k2
 generalize (a3.dx.ec==a3.ec - 1)=p1
 generalize (a3.cw.ec==a3.ec)=p2
 generalize (Z81.md a3.aX.aQ a2 == -1)=m1
 generalize (Z81.md a3.bQ.aQ a2==1)=m2
 cases c0<;>cases rt<;>cases z<;>cases e<;>cases x1<;>cases x2<;>cases k1<;>cases p1<;>cases m1<;>first | rfl | (cases x3<;>cases x4<;>rfl) | (cases k2<;>cases p2<;>cases m2<;>rfl)
end Z241
namespace Z242
def F (x0:bW)(x1:aA)(x2:aO):aH:=(cond x2.bS (cond (x2.bg.aQ==x1) (call (Z233.R (x0.dg,x0.cB,x2.bg,x2.cX)) fun v1=>(cond v1 (call (Z237.R (x2.eo,(⟨0,(⟨(⟨#[]⟩:aA),0,0,[]⟩:aW),(⟨(⟨#[]⟩:aA),0,0,[]⟩:aW),(⟨0,[]⟩:bH),(⟨0,[]⟩:bH)⟩:dm))) fun v2=>ret (v2:Bool)) bf)) bf) (call (Z241.R (x0.dg,x0.cB,x1,x2.eo)) fun v3=>(cond v3 (call (Z238.R x2.bg) fun v4=>(cond v4 (call (Z239.R x2.cX) fun v5=>ret (v5:Bool)) bf)) bf)))
def md (a0:aE)(a1:aA)(a2:aj):Bool:=(cond a2.bS (cond (a2.bg.aQ==a1) (cond (Z233.md a0.dg a0.cB a2.bg a2.cX) ((Z237.md a2.eo (⟨0,(⟨((⟨#[]⟩:aA):aA),0,0,[]⟩:ah),(⟨((⟨#[]⟩:aA):aA),0,0,[]⟩:ah),(⟨0,[]⟩:aB),(⟨0,[]⟩:aB)⟩:bG)):Bool) (false:Bool)) (false:Bool)) (cond (Z241.md a0.dg a0.cB a1 a2.eo) (cond (Z238.md a2.bg) ((Z239.md a2.cX):Bool) (false:Bool)) (false:Bool)))
def gd (a0:aE)(a1:aA)(a2:aj):Prop:=(a1.size<=(2^21))/\(aj.Sm (2^21) a2)
def R:=RR (p3 gd) (u3 md)
def ak {a0 a1 a2}(h:gd a0 a1 a2):R ((aE.r a0),a1,(aj.r a2))=some (md a0 a1 a2):=aM (a:=(a0,a1,a2)) h
def aV:=CN [.agg fV,pS,.agg qJ] oB RT.dec R
def bp (a0)(a1)(a2)(hg:gd a0 a1 a2):F (aE.r a0) a1 (aj.r a2)=ret (md a0 a1 a2):=by
 obtain ⟨H1,H2⟩:=hg
 unfold F md
 try simp only [SS]
 refine aq ret (fun c1=>?_) (fun c1=>?_)
 ·refine aq ret (fun c2=>?_) (fun _=>rfl)
  refine ct (Z233.ak ⟨H2.2.1,H2.2.2.1⟩) ?_
  refine aq ret (fun c3=>?_) (fun _=>rfl)
  refine ct (Z237.ak (a1:=(⟨0,(⟨((⟨#[]⟩:aA):aA),0,0,[]⟩:ah),(⟨((⟨#[]⟩:aA):aA),0,0,[]⟩:ah),(⟨0,[]⟩:aB),(⟨0,[]⟩:aB)⟩:bG)) ⟨H2.2.2.2,⟨⟨(by decide),bI.nil⟩,⟨(by decide),bI.nil⟩,bI.nil,bI.nil⟩⟩) ?_
  all_goals exact fz
 ·refine ct (Z241.ak ⟨H1,H2.2.2.2⟩) ?_
  refine aq ret (fun c4=>?_) (fun _=>rfl)
  refine ct (Z238.ak H2.2.1) ?_
  refine aq ret (fun c5=>?_) (fun _=>rfl)
  refine ct (Z239.ak H2.2.2.1) ?_
  all_goals exact fz
def af:cq 158 aV:=W3 49 F mix aD bp (.cons Z233.af (.cons Z237.af (.cons Z241.af (.cons Z238.af (.cons Z239.af .nil))))) Tryz.func158
def BY (a0:aE)(a1:aA)(a2:aj)(hc:a0.cB<=1000):md a0 a1 a2=Z120.md a0 a1 a2:=by
 unfold md Z120.md Z118.md Z238.md Z239.md
 simp only [Z241.BY _ _ _ _ hc,Z233.br,Z235.md_eq,Z115.md_eq,Z236.md_eq,Z116.md_eq,Z237.md_eq,Z117.md_eq]
end Z242
namespace Z243
def F (x0:Int)(x1:aA)(x2:aO)(x3:Int):aH:=(call (Z230.R x2.aP) fun v1=>(cond (!v1.2) (ret (3:Int)) (cond (v1.1.bw != x0) (ret (2:Int)) (call (Z231.R (v1.1,x3)) fun v2=>(cond (!v2) (ret (4:Int)) (cond v1.1.bF (ret (5:Int)) (call (Z242.R (v1.1,x1,x2)) fun v3=>(cond (!v3) (ret (6:Int)) (ret (1:Int))))))))))
def md (a0:Int)(a1:aA)(a2:aj)(a3:Int):Int:=(cond (!(Z230.md a2.aP).2) (3:Int) (cond ((Z230.md a2.aP).1.bw != a0) (2:Int) (cond (!(Z231.md ((Z230.md a2.aP).1) a3)) (4:Int) (cond ((Z230.md a2.aP).1.bF) (5:Int) (cond (!(Z242.md ((Z230.md a2.aP).1) a1 a2)) (6:Int) (1:Int))))))
def gd (a0:Int)(a1:aA)(a2:aj)(a3:Int):Prop:=(a1.size<=(2^21))/\(aj.Sm (2^21) a2)
def R:=RR (p4 gd) (u4 md)
def ak {a0 a1 a2 a3}(h:gd a0 a1 a2 a3):R (a0,a1,(aj.r a2),a3)=some (md a0 a1 a2 a3):=aM (a:=(a0,a1,a2,a3)) h
def aV:=CN [pI,pS,.agg qJ,pI] oI RT.dec R
def bp (a0)(a1)(a2)(a3)(hg:gd a0 a1 a2 a3):F a0 a1 (aj.r a2) a3=ret (md a0 a1 a2 a3):=by
 obtain ⟨H1,H2⟩:=hg
 unfold F md
 try simp only [SS]
 refine ct (Z230.ak H2.1) ?_
 try simp only [SS]
 refine aq ret (fun _=>rfl) (fun c1=>?_)
 refine aq ret (fun _=>rfl) (fun c2=>?_)
 refine ct (Z231.ak trivial) ?_
 refine aq ret (fun _=>rfl) (fun c3=>?_)
 refine aq ret (fun _=>rfl) (fun c4=>?_)
 refine ct (Z242.ak ⟨H1,H2⟩) ?_
 refine aq ret (fun _=>rfl) (fun _=>rfl)
def af:cq 106 aV:=W4 39 F mix aD bp (.cons Z230.af (.cons Z231.af (.cons Z242.af .nil))) Tryz.func106
def br (a0:Int)(a1:aA)(a2:aj)(a3:Int):md a0 a1 a2 a3=Z121.md a0 a1 a2 a3:=by
 unfold md Z121.md
 simp only [Z230.br,Z231.br]
 cases hok:(Z79.md a2.aP).2
 ·rfl
 ·have:=Z56.tr (Z79.head hok).2.2
  rw [Z242.BY _ _ _ (by omega)]
end Z243
namespace Z244
def F (x0:aF)(x1:List L):aH:=(cond (decide ((x0.length:Int)>0)) (cK (decide ((0:Int)<(x0.length:Int))) (ret (((aT.at x0 0).ay.bw==(fH x1)):Bool))) bf)
def pats:List gF:=[.rd (.sl 178),.ptr [au]]
def res:RP:=.one (.rd (.bool))
def md (a0:List aa)(a1:Int):Bool:=(cond (decide ((a0.length:Int)>0)) ((((a0.getD 0 aa.zero).ay).bw==a1):Bool) (false:Bool))
def gd (a0:List aa)(a1:Int):Prop:=(bI (2^21) (fun y:aa=>aa.Sm (2^21) y) a0)
def acc (ls:List L):aF×Int:=((ls.headD .hole).aY,(fH (cm 1 (av 1 ls))))
def R:(aF×Int)->Option Bool:=RR (p2 gd) (u2 md)
def ak {a0 a1}(h:gd a0 a1):R ((a0.map aa.row),a1)=some (md a0 a1):=aM (a:=(a0,a1)) h
def aV:gy:=CN pats res acc R
def bp (a0:List aa)(a1:Int)(p1:List L)(e1:a1=(fH p1))(hg:gd a0 a1):F (a0.map aa.row) p1=ret ((md a0 a1):Bool):=by
 unfold gd at hg
 have H0:=hg
 unfold F md
 try simp only [SS,<-e1]
 refine aq ret (fun c1=>?_) (fun _=>rfl)
 have dc1:=c1
 try simp only [DC] at dc1
 refine aN (have:=(H0).1;dt) ?_
 all_goals exact fz
def nu (ls:List L)(a:List aa×Int)(e:acc ls=Im.im a)(hg:(p2 gd) a):∃n:Nat,F ((ls.headD .hole).aY) (cm 1 (av 1 ls))=ret (Im.im ((u2 md) a)):=by
 have e0:(a.1.map aa.row)=(ls.headD .hole).aY:=(congrArg (fun x=>x.1) e.symm)
 have hn:=bp a.1 a.2 (cm 1 (av 1 ls)) (congrArg (fun x=>x.2) e.symm) hg
 refine ⟨0,?_⟩
 rw [<-e0]
 exact hn
def af:cq 306 aV:=VP (live:=fun _=>[]) (nt:=16) (accr:=fun ls=>((ls.headD .hole).aY,(cm 1 (av 1 ls)))) (run:=fun _ x=>F x.1 x.2) mix aD .nil Tryz.func306 (by kernel_rfl) (fun _ _=>by kernel_rfl) (fun ls a _ e hg=>nu ls a e hg)
end Z244
namespace Z245
inductive Pt where
 | p0 (a:aF) (b:List L) (c d:Int)
def pid:Pt->Nat
 | .p0 ..=>2
def cQ:Pt->List V
 | .p0 a b c d=>[.sl none 120 a,.fn 306 [.dc none [au] b 0],.int .i64 c,.int .i64 d]
def cR:Pt->List aS
 | .p0 a b c d=>[]
def step (J:Pt->aH):Pt->aH
 | .p0 a b c d=>(cond (decide (d<c)) (m2 d (a.length:Int) (call (Z244.R ((pX a (toNat d)),(fH b))) fun v1=>(cond v1 (ret (d:Int)) (J (.p0 a b c (i64.wrap (d+1))))))) (ret ((-1):Int)))
def start (J:Pt->aH)(x0:aF)(x1:List L):aH:=J (.p0 x0 x1 (x0.length:Int) 0)
def live:Nat->Live:=fun i=>match i with | 2=>[(0,none),(1,none),(7,none),(8,none)] | _=>[]
def pats:List gF:=[.rd (.sl 120),.fn 306 [[au]]]
def res:RP:=.one (.rd (.int .i64))
abbrev E:Env:={ T:=assoc rE,G:=dP [(306,Z244.aV)],nt:=19 }
def step_eq (I:dH)(p:Pt):dU E live I (pid p) (ck Tryz.f305) (ij (live (pid p)) (cQ p) (cR p)) (dD E Tryz.f305 res)=step (fun q=>I (pid q) (cQ q) (cR q)) p:=by
 cases p<;>kernel_rfl
def start_eq (I:dH)(ls:List L):gn E live I (ck Tryz.f305) (dO pats ls) (dD E Tryz.f305 res)=start (fun q=>I (pid q) (cQ q) (cR q)) (ls.headD .hole).aY (cm 1 (av 1 ls)):=by kernel_rfl
def run_eq (n:Nat)(ls:List L):fY E live Tryz.f305 res n (dO pats ls)=start (iter step n) (ls.headD .hole).aY (cm 1 (av 1 ls)):=dL (id:=pid) (vs:=cQ) (hs:=cR) (step:=step) (start:=fun J=>start J (ls.headD .hole).aY (cm 1 (av 1 ls))) step_eq (fun I=>start_eq I ls) n
def md (a0:List (List aa))(a1:Int):Int:=(dF (S:=Unit) (β:=Int) (fun (i1:Nat) (y1:List aa) (s3:Unit)=>(cond (Z244.md y1 a1) (.inr ((i1:Int):Int)) (.inl ()))) (fun (s3:Unit)=>((-1):Int)) 0 a0 ())
def gd (a0:List (List aa))(a1:Int):Prop:=(bI (2^21) (fun y:List aa=>bI (2^21) (fun y:aa=>aa.Sm (2^21) y) y) a0)
def acc (ls:List L):aF×Int:=((ls.headD .hole).aY,(fH (cm 1 (av 1 ls))))
def R:(aF×Int)->Option Int:=RR (p2 gd) (u2 md)
def ak {a0 a1}(h:gd a0 a1):R ((a0.map (eL aa.row)),a1)=some (md a0 a1):=aM (a:=(a0,a1)) h
def aV:gy:=CN pats res acc R
def bp (a0:List (List aa))(a1:Int)(p1:List L)(e1:a1=(fH p1))(hg:gd a0 a1):∃n,start (iter step n) (a0.map (eL aa.row)) p1=ret ((md a0 a1):Int):=by
 unfold gd at hg
 have H0:=hg
 unfold start md
 try simp only [SS,<-e1]
 have Bh2:a0.length<=maxLen:=(by
   have:=(H0).1
   try simp only [maxLen] at *
   omega)
 refine ex_eq (out:=ret) (cH (z:=[])) ?_
 refine dG (p:=Pt.p0 (a0.map (eL aa.row)) p1 (a0.length:Int) 0) fz ?_
 refine bU (pt:=fun (i1:Nat) (s3:Unit)=>Pt.p0 (a0.map (eL aa.row)) p1 (a0.length:Int) (i1:Int)) (s:=(():Unit)) (out:=ret) (fun _ _=>True) (fun J i1 s3 h2 hih2=>?_) (fun s3 hih2=>?_) trivial
 ·simp only [step,SS,<-e1]
  have bb_:=Bh2
  simp only [maxLen] at bb_
  have:=(H0).1
  refine bk.yes (by apply decide_eq_true;omega) ?_
  refine bk.yes bE ?_
  refine bk.yes (bM h2) ?_
  refine cr (Z244.ak (bI.getD (z:=[]) H0 h2)) ?_
  refine bk.bif (fun c4=>?_) (fun c4=>?_)
  ·refine bk.inr ?_
   all_goals exact fz
  ·refine bk.inl trivial ?_
   rw [aJ h2 Bh2]
   all_goals exact fz
 ·simp only [step,SS,<-e1]
  have:=(H0).1
  refine cY (by apply decide_eq_false;omega) ?_
  refine ⟨0,?_⟩
  all_goals exact fz
def nu (ls:List L)(a:List (List aa)×Int)(e:acc ls=Im.im a)(hg:(p2 gd) a):∃n:Nat,start (iter step n) ((ls.headD .hole).aY) (cm 1 (av 1 ls))=ret (Im.im ((u2 md) a)):=by
 have e0:(a.1.map (eL aa.row))=(ls.headD .hole).aY:=(congrArg (fun x=>x.1) e.symm)
 obtain ⟨n,hn⟩:=bp a.1 a.2 (cm 1 (av 1 ls)) (congrArg (fun x=>x.2) e.symm) hg
 refine ⟨n,?_⟩
 rw [<-e0]
 exact hn
def af:cq 305 aV:=VP (accr:=fun ls=>((ls.headD .hole).aY,(cm 1 (av 1 ls)))) (run:=fun n x=>start (iter step n) x.1 x.2) mix aD (.cons Z244.af .nil) Tryz.func305 (by kernel_rfl) run_eq (fun ls a _ e hg=>nu ls a e hg)
def fa (a0:List (List aa))(a1:Int):-1<=md a0 a1/\md a0 a1<(a0.length:Int):=by
 unfold md
 refine fF ?_ _ _
 all_goals
  intro i x s b h
  revert h
  simp only [Bool.cond_eq_ite]
  repeat' split
  all_goals (intro h;first | (cases h;rfl) | cases h)
def idx_eq (a0:List (List aa))(a1:Int):md a0 a1=iF (fun y=>Z244.md y a1) 0 a0:=by
 unfold md
 exact gv
end Z245
namespace Z246
def F (x0:bt)(x1:Int):aH:=(call (Z245.R (x0.aK,x1)) fun v1=>ret (v1:Int))
def md (a0:an)(a1:Int):Int:=((Z245.md a0.aK a1):Int)
def gd (a0:an)(a1:Int):Prop:=(an.Sm (2^21) a0)
def R:=RR (p2 gd) (u2 md)
def ak {a0 a1}(h:gd a0 a1):R ((an.r a0),a1)=some (md a0 a1):=aM (a:=(a0,a1)) h
def aV:=CN [.agg tO,pI] oI RT.dec R
def bp (a0)(a1)(hg:gd a0 a1):F (an.r a0) a1=ret (md a0 a1):=by
 unfold gd at hg
 have H0:=hg
 unfold F md
 try simp only [SS]
 refine ct (Z245.ak H0.1) ?_
 have fv1_:=Z245.fa a0.aK a1
 all_goals exact fz
def af:cq 252 aV:=W2 9 F mix aD bp (.cons Z245.af .nil) Tryz.func252
def fa (a0:an)(a1:Int):-1<=md a0 a1/\md a0 a1<(a0.aK.length:Int):=by unfold md;exact Z245.fa _ _
def br (a0:an)(a1:Int):md a0 a1=Z105.md a0 a1:=by
 unfold md Z105.md
 rw [Z245.idx_eq]
 symm
 refine jA (fun i x s=>?_) _ _ _
 unfold Z244.md
 cases decide ((x.length:Int)>0)<;>first | rfl | (cases ((x.getD 0 aa.zero).ay).bw==a1<;>rfl)
end Z246
namespace Z247
def F (x0 x1:bW):aH:=(call (Z189.R (x0.cg,x1.cg)) fun v1=>(cond v1 (call (Z189.R (x0.bN,x1.bN)) fun v2=>(cond v2 (call (Z189.R (x0.bK,x1.bK)) fun v3=>(cond v3 (call (Z174.R x0) fun v4=>(call (Z174.R x1) fun v5=>(call (Z188.R (v4,v5)) fun v6=>ret (v6:Bool)))) bf)) bf)) bf))
def md (a0 a1:aE):Bool:=(cond (Z189.md a0.cg a1.cg) (cond (Z189.md a0.bN a1.bN) (cond (Z189.md a0.bK a1.bK) ((Z188.md (Z174.md a0) (Z174.md a1)):Bool) (false:Bool)) (false:Bool)) (false:Bool))
def gd (a0 a1:aE):Prop:=(aE.Sm (2^21) a0)/\(aE.Sm (2^21) a1)
def R:=RR (p2 gd) (u2 md)
def ak {a0 a1}(h:gd a0 a1):R ((aE.r a0),(aE.r a1))=some (md a0 a1):=aM (a:=(a0,a1)) h
def aV:=CN [.agg fV,.agg fV] oB RT.dec R
def bp (a0)(a1)(hg:gd a0 a1):F (aE.r a0) (aE.r a1)=ret (md a0 a1):=by
 obtain ⟨H0,H1⟩:=hg
 unfold F md
 try simp only [SS]
 refine ct (Z189.ak ⟨H0.1,H1.1⟩) ?_
 refine aq ret (fun c1=>?_) (fun _=>rfl)
 refine ct (Z189.ak ⟨H0.2.1,H1.2.1⟩) ?_
 refine aq ret (fun c2=>?_) (fun _=>rfl)
 refine ct (Z189.ak ⟨H0.2.2,H1.2.2⟩) ?_
 refine aq ret (fun c3=>?_) (fun _=>rfl)
 refine ct (Z174.ak H0) ?_
 try simp only [SS]
 refine ct (Z174.ak H1) ?_
 try simp only [SS]
 refine ct (Z188.ak ⟨⟨(have:=Z174.len a0;have:=(H0.1).1;have:=(H0.2.1).1;have:=(H0.2.2).1;om),fun _ _=>trivial⟩,⟨(have:=Z174.len a1;have:=(H1.1).1;have:=(H1.2.1).1;have:=(H1.2.2).1;om),fun _ _=>trivial⟩⟩) ?_
 all_goals exact fz
def af:cq 307 aV:=W2 31 F mix aD bp (.cons Z189.af (.cons Z174.af (.cons Z188.af .nil))) Tryz.func307
def md_eq (a0 a1:aE):md a0 a1=eu a0 a1:=by
 unfold md
 simp only [Z188.md_eq,Z189.md_eq,Z174.br]
 rw [Bool.eq_iff_iff]
 constructor
 ·intro h
  simp only [Ar,Bool.and_eq_true] at h
  exact cU.2 (Z61.inj (cU.1 h.2.2.2))
 ·intro h
  rw [cU] at h
  rw [h]
  simp only [iB];rfl
end Z247
namespace Z248
inductive Pt where
 | p0 (a b:aF) (c d:Int)
def pid:Pt->Nat
 | .p0 ..=>4
def cQ:Pt->List V
 | .p0 a b c d=>[.sl none 178 a,.sl none 178 b,.int .i64 c,.int .i64 d]
def cR:Pt->List aS
 | .p0 a b c d=>[]
def step (J:Pt->aH):Pt->aH
 | .p0 a b c d=>(cond (decide (d<c)) (m2 d (b.length:Int) (m2 d (a.length:Int) (call (Z247.R ((aT.at b (toNat d)).ay,(aT.at a (toNat d)).ay)) fun v1=>(cond (!v1) bf (J (.p0 a b c (i64.wrap (d+1)))))))) eG)
def start (J:Pt->aH)(x0 x1:aF):aH:=(cond (decide ((x0.length:Int)>(x1.length:Int))) bf (J (.p0 x1 x0 (x0.length:Int) 0)))
def live:Nat->Live:=fun i=>match i with | 4=>[(1,none),(12,none),(13,none),(14,none)] | _=>[]
def md (a0 a1:List aa):Bool:=(bif (decide ((a0.length:Int)>(a1.length:Int))) then (false:Bool) else (eD (S:=Unit) (β:=Bool) (fun (i2:Nat) (s4:Unit)=>(cond (!(Z247.md ((a0.getD i2 aa.zero).ay) ((a1.getD i2 aa.zero).ay))) (.inr (false:Bool)) (.inl ()))) (fun (s4:Unit)=>(true:Bool)) a0.length 0 ()))
def gd (a0 a1:List aa):Prop:=(bI (2^21) (fun y:aa=>aa.Sm (2^21) y) a0)/\(bI (2^21) (fun y:aa=>aa.Sm (2^21) y) a1)
def R:=RR (p2 gd) (u2 md)
def ak {a0 a1}(h:gd a0 a1):R ((a0.map aa.row),(a1.map aa.row))=some (md a0 a1):=aM (a:=(a0,a1)) h
def aV:=CN [pL 178,pL 178] oB RT.dec R
def bp (a0)(a1)(hg:gd a0 a1):∃n,start (iter step n) (a0.map aa.row) (a1.map aa.row)=ret (md a0 a1):=by
 obtain ⟨H0,H1⟩:=hg
 unfold start md
 try simp only [SS]
 refine gP ret (fun _=>⟨0,rfl⟩) (fun c1=>?_)
 have dc1:=c1
 try simp only [DC] at dc1
 have Bh3:a0.length<=maxLen:=(by
   have:=(H0).1
   try simp only [maxLen] at *
   omega)
 refine dG (p:=Pt.p0 (a1.map aa.row) (a0.map aa.row) (a0.length:Int) 0) fz ?_
 refine bU (pt:=fun (i2:Nat) (s4:Unit)=>Pt.p0 (a1.map aa.row) (a0.map aa.row) (a0.length:Int) (i2:Int)) (s:=(():Unit)) (out:=ret) (fun _ _=>True) (fun J i2 s4 h3 hih3=>?_) (fun s4 hih3=>?_) trivial
 ·simp only [step,SS]
  have bb_:=Bh3
  simp only [maxLen] at bb_
  have:=(H0).1
  refine bk.yes (by apply decide_eq_true;omega) ?_
  refine bk.yes bE ?_
  refine bk.yes (bM h3) ?_
  refine bk.yes bE ?_
  refine bk.yes (have:=(H1).1;dt) ?_
  refine cr (Z247.ak ⟨(bI.getD (z:=aa.zero) H0 h3).1,(bI.getD (z:=aa.zero) H1 (by first | assumption | omega | (simp (disch:=omega) only [wi];omega) | (simp;omega))).1⟩) ?_
  refine bk.bif (fun _=>bk.inr rfl) (fun c5=>?_)
  refine bk.inl trivial ?_
  rw [aJ h3 Bh3]
  all_goals exact fz
 ·simp only [step,SS]
  have:=(H0).1
  refine cY (by apply decide_eq_false;omega) ?_
  refine ⟨0,?_⟩
  all_goals exact fz
def af:cq 304 aV:=L2 29 pid cQ cR live step start mix aD bp (.cons Z247.af .nil) Tryz.func304
def br (a0 a1:List aa):md a0 a1=Z107.md a0 a1:=by
 unfold md Z107.md
 first
 | (simp only [Z247.md_eq,Z106.md_eq];done)
 | (simp only [Z247.md_eq,Z106.md_eq];rfl)
 | rfl
end Z248
namespace Z249
def F (x0:bt)(x1:aF):aH:=(call (Z196.R x1) fun v1=>(cond (!v1) (ret (6:Int)) (cK (decide ((0:Int)<(x1.length:Int))) (call (Z246.R (x0,(aT.at x1 0).ay.bw)) fun v2=>(cond (decide (v2<0)) (ret (1:Int)) (m2 v2 (x0.aK.length:Int) (call (Z248.R ((pX x0.aK (toNat v2)),x1)) fun v3=>(m2 v2 (x0.aK.length:Int) (call (Z248.R (x1,(pX x0.aK (toNat v2)))) fun v4=>(cond v3 (cond v4 (ret (2:Int)) (cond v3 (ret (3:Int)) (cond v4 (ret (4:Int)) (ret (5:Int))))) (cond v3 (ret (3:Int)) (cond v4 (ret (4:Int)) (ret (5:Int))))))))))))))
def md (a0:an)(a1:List aa):Int:=(cond (!(Z196.md a1)) (6:Int) (cond (decide ((Z246.md a0 (((a1.getD 0 aa.zero).ay).bw))<0)) (1:Int) (cond (Z248.md (a0.aK.getD (toNat (Z246.md a0 (((a1.getD 0 aa.zero).ay).bw))) []) a1) (cond (Z248.md a1 (a0.aK.getD (toNat (Z246.md a0 (((a1.getD 0 aa.zero).ay).bw))) [])) (2:Int) (cond (Z248.md (a0.aK.getD (toNat (Z246.md a0 (((a1.getD 0 aa.zero).ay).bw))) []) a1) (3:Int) (cond (Z248.md a1 (a0.aK.getD (toNat (Z246.md a0 (((a1.getD 0 aa.zero).ay).bw))) [])) (4:Int) (5:Int)))) (cond (Z248.md (a0.aK.getD (toNat (Z246.md a0 (((a1.getD 0 aa.zero).ay).bw))) []) a1) (3:Int) (cond (Z248.md a1 (a0.aK.getD (toNat (Z246.md a0 (((a1.getD 0 aa.zero).ay).bw))) [])) (4:Int) (5:Int))))))
def gd (a0:an)(a1:List aa):Prop:=(an.Sm (2^21) a0)/\(bI (2^21) (fun y:aa=>aa.Sm (2^21) y) a1)
def R:=RR (p2 gd) (u2 md)
def ak {a0 a1}(h:gd a0 a1):R ((an.r a0),(a1.map aa.row))=some (md a0 a1):=aM (a:=(a0,a1)) h
def aV:=CN [.agg tO,pL 178] oI RT.dec R
def bp (a0)(a1)(hg:gd a0 a1):F (an.r a0) (a1.map aa.row)=ret (md a0 a1):=by
 obtain ⟨H0,H1⟩:=hg
 unfold F md
 try simp only [SS]
 refine ct (Z196.ak H1) ?_
 refine aq ret (fun _=>rfl) (fun c1=>?_)
 have dc1:=c1
 try simp only [DC] at dc1
 try have tc1:=Z196.tr (by simpa using c1)
 refine aN (have:=(H1).1;dt) ?_
 refine ct (Z246.ak H0) ?_
 have fv2_:=Z246.fa a0 (((a1.getD 0 aa.zero).ay).bw)
 refine aq ret (fun _=>rfl) (fun c2=>?_)
 have dc2:=c2
 try simp only [DC] at dc2
 refine aN dt ?_
 refine aN (have:=(H0.1).1;dt) ?_
 refine ct (Z248.ak ⟨(bI.getD (z:=[]) H0.1 (by first | assumption | omega | (simp (disch:=omega) only [wi];omega) | (simp;omega))),H1⟩) ?_
 refine aN dt ?_
 refine aN (have:=(H0.1).1;dt) ?_
 refine ct (Z248.ak ⟨H1,(bI.getD (z:=[]) H0.1 (by first | assumption | omega | (simp (disch:=omega) only [wi];omega) | (simp;omega)))⟩) ?_
 refine aq ret (fun c3=>?_) (fun c3=>?_)
 ·refine aq ret (fun _=>rfl) (fun c4=>?_)
  refine aq ret (fun _=>rfl) (fun c5=>?_)
  refine aq ret (fun _=>rfl) (fun _=>rfl)
 ·refine aq ret (fun _=>rfl) (fun c7=>?_)
  refine aq ret (fun _=>rfl) (fun _=>rfl)
def af:cq 251 aV:=W2 43 F mix aD bp (.cons Z196.af (.cons Z246.af (.cons Z248.af .nil))) Tryz.func251
def fa (a0:an)(a1:List aa):(md a0 a1=3->1<=a1.length/\0<=Z246.md a0 (a1.getD 0 aa.zero).ay.bw)/\(md a0 a1=5->1<=a1.length/\0<=Z246.md a0 (a1.getD 0 aa.zero).ay.bw):=by
 unfold md
 cases h:Z196.md a1
 ·exact ⟨fun h=>by simp at h,fun h=>by simp at h⟩
 ·have t:=Z196.tr h
  cases hf:decide (Z246.md a0 ((a1.getD 0 aa.zero).ay.bw)<0)
  ·have:=of_decide_eq_false hf
   exact ⟨fun _=>⟨t.1,by omega⟩,fun _=>⟨t.1,by omega⟩⟩
  ·exact ⟨fun h=>by simp at h,fun h=>by simp at h⟩
def br (a0:an)(a1:List aa):md a0 a1=Z108.md a0 a1:=by
 unfold md Z108.md
 first
 | (simp only [Z196.br,Z246.br,Z248.br];done)
 | (simp only [Z196.br,Z246.br,Z248.br];rfl)
 | rfl
end Z249
namespace Z250
inductive Pt where
 | p0 (a b:aF) (c d e f g h i j k l m n o:Int) (p:Bool) (q s t u v w y z w24 w25 w26 w27:Int) (w28:Bool) (w29 w30 w31 w32 w33 w34 w35 w36 w37 w38 w39 w40:Int) (w41:Bool)
def pid:Pt->Nat
 | .p0 ..=>4
def cQ:Pt->List V
 | .p0 a b c d e f g h i j k l m n o p q s t u v w y z w24 w25 w26 w27 w28 w29 w30 w31 w32 w33 w34 w35 w36 w37 w38 w39 w40 w41=>[.sl none 178 a,.sl none 178 b,.cj 0 0,.int .i64 c]
def cR:Pt->List aS
 | .p0 a b c d e f g h i j k l m n o p q s t u v w y z w24 w25 w26 w27 w28 w29 w30 w31 w32 w33 w34 w35 w36 w37 w38 w39 w40 w41=>[.box [.int .i64 d,.int .i64 e,.int .i64 f,.int .i64 g,.int .i64 h,.int .i64 i,.int .i64 j,.int .i64 k,.nil,.int .i64 l,.nil,.int .i64 m,.int .i64 n,.nil,.int .i64 o,.bool p,.nil,.int .i64 q,.int .i64 s,.int .i64 t,.int .i64 u,.int .i64 v,.int .i64 w,.int .i64 y,.int .i64 z,.nil,.int .i64 w24,.nil,.int .i64 w25,.int .i64 w26,.nil,.int .i64 w27,.bool w28,.nil,.int .i64 w29,.int .i64 w30,.int .i64 w31,.int .i64 w32,.int .i64 w33,.int .i64 w34,.int .i64 w35,.int .i64 w36,.nil,.int .i64 w37,.nil,.int .i64 w38,.int .i64 w39,.nil,.int .i64 w40,.bool w41,.nil]]
def step (J:Pt->aH):Pt->aH
 | .p0 a b c d e f g h i j k l m n o p q s t u v w y z w24 w25 w26 w27 w28 w29 w30 w31 w32 w33 w34 w35 w36 w37 w38 w39 w40 w41=>(m2 c (a.length:Int) (m2 c (b.length:Int) (call (Z247.R ((aT.at a (toNat c)).ay,(aT.at b (toNat c)).ay)) fun v1=>(cond v1 (J (.p0 a b (i64.wrap (c+1)) d e f g h i j k l m n o p q s t u v w y z w24 w25 w26 w27 w28 w29 w30 w31 w32 w33 w34 w35 w36 w37 w38 w39 w40 w41)) (m2 c (a.length:Int) (call (Z137.R (aT.at a (toNat c))) fun v2=>(m2 c (b.length:Int) (call (Z137.R (aT.at b (toNat c))) fun v3=>(cond (decide (c>0)) (cK (decide ((0:Int)<=(i64.wrap (c - 1)))) (cK (decide ((i64.wrap (c - 1))<(a.length:Int))) (call (Z137.R (aT.at a (toNat (i64.wrap (c - 1))))) fun v4=>ret (((⟨v4,v2,v3⟩:cu),true):cu×Bool)))) (ret (((⟨(⟨(⟨0,0,0,0,0,0,0,0,(⟨[],0⟩:bC),(⟨[],0⟩:bC),0,(⟨[],0⟩:bC),false⟩:bW),[]⟩:aT),v2,v3⟩:cu),true):cu×Bool)))))))))))
def start (J:Pt->aH)(x0 x1:aF):aH:=(call (Z196.R x0) fun v1=>(cond (!v1) (ret (((⟨(⟨(⟨0,0,0,0,0,0,0,0,(⟨[],0⟩:bC),(⟨[],0⟩:bC),0,(⟨[],0⟩:bC),false⟩:bW),[]⟩:aT),(⟨(⟨0,0,0,0,0,0,0,0,(⟨[],0⟩:bC),(⟨[],0⟩:bC),0,(⟨[],0⟩:bC),false⟩:bW),[]⟩:aT),(⟨(⟨0,0,0,0,0,0,0,0,(⟨[],0⟩:bC),(⟨[],0⟩:bC),0,(⟨[],0⟩:bC),false⟩:bW),[]⟩:aT)⟩:cu),false):cu×Bool)) (call (Z196.R x1) fun v2=>(cond (!v2) (ret (((⟨(⟨(⟨0,0,0,0,0,0,0,0,(⟨[],0⟩:bC),(⟨[],0⟩:bC),0,(⟨[],0⟩:bC),false⟩:bW),[]⟩:aT),(⟨(⟨0,0,0,0,0,0,0,0,(⟨[],0⟩:bC),(⟨[],0⟩:bC),0,(⟨[],0⟩:bC),false⟩:bW),[]⟩:aT),(⟨(⟨0,0,0,0,0,0,0,0,(⟨[],0⟩:bC),(⟨[],0⟩:bC),0,(⟨[],0⟩:bC),false⟩:bW),[]⟩:aT)⟩:cu),false):cu×Bool)) (cK (decide ((0:Int)<(x0.length:Int))) (cK (decide ((0:Int)<(x1.length:Int))) (cond ((aT.at x0 0).ay.bw != (aT.at x1 0).ay.bw) (ret (((⟨(⟨(⟨0,0,0,0,0,0,0,0,(⟨[],0⟩:bC),(⟨[],0⟩:bC),0,(⟨[],0⟩:bC),false⟩:bW),[]⟩:aT),(⟨(⟨0,0,0,0,0,0,0,0,(⟨[],0⟩:bC),(⟨[],0⟩:bC),0,(⟨[],0⟩:bC),false⟩:bW),[]⟩:aT),(⟨(⟨0,0,0,0,0,0,0,0,(⟨[],0⟩:bC),(⟨[],0⟩:bC),0,(⟨[],0⟩:bC),false⟩:bW),[]⟩:aT)⟩:cu),false):cu×Bool)) (call (Z248.R (x0,x1)) fun v3=>(cond v3 (ret (((⟨(⟨(⟨0,0,0,0,0,0,0,0,(⟨[],0⟩:bC),(⟨[],0⟩:bC),0,(⟨[],0⟩:bC),false⟩:bW),[]⟩:aT),(⟨(⟨0,0,0,0,0,0,0,0,(⟨[],0⟩:bC),(⟨[],0⟩:bC),0,(⟨[],0⟩:bC),false⟩:bW),[]⟩:aT),(⟨(⟨0,0,0,0,0,0,0,0,(⟨[],0⟩:bC),(⟨[],0⟩:bC),0,(⟨[],0⟩:bC),false⟩:bW),[]⟩:aT)⟩:cu),false):cu×Bool)) (call (Z248.R (x1,x0)) fun v4=>(cond v4 (ret (((⟨(⟨(⟨0,0,0,0,0,0,0,0,(⟨[],0⟩:bC),(⟨[],0⟩:bC),0,(⟨[],0⟩:bC),false⟩:bW),[]⟩:aT),(⟨(⟨0,0,0,0,0,0,0,0,(⟨[],0⟩:bC),(⟨[],0⟩:bC),0,(⟨[],0⟩:bC),false⟩:bW),[]⟩:aT),(⟨(⟨0,0,0,0,0,0,0,0,(⟨[],0⟩:bC),(⟨[],0⟩:bC),0,(⟨[],0⟩:bC),false⟩:bW),[]⟩:aT)⟩:cu),false):cu×Bool)) (J (.p0 x0 x1 0 0 0 0 0 0 0 0 0 0 0 0 0 false 0 0 0 0 0 0 0 0 0 0 0 0 false 0 0 0 0 0 0 0 0 0 0 0 0 false)))))))))))))
def live:Nat->Live:=fun i=>match i with | 4=>[(0,none),(1,none),(4,none),(6,none)] | _=>[]
def pt (a b:aF)(c:Int):Pt:=Pt.p0 a b c 0 0 0 0 0 0 0 0 0 0 0 0 false 0 0 0 0 0 0 0 0 0 0 0 0 false 0 0 0 0 0 0 0 0 0 0 0 0 false
def md (a0 a1:List aa):aI×Bool:=(cond (!(Z196.md a0)) (aI.zero,false) (cond (!(Z196.md a1)) (aI.zero,false) (cond (((a0.getD 0 aa.zero).ay).bw != ((a1.getD 0 aa.zero).ay).bw) (aI.zero,false) (cond (Z248.md a0 a1) (aI.zero,false) (cond (Z248.md a1 a0) (aI.zero,false) (Z109.uq a0 a1 (Z109.fk a0 a1),true))))))
def gd (a0 a1:List aa):Prop:=bI (2^21) (fun y:aa=>aa.Sm (2^21) y) a0/\bI (2^21) (fun y:aa=>aa.Sm (2^21) y) a1
def R:=RR (p2 gd) (u2 md)
def ak {a0 a1}(h:gd a0 a1):R ((a0.map aa.row),(a1.map aa.row))=some ((aI.r (md a0 a1).1),(md a0 a1).2):=aM (a:=(a0,a1)) h
def aV:=CN [pL 178,pL 178] (.hU [(true,f180),(false,[fB])]) RT.dec R
def bp (a0)(a1)(hg:gd a0 a1):∃n,start (iter step n) (a0.map aa.row) (a1.map aa.row)=ret ((aI.r (md a0 a1).1),(md a0 a1).2):=by
 unfold gd at hg
 obtain ⟨H0,H1⟩:=hg
 have hl0:=H0.1
 have hl1:=H1.1
 have key:Z109.fk a0 a1<a0.length->Z109.fk a0 a1<a1.length->Z106.md (a0.getD (Z109.fk a0 a1) aa.zero).ay (a1.getD (Z109.fk a0 a1) aa.zero).ay=false->∀d k,k+d=Z109.fk a0 a1->∃n,iter step n (pt (a0.map aa.row) (a1.map aa.row) (k:Int))=ret ((aI.r (Z109.uq a0 a1 (Z109.fk a0 a1)),true):cu×Bool):=by
  intro hn0 hn1 hne d
  have hR:∀k,k<a0.length->k<a1.length->Z247.R (aE.r (a0.getD k aa.zero).ay,aE.r (a1.getD k aa.zero).ay)=some (Z106.md (a0.getD k aa.zero).ay (a1.getD k aa.zero).ay):=by
   intro k h0 h1
   rw [Z247.ak ⟨(bI.getD (z:=aa.zero) H0 h0).1,(bI.getD (z:=aa.zero) H1 h1).1⟩,Z247.md_eq,Z106.md_eq]
  induction d with
  | zero=>
   intro k hk
   obtain rfl:k=Z109.fk a0 a1:=by omega
   generalize hkk:Z109.fk a0 a1=k at hn0 hn1 hne ⊢
   refine ⟨1,?_⟩
   show step (iter step 0) _=_
   have q1:(0:Int)<=(k:Int):=by omega
   have q2:(k:Int)<(a0.length:Int):=by omega
   have q3:(k:Int)<(a1.length:Int):=by omega
   simp only [pt,step,MM,S0,aa.rs,aE.rs,q1,q2,q3,decide_true,aZ]
   rw [call_eq (hR k hn0 hn1),hne,bh,call_eq (Z137.ak (a0:=a0.getD k aa.zero) (bI.getD (z:=aa.zero) H0 hn0)),call_eq (Z137.ak (a0:=a1.getD k aa.zero) (bI.getD (z:=aa.zero) H1 hn1))]
   cases k with
   | zero=>rfl
   | succ k=>
    have q4:((k+1:Nat):Int)>0:=by omega
    have q5:i64.wrap (((k+1:Nat):Int) - 1)=(k:Int):=by rw [wi _ (by omega)];omega
    have q6:(0:Int)<=(k:Int):=by omega
    have q7:(k:Int)<(a0.length:Int):=by omega
    simp only [q4,q5,q6,q7,decide_true,aZ,S0,aa.rs]
    rw [call_eq (Z137.ak (a0:=a0.getD k aa.zero) (bI.getD (z:=aa.zero) H0 (by omega)))]
    rfl
  | succ d ih=>
   intro k hk
   obtain ⟨n,hn⟩:=ih (k+1) (by omega)
   refine ⟨n+1,?_⟩
   show step (iter step n) _=_
   have q1:(0:Int)<=(k:Int):=by omega
   have q2:(k:Int)<(a0.length:Int):=by omega
   have q3:(k:Int)<(a1.length:Int):=by omega
   simp only [pt,step,MM,S0,aa.rs,aE.rs,q1,q2,q3,decide_true,aZ]
   rw [call_eq (hR k (by omega) (by omega)),(Z109.qj a0 a1).1 k (by omega),aZ,wi _ (by omega)]
   exact hn
 unfold start md
 simp only [S0,aa.rs,aE.rs]
 refine eW (Z196.md a0) (Z196.ak H0) ?_
 cases hc0:Z196.md a0
 ·exact ⟨0,rfl⟩
 simp only [Bool.not_true,bh]
 refine eW (Z196.md a1) (Z196.ak H1) ?_
 cases hc1:Z196.md a1
 ·exact ⟨0,rfl⟩
 have t0:=Z196.tr hc0
 have t1:=Z196.tr hc1
 simp only [Bool.not_true,bh]
 refine dw (decide_eq_true (by omega)) (dw (decide_eq_true (by omega)) ?_)
 cases ((a0.getD 0 aa.zero).ay.bw != (a1.getD 0 aa.zero).ay.bw)
 case true=>exact ⟨0,rfl⟩
 simp only [bh]
 refine eW (Z248.md a0 a1) (Z248.ak ⟨H0,H1⟩) ?_
 cases hp0:Z248.md a0 a1
 case true=>exact ⟨0,rfl⟩
 simp only [bh]
 refine eW (Z248.md a1 a0) (Z248.ak ⟨H1,H0⟩) ?_
 cases hp1:Z248.md a1 a0
 case true=>exact ⟨0,rfl⟩
 simp only [bh]
 rw [Z248.br] at hp0 hp1
 obtain ⟨h1,h2,h3⟩:=Z109.kZ hp0 hp1
 exact key h1 h2 h3 (Z109.fk a0 a1) 0 (by omega)
def af:cq 253 aV:=L2 74 pid cQ cR live step start mix aD bp (.cons Z196.af (.cons Z248.af (.cons Z247.af (.cons Z137.af .nil)))) Tryz.func253
def gk {a0 a1:List aa}(hg:gd a0 a1):aI.Sm (2^21) ((md a0 a1).1):=by
 unfold gd at hg;unfold md
 have z:aI.Sm (2^21) aI.zero:=⟨⟨⟨bI.nil,bI.nil,bI.nil⟩,bI.nil⟩,⟨⟨bI.nil,bI.nil,bI.nil⟩,bI.nil⟩,⟨⟨bI.nil,bI.nil,bI.nil⟩,bI.nil⟩⟩
 cases Z196.md a0
 ·exact z
 cases Z196.md a1
 ·exact z
 cases ((a0.getD 0 aa.zero).ay.bw != (a1.getD 0 aa.zero).ay.bw)
 case true=>exact z
 cases h1:Z248.md a0 a1
 case true=>exact z
 cases h2:Z248.md a1 a0
 case true=>exact z
 rw [Z248.br] at h1 h2
 obtain ⟨h3,h4,_⟩:=Z109.kZ h1 h2
 exact Z109.wv hg.1 hg.2 h3 h4
def br (a0 a1:List aa):md a0 a1=Z109.md a0 a1:=by
 unfold md Z109.md
 first
 | (simp only [Z196.br,Z248.br,Z247.md_eq,Z106.md_eq];done)
 | (simp only [Z196.br,Z248.br,Z247.md_eq,Z106.md_eq];rfl)
 | rfl
end Z250
namespace Z251
def F (x0:bt)(x1:aF):aH:=(call (Z147.R x0) fun v1=>(call (Z249.R (x0,x1)) fun v2=>(cond (v2==1) (cond (decide ((x0.aK.length:Int)>=8)) (ret ((v1,6):bt×Int)) (call (Z138.R x1) fun v3=>(cK (eO (((v1.aK.length:Int)+1)*24)) (ret (((⟨(v1.aK++[[L.sl v3]]),v1.bq⟩:bt),v2):bt×Int))))) (cond (v2==3) (cK (decide ((0:Int)<(x1.length:Int))) (call (Z246.R (x0,(aT.at x1 0).ay.bw)) fun v4=>(call (Z138.R x1) fun v5=>(m2 v4 (v1.aK.length:Int) (ret (((⟨(List.set v1.aK (toNat v4) [L.sl v5]),v1.bq⟩:bt),v2):bt×Int)))))) (cond (v2==5) (cK (decide ((0:Int)<(x1.length:Int))) (call (Z246.R (x0,(aT.at x1 0).ay.bw)) fun v6=>(m2 v6 (x0.aK.length:Int) (call (Z250.R ((pX x0.aK (toNat v6)),x1)) fun v7=>(cond v7.2 (cond (decide ((x0.bq.length:Int)<8)) (cK (eO (((v1.bq.length:Int)+1)*600)) (ret (((⟨v1.aK,(v1.bq++[(cu.enc v7.1)])⟩:bt),v2):bt×Int))) (ret ((v1,v2):bt×Int))) (ret ((v1,v2):bt×Int))))))) (ret ((v1,v2):bt×Int)))))))
def md (a0:an)(a1:List aa):an×Int:=(cond ((Z249.md a0 a1)==1) (cond (decide ((a0.aK.length:Int)>=8)) (a0,6) ((⟨(a0.aK++[a1]),a0.bq⟩:an),(Z249.md a0 a1))) (cond ((Z249.md a0 a1)==3) ((⟨(List.set a0.aK (toNat (Z246.md a0 (((a1.getD 0 aa.zero).ay).bw))) a1),a0.bq⟩:an),(Z249.md a0 a1)) (cond ((Z249.md a0 a1)==5) (cond ((Z250.md (a0.aK.getD (toNat (Z246.md a0 (((a1.getD 0 aa.zero).ay).bw))) []) a1).2) (cond (decide ((a0.bq.length:Int)<8)) ((⟨a0.aK,(a0.bq++[(Z250.md (a0.aK.getD (toNat (Z246.md a0 (((a1.getD 0 aa.zero).ay).bw))) []) a1).1])⟩:an),(Z249.md a0 a1)) (a0,(Z249.md a0 a1))) (a0,(Z249.md a0 a1))) (a0,(Z249.md a0 a1)))))
def gd (a0:an)(a1:List aa):Prop:=(an.Sm (2^21) a0)/\(bI (2^21) (fun y:aa=>aa.Sm (2^21) y) a1)
def R:=RR (p2 gd) (u2 md)
def ak {a0 a1}(h:gd a0 a1):R ((an.r a0),(a1.map aa.row))=some ((an.r (md a0 a1).1),(md a0 a1).2):=aM (a:=(a0,a1)) h
def aV:=CN [.agg tO,pL 178] (.hU [(true,f36),(false,[fI])]) RT.dec R
def bp (a0)(a1)(hg:gd a0 a1):F (an.r a0) (a1.map aa.row)=ret ((an.r (md a0 a1).1),(md a0 a1).2):=by
 obtain ⟨H0,H1⟩:=hg
 unfold F md
 try simp only [SS]
 refine ct (Z147.ak H0) ?_
 try simp only [SS]
 refine ct (Z249.ak ⟨H0,H1⟩) ?_
 have fv2_:=Z249.fa a0 a1
 refine aq (fun b:an×Int=>ret (((an.r b.1),b.2):bt×Int)) (fun c1=>?_) (fun c1=>?_)
 ·have dc1:=c1
  try simp only [DC] at dc1
  refine aq (fun b:an×Int=>ret (((an.r b.1),b.2):bt×Int)) (fun c2=>?_) (fun c2=>?_)
  ·all_goals exact fz
  ·have dc2:=c2
   try simp only [DC] at dc2
   refine ct (Z138.ak H1) ?_
   try simp only [SS]
   refine aN (have:=(H0.1).1;lm) ?_
   all_goals exact fz
 ·have dc1:=c1
  try simp only [DC] at dc1
  refine aq (fun b:an×Int=>ret (((an.r b.1),b.2):bt×Int)) (fun c3=>?_) (fun c3=>?_)
  ·have dc3:=c3
   try simp only [DC] at dc3
   refine aN (have:=(H1).1;dt) ?_
   refine ct (Z246.ak H0) ?_
   have fv4_:=Z246.fa a0 (((a1.getD 0 aa.zero).ay).bw)
   refine ct (Z138.ak H1) ?_
   try simp only [SS]
   refine aN dt ?_
   refine aN (have:=(H0.1).1;dt) ?_
   all_goals exact fz
  ·have dc3:=c3
   try simp only [DC] at dc3
   refine aq (fun b:an×Int=>ret (((an.r b.1),b.2):bt×Int)) (fun c4=>?_) (fun c4=>?_)
   ·have dc4:=c4
    try simp only [DC] at dc4
    refine aN (have:=(H1).1;dt) ?_
    refine ct (Z246.ak H0) ?_
    have fv6_:=Z246.fa a0 (((a1.getD 0 aa.zero).ay).bw)
    refine aN dt ?_
    refine aN (have:=(H0.1).1;dt) ?_
    refine ct (Z250.ak ⟨(bI.getD (z:=[]) H0.1 (by first | assumption | omega | (simp (disch:=omega) only [wi];omega) | (simp;omega))),H1⟩) ?_
    try simp only [SS]
    refine aq (fun b:an×Int=>ret (((an.r b.1),b.2):bt×Int)) (fun c5=>?_) (fun c5=>?_)
    ·refine aq (fun b:an×Int=>ret (((an.r b.1),b.2):bt×Int)) (fun c6=>?_) (fun c6=>?_)
     ·have dc6:=c6
      try simp only [DC] at dc6
      refine aN (have:=(H0.2).1;lm) ?_
      all_goals exact fz
     ·all_goals exact fz
    ·all_goals exact fz
   ·all_goals exact fz
def af:cq 196 aV:=W2 77 F mix aD bp (.cons Z147.af (.cons Z249.af (.cons Z138.af (.cons Z246.af (.cons Z250.af .nil))))) Tryz.func196
def gk {a0:an}{a1:List aa}(hg:gd a0 a1):an.Sm (2^21) ((md a0 a1).1):=by
 unfold gd at hg;unfold md
 obtain ⟨⟨h1,h2⟩,h3⟩:=hg
 simp only [Bool.cond_eq_ite]
 repeat' split
 all_goals (try simp only [decide_eq_true_eq,ge_iff_le] at *)
 all_goals first
  | exact ⟨h1,h2⟩
  | exact ⟨bI.app (a:=7) (b:=1) ⟨by omega,h1.2⟩ (bI.one h3) (by decide),h2⟩
  | exact ⟨bI.set h1 h3,h2⟩
  | exact ⟨h1,bI.app (a:=7) (b:=1) ⟨by omega,h2.2⟩ (bI.one (Z250.gk ⟨bI.rP h1 bI.nil,h3⟩)) (by decide)⟩
def br (a0:an)(a1:List aa):md a0 a1=Z110.md a0 a1:=by
 unfold md Z110.md
 first
 | (simp only [Z249.br,Z246.br,Z250.br];done)
 | (simp only [Z249.br,Z246.br,Z250.br];rfl)
 | rfl
end Z251
namespace Z252
inductive Pt where
 | p0 (a b:aF) (c d:Int)
def pid:Pt->Nat
 | .p0 ..=>4
def cQ:Pt->List V
 | .p0 a b c d=>[.sl none 227 a,.sl none 227 b,.int .i64 c,.int .i64 d]
def cR:Pt->List aS
 | .p0 a b c d=>[]
def step (J:Pt->aH):Pt->aH
 | .p0 a b c d=>(cond (decide (d<c)) (m2 d (a.length:Int) (m2 d (b.length:Int) (cond (!((((bz.at a (toNat d)).gT:Int)==(bz.at b (toNat d)).gT)&&((((bz.at a (toNat d)).jP:Int)==(bz.at b (toNat d)).jP)&&true))) bf (J (.p0 a b c (i64.wrap (d+1))))))) eG)
def start (J:Pt->aH)(x0 x1:aF):aH:=(cond ((x0.length:Int) != (x1.length:Int)) bf (J (.p0 x0 x1 (x0.length:Int) 0)))
def live:Nat->Live:=fun i=>match i with | 4=>[(0,none),(1,none),(12,none),(13,none)] | _=>[]
def md (a0 a1:List bz):Bool:=(bif ((a0.length:Int) != (a1.length:Int)) then (false:Bool) else (eD (S:=Unit) (β:=Bool) (fun (i2:Nat) (s4:Unit)=>(cond (!((((a0.getD i2 bz.zero).gT:Int)==(a1.getD i2 bz.zero).gT)&&((((a0.getD i2 bz.zero).jP:Int)==(a1.getD i2 bz.zero).jP)&&true))) (.inr (false:Bool)) (.inl ()))) (fun (s4:Unit)=>(true:Bool)) a0.length 0 ()))
def gd (a0 a1:List bz):Prop:=(bI (2^21) (fun y:bz=>bz.Sm (2^21) y) a0)/\(bI (2^21) (fun y:bz=>bz.Sm (2^21) y) a1)
def R:=RR (p2 gd) (u2 md)
def ak {a0 a1}(h:gd a0 a1):R ((a0.map bz.row),(a1.map bz.row))=some (md a0 a1):=aM (a:=(a0,a1)) h
def aV:=CN [pL 227,pL 227] oB RT.dec R
def bp (a0)(a1)(hg:gd a0 a1):∃n,start (iter step n) (a0.map bz.row) (a1.map bz.row)=ret (md a0 a1):=by
 obtain ⟨H0,H1⟩:=hg
 unfold start md
 try simp only [SS]
 refine gP ret (fun _=>⟨0,rfl⟩) (fun c1=>?_)
 have dc1:=c1
 try simp only [DC] at dc1
 have Bh3:a0.length<=maxLen:=(by
   have:=(H0).1
   try simp only [maxLen] at *
   omega)
 refine dG (p:=Pt.p0 (a0.map bz.row) (a1.map bz.row) (a0.length:Int) 0) fz ?_
 refine bU (pt:=fun (i2:Nat) (s4:Unit)=>Pt.p0 (a0.map bz.row) (a1.map bz.row) (a0.length:Int) (i2:Int)) (s:=(():Unit)) (out:=ret) (fun _ _=>True) (fun J i2 s4 h3 hih3=>?_) (fun s4 hih3=>?_) trivial
 ·simp only [step,SS]
  have bb_:=Bh3
  simp only [maxLen] at bb_
  have:=(H0).1
  refine bk.yes (by apply decide_eq_true;omega) ?_
  refine bk.yes bE ?_
  refine bk.yes (bM h3) ?_
  refine bk.yes bE ?_
  refine bk.yes (have:=(H1).1;dt) ?_
  refine bk.bif (fun _=>bk.inr rfl) (fun c5=>?_)
  refine bk.inl trivial ?_
  rw [aJ h3 Bh3]
  all_goals exact fz
 ·simp only [step,SS]
  have:=(H0).1
  refine cY (by apply decide_eq_false;omega) ?_
  refine ⟨0,?_⟩
  all_goals exact fz
def af:cq 372 aV:=L2 26 pid cQ cR live step start mix aD bp .nil Tryz.func372
def md_eq (a0 a1:List bz):md a0 a1=eu a0 a1:=by
 unfold md
 refine jY (bz.zero) (fun i s h h2=>?_) (fun s=>rfl)
 simp only [bne,eT,bool_beq,eM,bz.eqc]
 cases eu _ _<;>rfl
end Z252
namespace Z253
def F (x0 x1:aT):aH:=(call (Z247.R (x0.ay,x1.ay)) fun v1=>(cond v1 (call (Z252.R (x0.cT,x1.cT)) fun v2=>ret (v2:Bool)) bf))
def md (a0 a1:aa):Bool:=(cond (Z247.md a0.ay a1.ay) ((Z252.md a0.cT a1.cT):Bool) (false:Bool))
def gd (a0 a1:aa):Prop:=(aa.Sm (2^21) a0)/\(aa.Sm (2^21) a1)
def R:=RR (p2 gd) (u2 md)
def ak {a0 a1}(h:gd a0 a1):R ((aa.r a0),(aa.r a1))=some (md a0 a1):=aM (a:=(a0,a1)) h
def aV:=CN [.agg kB,.agg kB] oB RT.dec R
def bp (a0)(a1)(hg:gd a0 a1):F (aa.r a0) (aa.r a1)=ret (md a0 a1):=by
 obtain ⟨H0,H1⟩:=hg
 unfold F md
 try simp only [SS]
 refine ct (Z247.ak ⟨H0.1,H1.1⟩) ?_
 refine aq ret (fun c1=>?_) (fun _=>rfl)
 refine ct (Z252.ak ⟨H0.2,H1.2⟩) ?_
 all_goals exact fz
def af:cq 341 aV:=W2 17 F mix aD bp (.cons Z247.af (.cons Z252.af .nil)) Tryz.func341
def md_eq (a0 a1:aa):md a0 a1=eu a0 a1:=by
 unfold md
 cases a0;cases a1
 rw [Bool.eq_iff_iff]
 simp [cU,eM,aa.mk.injEq,Z247.md_eq,Z252.md_eq]
 try (constructor<;>(intro h;simp_all))
end Z253
namespace Z254
def F (x0:cu):aH:=(call (Z247.R (x0.fA.ay,x0.fB.ay)) fun v1=>(cond v1 bf (call (Z253.R (x0.aX,(⟨(⟨0,0,0,0,0,0,0,0,(⟨[],0⟩:bC),(⟨[],0⟩:bC),0,(⟨[],0⟩:bC),false⟩:bW),[]⟩:aT))) fun v2=>(cond v2 (call (Z184.R x0.fA) fun v3=>(cond v3 (call (Z184.R x0.fB) fun v4=>(cond v4 (ret ((x0.fA.ay.bw==x0.fB.ay.bw):Bool)) bf)) bf)) (call (Z194.R (x0.aX.ay,x0.fA)) fun v5=>(cond v5 (call (Z194.R (x0.aX.ay,x0.fB)) fun v6=>ret (v6:Bool)) bf))))))
def md (a0:aI):Bool:=(cond (Z247.md a0.fA.ay a0.fB.ay) (false:Bool) (cond (Z253.md a0.aX (⟨(⟨0,0,0,0,0,0,0,0,(⟨[],0⟩:aL),(⟨[],0⟩:aL),0,(⟨[],0⟩:aL),false⟩:aE),[]⟩:aa)) (cond (Z184.md a0.fA) (cond (Z184.md a0.fB) ((a0.fA.ay.bw==a0.fB.ay.bw):Bool) (false:Bool)) (false:Bool)) (cond (Z194.md a0.aX.ay a0.fA) ((Z194.md a0.aX.ay a0.fB):Bool) (false:Bool))))
def gd (a0:aI):Prop:=(aI.Sm (2^21) a0)
def R:=RR gd md
def ak {a0}(h:gd a0):R (aI.r a0)=some (md a0):=aM (a:=a0) h
def aV:=CN [.agg tI] oB RT.dec R
def bp (a0)(hg:gd a0):F (aI.r a0)=ret (md a0):=by
 unfold gd at hg
 have H0:=hg
 unfold F md
 try simp only [SS]
 refine ct (Z247.ak ⟨H0.2.1.1,H0.2.2.1⟩) ?_
 refine aq ret (fun _=>rfl) (fun c1=>?_)
 refine ct (Z253.ak (a1:=(⟨(⟨0,0,0,0,0,0,0,0,(⟨[],0⟩:aL),(⟨[],0⟩:aL),0,(⟨[],0⟩:aL),false⟩:aE),[]⟩:aa)) ⟨H0.1,⟨⟨bI.nil,bI.nil,bI.nil⟩,bI.nil⟩⟩) ?_
 refine aq ret (fun c2=>?_) (fun c2=>?_)
 ·refine ct (Z184.ak H0.2.1) ?_
  refine aq ret (fun c3=>?_) (fun _=>rfl)
  refine ct (Z184.ak H0.2.2) ?_
  refine aq ret (fun c4=>?_) (fun _=>rfl)
  all_goals exact fz
 ·refine ct (Z194.ak ⟨H0.1.1,H0.2.1⟩) ?_
  refine aq ret (fun c5=>?_) (fun _=>rfl)
  refine ct (Z194.ak ⟨H0.1.1,H0.2.2⟩) ?_
  all_goals exact fz
def af:cq 309 aV:=W1 49 F mix aD bp (.cons Z247.af (.cons Z253.af (.cons Z184.af (.cons Z194.af .nil)))) Tryz.func309
def br (a0:aI):md a0=Z123.md a0:=by
 unfold md Z123.md
 first
 | (simp only [Z184.br,Z194.br,Z247.md_eq,Z253.md_eq,Z106.md_eq,Z122.md_eq];done)
 | (simp only [Z184.br,Z194.br,Z247.md_eq,Z253.md_eq,Z106.md_eq,Z122.md_eq];rfl)
 | rfl
end Z254
namespace Z255
def F (x0:cu):aH:=(call (Z254.R x0) fun v1=>(cond (!v1) (ret ((-1):Int)) (ret (x0.fA.ay.bw:Int))))
def md (a0:aI):Int:=(cond (!(Z254.md a0)) ((-1):Int) (a0.fA.ay.bw:Int))
def gd (a0:aI):Prop:=(aI.Sm (2^21) a0)
def R:=RR gd md
def ak {a0}(h:gd a0):R (aI.r a0)=some (md a0):=aM (a:=a0) h
def aV:=CN [.agg tI] oI RT.dec R
def bp (a0)(hg:gd a0):F (aI.r a0)=ret (md a0):=by
 unfold gd at hg
 have H0:=hg
 unfold F md
 try simp only [SS]
 refine ct (Z254.ak H0) ?_
 refine aq ret (fun _=>rfl) (fun c1=>?_)
 all_goals exact fz
def af:cq 256 aV:=W1 10 F mix aD bp (.cons Z254.af .nil) Tryz.func256
def br (a0:aI):md a0=Z124.md a0:=by
 unfold md Z124.md
 first
 | (simp only [Z254.br];done)
 | (simp only [Z254.br];rfl)
 | rfl
end Z255
namespace Z256
def F (x0:cu)(x1:List L):aH:=(call (Z255.R x0) fun v1=>ret ((v1==(fH x1)):Bool))
def pats:List gF:=[.agg [au,au,au,au,au,au,au,au,.sl 3,au,.sl 3,au,au,.sl 3,au,.bool,.sl 227,au,au,au,au,au,au,au,au,.sl 3,au,.sl 3,au,au,.sl 3,au,.bool,.sl 227,au,au,au,au,au,au,au,au,.sl 3,au,.sl 3,au,au,.sl 3,au,.bool,.sl 227],.ptr [au]]
def res:RP:=.one (.rd (.bool))
def md (a0:aI)(a1:Int):Bool:=(((Z255.md a0)==a1):Bool)
def gd (a0:aI)(a1:Int):Prop:=(aI.Sm (2^21) a0)
def acc (ls:List L):cu×Int:=((cu.dec ls),(fH (cm 1 (av 51 ls))))
def R:(cu×Int)->Option Bool:=RR (p2 gd) (u2 md)
def ak {a0 a1}(h:gd a0 a1):R ((aI.r a0),a1)=some (md a0 a1):=aM (a:=(a0,a1)) h
def aV:gy:=CN pats res acc R
def bp (a0:aI)(a1:Int)(p1:List L)(e1:a1=(fH p1))(hg:gd a0 a1):F (aI.r a0) p1=ret ((md a0 a1):Bool):=by
 unfold gd at hg
 have H0:=hg
 unfold F md
 try simp only [SS,<-e1]
 refine ct (Z255.ak H0) ?_
 all_goals exact fz
def nu (ls:List L)(a:aI×Int)(e:acc ls=Im.im a)(hg:(p2 gd) a):∃n:Nat,F (cu.dec ls) (cm 1 (av 51 ls))=ret (Im.im ((u2 md) a)):=by
 have e0:(aI.r a.1)=(cu.dec ls):=(congrArg (fun x=>x.1) e.symm)
 have hn:=bp a.1 a.2 (cm 1 (av 51 ls)) (congrArg (fun x=>x.2) e.symm) hg
 refine ⟨0,?_⟩
 rw [<-e0]
 exact hn
def af:cq 255 aV:=VP (live:=fun _=>[]) (nt:=8) (accr:=fun ls=>((cu.dec ls),(cm 1 (av 51 ls)))) (run:=fun _ x=>F x.1 x.2) mix aD (.cons Z255.af .nil) Tryz.func255 (by kernel_rfl) (fun _ _=>by kernel_rfl) (fun ls a _ e hg=>nu ls a e hg)
end Z256
namespace Z257
inductive Pt where
 | p0 (a:aF) (b:List L) (c d:Int)
def pid:Pt->Nat
 | .p0 ..=>2
def cQ:Pt->List V
 | .p0 a b c d=>[.sl none 180 a,.fn 255 [.dc none [au] b 0],.int .i64 c,.int .i64 d]
def cR:Pt->List aS
 | .p0 a b c d=>[]
def step (J:Pt->aH):Pt->aH
 | .p0 a b c d=>(cond (decide (d<c)) (m2 d (a.length:Int) (call (Z256.R ((cu.at a (toNat d)),(fH b))) fun v1=>(cond v1 (ret (d:Int)) (J (.p0 a b c (i64.wrap (d+1))))))) (ret ((-1):Int)))
def start (J:Pt->aH)(x0:aF)(x1:List L):aH:=J (.p0 x0 x1 (x0.length:Int) 0)
def live:Nat->Live:=fun i=>match i with | 2=>[(0,none),(1,none),(7,none),(8,none)] | _=>[]
def pats:List gF:=[.rd (.sl 180),.fn 255 [[au]]]
def res:RP:=.one (.rd (.int .i64))
abbrev E:Env:={ T:=assoc rE,G:=dP [(255,Z256.aV)],nt:=19 }
def step_eq (I:dH)(p:Pt):dU E live I (pid p) (ck Tryz.f308) (ij (live (pid p)) (cQ p) (cR p)) (dD E Tryz.f308 res)=step (fun q=>I (pid q) (cQ q) (cR q)) p:=by
 cases p<;>kernel_rfl
def start_eq (I:dH)(ls:List L):gn E live I (ck Tryz.f308) (dO pats ls) (dD E Tryz.f308 res)=start (fun q=>I (pid q) (cQ q) (cR q)) (ls.headD .hole).aY (cm 1 (av 1 ls)):=by kernel_rfl
def run_eq (n:Nat)(ls:List L):fY E live Tryz.f308 res n (dO pats ls)=start (iter step n) (ls.headD .hole).aY (cm 1 (av 1 ls)):=dL (id:=pid) (vs:=cQ) (hs:=cR) (step:=step) (start:=fun J=>start J (ls.headD .hole).aY (cm 1 (av 1 ls))) step_eq (fun I=>start_eq I ls) n
def md (a0:List aI)(a1:Int):Int:=(dF (S:=Unit) (β:=Int) (fun (i1:Nat) (y1:aI) (s3:Unit)=>(cond (Z256.md y1 a1) (.inr ((i1:Int):Int)) (.inl ()))) (fun (s3:Unit)=>((-1):Int)) 0 a0 ())
def gd (a0:List aI)(a1:Int):Prop:=(bI (2^21) (fun y:aI=>aI.Sm (2^21) y) a0)
def acc (ls:List L):aF×Int:=((ls.headD .hole).aY,(fH (cm 1 (av 1 ls))))
def R:(aF×Int)->Option Int:=RR (p2 gd) (u2 md)
def ak {a0 a1}(h:gd a0 a1):R ((a0.map aI.row),a1)=some (md a0 a1):=aM (a:=(a0,a1)) h
def aV:gy:=CN pats res acc R
def bp (a0:List aI)(a1:Int)(p1:List L)(e1:a1=(fH p1))(hg:gd a0 a1):∃n,start (iter step n) (a0.map aI.row) p1=ret ((md a0 a1):Int):=by
 unfold gd at hg
 have H0:=hg
 unfold start md
 try simp only [SS,<-e1]
 have Bh2:a0.length<=maxLen:=(by
   have:=(H0).1
   try simp only [maxLen] at *
   omega)
 refine ex_eq (out:=ret) (cH (z:=aI.zero)) ?_
 refine dG (p:=Pt.p0 (a0.map aI.row) p1 (a0.length:Int) 0) fz ?_
 refine bU (pt:=fun (i1:Nat) (s3:Unit)=>Pt.p0 (a0.map aI.row) p1 (a0.length:Int) (i1:Int)) (s:=(():Unit)) (out:=ret) (fun _ _=>True) (fun J i1 s3 h2 hih2=>?_) (fun s3 hih2=>?_) trivial
 ·simp only [step,SS,<-e1]
  have bb_:=Bh2
  simp only [maxLen] at bb_
  have:=(H0).1
  refine bk.yes (by apply decide_eq_true;omega) ?_
  refine bk.yes bE ?_
  refine bk.yes (bM h2) ?_
  refine cr (Z256.ak (bI.getD (z:=aI.zero) H0 h2)) ?_
  refine bk.bif (fun c4=>?_) (fun c4=>?_)
  ·refine bk.inr ?_
   all_goals exact fz
  ·refine bk.inl trivial ?_
   rw [aJ h2 Bh2]
   all_goals exact fz
 ·simp only [step,SS,<-e1]
  have:=(H0).1
  refine cY (by apply decide_eq_false;omega) ?_
  refine ⟨0,?_⟩
  all_goals exact fz
def nu (ls:List L)(a:List aI×Int)(e:acc ls=Im.im a)(hg:(p2 gd) a):∃n:Nat,start (iter step n) ((ls.headD .hole).aY) (cm 1 (av 1 ls))=ret (Im.im ((u2 md) a)):=by
 have e0:(a.1.map aI.row)=(ls.headD .hole).aY:=(congrArg (fun x=>x.1) e.symm)
 obtain ⟨n,hn⟩:=bp a.1 a.2 (cm 1 (av 1 ls)) (congrArg (fun x=>x.2) e.symm) hg
 refine ⟨n,?_⟩
 rw [<-e0]
 exact hn
def af:cq 308 aV:=VP (accr:=fun ls=>((ls.headD .hole).aY,(cm 1 (av 1 ls)))) (run:=fun n x=>start (iter step n) x.1 x.2) mix aD (.cons Z256.af .nil) Tryz.func308 (by kernel_rfl) run_eq (fun ls a _ e hg=>nu ls a e hg)
def fa (a0:List aI)(a1:Int):-1<=md a0 a1/\md a0 a1<(a0.length:Int):=by
 unfold md
 refine fF ?_ _ _
 all_goals
  intro i x s b h
  revert h
  simp only [Bool.cond_eq_ite]
  repeat' split
  all_goals (intro h;first | (cases h;rfl) | cases h)
def idx_eq (a0:List aI)(a1:Int):md a0 a1=iF (fun y=>Z256.md y a1) 0 a0:=by
 unfold md
 exact gv
end Z257
namespace Z258
def F (x0:aF)(x1:List L):aH:=(call (Z257.R (x0,(fH x1))) fun v1=>ret ((decide (v1>=0)):Bool))
def pats:List gF:=[.rd (.sl 180),.fn 255 [[au]]]
def res:RP:=.one (.rd (.bool))
def md (a0:List aI)(a1:Int):Bool:=((decide ((Z257.md a0 a1)>=0)):Bool)
def gd (a0:List aI)(a1:Int):Prop:=(bI (2^21) (fun y:aI=>aI.Sm (2^21) y) a0)
def acc (ls:List L):aF×Int:=((ls.headD .hole).aY,(fH (cm 1 (av 1 ls))))
def R:(aF×Int)->Option Bool:=RR (p2 gd) (u2 md)
def ak {a0 a1}(h:gd a0 a1):R ((a0.map aI.row),a1)=some (md a0 a1):=aM (a:=(a0,a1)) h
def aV:gy:=CN pats res acc R
def bp (a0:List aI)(a1:Int)(p1:List L)(e1:a1=(fH p1))(hg:gd a0 a1):F (a0.map aI.row) p1=ret ((md a0 a1):Bool):=by
 unfold gd at hg
 have H0:=hg
 unfold F md
 try simp only [SS,<-e1]
 refine ct (Z257.ak H0) ?_
 have fv1_:=Z257.fa a0 a1
 all_goals exact fz
def nu (ls:List L)(a:List aI×Int)(e:acc ls=Im.im a)(hg:(p2 gd) a):∃n:Nat,F ((ls.headD .hole).aY) (cm 1 (av 1 ls))=ret (Im.im ((u2 md) a)):=by
 have e0:(a.1.map aI.row)=(ls.headD .hole).aY:=(congrArg (fun x=>x.1) e.symm)
 have hn:=bp a.1 a.2 (cm 1 (av 1 ls)) (congrArg (fun x=>x.2) e.symm) hg
 refine ⟨0,?_⟩
 rw [<-e0]
 exact hn
def af:cq 254 aV:=VP (live:=fun _=>[]) (nt:=9) (accr:=fun ls=>((ls.headD .hole).aY,(cm 1 (av 1 ls)))) (run:=fun _ x=>F x.1 x.2) mix aD (.cons Z257.af .nil) Tryz.func254 (by kernel_rfl) (fun _ _=>by kernel_rfl) (fun ls a _ e hg=>nu ls a e hg)
def any_eq (a0:List aI)(a1:Int):md a0 a1=a0.any (fun y=>Z256.md y a1):=by
 unfold md
 rw [Z257.idx_eq]
 exact qv
end Z258
namespace Z259
def F (x0:bt)(x1:Int):aH:=(cond (decide (x1>=0)) (call (Z258.R (x0.bq,x1)) fun v1=>ret (v1:Bool)) bf)
def md (a0:an)(a1:Int):Bool:=(cond (decide (a1>=0)) ((Z258.md a0.bq a1):Bool) (false:Bool))
def gd (a0:an)(a1:Int):Prop:=(an.Sm (2^21) a0)
def R:=RR (p2 gd) (u2 md)
def ak {a0 a1}(h:gd a0 a1):R ((an.r a0),a1)=some (md a0 a1):=aM (a:=(a0,a1)) h
def aV:=CN [.agg tO,pI] oB RT.dec R
def bp (a0)(a1)(hg:gd a0 a1):F (an.r a0) a1=ret (md a0 a1):=by
 unfold gd at hg
 have H0:=hg
 unfold F md
 try simp only [SS]
 refine aq ret (fun c1=>?_) (fun _=>rfl)
 refine ct (Z258.ak H0.2) ?_
 all_goals exact fz
def af:cq 197 aV:=W2 13 F mix aD bp (.cons Z258.af .nil) Tryz.func197
def br (a0:an)(a1:Int):md a0 a1=Z125.md a0 a1:=by
 unfold md Z125.md
 rw [Z258.any_eq]
 rw [nv (p:=fun y=>(Z124.md y==a1)&&decide (a1>=0)) (fun x s=>by
  cases (Z124.md x==a1)<;>cases decide (a1>=0)<;>rfl) a0.bq ()]
 have e:(fun y=>Z256.md y a1)=fun y=>Z124.md y==a1:=by
  funext y
  unfold Z256.md
  rw [Z255.br]
 rw [e]
 cases decide (a1>=0)
 ·simp
 ·simp
end Z259
namespace Z260
abbrev E (n:Nat):Env:={ T:=assoc rE,G:=dP [(106,Z243.aV),(195,Z196.aV),(196,Z251.aV),(167,Z148.aV),(197,Z259.aV)],nt:=74,M:=gO [],np:=n,I:=kO [] }
def ic (n:Nat):ju:=inl (E n) Tryz.f149
def kA (n:Nat):fW Tryz.prog Ev n 149 (ic n):=yL (mt:=false) mix aD (.cons Z243.af (.cons Z196.af (.cons Z251.af (.cons Z148.af (.cons Z259.af .nil))))) .nil .nil Tryz.func149 (by kernel_rfl)
end Z260
namespace Z261
inductive Pt where
 | p0 (a:Int) (b:aA) (c:Int) (d:aF) (e f:Int) (g:Bool) (h:aA) (i j:Int) (k l:Bool) (m:aA) (n o:Int) (p:Bool) (q s t:aF)
def pid:Pt->Nat
 | .p0 ..=>3
def cQ:Pt->List V
 | .p0 a b c d e f g h i j k l m n o p q s t=>[.int .i64 a,.str b,.int .i64 c,.cj 0 0,.cj 1 0,.sl none 126 d,.int .i64 e,.int .i64 f,.cj 1 0]
def cR:Pt->List aS
 | .p0 a b c d e f g h i j k l m n o p q s t=>[.box [.nil,.nil,.bool g,.str h,.int .i64 i,.int .i64 j,.nil,.bool k,.nil],.box [.own 2,.own 3,.bool l,.str m,.int .i64 n,.int .i64 o,.nil,.bool p,.own 4],.row 120 q,.row 180 s,.row 3 t]
def step (J:Pt->aH):Pt->aH
 | .p0 a b c d e f g h i j k l m n o p q s t=>(cond (decide (f<e)) (m2 f (d.length:Int) (call (Z243.R (a,b,(aO.at d (toNat f)),c)) fun v1=>(call (Z196.R ((aO.at d (toNat f)).aP)) fun v2=>(cond v2 (cK (decide ((0:Int)<((aO.at d (toNat f)).aP.length:Int))) (cond ((aT.at ((aO.at d (toNat f)).aP) 0).ay.bw==a) (call (Z251.R ((⟨q,s⟩:bt),(aO.at d (toNat f)).aP)) fun v3=>(call (Z148.R (v3.2,1,3)) fun v4=>(cond v4 (call (Z259.R (v3.1,a)) fun v5=>(cond (v1==1) (cond (!(!v5)) (cK (eO (((t.length:Int)+1)*8)) (J (.p0 a b c d e (i64.wrap (f+1)) g h i j k l m n o p v3.1.aK v3.1.bq (t++[[L.int 3]])))) (cK (eO (((t.length:Int)+1)*8)) (cond (v1==1) (call (Z140.R ((aO.at d (toNat f)).bg)) fun v6=>ret (((⟨v3.1,(aO.at d (toNat f)).bS,v6,true,(t++[[L.int v1]])⟩:cW),f):cW×Int)) (J (.p0 a b c d e (i64.wrap (f+1)) g h i j k l m n o p v3.1.aK v3.1.bq (t++[[L.int v1]])))))) (cK (eO (((t.length:Int)+1)*8)) (cond (v1==1) (call (Z140.R ((aO.at d (toNat f)).bg)) fun v7=>ret (((⟨v3.1,(aO.at d (toNat f)).bS,v7,true,(t++[[L.int v1]])⟩:cW),f):cW×Int)) (J (.p0 a b c d e (i64.wrap (f+1)) g h i j k l m n o p v3.1.aK v3.1.bq (t++[[L.int v1]]))))))) (cond (v1==1) (cK (eO (((t.length:Int)+1)*8)) (J (.p0 a b c d e (i64.wrap (f+1)) g h i j k l m n o p v3.1.aK v3.1.bq (t++[[L.int 3]])))) (cK (eO (((t.length:Int)+1)*8)) (cond (v1==1) (call (Z140.R ((aO.at d (toNat f)).bg)) fun v8=>ret (((⟨v3.1,(aO.at d (toNat f)).bS,v8,true,(t++[[L.int v1]])⟩:cW),f):cW×Int)) (J (.p0 a b c d e (i64.wrap (f+1)) g h i j k l m n o p v3.1.aK v3.1.bq (t++[[L.int v1]]))))))))) (call (Z148.R (6,1,3)) fun v9=>(cond v9 (call (Z259.R ((⟨q,s⟩:bt),a)) fun v10=>(cond (v1==1) (cond (!(!v10)) (cK (eO (((t.length:Int)+1)*8)) (J (.p0 a b c d e (i64.wrap (f+1)) g h i j k l m n o p q s (t++[[L.int 3]])))) (cK (eO (((t.length:Int)+1)*8)) (cond (v1==1) (call (Z140.R ((aO.at d (toNat f)).bg)) fun v11=>ret (((⟨(⟨q,s⟩:bt),(aO.at d (toNat f)).bS,v11,true,(t++[[L.int v1]])⟩:cW),f):cW×Int)) (J (.p0 a b c d e (i64.wrap (f+1)) g h i j k l m n o p q s (t++[[L.int v1]])))))) (cK (eO (((t.length:Int)+1)*8)) (cond (v1==1) (call (Z140.R ((aO.at d (toNat f)).bg)) fun v12=>ret (((⟨(⟨q,s⟩:bt),(aO.at d (toNat f)).bS,v12,true,(t++[[L.int v1]])⟩:cW),f):cW×Int)) (J (.p0 a b c d e (i64.wrap (f+1)) g h i j k l m n o p q s (t++[[L.int v1]]))))))) (cond (v1==1) (cK (eO (((t.length:Int)+1)*8)) (J (.p0 a b c d e (i64.wrap (f+1)) g h i j k l m n o p q s (t++[[L.int 3]])))) (cK (eO (((t.length:Int)+1)*8)) (cond (v1==1) (call (Z140.R ((aO.at d (toNat f)).bg)) fun v13=>ret (((⟨(⟨q,s⟩:bt),(aO.at d (toNat f)).bS,v13,true,(t++[[L.int v1]])⟩:cW),f):cW×Int)) (J (.p0 a b c d e (i64.wrap (f+1)) g h i j k l m n o p q s (t++[[L.int v1]])))))))))) (call (Z148.R (6,1,3)) fun v14=>(cond v14 (call (Z259.R ((⟨q,s⟩:bt),a)) fun v15=>(cond (v1==1) (cond (!(!v15)) (cK (eO (((t.length:Int)+1)*8)) (J (.p0 a b c d e (i64.wrap (f+1)) g h i j k l m n o p q s (t++[[L.int 3]])))) (cK (eO (((t.length:Int)+1)*8)) (cond (v1==1) (call (Z140.R ((aO.at d (toNat f)).bg)) fun v16=>ret (((⟨(⟨q,s⟩:bt),(aO.at d (toNat f)).bS,v16,true,(t++[[L.int v1]])⟩:cW),f):cW×Int)) (J (.p0 a b c d e (i64.wrap (f+1)) g h i j k l m n o p q s (t++[[L.int v1]])))))) (cK (eO (((t.length:Int)+1)*8)) (cond (v1==1) (call (Z140.R ((aO.at d (toNat f)).bg)) fun v17=>ret (((⟨(⟨q,s⟩:bt),(aO.at d (toNat f)).bS,v17,true,(t++[[L.int v1]])⟩:cW),f):cW×Int)) (J (.p0 a b c d e (i64.wrap (f+1)) g h i j k l m n o p q s (t++[[L.int v1]]))))))) (cond (v1==1) (cK (eO (((t.length:Int)+1)*8)) (J (.p0 a b c d e (i64.wrap (f+1)) g h i j k l m n o p q s (t++[[L.int 3]])))) (cK (eO (((t.length:Int)+1)*8)) (cond (v1==1) (call (Z140.R ((aO.at d (toNat f)).bg)) fun v18=>ret (((⟨(⟨q,s⟩:bt),(aO.at d (toNat f)).bS,v18,true,(t++[[L.int v1]])⟩:cW),f):cW×Int)) (J (.p0 a b c d e (i64.wrap (f+1)) g h i j k l m n o p q s (t++[[L.int v1]])))))))))))) (ret (((⟨(⟨q,s⟩:bt),l,(⟨m,n,o,[]⟩:aW),p,t⟩:cW),(-1)):cW×Int)))
def start (J:Pt->aH)(x0:bt)(x1:aF)(x2:Int)(x3:aA)(x4:Int):aH:=(call (Z147.R x0) fun v1=>J (.p0 x2 x3 x4 x1 (x1.length:Int) 0 false ⟨#[]⟩ 0 0 false false ⟨#[]⟩ 0 0 false v1.aK v1.bq []))
def live:Nat->Live:=fun i=>match i with | 3=>[(2,none),(3,none),(4,none),(10,none),(12,none),(18,none),(19,none),(20,none),(12,some 8388611)] | _=>[]
def pats:List gF:=[.agg [.sl 120,.sl 180],.rd (.sl 126),.rd (.int .i64),.rd (.str),.rd (.int .i64)]
def res:RP:=.hU [(true,[.fr 120,.fr 180,.rd (.bool),.rd (.str),.rd (.int .i64),.rd (.int .i64),.fr 9,.rd (.bool),.fr 3]),(false,[.rd (.int .i64)])]
abbrev E:Env:={ T:=assoc rE,G:=dP [(143,Z147.aV),(150,Z140.aV)],nt:=42,M:=gO [],I:=kO [(149,Z260.ic 0)] }
def step_eq (I:dH)(p:Pt):dU E live I (pid p) (ck Tryz.f99) (ij (live (pid p)) (cQ p) (cR p)) (dD E Tryz.f99 res)=step (fun q=>I (pid q) (cQ q) (cR q)) p:=by
 cases p<;>kernel_rfl
def start_eq (I:dH)(ls:List L):gn E live I (ck Tryz.f99) (dO pats ls) (dD E Tryz.f99 res)=start (fun q=>I (pid q) (cQ q) (cR q)) (bt.dec ls) ((av 2 ls).headD .hole).aY ((av 3 ls).headD .hole).toInt ((av 4 ls).headD .hole).toStr ((av 5 ls).headD .hole).toInt:=by kernel_rfl
def run_eq (n:Nat)(ls:List L):fY E live Tryz.f99 res n (dO pats ls)=start (iter step n) (bt.dec ls) ((av 2 ls).headD .hole).aY ((av 3 ls).headD .hole).toInt ((av 4 ls).headD .hole).toStr ((av 5 ls).headD .hole).toInt:=dL (id:=pid) (vs:=cQ) (hs:=cR) (step:=step) (start:=fun J=>start J (bt.dec ls) ((av 2 ls).headD .hole).aY ((av 3 ls).headD .hole).toInt ((av 4 ls).headD .hole).toStr ((av 5 ls).headD .hole).toInt) step_eq (fun I=>start_eq I ls) n
def md (a0:an)(a1:List aj)(a2:Int)(a3:aA)(a4:Int):bO×Int:=(dF (S:=List (List aa)×List aI×List Int) (β:=bO×Int) (fun (i1:Nat) (y1:aj) (s3:List (List aa)×List aI×List Int)=>(cond (Z196.md (y1.aP)) (cond (((y1.aP.getD 0 aa.zero).ay).bw==a2) (cond (Z148.md ((Z251.md (⟨s3.1,s3.2.1⟩:an) (y1.aP)).2) 1 3) (cond ((Z243.md a2 a3 y1 a4)==1) (cond (!(!(Z259.md ((Z251.md (⟨s3.1,s3.2.1⟩:an) (y1.aP)).1) a2))) (.inl ((Z251.md (⟨s3.1,s3.2.1⟩:an) (y1.aP)).1.aK,(Z251.md (⟨s3.1,s3.2.1⟩:an) (y1.aP)).1.bq,(s3.2.2++[3]))) (cond ((Z243.md a2 a3 y1 a4)==1) (.inr ((⟨(Z251.md (⟨s3.1,s3.2.1⟩:an) (y1.aP)).1,y1.bS,(y1.bg),true,(s3.2.2++[(Z243.md a2 a3 y1 a4)])⟩:bO),(i1:Int))) (.inl ((Z251.md (⟨s3.1,s3.2.1⟩:an) (y1.aP)).1.aK,(Z251.md (⟨s3.1,s3.2.1⟩:an) (y1.aP)).1.bq,(s3.2.2++[(Z243.md a2 a3 y1 a4)]))))) (cond ((Z243.md a2 a3 y1 a4)==1) (.inr ((⟨(Z251.md (⟨s3.1,s3.2.1⟩:an) (y1.aP)).1,y1.bS,(y1.bg),true,(s3.2.2++[(Z243.md a2 a3 y1 a4)])⟩:bO),(i1:Int))) (.inl ((Z251.md (⟨s3.1,s3.2.1⟩:an) (y1.aP)).1.aK,(Z251.md (⟨s3.1,s3.2.1⟩:an) (y1.aP)).1.bq,(s3.2.2++[(Z243.md a2 a3 y1 a4)]))))) (cond ((Z243.md a2 a3 y1 a4)==1) (.inl ((Z251.md (⟨s3.1,s3.2.1⟩:an) (y1.aP)).1.aK,(Z251.md (⟨s3.1,s3.2.1⟩:an) (y1.aP)).1.bq,(s3.2.2++[3]))) (cond ((Z243.md a2 a3 y1 a4)==1) (.inr ((⟨(Z251.md (⟨s3.1,s3.2.1⟩:an) (y1.aP)).1,y1.bS,(y1.bg),true,(s3.2.2++[(Z243.md a2 a3 y1 a4)])⟩:bO),(i1:Int))) (.inl ((Z251.md (⟨s3.1,s3.2.1⟩:an) (y1.aP)).1.aK,(Z251.md (⟨s3.1,s3.2.1⟩:an) (y1.aP)).1.bq,(s3.2.2++[(Z243.md a2 a3 y1 a4)])))))) (cond (Z148.md 6 1 3) (cond ((Z243.md a2 a3 y1 a4)==1) (cond (!(!(Z259.md (⟨s3.1,s3.2.1⟩:an) a2))) (.inl (s3.1,s3.2.1,(s3.2.2++[3]))) (cond ((Z243.md a2 a3 y1 a4)==1) (.inr ((⟨(⟨s3.1,s3.2.1⟩:an),y1.bS,(y1.bg),true,(s3.2.2++[(Z243.md a2 a3 y1 a4)])⟩:bO),(i1:Int))) (.inl (s3.1,s3.2.1,(s3.2.2++[(Z243.md a2 a3 y1 a4)]))))) (cond ((Z243.md a2 a3 y1 a4)==1) (.inr ((⟨(⟨s3.1,s3.2.1⟩:an),y1.bS,(y1.bg),true,(s3.2.2++[(Z243.md a2 a3 y1 a4)])⟩:bO),(i1:Int))) (.inl (s3.1,s3.2.1,(s3.2.2++[(Z243.md a2 a3 y1 a4)]))))) (cond ((Z243.md a2 a3 y1 a4)==1) (.inl (s3.1,s3.2.1,(s3.2.2++[3]))) (cond ((Z243.md a2 a3 y1 a4)==1) (.inr ((⟨(⟨s3.1,s3.2.1⟩:an),y1.bS,(y1.bg),true,(s3.2.2++[(Z243.md a2 a3 y1 a4)])⟩:bO),(i1:Int))) (.inl (s3.1,s3.2.1,(s3.2.2++[(Z243.md a2 a3 y1 a4)]))))))) (cond (Z148.md 6 1 3) (cond ((Z243.md a2 a3 y1 a4)==1) (cond (!(!(Z259.md (⟨s3.1,s3.2.1⟩:an) a2))) (.inl (s3.1,s3.2.1,(s3.2.2++[3]))) (cond ((Z243.md a2 a3 y1 a4)==1) (.inr ((⟨(⟨s3.1,s3.2.1⟩:an),y1.bS,(y1.bg),true,(s3.2.2++[(Z243.md a2 a3 y1 a4)])⟩:bO),(i1:Int))) (.inl (s3.1,s3.2.1,(s3.2.2++[(Z243.md a2 a3 y1 a4)]))))) (cond ((Z243.md a2 a3 y1 a4)==1) (.inr ((⟨(⟨s3.1,s3.2.1⟩:an),y1.bS,(y1.bg),true,(s3.2.2++[(Z243.md a2 a3 y1 a4)])⟩:bO),(i1:Int))) (.inl (s3.1,s3.2.1,(s3.2.2++[(Z243.md a2 a3 y1 a4)]))))) (cond ((Z243.md a2 a3 y1 a4)==1) (.inl (s3.1,s3.2.1,(s3.2.2++[3]))) (cond ((Z243.md a2 a3 y1 a4)==1) (.inr ((⟨(⟨s3.1,s3.2.1⟩:an),y1.bS,(y1.bg),true,(s3.2.2++[(Z243.md a2 a3 y1 a4)])⟩:bO),(i1:Int))) (.inl (s3.1,s3.2.1,(s3.2.2++[(Z243.md a2 a3 y1 a4)])))))))) (fun (s3:List (List aa)×List aI×List Int)=>((⟨(⟨s3.1,s3.2.1⟩:an),false,(⟨(⟨#[]⟩:aA),0,0,[]⟩:ah),false,s3.2.2⟩:bO),(-1))) 0 a1 (a0.aK,a0.bq,[]))
def gd (a0:an)(a1:List aj)(a2:Int)(a3:aA)(a4:Int):Prop:=(an.Sm (2^21) a0)/\(bI (2^21) (fun y:aj=>aj.Sm (2^21) y) a1)/\(a3.size<=(2^21))
def acc (ls:List L):bt×aF×Int×aA×Int:=((bt.dec ls),((av 2 ls).headD .hole).aY,((av 3 ls).headD .hole).toInt,((av 4 ls).headD .hole).toStr,((av 5 ls).headD .hole).toInt)
def R:(bt×aF×Int×aA×Int)->Option (cW×Int):=RR (p5 gd) (u5 md)
def ak {a0 a1 a2 a3 a4}(h:gd a0 a1 a2 a3 a4):R ((an.r a0),(a1.map aj.row),a2,a3,a4)=some ((bO.r (md a0 a1 a2 a3 a4).1),(md a0 a1 a2 a3 a4).2):=aM (a:=(a0,a1,a2,a3,a4)) h
def aV:gy:=CN pats res acc R
def bp (a0:an)(a1:List aj)(a2:Int)(a3:aA)(a4:Int)(hg:gd a0 a1 a2 a3 a4):∃n,start (iter step n) (an.r a0) (a1.map aj.row) a2 a3 a4=ret (((bO.r (md a0 a1 a2 a3 a4).1),(md a0 a1 a2 a3 a4).2):cW×Int):=by
 obtain ⟨H0,H1,H3⟩:=hg
 unfold start md
 try simp only [SS]
 refine cx (Z147.ak H0) ?_
 try simp only [SS]
 have Bh2:a1.length<=maxLen:=(by
   have:=(H1).1
   try simp only [maxLen] at *
   omega)
 refine ex_eq (out:=(fun b:bO×Int=>ret (((bO.r b.1),b.2):cW×Int))) (cH (z:=aj.zero)) ?_
 refine dG (p:=Pt.p0 a2 a3 a4 (a1.map aj.row) (a1.length:Int) 0 false (⟨#[]⟩:aA) 0 0 false false (⟨#[]⟩:aA) 0 0 false (a0.aK.map (eL aa.row)) (a0.bq.map aI.row) ([].map bn)) fz ?_
 refine bU (pt:=fun (i1:Nat) (s3:List (List aa)×List aI×List Int)=>Pt.p0 a2 a3 a4 (a1.map aj.row) (a1.length:Int) (i1:Int) false (⟨#[]⟩:aA) 0 0 false false (⟨#[]⟩:aA) 0 0 false (s3.1.map (eL aa.row)) (s3.2.1.map aI.row) (s3.2.2.map bn)) (s:=((a0.aK,a0.bq,[]):List (List aa)×List aI×List Int)) (out:=(fun b:bO×Int=>ret (((bO.r b.1),b.2):cW×Int))) (fun (i1:Nat) (s3:List (List aa)×List aI×List Int)=>an.Sm (2^21) (⟨s3.1,s3.2.1⟩:an)/\s3.2.2.length<=i1) (fun J i1 s3 h2 hih2=>?_) (fun s3 hih2=>?_) ⟨H0,zero_le _⟩
 ·simp only [step,SS]
  have gr_:=hih2
  try simp only [LN] at gr_
  have bb_:=Bh2
  simp only [maxLen] at bb_
  have:=(H1).1
  refine bk.yes (by apply decide_eq_true;omega) ?_
  refine bk.yes bE ?_
  refine bk.yes (bM h2) ?_
  refine cr (Z243.ak ⟨H3,(bI.getD (z:=aj.zero) H1 h2)⟩) ?_
  refine cr (Z196.ak (bI.getD (z:=aj.zero) H1 h2).1) ?_
  refine bk.bif (fun c4=>?_) (fun c4=>?_)
  ·try have tc4:=Z196.tr (by simpa using c4)
   refine bk.yes (have:=((bI.getD (z:=aj.zero) H1 h2).1).1;dt) ?_
   refine bk.bif (fun c5=>?_) (fun c5=>?_)
   ·have dc5:=c5
    try simp only [DC] at dc5
    refine cr (Z251.ak (a0:=(⟨s3.1,s3.2.1⟩:an)) ⟨⟨hih2.1.1,hih2.1.2⟩,(bI.getD (z:=aj.zero) H1 h2).1⟩) ?_
    try simp only [SS]
    refine cr (Z148.ak (a0:=(Z251.md (⟨s3.1,s3.2.1⟩:an) ((a1.getD i1 aj.zero).aP)).2) trivial) ?_
    refine bk.bif (fun c6=>?_) (fun c6=>?_)
    ·have Dc6:=c6
     try simp [Z148.md] at Dc6
     refine cr (Z259.ak (a0:=(Z251.md (⟨s3.1,s3.2.1⟩:an) ((a1.getD i1 aj.zero).aP)).1) (Z251.gk (a0:=(⟨s3.1,s3.2.1⟩:an)) (a1:=(a1.getD i1 aj.zero).aP) ⟨⟨hih2.1.1,hih2.1.2⟩,(bI.getD (z:=aj.zero) H1 h2).1⟩)) ?_
     refine bk.bif (fun c7=>?_) (fun c7=>?_)
     ·have dc7:=c7
      try simp only [DC] at dc7
      refine bk.bif (fun c8=>?_) (fun c8=>?_)
      ·have dc8:=c8
       try simp only [DC] at dc8
       refine bk.yes lm ?_
       refine bk.inl (by first | exact ⟨hih2.1,ig hih2.2⟩ | exact ⟨Z251.gk ⟨hih2.1,(bI.getD H1 h2).1⟩,ig hih2.2⟩) ?_
       rw [aJ h2 Bh2]
       all_goals exact fz
      ·have dc8:=c8
       try simp only [DC] at dc8
       refine bk.yes lm ?_
       refine bk.bif (fun c9=>?_) (fun c9=>?_)
       ·refine cr (Z140.ak (bI.getD (z:=aj.zero) H1 h2).2.1) ?_
        try simp only [SS]
        refine bk.inr ?_
        all_goals exact fz
       ·refine bk.inl (by first | exact ⟨hih2.1,ig hih2.2⟩ | exact ⟨Z251.gk ⟨hih2.1,(bI.getD H1 h2).1⟩,ig hih2.2⟩) ?_
        rw [aJ h2 Bh2]
        all_goals exact fz
     ·have dc7:=c7
      try simp only [DC] at dc7
      refine bk.yes lm ?_
      refine bk.bif (fun c10=>?_) (fun c10=>?_)
      ·refine cr (Z140.ak (bI.getD (z:=aj.zero) H1 h2).2.1) ?_
       try simp only [SS]
       refine bk.inr ?_
       all_goals exact fz
      ·refine bk.inl (by first | exact ⟨hih2.1,ig hih2.2⟩ | exact ⟨Z251.gk ⟨hih2.1,(bI.getD H1 h2).1⟩,ig hih2.2⟩) ?_
       rw [aJ h2 Bh2]
       all_goals exact fz
    ·have Dc6:=c6
     try simp [Z148.md] at Dc6
     refine bk.bif (fun c11=>?_) (fun c11=>?_)
     ·have dc11:=c11
      try simp only [DC] at dc11
      refine bk.yes lm ?_
      refine bk.inl (by first | exact ⟨hih2.1,ig hih2.2⟩ | exact ⟨Z251.gk ⟨hih2.1,(bI.getD H1 h2).1⟩,ig hih2.2⟩) ?_
      rw [aJ h2 Bh2]
      all_goals exact fz
     ·have dc11:=c11
      try simp only [DC] at dc11
      refine bk.yes lm ?_
      refine bk.bif (fun c12=>?_) (fun c12=>?_)
      ·refine cr (Z140.ak (bI.getD (z:=aj.zero) H1 h2).2.1) ?_
       try simp only [SS]
       refine bk.inr ?_
       all_goals exact fz
      ·refine bk.inl (by first | exact ⟨hih2.1,ig hih2.2⟩ | exact ⟨Z251.gk ⟨hih2.1,(bI.getD H1 h2).1⟩,ig hih2.2⟩) ?_
       rw [aJ h2 Bh2]
       all_goals exact fz
   ·have dc5:=c5
    try simp only [DC] at dc5
    refine cr (Z148.ak trivial) ?_
    refine bk.bif (fun c13=>?_) (fun c13=>?_)
    ·refine cr (Z259.ak (a0:=(⟨s3.1,s3.2.1⟩:an)) ⟨hih2.1.1,hih2.1.2⟩) ?_
     refine bk.bif (fun c14=>?_) (fun c14=>?_)
     ·have dc14:=c14
      try simp only [DC] at dc14
      refine bk.bif (fun c15=>?_) (fun c15=>?_)
      ·have dc15:=c15
       try simp only [DC] at dc15
       refine bk.yes lm ?_
       refine bk.inl (by first | exact ⟨hih2.1,ig hih2.2⟩ | exact ⟨Z251.gk ⟨hih2.1,(bI.getD H1 h2).1⟩,ig hih2.2⟩) ?_
       rw [aJ h2 Bh2]
       all_goals exact fz
      ·have dc15:=c15
       try simp only [DC] at dc15
       refine bk.yes lm ?_
       refine bk.bif (fun c16=>?_) (fun c16=>?_)
       ·refine cr (Z140.ak (bI.getD (z:=aj.zero) H1 h2).2.1) ?_
        try simp only [SS]
        refine bk.inr ?_
        all_goals exact fz
       ·refine bk.inl (by first | exact ⟨hih2.1,ig hih2.2⟩ | exact ⟨Z251.gk ⟨hih2.1,(bI.getD H1 h2).1⟩,ig hih2.2⟩) ?_
        rw [aJ h2 Bh2]
        all_goals exact fz
     ·have dc14:=c14
      try simp only [DC] at dc14
      refine bk.yes lm ?_
      refine bk.bif (fun c17=>?_) (fun c17=>?_)
      ·refine cr (Z140.ak (bI.getD (z:=aj.zero) H1 h2).2.1) ?_
       try simp only [SS]
       refine bk.inr ?_
       all_goals exact fz
      ·refine bk.inl (by first | exact ⟨hih2.1,ig hih2.2⟩ | exact ⟨Z251.gk ⟨hih2.1,(bI.getD H1 h2).1⟩,ig hih2.2⟩) ?_
       rw [aJ h2 Bh2]
       all_goals exact fz
    ·refine bk.bif (fun c18=>?_) (fun c18=>?_)
     ·have dc18:=c18
      try simp only [DC] at dc18
      refine bk.yes lm ?_
      refine bk.inl (by first | exact ⟨hih2.1,ig hih2.2⟩ | exact ⟨Z251.gk ⟨hih2.1,(bI.getD H1 h2).1⟩,ig hih2.2⟩) ?_
      rw [aJ h2 Bh2]
      all_goals exact fz
     ·have dc18:=c18
      try simp only [DC] at dc18
      refine bk.yes lm ?_
      refine bk.bif (fun c19=>?_) (fun c19=>?_)
      ·refine cr (Z140.ak (bI.getD (z:=aj.zero) H1 h2).2.1) ?_
       try simp only [SS]
       refine bk.inr ?_
       all_goals exact fz
      ·refine bk.inl (by first | exact ⟨hih2.1,ig hih2.2⟩ | exact ⟨Z251.gk ⟨hih2.1,(bI.getD H1 h2).1⟩,ig hih2.2⟩) ?_
       rw [aJ h2 Bh2]
       all_goals exact fz
  ·try have tc4:=Z196.tr (by simpa using c4)
   refine cr (Z148.ak trivial) ?_
   refine bk.bif (fun c20=>?_) (fun c20=>?_)
   ·refine cr (Z259.ak (a0:=(⟨s3.1,s3.2.1⟩:an)) ⟨hih2.1.1,hih2.1.2⟩) ?_
    refine bk.bif (fun c21=>?_) (fun c21=>?_)
    ·have dc21:=c21
     try simp only [DC] at dc21
     refine bk.bif (fun c22=>?_) (fun c22=>?_)
     ·have dc22:=c22
      try simp only [DC] at dc22
      refine bk.yes lm ?_
      refine bk.inl (by first | exact ⟨hih2.1,ig hih2.2⟩ | exact ⟨Z251.gk ⟨hih2.1,(bI.getD H1 h2).1⟩,ig hih2.2⟩) ?_
      rw [aJ h2 Bh2]
      all_goals exact fz
     ·have dc22:=c22
      try simp only [DC] at dc22
      refine bk.yes lm ?_
      refine bk.bif (fun c23=>?_) (fun c23=>?_)
      ·refine cr (Z140.ak (bI.getD (z:=aj.zero) H1 h2).2.1) ?_
       try simp only [SS]
       refine bk.inr ?_
       all_goals exact fz
      ·refine bk.inl (by first | exact ⟨hih2.1,ig hih2.2⟩ | exact ⟨Z251.gk ⟨hih2.1,(bI.getD H1 h2).1⟩,ig hih2.2⟩) ?_
       rw [aJ h2 Bh2]
       all_goals exact fz
    ·have dc21:=c21
     try simp only [DC] at dc21
     refine bk.yes lm ?_
     refine bk.bif (fun c24=>?_) (fun c24=>?_)
     ·refine cr (Z140.ak (bI.getD (z:=aj.zero) H1 h2).2.1) ?_
      try simp only [SS]
      refine bk.inr ?_
      all_goals exact fz
     ·refine bk.inl (by first | exact ⟨hih2.1,ig hih2.2⟩ | exact ⟨Z251.gk ⟨hih2.1,(bI.getD H1 h2).1⟩,ig hih2.2⟩) ?_
      rw [aJ h2 Bh2]
      all_goals exact fz
   ·refine bk.bif (fun c25=>?_) (fun c25=>?_)
    ·have dc25:=c25
     try simp only [DC] at dc25
     refine bk.yes lm ?_
     refine bk.inl (by first | exact ⟨hih2.1,ig hih2.2⟩ | exact ⟨Z251.gk ⟨hih2.1,(bI.getD H1 h2).1⟩,ig hih2.2⟩) ?_
     rw [aJ h2 Bh2]
     all_goals exact fz
    ·have dc25:=c25
     try simp only [DC] at dc25
     refine bk.yes lm ?_
     refine bk.bif (fun c26=>?_) (fun c26=>?_)
     ·refine cr (Z140.ak (bI.getD (z:=aj.zero) H1 h2).2.1) ?_
      try simp only [SS]
      refine bk.inr ?_
      all_goals exact fz
     ·refine bk.inl (by first | exact ⟨hih2.1,ig hih2.2⟩ | exact ⟨Z251.gk ⟨hih2.1,(bI.getD H1 h2).1⟩,ig hih2.2⟩) ?_
      rw [aJ h2 Bh2]
      all_goals exact fz
 ·simp only [step,SS]
  have gr_:=hih2
  try simp only [LN] at gr_
  have:=(H1).1
  refine cY (by apply decide_eq_false;omega) ?_
  refine ⟨0,?_⟩
  all_goals exact fz
def af:cq 99 aV:=VI (mt:=false) (run:=fun n x=>start (iter step n) x.1 x.2.1 x.2.2.1 x.2.2.2.1 x.2.2.2.2) mix aD (.cons Z147.af (.cons Z140.af .nil)) .nil (.cons (Z260.kA 0) .nil) Tryz.func99 (by kernel_rfl) run_eq (fun _ a _ _ hg=>bp a.1 a.2.1 a.2.2.1 a.2.2.2.1 a.2.2.2.2 hg)
def oO (a0:an)(a1:List aj)(a2:Int)(a3:aA)(a4:Int):md a0 a1 a2 a3 a4=dF (fun i y s=>(Z126.oz a2 a3 a4 y s).map id (fun b=>(b,(i:Int)))) (fun s=>(Z126.fin s,-1)) 0 a1 (a0.aK,a0.bq,[]):=by
 unfold md
 refine lC (fun i y _ s=>?_) (fun s=>rfl)
 have h31:((3:Int)==1)=false:=rfl
 have h61:((6:Int)==1)=false:=rfl
 have h62:((6:Int)==2)=false:=rfl
 have h63:((6:Int)==3)=false:=rfl
 have hin:∀n:Int,Z148.md n 1 3=(n==1||(n==2||n==3)):=fun n=>by
  unfold Z148.md
  rw [Bool.eq_iff_iff];simp;omega
 simp only [Z243.br,Z196.br,Z251.br,Z259.br,hin]
 unfold Z126.oz Z126.mG
 cases g1:Z78.md y.aP
 ·have e:(Z79.md y.aP).2=false:=by unfold Z79.md;rw [g1];rfl
  cases g2:(Z121.md a2 a3 y a4==1)<;>simp [e,g2,h31,h61,h62,h63,Sum.map]
 have hl:=Z78.tr g1
 have e:(Z79.md y.aP).2=true:=by unfold Z79.md;rw [g1];rfl
 have e2:(Z79.md y.aP).1.bw=(y.aP.getD 0 aa.zero).ay.bw:=by
  have hi:toNat (i64.wrap ((y.aP.length:Int) - 1))=y.aP.length - 1:=by simp (disch:=omega) only [wi];omega
  have:=Z78.Bo g1 (y.aP.length - 1) (by omega)
  unfold Z79.md
  rw [g1,hi]
  exact this
 rw [e2,e]
 cases g3:((y.aP.getD 0 aa.zero).ay.bw==a2)
 ·cases g2:(Z121.md a2 a3 y a4==1)<;>simp [g2,h31,h61,h62,h63,Sum.map]
 generalize Z110.md (⟨s.1,s.2.1⟩:an) y.aP=r
 cases g2:(Z121.md a2 a3 y a4==1)<;>cases g4:(r.2==1)<;>cases g5:(r.2==2)<;>cases g6:(r.2==3)<;>cases g7:Z125.md r.1 a2<;>simp [g2,g4,g5,g6,g7,h31,Sum.map]
def Cn (a0:an)(a1:List aj)(a2:Int)(a3:aA)(a4:Int):(md a0 a1 a2 a3 a4).1=Z126.md a0 a1 a2 a3 a4:=by
 rw [oO,Z126.oO]
 exact qR (p:=Prod.fst) (fun i y s=>by cases Z126.oz a2 a3 a4 y s<;>rfl) (fun s=>rfl) a1 0 _
end Z261
namespace Z262
def F (x0:bR)(x1:Int)(x2:aA)(x3:aO)(x4:Int):aH:=(call (Z145.R x0) fun v1=>(call (Z243.R (x1,x2,x3,x4)) fun v2=>(cond (v2 != 1) (ret (v1:bR)) (call (Z143.R x3) fun v3=>(call (Z156.R (x0,x1,x2)) fun v4=>(cond (decide (v4>=0)) (m2 v4 (v1.aU.length:Int) (ret ((⟨(List.set v1.aU (toNat v4) (bV.enc (⟨x1,x2,v3⟩:bV)))⟩:bR):bR))) (cond (decide ((x0.aU.length:Int)<16)) (cK (eO (((v1.aU.length:Int)+1)*328)) (ret ((⟨(v1.aU++[(bV.enc (⟨x1,x2,v3⟩:bV))])⟩:bR):bR))) (ret (v1:bR)))))))))
def md (a0:aG)(a1:Int)(a2:aA)(a3:aj)(a4:Int):aG:=(cond ((Z243.md a1 a2 a3 a4) != 1) a0 (cond (decide ((Z156.md a0 a1 a2)>=0)) (⟨(List.set a0.aU (toNat (Z156.md a0 a1 a2)) (⟨a1,a2,a3⟩:aC))⟩:aG) (cond (decide ((a0.aU.length:Int)<16)) (⟨(a0.aU++[(⟨a1,a2,a3⟩:aC)])⟩:aG) a0)))
def gd (a0:aG)(a1:Int)(a2:aA)(a3:aj)(a4:Int):Prop:=(aG.Sm (2^21) a0)/\(a2.size<=(2^21))/\(aj.Sm (2^21) a3)
def R:=RR (p5 gd) (u5 md)
def ak {a0 a1 a2 a3 a4}(h:gd a0 a1 a2 a3 a4):R ((aG.r a0),a1,a2,(aj.r a3),a4)=some (aG.r (md a0 a1 a2 a3 a4)):=aM (a:=(a0,a1,a2,a3,a4)) h
def aV:=CN [.agg vH,pI,pS,.agg qJ,pI] (.agg f46) RT.dec R
def bp (a0)(a1)(a2)(a3)(a4)(hg:gd a0 a1 a2 a3 a4):F (aG.r a0) a1 a2 (aj.r a3) a4=ret (aG.r (md a0 a1 a2 a3 a4)):=by
 obtain ⟨H0,H2,H3⟩:=hg
 unfold F md
 try simp only [SS]
 refine ct (Z145.ak H0) ?_
 try simp only [SS]
 refine ct (Z243.ak ⟨H2,H3⟩) ?_
 refine aq (fun b:aG=>ret ((aG.r b):bR)) (fun c1=>?_) (fun c1=>?_)
 ·all_goals exact fz
 ·have dc1:=c1
  try simp only [DC] at dc1
  refine ct (Z143.ak H3) ?_
  try simp only [SS]
  refine ct (Z156.ak H0) ?_
  have fv4_:=Z156.fa a0 a1 a2
  refine aq (fun b:aG=>ret ((aG.r b):bR)) (fun c2=>?_) (fun c2=>?_)
  ·have dc2:=c2
   try simp only [DC] at dc2
   refine aN dt ?_
   refine aN (have:=(H0).1;dt) ?_
   all_goals exact fz
  ·have dc2:=c2
   try simp only [DC] at dc2
   refine aq (fun b:aG=>ret ((aG.r b):bR)) (fun c3=>?_) (fun c3=>?_)
   ·have dc3:=c3
    try simp only [DC] at dc3
    refine aN (have:=(H0).1;lm) ?_
    all_goals exact fz
   ·all_goals exact fz
def af:cq 100 aV:=W5 50 F mix aD bp (.cons Z145.af (.cons Z243.af (.cons Z143.af (.cons Z156.af .nil)))) Tryz.func100
def br (a0:aG)(a1:Int)(a2:aA)(a3:aj)(a4:Int):md a0 a1 a2 a3 a4=Z127.md a0 a1 a2 a3 a4:=by
 unfold md Z127.md
 first
 | (simp only [Z243.br,Z156.br];done)
 | (simp only [Z243.br,Z156.br];rfl)
 | rfl
end Z262
namespace Z263
def F (x0:aF)(x1:bt)(x2:Int)(x3:aA)(x4 x5:List L):aH:=(call (Z157.R ((⟨x0⟩:bR),x2,x3)) fun v1=>(call (Z229.R ((mw x4),x2,x3)) fun v2=>(cK (eO (((1:Int)+(v2.length:Int))*304)) (call (Z261.R (x1,([(aO.enc v1)]++v2),x2,x3,(fH x5))) fun v3=>(cond (decide (v3.2>=0)) (cK (decide ((0:Int)<=v3.2)) (cK (decide (v3.2<(([(aO.enc v1)]++v2).length:Int))) (call (Z262.R ((⟨x0⟩:bR),x2,x3,(aO.at ([(aO.enc v1)]++v2) (toNat v3.2)),(fH x5))) fun v4=>ret ((v4.aU,v3.1):aF×cW)))) (ret ((x0,v3.1):aF×cW)))))))
def pats:List kN:=[.rd (.agg [.sl 120,.sl 180]),.rd (.rd (.int .i64)),.rd (.rd (.str)),.box,.rd (.ptr [.sl 138]),.rd (.ptr [au])]
def res:RP:=.agg [.fr 120,.fr 180,.rd (.bool),.rd (.str),.rd (.int .i64),.rd (.int .i64),.fr 9,.rd (.bool),.fr 3]
abbrev E:Env:={ T:=assoc rE,G:=dP [(97,Z157.aV),(98,Z229.aV),(99,Z261.aV),(100,Z262.aV)],nt:=44,M:=gO [],np:=1,I:=kO [] }
def run_eq (n:Nat)(ls:List L):fY E (fun _=>[]) Tryz.f96 (.rH 148 res.parts) n (sC 148 pats ls)=F (ls.headD .hole).aY (bt.dec (av 1 ls)) ((av 3 ls).headD .hole).toInt ((av 4 ls).headD .hole).toStr (cm 1 (av 5 ls)) (cm 1 (av 6 ls)):=by kernel_rfl
def ix (z:Int)(l:aA)(now:Int):∀(xs:List aj) (i:Nat) (s:List (List aa)×List aI×List Int),s.2.2.length=i->
  (dF (fun i y s=>(Z126.oz z l now y s).map id (fun b=>(b,(i:Int)))) (fun s=>(Z126.fin s,-1)) i xs s).2=bif (dF (fun i y s=>(Z126.oz z l now y s).map id (fun b=>(b,(i:Int)))) (fun s=>(Z126.fin s,-1)) i xs s).1.gD then (((dF (fun i y s=>(Z126.oz z l now y s).map id (fun b=>(b,(i:Int)))) (fun s=>(Z126.fin s,-1)) i xs s).1.fD.length - 1:Nat):Int) else -1
 | [],i,s,h=>by unfold dF Z126.fin;rfl
 | y::xs,i,s,h=>by
  unfold dF
  cases hb:Z126.oz z l now y s with
  | inl s'=>
   refine ix z l now xs (i+1) s' ?_
   unfold Z126.oz at hb
   revert hb
   cases ((Z126.mG z l now y ⟨s.1,s.2.1⟩).2==1)
   ·intro hb
    injection hb with hb
    subst hb
    simp [h]
   ·intro hb;cases hb
  | inr b=>
   unfold Z126.oz at hb
   revert hb
   cases ((Z126.mG z l now y ⟨s.1,s.2.1⟩).2==1)
   ·intro hb;cases hb
   ·intro hb
    injection hb with hb
    subst hb
    simp [Sum.map,h]
def CC (k:an)(xs:List aj)(z:Int)(l:aA)(now:Int):(Z261.md k xs z l now).2=bif (Z126.md k xs z l now).gD then (((Z126.md k xs z l now).fD.length - 1:Nat):Int) else -1:=by
 rw [<-Z261.Cn,Z261.oO]
 exact ix z l now xs 0 _ rfl
def md (a0:List aC)(a1:an)(a2:Int)(a3:aA)(a4:List aR)(a5:Int):List aC×bO:=((Z130.lk a4 a5 ⟨a0⟩ a1 a2 a3).2.aU,(Z130.lk a4 a5 ⟨a0⟩ a1 a2 a3).1)
def gd (a0:List aC)(a1:an)(a2:Int)(a3:aA)(a4:List aR)(a5:Int):Prop:=(aG.Sm (2^21) ⟨a0⟩)/\(an.Sm (2^21) a1)/\(a3.size<=(2^21))/\(bI (2^21) (fun y:aR=>aR.Sm (2^21) y) a4)
def acc (ls:List L):aF×bt×Int×aA×aF×Int:=((ls.headD .hole).aY,(bt.dec (av 1 ls)),((av 3 ls).headD .hole).toInt,((av 4 ls).headD .hole).toStr,(mw (cm 1 (av 5 ls))),(fH (cm 1 (av 6 ls))))
def R:(aF×bt×Int×aA×aF×Int)->Option (aF×cW):=RR (p6 gd) (u6 md)
def ak {a0 a1 a2 a3 a4 a5}(h:gd a0 a1 a2 a3 a4 a5):R ((a0.map aC.row),(an.r a1),a2,a3,(a4.map aR.row),a5)=some (((md a0 a1 a2 a3 a4 a5).1.map aC.row),(bO.r (md a0 a1 a2 a3 a4 a5).2)):=aM (a:=(a0,a1,a2,a3,a4,a5)) h
def aV:oK:=ON pats 148 res acc R
def bp (a0:List aC)(a1:an)(a2:Int)(a3:aA)(a4:List aR)(a5:Int)(p4 p5:List L)(e4:(a4.map aR.row)=(mw p4))(e5:a5=(fH p5))(hg:gd a0 a1 a2 a3 a4 a5):F (a0.map aC.row) (an.r a1) a2 a3 p4 p5=ret ((((md a0 a1 a2 a3 a4 a5).1.map aC.row),(bO.r (md a0 a1 a2 a3 a4 a5).2)):aF×cW):=by
 obtain ⟨HC,HK,HL,HS⟩:=hg
 have hans:=Z130.wm (z:=a2) HC HS HL
 have hal:(Z130.bJ a4 ⟨a0⟩ a2 a3).length=1+(Z104.md a4 a2 a3).length:=by unfold Z130.bJ;simp only [List.length_cons];omega
 have h4:=Z104.Ay a4 a2 a3
 have hrow:[aO.enc (aj.r (Z53.md ⟨a0⟩ a2 a3))]++(Z104.md a4 a2 a3).map aj.row=(Z130.bJ a4 ⟨a0⟩ a2 a3).map aj.row:=rfl
 have r1:=Z157.ak (a0:=⟨a0⟩) (a1:=a2) (a2:=a3) HC
 rw [Z157.br] at r1
 have r2:=Z229.ak (a0:=a4) (a1:=a2) (a2:=a3) ⟨HS,HL⟩
 rw [Z229.br] at r2
 have r3:=Z261.ak (a0:=a1) (a1:=Z130.bJ a4 ⟨a0⟩ a2 a3) (a2:=a2) (a3:=a3) (a4:=a5) ⟨HK,hans,HL⟩
 rw [Z261.Cn,CC] at r3
 unfold F md
 rw [<-e4,<-e5]
 refine cF _ r1 ?_
 refine cF _ r2 ?_
 rw [hrow]
 simp only [List.length_map]
 refine aN (gX (by omega)) ?_
 refine cF _ r3 ?_
 unfold Z130.lk
 have hd2:=Z130.Cm (k:=a1) (xs:=Z130.bJ a4 ⟨a0⟩ a2 a3) (z:=a2) (l:=a3) (now:=a5)
 clear r3
 generalize Z126.md a1 (Z130.bJ a4 ⟨a0⟩ a2 a3) a2 a3 a5=l at hd2 ⊢
 cases hd:l.gD
 ·refine eE (by apply decide_eq_false;simp) ?_
  rfl
 ·obtain ⟨d1,d2⟩:=hd2 hd
  simp only [aZ]
  refine aN (by apply decide_eq_true;omega) (aN (by apply decide_eq_true;omega) (aN (by apply decide_eq_true;omega) ?_))
  have hat2:aO.at ((Z130.bJ a4 ⟨a0⟩ a2 a3).map aj.row) (toNat ((l.fD.length - 1:Nat):Int))=((Z130.bJ a4 ⟨a0⟩ a2 a3).getD (l.fD.length - 1) aj.zero).r:=aj.cZ
  have hke:=Z262.ak (a0:=⟨a0⟩) (a1:=a2) (a2:=a3) (a3:=(Z130.bJ a4 ⟨a0⟩ a2 a3).getD (l.fD.length - 1) aj.zero) (a4:=a5) ⟨HC,HL,bI.rP hans Z130.az⟩
  rw [Z262.br,<-hat2] at hke
  refine cF _ hke ?_
  rfl
def nu (ls:List L)(a:List aC×an×Int×aA×List aR×Int)(e:acc ls=Im.im a)(hg:(p6 gd) a):∃n:Nat,F ((ls.headD .hole).aY) (bt.dec (av 1 ls)) (((av 3 ls).headD .hole).toInt) (((av 4 ls).headD .hole).toStr) (cm 1 (av 5 ls)) (cm 1 (av 6 ls))=ret (Im.im ((u6 md) a)):=by
 have e0:(a.1.map aC.row)=(ls.headD .hole).aY:=(congrArg (fun x=>x.1) e.symm)
 have e1:(an.r a.2.1)=(bt.dec (av 1 ls)):=(congrArg (fun x=>x.2.1) e.symm)
 have e2:a.2.2.1=((av 3 ls).headD .hole).toInt:=(congrArg (fun x=>x.2.2.1) e.symm)
 have e3:a.2.2.2.1=((av 4 ls).headD .hole).toStr:=(congrArg (fun x=>x.2.2.2.1) e.symm)
 have hn:=bp a.1 a.2.1 a.2.2.1 a.2.2.2.1 a.2.2.2.2.1 a.2.2.2.2.2 (cm 1 (av 5 ls)) (cm 1 (av 6 ls)) (congrArg (fun x=>x.2.2.2.2.1) e.symm) (congrArg (fun x=>x.2.2.2.2.2) e.symm) hg
 refine ⟨0,?_⟩
 rw [<-e0,<-e1,<-e2,<-e3]
 exact hn
def af:mS Tryz.prog Ev 96 aV:=VO (mt:=false) (accr:=fun ls=>((ls.headD .hole).aY,(bt.dec (av 1 ls)),((av 3 ls).headD .hole).toInt,((av 4 ls).headD .hole).toStr,(cm 1 (av 5 ls)),(cm 1 (av 6 ls)))) (run:=fun _ x=>F x.1 x.2.1 x.2.2.1 x.2.2.2.1 x.2.2.2.2.1 x.2.2.2.2.2) mix aD (.cons Z157.af (.cons Z229.af (.cons Z261.af (.cons Z262.af .nil)))) .nil .nil Tryz.func96 (by kernel_rfl) run_eq (fun ls a e hg=>nu ls a e hg)
def ic (_:Nat):ju:=sZ Ev aV
def kA (n:Nat):fW Tryz.prog Ev n 96 (ic n):=qK af
end Z263
namespace Z264
abbrev E (n:Nat):Env:={ T:=assoc rE,G:=dP [(189,Z139.aV),(144,Z153.aV),(150,Z140.aV)],nt:=83,M:=gO [],np:=n,I:=kO [] }
def ic (n:Nat):ju:=inl (E n) Tryz.f145
def kA (n:Nat):fW Tryz.prog Ev n 145 (ic n):=yL (mt:=false) mix aD (.cons Z139.af (.cons Z153.af (.cons Z140.af .nil))) .nil .nil Tryz.func145 (by kernel_rfl)
end Z264
namespace Z265
inductive Pt where
 | p0 (a:aF) (b c:List L) (d e:Int) (f:aA) (g h i j:Int) (k:aA) (l m n:Int) (o p q s t:aF)
def pid:Pt->Nat
 | .p0 ..=>6
def cQ:Pt->List V
 | .p0 a b c d e f g h i j k l m n o p q s t=>[.sl none 9 a,.fn 96 [.cj 0 0,.dc none [.sl 138] b 0,.dc none [au] c 0],.cj 1 0,.cj 2 0,.int .i64 d,.cj 2 0,.cj 2 0]
def cR:Pt->List aS
 | .p0 a b c d e f g h i j k l m n o p q s t=>[.box [.own 3],.box [.nil,.nil,.int .i64 e,.str f,.int .i64 g,.int .i64 h,.nil,.nil,.int .i64 i],.box [.own 4,.own 5,.int .i64 j,.str k,.int .i64 l,.int .i64 m,.own 6,.own 7,.int .i64 n],.row 148 o,.row 120 p,.row 180 q,.row 9 s,.row 3 t]
def step (J:Pt->aH):Pt->aH
 | .p0 a b c d e f g h i j k l m n o p q s t=>(cond (j==0) (cK (decide ((0:Int)<(a.length:Int))) (call (Z263.R (o,(⟨p,q⟩:bt),d,(pW a 0),(mw b),(fH c))) fun v1=>(cK (eO (((t.length:Int)+1)*8)) (cK (decide ((1:Int)<=(a.length:Int))) (cK (decide ((a.length:Int)<=(a.length:Int))) (cond (!v1.2.gD) (J (.p0 [] b c 0 e f g h i 3 k l m n v1.1 v1.2.cA.aK v1.2.cA.bq s (t++[[L.int d]]))) (cond (!v1.2.bS) (J (.p0 [] b c 0 e f g h i 2 k l m n v1.1 v1.2.cA.aK v1.2.cA.bq s (t++[[L.int d]]))) (cond (v1.2.bg.bL==3) (call (Z139.R v1.2.bg.bB) fun v2=>(cK (eO (((v2.length:Int)+((List.take (toNat ((a.length:Int) - 1)) (List.drop 1 a)).length:Int))*16)) (cond (decide (n>=3)) (J (.p0 [] b c 0 e f g h i 5 k l m n v1.1 v1.2.cA.aK v1.2.cA.bq s (t++[[L.int d]]))) (call (Z153.R (v2++(List.take (toNat ((a.length:Int) - 1)) (List.drop 1 a)))) fun v3=>(cond (!v3) (J (.p0 [] b c 0 e f g h i 5 k l m n v1.1 v1.2.cA.aK v1.2.cA.bq s (t++[[L.int d]]))) (J (.p0 (v2++(List.take (toNat ((a.length:Int) - 1)) (List.drop 1 a))) b c v1.2.bg.bX e f g h i j k l m (i64.wrap (n+1)) v1.1 v1.2.cA.aK v1.2.cA.bq s (t++[[L.int d]])))))))) (cond (((List.take (toNat ((a.length:Int) - 1)) (List.drop 1 a)).length:Int)==0) (call (Z140.R v1.2.bg) fun v4=>J (.p0 [] b c 0 e f g h i 1 v4.aQ v4.bL v4.bX n v1.1 v1.2.cA.aK v1.2.cA.bq v4.bB (t++[[L.int d]]))) (cond (v1.2.bg.bL==2) (J (.p0 (List.take (toNat ((a.length:Int) - 1)) (List.drop 1 a)) b c v1.2.bg.bX e f g h i j k l m n v1.1 v1.2.cA.aK v1.2.cA.bq s (t++[[L.int d]]))) (J (.p0 [] b c 0 e f g h i 4 k l m n v1.1 v1.2.cA.aK v1.2.cA.bq s (t++[[L.int d]]))))))))))))) (ret ((o,(⟨(⟨p,q⟩:bt),j,(⟨k,l,m,s⟩:aW),t,n⟩:dz)):aF×dz)))
def start (J:Pt->aH)(x0:aF)(x1:bt)(x2:Int)(x3:aF)(x4 x5:List L):aH:=(call (Z147.R x1) fun v1=>(call (Z153.R x3) fun v2=>(cond (!v2) (ret ((x0,(⟨v1,6,(⟨(⟨#[]⟩:aA),0,0,[]⟩:aW),[],0⟩:dz)):aF×dz)) (J (.p0 x3 x4 x5 x2 0 ⟨#[]⟩ 0 0 0 0 ⟨#[]⟩ 0 0 0 x0 v1.aK v1.bq [] [])))))
def live:Nat->Live:=fun i=>match i with | 6=>[(2,some 1099511627785),(3,none),(8,none),(9,none),(10,none),(9,some 6291465),(9,some 7340035)] | _=>[]
def pats:List kN:=[.rd (.agg [.sl 120,.sl 180]),.rd (.rd (.int .i64)),.rd (.rd (.sl 9)),.fn 96 [none,some [.sl 138],some [au]]]
def res:RP:=.agg [.fr 120,.fr 180,.rd (.int .i64),.rd (.str),.rd (.int .i64),.rd (.int .i64),.fr 9,.fr 3,.rd (.int .i64)]
abbrev E:Env:={ T:=assoc rE,G:=dP [(143,Z147.aV),(144,Z153.aV)],nt:=48,M:=gO [],np:=1,I:=kO [(96,Z263.ic 1),(145,Z264.ic 1)],J:=[24] }
def step_eq (I:dH)(p:Pt):dU E live I (pid p) (ck Tryz.f95) (ij (live (pid p)) (cQ p) (cR p)) (dD E Tryz.f95 (.rH 148 res.parts))=step (fun q=>I (pid q) (cQ q) (cR q)) p:=by
 cases p<;>kernel_rfl
def start_eq (I:dH)(ls:List L):gn E live I (ck Tryz.f95) (sC 148 pats ls) (dD E Tryz.f95 (.rH 148 res.parts))=start (fun q=>I (pid q) (cQ q) (cR q)) (ls.headD .hole).aY (bt.dec (av 1 ls)) ((av 3 ls).headD .hole).toInt ((av 4 ls).headD .hole).aY (cm 1 (av 5 ls)) (cm 1 (av 6 ls)):=by kernel_rfl
def run_eq (n:Nat)(ls:List L):fY E live Tryz.f95 (.rH 148 res.parts) n (sC 148 pats ls)=start (iter step n) (ls.headD .hole).aY (bt.dec (av 1 ls)) ((av 3 ls).headD .hole).toInt ((av 4 ls).headD .hole).aY (cm 1 (av 5 ls)) (cm 1 (av 6 ls)):=dL (id:=pid) (vs:=cQ) (hs:=cR) (step:=step) (start:=fun J=>start J (ls.headD .hole).aY (bt.dec (av 1 ls)) ((av 3 ls).headD .hole).toInt ((av 4 ls).headD .hole).aY (cm 1 (av 5 ls)) (cm 1 (av 6 ls))) step_eq (fun I=>start_eq I ls) n
def md (a0:List aC)(a1:an)(a2:Int)(a3:List aA)(a4:List aR)(a5:Int):List aC×bT:=(cond (!Z153.md a3) (a0,⟨a1,6,⟨⟨#[]⟩,0,0,[]⟩,[],0⟩) ((Z130.rs (Z130.lk a4 a5) 17 ⟨a0⟩ a1 [] 0 a2 a3).2.aU,(Z130.rs (Z130.lk a4 a5) 17 ⟨a0⟩ a1 [] 0 a2 a3).1))
def gd (a0:List aC)(a1:an)(a2:Int)(a3:List aA)(a4:List aR)(a5:Int):Prop:=(aG.Sm (2^21) ⟨a0⟩)/\(an.Sm (2^21) a1)/\(bI (2^21) (fun y:aA=>y.size<=(2^21)) a3)/\(bI (2^21) (fun y:aR=>aR.Sm (2^21) y) a4)
def acc (ls:List L):aF×bt×Int×aF×aF×Int:=((ls.headD .hole).aY,(bt.dec (av 1 ls)),((av 3 ls).headD .hole).toInt,((av 4 ls).headD .hole).aY,(mw (cm 1 (av 5 ls))),(fH (cm 1 (av 6 ls))))
def R:(aF×bt×Int×aF×aF×Int)->Option (aF×dz):=RR (p6 gd) (u6 md)
def ak {a0 a1 a2 a3 a4 a5}(h:gd a0 a1 a2 a3 a4 a5):R ((a0.map aC.row),(an.r a1),a2,(a3.map cL),(a4.map aR.row),a5)=some (((md a0 a1 a2 a3 a4 a5).1.map aC.row),(bT.r (md a0 a1 a2 a3 a4 a5).2)):=aM (a:=(a0,a1,a2,a3,a4,a5)) h
def aV:oK:=ON pats 148 res acc R
def bp (a0:List aC)(a1:an)(a2:Int)(a3:List aA)(a4:List aR)(a5:Int)(p4 p5:List L)(e4:(a4.map aR.row)=(mw p4))(e5:a5=(fH p5))(hg:gd a0 a1 a2 a3 a4 a5):∃n,start (iter step n) (a0.map aC.row) (an.r a1) a2 (a3.map cL) p4 p5=ret ((((md a0 a1 a2 a3 a4 a5).1.map aC.row),(bT.r (md a0 a1 a2 a3 a4 a5).2)):aF×dz):=by
 obtain ⟨HC,H0,H2,H3⟩:=hg
 have fin:∀(J:Pt->aH) (code:Int) (x z:Int) (xs:aF) (lab:aA) (kd vl mv:Int) (c o p q s:aF),¬code=0->step J (Pt.p0 xs p4 p5 z 0 ⟨#[]⟩ 0 0 0 code lab kd vl mv c o p q s)=ret ((c,(⟨⟨o,p⟩,code,⟨lab,kd,vl,q⟩,s,mv⟩:dz)):aF×dz):=by
  intro J code x z xs lab kd vl mv c o p q s h
  simp only [step]
  exact eE (beq_eq_false_iff_ne.2 h) rfl
 have key:∀(n:Nat) (c:aG) (k:an) (zs:List Int) (mv z:Int) (p:List aA),aG.Sm (2^21) c->an.Sm (2^21) k->Z51.md p=true->0<=mv->mv<=3->(3 - mv)*4+(p.length:Int)<=n->zs.length+n<=100->
   ∃m,iter step m (Pt.p0 (p.map cL) p4 p5 z 0 ⟨#[]⟩ 0 0 0 0 ⟨#[]⟩ 0 0 mv (c.aU.map aC.row) (k.aK.map (eL aa.row)) (k.bq.map aI.row) [] (zs.map bn))=ret ((((Z130.rs (Z130.lk a4 a5) n c k zs mv z p).2.aU.map aC.row),(bT.r (Z130.rs (Z130.lk a4 a5) n c k zs mv z p).1)):aF×dz):=by
  intro n
  induction n with
  | zero=>intro c k zs mv z p _ _ hp _ _ hm _;have:=(Z51.tr hp).1;omega
  | succ n ih=>
   intro c k zs mv z p hc hk hp h0 h3 hm hz
   obtain ⟨⟨p1,p4'⟩,p8⟩:=Z51.tr hp
   obtain ⟨x,xs,rfl⟩:∃x xs,p=x::xs:=by
    cases p with
    | nil=>simp at p1
    | cons x xs=>exact ⟨x,xs,rfl⟩
   have hx:x.size<=2^21:=le_trans (p8 x (by simp)) (by decide)
   have hxs:∀y∈xs,y.size<=2^22:=fun y hy=>le_trans (p8 y (by simp [hy])) (by decide)
   have hlk:=Z130.Al (now:=a5) (z:=z) H3 hc hk hx
   have hat:pW ((x::xs).map cL) 0=x:=rfl
   have ht:List.take (toNat (((xs.length+1:Nat):Int) - 1)) (List.drop 1 ((x::xs).map cL))=xs.map cL:=by
    simp only [List.map_cons,List.drop_succ_cons,List.drop_zero]
    exact List.take_of_length_le (by simp)
   simp only [List.length_cons] at p4' hm
   refine Z130.wF ?_
   simp only [step,hat,List.length_map,List.length_cons,ht,<-e4,<-e5]
   refine dw rfl (dw dt ?_)
   have hR:Z263.R (c.aU.map aC.row,an.r k,z,x,a4.map aR.row,a5)=some ((Z130.lk a4 a5 c k z x).2.aU.map aC.row,bO.r (Z130.lk a4 a5 c k z x).1):=Z263.ak (a0:=c.aU) (a1:=k) (a2:=z) (a3:=x) (a4:=a4) (a5:=a5) ⟨hc,hk,hx,H3⟩
   refine cx hR ?_
   have hcase:∀q,Z130.nx (Z130.lk a4 a5 c k z x).1 mv (x::xs)=.inl q->Z130.rs (Z130.lk a4 a5) (n+1) c k zs mv z (x::xs)=(⟨(Z130.lk a4 a5 c k z x).1.cA,q.1,q.2,zs++[z],mv⟩,(Z130.lk a4 a5 c k z x).2):=fun q hq=>Z130.yp hq
   have hcase2:∀q,Z130.nx (Z130.lk a4 a5 c k z x).1 mv (x::xs)=.inr q->Z130.rs (Z130.lk a4 a5) (n+1) c k zs mv z (x::xs)=Z130.rs (Z130.lk a4 a5) n (Z130.lk a4 a5 c k z x).2 (Z130.lk a4 a5 c k z x).1.cA (zs++[z]) q.1 q.2.1 q.2.2:=fun q hq=>Z130.yj hq
   clear hR
   generalize Z130.lk a4 a5 c k z x=w at hlk hcase hcase2 ⊢
   refine dw lm (dw dt (dw dt ?_))
   obtain ⟨l,c2⟩:=w
   obtain ⟨hl1,hl2⟩:=hlk
   obtain ⟨lk0,lf,le,ld,lc⟩:=l
   simp only at hl1 hl2
   unfold Z130.nx at hcase hcase2
   have hzz:zs.map bn++[[L.int z]]=(zs++[z]).map bn:=by simp [bn]
   cases ld
   ·exact dw rfl ⟨1,(fin _ 3 0 _ _ _ _ _ _ _ _ _ _ _ (by decide)).trans (by rw [hcase _ rfl];exact fz)⟩
   cases lf
   ·exact cY rfl (dw rfl ⟨1,(fin _ 2 0 _ _ _ _ _ _ _ _ _ _ _ (by decide)).trans (by rw [hcase _ rfl];exact fz)⟩)
   simp only [Bool.not_true,bh,aZ,List.tail_cons] at hcase hcase2 ⊢
   have hpl:bI (2^21) (fun y:aA=>y.size<=(2^21)) le.bB:=hl1.2.1.2
   have hpl1:le.bB.length<=2^21:=hpl.1
   refine cY rfl (cY rfl ?_)
   try simp only [SS]
   cases hk3:(le.bL==3)
   ·simp only [hk3,bh] at hcase hcase2 ⊢
    by_cases hx0:xs.length=0
    ·have e0:((xs.length:Int)==0)=true:=by simp [hx0]
     rw [e0] at hcase
     refine dw (beq_iff_eq.2 (by omega)) (cx (Z140.ak (a0:=le) hl1.2.1) ?_)
     exact ⟨1,(fin _ 1 0 _ _ _ _ _ _ _ _ _ _ _ (by decide)).trans (by rw [hcase _ rfl];exact fz)⟩
    ·have e0:((xs.length:Int)==0)=false:=by simpa using hx0
     rw [e0] at hcase hcase2
     refine cY (beq_eq_false_iff_ne.2 (by omega)) ?_
     cases hk2:(le.bL==2)
     ·simp only [hk2,bh] at hcase
      exact cY rfl ⟨1,(fin _ 4 0 _ _ _ _ _ _ _ _ _ _ _ (by decide)).trans (by rw [hcase _ rfl];exact fz)⟩
     ·simp only [hk2,bh,aZ] at hcase2
      refine dw rfl ?_
      have hip:Z51.md xs=true:=Z51.tl hp hx0
      rw [hcase2 _ rfl,hzz]
      exact ih c2 lk0 (zs++[z]) mv le.bX xs hl2 hl1.1 hip h0 h3 (by omega) (by simp;omega)
   ·simp only [hk3,aZ] at hcase hcase2 ⊢
    refine cx (Z139.ak (a0:=le.bB) hpl) ?_
    refine dw (by have :(le.bB.map cL).length=le.bB.length:=List.length_map ..;have :(xs.map cL).length=xs.length:=List.length_map ..;exact gX (by omega)) ?_
    by_cases hmv:mv>=3
    ·rw [decide_eq_true hmv] at hcase ⊢
     exact dw rfl ⟨1,(fin _ 5 0 _ _ _ _ _ _ _ _ _ _ _ (by decide)).trans (by rw [hcase _ rfl];exact fz)⟩
    ·rw [decide_eq_false hmv] at hcase hcase2 ⊢
     simp only [bh] at hcase hcase2 ⊢
     have e:le.bB.map cL++xs.map cL=(le.bB++xs).map cL:=by simp
     rw [e]
     have hq:=Z153.ak (a0:=le.bB++xs) ⟨by rw [List.length_append];omega,fun y hy=>(List.mem_append.1 hy).elim (fun h=>le_trans (hpl.2 y h) (by decide)) (hxs y)⟩
     rw [Z153.br] at hq
     refine cx hq ?_
     cases hip:Z51.md (le.bB++xs)
     ·rw [hip] at hcase
      exact dw rfl ⟨1,(fin _ 5 0 _ _ _ _ _ _ _ _ _ _ _ (by decide)).trans (by rw [hcase _ rfl];exact fz)⟩
     ·rw [hip] at hcase2
      have ht:=Z51.tr hip
      rw [hcase2 _ rfl,hzz,wi _ (by omega)]
      exact ih c2 lk0 (zs++[z]) (mv+1) le.bX (le.bB++xs) hl2 hl1.1 hip (by omega) (by omega) (by omega) (by simp;omega)
 unfold start md
 refine cx (Z147.ak (a0:=a1) H0) ?_
 refine cx (Z153.ak (a0:=a3) (bI.mono H2 (by decide) (fun y hy=>le_trans hy (by decide)))) ?_
 cases hp:Z153.md a3
 ·exact ⟨0,rfl⟩
 ·simp only [Bool.not_true,bh]
  rw [Z153.br] at hp
  exact key 17 ⟨a0⟩ a1 [] 0 a2 a3 HC H0 hp (by decide) (by decide) (by have:=(Z51.tr hp).1;omega) (by simp)
def nu (ls:List L)(a:List aC×an×Int×List aA×List aR×Int)(e:acc ls=Im.im a)(hg:(p6 gd) a):∃n:Nat,start (iter step n) ((ls.headD .hole).aY) (bt.dec (av 1 ls)) (((av 3 ls).headD .hole).toInt) (((av 4 ls).headD .hole).aY) (cm 1 (av 5 ls)) (cm 1 (av 6 ls))=ret (Im.im ((u6 md) a)):=by
 have e0:(a.1.map aC.row)=(ls.headD .hole).aY:=(congrArg (fun x=>x.1) e.symm)
 have e1:(an.r a.2.1)=(bt.dec (av 1 ls)):=(congrArg (fun x=>x.2.1) e.symm)
 have e2:a.2.2.1=((av 3 ls).headD .hole).toInt:=(congrArg (fun x=>x.2.2.1) e.symm)
 have e3:(a.2.2.2.1.map cL)=((av 4 ls).headD .hole).aY:=(congrArg (fun x=>x.2.2.2.1) e.symm)
 obtain ⟨n,hn⟩:=bp a.1 a.2.1 a.2.2.1 a.2.2.2.1 a.2.2.2.2.1 a.2.2.2.2.2 (cm 1 (av 5 ls)) (cm 1 (av 6 ls)) (congrArg (fun x=>x.2.2.2.2.1) e.symm) (congrArg (fun x=>x.2.2.2.2.2) e.symm) hg
 refine ⟨n,?_⟩
 rw [<-e0,<-e1,<-e2,<-e3]
 exact hn
def af:mS Tryz.prog Ev 95 aV:=VO (mt:=false) (accr:=fun ls=>((ls.headD .hole).aY,(bt.dec (av 1 ls)),((av 3 ls).headD .hole).toInt,((av 4 ls).headD .hole).aY,(cm 1 (av 5 ls)),(cm 1 (av 6 ls)))) (run:=fun n x=>start (iter step n) x.1 x.2.1 x.2.2.1 x.2.2.2.1 x.2.2.2.2.1 x.2.2.2.2.2) mix aD (.cons Z147.af (.cons Z153.af .nil)) .nil (.cons (Z263.kA 1) (.cons (Z264.kA 1) .nil)) Tryz.func95 (by kernel_rfl) run_eq (fun ls a e hg=>nu ls a e hg)
def ic (_:Nat):ju:=sZ Ev aV
def kA (n:Nat):fW Tryz.prog Ev n 95 (ic n):=qK af
end Z265
namespace Z266
def F (x0:bt)(x1:bR)(x2:aF)(x3:Int)(x4:aF)(x5:Int):aH:=(call (Z145.R x1) fun v1=>(call (Z265.R (v1.aU,x0,x3,x4,x2,x5)) fun v2=>ret ((⟨v2.2,(⟨v2.1⟩:bR)⟩:eg):eg)))
def pats:List gF:=[.agg [.sl 120,.sl 180],.agg [.sl 148],.rd (.sl 138),.rd (.int .i64),.rd (.sl 9),.rd (.int .i64)]
def res:RP:=.agg [.fr 120,.fr 180,.rd (.int .i64),.rd (.str),.rd (.int .i64),.rd (.int .i64),.fr 9,.fr 3,.rd (.int .i64),.fr 148]
abbrev E:Env:={ T:=assoc rE,G:=dP [(94,Z145.aV)],nt:=25,M:=gO [],I:=kO [(95,Z265.ic 0)] }
def run_eq (n:Nat)(ls:List L):fY E (fun _=>[]) Tryz.f35 res n (dO pats ls)=F (bt.dec ls) (bR.dec (av 2 ls)) ((av 3 ls).headD .hole).aY ((av 4 ls).headD .hole).toInt ((av 5 ls).headD .hole).aY ((av 6 ls).headD .hole).toInt:=by kernel_rfl
def md (a0:an)(a1:aG)(a2:List aR)(a3:Int)(a4:List aA)(a5:Int):dB:=(⟨(Z265.md a1.aU a0 a3 a4 a2 a5).2,(⟨(Z265.md a1.aU a0 a3 a4 a2 a5).1⟩:aG)⟩:dB)
def gd (a0:an)(a1:aG)(a2:List aR)(a3:Int)(a4:List aA)(a5:Int):Prop:=(an.Sm (2^21) a0)/\(aG.Sm (2^21) a1)/\(bI (2^21) (fun y:aR=>aR.Sm (2^21) y) a2)/\(bI (2^21) (fun y:aA=>y.size<=(2^21)) a4)
def acc (ls:List L):bt×bR×aF×Int×aF×Int:=((bt.dec ls),(bR.dec (av 2 ls)),((av 3 ls).headD .hole).aY,((av 4 ls).headD .hole).toInt,((av 5 ls).headD .hole).aY,((av 6 ls).headD .hole).toInt)
def R:(bt×bR×aF×Int×aF×Int)->Option eg:=RR (p6 gd) (u6 md)
def ak {a0 a1 a2 a3 a4 a5}(h:gd a0 a1 a2 a3 a4 a5):R ((an.r a0),(aG.r a1),(a2.map aR.row),a3,(a4.map cL),a5)=some (dB.r (md a0 a1 a2 a3 a4 a5)):=aM (a:=(a0,a1,a2,a3,a4,a5)) h
def aV:gy:=CN pats res acc R
def bp (a0:an)(a1:aG)(a2:List aR)(a3:Int)(a4:List aA)(a5:Int)(hg:gd a0 a1 a2 a3 a4 a5):F (an.r a0) (aG.r a1) (a2.map aR.row) a3 (a4.map cL) a5=ret ((dB.r (md a0 a1 a2 a3 a4 a5)):eg):=by
 obtain ⟨H0,H1,H2,H4⟩:=hg
 unfold F md
 try simp only [SS]
 refine ct (Z145.ak H1) ?_
 try simp only [SS]
 refine ct (Z265.ak ⟨H1,H0,H4,H2⟩) ?_
 try simp only [SS]
 all_goals exact fz
def af:cq 35 aV:=VI (mt:=false) (run:=fun _ x=>F x.1 x.2.1 x.2.2.1 x.2.2.2.1 x.2.2.2.2.1 x.2.2.2.2.2) mix aD (.cons Z145.af .nil) .nil (.cons (Z265.kA 0) .nil) Tryz.func35 (by kernel_rfl) run_eq (fun _ a _ _ hg=>⟨0,bp a.1 a.2.1 a.2.2.1 a.2.2.2.1 a.2.2.2.2.1 a.2.2.2.2.2 hg⟩)
def br (a0:an)(a1:aG)(a2:List aR)(a3:Int)(a4:List aA)(a5:Int):md a0 a1 a2 a3 a4 a5=Z130.md a0 a1 a2 a3 a4 a5:=by
 unfold md Z265.md Z130.md
 rw [Z153.br]
 cases Z51.md a4<;>rfl
end Z266
namespace Z267
def F (x0:bt)(x1:bR)(x2:Int)(x3:aF)(x4:Int):aH:=(call (Z266.R (x0,x1,[],x2,x3,x4)) fun v1=>ret (v1.fX:dz))
def md (a0:an)(a1:aG)(a2:Int)(a3:List aA)(a4:Int):bT:=(Z266.md a0 a1 [] a2 a3 a4).fX
def gd (a0:an)(a1:aG)(a2:Int)(a3:List aA)(a4:Int):Prop:=(an.Sm (2^21) a0)/\(aG.Sm (2^21) a1)/\(bI (2^21) (fun y:aA=>y.size<=(2^21)) a3)
def R:=RR (p5 gd) (u5 md)
def ak {a0 a1 a2 a3 a4}(h:gd a0 a1 a2 a3 a4):R ((an.r a0),(aG.r a1),a2,(a3.map cL),a4)=some (bT.r (md a0 a1 a2 a3 a4)):=aM (a:=(a0,a1,a2,a3,a4)) h
def aV:=CN [.agg tO,.agg vH,pI,pL 9,pI] (.agg f41) RT.dec R
def bp (a0)(a1)(a2)(a3)(a4)(hg:gd a0 a1 a2 a3 a4):F (an.r a0) (aG.r a1) a2 (a3.map cL) a4=ret (bT.r (md a0 a1 a2 a3 a4)):=by
 obtain ⟨H0,H1,H3⟩:=hg
 unfold F md
 try simp only [SS]
 refine cF (dB.r (Z266.md a0 a1 [] a2 a3 a4)) (rq (Z266.ak (a0:=a0) (a1:=a1) (a2:=[]) (a3:=a2) (a4:=a3) (a5:=a4) ⟨H0,H1,bI.nil,H3⟩)) ?_
 try simp only [SS]
 all_goals exact fz
def af:cq 15 aV:=W5 18 F mix aD bp (.cons Z266.af .nil) Tryz.func15
def br (a0:an)(a1:aG)(a2:Int)(a3:List aA)(a4:Int):md a0 a1 a2 a3 a4=Z131.md a0 a1 a2 a3 a4:=by
 unfold md Z131.md
 first
 | (simp only [Z266.br];done)
 | (simp only [Z266.br];rfl)
 | rfl
end Z267
namespace Z268
def F (x0:bt)(x1:bR)(x2:Int)(x3:aF)(x4:Int):aH:=(call (Z267.R (x0,x1,x2,x3,x4)) fun v1=>ret ((v1.kM==1):Bool))
def md (a0:an)(a1:aG)(a2:Int)(a3:List aA)(a4:Int):Bool:=(((Z267.md a0 a1 a2 a3 a4).kM==1):Bool)
def gd (a0:an)(a1:aG)(a2:Int)(a3:List aA)(a4:Int):Prop:=(an.Sm (2^21) a0)/\(aG.Sm (2^21) a1)/\(bI (2^21) (fun y:aA=>y.size<=(2^21)) a3)
def R:=RR (p5 gd) (u5 md)
def ak {a0 a1 a2 a3 a4}(h:gd a0 a1 a2 a3 a4):R ((an.r a0),(aG.r a1),a2,(a3.map cL),a4)=some (md a0 a1 a2 a3 a4):=aM (a:=(a0,a1,a2,a3,a4)) h
def aV:=CN [.agg tO,.agg vH,pI,pL 9,pI] oB RT.dec R
def bp (a0)(a1)(a2)(a3)(a4)(hg:gd a0 a1 a2 a3 a4):F (an.r a0) (aG.r a1) a2 (a3.map cL) a4=ret (md a0 a1 a2 a3 a4):=by
 obtain ⟨H0,H1,H3⟩:=hg
 unfold F md
 try simp only [SS]
 refine ct (Z267.ak ⟨H0,H1,H3⟩) ?_
 try simp only [SS]
 all_goals exact fz
def af:cq 45 aV:=W5 19 F mix aD bp (.cons Z267.af .nil) Tryz.func45
def br (a0:an)(a1:aG)(a2:Int)(a3:List aA)(a4:Int):md a0 a1 a2 a3 a4=Z132.md a0 a1 a2 a3 a4:=by
 unfold md Z132.md
 first
 | (simp only [Z267.br];done)
 | (simp only [Z267.br];rfl)
 | rfl
end Z268
namespace Z269
inductive Pt where
 | p0 (a b:aF) (c:Int)
def pid:Pt->Nat
 | .p0 ..=>4
def cQ:Pt->List V
 | .p0 a b c=>[.sl none 3 a,.sl none 3 b,.int .i64 c]
def cR:Pt->List aS
 | .p0 a b c=>[]
def step (J:Pt->aH):Pt->aH
 | .p0 a b c=>(cond (decide (c<(a.length:Int))) (m2 c (a.length:Int) (m2 c (b.length:Int) (cond ((jo a (toNat c)) != (jo b (toNat c))) bf (J (.p0 a b (i64.wrap (c+1))))))) eG)
def start (J:Pt->aH)(x0 x1:aF):aH:=(cond ((x0.length:Int) != (x1.length:Int)) bf (J (.p0 x0 x1 0)))
def live:Nat->Live:=fun i=>match i with | 4=>[(0,none),(1,none),(5,none)] | _=>[]
def pats:List gF:=[.rd (.sl 3),.rd (.sl 3)]
def res:RP:=.one (.rd (.bool))
abbrev E:Env:={ T:=assoc rE,G:=dP [],nt:=26 }
def step_eq (I:dH)(p:Pt):dU E live I (pid p) (ck Tryz.f53) (ij (live (pid p)) (cQ p) (cR p)) (dD E Tryz.f53 res)=step (fun q=>I (pid q) (cQ q) (cR q)) p:=by
 cases p<;>kernel_rfl
def start_eq (I:dH)(ls:List L):gn E live I (ck Tryz.f53) (dO pats ls) (dD E Tryz.f53 res)=start (fun q=>I (pid q) (cQ q) (cR q)) (ls.headD .hole).aY ((av 1 ls).headD .hole).aY:=by kernel_rfl
def run_eq (n:Nat)(ls:List L):fY E live Tryz.f53 res n (dO pats ls)=start (iter step n) (ls.headD .hole).aY ((av 1 ls).headD .hole).aY:=dL (id:=pid) (vs:=cQ) (hs:=cR) (step:=step) (start:=fun J=>start J (ls.headD .hole).aY ((av 1 ls).headD .hole).aY) step_eq (fun I=>start_eq I ls) n
def md (a0 a1:List Int):Bool:=eu a0 a1
def gd (a0 a1:List Int):Prop:=True
def acc (ls:List L):aF×aF:=((ls.headD .hole).aY,((av 1 ls).headD .hole).aY)
def R:(aF×aF)->Option Bool:=RR (p2 gd) (u2 md)
def ak {a0 a1}(h:gd a0 a1):R ((a0.map bn),(a1.map bn))=some (md a0 a1):=aM (a:=(a0,a1)) h
def aV:gy:=CN pats res acc R
def bp (a0 a1:List Int)(hg:gd a0 a1)(h0:a0.length<=maxLen)(h1:a1.length<=maxLen):∃n,start (iter step n) (a0.map bn) (a1.map bn)=ret ((md a0 a1):Bool):=by
 unfold start md
 simp only [List.length_map]
 refine ko (pt:=fun i=>Pt.p0 (a0.map bn) (a1.map bn) (i:Int)) (fun hl J i h h2=>?_) (fun J=>?_)
 ·simp only [step,MM,List.length_map,bM h,bM h2,bE,aZ,cP,tD h,tD h2]
  rw [aJ h h0]
  simp only [bne,eT,bool_beq,eM]
  cases eu a0[i] a1[i]<;>rfl
 ·simp only [step,List.length_map,ff,bh]
def af:cq 53 aV:=VV (run:=fun n x=>start (iter step n) x.1 x.2) mix aD .nil Tryz.func53 (by kernel_rfl) run_eq (fun ls a hl e hg=>bp a.1 a.2 hg (by have h:(ls.headD .hole).aY.length<=maxLen:=hl.1.len;have e:a.1.map bn=(ls.headD .hole).aY:=(congrArg (fun x=>x.1) e.symm);rw [<-e] at h;simpa using h) (by have h:((av 1 ls).headD .hole).aY.length<=maxLen:=hl.2.1.len;have e:a.2.map bn=((av 1 ls).headD .hole).aY:=(congrArg (fun x=>x.2) e.symm);rw [<-e] at h;simpa using h))
end Z269
namespace Z270
def F (x0 x1:bC):aH:=(call (Z269.R (x0.aU,x1.aU)) fun v1=>(cond (!v1) bf (cond (x0.cV != x1.cV) bf eG)))
def md (a0 a1:aL):Bool:=eu a0 a1
def gd (a0 a1:aL):Prop:=True
def R:=RR (p2 gd) (u2 md)
def ak {a0 a1}(h:gd a0 a1):R ((aL.r a0),(aL.r a1))=some (md a0 a1):=aM (a:=(a0,a1)) h
def aV:=CN [.agg iT,.agg iT] oB RT.dec R
def bp (a0)(a1)(hg:gd a0 a1):F (aL.r a0) (aL.r a1)=ret (md a0 a1):=by
 unfold md
 show (call (Z269.R ((a0.aU.map bn),(a1.aU.map bn))) fun v1=>(cond (!v1) bf (cond (a0.cV != a1.cV) bf eG)))=_
 simp only [call_eq (Z269.ak (a0:=a0.aU) (a1:=a1.aU) trivial),Z269.md]
 try simp only [bne,eT,bool_beq,eM]
 have e:eu a0 a1=(eu a0.aU a1.aU&&(eu a0.cV a1.cV&&true)):=by
  cases a0;cases a1
  rw [Bool.eq_iff_iff]
  simp only [cU,Bool.and_eq_true,aL.mk.injEq,and_true]
 rw [e]
 refine cy fun _=>?_
 refine cy fun _=>?_
 rfl
def af:cq 279 aV:=W2 16 F mix aD bp (.cons Z269.af .nil) Tryz.func279
end Z270
namespace Z271
def F (x0 x1:bW):aH:=(cond (x0.bw != x1.bw) bf (cond (x0.cG != x1.cG) bf (cond (x0.bL != x1.bL) bf (cond (x0.cE != x1.cE) bf (cond (x0.cD != x1.cD) bf (cond (x0.cB != x1.cB) bf (cond (x0.dg != x1.dg) bf (cond (x0.dN != x1.dN) bf (call (Z270.R (x0.cg,x1.cg)) fun v1=>(cond (!v1) bf (call (Z270.R (x0.bN,x1.bN)) fun v2=>(cond (!v2) bf (cond (x0.dy != x1.dy) bf (call (Z270.R (x0.bK,x1.bK)) fun v3=>(cond (!v3) bf (cond (!(x0.bF==x1.bF)) bf eG))))))))))))))))
def md (a0 a1:aE):Bool:=eu a0 a1
def gd (a0 a1:aE):Prop:=True
def R:=RR (p2 gd) (u2 md)
def ak {a0 a1}(h:gd a0 a1):R ((aE.r a0),(aE.r a1))=some (md a0 a1):=aM (a:=(a0,a1)) h
def aV:=CN [.agg fV,.agg fV] oB RT.dec R
def bp (a0)(a1)(hg:gd a0 a1):F (aE.r a0) (aE.r a1)=ret (md a0 a1):=by
 unfold md
 show (bif (a0.bw != a1.bw) then bf else (bif (a0.cG != a1.cG) then bf else (bif (a0.bL != a1.bL) then bf else (bif (a0.cE != a1.cE) then bf else (bif (a0.cD != a1.cD) then bf else (bif (a0.cB != a1.cB) then bf else (bif (a0.dg != a1.dg) then bf else (bif (a0.dN != a1.dN) then bf else (call (Z270.R ((aL.r a0.cg),(aL.r a1.cg))) fun v1=>(bif (!v1) then bf else (call (Z270.R ((aL.r a0.bN),(aL.r a1.bN))) fun v2=>(bif (!v2) then bf else (bif (a0.dy != a1.dy) then bf else (call (Z270.R ((aL.r a0.bK),(aL.r a1.bK))) fun v3=>(cond (!v3) bf (cond (!(a0.bF==a1.bF)) bf eG))))))))))))))))=_
 simp only [call_eq (Z270.ak (a0:=a0.cg) (a1:=a1.cg) trivial),Z270.md]
 simp only [call_eq (Z270.ak (a0:=a0.bN) (a1:=a1.bN) trivial),Z270.md]
 simp only [call_eq (Z270.ak (a0:=a0.bK) (a1:=a1.bK) trivial),Z270.md]
 try simp only [bne,eT,bool_beq,eM]
 have e:eu a0 a1=(eu a0.bw a1.bw&&(eu a0.cG a1.cG&&(eu a0.bL a1.bL&&(eu a0.cE a1.cE&&(eu a0.cD a1.cD&&(eu a0.cB a1.cB&&(eu a0.dg a1.dg&&(eu a0.dN a1.dN&&(eu a0.cg a1.cg&&(eu a0.bN a1.bN&&(eu a0.dy a1.dy&&(eu a0.bK a1.bK&&(eu a0.bF a1.bF&&true))))))))))))):=by
  cases a0;cases a1
  rw [Bool.eq_iff_iff]
  simp only [cU,Bool.and_eq_true,aE.mk.injEq,and_true]
 rw [e]
 refine cy fun _=>?_
 refine cy fun _=>?_
 refine cy fun _=>?_
 refine cy fun _=>?_
 refine cy fun _=>?_
 refine cy fun _=>?_
 refine cy fun _=>?_
 refine cy fun _=>?_
 refine cy fun _=>?_
 refine cy fun _=>?_
 refine cy fun _=>?_
 refine cy fun _=>?_
 refine cy fun _=>?_
 rfl
def af:cq 220 aV:=W2 73 F mix aD bp (.cons Z270.af .nil) Tryz.func220
end Z271
namespace Z272
def F (x0 x1:bz):aH:=(cond (x0.gT != x1.gT) bf (cond (x0.jP != x1.jP) bf eG))
def md (a0 a1:bz):Bool:=eu a0 a1
def gd (a0 a1:bz):Prop:=True
def R:=RR (p2 gd) (u2 md)
def ak {a0 a1}(h:gd a0 a1):R (a0,a1)=some (md a0 a1):=aM (a:=(a0,a1)) h
def aV:=CN [.agg yt,.agg yt] oB RT.dec R
def bp (a0)(a1)(hg:gd a0 a1):F a0 a1=ret (md a0 a1):=by
 unfold md
 show (cond (a0.gT != a1.gT) bf (cond (a0.jP != a1.jP) bf eG))=_
 try simp only [bne,eT,bool_beq,eM]
 have e:eu a0 a1=(eu a0.gT a1.gT&&(eu a0.jP a1.jP&&true)):=by
  cases a0;cases a1
  rw [Bool.eq_iff_iff]
  simp only [cU,Bool.and_eq_true,bz.mk.injEq,and_true]
 rw [e]
 refine cy fun _=>?_
 refine cy fun _=>?_
 rfl
def af:cq 280 aV:=W2 15 F mix aD bp .nil Tryz.func280
end Z272
namespace Z273
inductive Pt where
 | p0 (a b:aF) (c:Int)
def pid:Pt->Nat
 | .p0 ..=>4
def cQ:Pt->List V
 | .p0 a b c=>[.sl none 227 a,.sl none 227 b,.int .i64 c]
def cR:Pt->List aS
 | .p0 a b c=>[]
def step (J:Pt->aH):Pt->aH
 | .p0 a b c=>(cond (decide (c<(a.length:Int))) (m2 c (a.length:Int) (m2 c (b.length:Int) (call (Z272.R ((bz.at a (toNat c)),(bz.at b (toNat c)))) fun v1=>(cond (!v1) bf (J (.p0 a b (i64.wrap (c+1)))))))) eG)
def start (J:Pt->aH)(x0 x1:aF):aH:=(cond ((x0.length:Int) != (x1.length:Int)) bf (J (.p0 x0 x1 0)))
def live:Nat->Live:=fun i=>match i with | 4=>[(0,none),(1,none),(5,none)] | _=>[]
def pats:List gF:=[.rd (.sl 227),.rd (.sl 227)]
def res:RP:=.one (.rd (.bool))
abbrev E:Env:={ T:=assoc rE,G:=dP [(280,Z272.aV)],nt:=27 }
def step_eq (I:dH)(p:Pt):dU E live I (pid p) (ck Tryz.f221) (ij (live (pid p)) (cQ p) (cR p)) (dD E Tryz.f221 res)=step (fun q=>I (pid q) (cQ q) (cR q)) p:=by
 cases p<;>kernel_rfl
def start_eq (I:dH)(ls:List L):gn E live I (ck Tryz.f221) (dO pats ls) (dD E Tryz.f221 res)=start (fun q=>I (pid q) (cQ q) (cR q)) (ls.headD .hole).aY ((av 1 ls).headD .hole).aY:=by kernel_rfl
def run_eq (n:Nat)(ls:List L):fY E live Tryz.f221 res n (dO pats ls)=start (iter step n) (ls.headD .hole).aY ((av 1 ls).headD .hole).aY:=dL (id:=pid) (vs:=cQ) (hs:=cR) (step:=step) (start:=fun J=>start J (ls.headD .hole).aY ((av 1 ls).headD .hole).aY) step_eq (fun I=>start_eq I ls) n
def md (a0 a1:List bz):Bool:=eu a0 a1
def gd (a0 a1:List bz):Prop:=True
def acc (ls:List L):aF×aF:=((ls.headD .hole).aY,((av 1 ls).headD .hole).aY)
def R:(aF×aF)->Option Bool:=RR (p2 gd) (u2 md)
def ak {a0 a1}(h:gd a0 a1):R ((a0.map bz.row),(a1.map bz.row))=some (md a0 a1):=aM (a:=(a0,a1)) h
def aV:gy:=CN pats res acc R
def bp (a0 a1:List bz)(hg:gd a0 a1)(h0:a0.length<=maxLen)(h1:a1.length<=maxLen):∃n,start (iter step n) (a0.map bz.row) (a1.map bz.row)=ret ((md a0 a1):Bool):=by
 unfold start md
 simp only [List.length_map]
 refine ko (pt:=fun i=>Pt.p0 (a0.map bz.row) (a1.map bz.row) (i:Int)) (fun hl J i h h2=>?_) (fun J=>?_)
 ·simp only [step,MM,List.length_map,bM h,bM h2,bE,aZ,cP,bz.ga h,bz.ga h2]
  rw [aJ h h0]
  rw [call_eq (Z272.ak (a0:=a0[i]) (a1:=a1[i]) trivial),Z272.md]
  cases eu a0[i] a1[i]<;>rfl
 ·simp only [step,List.length_map,ff,bh]
def af:cq 221 aV:=VV (run:=fun n x=>start (iter step n) x.1 x.2) mix aD (.cons Z272.af .nil) Tryz.func221 (by kernel_rfl) run_eq (fun ls a hl e hg=>bp a.1 a.2 hg (by have h:(ls.headD .hole).aY.length<=maxLen:=hl.1.len;have e:a.1.map bz.row=(ls.headD .hole).aY:=(congrArg (fun x=>x.1) e.symm);rw [<-e] at h;simpa using h) (by have h:((av 1 ls).headD .hole).aY.length<=maxLen:=hl.2.1.len;have e:a.2.map bz.row=((av 1 ls).headD .hole).aY:=(congrArg (fun x=>x.2) e.symm);rw [<-e] at h;simpa using h))
end Z273
namespace Z274
def F (x0 x1:aT):aH:=(call (Z271.R (x0.ay,x1.ay)) fun v1=>(cond (!v1) bf (call (Z273.R (x0.cT,x1.cT)) fun v2=>(cond (!v2) bf eG))))
def md (a0 a1:aa):Bool:=eu a0 a1
def gd (a0 a1:aa):Prop:=True
def R:=RR (p2 gd) (u2 md)
def ak {a0 a1}(h:gd a0 a1):R ((aa.r a0),(aa.r a1))=some (md a0 a1):=aM (a:=(a0,a1)) h
def aV:=CN [.agg kB,.agg kB] oB RT.dec R
def bp (a0)(a1)(hg:gd a0 a1):F (aa.r a0) (aa.r a1)=ret (md a0 a1):=by
 unfold md
 show (call (Z271.R ((aE.r a0.ay),(aE.r a1.ay))) fun v1=>(bif (!v1) then bf else (call (Z273.R ((a0.cT.map bz.row),(a1.cT.map bz.row))) fun v2=>(cond (!v2) bf eG))))=_
 simp only [call_eq (Z271.ak (a0:=a0.ay) (a1:=a1.ay) trivial),Z271.md]
 simp only [call_eq (Z273.ak (a0:=a0.cT) (a1:=a1.cT) trivial),Z273.md]
 try simp only [bne,eT,bool_beq,eM]
 have e:eu a0 a1=(eu a0.ay a1.ay&&(eu a0.cT a1.cT&&true)):=by
  cases a0;cases a1
  rw [Bool.eq_iff_iff]
  simp only [cU,Bool.and_eq_true,aa.mk.injEq,and_true]
 rw [e]
 refine cy fun _=>?_
 refine cy fun _=>?_
 rfl
def af:cq 164 aV:=W2 17 F mix aD bp (.cons Z271.af (.cons Z273.af .nil)) Tryz.func164
end Z274
namespace Z275
inductive Pt where
 | p0 (a b:aF) (c:Int)
def pid:Pt->Nat
 | .p0 ..=>4
def cQ:Pt->List V
 | .p0 a b c=>[.sl none 178 a,.sl none 178 b,.int .i64 c]
def cR:Pt->List aS
 | .p0 a b c=>[]
def step (J:Pt->aH):Pt->aH
 | .p0 a b c=>(cond (decide (c<(a.length:Int))) (m2 c (a.length:Int) (m2 c (b.length:Int) (call (Z274.R ((aT.at a (toNat c)),(aT.at b (toNat c)))) fun v1=>(cond (!v1) bf (J (.p0 a b (i64.wrap (c+1)))))))) eG)
def start (J:Pt->aH)(x0 x1:aF):aH:=(cond ((x0.length:Int) != (x1.length:Int)) bf (J (.p0 x0 x1 0)))
def live:Nat->Live:=fun i=>match i with | 4=>[(0,none),(1,none),(5,none)] | _=>[]
def pats:List gF:=[.rd (.sl 178),.rd (.sl 178)]
def res:RP:=.one (.rd (.bool))
abbrev E:Env:={ T:=assoc rE,G:=dP [(164,Z274.aV)],nt:=27 }
def step_eq (I:dH)(p:Pt):dU E live I (pid p) (ck Tryz.f114) (ij (live (pid p)) (cQ p) (cR p)) (dD E Tryz.f114 res)=step (fun q=>I (pid q) (cQ q) (cR q)) p:=by
 cases p<;>kernel_rfl
def start_eq (I:dH)(ls:List L):gn E live I (ck Tryz.f114) (dO pats ls) (dD E Tryz.f114 res)=start (fun q=>I (pid q) (cQ q) (cR q)) (ls.headD .hole).aY ((av 1 ls).headD .hole).aY:=by kernel_rfl
def run_eq (n:Nat)(ls:List L):fY E live Tryz.f114 res n (dO pats ls)=start (iter step n) (ls.headD .hole).aY ((av 1 ls).headD .hole).aY:=dL (id:=pid) (vs:=cQ) (hs:=cR) (step:=step) (start:=fun J=>start J (ls.headD .hole).aY ((av 1 ls).headD .hole).aY) step_eq (fun I=>start_eq I ls) n
def md (a0 a1:List aa):Bool:=eu a0 a1
def gd (a0 a1:List aa):Prop:=True
def acc (ls:List L):aF×aF:=((ls.headD .hole).aY,((av 1 ls).headD .hole).aY)
def R:(aF×aF)->Option Bool:=RR (p2 gd) (u2 md)
def ak {a0 a1}(h:gd a0 a1):R ((a0.map aa.row),(a1.map aa.row))=some (md a0 a1):=aM (a:=(a0,a1)) h
def aV:gy:=CN pats res acc R
def bp (a0 a1:List aa)(hg:gd a0 a1)(h0:a0.length<=maxLen)(h1:a1.length<=maxLen):∃n,start (iter step n) (a0.map aa.row) (a1.map aa.row)=ret ((md a0 a1):Bool):=by
 unfold start md
 simp only [List.length_map]
 refine ko (pt:=fun i=>Pt.p0 (a0.map aa.row) (a1.map aa.row) (i:Int)) (fun hl J i h h2=>?_) (fun J=>?_)
 ·simp only [step,MM,List.length_map,bM h,bM h2,bE,aZ,cP,aa.ga h,aa.ga h2]
  rw [aJ h h0]
  rw [call_eq (Z274.ak (a0:=a0[i]) (a1:=a1[i]) trivial),Z274.md]
  cases eu a0[i] a1[i]<;>rfl
 ·simp only [step,List.length_map,ff,bh]
def af:cq 114 aV:=VV (run:=fun n x=>start (iter step n) x.1 x.2) mix aD (.cons Z274.af .nil) Tryz.func114 (by kernel_rfl) run_eq (fun ls a hl e hg=>bp a.1 a.2 hg (by have h:(ls.headD .hole).aY.length<=maxLen:=hl.1.len;have e:a.1.map aa.row=(ls.headD .hole).aY:=(congrArg (fun x=>x.1) e.symm);rw [<-e] at h;simpa using h) (by have h:((av 1 ls).headD .hole).aY.length<=maxLen:=hl.2.1.len;have e:a.2.map aa.row=((av 1 ls).headD .hole).aY:=(congrArg (fun x=>x.2) e.symm);rw [<-e] at h;simpa using h))
end Z275
namespace Z276
inductive Pt where
 | p0 (a b:aF) (c:Int)
def pid:Pt->Nat
 | .p0 ..=>4
def cQ:Pt->List V
 | .p0 a b c=>[.sl none 120 a,.sl none 120 b,.int .i64 c]
def cR:Pt->List aS
 | .p0 a b c=>[]
def step (J:Pt->aH):Pt->aH
 | .p0 a b c=>(cond (decide (c<(a.length:Int))) (m2 c (a.length:Int) (m2 c (b.length:Int) (call (Z275.R ((pX a (toNat c)),(pX b (toNat c)))) fun v1=>(cond (!v1) bf (J (.p0 a b (i64.wrap (c+1)))))))) eG)
def start (J:Pt->aH)(x0 x1:aF):aH:=(cond ((x0.length:Int) != (x1.length:Int)) bf (J (.p0 x0 x1 0)))
def live:Nat->Live:=fun i=>match i with | 4=>[(0,none),(1,none),(5,none)] | _=>[]
def pats:List gF:=[.rd (.sl 120),.rd (.sl 120)]
def res:RP:=.one (.rd (.bool))
abbrev E:Env:={ T:=assoc rE,G:=dP [(114,Z275.aV)],nt:=27 }
def step_eq (I:dH)(p:Pt):dU E live I (pid p) (ck Tryz.f54) (ij (live (pid p)) (cQ p) (cR p)) (dD E Tryz.f54 res)=step (fun q=>I (pid q) (cQ q) (cR q)) p:=by
 cases p<;>kernel_rfl
def start_eq (I:dH)(ls:List L):gn E live I (ck Tryz.f54) (dO pats ls) (dD E Tryz.f54 res)=start (fun q=>I (pid q) (cQ q) (cR q)) (ls.headD .hole).aY ((av 1 ls).headD .hole).aY:=by kernel_rfl
def run_eq (n:Nat)(ls:List L):fY E live Tryz.f54 res n (dO pats ls)=start (iter step n) (ls.headD .hole).aY ((av 1 ls).headD .hole).aY:=dL (id:=pid) (vs:=cQ) (hs:=cR) (step:=step) (start:=fun J=>start J (ls.headD .hole).aY ((av 1 ls).headD .hole).aY) step_eq (fun I=>start_eq I ls) n
def md (a0 a1:List (List aa)):Bool:=eu a0 a1
def gd (a0 a1:List (List aa)):Prop:=True
def acc (ls:List L):aF×aF:=((ls.headD .hole).aY,((av 1 ls).headD .hole).aY)
def R:(aF×aF)->Option Bool:=RR (p2 gd) (u2 md)
def ak {a0 a1}(h:gd a0 a1):R ((a0.map (eL aa.row)),(a1.map (eL aa.row)))=some (md a0 a1):=aM (a:=(a0,a1)) h
def aV:gy:=CN pats res acc R
def bp (a0 a1:List (List aa))(hg:gd a0 a1)(h0:a0.length<=maxLen)(h1:a1.length<=maxLen):∃n,start (iter step n) (a0.map (eL aa.row)) (a1.map (eL aa.row))=ret ((md a0 a1):Bool):=by
 unfold start md
 simp only [List.length_map]
 refine ko (pt:=fun i=>Pt.p0 (a0.map (eL aa.row)) (a1.map (eL aa.row)) (i:Int)) (fun hl J i h h2=>?_) (fun J=>?_)
 ·simp only [step,MM,List.length_map,bM h,bM h2,bE,aZ,cP,qh h,qh h2]
  rw [aJ h h0]
  rw [call_eq (Z275.ak (a0:=a0[i]) (a1:=a1[i]) trivial),Z275.md]
  cases eu a0[i] a1[i]<;>rfl
 ·simp only [step,List.length_map,ff,bh]
def af:cq 54 aV:=VV (run:=fun n x=>start (iter step n) x.1 x.2) mix aD (.cons Z275.af .nil) Tryz.func54 (by kernel_rfl) run_eq (fun ls a hl e hg=>bp a.1 a.2 hg (by have h:(ls.headD .hole).aY.length<=maxLen:=hl.1.len;have e:a.1.map (eL aa.row)=(ls.headD .hole).aY:=(congrArg (fun x=>x.1) e.symm);rw [<-e] at h;simpa using h) (by have h:((av 1 ls).headD .hole).aY.length<=maxLen:=hl.2.1.len;have e:a.2.map (eL aa.row)=((av 1 ls).headD .hole).aY:=(congrArg (fun x=>x.2) e.symm);rw [<-e] at h;simpa using h))
end Z276
namespace Z277
def F (x0 x1:cu):aH:=(call (Z274.R (x0.aX,x1.aX)) fun v1=>(cond (!v1) bf (call (Z274.R (x0.fA,x1.fA)) fun v2=>(cond (!v2) bf (call (Z274.R (x0.fB,x1.fB)) fun v3=>(cond (!v3) bf eG))))))
def md (a0 a1:aI):Bool:=eu a0 a1
def gd (a0 a1:aI):Prop:=True
def R:=RR (p2 gd) (u2 md)
def ak {a0 a1}(h:gd a0 a1):R ((aI.r a0),(aI.r a1))=some (md a0 a1):=aM (a:=(a0,a1)) h
def aV:=CN [.agg tI,.agg tI] oB RT.dec R
def bp (a0)(a1)(hg:gd a0 a1):F (aI.r a0) (aI.r a1)=ret (md a0 a1):=by
 unfold md
 show (call (Z274.R ((aa.r a0.aX),(aa.r a1.aX))) fun v1=>(bif (!v1) then bf else (call (Z274.R ((aa.r a0.fA),(aa.r a1.fA))) fun v2=>(bif (!v2) then bf else (call (Z274.R ((aa.r a0.fB),(aa.r a1.fB))) fun v3=>(cond (!v3) bf eG))))))=_
 simp only [call_eq (Z274.ak (a0:=a0.aX) (a1:=a1.aX) trivial),Z274.md]
 simp only [call_eq (Z274.ak (a0:=a0.fA) (a1:=a1.fA) trivial),Z274.md]
 simp only [call_eq (Z274.ak (a0:=a0.fB) (a1:=a1.fB) trivial),Z274.md]
 try simp only [bne,eT,bool_beq,eM]
 have e:eu a0 a1=(eu a0.aX a1.aX&&(eu a0.fA a1.fA&&(eu a0.fB a1.fB&&true))):=by
  cases a0;cases a1
  rw [Bool.eq_iff_iff]
  simp only [cU,Bool.and_eq_true,aI.mk.injEq,and_true]
 rw [e]
 refine cy fun _=>?_
 refine cy fun _=>?_
 refine cy fun _=>?_
 rfl
def af:cq 115 aV:=W2 23 F mix aD bp (.cons Z274.af .nil) Tryz.func115
end Z277
namespace Z278
inductive Pt where
 | p0 (a b:aF) (c:Int)
def pid:Pt->Nat
 | .p0 ..=>4
def cQ:Pt->List V
 | .p0 a b c=>[.sl none 180 a,.sl none 180 b,.int .i64 c]
def cR:Pt->List aS
 | .p0 a b c=>[]
def step (J:Pt->aH):Pt->aH
 | .p0 a b c=>(cond (decide (c<(a.length:Int))) (m2 c (a.length:Int) (m2 c (b.length:Int) (call (Z277.R ((cu.at a (toNat c)),(cu.at b (toNat c)))) fun v1=>(cond (!v1) bf (J (.p0 a b (i64.wrap (c+1)))))))) eG)
def start (J:Pt->aH)(x0 x1:aF):aH:=(cond ((x0.length:Int) != (x1.length:Int)) bf (J (.p0 x0 x1 0)))
def live:Nat->Live:=fun i=>match i with | 4=>[(0,none),(1,none),(5,none)] | _=>[]
def pats:List gF:=[.rd (.sl 180),.rd (.sl 180)]
def res:RP:=.one (.rd (.bool))
abbrev E:Env:={ T:=assoc rE,G:=dP [(115,Z277.aV)],nt:=27 }
def step_eq (I:dH)(p:Pt):dU E live I (pid p) (ck Tryz.f55) (ij (live (pid p)) (cQ p) (cR p)) (dD E Tryz.f55 res)=step (fun q=>I (pid q) (cQ q) (cR q)) p:=by
 cases p<;>kernel_rfl
def start_eq (I:dH)(ls:List L):gn E live I (ck Tryz.f55) (dO pats ls) (dD E Tryz.f55 res)=start (fun q=>I (pid q) (cQ q) (cR q)) (ls.headD .hole).aY ((av 1 ls).headD .hole).aY:=by kernel_rfl
def run_eq (n:Nat)(ls:List L):fY E live Tryz.f55 res n (dO pats ls)=start (iter step n) (ls.headD .hole).aY ((av 1 ls).headD .hole).aY:=dL (id:=pid) (vs:=cQ) (hs:=cR) (step:=step) (start:=fun J=>start J (ls.headD .hole).aY ((av 1 ls).headD .hole).aY) step_eq (fun I=>start_eq I ls) n
def md (a0 a1:List aI):Bool:=eu a0 a1
def gd (a0 a1:List aI):Prop:=True
def acc (ls:List L):aF×aF:=((ls.headD .hole).aY,((av 1 ls).headD .hole).aY)
def R:(aF×aF)->Option Bool:=RR (p2 gd) (u2 md)
def ak {a0 a1}(h:gd a0 a1):R ((a0.map aI.row),(a1.map aI.row))=some (md a0 a1):=aM (a:=(a0,a1)) h
def aV:gy:=CN pats res acc R
def bp (a0 a1:List aI)(hg:gd a0 a1)(h0:a0.length<=maxLen)(h1:a1.length<=maxLen):∃n,start (iter step n) (a0.map aI.row) (a1.map aI.row)=ret ((md a0 a1):Bool):=by
 unfold start md
 simp only [List.length_map]
 refine ko (pt:=fun i=>Pt.p0 (a0.map aI.row) (a1.map aI.row) (i:Int)) (fun hl J i h h2=>?_) (fun J=>?_)
 ·simp only [step,MM,List.length_map,bM h,bM h2,bE,aZ,cP,aI.ga h,aI.ga h2]
  rw [aJ h h0]
  rw [call_eq (Z277.ak (a0:=a0[i]) (a1:=a1[i]) trivial),Z277.md]
  cases eu a0[i] a1[i]<;>rfl
 ·simp only [step,List.length_map,ff,bh]
def af:cq 55 aV:=VV (run:=fun n x=>start (iter step n) x.1 x.2) mix aD (.cons Z277.af .nil) Tryz.func55 (by kernel_rfl) run_eq (fun ls a hl e hg=>bp a.1 a.2 hg (by have h:(ls.headD .hole).aY.length<=maxLen:=hl.1.len;have e:a.1.map aI.row=(ls.headD .hole).aY:=(congrArg (fun x=>x.1) e.symm);rw [<-e] at h;simpa using h) (by have h:((av 1 ls).headD .hole).aY.length<=maxLen:=hl.2.1.len;have e:a.2.map aI.row=((av 1 ls).headD .hole).aY:=(congrArg (fun x=>x.2) e.symm);rw [<-e] at h;simpa using h))
end Z278
namespace Z279
def F (x0 x1:bt):aH:=(call (Z276.R (x0.aK,x1.aK)) fun v1=>(cond (!v1) bf (call (Z278.R (x0.bq,x1.bq)) fun v2=>(cond (!v2) bf eG))))
def md (a0 a1:an):Bool:=eu a0 a1
def gd (a0 a1:an):Prop:=True
def R:=RR (p2 gd) (u2 md)
def ak {a0 a1}(h:gd a0 a1):R ((an.r a0),(an.r a1))=some (md a0 a1):=aM (a:=(a0,a1)) h
def aV:=CN [.agg tO,.agg tO] oB RT.dec R
def bp (a0)(a1)(hg:gd a0 a1):F (an.r a0) (an.r a1)=ret (md a0 a1):=by
 unfold md
 show (call (Z276.R ((a0.aK.map (eL aa.row)),(a1.aK.map (eL aa.row)))) fun v1=>(bif (!v1) then bf else (call (Z278.R ((a0.bq.map aI.row),(a1.bq.map aI.row))) fun v2=>(cond (!v2) bf eG))))=_
 simp only [call_eq (Z276.ak (a0:=a0.aK) (a1:=a1.aK) trivial),Z276.md]
 simp only [call_eq (Z278.ak (a0:=a0.bq) (a1:=a1.bq) trivial),Z278.md]
 try simp only [bne,eT,bool_beq,eM]
 have e:eu a0 a1=(eu a0.aK a1.aK&&(eu a0.bq a1.bq&&true)):=by
  cases a0;cases a1
  rw [Bool.eq_iff_iff]
  simp only [cU,Bool.and_eq_true,an.mk.injEq,and_true]
 rw [e]
 refine cy fun _=>?_
 refine cy fun _=>?_
 rfl
def af:cq 17 aV:=W2 17 F mix aD bp (.cons Z276.af (.cons Z278.af .nil)) Tryz.func17
end Z279
namespace Z280
inductive Pt where
 | p0 (a b:aF) (c:Int)
def pid:Pt->Nat
 | .p0 ..=>4
def cQ:Pt->List V
 | .p0 a b c=>[.sl none 9 a,.sl none 9 b,.int .i64 c]
def cR:Pt->List aS
 | .p0 a b c=>[]
def step (J:Pt->aH):Pt->aH
 | .p0 a b c=>(cond (decide (c<(a.length:Int))) (m2 c (a.length:Int) (m2 c (b.length:Int) (cond (!((pW a (toNat c))==(pW b (toNat c)))) bf (J (.p0 a b (i64.wrap (c+1))))))) eG)
def start (J:Pt->aH)(x0 x1:aF):aH:=(cond ((x0.length:Int) != (x1.length:Int)) bf (J (.p0 x0 x1 0)))
def live:Nat->Live:=fun i=>match i with | 4=>[(0,none),(1,none),(5,none)] | _=>[]
def pats:List gF:=[.rd (.sl 9),.rd (.sl 9)]
def res:RP:=.one (.rd (.bool))
abbrev E:Env:={ T:=assoc rE,G:=dP [],nt:=26 }
def step_eq (I:dH)(p:Pt):dU E live I (pid p) (ck Tryz.f19) (ij (live (pid p)) (cQ p) (cR p)) (dD E Tryz.f19 res)=step (fun q=>I (pid q) (cQ q) (cR q)) p:=by
 cases p<;>kernel_rfl
def start_eq (I:dH)(ls:List L):gn E live I (ck Tryz.f19) (dO pats ls) (dD E Tryz.f19 res)=start (fun q=>I (pid q) (cQ q) (cR q)) (ls.headD .hole).aY ((av 1 ls).headD .hole).aY:=by kernel_rfl
def run_eq (n:Nat)(ls:List L):fY E live Tryz.f19 res n (dO pats ls)=start (iter step n) (ls.headD .hole).aY ((av 1 ls).headD .hole).aY:=dL (id:=pid) (vs:=cQ) (hs:=cR) (step:=step) (start:=fun J=>start J (ls.headD .hole).aY ((av 1 ls).headD .hole).aY) step_eq (fun I=>start_eq I ls) n
def md (a0 a1:List aA):Bool:=eu a0 a1
def gd (a0 a1:List aA):Prop:=True
def acc (ls:List L):aF×aF:=((ls.headD .hole).aY,((av 1 ls).headD .hole).aY)
def R:(aF×aF)->Option Bool:=RR (p2 gd) (u2 md)
def ak {a0 a1}(h:gd a0 a1):R ((a0.map cL),(a1.map cL))=some (md a0 a1):=aM (a:=(a0,a1)) h
def aV:gy:=CN pats res acc R
def bp (a0 a1:List aA)(hg:gd a0 a1)(h0:a0.length<=maxLen)(h1:a1.length<=maxLen):∃n,start (iter step n) (a0.map cL) (a1.map cL)=ret ((md a0 a1):Bool):=by
 unfold start md
 simp only [List.length_map]
 refine ko (pt:=fun i=>Pt.p0 (a0.map cL) (a1.map cL) (i:Int)) (fun hl J i h h2=>?_) (fun J=>?_)
 ·simp only [step,MM,List.length_map,bM h,bM h2,bE,aZ,cP,qe h,qe h2]
  rw [aJ h h0]
  simp only [bne,eT,bool_beq,eM]
  cases eu a0[i] a1[i]<;>rfl
 ·simp only [step,List.length_map,ff,bh]
def af:cq 19 aV:=VV (run:=fun n x=>start (iter step n) x.1 x.2) mix aD .nil Tryz.func19 (by kernel_rfl) run_eq (fun ls a hl e hg=>bp a.1 a.2 hg (by have h:(ls.headD .hole).aY.length<=maxLen:=hl.1.len;have e:a.1.map cL=(ls.headD .hole).aY:=(congrArg (fun x=>x.1) e.symm);rw [<-e] at h;simpa using h) (by have h:((av 1 ls).headD .hole).aY.length<=maxLen:=hl.2.1.len;have e:a.2.map cL=((av 1 ls).headD .hole).aY:=(congrArg (fun x=>x.2) e.symm);rw [<-e] at h;simpa using h))
end Z280
namespace Z281
def F (x0 x1:aW):aH:=(cond (!(x0.aQ==x1.aQ)) bf (cond (x0.bL != x1.bL) bf (cond (x0.bX != x1.bX) bf (call (Z280.R (x0.bB,x1.bB)) fun v1=>(cond (!v1) bf eG)))))
def md (a0 a1:ah):Bool:=eu a0 a1
def gd (a0 a1:ah):Prop:=True
def R:=RR (p2 gd) (u2 md)
def ak {a0 a1}(h:gd a0 a1):R ((ah.r a0),(ah.r a1))=some (md a0 a1):=aM (a:=(a0,a1)) h
def aV:=CN [.agg sX,.agg sX] oB RT.dec R
def bp (a0)(a1)(hg:gd a0 a1):F (ah.r a0) (ah.r a1)=ret (md a0 a1):=by
 unfold md
 show (bif (!(a0.aQ==a1.aQ)) then bf else (bif (a0.bL != a1.bL) then bf else (bif (a0.bX != a1.bX) then bf else (call (Z280.R ((a0.bB.map cL),(a1.bB.map cL))) fun v1=>(cond (!v1) bf eG)))))=_
 simp only [call_eq (Z280.ak (a0:=a0.bB) (a1:=a1.bB) trivial),Z280.md]
 try simp only [bne,eT,bool_beq,eM]
 have e:eu a0 a1=(eu a0.aQ a1.aQ&&(eu a0.bL a1.bL&&(eu a0.bX a1.bX&&(eu a0.bB a1.bB&&true)))):=by
  cases a0;cases a1
  rw [Bool.eq_iff_iff]
  simp only [cU,Bool.and_eq_true,ah.mk.injEq,and_true]
 rw [e]
 refine cy fun _=>?_
 refine cy fun _=>?_
 refine cy fun _=>?_
 refine cy fun _=>?_
 rfl
def af:cq 52 aV:=W2 26 F mix aD bp (.cons Z280.af .nil) Tryz.func52
end Z281
namespace Z282
def F (x0 x1:bH):aH:=(cond (x0.ec != x1.ec) bf (call (Z269.R (x0.bB,x1.bB)) fun v1=>(cond (!v1) bf eG)))
def md (a0 a1:aB):Bool:=eu a0 a1
def gd (a0 a1:aB):Prop:=True
def R:=RR (p2 gd) (u2 md)
def ak {a0 a1}(h:gd a0 a1):R ((aB.r a0),(aB.r a1))=some (md a0 a1):=aM (a:=(a0,a1)) h
def aV:=CN [.agg oo,.agg oo] oB RT.dec R
def bp (a0)(a1)(hg:gd a0 a1):F (aB.r a0) (aB.r a1)=ret (md a0 a1):=by
 unfold md
 show (bif (a0.ec != a1.ec) then bf else (call (Z269.R ((a0.bB.map bn),(a1.bB.map bn))) fun v1=>(cond (!v1) bf eG)))=_
 simp only [call_eq (Z269.ak (a0:=a0.bB) (a1:=a1.bB) trivial),Z269.md]
 try simp only [bne,eT,bool_beq,eM]
 have e:eu a0 a1=(eu a0.ec a1.ec&&(eu a0.bB a1.bB&&true)):=by
  cases a0;cases a1
  rw [Bool.eq_iff_iff]
  simp only [cU,Bool.and_eq_true,aB.mk.injEq,and_true]
 rw [e]
 refine cy fun _=>?_
 refine cy fun _=>?_
 rfl
def af:cq 222 aV:=W2 16 F mix aD bp (.cons Z269.af .nil) Tryz.func222
end Z282
namespace Z283
def F (x0 x1:dm):aH:=(cond (x0.ec != x1.ec) bf (call (Z281.R (x0.aX,x1.aX)) fun v1=>(cond (!v1) bf (call (Z281.R (x0.bQ,x1.bQ)) fun v2=>(cond (!v2) bf (call (Z282.R (x0.dx,x1.dx)) fun v3=>(cond (!v3) bf (call (Z282.R (x0.cw,x1.cw)) fun v4=>(cond (!v4) bf eG)))))))))
def md (a0 a1:bG):Bool:=eu a0 a1
def gd (a0 a1:bG):Prop:=True
def R:=RR (p2 gd) (u2 md)
def ak {a0 a1}(h:gd a0 a1):R ((bG.r a0),(bG.r a1))=some (md a0 a1):=aM (a:=(a0,a1)) h
def aV:=CN [.agg ql,.agg ql] oB RT.dec R
def bp (a0)(a1)(hg:gd a0 a1):F (bG.r a0) (bG.r a1)=ret (md a0 a1):=by
 unfold md
 show (bif (a0.ec != a1.ec) then bf else (call (Z281.R ((ah.r a0.aX),(ah.r a1.aX))) fun v1=>(bif (!v1) then bf else (call (Z281.R ((ah.r a0.bQ),(ah.r a1.bQ))) fun v2=>(bif (!v2) then bf else (call (Z282.R ((aB.r a0.dx),(aB.r a1.dx))) fun v3=>(bif (!v3) then bf else (call (Z282.R ((aB.r a0.cw),(aB.r a1.cw))) fun v4=>(cond (!v4) bf eG)))))))))=_
 simp only [call_eq (Z281.ak (a0:=a0.aX) (a1:=a1.aX) trivial),Z281.md]
 simp only [call_eq (Z281.ak (a0:=a0.bQ) (a1:=a1.bQ) trivial),Z281.md]
 simp only [call_eq (Z282.ak (a0:=a0.dx) (a1:=a1.dx) trivial),Z282.md]
 simp only [call_eq (Z282.ak (a0:=a0.cw) (a1:=a1.cw) trivial),Z282.md]
 try simp only [bne,eT,bool_beq,eM]
 have e:eu a0 a1=(eu a0.ec a1.ec&&(eu a0.aX a1.aX&&(eu a0.bQ a1.bQ&&(eu a0.dx a1.dx&&(eu a0.cw a1.cw&&true))))):=by
  cases a0;cases a1
  rw [Bool.eq_iff_iff]
  simp only [cU,Bool.and_eq_true,bG.mk.injEq,and_true]
 rw [e]
 refine cy fun _=>?_
 refine cy fun _=>?_
 refine cy fun _=>?_
 refine cy fun _=>?_
 refine cy fun _=>?_
 rfl
def af:cq 223 aV:=W2 34 F mix aD bp (.cons Z281.af (.cons Z282.af .nil)) Tryz.func223
end Z283
namespace Z284
def F (x0 x1:aO):aH:=(call (Z275.R (x0.aP,x1.aP)) fun v1=>(cond (!v1) bf (cond (!(x0.bS==x1.bS)) bf (call (Z281.R (x0.bg,x1.bg)) fun v2=>(cond (!v2) bf (call (Z282.R (x0.cX,x1.cX)) fun v3=>(cond (!v3) bf (call (Z283.R (x0.eo,x1.eo)) fun v4=>(cond (!v4) bf eG)))))))))
def md (a0 a1:aj):Bool:=eu a0 a1
def gd (a0 a1:aj):Prop:=True
def R:=RR (p2 gd) (u2 md)
def ak {a0 a1}(h:gd a0 a1):R ((aj.r a0),(aj.r a1))=some (md a0 a1):=aM (a:=(a0,a1)) h
def aV:=CN [.agg qJ,.agg qJ] oB RT.dec R
def bp (a0)(a1)(hg:gd a0 a1):F (aj.r a0) (aj.r a1)=ret (md a0 a1):=by
 unfold md
 show (call (Z275.R ((a0.aP.map aa.row),(a1.aP.map aa.row))) fun v1=>(bif (!v1) then bf else (bif (!(a0.bS==a1.bS)) then bf else (call (Z281.R ((ah.r a0.bg),(ah.r a1.bg))) fun v2=>(bif (!v2) then bf else (call (Z282.R ((aB.r a0.cX),(aB.r a1.cX))) fun v3=>(bif (!v3) then bf else (call (Z283.R ((bG.r a0.eo),(bG.r a1.eo))) fun v4=>(cond (!v4) bf eG)))))))))=_
 simp only [call_eq (Z275.ak (a0:=a0.aP) (a1:=a1.aP) trivial),Z275.md]
 simp only [call_eq (Z281.ak (a0:=a0.bg) (a1:=a1.bg) trivial),Z281.md]
 simp only [call_eq (Z282.ak (a0:=a0.cX) (a1:=a1.cX) trivial),Z282.md]
 simp only [call_eq (Z283.ak (a0:=a0.eo) (a1:=a1.eo) trivial),Z283.md]
 try simp only [bne,eT,bool_beq,eM]
 have e:eu a0 a1=(eu a0.aP a1.aP&&(eu a0.bS a1.bS&&(eu a0.bg a1.bg&&(eu a0.cX a1.cX&&(eu a0.eo a1.eo&&true))))):=by
  cases a0;cases a1
  rw [Bool.eq_iff_iff]
  simp only [cU,Bool.and_eq_true,aj.mk.injEq,and_true]
 rw [e]
 refine cy fun _=>?_
 refine cy fun _=>?_
 refine cy fun _=>?_
 refine cy fun _=>?_
 refine cy fun _=>?_
 rfl
def af:cq 165 aV:=W2 34 F mix aD bp (.cons Z275.af (.cons Z281.af (.cons Z282.af (.cons Z283.af .nil)))) Tryz.func165
end Z284
namespace Z285
def F (x0 x1:bV):aH:=(cond (x0.bw != x1.bw) bf (cond (!(x0.aQ==x1.aQ)) bf (call (Z284.R (x0.cC,x1.cC)) fun v1=>(cond (!v1) bf eG))))
def md (a0 a1:aC):Bool:=eu a0 a1
def gd (a0 a1:aC):Prop:=True
def R:=RR (p2 gd) (u2 md)
def ak {a0 a1}(h:gd a0 a1):R ((aC.r a0),(aC.r a1))=some (md a0 a1):=aM (a:=(a0,a1)) h
def aV:=CN [.agg zQ,.agg zQ] oB RT.dec R
def bp (a0)(a1)(hg:gd a0 a1):F (aC.r a0) (aC.r a1)=ret (md a0 a1):=by
 unfold md
 show (bif (a0.bw != a1.bw) then bf else (bif (!(a0.aQ==a1.aQ)) then bf else (call (Z284.R ((aj.r a0.cC),(aj.r a1.cC))) fun v1=>(cond (!v1) bf eG))))=_
 simp only [call_eq (Z284.ak (a0:=a0.cC) (a1:=a1.cC) trivial),Z284.md]
 try simp only [bne,eT,bool_beq,eM]
 have e:eu a0 a1=(eu a0.bw a1.bw&&(eu a0.aQ a1.aQ&&(eu a0.cC a1.cC&&true))):=by
  cases a0;cases a1
  rw [Bool.eq_iff_iff]
  simp only [cU,Bool.and_eq_true,aC.mk.injEq,and_true]
 rw [e]
 refine cy fun _=>?_
 refine cy fun _=>?_
 refine cy fun _=>?_
 rfl
def af:cq 116 aV:=W2 21 F mix aD bp (.cons Z284.af .nil) Tryz.func116
end Z285
namespace Z286
inductive Pt where
 | p0 (a b:aF) (c:Int)
def pid:Pt->Nat
 | .p0 ..=>4
def cQ:Pt->List V
 | .p0 a b c=>[.sl none 148 a,.sl none 148 b,.int .i64 c]
def cR:Pt->List aS
 | .p0 a b c=>[]
def step (J:Pt->aH):Pt->aH
 | .p0 a b c=>(cond (decide (c<(a.length:Int))) (m2 c (a.length:Int) (m2 c (b.length:Int) (call (Z285.R ((bV.at a (toNat c)),(bV.at b (toNat c)))) fun v1=>(cond (!v1) bf (J (.p0 a b (i64.wrap (c+1)))))))) eG)
def start (J:Pt->aH)(x0 x1:aF):aH:=(cond ((x0.length:Int) != (x1.length:Int)) bf (J (.p0 x0 x1 0)))
def live:Nat->Live:=fun i=>match i with | 4=>[(0,none),(1,none),(5,none)] | _=>[]
def pats:List gF:=[.rd (.sl 148),.rd (.sl 148)]
def res:RP:=.one (.rd (.bool))
abbrev E:Env:={ T:=assoc rE,G:=dP [(116,Z285.aV)],nt:=27 }
def step_eq (I:dH)(p:Pt):dU E live I (pid p) (ck Tryz.f56) (ij (live (pid p)) (cQ p) (cR p)) (dD E Tryz.f56 res)=step (fun q=>I (pid q) (cQ q) (cR q)) p:=by
 cases p<;>kernel_rfl
def start_eq (I:dH)(ls:List L):gn E live I (ck Tryz.f56) (dO pats ls) (dD E Tryz.f56 res)=start (fun q=>I (pid q) (cQ q) (cR q)) (ls.headD .hole).aY ((av 1 ls).headD .hole).aY:=by kernel_rfl
def run_eq (n:Nat)(ls:List L):fY E live Tryz.f56 res n (dO pats ls)=start (iter step n) (ls.headD .hole).aY ((av 1 ls).headD .hole).aY:=dL (id:=pid) (vs:=cQ) (hs:=cR) (step:=step) (start:=fun J=>start J (ls.headD .hole).aY ((av 1 ls).headD .hole).aY) step_eq (fun I=>start_eq I ls) n
def md (a0 a1:List aC):Bool:=eu a0 a1
def gd (a0 a1:List aC):Prop:=True
def acc (ls:List L):aF×aF:=((ls.headD .hole).aY,((av 1 ls).headD .hole).aY)
def R:(aF×aF)->Option Bool:=RR (p2 gd) (u2 md)
def ak {a0 a1}(h:gd a0 a1):R ((a0.map aC.row),(a1.map aC.row))=some (md a0 a1):=aM (a:=(a0,a1)) h
def aV:gy:=CN pats res acc R
def bp (a0 a1:List aC)(hg:gd a0 a1)(h0:a0.length<=maxLen)(h1:a1.length<=maxLen):∃n,start (iter step n) (a0.map aC.row) (a1.map aC.row)=ret ((md a0 a1):Bool):=by
 unfold start md
 simp only [List.length_map]
 refine ko (pt:=fun i=>Pt.p0 (a0.map aC.row) (a1.map aC.row) (i:Int)) (fun hl J i h h2=>?_) (fun J=>?_)
 ·simp only [step,MM,List.length_map,bM h,bM h2,bE,aZ,cP,aC.ga h,aC.ga h2]
  rw [aJ h h0]
  rw [call_eq (Z285.ak (a0:=a0[i]) (a1:=a1[i]) trivial),Z285.md]
  cases eu a0[i] a1[i]<;>rfl
 ·simp only [step,List.length_map,ff,bh]
def af:cq 56 aV:=VV (run:=fun n x=>start (iter step n) x.1 x.2) mix aD (.cons Z285.af .nil) Tryz.func56 (by kernel_rfl) run_eq (fun ls a hl e hg=>bp a.1 a.2 hg (by have h:(ls.headD .hole).aY.length<=maxLen:=hl.1.len;have e:a.1.map aC.row=(ls.headD .hole).aY:=(congrArg (fun x=>x.1) e.symm);rw [<-e] at h;simpa using h) (by have h:((av 1 ls).headD .hole).aY.length<=maxLen:=hl.2.1.len;have e:a.2.map aC.row=((av 1 ls).headD .hole).aY:=(congrArg (fun x=>x.2) e.symm);rw [<-e] at h;simpa using h))
end Z286
namespace Z287
def F (x0 x1:bR):aH:=(call (Z286.R (x0.aU,x1.aU)) fun v1=>(cond (!v1) bf eG))
def md (a0 a1:aG):Bool:=eu a0 a1
def gd (a0 a1:aG):Prop:=True
def R:=RR (p2 gd) (u2 md)
def ak {a0 a1}(h:gd a0 a1):R ((aG.r a0),(aG.r a1))=some (md a0 a1):=aM (a:=(a0,a1)) h
def aV:=CN [.agg vH,.agg vH] oB RT.dec R
def bp (a0)(a1)(hg:gd a0 a1):F (aG.r a0) (aG.r a1)=ret (md a0 a1):=by
 unfold md
 show (call (Z286.R ((a0.aU.map aC.row),(a1.aU.map aC.row))) fun v1=>(cond (!v1) bf eG))=_
 simp only [call_eq (Z286.ak (a0:=a0.aU) (a1:=a1.aU) trivial),Z286.md]
 try simp only [bne,eT,bool_beq,eM]
 have e:eu a0 a1=(eu a0.aU a1.aU&&true):=by
  cases a0;cases a1
  rw [Bool.eq_iff_iff]
  simp only [cU,Bool.and_eq_true,aG.mk.injEq,and_true]
 rw [e]
 refine cy fun _=>?_
 rfl
def af:cq 18 aV:=W2 11 F mix aD bp (.cons Z286.af .nil) Tryz.func18
end Z287
end Go.DM
end
