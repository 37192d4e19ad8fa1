/- What the functions compute that the law reaches, and that the law returns true. Conditions: none. -/
import Derived.Test.YtbojpakoeellaaaGreatResolveTy
import Derived.Test.YtbojpakoeellaaaGreatResolveFnB
set_option linter.all false
set_option maxRecDepth 100000
noncomputable section
namespace Go.DM
open Go.Proofs
open Go.IntKind (i64)
open Int (toNat)
open Nat (le_trans zero_le)
namespace Z205
inductive Pt where
 | p0 (a:aD) (b:Int) (c:aC) (d e:Int)
def pid:Pt->Nat
 | .p0 ..=>3
def cj:Pt->List V
 | .p0 a b c d e=>[.str a,.int .i64 b,.sl none 57 c,.int .i64 d,.int .i64 e]
def cg:Pt->List aV
 | .p0 a b c d e=>[]
def step (J:Pt->aH):Pt->aH
 | .p0 a b c d e=>(cond (decide (e<d)) (m2 e (c.length:Int) (call (Z179.R ((aU.at c (toNat e)).bf,a)) fun v1=>(cond (decide (v1<0)) (J (.p0 a (i64.wrap (b+1)) c d (i64.wrap (e+1)))) (J (.p0 a b c d (i64.wrap (e+1))))))) (ret (b:Int)))
def start (J:Pt->aH)(x0:aC)(x1:aD):aH:=J (.p0 x1 0 x0 (x0.length:Int) 0)
def live:Nat->Live:=fun i=>match i with | 3=>[(1,none),(5,none),(8,none),(9,none),(10,none)] | _=>[]
def md (a0:List ah)(a1:aD):Int:=(dS (S:=Int) (β:=Int) (fun (y1:ah) (s3:Int)=>(cond (decide ((Z179.md (y1.bf) a1)<0)) (.inl (i64.wrap (s3+1))) (.inl s3))) (fun (s3:Int)=>(s3:Int)) a0 0)
def gd (a0:List ah)(a1:aD):Prop:=(bM (2^21) (fun y:ah=>ah.Sm (2^21) y) a0)
def R:=RR (p2 gd) (u2 md)
def aj {a0 a1}(h:gd a0 a1):R ((a0.map ah.row),a1)=some (md a0 a1):=aO (a:=(a0,a1)) h
def aW:=CN [pL 57,pS] oI RT.dec R
def bw (a0)(a1)(hg:gd a0 a1):∃n,start (iter step n) (a0.map ah.row) a1=ret (md a0 a1):=by
 unfold gd at hg
 have H0:=hg
 unfold start md
 try simp only [SS]
 have Bh2:a0.length<=maxLen:=(by
   have:=(H0).1
   try simp only [maxLen] at *
   omega)
 refine ex_eq (out:=ret) (eC (z:=ah.zero)) ?_
 refine dM (p:=Pt.p0 a1 0 (a0.map ah.row) (a0.length:Int) 0) fz ?_
 refine cm (pt:=fun (i1:Nat) (s3:Int)=>Pt.p0 a1 s3 (a0.map ah.row) (a0.length:Int) (i1:Int)) (s:=(0:Int)) (out:=ret) (fun _ _=>True) (fun J i1 s3 h2 hih2=>?_) (fun s3 hih2=>?_) trivial
 ·simp only [step,SS]
  have bb_:=Bh2
  simp only [maxLen] at bb_
  have:=(H0).1
  refine bz.yes (by apply decide_eq_true;omega) ?_
  refine bz.yes aJ ?_
  refine bz.yes (aN h2) ?_
  refine cr (Z179.aj trivial) ?_
  refine bz.bif (fun c4=>?_) (fun c4=>?_)
  ·refine bz.inl trivial ?_
   rw [aG h2 Bh2]
   all_goals exact fz
  ·refine bz.inl trivial ?_
   rw [aG h2 Bh2]
   all_goals exact fz
 ·simp only [step,SS]
  have:=(H0).1
  refine dx (by apply decide_eq_false;omega) ?_
  refine ⟨0,?_⟩
  all_goals exact fz
def af:cy 222 aW:=L2 23 pid cj cg live step start mix aF bw (.cons Z179.af .nil) Tryz.func222
def fa (a0:List ah)(a1:aD):a0.length<=2^21->0<=md a0 a1/\md a0 a1<=(a0.length:Int):=fun hl=>by
 have key:∀(xs:List ah) (s:Int),0<=s->s+xs.length<=2^22->0<=dS (S:=Int) (β:=Int) (fun (y1:ah) (s3:Int)=>(cond (decide ((Z179.md (y1.bf) a1)<0)) (.inl (i64.wrap (s3+1))) (.inl s3))) (fun (s3:Int)=>(s3:Int)) xs s/\dS (S:=Int) (β:=Int) (fun (y1:ah) (s3:Int)=>(cond (decide ((Z179.md (y1.bf) a1)<0)) (.inl (i64.wrap (s3+1))) (.inl s3))) (fun (s3:Int)=>(s3:Int)) xs s<=s+xs.length:=by
  intro xs
  induction xs with
  | nil=>intro s h0 h1;exact ⟨h0,by simp [dS]⟩
  | cons x xs ih=>
   intro s h0 h1
   simp only [List.length_cons] at h1 ⊢
   unfold dS
   cases decide (Z179.md x.bf a1<0)
   ·have:=ih s h0 (by omega)
    simp only [bq]
    omega
   ·have:=ih (s+1) (by omega) (by omega)
    simp only [bg]
    rw [wi _ (by omega)]
    omega
 have:=key a0 0 (Int.le_refl _) (by omega)
 unfold md
 omega
def br (a0:List ah)(a1:aD):md a0 a1=Z92.md a0 a1:=by
 unfold md Z92.md
 first
 | (simp only [Z179.br];done)
 | (simp only [Z179.br];rfl)
 | rfl
end Z205
namespace Z206
def F (x0:aC)(x1:aD):aH:=(call (Z180.R x0) fun v1=>(cond (!v1) (ret (((⟨0,(⟨(⟨#[]⟩:aD),0,0,[]⟩:aU),(⟨(⟨#[]⟩:aD),0,0,[]⟩:aU),(⟨0,[]⟩:bR),(⟨0,[]⟩:bR)⟩:dK),false):dK×Bool)) (call (Z131.R x1) fun v2=>(cond (!v2) (ret (((⟨0,(⟨(⟨#[]⟩:aD),0,0,[]⟩:aU),(⟨(⟨#[]⟩:aD),0,0,[]⟩:aU),(⟨0,[]⟩:bR),(⟨0,[]⟩:bR)⟩:dK),false):dK×Bool)) (call (Z200.R (x0,x1)) fun v3=>(cond (decide (v3>=0)) (ret (((⟨0,(⟨(⟨#[]⟩:aD),0,0,[]⟩:aU),(⟨(⟨#[]⟩:aD),0,0,[]⟩:aU),(⟨0,[]⟩:bR),(⟨0,[]⟩:bR)⟩:dK),false):dK×Bool)) (call (Z205.R (x0,x1)) fun v4=>(cond (decide (v4>0)) (bZ (decide ((0:Int)<=(i64.wrap (v4 - 1)))) (bZ (decide ((i64.wrap (v4 - 1))<(x0.length:Int))) (call (Z202.R (aU.at x0 (toNat (i64.wrap (v4 - 1))))) fun v5=>(call (Z204.R (x0,v5.bf)) fun v6=>(cond (decide (v4<(x0.length:Int))) (m2 v4 (x0.length:Int) (call (Z202.R (aU.at x0 (toNat v4))) fun v7=>(call (Z204.R (x0,v7.bf)) fun v8=>ret (((⟨v4,v5,v7,v6.1,v8.1⟩:dK),true):dK×Bool)))) (ret (((⟨v4,v5,(⟨(⟨#[]⟩:aD),0,0,[]⟩:aU),v6.1,(⟨0,[]⟩:bR)⟩:dK),true):dK×Bool))))))) (cond (decide (v4<(x0.length:Int))) (m2 v4 (x0.length:Int) (call (Z202.R (aU.at x0 (toNat v4))) fun v9=>(call (Z204.R (x0,v9.bf)) fun v10=>ret (((⟨v4,(⟨(⟨#[]⟩:aD),0,0,[]⟩:aU),v9,(⟨0,[]⟩:bR),v10.1⟩:dK),true):dK×Bool)))) (ret (((⟨v4,(⟨(⟨#[]⟩:aD),0,0,[]⟩:aU),(⟨(⟨#[]⟩:aD),0,0,[]⟩:aU),(⟨0,[]⟩:bR),(⟨0,[]⟩:bR)⟩:dK),true):dK×Bool)))))))))))
def md (a0:List ah)(a1:aD):bT×Bool:=(cond (!(Z180.md a0)) ((⟨0,(⟨((⟨#[]⟩:aD):aD),0,0,[]⟩:ah),(⟨((⟨#[]⟩:aD):aD),0,0,[]⟩:ah),(⟨0,[]⟩:aL),(⟨0,[]⟩:aL)⟩:bT),false) (cond (!(Z131.md a1)) ((⟨0,(⟨((⟨#[]⟩:aD):aD),0,0,[]⟩:ah),(⟨((⟨#[]⟩:aD):aD),0,0,[]⟩:ah),(⟨0,[]⟩:aL),(⟨0,[]⟩:aL)⟩:bT),false) (cond (decide ((Z200.md a0 a1)>=0)) ((⟨0,(⟨((⟨#[]⟩:aD):aD),0,0,[]⟩:ah),(⟨((⟨#[]⟩:aD):aD),0,0,[]⟩:ah),(⟨0,[]⟩:aL),(⟨0,[]⟩:aL)⟩:bT),false) (cond (decide ((Z205.md a0 a1)>0)) (cond (decide ((Z205.md a0 a1)<(a0.length:Int))) ((⟨(Z205.md a0 a1),(a0.getD (toNat (i64.wrap ((Z205.md a0 a1) - 1))) ah.zero),(a0.getD (toNat (Z205.md a0 a1)) ah.zero),(Z204.md a0 ((a0.getD (toNat (i64.wrap ((Z205.md a0 a1) - 1))) ah.zero).bf)).1,(Z204.md a0 ((a0.getD (toNat (Z205.md a0 a1)) ah.zero).bf)).1⟩:bT),true) ((⟨(Z205.md a0 a1),(a0.getD (toNat (i64.wrap ((Z205.md a0 a1) - 1))) ah.zero),(⟨((⟨#[]⟩:aD):aD),0,0,[]⟩:ah),(Z204.md a0 ((a0.getD (toNat (i64.wrap ((Z205.md a0 a1) - 1))) ah.zero).bf)).1,(⟨0,[]⟩:aL)⟩:bT),true)) (cond (decide ((Z205.md a0 a1)<(a0.length:Int))) ((⟨(Z205.md a0 a1),(⟨((⟨#[]⟩:aD):aD),0,0,[]⟩:ah),(a0.getD (toNat (Z205.md a0 a1)) ah.zero),(⟨0,[]⟩:aL),(Z204.md a0 ((a0.getD (toNat (Z205.md a0 a1)) ah.zero).bf)).1⟩:bT),true) ((⟨(Z205.md a0 a1),(⟨((⟨#[]⟩:aD):aD),0,0,[]⟩:ah),(⟨((⟨#[]⟩:aD):aD),0,0,[]⟩:ah),(⟨0,[]⟩:aL),(⟨0,[]⟩:aL)⟩:bT),true))))))
def gd (a0:List ah)(a1:aD):Prop:=(bM (2^21) (fun y:ah=>ah.Sm (2^21) y) a0)/\(a1.size<=(2^21))
def R:=RR (p2 gd) (u2 md)
def aj {a0 a1}(h:gd a0 a1):R ((a0.map ah.row),a1)=some ((bT.r (md a0 a1).1),(md a0 a1).2):=aO (a:=(a0,a1)) h
def aW:=CN [pL 57,pS] (.iH [(true,f163),(false,[fB])]) RT.dec R
def bw (a0)(a1)(hg:gd a0 a1):F (a0.map ah.row) a1=ret ((bT.r (md a0 a1).1),(md a0 a1).2):=by
 obtain ⟨H0,H1⟩:=hg
 unfold F md
 try simp only [SS]
 refine ct (Z180.aj H0) ?_
 refine au (fun b:bT×Bool=>ret (((bT.r b.1),b.2):dK×Bool)) (fun c1=>?_) (fun c1=>?_)
 ·all_goals exact fz
 ·have dc1:=c1
  try simp only [DC] at dc1
  refine ct (Z131.aj (le_trans H1 (by decide))) ?_
  refine au (fun b:bT×Bool=>ret (((bT.r b.1),b.2):dK×Bool)) (fun c2=>?_) (fun c2=>?_)
  ·all_goals exact fz
  ·have dc2:=c2
   try simp only [DC] at dc2
   refine ct (Z200.aj H0) ?_
   have fv3_:=Z200.fa a0 a1
   refine au (fun b:bT×Bool=>ret (((bT.r b.1),b.2):dK×Bool)) (fun c3=>?_) (fun c3=>?_)
   ·all_goals exact fz
   ·have dc3:=c3
    try simp only [DC] at dc3
    refine ct (Z205.aj H0) ?_
    have fv4_:=Z205.fa a0 a1
    refine au (fun b:bT×Bool=>ret (((bT.r b.1),b.2):dK×Bool)) (fun c4=>?_) (fun c4=>?_)
    ·have dc4:=c4
     try simp only [DC] at dc4
     refine ak (have:=(H0).1;dt) ?_
     refine ak (have:=(H0).1;have:=(H0).1;dt) ?_
     refine ct (Z202.aj (bM.getD (z:=ah.zero) H0 (by have:=(H0).1;first | assumption | omega | (simp (disch:=omega) only [wi];omega) | (simp;omega)))) ?_
     try simp only [SS]
     refine ct (Z204.aj H0) ?_
     try simp only [SS]
     refine au (fun b:bT×Bool=>ret (((bT.r b.1),b.2):dK×Bool)) (fun c5=>?_) (fun c5=>?_)
     ·have dc5:=c5
      try simp only [DC] at dc5
      refine ak (have:=(H0).1;dt) ?_
      refine ak (have:=(H0).1;have:=(H0).1;dt) ?_
      refine ct (Z202.aj (bM.getD (z:=ah.zero) H0 (by have:=(H0).1;first | assumption | omega | (simp (disch:=omega) only [wi];omega) | (simp;omega)))) ?_
      try simp only [SS]
      refine ct (Z204.aj H0) ?_
      try simp only [SS]
      all_goals exact fz
     ·all_goals exact fz
    ·have dc4:=c4
     try simp only [DC] at dc4
     refine au (fun b:bT×Bool=>ret (((bT.r b.1),b.2):dK×Bool)) (fun c6=>?_) (fun c6=>?_)
     ·have dc6:=c6
      try simp only [DC] at dc6
      refine ak (have:=(H0).1;dt) ?_
      refine ak (have:=(H0).1;have:=(H0).1;dt) ?_
      refine ct (Z202.aj (bM.getD (z:=ah.zero) H0 (by have:=(H0).1;first | assumption | omega | (simp (disch:=omega) only [wi];omega) | (simp;omega)))) ?_
      try simp only [SS]
      refine ct (Z204.aj H0) ?_
      try simp only [SS]
      all_goals exact fz
     ·all_goals exact fz
def af:cy 178 aW:=W2 68 F mix aF bw (.cons Z180.af (.cons Z131.af (.cons Z200.af (.cons Z205.af (.cons Z202.af (.cons Z204.af .nil)))))) Tryz.func178
def gb {a0:List ah}{a1:aD}(hg:gd a0 a1):bT.Sm (2^21) ((md a0 a1).1):=by
 unfold gd at hg;unfold md
 have ez:ah.Sm (2^21) ⟨⟨#[]⟩,0,0,[]⟩:=⟨zero_le _,bM.nil⟩
 have pz:aL.Sm (2^21) ⟨0,[]⟩:=bM.nil
 have he:∀i,ah.Sm (2^21) (a0.getD i ah.zero):=fun i=>bM.vq hg.1 ez
 have hp:∀x,aL.Sm (2^21) (Z204.md a0 x).1:=fun x=>Z204.gb hg.1
 simp only [Bool.cond_eq_ite]
 repeat' split
 all_goals (refine ⟨?_,?_,?_,?_⟩<;>first | exact he _ | exact hp _ | exact ez | exact pz)
def br (a0:List ah)(a1:aD):md a0 a1=Z93.md a0 a1:=by
 unfold md Z93.md
 first
 | (simp only [Z180.br,Z131.br,Z200.br,Z205.br,Z204.br];done)
 | (simp only [Z180.br,Z131.br,Z200.br,Z205.br,Z204.br];rfl)
 | rfl
end Z206
namespace Z207
def F (x0:dJ)(x1:aD):aH:=(call (Z193.R x0) fun v1=>(cond (!v1) (ret ((⟨[],false,(⟨(⟨#[]⟩:aD),0,0,[]⟩:aU),(⟨0,[]⟩:bR),(⟨0,(⟨(⟨#[]⟩:aD),0,0,[]⟩:aU),(⟨(⟨#[]⟩:aD),0,0,[]⟩:aU),(⟨0,[]⟩:bR),(⟨0,[]⟩:bR)⟩:dK)⟩:aY):aY)) (call (Z131.R x1) fun v2=>(cond (!v2) (ret ((⟨[],false,(⟨(⟨#[]⟩:aD),0,0,[]⟩:aU),(⟨0,[]⟩:bR),(⟨0,(⟨(⟨#[]⟩:aD),0,0,[]⟩:aU),(⟨(⟨#[]⟩:aD),0,0,[]⟩:aU),(⟨0,[]⟩:bR),(⟨0,[]⟩:bR)⟩:dK)⟩:aY):aY)) (call (Z127.R x0.aR) fun v3=>(call (Z200.R (x0.bK,x1)) fun v4=>(cond (decide (v4>=0)) (m2 v4 (x0.bK.length:Int) (call (Z202.R (aU.at x0.bK (toNat v4))) fun v5=>(call (Z204.R (x0.bK,x1)) fun v6=>ret ((⟨v3,true,v5,v6.1,(⟨0,(⟨(⟨#[]⟩:aD),0,0,[]⟩:aU),(⟨(⟨#[]⟩:aD),0,0,[]⟩:aU),(⟨0,[]⟩:bR),(⟨0,[]⟩:bR)⟩:dK)⟩:aY):aY)))) (call (Z206.R (x0.bK,x1)) fun v7=>ret ((⟨v3,false,(⟨(⟨#[]⟩:aD),0,0,[]⟩:aU),(⟨0,[]⟩:bR),v7.1⟩:aY):aY)))))))))
def md (a0:aK)(a1:aD):av:=(cond (!(Z193.md a0)) (⟨[],false,(⟨((⟨#[]⟩:aD):aD),0,0,[]⟩:ah),(⟨0,[]⟩:aL),(⟨0,(⟨((⟨#[]⟩:aD):aD),0,0,[]⟩:ah),(⟨((⟨#[]⟩:aD):aD),0,0,[]⟩:ah),(⟨0,[]⟩:aL),(⟨0,[]⟩:aL)⟩:bT)⟩:av) (cond (!(Z131.md a1)) (⟨[],false,(⟨((⟨#[]⟩:aD):aD),0,0,[]⟩:ah),(⟨0,[]⟩:aL),(⟨0,(⟨((⟨#[]⟩:aD):aD),0,0,[]⟩:ah),(⟨((⟨#[]⟩:aD):aD),0,0,[]⟩:ah),(⟨0,[]⟩:aL),(⟨0,[]⟩:aL)⟩:bT)⟩:av) (cond (decide ((Z200.md a0.bK a1)>=0)) (⟨a0.aR,true,(a0.bK.getD (toNat (Z200.md a0.bK a1)) ah.zero),(Z204.md a0.bK a1).1,(⟨0,(⟨((⟨#[]⟩:aD):aD),0,0,[]⟩:ah),(⟨((⟨#[]⟩:aD):aD),0,0,[]⟩:ah),(⟨0,[]⟩:aL),(⟨0,[]⟩:aL)⟩:bT)⟩:av) (⟨a0.aR,false,(⟨((⟨#[]⟩:aD):aD),0,0,[]⟩:ah),(⟨0,[]⟩:aL),(Z206.md a0.bK a1).1⟩:av))))
def gd (a0:aK)(a1:aD):Prop:=(aK.Sm (2^21) a0)/\(a1.size<=(2^21))
def R:=RR (p2 gd) (u2 md)
def aj {a0 a1}(h:gd a0 a1):R ((aK.r a0),a1)=some (av.r (md a0 a1)):=aO (a:=(a0,a1)) h
def aW:=CN [.agg sJ,pS] (.agg f165) RT.dec R
def bw (a0)(a1)(hg:gd a0 a1):F (aK.r a0) a1=ret (av.r (md a0 a1)):=by
 obtain ⟨H0,H1⟩:=hg
 unfold F md
 try simp only [SS]
 refine ct (Z193.aj H0) ?_
 refine au (fun b:av=>ret ((av.r b):aY)) (fun c1=>?_) (fun c1=>?_)
 ·all_goals exact fz
 ·have dc1:=c1
  try simp only [DC] at dc1
  try have tc1:=Z193.tr (by simpa using c1)
  refine ct (Z131.aj (le_trans H1 (by decide))) ?_
  refine au (fun b:av=>ret ((av.r b):aY)) (fun c2=>?_) (fun c2=>?_)
  ·all_goals exact fz
  ·have dc2:=c2
   try simp only [DC] at dc2
   refine ct (Z127.aj H0.1) ?_
   try simp only [SS]
   refine ct (Z200.aj H0.2) ?_
   have fv4_:=Z200.fa a0.bK a1
   refine au (fun b:av=>ret ((av.r b):aY)) (fun c3=>?_) (fun c3=>?_)
   ·have dc3:=c3
    try simp only [DC] at dc3
    refine ak dt ?_
    refine ak (have:=(H0.2).1;dt) ?_
    refine ct (Z202.aj (bM.getD (z:=ah.zero) H0.2 (by first | assumption | omega | (simp (disch:=omega) only [wi];omega) | (simp;omega)))) ?_
    try simp only [SS]
    refine ct (Z204.aj H0.2) ?_
    try simp only [SS]
    all_goals exact fz
   ·refine ct (Z206.aj ⟨H0.2,H1⟩) ?_
    try simp only [SS]
    all_goals exact fz
def af:cy 139 aW:=W2 51 F mix aF bw (.cons Z193.af (.cons Z131.af (.cons Z127.af (.cons Z200.af (.cons Z202.af (.cons Z204.af (.cons Z206.af .nil))))))) Tryz.func139
def gb {a0:aK}{a1:aD}(hg:gd a0 a1):av.Sm (2^21) (md a0 a1):=by
 unfold gd at hg;unfold md
 obtain ⟨⟨hc,hl⟩,_⟩:=hg
 have ez:ah.Sm (2^21) ⟨⟨#[]⟩,0,0,[]⟩:=⟨zero_le _,bM.nil⟩
 have pz:aL.Sm (2^21) ⟨0,[]⟩:=bM.nil
 have gz:bT.Sm (2^21) ⟨0,⟨⟨#[]⟩,0,0,[]⟩,⟨⟨#[]⟩,0,0,[]⟩,⟨0,[]⟩,⟨0,[]⟩⟩:=⟨ez,ez,pz,pz⟩
 have he:∀i,ah.Sm (2^21) (a0.bK.getD i ah.zero):=fun i=>bM.vq hl ez
 have hp:∀x,aL.Sm (2^21) (Z204.md a0.bK x).1:=fun x=>Z204.gb hl
 have hga:bT.Sm (2^21) (Z206.md a0.bK a1).1:=Z206.gb ⟨hl,by assumption⟩
 simp only [Bool.cond_eq_ite]
 repeat' split
 all_goals (refine ⟨?_,?_,?_,?_⟩<;>first | exact hc | exact bM.nil | exact he _ | exact hp _ | exact hga | exact ez | exact pz | exact gz)
def br (a0:aK)(a1:aD):md a0 a1=Z94.md a0 a1:=by
 unfold md Z94.md
 first
 | (simp only [Z193.br,Z131.br,Z200.br,Z204.br,Z206.br];done)
 | (simp only [Z193.br,Z131.br,Z200.br,Z204.br,Z206.br];rfl)
 | rfl
end Z207
namespace Z208
def F (x0:cI)(x1:Int)(x2:aD):aH:=(call (Z197.R (x0,x1)) fun v1=>(cond (decide (v1<0)) (ret ((⟨[],false,(⟨(⟨#[]⟩:aD),0,0,[]⟩:aU),(⟨0,[]⟩:bR),(⟨0,(⟨(⟨#[]⟩:aD),0,0,[]⟩:aU),(⟨(⟨#[]⟩:aD),0,0,[]⟩:aU),(⟨0,[]⟩:bR),(⟨0,[]⟩:bR)⟩:dK)⟩:aY):aY)) (cond (x0.gF==4) (ret ((⟨[],false,(⟨(⟨#[]⟩:aD),0,0,[]⟩:aU),(⟨0,[]⟩:bR),(⟨0,(⟨(⟨#[]⟩:aD),0,0,[]⟩:aU),(⟨(⟨#[]⟩:aD),0,0,[]⟩:aU),(⟨0,[]⟩:bR),(⟨0,[]⟩:bR)⟩:dK)⟩:aY):aY)) (m2 v1 (x0.bG.length:Int) (call (Z207.R ((dJ.at x0.bG (toNat v1)),x2)) fun v2=>(cond (x0.gF==1) (ret ((⟨v2.aR,v2.cq,(⟨v2.aT.bf,v2.aT.bJ,(i64.wrap (v2.aT.bV+1)),v2.aT.bH⟩:aU),v2.ep,v2.fR⟩:aY):aY)) (cond (x0.gF==2) (bZ (decide ((0:Int)<=(cond (decide ((0:Int)<(i64.wrap ((v2.aR.length:Int) - 1)))) (i64.wrap ((v2.aR.length:Int) - 1)) 0))) (bZ (decide ((cond (decide ((0:Int)<(i64.wrap ((v2.aR.length:Int) - 1)))) (i64.wrap ((v2.aR.length:Int) - 1)) 0)<=(v2.aR.length:Int))) (ret ((⟨(List.take (toNat (cond (decide ((0:Int)<(i64.wrap ((v2.aR.length:Int) - 1)))) (i64.wrap ((v2.aR.length:Int) - 1)) 0)) v2.aR),v2.cq,v2.aT,v2.ep,v2.fR⟩:aY):aY)))) (cond (x0.gF==3) (ret ((⟨v2.aR,false,(⟨(⟨#[]⟩:aD),0,0,[]⟩:aU),(⟨0,[]⟩:bR),(⟨0,(⟨(⟨#[]⟩:aD),0,0,[]⟩:aU),(⟨(⟨#[]⟩:aD),0,0,[]⟩:aU),(⟨0,[]⟩:bR),(⟨0,[]⟩:bR)⟩:dK)⟩:aY):aY)) (ret (v2:aY))))))))))
def pats:List gj:=[.agg [.sl 155,aB],.rd (.int .i64),.rd (.str)]
def res:RP:=.agg [.fr 141,.rd (.bool),.rd (.str),.rd (.int .i64),.rd (.int .i64),.fr 9,.rd (.int .i64),.fr 3,.rd (.int .i64),.rd (.str),.rd (.int .i64),.rd (.int .i64),.fr 9,.rd (.str),.rd (.int .i64),.rd (.int .i64),.fr 9,.rd (.int .i64),.fr 3,.rd (.int .i64),.fr 3]
def md (a0:ay)(a1:Int)(a2:aD):av:=(cond (decide ((Z197.md a0 a1)<0)) (⟨[],false,(⟨((⟨#[]⟩:aD):aD),0,0,[]⟩:ah),(⟨0,[]⟩:aL),(⟨0,(⟨((⟨#[]⟩:aD):aD),0,0,[]⟩:ah),(⟨((⟨#[]⟩:aD):aD),0,0,[]⟩:ah),(⟨0,[]⟩:aL),(⟨0,[]⟩:aL)⟩:bT)⟩:av) (cond (a0.gF==4) (⟨[],false,(⟨((⟨#[]⟩:aD):aD),0,0,[]⟩:ah),(⟨0,[]⟩:aL),(⟨0,(⟨((⟨#[]⟩:aD):aD),0,0,[]⟩:ah),(⟨((⟨#[]⟩:aD):aD),0,0,[]⟩:ah),(⟨0,[]⟩:aL),(⟨0,[]⟩:aL)⟩:bT)⟩:av) (cond (a0.gF==1) (⟨(Z207.md (a0.bG.getD (toNat (Z197.md a0 a1)) aK.zero) a2).aR,(Z207.md (a0.bG.getD (toNat (Z197.md a0 a1)) aK.zero) a2).cq,(⟨(Z207.md (a0.bG.getD (toNat (Z197.md a0 a1)) aK.zero) a2).aT.bf,(Z207.md (a0.bG.getD (toNat (Z197.md a0 a1)) aK.zero) a2).aT.bJ,(i64.wrap ((Z207.md (a0.bG.getD (toNat (Z197.md a0 a1)) aK.zero) a2).aT.bV+1)),(Z207.md (a0.bG.getD (toNat (Z197.md a0 a1)) aK.zero) a2).aT.bH⟩:ah),(Z207.md (a0.bG.getD (toNat (Z197.md a0 a1)) aK.zero) a2).ep,(Z207.md (a0.bG.getD (toNat (Z197.md a0 a1)) aK.zero) a2).fR⟩:av) (cond (a0.gF==2) (⟨(List.take (toNat (cond (decide ((0:Int)<(i64.wrap (((Z207.md (a0.bG.getD (toNat (Z197.md a0 a1)) aK.zero) a2).aR.length:Int) - 1)))) (i64.wrap (((Z207.md (a0.bG.getD (toNat (Z197.md a0 a1)) aK.zero) a2).aR.length:Int) - 1)) 0)) (Z207.md (a0.bG.getD (toNat (Z197.md a0 a1)) aK.zero) a2).aR),(Z207.md (a0.bG.getD (toNat (Z197.md a0 a1)) aK.zero) a2).cq,(Z207.md (a0.bG.getD (toNat (Z197.md a0 a1)) aK.zero) a2).aT,(Z207.md (a0.bG.getD (toNat (Z197.md a0 a1)) aK.zero) a2).ep,(Z207.md (a0.bG.getD (toNat (Z197.md a0 a1)) aK.zero) a2).fR⟩:av) (cond (a0.gF==3) (⟨(Z207.md (a0.bG.getD (toNat (Z197.md a0 a1)) aK.zero) a2).aR,false,(⟨((⟨#[]⟩:aD):aD),0,0,[]⟩:ah),(⟨0,[]⟩:aL),(⟨0,(⟨((⟨#[]⟩:aD):aD),0,0,[]⟩:ah),(⟨((⟨#[]⟩:aD):aD),0,0,[]⟩:ah),(⟨0,[]⟩:aL),(⟨0,[]⟩:aL)⟩:bT)⟩:av) (Z207.md (a0.bG.getD (toNat (Z197.md a0 a1)) aK.zero) a2))))))
def gd (a0:ay)(a1:Int)(a2:aD):Prop:=(ay.Sm (2^21) a0)/\(a2.size<=(2^21))
def acc (ls:List L):cI×Int×aD:=((cI.dec ls),((aA 2 ls).headD .hole).toInt,((aA 3 ls).headD .hole).toStr)
def R:(cI×Int×aD)->Option aY:=RR (p3 gd) (u3 md)
def aj {a0 a1 a2}(h:gd a0 a1 a2):R ((ay.r a0),a1,a2)=some (av.r (md a0 a1 a2)):=aO (a:=(a0,a1,a2)) h
def aW:fT:=CN pats res acc R
def bw (a0:ay)(a1:Int)(a2:aD)(hg:gd a0 a1 a2):F (ay.r a0) a1 a2=ret ((av.r (md a0 a1 a2)):aY):=by
 obtain ⟨H0,H2⟩:=hg
 unfold F md
 try simp only [SS]
 refine ct (Z197.aj H0) ?_
 have fv1_:=Z197.fa a0 a1
 refine au (fun b:av=>ret ((av.r b):aY)) (fun c1=>?_) (fun c1=>?_)
 ·all_goals exact fz
 ·have dc1:=c1
  try simp only [DC] at dc1
  refine au (fun b:av=>ret ((av.r b):aY)) (fun c2=>?_) (fun c2=>?_)
  ·all_goals exact fz
  ·have dc2:=c2
   try simp only [DC] at dc2
   refine ak (have:=(H0).1;dt) ?_
   refine ak (have:=(H0).1;have:=(H0).1;dt) ?_
   refine ct (Z207.aj ⟨(bM.getD (z:=aK.zero) H0 (by have:=(H0).1;first | assumption | omega | (simp (disch:=omega) only [wi];omega) | (simp;omega))),H2⟩) ?_
   try simp only [SS]
   refine au (fun b:av=>ret ((av.r b):aY)) (fun c3=>?_) (fun c3=>?_)
   ·all_goals exact fz
   ·have dc3:=c3
    try simp only [DC] at dc3
    refine au (fun b:av=>ret ((av.r b):aY)) (fun c4=>?_) (fun c4=>?_)
    ·have dc4:=c4
     try simp only [DC] at dc4
     refine ak (have:=((Z207.gb (a0:=a0.bG.getD (toNat (Z197.md a0 a1)) aK.zero) (a1:=a2) ⟨(bM.getD (z:=aK.zero) H0 (by have:=(H0).1;first | assumption | omega | (simp (disch:=omega) only [wi];omega) | (simp;omega))),H2⟩).1).1;have:=(H0).1;dt) ?_
     refine ak (have:=((Z207.gb (a0:=a0.bG.getD (toNat (Z197.md a0 a1)) aK.zero) (a1:=a2) ⟨(bM.getD (z:=aK.zero) H0 (by have:=(H0).1;first | assumption | omega | (simp (disch:=omega) only [wi];omega) | (simp;omega))),H2⟩).1).1;have:=(H0).1;dt) ?_
     all_goals exact fz
    ·refine au (fun b:av=>ret ((av.r b):aY)) (fun c5=>?_) (fun c5=>?_)
     ·all_goals exact fz
     ·all_goals exact fz
def af:cy 110 aW:=VT (live:=fun _=>[]) (nt:=54) (run:=fun _ x=>F x.1 x.2.1 x.2.2) mix aF (.cons Z197.af (.cons Z207.af .nil)) .nil Tryz.func110 (by kernel_rfl) (fun _ _=>by kernel_rfl) (fun _ a _ _ hg=>⟨0,bw a.1 a.2.1 a.2.2 hg⟩)
def br (a0:ay)(a1:Int)(a2:aD):md a0 a1 a2=Z95.md a0 a1 a2:=by
 unfold md Z95.md
 simp only [Z197.br,Z207.br]
 generalize Z94.md (a0.bG.getD (toNat (Z87.md a0 a1)) aK.zero) a2=A
 have mx:∀n:Int,toNat (cond (decide ((0:Int)<n)) n 0)=toNat n:=by
  intro n
  by_cases h:(0:Int)<n
  ·rw [decide_eq_true h];rfl
  ·rw [decide_eq_false h];simp only [bq];omega
 have e:∀k:Nat,(⟨List.take k A.aR,A.cq,A.aT,A.ep,A.fR⟩:av)=bif decide ((A.aR.length:Int)>0) then (⟨List.take k A.aR,A.cq,A.aT,A.ep,A.fR⟩:av) else A:=by
  intro k
  obtain ⟨ch,f,e,p,g⟩:=A
  cases ch with
  | nil=>simp
  | cons x xs=>simp only [List.length_cons];rw [decide_eq_true (by omega)];rfl
 simp only [mx,<-e]
end Z208
namespace Z209
inductive Pt where
 | p0 (a:Int) (b:aD) (c:aC) (d e:Int) (f:aC)
def pid:Pt->Nat
 | .p0 ..=>3
def cj:Pt->List V
 | .p0 a b c d e f=>[.int .i64 a,.str b,.own 0,.sl none 88 c,.int .i64 d,.int .i64 e]
def cg:Pt->List aV
 | .p0 a b c d e f=>[.row 165 f]
def step (J:Pt->aH):Pt->aH
 | .p0 a b c d e f=>(cond (decide (e<d)) (m2 e (c.length:Int) (call (Z208.R ((cI.at c (toNat e)),a,b)) fun v1=>(bZ (eP (((f.length:Int)+1)*304)) (J (.p0 a b c d (i64.wrap (e+1)) (f++[(aY.enc v1)])))))) (ret (f:aC)))
def start (J:Pt->aH)(x0:aC)(x1:Int)(x2:aD):aH:=(bZ (decide ((0:Int)<=(cond (decide ((x0.length:Int)<4)) (x0.length:Int) 4))) (bZ (decide ((cond (decide ((x0.length:Int)<4)) (x0.length:Int) 4)<=(x0.length:Int))) (J (.p0 x1 x2 (List.take (toNat ((cond (decide ((x0.length:Int)<4)) (x0.length:Int) 4) - 0)) (List.drop 0 x0)) ((List.take (toNat ((cond (decide ((x0.length:Int)<4)) (x0.length:Int) 4) - 0)) (List.drop 0 x0)).length:Int) 0 []))))
def live:Nat->Live:=fun i=>match i with | 3=>[(1,none),(2,none),(7,some 165),(15,none),(16,none),(17,none)] | _=>[]
def md (a0:List ay)(a1:Int)(a2:aD):List av:=((List.take (toNat ((cond (decide ((a0.length:Int)<4)) (a0.length:Int) 4) - 0)) (List.drop 0 a0)).map (fun (y1:ay)=>(Z208.md y1 a1 a2)))
def gd (a0:List ay)(a1:Int)(a2:aD):Prop:=(bM (2^21) (fun y:ay=>ay.Sm (2^21) y) a0)/\(a2.size<=(2^21))
def R:=RR (p3 gd) (u3 md)
def aj {a0 a1 a2}(h:gd a0 a1 a2):R ((a0.map ay.row),a1,a2)=some ((md a0 a1 a2).map av.row):=aO (a:=(a0,a1,a2)) h
def aW:=CN [pL 88,pI,pS] (oL 165) RT.dec R
def bw (a0)(a1)(a2)(hg:gd a0 a1 a2):∃n,start (iter step n) (a0.map ay.row) a1 a2=ret ((md a0 a1 a2).map av.row):=by
 obtain ⟨H0,H2⟩:=hg
 unfold start md
 try simp only [SS]
 refine dH (have:=(H0).1;dt) ?_
 refine dH (have:=(H0).1;dt) ?_
 have Bh2:(List.take (toNat ((cond (decide ((a0.length:Int)<4)) (a0.length:Int) 4) - 0)) (List.drop 0 a0)).length<=maxLen:=(by
   have:=(H0).1
   have:=((bM.take (k:=(toNat ((cond (decide ((a0.length:Int)<4)) (a0.length:Int) 4) - 0))) (bM.drop (k:=0) H0))).1
   try simp only [maxLen] at *
   omega)
 refine ex_eq (out:=(fun b:List av=>ret ((b.map av.row):aC))) (mS (g:=fun (y1:ay)=>(Z208.md y1 a1 a2)) (z:=ay.zero) (t:=fun (s3:List av)=>s3)) ?_
 refine dM (p:=Pt.p0 a1 a2 ((List.take (toNat ((cond (decide ((a0.length:Int)<4)) (a0.length:Int) 4) - 0)) (List.drop 0 a0)).map ay.row) ((List.take (toNat ((cond (decide ((a0.length:Int)<4)) (a0.length:Int) 4) - 0)) (List.drop 0 a0)).length:Int) 0 ([].map av.row)) fz ?_
 refine cm (pt:=fun (i1:Nat) (s3:List av)=>Pt.p0 a1 a2 ((List.take (toNat ((cond (decide ((a0.length:Int)<4)) (a0.length:Int) 4) - 0)) (List.drop 0 a0)).map ay.row) ((List.take (toNat ((cond (decide ((a0.length:Int)<4)) (a0.length:Int) 4) - 0)) (List.drop 0 a0)).length:Int) (i1:Int) (s3.map av.row)) (s:=([]:List av)) (out:=(fun b:List av=>ret ((b.map av.row):aC))) (fun (i1:Nat) (s3:List av)=>s3.length<=([]:List Int).length+1*i1) (fun J i1 s3 h2 hih2=>?_) (fun s3 hih2=>?_) (by simp)
 ·simp only [step,SS]
  have gr_:=hih2
  try simp only [LN] at gr_
  have bb_:=Bh2
  simp only [maxLen] at bb_
  have:=(H0).1
  have:=((bM.take (k:=(toNat ((cond (decide ((a0.length:Int)<4)) (a0.length:Int) 4) - 0))) (bM.drop (k:=0) H0))).1
  refine bz.yes (by apply decide_eq_true;omega) ?_
  refine bz.yes aJ ?_
  refine bz.yes (aN h2) ?_
  refine cr (Z208.aj ⟨(bM.getD (z:=ay.zero) (bM.take (k:=(toNat ((cond (decide ((a0.length:Int)<4)) (a0.length:Int) 4) - 0))) (bM.drop (k:=0) H0)) h2),H2⟩) ?_
  try simp only [SS]
  refine bz.yes lm ?_
  refine bz.inl (by
    have g_:=hih2
    try simp only [LN] at g_ ⊢
    first | omega | (simp;done) | (simp;omega)) ?_
  rw [aG h2 Bh2]
  all_goals exact fz
 ·simp only [step,SS]
  have gr_:=hih2
  try simp only [LN] at gr_
  have:=(H0).1
  have:=((bM.take (k:=(toNat ((cond (decide ((a0.length:Int)<4)) (a0.length:Int) 4) - 0))) (bM.drop (k:=0) H0))).1
  refine dx (by apply decide_eq_false;omega) ?_
  refine ⟨0,?_⟩
  all_goals exact fz
def af:cy 71 aW:=L3 30 pid cj cg live step start mix aF bw (.cons Z208.af .nil) Tryz.func71
def br (a0:List ay)(a1:Int)(a2:aD):md a0 a1 a2=Z96.md a0 a1 a2:=by
 rw [Z96.pV]
 unfold md
 simp only [Z208.br,Int.sub_zero,List.drop_zero]
 congr 1
 by_cases h:(a0.length:Int)<4
 ·rw [decide_eq_true h,bg,List.take_of_length_le (by omega),List.take_of_length_le (by omega)]
 ·rw [decide_eq_false h];rfl
def gb {a0:List ay}{a1:Int}{a2:aD}(hg:gd a0 a1 a2):bM (2^21) (fun y:av=>av.Sm (2^21) y) (md a0 a1 a2):=by
 rw [br]
 exact Z96.gb hg
end Z209
namespace Z210
def F (x0:aC):aH:=(call (Z174.R x0) fun v1=>(cond (!v1) (ret (((⟨0,0,0,0,0,0,0,0,(⟨[],0⟩:bB),(⟨[],0⟩:bB),0,(⟨[],0⟩:bB),false⟩:bX),false):bX×Bool)) (call (Z175.R x0) fun v2=>(call (Z124.R v2) fun v3=>ret ((v3,true):bX×Bool)))))
def md (a0:List aa):aE×Bool:=(cond (!(Z174.md a0)) ((⟨0,0,0,0,0,0,0,0,(⟨[],0⟩:aM),(⟨[],0⟩:aM),0,(⟨[],0⟩:aM),false⟩:aE),false) ((Z175.md a0),true))
def gd (a0:List aa):Prop:=(bM (2^21) (fun y:aa=>aa.Sm (2^21) y) a0)
def R:=RR gd md
def aj {a0}(h:gd a0):R (a0.map aa.row)=some ((aE.r (md a0).1),(md a0).2):=aO (a:=a0) h
def aW:=CN [pL 141] (.iH [(true,f138),(false,[fB])]) RT.dec R
def bw (a0)(hg:gd a0):F (a0.map aa.row)=ret ((aE.r (md a0).1),(md a0).2):=by
 unfold gd at hg
 have H0:=hg
 unfold F md
 try simp only [SS]
 refine ct (Z174.aj H0) ?_
 refine au (fun b:aE×Bool=>ret (((aE.r b.1),b.2):bX×Bool)) (fun c1=>?_) (fun c1=>?_)
 ·all_goals exact fz
 ·have dc1:=c1
  try simp only [DC] at dc1
  try have tc1:=Z174.tr (by simpa using c1)
  refine ct (Z175.aj ⟨H0,(by
    have:=(H0).1
    first | assumption | exact om)⟩) ?_
  try simp only [SS]
  refine ct (Z124.aj (Z175.gb (a0:=a0) ⟨H0,(by
    have:=(H0).1
    first | assumption | exact om)⟩)) ?_
  try simp only [SS]
  all_goals exact fz
def af:cy 205 aW:=W1 11 F mix aF bw (.cons Z174.af (.cons Z175.af (.cons Z124.af .nil))) Tryz.func205
def br (a0:List aa):md a0=Z70.md a0:=by
 unfold md Z70.md
 first
 | (simp only [Z174.br];done)
 | (simp only [Z174.br];rfl)
 | rfl
end Z210
namespace Z211
def F (x0:bX)(x1:Int):aH:=(call (Z130.R (x1,x0.cA,x0.cu)) fun v1=>ret (v1:Bool))
def md (a0:aE)(a1:Int):Bool:=((Z130.md a1 a0.cA a0.cu):Bool)
def gd (a0:aE)(a1:Int):Prop:=True
def R:=RR (p2 gd) (u2 md)
def aj {a0 a1}(h:gd a0 a1):R ((aE.r a0),a1)=some (md a0 a1):=aO (a:=(a0,a1)) h
def aW:=CN [.agg fU,pI] oB RT.dec R
def bw (a0)(a1)(hg:gd a0 a1):F (aE.r a0) a1=ret (md a0 a1):=by
 unfold F md
 try simp only [SS]
 refine ct (Z130.aj trivial) ?_
 all_goals exact fz
def af:cy 206 aW:=W2 11 F mix aF bw (.cons Z130.af .nil) Tryz.func206
def br (a0:aE)(a1:Int):md a0 a1=Z103.md a0 a1:=by
 unfold md Z103.md
 first
 | (simp only [Z130.br];done)
 | (simp only [Z130.br];rfl)
 | rfl
end Z211
namespace Z212
inductive Pt where
 | p0 (a b c:Int) (d:aC)
def pid:Pt->Nat
 | .p0 ..=>3
def cj:Pt->List V
 | .p0 a b c d=>[.int .i64 a,.int .i64 b,.int .i64 c,.sl none 3 d]
def cg:Pt->List aV
 | .p0 a b c d=>[]
def step (J:Pt->aH):Pt->aH
 | .p0 a b c d=>(cond (decide (c>1)) (cond (decide ((mA .i64 b 1)>=c)) (J (.p0 a (i64.wrap (Int.tdiv b 2)) (i64.wrap (Int.tdiv (i64.wrap (c+1)) 2)) d)) (cond ((d.length:Int)==0) (ret ((0,false):Int×Bool)) (cond ((Int.tmod b 2)==0) (bZ (decide ((0:Int)<(d.length:Int))) (call (Z187.R (a,(jh d 0))) fun v1=>(bZ (decide ((1:Int)<=(d.length:Int))) (bZ (decide ((d.length:Int)<=(d.length:Int))) (J (.p0 v1 (i64.wrap (Int.tdiv b 2)) (i64.wrap (Int.tdiv (i64.wrap (c+1)) 2)) (List.take (toNat ((d.length:Int) - 1)) (List.drop 1 d)))))))) (bZ (decide ((0:Int)<(d.length:Int))) (call (Z187.R ((jh d 0),a)) fun v2=>(bZ (decide ((1:Int)<=(d.length:Int))) (bZ (decide ((d.length:Int)<=(d.length:Int))) (J (.p0 v2 (i64.wrap (Int.tdiv b 2)) (i64.wrap (Int.tdiv (i64.wrap (c+1)) 2)) (List.take (toNat ((d.length:Int) - 1)) (List.drop 1 d))))))))))) (cond (decide ((d.length:Int)>0)) (ret ((0,false):Int×Bool)) (ret ((a,true):Int×Bool))))
def start (J:Pt->aH)(x0 x1 x2:Int)(x3:aC):aH:=(cond (decide (x2<1)) (ret ((0,false):Int×Bool)) (cond (decide (x2>12)) (ret ((0,false):Int×Bool)) (call (Z130.R (x1,0,(i64.wrap (x2 - 1)))) fun v1=>(cond (!v1) (ret ((0,false):Int×Bool)) (J (.p0 x0 x1 x2 x3))))))
def live:Nat->Live:=fun i=>match i with | 3=>[(0,none),(1,none),(2,none),(3,none)] | _=>[]
def md (a0 a1 a2:Int)(a3:List Int):Int×Bool:=Z104.md a0 a1 a2 a3
def gd (a0 a1 a2:Int)(a3:List Int):Prop:=bM (2^38) (fun y:Int=>True) a3
def R:=RR (p4 gd) (u4 md)
def aj {a0 a1 a2 a3}(h:gd a0 a1 a2 a3):R (a0,a1,a2,(a3.map aZ))=some ((md a0 a1 a2 a3).1,(md a0 a1 a2 a3).2):=aO (a:=(a0,a1,a2,a3)) h
def aW:=CN [pI,pI,pI,pL 3] (.iH [(false,[fI]),(false,[fB])]) RT.dec R
def bw (a0)(a1)(a2)(a3)(hg:gd a0 a1 a2 a3):∃n,start (iter step n) a0 a1 a2 (a3.map aZ)=ret ((md a0 a1 a2 a3).1,(md a0 a1 a2 a3).2):=by
 have tm:∀b:Int,0<=b->b<=11->Int.tmod b 2=b % 2:=fun b h1 h2=>Int.tmod_eq_emod_of_nonneg h1
 have td:∀b:Int,0<=b->b<=13->i64.wrap (Int.tdiv b 2)=b / 2:=fun b h1 h2=>by
  rw [Int.tdiv_eq_ediv_of_nonneg h1,Go.IntWalk.i64_in _ (by omega)]
 have t1:∀b:Int,0<=b->b<=13->i64.wrap (b+1)=b+1:=fun b h1 h2=>Go.IntWalk.i64_in _ (by omega)
 have xr:∀b:Int,0<=b->b<=11->mA .i64 b 1=if b % 2=0 then b+1 else b - 1:=by
  intro b h1 h2
  have :b=0∨b=1∨b=2∨b=3∨b=4∨b=5∨b=6∨b=7∨b=8∨b=9∨b=10∨b=11:=by omega
  rcases this with h | h | h | h | h | h | h | h | h | h | h | h<;>subst h<;>decide
 have key:∀(k:Nat) (leaf i n:Int) (p:List Int),p.length<=2^38->0<=i->i<n->n<=12->n<=2^k->∃m,iter step m (Pt.p0 leaf i n (p.map aZ))=ret ((Z104.tf (k+1) leaf i n p).1,(Z104.tf (k+1) leaf i n p).2):=by
  have fin:∀(leaf:Int) (p:List Int) (J:Pt->aH),step J (Pt.p0 leaf 0 1 (p.map aZ))=ret ((if p.isEmpty then (leaf,true) else (0,false)).1,(if p.isEmpty then (leaf,true) else (0,false)).2):=by
   intro leaf p J
   simp only [step,List.length_map]
   refine cL (by decide) ?_
   cases p with
   | nil=>rfl
   | cons x xs=>exact ak (decide_eq_true (by simp only [List.length_cons];omega)) rfl
  intro k
  induction k with
  | zero=>
   intro leaf i n p hp h1 h2 h3 h4
   have hn:n=1:=by omega
   subst hn
   have hi:i=0:=by omega
   subst hi
   exact ⟨1,(fin leaf p _).trans rfl⟩
  | succ k ih=>
   intro leaf i n p hp h1 h2 h3 h4
   have hk:n<=2*2^k:=by rw [Int.pow_succ] at h4;omega
   unfold Z104.tf
   by_cases hn:n>1
   ·have e1:=tm i h1 (by omega)
    have e2:=td i h1 (by omega)
    have e3:=t1 n (by omega) (by omega)
    have e4:=td (n+1) (by omega) (by omega)
    have e6:=xr i h1 (by omega)
    rw [if_pos hn]
    by_cases hc:i % 2=1∨i+1<n
    ·have hx:decide (mA .i64 i 1>=n)=false:=by
      rw [e6]
      split
      ·exact decide_eq_false (by omega)
      ·exact decide_eq_false (by omega)
     rw [if_pos hc]
     cases p with
     | nil=>
      refine ⟨1,?_⟩
      show step (iter step 0) (Pt.p0 _ _ _ _)=_
      simp only [step,hx]
      exact ak (decide_eq_true (by omega)) (cL rfl (ak rfl rfl))
     | cons x xs=>
      simp only [List.length_cons] at hp
      obtain ⟨m,hm⟩:=ih (if i % 2=1 then Z79.md x leaf else Z79.md leaf x) (i / 2) ((n+1) / 2) xs (by omega) (by omega) (by omega) (by omega) (by omega)
      refine ⟨m+1,?_⟩
      show step (iter step m) (Pt.p0 _ _ _ _)=_
      have ht:List.take (toNat ((xs.length:Int)+1 - 1)) (List.drop 1 ((x::xs).map aZ))=xs.map aZ:=by
       simp only [List.map_cons,List.drop_succ_cons,List.drop_zero]
       exact List.take_of_length_le (by simp)
      have hl:(((x::xs).map aZ).length:Int)=(xs.length:Int)+1:=by simp
      simp only [step,hx,e1,e2,e3,e4,ht,hl]
      refine ak (decide_eq_true (by omega)) (cL rfl (cL (beq_eq_false_iff_ne.2 (by omega)) ?_))
      have hat:jh ((x::xs).map aZ) 0=x:=rfl
      rw [hat]
      by_cases hp:i % 2=1
      ·rw [if_pos hp] at hm
       rw [hp]
       refine cL rfl (ak (decide_eq_true (by omega)) (bp (Z79.md x leaf) (by have:=Z187.aj (a0:=x) (a1:=leaf) trivial;rw [Z187.br] at this;exact this) (ak (decide_eq_true (by omega)) (ak (decide_eq_true (by omega)) ?_))))
       rw [if_pos rfl]
       exact hm
      ·rw [if_neg hp] at hm
       have h0:i % 2=0:=by omega
       rw [h0]
       refine ak rfl (ak (decide_eq_true (by omega)) (bp (Z79.md leaf x) (by have:=Z187.aj (a0:=leaf) (a1:=x) trivial;rw [Z187.br] at this;exact this) (ak (decide_eq_true (by omega)) (ak (decide_eq_true (by omega)) ?_))))
       rw [if_neg (by omega)]
       exact hm
    ·have hx:decide (mA .i64 i 1>=n)=true:=by
      rw [e6,if_pos (by omega)]
      exact decide_eq_true (by omega)
     rw [if_neg hc]
     obtain ⟨m,hm⟩:=ih leaf (i / 2) ((n+1) / 2) p hp (by omega) (by omega) (by omega) (by omega)
     refine ⟨m+1,?_⟩
     show step (iter step m) (Pt.p0 _ _ _ _)=_
     simp only [step,hx,e2,e3,e4]
     exact ak (decide_eq_true (by omega)) (ak rfl hm)
   ·have hn1:n=1:=by omega
    subst hn1
    have hi:i=0:=by omega
    subst hi
    refine ⟨1,(fin leaf p _).trans ?_⟩
    rw [if_neg (show ¬(1:Int)>1 by omega)]
 unfold start md Z104.md
 obtain ⟨H3,_⟩:=hg
 by_cases c1:a2<1
 ·refine ⟨0,ak (decide_eq_true c1) ?_⟩
  rw [show Z41.md a2 1 12=false from by simp [Z41.md];omega];rfl
 refine dx (decide_eq_false c1) ?_
 by_cases c2:a2>12
 ·refine ⟨0,ak (decide_eq_true c2) ?_⟩
  rw [show Z41.md a2 1 12=false from by simp [Z41.md];omega];rfl
 refine dx (decide_eq_false c2) ?_
 rw [show Z41.md a2 1 12=true from by simp [Z41.md];omega]
 simp only [Bool.not_true,bq]
 refine eU (Z41.md a1 0 (i64.wrap (a2 - 1))) (by have:=Z130.aj (a0:=a1) (a1:=0) (a2:=i64.wrap (a2 - 1)) trivial;rw [Z130.br] at this;exact this) ?_
 cases hd:Z41.md a1 0 (i64.wrap (a2 - 1))
 ·exact ⟨0,rfl⟩
 rw [Go.IntWalk.i64_in _ (by omega)] at hd
 have i2:0<=a1/\a1<=a2 - 1:=by simpa [Z41.md] using hd
 exact key 4 a0 a1 a2 a3 H3 (by omega) (by omega) (by omega) (by omega)
def af:cy 264 aW:=L4 56 pid cj cg live step start mix aF bw (.cons Z130.af (.cons Z187.af .nil)) Tryz.func264
def br (a0 a1 a2:Int)(a3:List Int):md a0 a1 a2 a3=Z104.md a0 a1 a2 a3:=by
 unfold md Z104.md
 first
 | (simp only [Z130.br,Z187.br];done)
 | (simp only [Z130.br,Z187.br];rfl)
 | rfl
end Z212
namespace Z213
def F (x0 x1:Int)(x2:aU)(x3:bR):aH:=(call (Z184.R x2) fun v1=>(call (Z212.R (v1,x3.eo,x1,x3.bH)) fun v2=>(cond v2.2 (call (Z176.R x2) fun v3=>(cond v3 (call (Z190.R (x1,v2.1)) fun v4=>ret ((v4==x0):Bool)) bh)) bh)))
def md (a0 a1:Int)(a2:ah)(a3:aL):Bool:=(cond ((Z212.md (Z184.md a2) a3.eo a1 a3.bH).2) (cond (Z176.md a2) (((Z190.md a1 ((Z212.md (Z184.md a2) a3.eo a1 a3.bH).1))==a0):Bool) (false:Bool)) (false:Bool))
def gd (a0 a1:Int)(a2:ah)(a3:aL):Prop:=(ah.Sm (2^21) a2)/\(aL.Sm (2^21) a3)
def R:=RR (p4 gd) (u4 md)
def aj {a0 a1 a2 a3}(h:gd a0 a1 a2 a3):R (a0,a1,(ah.r a2),(aL.r a3))=some (md a0 a1 a2 a3):=aO (a:=(a0,a1,a2,a3)) h
def aW:=CN [pI,pI,.agg qV,.agg rm] oB RT.dec R
def bw (a0)(a1)(a2)(a3)(hg:gd a0 a1 a2 a3):F a0 a1 (ah.r a2) (aL.r a3)=ret (md a0 a1 a2 a3):=by
 obtain ⟨H2,H3⟩:=hg
 unfold F md
 try simp only [SS]
 refine ct (Z184.aj H2) ?_
 refine ct (Z212.aj (H3.mono (by decide) (fun x hx=>trivial))) ?_
 refine au ret (fun c1=>?_) (fun _=>rfl)
 refine ct (Z176.aj H2) ?_
 refine au ret (fun c2=>?_) (fun _=>rfl)
 refine ct (Z190.aj trivial) ?_
 all_goals exact fz
def af:cy 237 aW:=W4 34 F mix aF bw (.cons Z184.af (.cons Z212.af (.cons Z176.af (.cons Z190.af .nil)))) Tryz.func237
def br (a0 a1:Int)(a2:ah)(a3:aL):md a0 a1 a2 a3=Z105.md a0 a1 a2 a3:=by
 unfold md Z105.md
 simp only [Z212.br,Z184.br,Z176.br,Z190.br]
 cases Z71.md a2<;>cases (Z104.md (Z77.md a2) a3.eo a1 a3.bH).2<;>rfl
end Z213
namespace Z214
inductive Pt where
 | p0 (a b:aC) (c d:Int)
def pid:Pt->Nat
 | .p0 ..=>4
def cj:Pt->List V
 | .p0 a b c d=>[.sl none 9 a,.sl none 9 b,.int .i64 c,.int .i64 d]
def cg:Pt->List aV
 | .p0 a b c d=>[]
def step (J:Pt->aH):Pt->aH
 | .p0 a b c d=>(cond (decide (d<c)) (m2 d (a.length:Int) (m2 d (b.length:Int) (cond (!((pR a (toNat d))==(pR b (toNat d)))) bh (J (.p0 a b c (i64.wrap (d+1))))))) eI)
def start (J:Pt->aH)(x0 x1:aC):aH:=(cond ((x0.length:Int) != (x1.length:Int)) bh (J (.p0 x0 x1 (x0.length:Int) 0)))
def live:Nat->Live:=fun i=>match i with | 4=>[(0,none),(1,none),(12,none),(13,none)] | _=>[]
def md (a0 a1:List aD):Bool:=(bif ((a0.length:Int) != (a1.length:Int)) then (false:Bool) else (ec (S:=Unit) (β:=Bool) (fun (i2:Nat) (s4:Unit)=>(cond (!((a0.getD i2 ⟨#[]⟩)==(a1.getD i2 ⟨#[]⟩))) (.inr (false:Bool)) (.inl ()))) (fun (s4:Unit)=>(true:Bool)) a0.length 0 ()))
def gd (a0 a1:List aD):Prop:=(bM (2^21) (fun y:aD=>y.size<=(2^21)) a0)/\(bM (2^21) (fun y:aD=>y.size<=(2^21)) a1)
def R:=RR (p2 gd) (u2 md)
def aj {a0 a1}(h:gd a0 a1):R ((a0.map cC),(a1.map cC))=some (md a0 a1):=aO (a:=(a0,a1)) h
def aW:=CN [pL 9,pL 9] oB RT.dec R
def bw (a0)(a1)(hg:gd a0 a1):∃n,start (iter step n) (a0.map cC) (a1.map cC)=ret (md a0 a1):=by
 obtain ⟨H0,H1⟩:=hg
 unfold start md
 try simp only [SS]
 refine gP ret (fun _=>⟨0,rfl⟩) (fun c1=>?_)
 have dc1:=c1
 try simp only [DC] at dc1
 have Bh3:a0.length<=maxLen:=(by
   have:=(H0).1
   try simp only [maxLen] at *
   omega)
 refine dM (p:=Pt.p0 (a0.map cC) (a1.map cC) (a0.length:Int) 0) fz ?_
 refine cm (pt:=fun (i2:Nat) (s4:Unit)=>Pt.p0 (a0.map cC) (a1.map cC) (a0.length:Int) (i2:Int)) (s:=(():Unit)) (out:=ret) (fun _ _=>True) (fun J i2 s4 h3 hih3=>?_) (fun s4 hih3=>?_) trivial
 ·simp only [step,SS]
  have bb_:=Bh3
  simp only [maxLen] at bb_
  have:=(H0).1
  refine bz.yes (by apply decide_eq_true;omega) ?_
  refine bz.yes aJ ?_
  refine bz.yes (aN h3) ?_
  refine bz.yes aJ ?_
  refine bz.yes (have:=(H1).1;dt) ?_
  refine bz.bif (fun _=>bz.inr rfl) (fun c5=>?_)
  refine bz.inl trivial ?_
  rw [aG h3 Bh3]
  all_goals exact fz
 ·simp only [step,SS]
  have:=(H0).1
  refine dx (by apply decide_eq_false;omega) ?_
  refine ⟨0,?_⟩
  all_goals exact fz
def af:cy 288 aW:=L2 26 pid cj cg live step start mix aF bw .nil Tryz.func288
def md_eq (a0 a1:List aD):md a0 a1=dV a0 a1:=by
 unfold md
 refine jZ (⟨#[]⟩) (fun i s h h2=>?_) (fun s=>rfl)
 simp only [bne,ff,bool_beq,eM]
 cases dV _ _<;>rfl
end Z214
namespace Z215
def F (x0 x1:aU):aH:=(cond (x0.bf==x1.bf) (cond (x0.bJ==x1.bJ) (cond (x0.bV==x1.bV) (call (Z214.R (x0.bH,x1.bH)) fun v1=>ret (v1:Bool)) bh) bh) bh)
def md (a0 a1:ah):Bool:=(cond (a0.bf==a1.bf) (cond (a0.bJ==a1.bJ) (cond (a0.bV==a1.bV) ((Z214.md a0.bH a1.bH):Bool) (false:Bool)) (false:Bool)) (false:Bool))
def gd (a0 a1:ah):Prop:=(ah.Sm (2^21) a0)/\(ah.Sm (2^21) a1)
def R:=RR (p2 gd) (u2 md)
def aj {a0 a1}(h:gd a0 a1):R ((ah.r a0),(ah.r a1))=some (md a0 a1):=aO (a:=(a0,a1)) h
def aW:=CN [.agg qV,.agg qV] oB RT.dec R
def bw (a0)(a1)(hg:gd a0 a1):F (ah.r a0) (ah.r a1)=ret (md a0 a1):=by
 obtain ⟨H0,H1⟩:=hg
 unfold F md
 try simp only [SS]
 refine au ret (fun c1=>?_) (fun _=>rfl)
 refine au ret (fun c2=>?_) (fun _=>rfl)
 refine au ret (fun c3=>?_) (fun _=>rfl)
 refine ct (Z214.aj ⟨H0.2,H1.2⟩) ?_
 all_goals exact fz
def af:cy 266 aW:=W2 31 F mix aF bw (.cons Z214.af .nil) Tryz.func266
def md_eq (a0 a1:ah):md a0 a1=dV a0 a1:=by
 unfold md
 cases a0;cases a1
 rw [Bool.eq_iff_iff]
 simp [cZ,eM,ah.mk.injEq,Z214.md_eq]
 try (constructor<;>(intro h;simp_all))
end Z215
namespace Z216
def F (x0 x1:bR):aH:=(cond (x0.eo==x1.eo) (call (Z166.R (x0.bH,x1.bH)) fun v1=>ret (v1:Bool)) bh)
def md (a0 a1:aL):Bool:=(cond (a0.eo==a1.eo) ((Z166.md a0.bH a1.bH):Bool) (false:Bool))
def gd (a0 a1:aL):Prop:=(aL.Sm (2^21) a0)/\(aL.Sm (2^21) a1)
def R:=RR (p2 gd) (u2 md)
def aj {a0 a1}(h:gd a0 a1):R ((aL.r a0),(aL.r a1))=some (md a0 a1):=aO (a:=(a0,a1)) h
def aW:=CN [.agg rm,.agg rm] oB RT.dec R
def bw (a0)(a1)(hg:gd a0 a1):F (aL.r a0) (aL.r a1)=ret (md a0 a1):=by
 obtain ⟨H0,H1⟩:=hg
 unfold F md
 try simp only [SS]
 refine au ret (fun c1=>?_) (fun _=>rfl)
 refine ct (Z166.aj ⟨(H0.mono (by decide) (fun x hx=>trivial)),(H1.mono (by decide) (fun x hx=>trivial))⟩) ?_
 all_goals exact fz
def af:cy 267 aW:=W2 17 F mix aF bw (.cons Z166.af .nil) Tryz.func267
def md_eq (a0 a1:aL):md a0 a1=dV a0 a1:=by
 unfold md
 cases a0;cases a1
 rw [Bool.eq_iff_iff]
 simp [cZ,eM,aL.mk.injEq,Z166.md_eq]
 try (constructor<;>(intro h;simp_all))
end Z216
namespace Z217
def F (x0 x1:dK):aH:=(cond (x0.eo==x1.eo) (call (Z215.R (x0.aQ,x1.aQ)) fun v1=>(cond v1 (call (Z215.R (x0.cF,x1.cF)) fun v2=>(cond v2 (call (Z216.R (x0.eu,x1.eu)) fun v3=>(cond v3 (call (Z216.R (x0.cS,x1.cS)) fun v4=>ret (v4:Bool)) bh)) bh)) bh)) bh)
def md (a0 a1:bT):Bool:=(cond (a0.eo==a1.eo) (cond (Z215.md a0.aQ a1.aQ) (cond (Z215.md a0.cF a1.cF) (cond (Z216.md a0.eu a1.eu) ((Z216.md a0.cS a1.cS):Bool) (false:Bool)) (false:Bool)) (false:Bool)) (false:Bool))
def gd (a0 a1:bT):Prop:=(bT.Sm (2^21) a0)/\(bT.Sm (2^21) a1)
def R:=RR (p2 gd) (u2 md)
def aj {a0 a1}(h:gd a0 a1):R ((bT.r a0),(bT.r a1))=some (md a0 a1):=aO (a:=(a0,a1)) h
def aW:=CN [.agg vK,.agg vK] oB RT.dec R
def bw (a0)(a1)(hg:gd a0 a1):F (bT.r a0) (bT.r a1)=ret (md a0 a1):=by
 obtain ⟨H0,H1⟩:=hg
 unfold F md
 try simp only [SS]
 refine au ret (fun c1=>?_) (fun _=>rfl)
 refine ct (Z215.aj ⟨H0.1,H1.1⟩) ?_
 refine au ret (fun c2=>?_) (fun _=>rfl)
 refine ct (Z215.aj ⟨H0.2.1,H1.2.1⟩) ?_
 refine au ret (fun c3=>?_) (fun _=>rfl)
 refine ct (Z216.aj ⟨H0.2.2.1,H1.2.2.1⟩) ?_
 refine au ret (fun c4=>?_) (fun _=>rfl)
 refine ct (Z216.aj ⟨H0.2.2.2,H1.2.2.2⟩) ?_
 all_goals exact fz
def af:cy 238 aW:=W2 38 F mix aF bw (.cons Z215.af (.cons Z216.af .nil)) Tryz.func238
def md_eq (a0 a1:bT):md a0 a1=dV a0 a1:=by
 unfold md
 cases a0;cases a1
 rw [Bool.eq_iff_iff]
 simp [cZ,eM,bT.mk.injEq,Z215.md_eq,Z216.md_eq]
 try (constructor<;>(intro h;simp_all))
end Z217
namespace Z218
def F (x0:aU):aH:=(call (Z215.R (x0,(⟨(⟨#[]⟩:aD),0,0,[]⟩:aU))) fun v1=>ret (v1:Bool))
def md (a0:ah):Bool:=((Z215.md a0 (⟨((⟨#[]⟩:aD):aD),0,0,[]⟩:ah)):Bool)
def gd (a0:ah):Prop:=(ah.Sm (2^21) a0)
def R:=RR gd md
def aj {a0}(h:gd a0):R (ah.r a0)=some (md a0):=aO (a:=a0) h
def aW:=CN [.agg qV] oB RT.dec R
def bw (a0)(hg:gd a0):F (ah.r a0)=ret (md a0):=by
 unfold gd at hg
 have H0:=hg
 unfold F md
 try simp only [SS]
 refine ct (Z215.aj (a1:=(⟨((⟨#[]⟩:aD):aD),0,0,[]⟩:ah)) ⟨H0,⟨(by decide),bM.nil⟩⟩) ?_
 all_goals exact fz
def af:cy 240 aW:=W1 6 F mix aF bw (.cons Z215.af .nil) Tryz.func240
end Z218
namespace Z219
def F (x0:bR):aH:=(call (Z216.R (x0,(⟨0,[]⟩:bR))) fun v1=>ret (v1:Bool))
def md (a0:aL):Bool:=((Z216.md a0 (⟨0,[]⟩:aL)):Bool)
def gd (a0:aL):Prop:=(aL.Sm (2^21) a0)
def R:=RR gd md
def aj {a0}(h:gd a0):R (aL.r a0)=some (md a0):=aO (a:=a0) h
def aW:=CN [.agg rm] oB RT.dec R
def bw (a0)(hg:gd a0):F (aL.r a0)=ret (md a0):=by
 unfold gd at hg
 have H0:=hg
 unfold F md
 try simp only [SS]
 refine ct (Z216.aj (a1:=(⟨0,[]⟩:aL)) ⟨H0,bM.nil⟩) ?_
 all_goals exact fz
def af:cy 241 aW:=W1 6 F mix aF bw (.cons Z216.af .nil) Tryz.func241
end Z219
namespace Z220
def F (x0 x1:Int)(x2:aU)(x3:bR)(x4:Int):aH:=(call (Z130.R (x4,0,(i64.wrap (x1 - 1)))) fun v1=>(cond (!v1) (call (Z218.R x2) fun v2=>(cond v2 (call (Z219.R x3) fun v3=>ret (v3:Bool)) bh)) (call (Z213.R (x0,x1,x2,x3)) fun v4=>(cond v4 (ret ((x3.eo==x4):Bool)) bh))))
def md (a0 a1:Int)(a2:ah)(a3:aL)(a4:Int):Bool:=(cond (!(Z130.md a4 0 (i64.wrap (a1 - 1)))) (cond (Z218.md a2) ((Z219.md a3):Bool) (false:Bool)) (cond (Z213.md a0 a1 a2 a3) ((a3.eo==a4):Bool) (false:Bool)))
def gd (a0 a1:Int)(a2:ah)(a3:aL)(a4:Int):Prop:=(ah.Sm (2^21) a2)/\(aL.Sm (2^21) a3)
def R:=RR (p5 gd) (u5 md)
def aj {a0 a1 a2 a3 a4}(h:gd a0 a1 a2 a3 a4):R (a0,a1,(ah.r a2),(aL.r a3),a4)=some (md a0 a1 a2 a3 a4):=aO (a:=(a0,a1,a2,a3,a4)) h
def aW:=CN [pI,pI,.agg qV,.agg rm,pI] oB RT.dec R
def bw (a0)(a1)(a2)(a3)(a4)(hg:gd a0 a1 a2 a3 a4):F a0 a1 (ah.r a2) (aL.r a3) a4=ret (md a0 a1 a2 a3 a4):=by
 obtain ⟨H2,H3⟩:=hg
 unfold F md
 try simp only [SS]
 refine ct (Z130.aj trivial) ?_
 refine au ret (fun c1=>?_) (fun c1=>?_)
 ·refine ct (Z218.aj H2) ?_
  refine au ret (fun c2=>?_) (fun _=>rfl)
  refine ct (Z219.aj H3) ?_
  all_goals exact fz
 ·refine ct (Z213.aj ⟨H2,H3⟩) ?_
  refine au ret (fun c3=>?_) (fun _=>rfl)
  all_goals exact fz
def af:cy 268 aW:=W5 33 F mix aF bw (.cons Z130.af (.cons Z218.af (.cons Z219.af (.cons Z213.af .nil)))) Tryz.func268
end Z220
namespace Z221
def F (x0 x1:Int)(x2:aD)(x3:dK):aH:=(call (Z131.R x2) fun v1=>(cond (!v1) bh (call (Z130.R (x3.eo,0,x1)) fun v2=>(cond (!v2) bh (cond (x1==0) (call (Z191.R []) fun v3=>(cond (x0 != v3) bh (call (Z220.R (x0,x1,x3.aQ,x3.eu,(i64.wrap (x3.eo - 1)))) fun v4=>(cond (!v4) bh (call (Z220.R (x0,x1,x3.cF,x3.cS,x3.eo)) fun v5=>(cond (!v5) bh (cond (x3.eo==0) (cond (x3.eo==x1) eI (call (Z179.R (x3.cF.bf,x2)) fun v6=>ret ((decide (v6>0)):Bool))) (call (Z179.R (x3.aQ.bf,x2)) fun v7=>(cond (decide (v7<0)) (cond (x3.eo==x1) eI (call (Z179.R (x3.cF.bf,x2)) fun v8=>ret ((decide (v8>0)):Bool))) bh))))))))) (call (Z220.R (x0,x1,x3.aQ,x3.eu,(i64.wrap (x3.eo - 1)))) fun v9=>(cond (!v9) bh (call (Z220.R (x0,x1,x3.cF,x3.cS,x3.eo)) fun v10=>(cond (!v10) bh (cond (x3.eo==0) (cond (x3.eo==x1) eI (call (Z179.R (x3.cF.bf,x2)) fun v11=>ret ((decide (v11>0)):Bool))) (call (Z179.R (x3.aQ.bf,x2)) fun v12=>(cond (decide (v12<0)) (cond (x3.eo==x1) eI (call (Z179.R (x3.cF.bf,x2)) fun v13=>ret ((decide (v13>0)):Bool))) bh))))))))))))
def md (a0 a1:Int)(a2:aD)(a3:bT):Bool:=(cond (!(Z131.md a2)) (false:Bool) (cond (!(Z130.md a3.eo 0 a1)) (false:Bool) (cond (a1==0) (cond (a0 != (Z191.md [])) (false:Bool) (cond (!(Z220.md a0 a1 a3.aQ a3.eu (i64.wrap (a3.eo - 1)))) (false:Bool) (cond (!(Z220.md a0 a1 a3.cF a3.cS a3.eo)) (false:Bool) (cond (a3.eo==0) (cond (a3.eo==a1) (true:Bool) ((decide ((Z179.md a3.cF.bf a2)>0)):Bool)) (cond (decide ((Z179.md a3.aQ.bf a2)<0)) (cond (a3.eo==a1) (true:Bool) ((decide ((Z179.md a3.cF.bf a2)>0)):Bool)) (false:Bool)))))) (cond (!(Z220.md a0 a1 a3.aQ a3.eu (i64.wrap (a3.eo - 1)))) (false:Bool) (cond (!(Z220.md a0 a1 a3.cF a3.cS a3.eo)) (false:Bool) (cond (a3.eo==0) (cond (a3.eo==a1) (true:Bool) ((decide ((Z179.md a3.cF.bf a2)>0)):Bool)) (cond (decide ((Z179.md a3.aQ.bf a2)<0)) (cond (a3.eo==a1) (true:Bool) ((decide ((Z179.md a3.cF.bf a2)>0)):Bool)) (false:Bool))))))))
def gd (a0 a1:Int)(a2:aD)(a3:bT):Prop:=(a2.size<=(2^21))/\(bT.Sm (2^21) a3)
def R:=RR (p4 gd) (u4 md)
def aj {a0 a1 a2 a3}(h:gd a0 a1 a2 a3):R (a0,a1,a2,(bT.r a3))=some (md a0 a1 a2 a3):=aO (a:=(a0,a1,a2,a3)) h
def aW:=CN [pI,pI,pS,.agg vK] oB RT.dec R
def bw (a0)(a1)(a2)(a3)(hg:gd a0 a1 a2 a3):F a0 a1 a2 (bT.r a3)=ret (md a0 a1 a2 a3):=by
 obtain ⟨H2,H3⟩:=hg
 unfold F md
 try simp only [SS]
 refine ct (Z131.aj (le_trans H2 (by decide))) ?_
 refine au ret (fun _=>rfl) (fun c1=>?_)
 refine ct (Z130.aj trivial) ?_
 refine au ret (fun _=>rfl) (fun c2=>?_)
 refine au ret (fun c3=>?_) (fun c3=>?_)
 ·refine bp (Z191.md []) (rq (Z191.aj (a0:=[]) bM.nil)) ?_
  refine au ret (fun _=>rfl) (fun c4=>?_)
  refine ct (Z220.aj ⟨H3.1,H3.2.2.1⟩) ?_
  refine au ret (fun _=>rfl) (fun c5=>?_)
  refine ct (Z220.aj ⟨H3.2.1,H3.2.2.2⟩) ?_
  refine au ret (fun _=>rfl) (fun c6=>?_)
  refine au ret (fun c7=>?_) (fun c7=>?_)
  ·refine au ret (fun _=>rfl) (fun c8=>?_)
   refine ct (Z179.aj trivial) ?_
   all_goals exact fz
  ·refine ct (Z179.aj trivial) ?_
   refine au ret (fun c9=>?_) (fun _=>rfl)
   refine au ret (fun _=>rfl) (fun c10=>?_)
   refine ct (Z179.aj trivial) ?_
   all_goals exact fz
 ·refine ct (Z220.aj ⟨H3.1,H3.2.2.1⟩) ?_
  refine au ret (fun _=>rfl) (fun c11=>?_)
  refine ct (Z220.aj ⟨H3.2.1,H3.2.2.2⟩) ?_
  refine au ret (fun _=>rfl) (fun c12=>?_)
  refine au ret (fun c13=>?_) (fun c13=>?_)
  ·refine au ret (fun _=>rfl) (fun c14=>?_)
   refine ct (Z179.aj trivial) ?_
   all_goals exact fz
  ·refine ct (Z179.aj trivial) ?_
   refine au ret (fun c15=>?_) (fun _=>rfl)
   refine au ret (fun _=>rfl) (fun c16=>?_)
   refine ct (Z179.aj trivial) ?_
   all_goals exact fz
def af:cy 239 aW:=W4 76 F mix aF bw (.cons Z131.af (.cons Z130.af (.cons Z191.af (.cons Z220.af (.cons Z179.af .nil))))) Tryz.func239
def BM (a0 a1:Int)(a2:aD)(a3:bT)(hc:a1<=1000):md a0 a1 a2 a3=Z111.md a0 a1 a2 a3:=by
 unfold md Z111.md Z220.md Z110.md Z218.md Z219.md
 simp only [Z131.br,Z130.br,Z191.br,Z213.br,Z215.md_eq,Z107.md_eq,Z216.md_eq,Z108.md_eq,Z179.br,Z72.lt,Z72.gt]
 cases Z42.md a2
 ·rfl
 cases hr:Z41.md a3.eo 0 a1
 ·rfl
 have hi:0<=a3.eo/\a3.eo<=a1:=by simpa [Z41.md] using hr
 have w1:i64.wrap (a1 - 1)=a1 - 1:=Go.IntWalk.i64_in _ (by omega)
 have w2:i64.wrap (a3.eo - 1)=a3.eo - 1:=Go.IntWalk.i64_in _ (by omega)
 have e1:Z41.md (a3.eo - 1) 0 (a1 - 1)=!(a3.eo==0):=by
  rw [Bool.eq_iff_iff];simp [Z41.md];omega
 have e2:Z41.md a3.eo 0 (a1 - 1)=!(a3.eo==a1):=by
  rw [Bool.eq_iff_iff];simp [Z41.md];omega
 simp only [w1,w2,e1,e2,bne]
 generalize (a3.eo==0)=z
 generalize (a3.eo==a1)=e
 generalize (a1==0)=c0
 generalize (a0==Z83.md [])=rt
 generalize dV a3.aQ _=x1
 generalize dV a3.eu _=x2
 generalize dV a3.cF _=x3
 generalize dV a3.cS _=x4
 generalize Z105.md a0 a1 a3.aQ a3.eu=k1
 generalize Z105.md a0 a1 a3.cF a3.cS=k2
 generalize (a3.eu.eo==a3.eo - 1)=p1
 generalize (a3.cS.eo==a3.eo)=p2
 generalize (Z72.md a3.aQ.bf a2 == -1)=m1
 generalize (Z72.md a3.cF.bf a2==1)=m2
 cases c0<;>cases rt<;>cases z<;>cases e<;>cases x1<;>cases x2<;>cases k1<;>cases p1<;>cases m1<;>first | rfl | (cases x3<;>cases x4<;>rfl) | (cases k2<;>cases p2<;>cases m2<;>rfl)
end Z221
namespace Z222
def F (x0:bX)(x1:aD)(x2:aY):aH:=(cond x2.cq (cond (x2.aT.bf==x1) (call (Z213.R (x0.cQ,x0.ck,x2.aT,x2.ep)) fun v1=>(cond v1 (call (Z217.R (x2.fR,(⟨0,(⟨(⟨#[]⟩:aD),0,0,[]⟩:aU),(⟨(⟨#[]⟩:aD),0,0,[]⟩:aU),(⟨0,[]⟩:bR),(⟨0,[]⟩:bR)⟩:dK))) fun v2=>ret (v2:Bool)) bh)) bh) (call (Z221.R (x0.cQ,x0.ck,x1,x2.fR)) fun v3=>(cond v3 (call (Z218.R x2.aT) fun v4=>(cond v4 (call (Z219.R x2.ep) fun v5=>ret (v5:Bool)) bh)) bh)))
def md (a0:aE)(a1:aD)(a2:av):Bool:=(cond a2.cq (cond (a2.aT.bf==a1) (cond (Z213.md a0.cQ a0.ck a2.aT a2.ep) ((Z217.md a2.fR (⟨0,(⟨((⟨#[]⟩:aD):aD),0,0,[]⟩:ah),(⟨((⟨#[]⟩:aD):aD),0,0,[]⟩:ah),(⟨0,[]⟩:aL),(⟨0,[]⟩:aL)⟩:bT)):Bool) (false:Bool)) (false:Bool)) (cond (Z221.md a0.cQ a0.ck a1 a2.fR) (cond (Z218.md a2.aT) ((Z219.md a2.ep):Bool) (false:Bool)) (false:Bool)))
def gd (a0:aE)(a1:aD)(a2:av):Prop:=(a1.size<=(2^21))/\(av.Sm (2^21) a2)
def R:=RR (p3 gd) (u3 md)
def aj {a0 a1 a2}(h:gd a0 a1 a2):R ((aE.r a0),a1,(av.r a2))=some (md a0 a1 a2):=aO (a:=(a0,a1,a2)) h
def aW:=CN [.agg fU,pS,.agg xT] oB RT.dec R
def bw (a0)(a1)(a2)(hg:gd a0 a1 a2):F (aE.r a0) a1 (av.r a2)=ret (md a0 a1 a2):=by
 obtain ⟨H1,H2⟩:=hg
 unfold F md
 try simp only [SS]
 refine au ret (fun c1=>?_) (fun c1=>?_)
 ·refine au ret (fun c2=>?_) (fun _=>rfl)
  refine ct (Z213.aj ⟨H2.2.1,H2.2.2.1⟩) ?_
  refine au ret (fun c3=>?_) (fun _=>rfl)
  refine ct (Z217.aj (a1:=(⟨0,(⟨((⟨#[]⟩:aD):aD),0,0,[]⟩:ah),(⟨((⟨#[]⟩:aD):aD),0,0,[]⟩:ah),(⟨0,[]⟩:aL),(⟨0,[]⟩:aL)⟩:bT)) ⟨H2.2.2.2,⟨⟨(by decide),bM.nil⟩,⟨(by decide),bM.nil⟩,bM.nil,bM.nil⟩⟩) ?_
  all_goals exact fz
 ·refine ct (Z221.aj ⟨H1,H2.2.2.2⟩) ?_
  refine au ret (fun c4=>?_) (fun _=>rfl)
  refine ct (Z218.aj H2.2.1) ?_
  refine au ret (fun c5=>?_) (fun _=>rfl)
  refine ct (Z219.aj H2.2.2.1) ?_
  all_goals exact fz
def af:cy 207 aW:=W3 49 F mix aF bw (.cons Z213.af (.cons Z217.af (.cons Z221.af (.cons Z218.af (.cons Z219.af .nil))))) Tryz.func207
def BM (a0:aE)(a1:aD)(a2:av)(hc:a0.ck<=1000):md a0 a1 a2=Z112.md a0 a1 a2:=by
 unfold md Z112.md Z110.md Z218.md Z219.md
 simp only [Z221.BM _ _ _ _ hc,Z213.br,Z215.md_eq,Z107.md_eq,Z216.md_eq,Z108.md_eq,Z217.md_eq,Z109.md_eq]
end Z222
namespace Z223
def F (x0:Int)(x1:aD)(x2:aY)(x3:Int):aH:=(call (Z210.R x2.aR) fun v1=>(cond (!v1.2) (ret (3:Int)) (cond (v1.1.bD != x0) (ret (2:Int)) (call (Z211.R (v1.1,x3)) fun v2=>(cond (!v2) (ret (4:Int)) (cond v1.1.bC (ret (5:Int)) (call (Z222.R (v1.1,x1,x2)) fun v3=>(cond (!v3) (ret (6:Int)) (ret (1:Int))))))))))
def md (a0:Int)(a1:aD)(a2:av)(a3:Int):Int:=(cond (!(Z210.md a2.aR).2) (3:Int) (cond ((Z210.md a2.aR).1.bD != a0) (2:Int) (cond (!(Z211.md ((Z210.md a2.aR).1) a3)) (4:Int) (cond ((Z210.md a2.aR).1.bC) (5:Int) (cond (!(Z222.md ((Z210.md a2.aR).1) a1 a2)) (6:Int) (1:Int))))))
def gd (a0:Int)(a1:aD)(a2:av)(a3:Int):Prop:=(a1.size<=(2^21))/\(av.Sm (2^21) a2)
def R:=RR (p4 gd) (u4 md)
def aj {a0 a1 a2 a3}(h:gd a0 a1 a2 a3):R (a0,a1,(av.r a2),a3)=some (md a0 a1 a2 a3):=aO (a:=(a0,a1,a2,a3)) h
def aW:=CN [pI,pS,.agg xT,pI] oI RT.dec R
def bw (a0)(a1)(a2)(a3)(hg:gd a0 a1 a2 a3):F a0 a1 (av.r a2) a3=ret (md a0 a1 a2 a3):=by
 obtain ⟨H1,H2⟩:=hg
 unfold F md
 try simp only [SS]
 refine ct (Z210.aj H2.1) ?_
 try simp only [SS]
 refine au ret (fun _=>rfl) (fun c1=>?_)
 refine au ret (fun _=>rfl) (fun c2=>?_)
 refine ct (Z211.aj trivial) ?_
 refine au ret (fun _=>rfl) (fun c3=>?_)
 refine au ret (fun _=>rfl) (fun c4=>?_)
 refine ct (Z222.aj ⟨H1,H2⟩) ?_
 refine au ret (fun _=>rfl) (fun _=>rfl)
def af:cy 168 aW:=W4 39 F mix aF bw (.cons Z210.af (.cons Z211.af (.cons Z222.af .nil))) Tryz.func168
def br (a0:Int)(a1:aD)(a2:av)(a3:Int):md a0 a1 a2 a3=Z113.md a0 a1 a2 a3:=by
 unfold md Z113.md
 simp only [Z210.br,Z211.br]
 cases hok:(Z70.md a2.aR).2
 ·rfl
 ·have:=Z47.tr (Z70.head hok).2.2
  rw [Z222.BM _ _ _ (by omega)]
end Z223
namespace Z224
def F (x0:aC)(x1:List L):aH:=(cond (decide ((x0.length:Int)>0)) (bZ (decide ((0:Int)<(x0.length:Int))) (ret (((aP.at x0 0).an.bD==(gi x1)):Bool))) bh)
def pats:List gj:=[.rd (.sl 141),.ptr [aB]]
def res:RP:=.one (.rd (.bool))
def md (a0:List aa)(a1:Int):Bool:=(cond (decide ((a0.length:Int)>0)) ((((a0.getD 0 aa.zero).an).bD==a1):Bool) (false:Bool))
def gd (a0:List aa)(a1:Int):Prop:=(bM (2^21) (fun y:aa=>aa.Sm (2^21) y) a0)
def acc (ls:List L):aC×Int:=((ls.headD .hole).aS,(gi (cJ 1 (aA 1 ls))))
def R:(aC×Int)->Option Bool:=RR (p2 gd) (u2 md)
def aj {a0 a1}(h:gd a0 a1):R ((a0.map aa.row),a1)=some (md a0 a1):=aO (a:=(a0,a1)) h
def aW:fT:=CN pats res acc R
def bw (a0:List aa)(a1:Int)(p1:List L)(e1:a1=(gi p1))(hg:gd a0 a1):F (a0.map aa.row) p1=ret ((md a0 a1):Bool):=by
 unfold gd at hg
 have H0:=hg
 unfold F md
 try simp only [SS,<-e1]
 refine au ret (fun c1=>?_) (fun _=>rfl)
 have dc1:=c1
 try simp only [DC] at dc1
 refine ak (have:=(H0).1;dt) ?_
 all_goals exact fz
def ox (ls:List L)(a:List aa×Int)(e:acc ls=Im.im a)(hg:(p2 gd) a):∃n:Nat,F ((ls.headD .hole).aS) (cJ 1 (aA 1 ls))=ret (Im.im ((u2 md) a)):=by
 have e0:(a.1.map aa.row)=(ls.headD .hole).aS:=(congrArg (fun x=>x.1) e.symm)
 have hn:=bw a.1 a.2 (cJ 1 (aA 1 ls)) (congrArg (fun x=>x.2) e.symm) hg
 refine ⟨0,?_⟩
 rw [<-e0]
 exact hn
def af:cy 246 aW:=VP (live:=fun _=>[]) (nt:=16) (accr:=fun ls=>((ls.headD .hole).aS,(cJ 1 (aA 1 ls)))) (run:=fun _ x=>F x.1 x.2) mix aF .nil Tryz.func246 (by kernel_rfl) (fun _ _=>by kernel_rfl) (fun ls a _ e hg=>ox ls a e hg)
end Z224
namespace Z225
inductive Pt where
 | p0 (a:aC) (b:List L) (c d:Int)
def pid:Pt->Nat
 | .p0 ..=>2
def cj:Pt->List V
 | .p0 a b c d=>[.sl none 134 a,.fn 246 [.dB none [aB] b 0],.int .i64 c,.int .i64 d]
def cg:Pt->List aV
 | .p0 a b c d=>[]
def step (J:Pt->aH):Pt->aH
 | .p0 a b c d=>(cond (decide (d<c)) (m2 d (a.length:Int) (call (Z224.R ((oy a (toNat d)),(gi b))) fun v1=>(cond v1 (ret (d:Int)) (J (.p0 a b c (i64.wrap (d+1))))))) (ret ((-1):Int)))
def start (J:Pt->aH)(x0:aC)(x1:List L):aH:=J (.p0 x0 x1 (x0.length:Int) 0)
def live:Nat->Live:=fun i=>match i with | 2=>[(0,none),(1,none),(7,none),(8,none)] | _=>[]
def pats:List gj:=[.rd (.sl 134),.fn 246 [[aB]]]
def res:RP:=.one (.rd (.int .i64))
abbrev E:Env:={ T:=assoc kL,G:=dm [(246,Z224.aW)],nt:=19 }
def step_eq (I:cH)(p:Pt):cR E live I (pid p) (bQ Tryz.f245) (fE (live (pid p)) (cj p) (cg p)) (cG E Tryz.f245 res)=step (fun q=>I (pid q) (cj q) (cg q)) p:=by
 cases p<;>kernel_rfl
def start_eq (I:cH)(ls:List L):eS E live I (bQ Tryz.f245) (cW pats ls) (cG E Tryz.f245 res)=start (fun q=>I (pid q) (cj q) (cg q)) (ls.headD .hole).aS (cJ 1 (aA 1 ls)):=by kernel_rfl
def run_eq (n:Nat)(ls:List L):eN E live Tryz.f245 res n (cW pats ls)=start (iter step n) (ls.headD .hole).aS (cJ 1 (aA 1 ls)):=cB (id:=pid) (vs:=cj) (hs:=cg) (step:=step) (start:=fun J=>start J (ls.headD .hole).aS (cJ 1 (aA 1 ls))) step_eq (fun I=>start_eq I ls) n
def md (a0:List (List aa))(a1:Int):Int:=(dR (S:=Unit) (β:=Int) (fun (i1:Nat) (y1:List aa) (s3:Unit)=>(cond (Z224.md y1 a1) (.inr ((i1:Int):Int)) (.inl ()))) (fun (s3:Unit)=>((-1):Int)) 0 a0 ())
def gd (a0:List (List aa))(a1:Int):Prop:=(bM (2^21) (fun y:List aa=>bM (2^21) (fun y:aa=>aa.Sm (2^21) y) y) a0)
def acc (ls:List L):aC×Int:=((ls.headD .hole).aS,(gi (cJ 1 (aA 1 ls))))
def R:(aC×Int)->Option Int:=RR (p2 gd) (u2 md)
def aj {a0 a1}(h:gd a0 a1):R ((a0.map (dF aa.row)),a1)=some (md a0 a1):=aO (a:=(a0,a1)) h
def aW:fT:=CN pats res acc R
def bw (a0:List (List aa))(a1:Int)(p1:List L)(e1:a1=(gi p1))(hg:gd a0 a1):∃n,start (iter step n) (a0.map (dF aa.row)) p1=ret ((md a0 a1):Int):=by
 unfold gd at hg
 have H0:=hg
 unfold start md
 try simp only [SS,<-e1]
 have Bh2:a0.length<=maxLen:=(by
   have:=(H0).1
   try simp only [maxLen] at *
   omega)
 refine ex_eq (out:=ret) (cU (z:=[])) ?_
 refine dM (p:=Pt.p0 (a0.map (dF aa.row)) p1 (a0.length:Int) 0) fz ?_
 refine cm (pt:=fun (i1:Nat) (s3:Unit)=>Pt.p0 (a0.map (dF aa.row)) p1 (a0.length:Int) (i1:Int)) (s:=(():Unit)) (out:=ret) (fun _ _=>True) (fun J i1 s3 h2 hih2=>?_) (fun s3 hih2=>?_) trivial
 ·simp only [step,SS,<-e1]
  have bb_:=Bh2
  simp only [maxLen] at bb_
  have:=(H0).1
  refine bz.yes (by apply decide_eq_true;omega) ?_
  refine bz.yes aJ ?_
  refine bz.yes (aN h2) ?_
  refine cr (Z224.aj (bM.getD (z:=[]) H0 h2)) ?_
  refine bz.bif (fun c4=>?_) (fun c4=>?_)
  ·refine bz.inr ?_
   all_goals exact fz
  ·refine bz.inl trivial ?_
   rw [aG h2 Bh2]
   all_goals exact fz
 ·simp only [step,SS,<-e1]
  have:=(H0).1
  refine dx (by apply decide_eq_false;omega) ?_
  refine ⟨0,?_⟩
  all_goals exact fz
def ox (ls:List L)(a:List (List aa)×Int)(e:acc ls=Im.im a)(hg:(p2 gd) a):∃n:Nat,start (iter step n) ((ls.headD .hole).aS) (cJ 1 (aA 1 ls))=ret (Im.im ((u2 md) a)):=by
 have e0:(a.1.map (dF aa.row))=(ls.headD .hole).aS:=(congrArg (fun x=>x.1) e.symm)
 obtain ⟨n,hn⟩:=bw a.1 a.2 (cJ 1 (aA 1 ls)) (congrArg (fun x=>x.2) e.symm) hg
 refine ⟨n,?_⟩
 rw [<-e0]
 exact hn
def af:cy 245 aW:=VP (accr:=fun ls=>((ls.headD .hole).aS,(cJ 1 (aA 1 ls)))) (run:=fun n x=>start (iter step n) x.1 x.2) mix aF (.cons Z224.af .nil) Tryz.func245 (by kernel_rfl) run_eq (fun ls a _ e hg=>ox ls a e hg)
def fa (a0:List (List aa))(a1:Int):-1<=md a0 a1/\md a0 a1<(a0.length:Int):=by
 unfold md
 refine fW ?_ _ _
 all_goals
  intro i x s b h
  revert h
  simp only [Bool.cond_eq_ite]
  repeat' split
  all_goals (intro h;first | (cases h;rfl) | cases h)
def idx_eq (a0:List (List aa))(a1:Int):md a0 a1=iL (fun y=>Z224.md y a1) 0 a0:=by
 unfold md
 exact gN
end Z225
namespace Z226
def F (x0:bu)(x1:Int):aH:=(call (Z225.R (x0.aI,x1)) fun v1=>ret (v1:Int))
def md (a0:aq)(a1:Int):Int:=((Z225.md a0.aI a1):Int)
def gd (a0:aq)(a1:Int):Prop:=(aq.Sm (2^21) a0)
def R:=RR (p2 gd) (u2 md)
def aj {a0 a1}(h:gd a0 a1):R ((aq.r a0),a1)=some (md a0 a1):=aO (a:=(a0,a1)) h
def aW:=CN [.agg tE,pI] oI RT.dec R
def bw (a0)(a1)(hg:gd a0 a1):F (aq.r a0) a1=ret (md a0 a1):=by
 unfold gd at hg
 have H0:=hg
 unfold F md
 try simp only [SS]
 refine ct (Z225.aj H0.1) ?_
 have fv1_:=Z225.fa a0.aI a1
 all_goals exact fz
def af:cy 210 aW:=W2 9 F mix aF bw (.cons Z225.af .nil) Tryz.func210
def fa (a0:aq)(a1:Int):-1<=md a0 a1/\md a0 a1<(a0.aI.length:Int):=by unfold md;exact Z225.fa _ _
def br (a0:aq)(a1:Int):md a0 a1=Z97.md a0 a1:=by
 unfold md Z97.md
 rw [Z225.idx_eq]
 symm
 refine kX (fun i x s=>?_) _ _ _
 unfold Z224.md
 cases decide ((x.length:Int)>0)<;>first | rfl | (cases ((x.getD 0 aa.zero).an).bD==a1<;>rfl)
end Z226
namespace Z227
def F (x0 x1:bX):aH:=(call (Z167.R (x0.bO,x1.bO)) fun v1=>(cond v1 (call (Z167.R (x0.bA,x1.bA)) fun v2=>(cond v2 (call (Z167.R (x0.bt,x1.bt)) fun v3=>(cond v3 (call (Z152.R x0) fun v4=>(call (Z152.R x1) fun v5=>(call (Z166.R (v4,v5)) fun v6=>ret (v6:Bool)))) bh)) bh)) bh))
def md (a0 a1:aE):Bool:=(cond (Z167.md a0.bO a1.bO) (cond (Z167.md a0.bA a1.bA) (cond (Z167.md a0.bt a1.bt) ((Z166.md (Z152.md a0) (Z152.md a1)):Bool) (false:Bool)) (false:Bool)) (false:Bool))
def gd (a0 a1:aE):Prop:=(aE.Sm (2^21) a0)/\(aE.Sm (2^21) a1)
def R:=RR (p2 gd) (u2 md)
def aj {a0 a1}(h:gd a0 a1):R ((aE.r a0),(aE.r a1))=some (md a0 a1):=aO (a:=(a0,a1)) h
def aW:=CN [.agg fU,.agg fU] oB RT.dec R
def bw (a0)(a1)(hg:gd a0 a1):F (aE.r a0) (aE.r a1)=ret (md a0 a1):=by
 obtain ⟨H0,H1⟩:=hg
 unfold F md
 try simp only [SS]
 refine ct (Z167.aj ⟨H0.1,H1.1⟩) ?_
 refine au ret (fun c1=>?_) (fun _=>rfl)
 refine ct (Z167.aj ⟨H0.2.1,H1.2.1⟩) ?_
 refine au ret (fun c2=>?_) (fun _=>rfl)
 refine ct (Z167.aj ⟨H0.2.2,H1.2.2⟩) ?_
 refine au ret (fun c3=>?_) (fun _=>rfl)
 refine ct (Z152.aj H0) ?_
 try simp only [SS]
 refine ct (Z152.aj H1) ?_
 try simp only [SS]
 refine ct (Z166.aj ⟨⟨(have:=Z152.len a0;have:=(H0.1).1;have:=(H0.2.1).1;have:=(H0.2.2).1;om),fun _ _=>trivial⟩,⟨(have:=Z152.len a1;have:=(H1.1).1;have:=(H1.2.1).1;have:=(H1.2.2).1;om),fun _ _=>trivial⟩⟩) ?_
 all_goals exact fz
def af:cy 247 aW:=W2 31 F mix aF bw (.cons Z167.af (.cons Z152.af (.cons Z166.af .nil))) Tryz.func247
def md_eq (a0 a1:aE):md a0 a1=dV a0 a1:=by
 unfold md
 simp only [Z166.md_eq,Z167.md_eq,Z152.br]
 rw [Bool.eq_iff_iff]
 constructor
 ·intro h
  simp only [zY,Bool.and_eq_true] at h
  exact cZ.2 (Z52.inj (cZ.1 h.2.2.2))
 ·intro h
  rw [cZ] at h
  rw [h]
  simp only [fN];rfl
end Z227
namespace Z228
inductive Pt where
 | p0 (a b:aC) (c d:Int)
def pid:Pt->Nat
 | .p0 ..=>4
def cj:Pt->List V
 | .p0 a b c d=>[.sl none 141 a,.sl none 141 b,.int .i64 c,.int .i64 d]
def cg:Pt->List aV
 | .p0 a b c d=>[]
def step (J:Pt->aH):Pt->aH
 | .p0 a b c d=>(cond (decide (d<c)) (m2 d (b.length:Int) (m2 d (a.length:Int) (call (Z227.R ((aP.at b (toNat d)).an,(aP.at a (toNat d)).an)) fun v1=>(cond (!v1) bh (J (.p0 a b c (i64.wrap (d+1)))))))) eI)
def start (J:Pt->aH)(x0 x1:aC):aH:=(cond (decide ((x0.length:Int)>(x1.length:Int))) bh (J (.p0 x1 x0 (x0.length:Int) 0)))
def live:Nat->Live:=fun i=>match i with | 4=>[(1,none),(12,none),(13,none),(14,none)] | _=>[]
def md (a0 a1:List aa):Bool:=(bif (decide ((a0.length:Int)>(a1.length:Int))) then (false:Bool) else (ec (S:=Unit) (β:=Bool) (fun (i2:Nat) (s4:Unit)=>(cond (!(Z227.md ((a0.getD i2 aa.zero).an) ((a1.getD i2 aa.zero).an))) (.inr (false:Bool)) (.inl ()))) (fun (s4:Unit)=>(true:Bool)) a0.length 0 ()))
def gd (a0 a1:List aa):Prop:=(bM (2^21) (fun y:aa=>aa.Sm (2^21) y) a0)/\(bM (2^21) (fun y:aa=>aa.Sm (2^21) y) a1)
def R:=RR (p2 gd) (u2 md)
def aj {a0 a1}(h:gd a0 a1):R ((a0.map aa.row),(a1.map aa.row))=some (md a0 a1):=aO (a:=(a0,a1)) h
def aW:=CN [pL 141,pL 141] oB RT.dec R
def bw (a0)(a1)(hg:gd a0 a1):∃n,start (iter step n) (a0.map aa.row) (a1.map aa.row)=ret (md a0 a1):=by
 obtain ⟨H0,H1⟩:=hg
 unfold start md
 try simp only [SS]
 refine gP ret (fun _=>⟨0,rfl⟩) (fun c1=>?_)
 have dc1:=c1
 try simp only [DC] at dc1
 have Bh3:a0.length<=maxLen:=(by
   have:=(H0).1
   try simp only [maxLen] at *
   omega)
 refine dM (p:=Pt.p0 (a1.map aa.row) (a0.map aa.row) (a0.length:Int) 0) fz ?_
 refine cm (pt:=fun (i2:Nat) (s4:Unit)=>Pt.p0 (a1.map aa.row) (a0.map aa.row) (a0.length:Int) (i2:Int)) (s:=(():Unit)) (out:=ret) (fun _ _=>True) (fun J i2 s4 h3 hih3=>?_) (fun s4 hih3=>?_) trivial
 ·simp only [step,SS]
  have bb_:=Bh3
  simp only [maxLen] at bb_
  have:=(H0).1
  refine bz.yes (by apply decide_eq_true;omega) ?_
  refine bz.yes aJ ?_
  refine bz.yes (aN h3) ?_
  refine bz.yes aJ ?_
  refine bz.yes (have:=(H1).1;dt) ?_
  refine cr (Z227.aj ⟨(bM.getD (z:=aa.zero) H0 h3).1,(bM.getD (z:=aa.zero) H1 (by first | assumption | omega | (simp (disch:=omega) only [wi];omega) | (simp;omega))).1⟩) ?_
  refine bz.bif (fun _=>bz.inr rfl) (fun c5=>?_)
  refine bz.inl trivial ?_
  rw [aG h3 Bh3]
  all_goals exact fz
 ·simp only [step,SS]
  have:=(H0).1
  refine dx (by apply decide_eq_false;omega) ?_
  refine ⟨0,?_⟩
  all_goals exact fz
def af:cy 244 aW:=L2 29 pid cj cg live step start mix aF bw (.cons Z227.af .nil) Tryz.func244
def br (a0 a1:List aa):md a0 a1=Z99.md a0 a1:=by
 unfold md Z99.md
 first
 | (simp only [Z227.md_eq,Z98.md_eq];done)
 | (simp only [Z227.md_eq,Z98.md_eq];rfl)
 | rfl
end Z228
namespace Z229
def F (x0:bu)(x1:aC):aH:=(call (Z174.R x1) fun v1=>(cond (!v1) (ret (6:Int)) (bZ (decide ((0:Int)<(x1.length:Int))) (call (Z226.R (x0,(aP.at x1 0).an.bD)) fun v2=>(cond (decide (v2<0)) (ret (1:Int)) (m2 v2 (x0.aI.length:Int) (call (Z228.R ((oy x0.aI (toNat v2)),x1)) fun v3=>(m2 v2 (x0.aI.length:Int) (call (Z228.R (x1,(oy x0.aI (toNat v2)))) fun v4=>(cond v3 (cond v4 (ret (2:Int)) (cond v3 (ret (3:Int)) (cond v4 (ret (4:Int)) (ret (5:Int))))) (cond v3 (ret (3:Int)) (cond v4 (ret (4:Int)) (ret (5:Int))))))))))))))
def md (a0:aq)(a1:List aa):Int:=(cond (!(Z174.md a1)) (6:Int) (cond (decide ((Z226.md a0 (((a1.getD 0 aa.zero).an).bD))<0)) (1:Int) (cond (Z228.md (a0.aI.getD (toNat (Z226.md a0 (((a1.getD 0 aa.zero).an).bD))) []) a1) (cond (Z228.md a1 (a0.aI.getD (toNat (Z226.md a0 (((a1.getD 0 aa.zero).an).bD))) [])) (2:Int) (cond (Z228.md (a0.aI.getD (toNat (Z226.md a0 (((a1.getD 0 aa.zero).an).bD))) []) a1) (3:Int) (cond (Z228.md a1 (a0.aI.getD (toNat (Z226.md a0 (((a1.getD 0 aa.zero).an).bD))) [])) (4:Int) (5:Int)))) (cond (Z228.md (a0.aI.getD (toNat (Z226.md a0 (((a1.getD 0 aa.zero).an).bD))) []) a1) (3:Int) (cond (Z228.md a1 (a0.aI.getD (toNat (Z226.md a0 (((a1.getD 0 aa.zero).an).bD))) [])) (4:Int) (5:Int))))))
def gd (a0:aq)(a1:List aa):Prop:=(aq.Sm (2^21) a0)/\(bM (2^21) (fun y:aa=>aa.Sm (2^21) y) a1)
def R:=RR (p2 gd) (u2 md)
def aj {a0 a1}(h:gd a0 a1):R ((aq.r a0),(a1.map aa.row))=some (md a0 a1):=aO (a:=(a0,a1)) h
def aW:=CN [.agg tE,pL 141] oI RT.dec R
def bw (a0)(a1)(hg:gd a0 a1):F (aq.r a0) (a1.map aa.row)=ret (md a0 a1):=by
 obtain ⟨H0,H1⟩:=hg
 unfold F md
 try simp only [SS]
 refine ct (Z174.aj H1) ?_
 refine au ret (fun _=>rfl) (fun c1=>?_)
 have dc1:=c1
 try simp only [DC] at dc1
 try have tc1:=Z174.tr (by simpa using c1)
 refine ak (have:=(H1).1;dt) ?_
 refine ct (Z226.aj H0) ?_
 have fv2_:=Z226.fa a0 (((a1.getD 0 aa.zero).an).bD)
 refine au ret (fun _=>rfl) (fun c2=>?_)
 have dc2:=c2
 try simp only [DC] at dc2
 refine ak dt ?_
 refine ak (have:=(H0.1).1;dt) ?_
 refine ct (Z228.aj ⟨(bM.getD (z:=[]) H0.1 (by first | assumption | omega | (simp (disch:=omega) only [wi];omega) | (simp;omega))),H1⟩) ?_
 refine ak dt ?_
 refine ak (have:=(H0.1).1;dt) ?_
 refine ct (Z228.aj ⟨H1,(bM.getD (z:=[]) H0.1 (by first | assumption | omega | (simp (disch:=omega) only [wi];omega) | (simp;omega)))⟩) ?_
 refine au ret (fun c3=>?_) (fun c3=>?_)
 ·refine au ret (fun _=>rfl) (fun c4=>?_)
  refine au ret (fun _=>rfl) (fun c5=>?_)
  refine au ret (fun _=>rfl) (fun _=>rfl)
 ·refine au ret (fun _=>rfl) (fun c7=>?_)
  refine au ret (fun _=>rfl) (fun _=>rfl)
def af:cy 209 aW:=W2 43 F mix aF bw (.cons Z174.af (.cons Z226.af (.cons Z228.af .nil))) Tryz.func209
def fa (a0:aq)(a1:List aa):(md a0 a1=3->1<=a1.length/\0<=Z226.md a0 (a1.getD 0 aa.zero).an.bD)/\(md a0 a1=5->1<=a1.length/\0<=Z226.md a0 (a1.getD 0 aa.zero).an.bD):=by
 unfold md
 cases h:Z174.md a1
 ·exact ⟨fun h=>by simp at h,fun h=>by simp at h⟩
 ·have t:=Z174.tr h
  cases hf:decide (Z226.md a0 ((a1.getD 0 aa.zero).an.bD)<0)
  ·have:=of_decide_eq_false hf
   exact ⟨fun _=>⟨t.1,by omega⟩,fun _=>⟨t.1,by omega⟩⟩
  ·exact ⟨fun h=>by simp at h,fun h=>by simp at h⟩
def br (a0:aq)(a1:List aa):md a0 a1=Z100.md a0 a1:=by
 unfold md Z100.md
 first
 | (simp only [Z174.br,Z226.br,Z228.br];done)
 | (simp only [Z174.br,Z226.br,Z228.br];rfl)
 | rfl
end Z229
namespace Z230
inductive Pt where
 | p0 (a b:aC) (c d e f g h i j k l m n o:Int) (p:Bool) (q s t u v w y z w24 w25 w26 w27:Int) (w28:Bool) (w29 w30 w31 w32 w33 w34 w35 w36 w37 w38 w39 w40:Int) (w41:Bool)
def pid:Pt->Nat
 | .p0 ..=>4
def cj:Pt->List V
 | .p0 a b c d e f g h i j k l m n o p q s t u v w y z w24 w25 w26 w27 w28 w29 w30 w31 w32 w33 w34 w35 w36 w37 w38 w39 w40 w41=>[.sl none 141 a,.sl none 141 b,.cK 0 0,.int .i64 c]
def cg:Pt->List aV
 | .p0 a b c d e f g h i j k l m n o p q s t u v w y z w24 w25 w26 w27 w28 w29 w30 w31 w32 w33 w34 w35 w36 w37 w38 w39 w40 w41=>[.box [.int .i64 d,.int .i64 e,.int .i64 f,.int .i64 g,.int .i64 h,.int .i64 i,.int .i64 j,.int .i64 k,.nil,.int .i64 l,.nil,.int .i64 m,.int .i64 n,.nil,.int .i64 o,.bool p,.nil,.int .i64 q,.int .i64 s,.int .i64 t,.int .i64 u,.int .i64 v,.int .i64 w,.int .i64 y,.int .i64 z,.nil,.int .i64 w24,.nil,.int .i64 w25,.int .i64 w26,.nil,.int .i64 w27,.bool w28,.nil,.int .i64 w29,.int .i64 w30,.int .i64 w31,.int .i64 w32,.int .i64 w33,.int .i64 w34,.int .i64 w35,.int .i64 w36,.nil,.int .i64 w37,.nil,.int .i64 w38,.int .i64 w39,.nil,.int .i64 w40,.bool w41,.nil]]
def step (J:Pt->aH):Pt->aH
 | .p0 a b c d e f g h i j k l m n o p q s t u v w y z w24 w25 w26 w27 w28 w29 w30 w31 w32 w33 w34 w35 w36 w37 w38 w39 w40 w41=>(m2 c (a.length:Int) (m2 c (b.length:Int) (call (Z227.R ((aP.at a (toNat c)).an,(aP.at b (toNat c)).an)) fun v1=>(cond v1 (J (.p0 a b (i64.wrap (c+1)) d e f g h i j k l m n o p q s t u v w y z w24 w25 w26 w27 w28 w29 w30 w31 w32 w33 w34 w35 w36 w37 w38 w39 w40 w41)) (m2 c (a.length:Int) (call (Z126.R (aP.at a (toNat c))) fun v2=>(m2 c (b.length:Int) (call (Z126.R (aP.at b (toNat c))) fun v3=>(cond (decide (c>0)) (bZ (decide ((0:Int)<=(i64.wrap (c - 1)))) (bZ (decide ((i64.wrap (c - 1))<(a.length:Int))) (call (Z126.R (aP.at a (toNat (i64.wrap (c - 1))))) fun v4=>ret (((⟨v4,v2,v3⟩:bF),true):bF×Bool)))) (ret (((⟨(⟨(⟨0,0,0,0,0,0,0,0,(⟨[],0⟩:bB),(⟨[],0⟩:bB),0,(⟨[],0⟩:bB),false⟩:bX),[]⟩:aP),v2,v3⟩:bF),true):bF×Bool)))))))))))
def start (J:Pt->aH)(x0 x1:aC):aH:=(call (Z174.R x0) fun v1=>(cond (!v1) (ret (((⟨(⟨(⟨0,0,0,0,0,0,0,0,(⟨[],0⟩:bB),(⟨[],0⟩:bB),0,(⟨[],0⟩:bB),false⟩:bX),[]⟩:aP),(⟨(⟨0,0,0,0,0,0,0,0,(⟨[],0⟩:bB),(⟨[],0⟩:bB),0,(⟨[],0⟩:bB),false⟩:bX),[]⟩:aP),(⟨(⟨0,0,0,0,0,0,0,0,(⟨[],0⟩:bB),(⟨[],0⟩:bB),0,(⟨[],0⟩:bB),false⟩:bX),[]⟩:aP)⟩:bF),false):bF×Bool)) (call (Z174.R x1) fun v2=>(cond (!v2) (ret (((⟨(⟨(⟨0,0,0,0,0,0,0,0,(⟨[],0⟩:bB),(⟨[],0⟩:bB),0,(⟨[],0⟩:bB),false⟩:bX),[]⟩:aP),(⟨(⟨0,0,0,0,0,0,0,0,(⟨[],0⟩:bB),(⟨[],0⟩:bB),0,(⟨[],0⟩:bB),false⟩:bX),[]⟩:aP),(⟨(⟨0,0,0,0,0,0,0,0,(⟨[],0⟩:bB),(⟨[],0⟩:bB),0,(⟨[],0⟩:bB),false⟩:bX),[]⟩:aP)⟩:bF),false):bF×Bool)) (bZ (decide ((0:Int)<(x0.length:Int))) (bZ (decide ((0:Int)<(x1.length:Int))) (cond ((aP.at x0 0).an.bD != (aP.at x1 0).an.bD) (ret (((⟨(⟨(⟨0,0,0,0,0,0,0,0,(⟨[],0⟩:bB),(⟨[],0⟩:bB),0,(⟨[],0⟩:bB),false⟩:bX),[]⟩:aP),(⟨(⟨0,0,0,0,0,0,0,0,(⟨[],0⟩:bB),(⟨[],0⟩:bB),0,(⟨[],0⟩:bB),false⟩:bX),[]⟩:aP),(⟨(⟨0,0,0,0,0,0,0,0,(⟨[],0⟩:bB),(⟨[],0⟩:bB),0,(⟨[],0⟩:bB),false⟩:bX),[]⟩:aP)⟩:bF),false):bF×Bool)) (call (Z228.R (x0,x1)) fun v3=>(cond v3 (ret (((⟨(⟨(⟨0,0,0,0,0,0,0,0,(⟨[],0⟩:bB),(⟨[],0⟩:bB),0,(⟨[],0⟩:bB),false⟩:bX),[]⟩:aP),(⟨(⟨0,0,0,0,0,0,0,0,(⟨[],0⟩:bB),(⟨[],0⟩:bB),0,(⟨[],0⟩:bB),false⟩:bX),[]⟩:aP),(⟨(⟨0,0,0,0,0,0,0,0,(⟨[],0⟩:bB),(⟨[],0⟩:bB),0,(⟨[],0⟩:bB),false⟩:bX),[]⟩:aP)⟩:bF),false):bF×Bool)) (call (Z228.R (x1,x0)) fun v4=>(cond v4 (ret (((⟨(⟨(⟨0,0,0,0,0,0,0,0,(⟨[],0⟩:bB),(⟨[],0⟩:bB),0,(⟨[],0⟩:bB),false⟩:bX),[]⟩:aP),(⟨(⟨0,0,0,0,0,0,0,0,(⟨[],0⟩:bB),(⟨[],0⟩:bB),0,(⟨[],0⟩:bB),false⟩:bX),[]⟩:aP),(⟨(⟨0,0,0,0,0,0,0,0,(⟨[],0⟩:bB),(⟨[],0⟩:bB),0,(⟨[],0⟩:bB),false⟩:bX),[]⟩:aP)⟩:bF),false):bF×Bool)) (J (.p0 x0 x1 0 0 0 0 0 0 0 0 0 0 0 0 0 false 0 0 0 0 0 0 0 0 0 0 0 0 false 0 0 0 0 0 0 0 0 0 0 0 0 false)))))))))))))
def live:Nat->Live:=fun i=>match i with | 4=>[(0,none),(1,none),(4,none),(6,none)] | _=>[]
def pt (a b:aC)(c:Int):Pt:=Pt.p0 a b c 0 0 0 0 0 0 0 0 0 0 0 0 false 0 0 0 0 0 0 0 0 0 0 0 0 false 0 0 0 0 0 0 0 0 0 0 0 0 false
def md (a0 a1:List aa):az×Bool:=(cond (!(Z174.md a0)) (az.zero,false) (cond (!(Z174.md a1)) (az.zero,false) (cond (((a0.getD 0 aa.zero).an).bD != ((a1.getD 0 aa.zero).an).bD) (az.zero,false) (cond (Z228.md a0 a1) (az.zero,false) (cond (Z228.md a1 a0) (az.zero,false) (Z101.tI a0 a1 (Z101.fk a0 a1),true))))))
def gd (a0 a1:List aa):Prop:=bM (2^21) (fun y:aa=>aa.Sm (2^21) y) a0/\bM (2^21) (fun y:aa=>aa.Sm (2^21) y) a1
def R:=RR (p2 gd) (u2 md)
def aj {a0 a1}(h:gd a0 a1):R ((a0.map aa.row),(a1.map aa.row))=some ((az.r (md a0 a1).1),(md a0 a1).2):=aO (a:=(a0,a1)) h
def aW:=CN [pL 141,pL 141] (.iH [(true,f143),(false,[fB])]) RT.dec R
def bw (a0)(a1)(hg:gd a0 a1):∃n,start (iter step n) (a0.map aa.row) (a1.map aa.row)=ret ((az.r (md a0 a1).1),(md a0 a1).2):=by
 unfold gd at hg
 obtain ⟨H0,H1⟩:=hg
 have hl0:=H0.1
 have hl1:=H1.1
 have key:Z101.fk a0 a1<a0.length->Z101.fk a0 a1<a1.length->Z98.md (a0.getD (Z101.fk a0 a1) aa.zero).an (a1.getD (Z101.fk a0 a1) aa.zero).an=false->∀d k,k+d=Z101.fk a0 a1->∃n,iter step n (pt (a0.map aa.row) (a1.map aa.row) (k:Int))=ret ((az.r (Z101.tI a0 a1 (Z101.fk a0 a1)),true):bF×Bool):=by
  intro hn0 hn1 hne d
  have hR:∀k,k<a0.length->k<a1.length->Z227.R (aE.r (a0.getD k aa.zero).an,aE.r (a1.getD k aa.zero).an)=some (Z98.md (a0.getD k aa.zero).an (a1.getD k aa.zero).an):=by
   intro k h0 h1
   rw [Z227.aj ⟨(bM.getD (z:=aa.zero) H0 h0).1,(bM.getD (z:=aa.zero) H1 h1).1⟩,Z227.md_eq,Z98.md_eq]
  induction d with
  | zero=>
   intro k hk
   obtain rfl:k=Z101.fk a0 a1:=by omega
   generalize hkk:Z101.fk a0 a1=k at hn0 hn1 hne ⊢
   refine ⟨1,?_⟩
   show step (iter step 0) _=_
   have q1:(0:Int)<=(k:Int):=by omega
   have q2:(k:Int)<(a0.length:Int):=by omega
   have q3:(k:Int)<(a1.length:Int):=by omega
   simp only [pt,step,MM,S0,aa.rs,aE.rs,q1,q2,q3,decide_true,bg]
   rw [call_eq (hR k hn0 hn1),hne,bq,call_eq (Z126.aj (a0:=a0.getD k aa.zero) (bM.getD (z:=aa.zero) H0 hn0)),call_eq (Z126.aj (a0:=a1.getD k aa.zero) (bM.getD (z:=aa.zero) H1 hn1))]
   cases k with
   | zero=>rfl
   | succ k=>
    have q4:((k+1:Nat):Int)>0:=by omega
    have q5:i64.wrap (((k+1:Nat):Int) - 1)=(k:Int):=by rw [wi _ (by omega)];omega
    have q6:(0:Int)<=(k:Int):=by omega
    have q7:(k:Int)<(a0.length:Int):=by omega
    simp only [q4,q5,q6,q7,decide_true,bg,S0,aa.rs]
    rw [call_eq (Z126.aj (a0:=a0.getD k aa.zero) (bM.getD (z:=aa.zero) H0 (by omega)))]
    rfl
  | succ d ih=>
   intro k hk
   obtain ⟨n,hn⟩:=ih (k+1) (by omega)
   refine ⟨n+1,?_⟩
   show step (iter step n) _=_
   have q1:(0:Int)<=(k:Int):=by omega
   have q2:(k:Int)<(a0.length:Int):=by omega
   have q3:(k:Int)<(a1.length:Int):=by omega
   simp only [pt,step,MM,S0,aa.rs,aE.rs,q1,q2,q3,decide_true,bg]
   rw [call_eq (hR k (by omega) (by omega)),(Z101.pQ a0 a1).1 k (by omega),bg,wi _ (by omega)]
   exact hn
 unfold start md
 simp only [S0,aa.rs,aE.rs]
 refine eU (Z174.md a0) (Z174.aj H0) ?_
 cases hc0:Z174.md a0
 ·exact ⟨0,rfl⟩
 simp only [Bool.not_true,bq]
 refine eU (Z174.md a1) (Z174.aj H1) ?_
 cases hc1:Z174.md a1
 ·exact ⟨0,rfl⟩
 have t0:=Z174.tr hc0
 have t1:=Z174.tr hc1
 simp only [Bool.not_true,bq]
 refine dH (decide_eq_true (by omega)) (dH (decide_eq_true (by omega)) ?_)
 cases ((a0.getD 0 aa.zero).an.bD != (a1.getD 0 aa.zero).an.bD)
 case true=>exact ⟨0,rfl⟩
 simp only [bq]
 refine eU (Z228.md a0 a1) (Z228.aj ⟨H0,H1⟩) ?_
 cases hp0:Z228.md a0 a1
 case true=>exact ⟨0,rfl⟩
 simp only [bq]
 refine eU (Z228.md a1 a0) (Z228.aj ⟨H1,H0⟩) ?_
 cases hp1:Z228.md a1 a0
 case true=>exact ⟨0,rfl⟩
 simp only [bq]
 rw [Z228.br] at hp0 hp1
 obtain ⟨h1,h2,h3⟩:=Z101.lB hp0 hp1
 exact key h1 h2 h3 (Z101.fk a0 a1) 0 (by omega)
def af:cy 211 aW:=L2 74 pid cj cg live step start mix aF bw (.cons Z174.af (.cons Z228.af (.cons Z227.af (.cons Z126.af .nil)))) Tryz.func211
def gb {a0 a1:List aa}(hg:gd a0 a1):az.Sm (2^21) ((md a0 a1).1):=by
 unfold gd at hg;unfold md
 have z:az.Sm (2^21) az.zero:=⟨⟨⟨bM.nil,bM.nil,bM.nil⟩,bM.nil⟩,⟨⟨bM.nil,bM.nil,bM.nil⟩,bM.nil⟩,⟨⟨bM.nil,bM.nil,bM.nil⟩,bM.nil⟩⟩
 cases Z174.md a0
 ·exact z
 cases Z174.md a1
 ·exact z
 cases ((a0.getD 0 aa.zero).an.bD != (a1.getD 0 aa.zero).an.bD)
 case true=>exact z
 cases h1:Z228.md a0 a1
 case true=>exact z
 cases h2:Z228.md a1 a0
 case true=>exact z
 rw [Z228.br] at h1 h2
 obtain ⟨h3,h4,_⟩:=Z101.lB h1 h2
 exact Z101.vY hg.1 hg.2 h3 h4
def br (a0 a1:List aa):md a0 a1=Z101.md a0 a1:=by
 unfold md Z101.md
 first
 | (simp only [Z174.br,Z228.br,Z227.md_eq,Z98.md_eq];done)
 | (simp only [Z174.br,Z228.br,Z227.md_eq,Z98.md_eq];rfl)
 | rfl
end Z230
namespace Z231
def F (x0:bu)(x1:aC):aH:=(call (Z129.R x0) fun v1=>(call (Z229.R (x0,x1)) fun v2=>(cond (v2==1) (cond (decide ((x0.aI.length:Int)>=8)) (ret ((v1,6):bu×Int)) (call (Z127.R x1) fun v3=>(bZ (eP (((v1.aI.length:Int)+1)*24)) (ret (((⟨(v1.aI++[[L.sl v3]]),v1.bn⟩:bu),v2):bu×Int))))) (cond (v2==3) (bZ (decide ((0:Int)<(x1.length:Int))) (call (Z226.R (x0,(aP.at x1 0).an.bD)) fun v4=>(call (Z127.R x1) fun v5=>(m2 v4 (v1.aI.length:Int) (ret (((⟨(List.set v1.aI (toNat v4) [L.sl v5]),v1.bn⟩:bu),v2):bu×Int)))))) (cond (v2==5) (bZ (decide ((0:Int)<(x1.length:Int))) (call (Z226.R (x0,(aP.at x1 0).an.bD)) fun v6=>(m2 v6 (x0.aI.length:Int) (call (Z230.R ((oy x0.aI (toNat v6)),x1)) fun v7=>(cond v7.2 (cond (decide ((x0.bn.length:Int)<8)) (bZ (eP (((v1.bn.length:Int)+1)*600)) (ret (((⟨v1.aI,(v1.bn++[(bF.enc v7.1)])⟩:bu),v2):bu×Int))) (ret ((v1,v2):bu×Int))) (ret ((v1,v2):bu×Int))))))) (ret ((v1,v2):bu×Int)))))))
def md (a0:aq)(a1:List aa):aq×Int:=(cond ((Z229.md a0 a1)==1) (cond (decide ((a0.aI.length:Int)>=8)) (a0,6) ((⟨(a0.aI++[a1]),a0.bn⟩:aq),(Z229.md a0 a1))) (cond ((Z229.md a0 a1)==3) ((⟨(List.set a0.aI (toNat (Z226.md a0 (((a1.getD 0 aa.zero).an).bD))) a1),a0.bn⟩:aq),(Z229.md a0 a1)) (cond ((Z229.md a0 a1)==5) (cond ((Z230.md (a0.aI.getD (toNat (Z226.md a0 (((a1.getD 0 aa.zero).an).bD))) []) a1).2) (cond (decide ((a0.bn.length:Int)<8)) ((⟨a0.aI,(a0.bn++[(Z230.md (a0.aI.getD (toNat (Z226.md a0 (((a1.getD 0 aa.zero).an).bD))) []) a1).1])⟩:aq),(Z229.md a0 a1)) (a0,(Z229.md a0 a1))) (a0,(Z229.md a0 a1))) (a0,(Z229.md a0 a1)))))
def gd (a0:aq)(a1:List aa):Prop:=(aq.Sm (2^21) a0)/\(bM (2^21) (fun y:aa=>aa.Sm (2^21) y) a1)
def R:=RR (p2 gd) (u2 md)
def aj {a0 a1}(h:gd a0 a1):R ((aq.r a0),(a1.map aa.row))=some ((aq.r (md a0 a1).1),(md a0 a1).2):=aO (a:=(a0,a1)) h
def aW:=CN [.agg tE,pL 141] (.iH [(true,f37),(false,[fI])]) RT.dec R
def bw (a0)(a1)(hg:gd a0 a1):F (aq.r a0) (a1.map aa.row)=ret ((aq.r (md a0 a1).1),(md a0 a1).2):=by
 obtain ⟨H0,H1⟩:=hg
 unfold F md
 try simp only [SS]
 refine ct (Z129.aj H0) ?_
 try simp only [SS]
 refine ct (Z229.aj ⟨H0,H1⟩) ?_
 have fv2_:=Z229.fa a0 a1
 refine au (fun b:aq×Int=>ret (((aq.r b.1),b.2):bu×Int)) (fun c1=>?_) (fun c1=>?_)
 ·have dc1:=c1
  try simp only [DC] at dc1
  refine au (fun b:aq×Int=>ret (((aq.r b.1),b.2):bu×Int)) (fun c2=>?_) (fun c2=>?_)
  ·all_goals exact fz
  ·have dc2:=c2
   try simp only [DC] at dc2
   refine ct (Z127.aj H1) ?_
   try simp only [SS]
   refine ak (have:=(H0.1).1;lm) ?_
   all_goals exact fz
 ·have dc1:=c1
  try simp only [DC] at dc1
  refine au (fun b:aq×Int=>ret (((aq.r b.1),b.2):bu×Int)) (fun c3=>?_) (fun c3=>?_)
  ·have dc3:=c3
   try simp only [DC] at dc3
   refine ak (have:=(H1).1;dt) ?_
   refine ct (Z226.aj H0) ?_
   have fv4_:=Z226.fa a0 (((a1.getD 0 aa.zero).an).bD)
   refine ct (Z127.aj H1) ?_
   try simp only [SS]
   refine ak dt ?_
   refine ak (have:=(H0.1).1;dt) ?_
   all_goals exact fz
  ·have dc3:=c3
   try simp only [DC] at dc3
   refine au (fun b:aq×Int=>ret (((aq.r b.1),b.2):bu×Int)) (fun c4=>?_) (fun c4=>?_)
   ·have dc4:=c4
    try simp only [DC] at dc4
    refine ak (have:=(H1).1;dt) ?_
    refine ct (Z226.aj H0) ?_
    have fv6_:=Z226.fa a0 (((a1.getD 0 aa.zero).an).bD)
    refine ak dt ?_
    refine ak (have:=(H0.1).1;dt) ?_
    refine ct (Z230.aj ⟨(bM.getD (z:=[]) H0.1 (by first | assumption | omega | (simp (disch:=omega) only [wi];omega) | (simp;omega))),H1⟩) ?_
    try simp only [SS]
    refine au (fun b:aq×Int=>ret (((aq.r b.1),b.2):bu×Int)) (fun c5=>?_) (fun c5=>?_)
    ·refine au (fun b:aq×Int=>ret (((aq.r b.1),b.2):bu×Int)) (fun c6=>?_) (fun c6=>?_)
     ·have dc6:=c6
      try simp only [DC] at dc6
      refine ak (have:=(H0.2).1;lm) ?_
      all_goals exact fz
     ·all_goals exact fz
    ·all_goals exact fz
   ·all_goals exact fz
def af:cy 170 aW:=W2 77 F mix aF bw (.cons Z129.af (.cons Z229.af (.cons Z127.af (.cons Z226.af (.cons Z230.af .nil))))) Tryz.func170
def gb {a0:aq}{a1:List aa}(hg:gd a0 a1):aq.Sm (2^21) ((md a0 a1).1):=by
 unfold gd at hg;unfold md
 obtain ⟨⟨h1,h2⟩,h3⟩:=hg
 simp only [Bool.cond_eq_ite]
 repeat' split
 all_goals (try simp only [decide_eq_true_eq,ge_iff_le] at *)
 all_goals first
  | exact ⟨h1,h2⟩
  | exact ⟨bM.app (a:=7) (b:=1) ⟨by omega,h1.2⟩ (bM.one h3) (by decide),h2⟩
  | exact ⟨bM.set h1 h3,h2⟩
  | exact ⟨h1,bM.app (a:=7) (b:=1) ⟨by omega,h2.2⟩ (bM.one (Z230.gb ⟨bM.vq h1 bM.nil,h3⟩)) (by decide)⟩
def br (a0:aq)(a1:List aa):md a0 a1=Z102.md a0 a1:=by
 unfold md Z102.md
 first
 | (simp only [Z229.br,Z226.br,Z230.br];done)
 | (simp only [Z229.br,Z226.br,Z230.br];rfl)
 | rfl
end Z231
namespace Z232
inductive Pt where
 | p0 (a b:aC) (c d:Int)
def pid:Pt->Nat
 | .p0 ..=>4
def cj:Pt->List V
 | .p0 a b c d=>[.sl none 190 a,.sl none 190 b,.int .i64 c,.int .i64 d]
def cg:Pt->List aV
 | .p0 a b c d=>[]
def step (J:Pt->aH):Pt->aH
 | .p0 a b c d=>(cond (decide (d<c)) (m2 d (a.length:Int) (m2 d (b.length:Int) (cond (!((((bk.at a (toNat d)).gI:Int)==(bk.at b (toNat d)).gI)&&((((bk.at a (toNat d)).jc:Int)==(bk.at b (toNat d)).jc)&&true))) bh (J (.p0 a b c (i64.wrap (d+1))))))) eI)
def start (J:Pt->aH)(x0 x1:aC):aH:=(cond ((x0.length:Int) != (x1.length:Int)) bh (J (.p0 x0 x1 (x0.length:Int) 0)))
def live:Nat->Live:=fun i=>match i with | 4=>[(0,none),(1,none),(12,none),(13,none)] | _=>[]
def md (a0 a1:List bk):Bool:=(bif ((a0.length:Int) != (a1.length:Int)) then (false:Bool) else (ec (S:=Unit) (β:=Bool) (fun (i2:Nat) (s4:Unit)=>(cond (!((((a0.getD i2 bk.zero).gI:Int)==(a1.getD i2 bk.zero).gI)&&((((a0.getD i2 bk.zero).jc:Int)==(a1.getD i2 bk.zero).jc)&&true))) (.inr (false:Bool)) (.inl ()))) (fun (s4:Unit)=>(true:Bool)) a0.length 0 ()))
def gd (a0 a1:List bk):Prop:=(bM (2^21) (fun y:bk=>bk.Sm (2^21) y) a0)/\(bM (2^21) (fun y:bk=>bk.Sm (2^21) y) a1)
def R:=RR (p2 gd) (u2 md)
def aj {a0 a1}(h:gd a0 a1):R ((a0.map bk.row),(a1.map bk.row))=some (md a0 a1):=aO (a:=(a0,a1)) h
def aW:=CN [pL 190,pL 190] oB RT.dec R
def bw (a0)(a1)(hg:gd a0 a1):∃n,start (iter step n) (a0.map bk.row) (a1.map bk.row)=ret (md a0 a1):=by
 obtain ⟨H0,H1⟩:=hg
 unfold start md
 try simp only [SS]
 refine gP ret (fun _=>⟨0,rfl⟩) (fun c1=>?_)
 have dc1:=c1
 try simp only [DC] at dc1
 have Bh3:a0.length<=maxLen:=(by
   have:=(H0).1
   try simp only [maxLen] at *
   omega)
 refine dM (p:=Pt.p0 (a0.map bk.row) (a1.map bk.row) (a0.length:Int) 0) fz ?_
 refine cm (pt:=fun (i2:Nat) (s4:Unit)=>Pt.p0 (a0.map bk.row) (a1.map bk.row) (a0.length:Int) (i2:Int)) (s:=(():Unit)) (out:=ret) (fun _ _=>True) (fun J i2 s4 h3 hih3=>?_) (fun s4 hih3=>?_) trivial
 ·simp only [step,SS]
  have bb_:=Bh3
  simp only [maxLen] at bb_
  have:=(H0).1
  refine bz.yes (by apply decide_eq_true;omega) ?_
  refine bz.yes aJ ?_
  refine bz.yes (aN h3) ?_
  refine bz.yes aJ ?_
  refine bz.yes (have:=(H1).1;dt) ?_
  refine bz.bif (fun _=>bz.inr rfl) (fun c5=>?_)
  refine bz.inl trivial ?_
  rw [aG h3 Bh3]
  all_goals exact fz
 ·simp only [step,SS]
  have:=(H0).1
  refine dx (by apply decide_eq_false;omega) ?_
  refine ⟨0,?_⟩
  all_goals exact fz
def af:cy 302 aW:=L2 26 pid cj cg live step start mix aF bw .nil Tryz.func302
def md_eq (a0 a1:List bk):md a0 a1=dV a0 a1:=by
 unfold md
 refine jZ (bk.zero) (fun i s h h2=>?_) (fun s=>rfl)
 simp only [bne,ff,bool_beq,eM,bk.eqc]
 cases dV _ _<;>rfl
end Z232
namespace Z233
def F (x0 x1:aP):aH:=(call (Z227.R (x0.an,x1.an)) fun v1=>(cond v1 (call (Z232.R (x0.bY,x1.bY)) fun v2=>ret (v2:Bool)) bh))
def md (a0 a1:aa):Bool:=(cond (Z227.md a0.an a1.an) ((Z232.md a0.bY a1.bY):Bool) (false:Bool))
def gd (a0 a1:aa):Prop:=(aa.Sm (2^21) a0)/\(aa.Sm (2^21) a1)
def R:=RR (p2 gd) (u2 md)
def aj {a0 a1}(h:gd a0 a1):R ((aa.r a0),(aa.r a1))=some (md a0 a1):=aO (a:=(a0,a1)) h
def aW:=CN [.agg kD,.agg kD] oB RT.dec R
def bw (a0)(a1)(hg:gd a0 a1):F (aa.r a0) (aa.r a1)=ret (md a0 a1):=by
 obtain ⟨H0,H1⟩:=hg
 unfold F md
 try simp only [SS]
 refine ct (Z227.aj ⟨H0.1,H1.1⟩) ?_
 refine au ret (fun c1=>?_) (fun _=>rfl)
 refine ct (Z232.aj ⟨H0.2,H1.2⟩) ?_
 all_goals exact fz
def af:cy 276 aW:=W2 17 F mix aF bw (.cons Z227.af (.cons Z232.af .nil)) Tryz.func276
def md_eq (a0 a1:aa):md a0 a1=dV a0 a1:=by
 unfold md
 cases a0;cases a1
 rw [Bool.eq_iff_iff]
 simp [cZ,eM,aa.mk.injEq,Z227.md_eq,Z232.md_eq]
 try (constructor<;>(intro h;simp_all))
end Z233
namespace Z234
def F (x0:bF):aH:=(call (Z227.R (x0.fA.an,x0.fB.an)) fun v1=>(cond v1 bh (call (Z233.R (x0.aQ,(⟨(⟨0,0,0,0,0,0,0,0,(⟨[],0⟩:bB),(⟨[],0⟩:bB),0,(⟨[],0⟩:bB),false⟩:bX),[]⟩:aP))) fun v2=>(cond v2 (call (Z162.R x0.fA) fun v3=>(cond v3 (call (Z162.R x0.fB) fun v4=>(cond v4 (ret ((x0.fA.an.bD==x0.fB.an.bD):Bool)) bh)) bh)) (call (Z172.R (x0.aQ.an,x0.fA)) fun v5=>(cond v5 (call (Z172.R (x0.aQ.an,x0.fB)) fun v6=>ret (v6:Bool)) bh))))))
def md (a0:az):Bool:=(cond (Z227.md a0.fA.an a0.fB.an) (false:Bool) (cond (Z233.md a0.aQ (⟨(⟨0,0,0,0,0,0,0,0,(⟨[],0⟩:aM),(⟨[],0⟩:aM),0,(⟨[],0⟩:aM),false⟩:aE),[]⟩:aa)) (cond (Z162.md a0.fA) (cond (Z162.md a0.fB) ((a0.fA.an.bD==a0.fB.an.bD):Bool) (false:Bool)) (false:Bool)) (cond (Z172.md a0.aQ.an a0.fA) ((Z172.md a0.aQ.an a0.fB):Bool) (false:Bool))))
def gd (a0:az):Prop:=(az.Sm (2^21) a0)
def R:=RR gd md
def aj {a0}(h:gd a0):R (az.r a0)=some (md a0):=aO (a:=a0) h
def aW:=CN [.agg sS] oB RT.dec R
def bw (a0)(hg:gd a0):F (az.r a0)=ret (md a0):=by
 unfold gd at hg
 have H0:=hg
 unfold F md
 try simp only [SS]
 refine ct (Z227.aj ⟨H0.2.1.1,H0.2.2.1⟩) ?_
 refine au ret (fun _=>rfl) (fun c1=>?_)
 refine ct (Z233.aj (a1:=(⟨(⟨0,0,0,0,0,0,0,0,(⟨[],0⟩:aM),(⟨[],0⟩:aM),0,(⟨[],0⟩:aM),false⟩:aE),[]⟩:aa)) ⟨H0.1,⟨⟨bM.nil,bM.nil,bM.nil⟩,bM.nil⟩⟩) ?_
 refine au ret (fun c2=>?_) (fun c2=>?_)
 ·refine ct (Z162.aj H0.2.1) ?_
  refine au ret (fun c3=>?_) (fun _=>rfl)
  refine ct (Z162.aj H0.2.2) ?_
  refine au ret (fun c4=>?_) (fun _=>rfl)
  all_goals exact fz
 ·refine ct (Z172.aj ⟨H0.1.1,H0.2.1⟩) ?_
  refine au ret (fun c5=>?_) (fun _=>rfl)
  refine ct (Z172.aj ⟨H0.1.1,H0.2.2⟩) ?_
  all_goals exact fz
def af:cy 249 aW:=W1 49 F mix aF bw (.cons Z227.af (.cons Z233.af (.cons Z162.af (.cons Z172.af .nil)))) Tryz.func249
def br (a0:az):md a0=Z115.md a0:=by
 unfold md Z115.md
 first
 | (simp only [Z162.br,Z172.br,Z227.md_eq,Z233.md_eq,Z98.md_eq,Z114.md_eq];done)
 | (simp only [Z162.br,Z172.br,Z227.md_eq,Z233.md_eq,Z98.md_eq,Z114.md_eq];rfl)
 | rfl
end Z234
namespace Z235
def F (x0:bF):aH:=(call (Z234.R x0) fun v1=>(cond (!v1) (ret ((-1):Int)) (ret (x0.fA.an.bD:Int))))
def md (a0:az):Int:=(cond (!(Z234.md a0)) ((-1):Int) (a0.fA.an.bD:Int))
def gd (a0:az):Prop:=(az.Sm (2^21) a0)
def R:=RR gd md
def aj {a0}(h:gd a0):R (az.r a0)=some (md a0):=aO (a:=a0) h
def aW:=CN [.agg sS] oI RT.dec R
def bw (a0)(hg:gd a0):F (az.r a0)=ret (md a0):=by
 unfold gd at hg
 have H0:=hg
 unfold F md
 try simp only [SS]
 refine ct (Z234.aj H0) ?_
 refine au ret (fun _=>rfl) (fun c1=>?_)
 all_goals exact fz
def af:cy 214 aW:=W1 10 F mix aF bw (.cons Z234.af .nil) Tryz.func214
def br (a0:az):md a0=Z116.md a0:=by
 unfold md Z116.md
 first
 | (simp only [Z234.br];done)
 | (simp only [Z234.br];rfl)
 | rfl
end Z235
namespace Z236
def F (x0:bF)(x1:List L):aH:=(call (Z235.R x0) fun v1=>ret ((v1==(gi x1)):Bool))
def pats:List gj:=[.agg [aB,aB,aB,aB,aB,aB,aB,aB,.sl 3,aB,.sl 3,aB,aB,.sl 3,aB,.bool,.sl 190,aB,aB,aB,aB,aB,aB,aB,aB,.sl 3,aB,.sl 3,aB,aB,.sl 3,aB,.bool,.sl 190,aB,aB,aB,aB,aB,aB,aB,aB,.sl 3,aB,.sl 3,aB,aB,.sl 3,aB,.bool,.sl 190],.ptr [aB]]
def res:RP:=.one (.rd (.bool))
def md (a0:az)(a1:Int):Bool:=(((Z235.md a0)==a1):Bool)
def gd (a0:az)(a1:Int):Prop:=(az.Sm (2^21) a0)
def acc (ls:List L):bF×Int:=((bF.dec ls),(gi (cJ 1 (aA 51 ls))))
def R:(bF×Int)->Option Bool:=RR (p2 gd) (u2 md)
def aj {a0 a1}(h:gd a0 a1):R ((az.r a0),a1)=some (md a0 a1):=aO (a:=(a0,a1)) h
def aW:fT:=CN pats res acc R
def bw (a0:az)(a1:Int)(p1:List L)(e1:a1=(gi p1))(hg:gd a0 a1):F (az.r a0) p1=ret ((md a0 a1):Bool):=by
 unfold gd at hg
 have H0:=hg
 unfold F md
 try simp only [SS,<-e1]
 refine ct (Z235.aj H0) ?_
 all_goals exact fz
def ox (ls:List L)(a:az×Int)(e:acc ls=Im.im a)(hg:(p2 gd) a):∃n:Nat,F (bF.dec ls) (cJ 1 (aA 51 ls))=ret (Im.im ((u2 md) a)):=by
 have e0:(az.r a.1)=(bF.dec ls):=(congrArg (fun x=>x.1) e.symm)
 have hn:=bw a.1 a.2 (cJ 1 (aA 51 ls)) (congrArg (fun x=>x.2) e.symm) hg
 refine ⟨0,?_⟩
 rw [<-e0]
 exact hn
def af:cy 213 aW:=VP (live:=fun _=>[]) (nt:=8) (accr:=fun ls=>((bF.dec ls),(cJ 1 (aA 51 ls)))) (run:=fun _ x=>F x.1 x.2) mix aF (.cons Z235.af .nil) Tryz.func213 (by kernel_rfl) (fun _ _=>by kernel_rfl) (fun ls a _ e hg=>ox ls a e hg)
end Z236
namespace Z237
inductive Pt where
 | p0 (a:aC) (b:List L) (c d:Int)
def pid:Pt->Nat
 | .p0 ..=>2
def cj:Pt->List V
 | .p0 a b c d=>[.sl none 143 a,.fn 213 [.dB none [aB] b 0],.int .i64 c,.int .i64 d]
def cg:Pt->List aV
 | .p0 a b c d=>[]
def step (J:Pt->aH):Pt->aH
 | .p0 a b c d=>(cond (decide (d<c)) (m2 d (a.length:Int) (call (Z236.R ((bF.at a (toNat d)),(gi b))) fun v1=>(cond v1 (ret (d:Int)) (J (.p0 a b c (i64.wrap (d+1))))))) (ret ((-1):Int)))
def start (J:Pt->aH)(x0:aC)(x1:List L):aH:=J (.p0 x0 x1 (x0.length:Int) 0)
def live:Nat->Live:=fun i=>match i with | 2=>[(0,none),(1,none),(7,none),(8,none)] | _=>[]
def pats:List gj:=[.rd (.sl 143),.fn 213 [[aB]]]
def res:RP:=.one (.rd (.int .i64))
abbrev E:Env:={ T:=assoc kL,G:=dm [(213,Z236.aW)],nt:=19 }
def step_eq (I:cH)(p:Pt):cR E live I (pid p) (bQ Tryz.f248) (fE (live (pid p)) (cj p) (cg p)) (cG E Tryz.f248 res)=step (fun q=>I (pid q) (cj q) (cg q)) p:=by
 cases p<;>kernel_rfl
def start_eq (I:cH)(ls:List L):eS E live I (bQ Tryz.f248) (cW pats ls) (cG E Tryz.f248 res)=start (fun q=>I (pid q) (cj q) (cg q)) (ls.headD .hole).aS (cJ 1 (aA 1 ls)):=by kernel_rfl
def run_eq (n:Nat)(ls:List L):eN E live Tryz.f248 res n (cW pats ls)=start (iter step n) (ls.headD .hole).aS (cJ 1 (aA 1 ls)):=cB (id:=pid) (vs:=cj) (hs:=cg) (step:=step) (start:=fun J=>start J (ls.headD .hole).aS (cJ 1 (aA 1 ls))) step_eq (fun I=>start_eq I ls) n
def md (a0:List az)(a1:Int):Int:=(dR (S:=Unit) (β:=Int) (fun (i1:Nat) (y1:az) (s3:Unit)=>(cond (Z236.md y1 a1) (.inr ((i1:Int):Int)) (.inl ()))) (fun (s3:Unit)=>((-1):Int)) 0 a0 ())
def gd (a0:List az)(a1:Int):Prop:=(bM (2^21) (fun y:az=>az.Sm (2^21) y) a0)
def acc (ls:List L):aC×Int:=((ls.headD .hole).aS,(gi (cJ 1 (aA 1 ls))))
def R:(aC×Int)->Option Int:=RR (p2 gd) (u2 md)
def aj {a0 a1}(h:gd a0 a1):R ((a0.map az.row),a1)=some (md a0 a1):=aO (a:=(a0,a1)) h
def aW:fT:=CN pats res acc R
def bw (a0:List az)(a1:Int)(p1:List L)(e1:a1=(gi p1))(hg:gd a0 a1):∃n,start (iter step n) (a0.map az.row) p1=ret ((md a0 a1):Int):=by
 unfold gd at hg
 have H0:=hg
 unfold start md
 try simp only [SS,<-e1]
 have Bh2:a0.length<=maxLen:=(by
   have:=(H0).1
   try simp only [maxLen] at *
   omega)
 refine ex_eq (out:=ret) (cU (z:=az.zero)) ?_
 refine dM (p:=Pt.p0 (a0.map az.row) p1 (a0.length:Int) 0) fz ?_
 refine cm (pt:=fun (i1:Nat) (s3:Unit)=>Pt.p0 (a0.map az.row) p1 (a0.length:Int) (i1:Int)) (s:=(():Unit)) (out:=ret) (fun _ _=>True) (fun J i1 s3 h2 hih2=>?_) (fun s3 hih2=>?_) trivial
 ·simp only [step,SS,<-e1]
  have bb_:=Bh2
  simp only [maxLen] at bb_
  have:=(H0).1
  refine bz.yes (by apply decide_eq_true;omega) ?_
  refine bz.yes aJ ?_
  refine bz.yes (aN h2) ?_
  refine cr (Z236.aj (bM.getD (z:=az.zero) H0 h2)) ?_
  refine bz.bif (fun c4=>?_) (fun c4=>?_)
  ·refine bz.inr ?_
   all_goals exact fz
  ·refine bz.inl trivial ?_
   rw [aG h2 Bh2]
   all_goals exact fz
 ·simp only [step,SS,<-e1]
  have:=(H0).1
  refine dx (by apply decide_eq_false;omega) ?_
  refine ⟨0,?_⟩
  all_goals exact fz
def ox (ls:List L)(a:List az×Int)(e:acc ls=Im.im a)(hg:(p2 gd) a):∃n:Nat,start (iter step n) ((ls.headD .hole).aS) (cJ 1 (aA 1 ls))=ret (Im.im ((u2 md) a)):=by
 have e0:(a.1.map az.row)=(ls.headD .hole).aS:=(congrArg (fun x=>x.1) e.symm)
 obtain ⟨n,hn⟩:=bw a.1 a.2 (cJ 1 (aA 1 ls)) (congrArg (fun x=>x.2) e.symm) hg
 refine ⟨n,?_⟩
 rw [<-e0]
 exact hn
def af:cy 248 aW:=VP (accr:=fun ls=>((ls.headD .hole).aS,(cJ 1 (aA 1 ls)))) (run:=fun n x=>start (iter step n) x.1 x.2) mix aF (.cons Z236.af .nil) Tryz.func248 (by kernel_rfl) run_eq (fun ls a _ e hg=>ox ls a e hg)
def fa (a0:List az)(a1:Int):-1<=md a0 a1/\md a0 a1<(a0.length:Int):=by
 unfold md
 refine fW ?_ _ _
 all_goals
  intro i x s b h
  revert h
  simp only [Bool.cond_eq_ite]
  repeat' split
  all_goals (intro h;first | (cases h;rfl) | cases h)
def idx_eq (a0:List az)(a1:Int):md a0 a1=iL (fun y=>Z236.md y a1) 0 a0:=by
 unfold md
 exact gN
end Z237
namespace Z238
def F (x0:aC)(x1:List L):aH:=(call (Z237.R (x0,(gi x1))) fun v1=>ret ((decide (v1>=0)):Bool))
def pats:List gj:=[.rd (.sl 143),.fn 213 [[aB]]]
def res:RP:=.one (.rd (.bool))
def md (a0:List az)(a1:Int):Bool:=((decide ((Z237.md a0 a1)>=0)):Bool)
def gd (a0:List az)(a1:Int):Prop:=(bM (2^21) (fun y:az=>az.Sm (2^21) y) a0)
def acc (ls:List L):aC×Int:=((ls.headD .hole).aS,(gi (cJ 1 (aA 1 ls))))
def R:(aC×Int)->Option Bool:=RR (p2 gd) (u2 md)
def aj {a0 a1}(h:gd a0 a1):R ((a0.map az.row),a1)=some (md a0 a1):=aO (a:=(a0,a1)) h
def aW:fT:=CN pats res acc R
def bw (a0:List az)(a1:Int)(p1:List L)(e1:a1=(gi p1))(hg:gd a0 a1):F (a0.map az.row) p1=ret ((md a0 a1):Bool):=by
 unfold gd at hg
 have H0:=hg
 unfold F md
 try simp only [SS,<-e1]
 refine ct (Z237.aj H0) ?_
 have fv1_:=Z237.fa a0 a1
 all_goals exact fz
def ox (ls:List L)(a:List az×Int)(e:acc ls=Im.im a)(hg:(p2 gd) a):∃n:Nat,F ((ls.headD .hole).aS) (cJ 1 (aA 1 ls))=ret (Im.im ((u2 md) a)):=by
 have e0:(a.1.map az.row)=(ls.headD .hole).aS:=(congrArg (fun x=>x.1) e.symm)
 have hn:=bw a.1 a.2 (cJ 1 (aA 1 ls)) (congrArg (fun x=>x.2) e.symm) hg
 refine ⟨0,?_⟩
 rw [<-e0]
 exact hn
def af:cy 212 aW:=VP (live:=fun _=>[]) (nt:=9) (accr:=fun ls=>((ls.headD .hole).aS,(cJ 1 (aA 1 ls)))) (run:=fun _ x=>F x.1 x.2) mix aF (.cons Z237.af .nil) Tryz.func212 (by kernel_rfl) (fun _ _=>by kernel_rfl) (fun ls a _ e hg=>ox ls a e hg)
def any_eq (a0:List az)(a1:Int):md a0 a1=a0.any (fun y=>Z236.md y a1):=by
 unfold md
 rw [Z237.idx_eq]
 exact qa
end Z238
namespace Z239
def F (x0:bu)(x1:Int):aH:=(cond (decide (x1>=0)) (call (Z238.R (x0.bn,x1)) fun v1=>ret (v1:Bool)) bh)
def md (a0:aq)(a1:Int):Bool:=(cond (decide (a1>=0)) ((Z238.md a0.bn a1):Bool) (false:Bool))
def gd (a0:aq)(a1:Int):Prop:=(aq.Sm (2^21) a0)
def R:=RR (p2 gd) (u2 md)
def aj {a0 a1}(h:gd a0 a1):R ((aq.r a0),a1)=some (md a0 a1):=aO (a:=(a0,a1)) h
def aW:=CN [.agg tE,pI] oB RT.dec R
def bw (a0)(a1)(hg:gd a0 a1):F (aq.r a0) a1=ret (md a0 a1):=by
 unfold gd at hg
 have H0:=hg
 unfold F md
 try simp only [SS]
 refine au ret (fun c1=>?_) (fun _=>rfl)
 refine ct (Z238.aj H0.2) ?_
 all_goals exact fz
def af:cy 171 aW:=W2 13 F mix aF bw (.cons Z238.af .nil) Tryz.func171
def br (a0:aq)(a1:Int):md a0 a1=Z117.md a0 a1:=by
 unfold md Z117.md
 rw [Z238.any_eq]
 rw [mU (p:=fun y=>(Z116.md y==a1)&&decide (a1>=0)) (fun x s=>by
  cases (Z116.md x==a1)<;>cases decide (a1>=0)<;>rfl) a0.bn ()]
 have e:(fun y=>Z236.md y a1)=fun y=>Z116.md y==a1:=by
  funext y
  unfold Z236.md
  rw [Z235.br]
 rw [e]
 cases decide (a1>=0)
 ·simp
 ·simp
end Z239
namespace Z240
abbrev E (n:Nat):Env:={ T:=assoc kL,G:=dm [(168,Z223.aW),(169,Z174.aW),(170,Z231.aW),(131,Z130.aW),(171,Z239.aW)],nt:=74,M:=fO [],np:=n,I:=nL [] }
def ic (n:Nat):kF:=inl (E n) Tryz.f137
def sP (n:Nat):gQ Tryz.prog Ev n 137 (ic n):=xD (mt:=false) mix aF (.cons Z223.af (.cons Z174.af (.cons Z231.af (.cons Z130.af (.cons Z239.af .nil))))) .nil .nil Tryz.func137 (by kernel_rfl)
end Z240
namespace Z241
inductive Pt where
 | p0 (a:Int) (b:aD) (c:Int) (d:aC) (e f:Int) (g:Bool) (h:aD) (i j:Int) (k l:Bool) (m:aD) (n o:Int) (p:Bool) (q s t:aC)
def pid:Pt->Nat
 | .p0 ..=>3
def cj:Pt->List V
 | .p0 a b c d e f g h i j k l m n o p q s t=>[.int .i64 a,.str b,.int .i64 c,.cK 0 0,.cK 1 0,.sl none 165 d,.int .i64 e,.int .i64 f,.cK 1 0]
def cg:Pt->List aV
 | .p0 a b c d e f g h i j k l m n o p q s t=>[.box [.nil,.nil,.bool g,.str h,.int .i64 i,.int .i64 j,.nil,.bool k,.nil],.box [.own 2,.own 3,.bool l,.str m,.int .i64 n,.int .i64 o,.nil,.bool p,.own 4],.row 134 q,.row 143 s,.row 3 t]
def step (J:Pt->aH):Pt->aH
 | .p0 a b c d e f g h i j k l m n o p q s t=>(cond (decide (f<e)) (m2 f (d.length:Int) (call (Z223.R (a,b,(aY.at d (toNat f)),c)) fun v1=>(call (Z174.R ((aY.at d (toNat f)).aR)) fun v2=>(cond v2 (bZ (decide ((0:Int)<((aY.at d (toNat f)).aR.length:Int))) (cond ((aP.at ((aY.at d (toNat f)).aR) 0).an.bD==a) (call (Z231.R ((⟨q,s⟩:bu),(aY.at d (toNat f)).aR)) fun v3=>(call (Z130.R (v3.2,1,3)) fun v4=>(cond v4 (call (Z239.R (v3.1,a)) fun v5=>(cond (v1==1) (cond (!(!v5)) (bZ (eP (((t.length:Int)+1)*8)) (J (.p0 a b c d e (i64.wrap (f+1)) g h i j k l m n o p v3.1.aI v3.1.bn (t++[[L.int 3]])))) (bZ (eP (((t.length:Int)+1)*8)) (cond (v1==1) (call (Z202.R ((aY.at d (toNat f)).aT)) fun v6=>ret (((⟨v3.1,(aY.at d (toNat f)).cq,v6,true,(t++[[L.int v1]])⟩:cV),f):cV×Int)) (J (.p0 a b c d e (i64.wrap (f+1)) g h i j k l m n o p v3.1.aI v3.1.bn (t++[[L.int v1]])))))) (bZ (eP (((t.length:Int)+1)*8)) (cond (v1==1) (call (Z202.R ((aY.at d (toNat f)).aT)) fun v7=>ret (((⟨v3.1,(aY.at d (toNat f)).cq,v7,true,(t++[[L.int v1]])⟩:cV),f):cV×Int)) (J (.p0 a b c d e (i64.wrap (f+1)) g h i j k l m n o p v3.1.aI v3.1.bn (t++[[L.int v1]]))))))) (cond (v1==1) (bZ (eP (((t.length:Int)+1)*8)) (J (.p0 a b c d e (i64.wrap (f+1)) g h i j k l m n o p v3.1.aI v3.1.bn (t++[[L.int 3]])))) (bZ (eP (((t.length:Int)+1)*8)) (cond (v1==1) (call (Z202.R ((aY.at d (toNat f)).aT)) fun v8=>ret (((⟨v3.1,(aY.at d (toNat f)).cq,v8,true,(t++[[L.int v1]])⟩:cV),f):cV×Int)) (J (.p0 a b c d e (i64.wrap (f+1)) g h i j k l m n o p v3.1.aI v3.1.bn (t++[[L.int v1]]))))))))) (call (Z130.R (6,1,3)) fun v9=>(cond v9 (call (Z239.R ((⟨q,s⟩:bu),a)) fun v10=>(cond (v1==1) (cond (!(!v10)) (bZ (eP (((t.length:Int)+1)*8)) (J (.p0 a b c d e (i64.wrap (f+1)) g h i j k l m n o p q s (t++[[L.int 3]])))) (bZ (eP (((t.length:Int)+1)*8)) (cond (v1==1) (call (Z202.R ((aY.at d (toNat f)).aT)) fun v11=>ret (((⟨(⟨q,s⟩:bu),(aY.at d (toNat f)).cq,v11,true,(t++[[L.int v1]])⟩:cV),f):cV×Int)) (J (.p0 a b c d e (i64.wrap (f+1)) g h i j k l m n o p q s (t++[[L.int v1]])))))) (bZ (eP (((t.length:Int)+1)*8)) (cond (v1==1) (call (Z202.R ((aY.at d (toNat f)).aT)) fun v12=>ret (((⟨(⟨q,s⟩:bu),(aY.at d (toNat f)).cq,v12,true,(t++[[L.int v1]])⟩:cV),f):cV×Int)) (J (.p0 a b c d e (i64.wrap (f+1)) g h i j k l m n o p q s (t++[[L.int v1]]))))))) (cond (v1==1) (bZ (eP (((t.length:Int)+1)*8)) (J (.p0 a b c d e (i64.wrap (f+1)) g h i j k l m n o p q s (t++[[L.int 3]])))) (bZ (eP (((t.length:Int)+1)*8)) (cond (v1==1) (call (Z202.R ((aY.at d (toNat f)).aT)) fun v13=>ret (((⟨(⟨q,s⟩:bu),(aY.at d (toNat f)).cq,v13,true,(t++[[L.int v1]])⟩:cV),f):cV×Int)) (J (.p0 a b c d e (i64.wrap (f+1)) g h i j k l m n o p q s (t++[[L.int v1]])))))))))) (call (Z130.R (6,1,3)) fun v14=>(cond v14 (call (Z239.R ((⟨q,s⟩:bu),a)) fun v15=>(cond (v1==1) (cond (!(!v15)) (bZ (eP (((t.length:Int)+1)*8)) (J (.p0 a b c d e (i64.wrap (f+1)) g h i j k l m n o p q s (t++[[L.int 3]])))) (bZ (eP (((t.length:Int)+1)*8)) (cond (v1==1) (call (Z202.R ((aY.at d (toNat f)).aT)) fun v16=>ret (((⟨(⟨q,s⟩:bu),(aY.at d (toNat f)).cq,v16,true,(t++[[L.int v1]])⟩:cV),f):cV×Int)) (J (.p0 a b c d e (i64.wrap (f+1)) g h i j k l m n o p q s (t++[[L.int v1]])))))) (bZ (eP (((t.length:Int)+1)*8)) (cond (v1==1) (call (Z202.R ((aY.at d (toNat f)).aT)) fun v17=>ret (((⟨(⟨q,s⟩:bu),(aY.at d (toNat f)).cq,v17,true,(t++[[L.int v1]])⟩:cV),f):cV×Int)) (J (.p0 a b c d e (i64.wrap (f+1)) g h i j k l m n o p q s (t++[[L.int v1]]))))))) (cond (v1==1) (bZ (eP (((t.length:Int)+1)*8)) (J (.p0 a b c d e (i64.wrap (f+1)) g h i j k l m n o p q s (t++[[L.int 3]])))) (bZ (eP (((t.length:Int)+1)*8)) (cond (v1==1) (call (Z202.R ((aY.at d (toNat f)).aT)) fun v18=>ret (((⟨(⟨q,s⟩:bu),(aY.at d (toNat f)).cq,v18,true,(t++[[L.int v1]])⟩:cV),f):cV×Int)) (J (.p0 a b c d e (i64.wrap (f+1)) g h i j k l m n o p q s (t++[[L.int v1]])))))))))))) (ret (((⟨(⟨q,s⟩:bu),l,(⟨m,n,o,[]⟩:aU),p,t⟩:cV),(-1)):cV×Int)))
def start (J:Pt->aH)(x0:bu)(x1:aC)(x2:Int)(x3:aD)(x4:Int):aH:=(call (Z129.R x0) fun v1=>J (.p0 x2 x3 x4 x1 (x1.length:Int) 0 false ⟨#[]⟩ 0 0 false false ⟨#[]⟩ 0 0 false v1.aI v1.bn []))
def live:Nat->Live:=fun i=>match i with | 3=>[(2,none),(3,none),(4,none),(10,none),(12,none),(18,none),(19,none),(20,none),(12,some 8388611)] | _=>[]
def pats:List gj:=[.agg [.sl 134,.sl 143],.rd (.sl 165),.rd (.int .i64),.rd (.str),.rd (.int .i64)]
def res:RP:=.iH [(true,[.fr 134,.fr 143,.rd (.bool),.rd (.str),.rd (.int .i64),.rd (.int .i64),.fr 9,.rd (.bool),.fr 3]),(false,[.rd (.int .i64)])]
abbrev E:Env:={ T:=assoc kL,G:=dm [(48,Z129.aW),(136,Z202.aW)],nt:=42,M:=fO [],I:=nL [(137,Z240.ic 0)] }
def step_eq (I:cH)(p:Pt):cR E live I (pid p) (bQ Tryz.f109) (fE (live (pid p)) (cj p) (cg p)) (cG E Tryz.f109 res)=step (fun q=>I (pid q) (cj q) (cg q)) p:=by
 cases p<;>kernel_rfl
def start_eq (I:cH)(ls:List L):eS E live I (bQ Tryz.f109) (cW pats ls) (cG E Tryz.f109 res)=start (fun q=>I (pid q) (cj q) (cg q)) (bu.dec ls) ((aA 2 ls).headD .hole).aS ((aA 3 ls).headD .hole).toInt ((aA 4 ls).headD .hole).toStr ((aA 5 ls).headD .hole).toInt:=by kernel_rfl
def run_eq (n:Nat)(ls:List L):eN E live Tryz.f109 res n (cW pats ls)=start (iter step n) (bu.dec ls) ((aA 2 ls).headD .hole).aS ((aA 3 ls).headD .hole).toInt ((aA 4 ls).headD .hole).toStr ((aA 5 ls).headD .hole).toInt:=cB (id:=pid) (vs:=cj) (hs:=cg) (step:=step) (start:=fun J=>start J (bu.dec ls) ((aA 2 ls).headD .hole).aS ((aA 3 ls).headD .hole).toInt ((aA 4 ls).headD .hole).toStr ((aA 5 ls).headD .hole).toInt) step_eq (fun I=>start_eq I ls) n
def md (a0:aq)(a1:List av)(a2:Int)(a3:aD)(a4:Int):bS×Int:=(dR (S:=List (List aa)×List az×List Int) (β:=bS×Int) (fun (i1:Nat) (y1:av) (s3:List (List aa)×List az×List Int)=>(cond (Z174.md (y1.aR)) (cond (((y1.aR.getD 0 aa.zero).an).bD==a2) (cond (Z130.md ((Z231.md (⟨s3.1,s3.2.1⟩:aq) (y1.aR)).2) 1 3) (cond ((Z223.md a2 a3 y1 a4)==1) (cond (!(!(Z239.md ((Z231.md (⟨s3.1,s3.2.1⟩:aq) (y1.aR)).1) a2))) (.inl ((Z231.md (⟨s3.1,s3.2.1⟩:aq) (y1.aR)).1.aI,(Z231.md (⟨s3.1,s3.2.1⟩:aq) (y1.aR)).1.bn,(s3.2.2++[3]))) (cond ((Z223.md a2 a3 y1 a4)==1) (.inr ((⟨(Z231.md (⟨s3.1,s3.2.1⟩:aq) (y1.aR)).1,y1.cq,(y1.aT),true,(s3.2.2++[(Z223.md a2 a3 y1 a4)])⟩:bS),(i1:Int))) (.inl ((Z231.md (⟨s3.1,s3.2.1⟩:aq) (y1.aR)).1.aI,(Z231.md (⟨s3.1,s3.2.1⟩:aq) (y1.aR)).1.bn,(s3.2.2++[(Z223.md a2 a3 y1 a4)]))))) (cond ((Z223.md a2 a3 y1 a4)==1) (.inr ((⟨(Z231.md (⟨s3.1,s3.2.1⟩:aq) (y1.aR)).1,y1.cq,(y1.aT),true,(s3.2.2++[(Z223.md a2 a3 y1 a4)])⟩:bS),(i1:Int))) (.inl ((Z231.md (⟨s3.1,s3.2.1⟩:aq) (y1.aR)).1.aI,(Z231.md (⟨s3.1,s3.2.1⟩:aq) (y1.aR)).1.bn,(s3.2.2++[(Z223.md a2 a3 y1 a4)]))))) (cond ((Z223.md a2 a3 y1 a4)==1) (.inl ((Z231.md (⟨s3.1,s3.2.1⟩:aq) (y1.aR)).1.aI,(Z231.md (⟨s3.1,s3.2.1⟩:aq) (y1.aR)).1.bn,(s3.2.2++[3]))) (cond ((Z223.md a2 a3 y1 a4)==1) (.inr ((⟨(Z231.md (⟨s3.1,s3.2.1⟩:aq) (y1.aR)).1,y1.cq,(y1.aT),true,(s3.2.2++[(Z223.md a2 a3 y1 a4)])⟩:bS),(i1:Int))) (.inl ((Z231.md (⟨s3.1,s3.2.1⟩:aq) (y1.aR)).1.aI,(Z231.md (⟨s3.1,s3.2.1⟩:aq) (y1.aR)).1.bn,(s3.2.2++[(Z223.md a2 a3 y1 a4)])))))) (cond (Z130.md 6 1 3) (cond ((Z223.md a2 a3 y1 a4)==1) (cond (!(!(Z239.md (⟨s3.1,s3.2.1⟩:aq) a2))) (.inl (s3.1,s3.2.1,(s3.2.2++[3]))) (cond ((Z223.md a2 a3 y1 a4)==1) (.inr ((⟨(⟨s3.1,s3.2.1⟩:aq),y1.cq,(y1.aT),true,(s3.2.2++[(Z223.md a2 a3 y1 a4)])⟩:bS),(i1:Int))) (.inl (s3.1,s3.2.1,(s3.2.2++[(Z223.md a2 a3 y1 a4)]))))) (cond ((Z223.md a2 a3 y1 a4)==1) (.inr ((⟨(⟨s3.1,s3.2.1⟩:aq),y1.cq,(y1.aT),true,(s3.2.2++[(Z223.md a2 a3 y1 a4)])⟩:bS),(i1:Int))) (.inl (s3.1,s3.2.1,(s3.2.2++[(Z223.md a2 a3 y1 a4)]))))) (cond ((Z223.md a2 a3 y1 a4)==1) (.inl (s3.1,s3.2.1,(s3.2.2++[3]))) (cond ((Z223.md a2 a3 y1 a4)==1) (.inr ((⟨(⟨s3.1,s3.2.1⟩:aq),y1.cq,(y1.aT),true,(s3.2.2++[(Z223.md a2 a3 y1 a4)])⟩:bS),(i1:Int))) (.inl (s3.1,s3.2.1,(s3.2.2++[(Z223.md a2 a3 y1 a4)]))))))) (cond (Z130.md 6 1 3) (cond ((Z223.md a2 a3 y1 a4)==1) (cond (!(!(Z239.md (⟨s3.1,s3.2.1⟩:aq) a2))) (.inl (s3.1,s3.2.1,(s3.2.2++[3]))) (cond ((Z223.md a2 a3 y1 a4)==1) (.inr ((⟨(⟨s3.1,s3.2.1⟩:aq),y1.cq,(y1.aT),true,(s3.2.2++[(Z223.md a2 a3 y1 a4)])⟩:bS),(i1:Int))) (.inl (s3.1,s3.2.1,(s3.2.2++[(Z223.md a2 a3 y1 a4)]))))) (cond ((Z223.md a2 a3 y1 a4)==1) (.inr ((⟨(⟨s3.1,s3.2.1⟩:aq),y1.cq,(y1.aT),true,(s3.2.2++[(Z223.md a2 a3 y1 a4)])⟩:bS),(i1:Int))) (.inl (s3.1,s3.2.1,(s3.2.2++[(Z223.md a2 a3 y1 a4)]))))) (cond ((Z223.md a2 a3 y1 a4)==1) (.inl (s3.1,s3.2.1,(s3.2.2++[3]))) (cond ((Z223.md a2 a3 y1 a4)==1) (.inr ((⟨(⟨s3.1,s3.2.1⟩:aq),y1.cq,(y1.aT),true,(s3.2.2++[(Z223.md a2 a3 y1 a4)])⟩:bS),(i1:Int))) (.inl (s3.1,s3.2.1,(s3.2.2++[(Z223.md a2 a3 y1 a4)])))))))) (fun (s3:List (List aa)×List az×List Int)=>((⟨(⟨s3.1,s3.2.1⟩:aq),false,(⟨(⟨#[]⟩:aD),0,0,[]⟩:ah),false,s3.2.2⟩:bS),(-1))) 0 a1 (a0.aI,a0.bn,[]))
def gd (a0:aq)(a1:List av)(a2:Int)(a3:aD)(a4:Int):Prop:=(aq.Sm (2^21) a0)/\(bM (2^21) (fun y:av=>av.Sm (2^21) y) a1)/\(a3.size<=(2^21))
def acc (ls:List L):bu×aC×Int×aD×Int:=((bu.dec ls),((aA 2 ls).headD .hole).aS,((aA 3 ls).headD .hole).toInt,((aA 4 ls).headD .hole).toStr,((aA 5 ls).headD .hole).toInt)
def R:(bu×aC×Int×aD×Int)->Option (cV×Int):=RR (p5 gd) (u5 md)
def aj {a0 a1 a2 a3 a4}(h:gd a0 a1 a2 a3 a4):R ((aq.r a0),(a1.map av.row),a2,a3,a4)=some ((bS.r (md a0 a1 a2 a3 a4).1),(md a0 a1 a2 a3 a4).2):=aO (a:=(a0,a1,a2,a3,a4)) h
def aW:fT:=CN pats res acc R
def bw (a0:aq)(a1:List av)(a2:Int)(a3:aD)(a4:Int)(hg:gd a0 a1 a2 a3 a4):∃n,start (iter step n) (aq.r a0) (a1.map av.row) a2 a3 a4=ret (((bS.r (md a0 a1 a2 a3 a4).1),(md a0 a1 a2 a3 a4).2):cV×Int):=by
 obtain ⟨H0,H1,H3⟩:=hg
 unfold start md
 try simp only [SS]
 refine cx (Z129.aj H0) ?_
 try simp only [SS]
 have Bh2:a1.length<=maxLen:=(by
   have:=(H1).1
   try simp only [maxLen] at *
   omega)
 refine ex_eq (out:=(fun b:bS×Int=>ret (((bS.r b.1),b.2):cV×Int))) (cU (z:=av.zero)) ?_
 refine dM (p:=Pt.p0 a2 a3 a4 (a1.map av.row) (a1.length:Int) 0 false (⟨#[]⟩:aD) 0 0 false false (⟨#[]⟩:aD) 0 0 false (a0.aI.map (dF aa.row)) (a0.bn.map az.row) ([].map aZ)) fz ?_
 refine cm (pt:=fun (i1:Nat) (s3:List (List aa)×List az×List Int)=>Pt.p0 a2 a3 a4 (a1.map av.row) (a1.length:Int) (i1:Int) false (⟨#[]⟩:aD) 0 0 false false (⟨#[]⟩:aD) 0 0 false (s3.1.map (dF aa.row)) (s3.2.1.map az.row) (s3.2.2.map aZ)) (s:=((a0.aI,a0.bn,[]):List (List aa)×List az×List Int)) (out:=(fun b:bS×Int=>ret (((bS.r b.1),b.2):cV×Int))) (fun (i1:Nat) (s3:List (List aa)×List az×List Int)=>aq.Sm (2^21) (⟨s3.1,s3.2.1⟩:aq)/\s3.2.2.length<=i1) (fun J i1 s3 h2 hih2=>?_) (fun s3 hih2=>?_) ⟨H0,zero_le _⟩
 ·simp only [step,SS]
  have gr_:=hih2
  try simp only [LN] at gr_
  have bb_:=Bh2
  simp only [maxLen] at bb_
  have:=(H1).1
  refine bz.yes (by apply decide_eq_true;omega) ?_
  refine bz.yes aJ ?_
  refine bz.yes (aN h2) ?_
  refine cr (Z223.aj ⟨H3,(bM.getD (z:=av.zero) H1 h2)⟩) ?_
  refine cr (Z174.aj (bM.getD (z:=av.zero) H1 h2).1) ?_
  refine bz.bif (fun c4=>?_) (fun c4=>?_)
  ·try have tc4:=Z174.tr (by simpa using c4)
   refine bz.yes (have:=((bM.getD (z:=av.zero) H1 h2).1).1;dt) ?_
   refine bz.bif (fun c5=>?_) (fun c5=>?_)
   ·have dc5:=c5
    try simp only [DC] at dc5
    refine cr (Z231.aj (a0:=(⟨s3.1,s3.2.1⟩:aq)) ⟨⟨hih2.1.1,hih2.1.2⟩,(bM.getD (z:=av.zero) H1 h2).1⟩) ?_
    try simp only [SS]
    refine cr (Z130.aj (a0:=(Z231.md (⟨s3.1,s3.2.1⟩:aq) ((a1.getD i1 av.zero).aR)).2) trivial) ?_
    refine bz.bif (fun c6=>?_) (fun c6=>?_)
    ·have Dc6:=c6
     try simp [Z130.md] at Dc6
     refine cr (Z239.aj (a0:=(Z231.md (⟨s3.1,s3.2.1⟩:aq) ((a1.getD i1 av.zero).aR)).1) (Z231.gb (a0:=(⟨s3.1,s3.2.1⟩:aq)) (a1:=(a1.getD i1 av.zero).aR) ⟨⟨hih2.1.1,hih2.1.2⟩,(bM.getD (z:=av.zero) H1 h2).1⟩)) ?_
     refine bz.bif (fun c7=>?_) (fun c7=>?_)
     ·have dc7:=c7
      try simp only [DC] at dc7
      refine bz.bif (fun c8=>?_) (fun c8=>?_)
      ·have dc8:=c8
       try simp only [DC] at dc8
       refine bz.yes lm ?_
       refine bz.inl (by first | exact ⟨hih2.1,gZ hih2.2⟩ | exact ⟨Z231.gb ⟨hih2.1,(bM.getD H1 h2).1⟩,gZ hih2.2⟩) ?_
       rw [aG h2 Bh2]
       all_goals exact fz
      ·have dc8:=c8
       try simp only [DC] at dc8
       refine bz.yes lm ?_
       refine bz.bif (fun c9=>?_) (fun c9=>?_)
       ·refine cr (Z202.aj (bM.getD (z:=av.zero) H1 h2).2.1) ?_
        try simp only [SS]
        refine bz.inr ?_
        all_goals exact fz
       ·refine bz.inl (by first | exact ⟨hih2.1,gZ hih2.2⟩ | exact ⟨Z231.gb ⟨hih2.1,(bM.getD H1 h2).1⟩,gZ hih2.2⟩) ?_
        rw [aG h2 Bh2]
        all_goals exact fz
     ·have dc7:=c7
      try simp only [DC] at dc7
      refine bz.yes lm ?_
      refine bz.bif (fun c10=>?_) (fun c10=>?_)
      ·refine cr (Z202.aj (bM.getD (z:=av.zero) H1 h2).2.1) ?_
       try simp only [SS]
       refine bz.inr ?_
       all_goals exact fz
      ·refine bz.inl (by first | exact ⟨hih2.1,gZ hih2.2⟩ | exact ⟨Z231.gb ⟨hih2.1,(bM.getD H1 h2).1⟩,gZ hih2.2⟩) ?_
       rw [aG h2 Bh2]
       all_goals exact fz
    ·have Dc6:=c6
     try simp [Z130.md] at Dc6
     refine bz.bif (fun c11=>?_) (fun c11=>?_)
     ·have dc11:=c11
      try simp only [DC] at dc11
      refine bz.yes lm ?_
      refine bz.inl (by first | exact ⟨hih2.1,gZ hih2.2⟩ | exact ⟨Z231.gb ⟨hih2.1,(bM.getD H1 h2).1⟩,gZ hih2.2⟩) ?_
      rw [aG h2 Bh2]
      all_goals exact fz
     ·have dc11:=c11
      try simp only [DC] at dc11
      refine bz.yes lm ?_
      refine bz.bif (fun c12=>?_) (fun c12=>?_)
      ·refine cr (Z202.aj (bM.getD (z:=av.zero) H1 h2).2.1) ?_
       try simp only [SS]
       refine bz.inr ?_
       all_goals exact fz
      ·refine bz.inl (by first | exact ⟨hih2.1,gZ hih2.2⟩ | exact ⟨Z231.gb ⟨hih2.1,(bM.getD H1 h2).1⟩,gZ hih2.2⟩) ?_
       rw [aG h2 Bh2]
       all_goals exact fz
   ·have dc5:=c5
    try simp only [DC] at dc5
    refine cr (Z130.aj trivial) ?_
    refine bz.bif (fun c13=>?_) (fun c13=>?_)
    ·refine cr (Z239.aj (a0:=(⟨s3.1,s3.2.1⟩:aq)) ⟨hih2.1.1,hih2.1.2⟩) ?_
     refine bz.bif (fun c14=>?_) (fun c14=>?_)
     ·have dc14:=c14
      try simp only [DC] at dc14
      refine bz.bif (fun c15=>?_) (fun c15=>?_)
      ·have dc15:=c15
       try simp only [DC] at dc15
       refine bz.yes lm ?_
       refine bz.inl (by first | exact ⟨hih2.1,gZ hih2.2⟩ | exact ⟨Z231.gb ⟨hih2.1,(bM.getD H1 h2).1⟩,gZ hih2.2⟩) ?_
       rw [aG h2 Bh2]
       all_goals exact fz
      ·have dc15:=c15
       try simp only [DC] at dc15
       refine bz.yes lm ?_
       refine bz.bif (fun c16=>?_) (fun c16=>?_)
       ·refine cr (Z202.aj (bM.getD (z:=av.zero) H1 h2).2.1) ?_
        try simp only [SS]
        refine bz.inr ?_
        all_goals exact fz
       ·refine bz.inl (by first | exact ⟨hih2.1,gZ hih2.2⟩ | exact ⟨Z231.gb ⟨hih2.1,(bM.getD H1 h2).1⟩,gZ hih2.2⟩) ?_
        rw [aG h2 Bh2]
        all_goals exact fz
     ·have dc14:=c14
      try simp only [DC] at dc14
      refine bz.yes lm ?_
      refine bz.bif (fun c17=>?_) (fun c17=>?_)
      ·refine cr (Z202.aj (bM.getD (z:=av.zero) H1 h2).2.1) ?_
       try simp only [SS]
       refine bz.inr ?_
       all_goals exact fz
      ·refine bz.inl (by first | exact ⟨hih2.1,gZ hih2.2⟩ | exact ⟨Z231.gb ⟨hih2.1,(bM.getD H1 h2).1⟩,gZ hih2.2⟩) ?_
       rw [aG h2 Bh2]
       all_goals exact fz
    ·refine bz.bif (fun c18=>?_) (fun c18=>?_)
     ·have dc18:=c18
      try simp only [DC] at dc18
      refine bz.yes lm ?_
      refine bz.inl (by first | exact ⟨hih2.1,gZ hih2.2⟩ | exact ⟨Z231.gb ⟨hih2.1,(bM.getD H1 h2).1⟩,gZ hih2.2⟩) ?_
      rw [aG h2 Bh2]
      all_goals exact fz
     ·have dc18:=c18
      try simp only [DC] at dc18
      refine bz.yes lm ?_
      refine bz.bif (fun c19=>?_) (fun c19=>?_)
      ·refine cr (Z202.aj (bM.getD (z:=av.zero) H1 h2).2.1) ?_
       try simp only [SS]
       refine bz.inr ?_
       all_goals exact fz
      ·refine bz.inl (by first | exact ⟨hih2.1,gZ hih2.2⟩ | exact ⟨Z231.gb ⟨hih2.1,(bM.getD H1 h2).1⟩,gZ hih2.2⟩) ?_
       rw [aG h2 Bh2]
       all_goals exact fz
  ·try have tc4:=Z174.tr (by simpa using c4)
   refine cr (Z130.aj trivial) ?_
   refine bz.bif (fun c20=>?_) (fun c20=>?_)
   ·refine cr (Z239.aj (a0:=(⟨s3.1,s3.2.1⟩:aq)) ⟨hih2.1.1,hih2.1.2⟩) ?_
    refine bz.bif (fun c21=>?_) (fun c21=>?_)
    ·have dc21:=c21
     try simp only [DC] at dc21
     refine bz.bif (fun c22=>?_) (fun c22=>?_)
     ·have dc22:=c22
      try simp only [DC] at dc22
      refine bz.yes lm ?_
      refine bz.inl (by first | exact ⟨hih2.1,gZ hih2.2⟩ | exact ⟨Z231.gb ⟨hih2.1,(bM.getD H1 h2).1⟩,gZ hih2.2⟩) ?_
      rw [aG h2 Bh2]
      all_goals exact fz
     ·have dc22:=c22
      try simp only [DC] at dc22
      refine bz.yes lm ?_
      refine bz.bif (fun c23=>?_) (fun c23=>?_)
      ·refine cr (Z202.aj (bM.getD (z:=av.zero) H1 h2).2.1) ?_
       try simp only [SS]
       refine bz.inr ?_
       all_goals exact fz
      ·refine bz.inl (by first | exact ⟨hih2.1,gZ hih2.2⟩ | exact ⟨Z231.gb ⟨hih2.1,(bM.getD H1 h2).1⟩,gZ hih2.2⟩) ?_
       rw [aG h2 Bh2]
       all_goals exact fz
    ·have dc21:=c21
     try simp only [DC] at dc21
     refine bz.yes lm ?_
     refine bz.bif (fun c24=>?_) (fun c24=>?_)
     ·refine cr (Z202.aj (bM.getD (z:=av.zero) H1 h2).2.1) ?_
      try simp only [SS]
      refine bz.inr ?_
      all_goals exact fz
     ·refine bz.inl (by first | exact ⟨hih2.1,gZ hih2.2⟩ | exact ⟨Z231.gb ⟨hih2.1,(bM.getD H1 h2).1⟩,gZ hih2.2⟩) ?_
      rw [aG h2 Bh2]
      all_goals exact fz
   ·refine bz.bif (fun c25=>?_) (fun c25=>?_)
    ·have dc25:=c25
     try simp only [DC] at dc25
     refine bz.yes lm ?_
     refine bz.inl (by first | exact ⟨hih2.1,gZ hih2.2⟩ | exact ⟨Z231.gb ⟨hih2.1,(bM.getD H1 h2).1⟩,gZ hih2.2⟩) ?_
     rw [aG h2 Bh2]
     all_goals exact fz
    ·have dc25:=c25
     try simp only [DC] at dc25
     refine bz.yes lm ?_
     refine bz.bif (fun c26=>?_) (fun c26=>?_)
     ·refine cr (Z202.aj (bM.getD (z:=av.zero) H1 h2).2.1) ?_
      try simp only [SS]
      refine bz.inr ?_
      all_goals exact fz
     ·refine bz.inl (by first | exact ⟨hih2.1,gZ hih2.2⟩ | exact ⟨Z231.gb ⟨hih2.1,(bM.getD H1 h2).1⟩,gZ hih2.2⟩) ?_
      rw [aG h2 Bh2]
      all_goals exact fz
 ·simp only [step,SS]
  have gr_:=hih2
  try simp only [LN] at gr_
  have:=(H1).1
  refine dx (by apply decide_eq_false;omega) ?_
  refine ⟨0,?_⟩
  all_goals exact fz
def af:cy 109 aW:=VI (mt:=false) (run:=fun n x=>start (iter step n) x.1 x.2.1 x.2.2.1 x.2.2.2.1 x.2.2.2.2) mix aF (.cons Z129.af (.cons Z202.af .nil)) .nil (.cons (Z240.sP 0) .nil) Tryz.func109 (by kernel_rfl) run_eq (fun _ a _ _ hg=>bw a.1 a.2.1 a.2.2.1 a.2.2.2.1 a.2.2.2.2 hg)
def qH (a0:aq)(a1:List av)(a2:Int)(a3:aD)(a4:Int):md a0 a1 a2 a3 a4=dR (fun i y s=>(Z118.tD a2 a3 a4 y s).map id (fun b=>(b,(i:Int)))) (fun s=>(Z118.fin s,-1)) 0 a1 (a0.aI,a0.bn,[]):=by
 unfold md
 refine lC (fun i y _ s=>?_) (fun s=>rfl)
 have h31:((3:Int)==1)=false:=rfl
 have h61:((6:Int)==1)=false:=rfl
 have h62:((6:Int)==2)=false:=rfl
 have h63:((6:Int)==3)=false:=rfl
 have hin:∀n:Int,Z130.md n 1 3=(n==1||(n==2||n==3)):=fun n=>by
  unfold Z130.md
  rw [Bool.eq_iff_iff];simp;omega
 simp only [Z223.br,Z174.br,Z231.br,Z239.br,hin]
 unfold Z118.tD Z118.nQ
 cases g1:Z69.md y.aR
 ·have e:(Z70.md y.aR).2=false:=by unfold Z70.md;rw [g1];rfl
  cases g2:(Z113.md a2 a3 y a4==1)<;>simp [e,g2,h31,h61,h62,h63,Sum.map]
 have hl:=Z69.tr g1
 have e:(Z70.md y.aR).2=true:=by unfold Z70.md;rw [g1];rfl
 have e2:(Z70.md y.aR).1.bD=(y.aR.getD 0 aa.zero).an.bD:=by
  have hi:toNat (i64.wrap ((y.aR.length:Int) - 1))=y.aR.length - 1:=by simp (disch:=omega) only [wi];omega
  have:=Z69.Bh g1 (y.aR.length - 1) (by omega)
  unfold Z70.md
  rw [g1,hi]
  exact this
 rw [e2,e]
 cases g3:((y.aR.getD 0 aa.zero).an.bD==a2)
 ·cases g2:(Z113.md a2 a3 y a4==1)<;>simp [g2,h31,h61,h62,h63,Sum.map]
 generalize Z102.md (⟨s.1,s.2.1⟩:aq) y.aR=r
 cases g2:(Z113.md a2 a3 y a4==1)<;>cases g4:(r.2==1)<;>cases g5:(r.2==2)<;>cases g6:(r.2==3)<;>cases g7:Z117.md r.1 a2<;>simp [g2,g4,g5,g6,g7,h31,Sum.map]
def B3 (a0:aq)(a1:List av)(a2:Int)(a3:aD)(a4:Int):(md a0 a1 a2 a3 a4).1=Z118.md a0 a1 a2 a3 a4:=by
 rw [qH,Z118.qH]
 exact qn (p:=Prod.fst) (fun i y s=>by cases Z118.tD a2 a3 a4 y s<;>rfl) (fun s=>rfl) a1 0 _
end Z241
namespace Z242
def F (x0:bu)(x1:aC)(x2:Int)(x3:aD)(x4:Int):aH:=(call (Z241.R (x0,x1,x2,x3,x4)) fun v1=>ret (v1.1:cV))
def md (a0:aq)(a1:List av)(a2:Int)(a3:aD)(a4:Int):bS:=(Z241.md a0 a1 a2 a3 a4).1
def gd (a0:aq)(a1:List av)(a2:Int)(a3:aD)(a4:Int):Prop:=(aq.Sm (2^21) a0)/\(bM (2^21) (fun y:av=>av.Sm (2^21) y) a1)/\(a3.size<=(2^21))
def R:=RR (p5 gd) (u5 md)
def aj {a0 a1 a2 a3 a4}(h:gd a0 a1 a2 a3 a4):R ((aq.r a0),(a1.map av.row),a2,a3,a4)=some (bS.r (md a0 a1 a2 a3 a4)):=aO (a:=(a0,a1,a2,a3,a4)) h
def aW:=CN [.agg tE,pL 165,pI,pS,pI] (.agg f102) RT.dec R
def bw (a0)(a1)(a2)(a3)(a4)(hg:gd a0 a1 a2 a3 a4):F (aq.r a0) (a1.map av.row) a2 a3 a4=ret (bS.r (md a0 a1 a2 a3 a4)):=by
 obtain ⟨H0,H1,H3⟩:=hg
 unfold F md
 try simp only [SS]
 refine ct (Z241.aj ⟨H0,H1,H3⟩) ?_
 try simp only [SS]
 all_goals exact fz
def af:cy 70 aW:=W5 23 F mix aF bw (.cons Z241.af .nil) Tryz.func70
def br (a0:aq)(a1:List av)(a2:Int)(a3:aD)(a4:Int):md a0 a1 a2 a3 a4=Z118.md a0 a1 a2 a3 a4:=by
 unfold md
 exact Z241.B3 a0 a1 a2 a3 a4
end Z242
namespace Z243
def F (x0:bu)(x1:Int)(x2:aD)(x3 x4:List L):aH:=(call (Z209.R ((me x3),x1,x2)) fun v1=>(call (Z242.R (x0,v1,x1,x2,(gi x4))) fun v2=>ret (v2:cV)))
def pats:List gj:=[.agg [.sl 134,.sl 143],.rd (.int .i64),.rd (.str),.ptr [.sl 88],.ptr [aB]]
def res:RP:=.agg [.fr 134,.fr 143,.rd (.bool),.rd (.str),.rd (.int .i64),.rd (.int .i64),.fr 9,.rd (.bool),.fr 3]
def md (a0:aq)(a1:Int)(a2:aD)(a3:List ay)(a4:Int):bS:=(Z242.md a0 (Z209.md a3 a1 a2) a1 a2 a4)
def gd (a0:aq)(a1:Int)(a2:aD)(a3:List ay)(a4:Int):Prop:=(aq.Sm (2^21) a0)/\(a2.size<=(2^21))/\(bM (2^21) (fun y:ay=>ay.Sm (2^21) y) a3)
def acc (ls:List L):bu×Int×aD×aC×Int:=((bu.dec ls),((aA 2 ls).headD .hole).toInt,((aA 3 ls).headD .hole).toStr,(me (cJ 1 (aA 4 ls))),(gi (cJ 1 (aA 5 ls))))
def R:(bu×Int×aD×aC×Int)->Option cV:=RR (p5 gd) (u5 md)
def aj {a0 a1 a2 a3 a4}(h:gd a0 a1 a2 a3 a4):R ((aq.r a0),a1,a2,(a3.map ay.row),a4)=some (bS.r (md a0 a1 a2 a3 a4)):=aO (a:=(a0,a1,a2,a3,a4)) h
def aW:fT:=CN pats res acc R
def bw (a0:aq)(a1:Int)(a2:aD)(a3:List ay)(a4:Int)(p3 p4:List L)(e3:(a3.map ay.row)=(me p3))(e4:a4=(gi p4))(hg:gd a0 a1 a2 a3 a4):F (aq.r a0) a1 a2 p3 p4=ret ((bS.r (md a0 a1 a2 a3 a4)):cV):=by
 obtain ⟨H0,H2,H3⟩:=hg
 unfold F md
 try simp only [SS,<-e3,<-e4]
 refine ct (Z209.aj ⟨H3,H2⟩) ?_
 try simp only [SS,<-e3,<-e4]
 refine ct (Z242.aj ⟨H0,(Z209.gb (a0:=a3) (a1:=a1) (a2:=a2) ⟨H3,H2⟩),H2⟩) ?_
 try simp only [SS,<-e3,<-e4]
 all_goals exact fz
def ox (ls:List L)(a:aq×Int×aD×List ay×Int)(e:acc ls=Im.im a)(hg:(p5 gd) a):∃n:Nat,F (bu.dec ls) (((aA 2 ls).headD .hole).toInt) (((aA 3 ls).headD .hole).toStr) (cJ 1 (aA 4 ls)) (cJ 1 (aA 5 ls))=ret (Im.im ((u5 md) a)):=by
 have e0:(aq.r a.1)=(bu.dec ls):=(congrArg (fun x=>x.1) e.symm)
 have e1:a.2.1=((aA 2 ls).headD .hole).toInt:=(congrArg (fun x=>x.2.1) e.symm)
 have e2:a.2.2.1=((aA 3 ls).headD .hole).toStr:=(congrArg (fun x=>x.2.2.1) e.symm)
 have hn:=bw a.1 a.2.1 a.2.2.1 a.2.2.2.1 a.2.2.2.2 (cJ 1 (aA 4 ls)) (cJ 1 (aA 5 ls)) (congrArg (fun x=>x.2.2.2.1) e.symm) (congrArg (fun x=>x.2.2.2.2) e.symm) hg
 refine ⟨0,?_⟩
 rw [<-e0,<-e1,<-e2]
 exact hn
def af:cy 69 aW:=VP (live:=fun _=>[]) (nt:=18) (accr:=fun ls=>((bu.dec ls),((aA 2 ls).headD .hole).toInt,((aA 3 ls).headD .hole).toStr,(cJ 1 (aA 4 ls)),(cJ 1 (aA 5 ls)))) (run:=fun _ x=>F x.1 x.2.1 x.2.2.1 x.2.2.2.1 x.2.2.2.2) mix aF (.cons Z209.af (.cons Z242.af .nil)) Tryz.func69 (by kernel_rfl) (fun _ _=>by kernel_rfl) (fun ls a _ e hg=>ox ls a e hg)
def lk (a0:aq)(a1:Int)(a2:aD)(a3:List ay)(a4:Int):md a0 a1 a2 a3 a4=Z118.md a0 (Z96.md a3 a1 a2) a1 a2 a4:=by
 unfold md
 rw [Z242.br,Z209.br]
end Z243
namespace Z244
abbrev E (n:Nat):Env:={ T:=assoc kL,G:=dm [(135,Z201.aW),(107,Z135.aW),(136,Z202.aW)],nt:=83,M:=fO [],np:=n,I:=nL [] }
def ic (n:Nat):kF:=inl (E n) Tryz.f108
def sP (n:Nat):gQ Tryz.prog Ev n 108 (ic n):=xD (mt:=false) mix aF (.cons Z201.af (.cons Z135.af (.cons Z202.af .nil))) .nil .nil Tryz.func108 (by kernel_rfl)
end Z244
namespace Z245
inductive Pt where
 | p0 (a:aC) (b c:List L) (d e:Int) (f:aD) (g h i j:Int) (k:aD) (l m n:Int) (o p q s:aC)
def pid:Pt->Nat
 | .p0 ..=>6
def cj:Pt->List V
 | .p0 a b c d e f g h i j k l m n o p q s=>[.sl none 9 a,.fn 69 [.dB none [.sl 88] b 0,.dB none [aB] c 0],.cK 0 0,.cK 1 0,.int .i64 d,.cK 1 0,.cK 1 0]
def cg:Pt->List aV
 | .p0 a b c d e f g h i j k l m n o p q s=>[.box [.nil,.nil,.int .i64 e,.str f,.int .i64 g,.int .i64 h,.nil,.nil,.int .i64 i],.box [.own 2,.own 3,.int .i64 j,.str k,.int .i64 l,.int .i64 m,.own 4,.own 5,.int .i64 n],.row 134 o,.row 143 p,.row 9 q,.row 3 s]
def step (J:Pt->aH):Pt->aH
 | .p0 a b c d e f g h i j k l m n o p q s=>(cond (j==0) (bZ (decide ((0:Int)<(a.length:Int))) (call (Z243.R ((⟨o,p⟩:bu),d,(pR a 0),(me b),(gi c))) fun v1=>(bZ (eP (((s.length:Int)+1)*8)) (bZ (decide ((1:Int)<=(a.length:Int))) (bZ (decide ((a.length:Int)<=(a.length:Int))) (cond (!v1.jY) (J (.p0 [] b c 0 e f g h i 3 k l m n v1.bW.aI v1.bW.bn q (s++[[L.int d]]))) (cond (!v1.cq) (J (.p0 [] b c 0 e f g h i 2 k l m n v1.bW.aI v1.bW.bn q (s++[[L.int d]]))) (cond (v1.aT.bJ==3) (call (Z201.R v1.aT.bH) fun v2=>(bZ (eP (((v2.length:Int)+((List.take (toNat ((a.length:Int) - 1)) (List.drop 1 a)).length:Int))*16)) (cond (decide (n>=3)) (J (.p0 [] b c 0 e f g h i 5 k l m n v1.bW.aI v1.bW.bn q (s++[[L.int d]]))) (call (Z135.R (v2++(List.take (toNat ((a.length:Int) - 1)) (List.drop 1 a)))) fun v3=>(cond (!v3) (J (.p0 [] b c 0 e f g h i 5 k l m n v1.bW.aI v1.bW.bn q (s++[[L.int d]]))) (J (.p0 (v2++(List.take (toNat ((a.length:Int) - 1)) (List.drop 1 a))) b c v1.aT.bV e f g h i j k l m (i64.wrap (n+1)) v1.bW.aI v1.bW.bn q (s++[[L.int d]])))))))) (cond (((List.take (toNat ((a.length:Int) - 1)) (List.drop 1 a)).length:Int)==0) (call (Z202.R v1.aT) fun v4=>J (.p0 [] b c 0 e f g h i 1 v4.bf v4.bJ v4.bV n v1.bW.aI v1.bW.bn v4.bH (s++[[L.int d]]))) (cond (v1.aT.bJ==2) (J (.p0 (List.take (toNat ((a.length:Int) - 1)) (List.drop 1 a)) b c v1.aT.bV e f g h i j k l m n v1.bW.aI v1.bW.bn q (s++[[L.int d]]))) (J (.p0 [] b c 0 e f g h i 4 k l m n v1.bW.aI v1.bW.bn q (s++[[L.int d]]))))))))))))) (ret ((⟨(⟨o,p⟩:bu),j,(⟨k,l,m,q⟩:aU),s,n⟩:cX):cX)))
def start (J:Pt->aH)(x0:bu)(x1:Int)(x2:aC)(x3 x4:List L):aH:=(call (Z129.R x0) fun v1=>(call (Z135.R x2) fun v2=>(cond (!v2) (ret ((⟨v1,6,(⟨(⟨#[]⟩:aD),0,0,[]⟩:aU),[],0⟩:cX):cX)) (J (.p0 x2 x3 x4 x1 0 ⟨#[]⟩ 0 0 0 0 ⟨#[]⟩ 0 0 0 v1.aI v1.bn [] [])))))
def live:Nat->Live:=fun i=>match i with | 6=>[(2,some 1099511627785),(3,none),(8,none),(9,none),(10,none),(9,some 6291465),(9,some 7340035)] | _=>[]
def pats:List gj:=[.agg [.sl 134,.sl 143],.rd (.int .i64),.rd (.sl 9),.fn 69 [[.sl 88],[aB]]]
def res:RP:=.agg [.fr 134,.fr 143,.rd (.int .i64),.rd (.str),.rd (.int .i64),.rd (.int .i64),.fr 9,.fr 3,.rd (.int .i64)]
abbrev E:Env:={ T:=assoc kL,G:=dm [(48,Z129.aW),(107,Z135.aW),(69,Z243.aW)],nt:=48,M:=fO [],I:=nL [(108,Z244.ic 0)] }
def step_eq (I:cH)(p:Pt):cR E live I (pid p) (bQ Tryz.f68) (fE (live (pid p)) (cj p) (cg p)) (cG E Tryz.f68 res)=step (fun q=>I (pid q) (cj q) (cg q)) p:=by
 cases p<;>kernel_rfl
def start_eq (I:cH)(ls:List L):eS E live I (bQ Tryz.f68) (cW pats ls) (cG E Tryz.f68 res)=start (fun q=>I (pid q) (cj q) (cg q)) (bu.dec ls) ((aA 2 ls).headD .hole).toInt ((aA 3 ls).headD .hole).aS (cJ 1 (aA 4 ls)) (cJ 1 (aA 5 ls)):=by kernel_rfl
def run_eq (n:Nat)(ls:List L):eN E live Tryz.f68 res n (cW pats ls)=start (iter step n) (bu.dec ls) ((aA 2 ls).headD .hole).toInt ((aA 3 ls).headD .hole).aS (cJ 1 (aA 4 ls)) (cJ 1 (aA 5 ls)):=cB (id:=pid) (vs:=cj) (hs:=cg) (step:=step) (start:=fun J=>start J (bu.dec ls) ((aA 2 ls).headD .hole).toInt ((aA 3 ls).headD .hole).aS (cJ 1 (aA 4 ls)) (cJ 1 (aA 5 ls))) step_eq (fun I=>start_eq I ls) n
def md (a0:aq)(a1:Int)(a2:List aD)(a3:List ay)(a4:Int):bE:=(cond (!Z135.md a2) ⟨a0,6,⟨⟨#[]⟩,0,0,[]⟩,[],0⟩ ((Z121.rs (Z121.lk a3 a4) 17 () a0 [] 0 a1 a2).1))
def gd (a0:aq)(a1:Int)(a2:List aD)(a3:List ay)(a4:Int):Prop:=(aq.Sm (2^21) a0)/\(bM (2^21) (fun y:aD=>y.size<=(2^21)) a2)/\(bM (2^21) (fun y:ay=>ay.Sm (2^21) y) a3)
def acc (ls:List L):bu×Int×aC×aC×Int:=((bu.dec ls),((aA 2 ls).headD .hole).toInt,((aA 3 ls).headD .hole).aS,(me (cJ 1 (aA 4 ls))),(gi (cJ 1 (aA 5 ls))))
def R:(bu×Int×aC×aC×Int)->Option cX:=RR (p5 gd) (u5 md)
def aj {a0 a1 a2 a3 a4}(h:gd a0 a1 a2 a3 a4):R ((aq.r a0),a1,(a2.map cC),(a3.map ay.row),a4)=some (bE.r (md a0 a1 a2 a3 a4)):=aO (a:=(a0,a1,a2,a3,a4)) h
def aW:fT:=CN pats res acc R
def bw (a0:aq)(a1:Int)(a2:List aD)(a3:List ay)(a4:Int)(p3 p4:List L)(e3:(a3.map ay.row)=(me p3))(e4:a4=(gi p4))(hg:gd a0 a1 a2 a3 a4):∃n,start (iter step n) (aq.r a0) a1 (a2.map cC) p3 p4=ret ((bE.r (md a0 a1 a2 a3 a4)):cX):=by
 obtain ⟨H0,H2,H3⟩:=hg
 have fin:∀(J:Pt->aH) (code:Int) (x z:Int) (xs:aC) (lab:aD) (kd vl mv:Int) (o p q s:aC),¬code=0->step J (Pt.p0 xs p3 p4 z 0 ⟨#[]⟩ 0 0 0 code lab kd vl mv o p q s)=ret (⟨⟨o,p⟩,code,⟨lab,kd,vl,q⟩,s,mv⟩:cX):=by
  intro J code x z xs lab kd vl mv o p q s h
  simp only [step]
  exact cL (beq_eq_false_iff_ne.2 h) rfl
 have key:∀(n:Nat) (k:aq) (zs:List Int) (mv z:Int) (p:List aD),aq.Sm (2^21) k->Z43.md p=true->0<=mv->mv<=3->(3 - mv)*4+(p.length:Int)<=n->zs.length+n<=100->
   ∃m,iter step m (Pt.p0 (p.map cC) p3 p4 z 0 ⟨#[]⟩ 0 0 0 0 ⟨#[]⟩ 0 0 mv (k.aI.map (dF aa.row)) (k.bn.map az.row) [] (zs.map aZ))=ret (bE.r (Z121.rs (Z121.lk a3 a4) n () k zs mv z p).1):=by
  intro n
  induction n with
  | zero=>intro k zs mv z p _ hp _ _ hm _;have:=(Z43.tr hp).1;omega
  | succ n ih=>
   intro k zs mv z p hk hp h0 h3 hm hz
   obtain ⟨⟨p1,p4'⟩,p8⟩:=Z43.tr hp
   obtain ⟨x,xs,rfl⟩:∃x xs,p=x::xs:=by
    cases p with
    | nil=>simp at p1
    | cons x xs=>exact ⟨x,xs,rfl⟩
   have hx:x.size<=2^21:=le_trans (p8 x (by simp)) (by decide)
   have hxs:∀y∈xs,y.size<=2^22:=fun y hy=>le_trans (p8 y (by simp [hy])) (by decide)
   have hask:=Z96.gb (a0:=a3) (a1:=z) (a2:=x) ⟨H3,hx⟩
   have hlk:=Z118.gb (a0:=k) (a1:=Z96.md a3 z x) (a2:=z) (a3:=x) (a4:=a4) ⟨hk,hask,hx⟩
   have hat:pR ((x::xs).map cC) 0=x:=rfl
   have ht:List.take (toNat (((xs.length+1:Nat):Int) - 1)) (List.drop 1 ((x::xs).map cC))=xs.map cC:=by
    simp only [List.map_cons,List.drop_succ_cons,List.drop_zero]
    exact List.take_of_length_le (by simp)
   simp only [List.length_cons] at p4' hm
   refine Z121.wj ?_
   simp only [step,hat,List.length_map,List.length_cons,ht,<-e3,<-e4]
   refine dH rfl (dH dt ?_)
   have hR:=Z243.aj (a0:=k) (a1:=z) (a2:=x) (a3:=a3) (a4:=a4) ⟨hk,hx,H3⟩
   rw [Z243.lk] at hR
   refine cx hR ?_
   have hcase:∀q,Z121.nx (Z118.md k (Z96.md a3 z x) z x a4) mv (x::xs)=.inl q->Z121.rs (Z121.lk a3 a4) (n+1) () k zs mv z (x::xs)=(⟨(Z118.md k (Z96.md a3 z x) z x a4).bW,q.1,q.2,zs++[z],mv⟩,()):=fun q hq=>Z121.vI hq
   have hcase2:∀q,Z121.nx (Z118.md k (Z96.md a3 z x) z x a4) mv (x::xs)=.inr q->Z121.rs (Z121.lk a3 a4) (n+1) () k zs mv z (x::xs)=Z121.rs (Z121.lk a3 a4) n () (Z118.md k (Z96.md a3 z x) z x a4).bW (zs++[z]) q.1 q.2.1 q.2.2:=fun q hq=>Z121.vm hq
   clear hR
   revert hcase hcase2 hlk
   generalize Z118.md k (Z96.md a3 z x) z x a4=l
   intro hlk hcase hcase2
   refine dH lm (dH dt (dH dt ?_))
   obtain ⟨lk0,lf,le,ld,lc⟩:=l
   unfold Z121.nx at hcase hcase2
   have hzz:zs.map aZ++[[L.int z]]=(zs++[z]).map aZ:=by simp [aZ]
   cases ld
   ·exact dH rfl ⟨1,(fin _ 3 0 _ _ _ _ _ _ _ _ _ _ (by decide)).trans (by rw [hcase _ rfl];exact fz)⟩
   cases lf
   ·exact dx rfl (dH rfl ⟨1,(fin _ 2 0 _ _ _ _ _ _ _ _ _ _ (by decide)).trans (by rw [hcase _ rfl];exact fz)⟩)
   simp only [Bool.not_true,bq,bg,List.tail_cons] at hcase hcase2 ⊢
   have hpl:bM (2^21) (fun y:aD=>y.size<=(2^21)) le.bH:=hlk.2.1.2
   have hpl1:le.bH.length<=2^21:=hpl.1
   refine dx rfl (dx rfl ?_)
   try simp only [SS]
   cases hk3:(le.bJ==3)
   ·simp only [hk3,bq] at hcase hcase2 ⊢
    by_cases hx0:xs.length=0
    ·have e0:((xs.length:Int)==0)=true:=by simp [hx0]
     rw [e0] at hcase
     refine dH (beq_iff_eq.2 (by omega)) (cx (Z202.aj (a0:=le) hlk.2.1) ?_)
     exact ⟨1,(fin _ 1 0 _ _ _ _ _ _ _ _ _ _ (by decide)).trans (by rw [hcase _ rfl];exact fz)⟩
    ·have e0:((xs.length:Int)==0)=false:=by simpa using hx0
     rw [e0] at hcase hcase2
     refine dx (beq_eq_false_iff_ne.2 (by omega)) ?_
     cases hk2:(le.bJ==2)
     ·simp only [hk2,bq] at hcase
      exact dx rfl ⟨1,(fin _ 4 0 _ _ _ _ _ _ _ _ _ _ (by decide)).trans (by rw [hcase _ rfl];exact fz)⟩
     ·simp only [hk2,bq,bg] at hcase2
      refine dH rfl ?_
      have hip:Z43.md xs=true:=Z43.tl hp hx0
      rw [hcase2 _ rfl,hzz]
      exact ih lk0 (zs++[z]) mv le.bV xs hlk.1 hip h0 h3 (by omega) (by simp;omega)
   ·simp only [hk3,bg] at hcase hcase2 ⊢
    refine cx (Z201.aj (a0:=le.bH) hpl) ?_
    refine dH (by have :(le.bH.map cC).length=le.bH.length:=List.length_map ..;have :(xs.map cC).length=xs.length:=List.length_map ..;exact iy (by omega)) ?_
    by_cases hmv:mv>=3
    ·rw [decide_eq_true hmv] at hcase ⊢
     exact dH rfl ⟨1,(fin _ 5 0 _ _ _ _ _ _ _ _ _ _ (by decide)).trans (by rw [hcase _ rfl];exact fz)⟩
    ·rw [decide_eq_false hmv] at hcase hcase2 ⊢
     simp only [bq] at hcase hcase2 ⊢
     have e:le.bH.map cC++xs.map cC=(le.bH++xs).map cC:=by simp
     rw [e]
     have hq:=Z135.aj (a0:=le.bH++xs) ⟨by rw [List.length_append];omega,fun y hy=>(List.mem_append.1 hy).elim (fun h=>le_trans (hpl.2 y h) (by decide)) (hxs y)⟩
     rw [Z135.br] at hq
     refine cx hq ?_
     cases hip:Z43.md (le.bH++xs)
     ·rw [hip] at hcase
      exact dH rfl ⟨1,(fin _ 5 0 _ _ _ _ _ _ _ _ _ _ (by decide)).trans (by rw [hcase _ rfl];exact fz)⟩
     ·rw [hip] at hcase2
      have ht:=Z43.tr hip
      rw [hcase2 _ rfl,hzz,wi _ (by omega)]
      exact ih lk0 (zs++[z]) (mv+1) le.bV (le.bH++xs) hlk.1 hip (by omega) (by omega) (by omega) (by simp;omega)
 unfold start md
 refine cx (Z129.aj (a0:=a0) H0) ?_
 refine cx (Z135.aj (a0:=a2) (bM.mono H2 (by decide) (fun y hy=>le_trans hy (by decide)))) ?_
 cases hp:Z135.md a2
 ·exact ⟨0,rfl⟩
 ·simp only [Bool.not_true,bq]
  rw [Z135.br] at hp
  exact key 17 a0 [] 0 a1 a2 H0 hp (by decide) (by decide) (by have:=(Z43.tr hp).1;omega) (by simp)
def ox (ls:List L)(a:aq×Int×List aD×List ay×Int)(e:acc ls=Im.im a)(hg:(p5 gd) a):∃n:Nat,start (iter step n) (bu.dec ls) (((aA 2 ls).headD .hole).toInt) (((aA 3 ls).headD .hole).aS) (cJ 1 (aA 4 ls)) (cJ 1 (aA 5 ls))=ret (Im.im ((u5 md) a)):=by
 have e0:(aq.r a.1)=(bu.dec ls):=(congrArg (fun x=>x.1) e.symm)
 have e1:a.2.1=((aA 2 ls).headD .hole).toInt:=(congrArg (fun x=>x.2.1) e.symm)
 have e2:(a.2.2.1.map cC)=((aA 3 ls).headD .hole).aS:=(congrArg (fun x=>x.2.2.1) e.symm)
 obtain ⟨n,hn⟩:=bw a.1 a.2.1 a.2.2.1 a.2.2.2.1 a.2.2.2.2 (cJ 1 (aA 4 ls)) (cJ 1 (aA 5 ls)) (congrArg (fun x=>x.2.2.2.1) e.symm) (congrArg (fun x=>x.2.2.2.2) e.symm) hg
 refine ⟨n,?_⟩
 rw [<-e0,<-e1,<-e2]
 exact hn
def af:cy 68 aW:=VJ (mt:=false) (accr:=fun ls=>((bu.dec ls),((aA 2 ls).headD .hole).toInt,((aA 3 ls).headD .hole).aS,(cJ 1 (aA 4 ls)),(cJ 1 (aA 5 ls)))) (run:=fun n x=>start (iter step n) x.1 x.2.1 x.2.2.1 x.2.2.2.1 x.2.2.2.2) mix aF (.cons Z129.af (.cons Z135.af (.cons Z243.af .nil))) .nil (.cons (Z244.sP 0) .nil) Tryz.func68 (by kernel_rfl) run_eq (fun ls a _ e hg=>ox ls a e hg)
end Z245
namespace Z246
def F (x0:bu)(x1:aC)(x2:Int)(x3:aC)(x4:Int):aH:=(call (Z245.R (x0,x2,x3,x1,x4)) fun v1=>ret (v1:cX))
def md (a0:aq)(a1:List ay)(a2:Int)(a3:List aD)(a4:Int):bE:=(Z245.md a0 a2 a3 a1 a4)
def gd (a0:aq)(a1:List ay)(a2:Int)(a3:List aD)(a4:Int):Prop:=(aq.Sm (2^21) a0)/\(bM (2^21) (fun y:ay=>ay.Sm (2^21) y) a1)/\(bM (2^21) (fun y:aD=>y.size<=(2^21)) a3)
def R:=RR (p5 gd) (u5 md)
def aj {a0 a1 a2 a3 a4}(h:gd a0 a1 a2 a3 a4):R ((aq.r a0),(a1.map ay.row),a2,(a3.map cC),a4)=some (bE.r (md a0 a1 a2 a3 a4)):=aO (a:=(a0,a1,a2,a3,a4)) h
def aW:=CN [.agg tE,pL 88,pI,pL 9,pI] (.agg f60) RT.dec R
def bw (a0)(a1)(a2)(a3)(a4)(hg:gd a0 a1 a2 a3 a4):F (aq.r a0) (a1.map ay.row) a2 (a3.map cC) a4=ret (bE.r (md a0 a1 a2 a3 a4)):=by
 obtain ⟨H0,H1,H3⟩:=hg
 unfold F md
 try simp only [SS]
 refine ct (Z245.aj ⟨H0,H3,H1⟩) ?_
 try simp only [SS]
 all_goals exact fz
def af:cy 29 aW:=W5 16 F mix aF bw (.cons Z245.af .nil) Tryz.func29
def br (a0:aq)(a1:List ay)(a2:Int)(a3:List aD)(a4:Int):md a0 a1 a2 a3 a4=Z121.md a0 a1 a2 a3 a4:=by
 unfold md Z245.md Z121.md
 rw [Z135.br]
end Z246
namespace Z247
inductive Pt where
 | p0 (a b:aC) (c:Int)
def pid:Pt->Nat
 | .p0 ..=>4
def cj:Pt->List V
 | .p0 a b c=>[.sl none 3 a,.sl none 3 b,.int .i64 c]
def cg:Pt->List aV
 | .p0 a b c=>[]
def step (J:Pt->aH):Pt->aH
 | .p0 a b c=>(cond (decide (c<(a.length:Int))) (m2 c (a.length:Int) (m2 c (b.length:Int) (cond ((jh a (toNat c)) != (jh b (toNat c))) bh (J (.p0 a b (i64.wrap (c+1))))))) eI)
def start (J:Pt->aH)(x0 x1:aC):aH:=(cond ((x0.length:Int) != (x1.length:Int)) bh (J (.p0 x0 x1 0)))
def live:Nat->Live:=fun i=>match i with | 4=>[(0,none),(1,none),(5,none)] | _=>[]
def pats:List gj:=[.rd (.sl 3),.rd (.sl 3)]
def res:RP:=.one (.rd (.bool))
abbrev E:Env:={ T:=assoc kL,G:=dm [],nt:=26 }
def step_eq (I:cH)(p:Pt):cR E live I (pid p) (bQ Tryz.f73) (fE (live (pid p)) (cj p) (cg p)) (cG E Tryz.f73 res)=step (fun q=>I (pid q) (cj q) (cg q)) p:=by
 cases p<;>kernel_rfl
def start_eq (I:cH)(ls:List L):eS E live I (bQ Tryz.f73) (cW pats ls) (cG E Tryz.f73 res)=start (fun q=>I (pid q) (cj q) (cg q)) (ls.headD .hole).aS ((aA 1 ls).headD .hole).aS:=by kernel_rfl
def run_eq (n:Nat)(ls:List L):eN E live Tryz.f73 res n (cW pats ls)=start (iter step n) (ls.headD .hole).aS ((aA 1 ls).headD .hole).aS:=cB (id:=pid) (vs:=cj) (hs:=cg) (step:=step) (start:=fun J=>start J (ls.headD .hole).aS ((aA 1 ls).headD .hole).aS) step_eq (fun I=>start_eq I ls) n
def md (a0 a1:List Int):Bool:=dV a0 a1
def gd (a0 a1:List Int):Prop:=True
def acc (ls:List L):aC×aC:=((ls.headD .hole).aS,((aA 1 ls).headD .hole).aS)
def R:(aC×aC)->Option Bool:=RR (p2 gd) (u2 md)
def aj {a0 a1}(h:gd a0 a1):R ((a0.map aZ),(a1.map aZ))=some (md a0 a1):=aO (a:=(a0,a1)) h
def aW:fT:=CN pats res acc R
def bw (a0 a1:List Int)(hg:gd a0 a1)(h0:a0.length<=maxLen)(h1:a1.length<=maxLen):∃n,start (iter step n) (a0.map aZ) (a1.map aZ)=ret ((md a0 a1):Bool):=by
 unfold start md
 simp only [List.length_map]
 refine iN (pt:=fun i=>Pt.p0 (a0.map aZ) (a1.map aZ) (i:Int)) (fun hl J i h h2=>?_) (fun J=>?_)
 ·simp only [step,MM,List.length_map,aN h,aN h2,aJ,bg,cE,sL h,sL h2]
  rw [aG h h0]
  simp only [bne,ff,bool_beq,eM]
  cases dV a0[i] a1[i]<;>rfl
 ·simp only [step,List.length_map,dY,bq]
def af:cy 73 aW:=VV (run:=fun n x=>start (iter step n) x.1 x.2) mix aF .nil Tryz.func73 (by kernel_rfl) run_eq (fun ls a hl e hg=>bw a.1 a.2 hg (by have h:(ls.headD .hole).aS.length<=maxLen:=hl.1.len;have e:a.1.map aZ=(ls.headD .hole).aS:=(congrArg (fun x=>x.1) e.symm);rw [<-e] at h;simpa using h) (by have h:((aA 1 ls).headD .hole).aS.length<=maxLen:=hl.2.1.len;have e:a.2.map aZ=((aA 1 ls).headD .hole).aS:=(congrArg (fun x=>x.2) e.symm);rw [<-e] at h;simpa using h))
end Z247
namespace Z248
def F (x0 x1:bB):aH:=(call (Z247.R (x0.aX,x1.aX)) fun v1=>(cond (!v1) bh (cond (x0.cz != x1.cz) bh eI)))
def md (a0 a1:aM):Bool:=dV a0 a1
def gd (a0 a1:aM):Prop:=True
def R:=RR (p2 gd) (u2 md)
def aj {a0 a1}(h:gd a0 a1):R ((aM.r a0),(aM.r a1))=some (md a0 a1):=aO (a:=(a0,a1)) h
def aW:=CN [.agg iP,.agg iP] oB RT.dec R
def bw (a0)(a1)(hg:gd a0 a1):F (aM.r a0) (aM.r a1)=ret (md a0 a1):=by
 unfold md
 show (call (Z247.R ((a0.aX.map aZ),(a1.aX.map aZ))) fun v1=>(cond (!v1) bh (cond (a0.cz != a1.cz) bh eI)))=_
 simp only [call_eq (Z247.aj (a0:=a0.aX) (a1:=a1.aX) trivial),Z247.md]
 try simp only [bne,ff,bool_beq,eM]
 have e:dV a0 a1=(dV a0.aX a1.aX&&(dV a0.cz a1.cz&&true)):=by
  cases a0;cases a1
  rw [Bool.eq_iff_iff]
  simp only [cZ,Bool.and_eq_true,aM.mk.injEq,and_true]
 rw [e]
 refine cM fun _=>?_
 refine cM fun _=>?_
 rfl
def af:cy 185 aW:=W2 16 F mix aF bw (.cons Z247.af .nil) Tryz.func185
end Z248
namespace Z249
def F (x0 x1:bX):aH:=(cond (x0.bD != x1.bD) bh (cond (x0.cD != x1.cD) bh (cond (x0.bJ != x1.bJ) bh (cond (x0.cA != x1.cA) bh (cond (x0.cu != x1.cu) bh (cond (x0.ck != x1.ck) bh (cond (x0.cQ != x1.cQ) bh (cond (x0.dw != x1.dw) bh (call (Z248.R (x0.bO,x1.bO)) fun v1=>(cond (!v1) bh (call (Z248.R (x0.bA,x1.bA)) fun v2=>(cond (!v2) bh (cond (x0.cT != x1.cT) bh (call (Z248.R (x0.bt,x1.bt)) fun v3=>(cond (!v3) bh (cond (!(x0.bC==x1.bC)) bh eI))))))))))))))))
def md (a0 a1:aE):Bool:=dV a0 a1
def gd (a0 a1:aE):Prop:=True
def R:=RR (p2 gd) (u2 md)
def aj {a0 a1}(h:gd a0 a1):R ((aE.r a0),(aE.r a1))=some (md a0 a1):=aO (a:=(a0,a1)) h
def aW:=CN [.agg fU,.agg fU] oB RT.dec R
def bw (a0)(a1)(hg:gd a0 a1):F (aE.r a0) (aE.r a1)=ret (md a0 a1):=by
 unfold md
 show (bif (a0.bD != a1.bD) then bh else (bif (a0.cD != a1.cD) then bh else (bif (a0.bJ != a1.bJ) then bh else (bif (a0.cA != a1.cA) then bh else (bif (a0.cu != a1.cu) then bh else (bif (a0.ck != a1.ck) then bh else (bif (a0.cQ != a1.cQ) then bh else (bif (a0.dw != a1.dw) then bh else (call (Z248.R ((aM.r a0.bO),(aM.r a1.bO))) fun v1=>(bif (!v1) then bh else (call (Z248.R ((aM.r a0.bA),(aM.r a1.bA))) fun v2=>(bif (!v2) then bh else (bif (a0.cT != a1.cT) then bh else (call (Z248.R ((aM.r a0.bt),(aM.r a1.bt))) fun v3=>(cond (!v3) bh (cond (!(a0.bC==a1.bC)) bh eI))))))))))))))))=_
 simp only [call_eq (Z248.aj (a0:=a0.bO) (a1:=a1.bO) trivial),Z248.md]
 simp only [call_eq (Z248.aj (a0:=a0.bA) (a1:=a1.bA) trivial),Z248.md]
 simp only [call_eq (Z248.aj (a0:=a0.bt) (a1:=a1.bt) trivial),Z248.md]
 try simp only [bne,ff,bool_beq,eM]
 have e:dV a0 a1=(dV a0.bD a1.bD&&(dV a0.cD a1.cD&&(dV a0.bJ a1.bJ&&(dV a0.cA a1.cA&&(dV a0.cu a1.cu&&(dV a0.ck a1.ck&&(dV a0.cQ a1.cQ&&(dV a0.dw a1.dw&&(dV a0.bO a1.bO&&(dV a0.bA a1.bA&&(dV a0.cT a1.cT&&(dV a0.bt a1.bt&&(dV a0.bC a1.bC&&true))))))))))))):=by
  cases a0;cases a1
  rw [Bool.eq_iff_iff]
  simp only [cZ,Bool.and_eq_true,aE.mk.injEq,and_true]
 rw [e]
 refine cM fun _=>?_
 refine cM fun _=>?_
 refine cM fun _=>?_
 refine cM fun _=>?_
 refine cM fun _=>?_
 refine cM fun _=>?_
 refine cM fun _=>?_
 refine cM fun _=>?_
 refine cM fun _=>?_
 refine cM fun _=>?_
 refine cM fun _=>?_
 refine cM fun _=>?_
 refine cM fun _=>?_
 rfl
def af:cy 150 aW:=W2 73 F mix aF bw (.cons Z248.af .nil) Tryz.func150
end Z249
namespace Z250
def F (x0 x1:bk):aH:=(cond (x0.gI != x1.gI) bh (cond (x0.jc != x1.jc) bh eI))
def md (a0 a1:bk):Bool:=dV a0 a1
def gd (a0 a1:bk):Prop:=True
def R:=RR (p2 gd) (u2 md)
def aj {a0 a1}(h:gd a0 a1):R (a0,a1)=some (md a0 a1):=aO (a:=(a0,a1)) h
def aW:=CN [.agg xW,.agg xW] oB RT.dec R
def bw (a0)(a1)(hg:gd a0 a1):F a0 a1=ret (md a0 a1):=by
 unfold md
 show (cond (a0.gI != a1.gI) bh (cond (a0.jc != a1.jc) bh eI))=_
 try simp only [bne,ff,bool_beq,eM]
 have e:dV a0 a1=(dV a0.gI a1.gI&&(dV a0.jc a1.jc&&true)):=by
  cases a0;cases a1
  rw [Bool.eq_iff_iff]
  simp only [cZ,Bool.and_eq_true,bk.mk.injEq,and_true]
 rw [e]
 refine cM fun _=>?_
 refine cM fun _=>?_
 rfl
def af:cy 186 aW:=W2 15 F mix aF bw .nil Tryz.func186
end Z250
namespace Z251
inductive Pt where
 | p0 (a b:aC) (c:Int)
def pid:Pt->Nat
 | .p0 ..=>4
def cj:Pt->List V
 | .p0 a b c=>[.sl none 190 a,.sl none 190 b,.int .i64 c]
def cg:Pt->List aV
 | .p0 a b c=>[]
def step (J:Pt->aH):Pt->aH
 | .p0 a b c=>(cond (decide (c<(a.length:Int))) (m2 c (a.length:Int) (m2 c (b.length:Int) (call (Z250.R ((bk.at a (toNat c)),(bk.at b (toNat c)))) fun v1=>(cond (!v1) bh (J (.p0 a b (i64.wrap (c+1)))))))) eI)
def start (J:Pt->aH)(x0 x1:aC):aH:=(cond ((x0.length:Int) != (x1.length:Int)) bh (J (.p0 x0 x1 0)))
def live:Nat->Live:=fun i=>match i with | 4=>[(0,none),(1,none),(5,none)] | _=>[]
def pats:List gj:=[.rd (.sl 190),.rd (.sl 190)]
def res:RP:=.one (.rd (.bool))
abbrev E:Env:={ T:=assoc kL,G:=dm [(186,Z250.aW)],nt:=27 }
def step_eq (I:cH)(p:Pt):cR E live I (pid p) (bQ Tryz.f151) (fE (live (pid p)) (cj p) (cg p)) (cG E Tryz.f151 res)=step (fun q=>I (pid q) (cj q) (cg q)) p:=by
 cases p<;>kernel_rfl
def start_eq (I:cH)(ls:List L):eS E live I (bQ Tryz.f151) (cW pats ls) (cG E Tryz.f151 res)=start (fun q=>I (pid q) (cj q) (cg q)) (ls.headD .hole).aS ((aA 1 ls).headD .hole).aS:=by kernel_rfl
def run_eq (n:Nat)(ls:List L):eN E live Tryz.f151 res n (cW pats ls)=start (iter step n) (ls.headD .hole).aS ((aA 1 ls).headD .hole).aS:=cB (id:=pid) (vs:=cj) (hs:=cg) (step:=step) (start:=fun J=>start J (ls.headD .hole).aS ((aA 1 ls).headD .hole).aS) step_eq (fun I=>start_eq I ls) n
def md (a0 a1:List bk):Bool:=dV a0 a1
def gd (a0 a1:List bk):Prop:=True
def acc (ls:List L):aC×aC:=((ls.headD .hole).aS,((aA 1 ls).headD .hole).aS)
def R:(aC×aC)->Option Bool:=RR (p2 gd) (u2 md)
def aj {a0 a1}(h:gd a0 a1):R ((a0.map bk.row),(a1.map bk.row))=some (md a0 a1):=aO (a:=(a0,a1)) h
def aW:fT:=CN pats res acc R
def bw (a0 a1:List bk)(hg:gd a0 a1)(h0:a0.length<=maxLen)(h1:a1.length<=maxLen):∃n,start (iter step n) (a0.map bk.row) (a1.map bk.row)=ret ((md a0 a1):Bool):=by
 unfold start md
 simp only [List.length_map]
 refine iN (pt:=fun i=>Pt.p0 (a0.map bk.row) (a1.map bk.row) (i:Int)) (fun hl J i h h2=>?_) (fun J=>?_)
 ·simp only [step,MM,List.length_map,aN h,aN h2,aJ,bg,cE,bk.eD h,bk.eD h2]
  rw [aG h h0]
  rw [call_eq (Z250.aj (a0:=a0[i]) (a1:=a1[i]) trivial),Z250.md]
  cases dV a0[i] a1[i]<;>rfl
 ·simp only [step,List.length_map,dY,bq]
def af:cy 151 aW:=VV (run:=fun n x=>start (iter step n) x.1 x.2) mix aF (.cons Z250.af .nil) Tryz.func151 (by kernel_rfl) run_eq (fun ls a hl e hg=>bw a.1 a.2 hg (by have h:(ls.headD .hole).aS.length<=maxLen:=hl.1.len;have e:a.1.map bk.row=(ls.headD .hole).aS:=(congrArg (fun x=>x.1) e.symm);rw [<-e] at h;simpa using h) (by have h:((aA 1 ls).headD .hole).aS.length<=maxLen:=hl.2.1.len;have e:a.2.map bk.row=((aA 1 ls).headD .hole).aS:=(congrArg (fun x=>x.2) e.symm);rw [<-e] at h;simpa using h))
end Z251
namespace Z252
def F (x0 x1:aP):aH:=(call (Z249.R (x0.an,x1.an)) fun v1=>(cond (!v1) bh (call (Z251.R (x0.bY,x1.bY)) fun v2=>(cond (!v2) bh eI))))
def md (a0 a1:aa):Bool:=dV a0 a1
def gd (a0 a1:aa):Prop:=True
def R:=RR (p2 gd) (u2 md)
def aj {a0 a1}(h:gd a0 a1):R ((aa.r a0),(aa.r a1))=some (md a0 a1):=aO (a:=(a0,a1)) h
def aW:=CN [.agg kD,.agg kD] oB RT.dec R
def bw (a0)(a1)(hg:gd a0 a1):F (aa.r a0) (aa.r a1)=ret (md a0 a1):=by
 unfold md
 show (call (Z249.R ((aE.r a0.an),(aE.r a1.an))) fun v1=>(bif (!v1) then bh else (call (Z251.R ((a0.bY.map bk.row),(a1.bY.map bk.row))) fun v2=>(cond (!v2) bh eI))))=_
 simp only [call_eq (Z249.aj (a0:=a0.an) (a1:=a1.an) trivial),Z249.md]
 simp only [call_eq (Z251.aj (a0:=a0.bY) (a1:=a1.bY) trivial),Z251.md]
 try simp only [bne,ff,bool_beq,eM]
 have e:dV a0 a1=(dV a0.an a1.an&&(dV a0.bY a1.bY&&true)):=by
  cases a0;cases a1
  rw [Bool.eq_iff_iff]
  simp only [cZ,Bool.and_eq_true,aa.mk.injEq,and_true]
 rw [e]
 refine cM fun _=>?_
 refine cM fun _=>?_
 rfl
def af:cy 119 aW:=W2 17 F mix aF bw (.cons Z249.af (.cons Z251.af .nil)) Tryz.func119
end Z252
namespace Z253
inductive Pt where
 | p0 (a b:aC) (c:Int)
def pid:Pt->Nat
 | .p0 ..=>4
def cj:Pt->List V
 | .p0 a b c=>[.sl none 141 a,.sl none 141 b,.int .i64 c]
def cg:Pt->List aV
 | .p0 a b c=>[]
def step (J:Pt->aH):Pt->aH
 | .p0 a b c=>(cond (decide (c<(a.length:Int))) (m2 c (a.length:Int) (m2 c (b.length:Int) (call (Z252.R ((aP.at a (toNat c)),(aP.at b (toNat c)))) fun v1=>(cond (!v1) bh (J (.p0 a b (i64.wrap (c+1)))))))) eI)
def start (J:Pt->aH)(x0 x1:aC):aH:=(cond ((x0.length:Int) != (x1.length:Int)) bh (J (.p0 x0 x1 0)))
def live:Nat->Live:=fun i=>match i with | 4=>[(0,none),(1,none),(5,none)] | _=>[]
def pats:List gj:=[.rd (.sl 141),.rd (.sl 141)]
def res:RP:=.one (.rd (.bool))
abbrev E:Env:={ T:=assoc kL,G:=dm [(119,Z252.aW)],nt:=27 }
def step_eq (I:cH)(p:Pt):cR E live I (pid p) (bQ Tryz.f91) (fE (live (pid p)) (cj p) (cg p)) (cG E Tryz.f91 res)=step (fun q=>I (pid q) (cj q) (cg q)) p:=by
 cases p<;>kernel_rfl
def start_eq (I:cH)(ls:List L):eS E live I (bQ Tryz.f91) (cW pats ls) (cG E Tryz.f91 res)=start (fun q=>I (pid q) (cj q) (cg q)) (ls.headD .hole).aS ((aA 1 ls).headD .hole).aS:=by kernel_rfl
def run_eq (n:Nat)(ls:List L):eN E live Tryz.f91 res n (cW pats ls)=start (iter step n) (ls.headD .hole).aS ((aA 1 ls).headD .hole).aS:=cB (id:=pid) (vs:=cj) (hs:=cg) (step:=step) (start:=fun J=>start J (ls.headD .hole).aS ((aA 1 ls).headD .hole).aS) step_eq (fun I=>start_eq I ls) n
def md (a0 a1:List aa):Bool:=dV a0 a1
def gd (a0 a1:List aa):Prop:=True
def acc (ls:List L):aC×aC:=((ls.headD .hole).aS,((aA 1 ls).headD .hole).aS)
def R:(aC×aC)->Option Bool:=RR (p2 gd) (u2 md)
def aj {a0 a1}(h:gd a0 a1):R ((a0.map aa.row),(a1.map aa.row))=some (md a0 a1):=aO (a:=(a0,a1)) h
def aW:fT:=CN pats res acc R
def bw (a0 a1:List aa)(hg:gd a0 a1)(h0:a0.length<=maxLen)(h1:a1.length<=maxLen):∃n,start (iter step n) (a0.map aa.row) (a1.map aa.row)=ret ((md a0 a1):Bool):=by
 unfold start md
 simp only [List.length_map]
 refine iN (pt:=fun i=>Pt.p0 (a0.map aa.row) (a1.map aa.row) (i:Int)) (fun hl J i h h2=>?_) (fun J=>?_)
 ·simp only [step,MM,List.length_map,aN h,aN h2,aJ,bg,cE,aa.eD h,aa.eD h2]
  rw [aG h h0]
  rw [call_eq (Z252.aj (a0:=a0[i]) (a1:=a1[i]) trivial),Z252.md]
  cases dV a0[i] a1[i]<;>rfl
 ·simp only [step,List.length_map,dY,bq]
def af:cy 91 aW:=VV (run:=fun n x=>start (iter step n) x.1 x.2) mix aF (.cons Z252.af .nil) Tryz.func91 (by kernel_rfl) run_eq (fun ls a hl e hg=>bw a.1 a.2 hg (by have h:(ls.headD .hole).aS.length<=maxLen:=hl.1.len;have e:a.1.map aa.row=(ls.headD .hole).aS:=(congrArg (fun x=>x.1) e.symm);rw [<-e] at h;simpa using h) (by have h:((aA 1 ls).headD .hole).aS.length<=maxLen:=hl.2.1.len;have e:a.2.map aa.row=((aA 1 ls).headD .hole).aS:=(congrArg (fun x=>x.2) e.symm);rw [<-e] at h;simpa using h))
end Z253
namespace Z254
inductive Pt where
 | p0 (a b:aC) (c:Int)
def pid:Pt->Nat
 | .p0 ..=>4
def cj:Pt->List V
 | .p0 a b c=>[.sl none 134 a,.sl none 134 b,.int .i64 c]
def cg:Pt->List aV
 | .p0 a b c=>[]
def step (J:Pt->aH):Pt->aH
 | .p0 a b c=>(cond (decide (c<(a.length:Int))) (m2 c (a.length:Int) (m2 c (b.length:Int) (call (Z253.R ((oy a (toNat c)),(oy b (toNat c)))) fun v1=>(cond (!v1) bh (J (.p0 a b (i64.wrap (c+1)))))))) eI)
def start (J:Pt->aH)(x0 x1:aC):aH:=(cond ((x0.length:Int) != (x1.length:Int)) bh (J (.p0 x0 x1 0)))
def live:Nat->Live:=fun i=>match i with | 4=>[(0,none),(1,none),(5,none)] | _=>[]
def pats:List gj:=[.rd (.sl 134),.rd (.sl 134)]
def res:RP:=.one (.rd (.bool))
abbrev E:Env:={ T:=assoc kL,G:=dm [(91,Z253.aW)],nt:=27 }
def step_eq (I:cH)(p:Pt):cR E live I (pid p) (bQ Tryz.f49) (fE (live (pid p)) (cj p) (cg p)) (cG E Tryz.f49 res)=step (fun q=>I (pid q) (cj q) (cg q)) p:=by
 cases p<;>kernel_rfl
def start_eq (I:cH)(ls:List L):eS E live I (bQ Tryz.f49) (cW pats ls) (cG E Tryz.f49 res)=start (fun q=>I (pid q) (cj q) (cg q)) (ls.headD .hole).aS ((aA 1 ls).headD .hole).aS:=by kernel_rfl
def run_eq (n:Nat)(ls:List L):eN E live Tryz.f49 res n (cW pats ls)=start (iter step n) (ls.headD .hole).aS ((aA 1 ls).headD .hole).aS:=cB (id:=pid) (vs:=cj) (hs:=cg) (step:=step) (start:=fun J=>start J (ls.headD .hole).aS ((aA 1 ls).headD .hole).aS) step_eq (fun I=>start_eq I ls) n
def md (a0 a1:List (List aa)):Bool:=dV a0 a1
def gd (a0 a1:List (List aa)):Prop:=True
def acc (ls:List L):aC×aC:=((ls.headD .hole).aS,((aA 1 ls).headD .hole).aS)
def R:(aC×aC)->Option Bool:=RR (p2 gd) (u2 md)
def aj {a0 a1}(h:gd a0 a1):R ((a0.map (dF aa.row)),(a1.map (dF aa.row)))=some (md a0 a1):=aO (a:=(a0,a1)) h
def aW:fT:=CN pats res acc R
def bw (a0 a1:List (List aa))(hg:gd a0 a1)(h0:a0.length<=maxLen)(h1:a1.length<=maxLen):∃n,start (iter step n) (a0.map (dF aa.row)) (a1.map (dF aa.row))=ret ((md a0 a1):Bool):=by
 unfold start md
 simp only [List.length_map]
 refine iN (pt:=fun i=>Pt.p0 (a0.map (dF aa.row)) (a1.map (dF aa.row)) (i:Int)) (fun hl J i h h2=>?_) (fun J=>?_)
 ·simp only [step,MM,List.length_map,aN h,aN h2,aJ,bg,cE,pU h,pU h2]
  rw [aG h h0]
  rw [call_eq (Z253.aj (a0:=a0[i]) (a1:=a1[i]) trivial),Z253.md]
  cases dV a0[i] a1[i]<;>rfl
 ·simp only [step,List.length_map,dY,bq]
def af:cy 49 aW:=VV (run:=fun n x=>start (iter step n) x.1 x.2) mix aF (.cons Z253.af .nil) Tryz.func49 (by kernel_rfl) run_eq (fun ls a hl e hg=>bw a.1 a.2 hg (by have h:(ls.headD .hole).aS.length<=maxLen:=hl.1.len;have e:a.1.map (dF aa.row)=(ls.headD .hole).aS:=(congrArg (fun x=>x.1) e.symm);rw [<-e] at h;simpa using h) (by have h:((aA 1 ls).headD .hole).aS.length<=maxLen:=hl.2.1.len;have e:a.2.map (dF aa.row)=((aA 1 ls).headD .hole).aS:=(congrArg (fun x=>x.2) e.symm);rw [<-e] at h;simpa using h))
end Z254
namespace Z255
def F (x0 x1:bF):aH:=(call (Z252.R (x0.aQ,x1.aQ)) fun v1=>(cond (!v1) bh (call (Z252.R (x0.fA,x1.fA)) fun v2=>(cond (!v2) bh (call (Z252.R (x0.fB,x1.fB)) fun v3=>(cond (!v3) bh eI))))))
def md (a0 a1:az):Bool:=dV a0 a1
def gd (a0 a1:az):Prop:=True
def R:=RR (p2 gd) (u2 md)
def aj {a0 a1}(h:gd a0 a1):R ((az.r a0),(az.r a1))=some (md a0 a1):=aO (a:=(a0,a1)) h
def aW:=CN [.agg sS,.agg sS] oB RT.dec R
def bw (a0)(a1)(hg:gd a0 a1):F (az.r a0) (az.r a1)=ret (md a0 a1):=by
 unfold md
 show (call (Z252.R ((aa.r a0.aQ),(aa.r a1.aQ))) fun v1=>(bif (!v1) then bh else (call (Z252.R ((aa.r a0.fA),(aa.r a1.fA))) fun v2=>(bif (!v2) then bh else (call (Z252.R ((aa.r a0.fB),(aa.r a1.fB))) fun v3=>(cond (!v3) bh eI))))))=_
 simp only [call_eq (Z252.aj (a0:=a0.aQ) (a1:=a1.aQ) trivial),Z252.md]
 simp only [call_eq (Z252.aj (a0:=a0.fA) (a1:=a1.fA) trivial),Z252.md]
 simp only [call_eq (Z252.aj (a0:=a0.fB) (a1:=a1.fB) trivial),Z252.md]
 try simp only [bne,ff,bool_beq,eM]
 have e:dV a0 a1=(dV a0.aQ a1.aQ&&(dV a0.fA a1.fA&&(dV a0.fB a1.fB&&true))):=by
  cases a0;cases a1
  rw [Bool.eq_iff_iff]
  simp only [cZ,Bool.and_eq_true,az.mk.injEq,and_true]
 rw [e]
 refine cM fun _=>?_
 refine cM fun _=>?_
 refine cM fun _=>?_
 rfl
def af:cy 92 aW:=W2 23 F mix aF bw (.cons Z252.af .nil) Tryz.func92
end Z255
namespace Z256
inductive Pt where
 | p0 (a b:aC) (c:Int)
def pid:Pt->Nat
 | .p0 ..=>4
def cj:Pt->List V
 | .p0 a b c=>[.sl none 143 a,.sl none 143 b,.int .i64 c]
def cg:Pt->List aV
 | .p0 a b c=>[]
def step (J:Pt->aH):Pt->aH
 | .p0 a b c=>(cond (decide (c<(a.length:Int))) (m2 c (a.length:Int) (m2 c (b.length:Int) (call (Z255.R ((bF.at a (toNat c)),(bF.at b (toNat c)))) fun v1=>(cond (!v1) bh (J (.p0 a b (i64.wrap (c+1)))))))) eI)
def start (J:Pt->aH)(x0 x1:aC):aH:=(cond ((x0.length:Int) != (x1.length:Int)) bh (J (.p0 x0 x1 0)))
def live:Nat->Live:=fun i=>match i with | 4=>[(0,none),(1,none),(5,none)] | _=>[]
def pats:List gj:=[.rd (.sl 143),.rd (.sl 143)]
def res:RP:=.one (.rd (.bool))
abbrev E:Env:={ T:=assoc kL,G:=dm [(92,Z255.aW)],nt:=27 }
def step_eq (I:cH)(p:Pt):cR E live I (pid p) (bQ Tryz.f50) (fE (live (pid p)) (cj p) (cg p)) (cG E Tryz.f50 res)=step (fun q=>I (pid q) (cj q) (cg q)) p:=by
 cases p<;>kernel_rfl
def start_eq (I:cH)(ls:List L):eS E live I (bQ Tryz.f50) (cW pats ls) (cG E Tryz.f50 res)=start (fun q=>I (pid q) (cj q) (cg q)) (ls.headD .hole).aS ((aA 1 ls).headD .hole).aS:=by kernel_rfl
def run_eq (n:Nat)(ls:List L):eN E live Tryz.f50 res n (cW pats ls)=start (iter step n) (ls.headD .hole).aS ((aA 1 ls).headD .hole).aS:=cB (id:=pid) (vs:=cj) (hs:=cg) (step:=step) (start:=fun J=>start J (ls.headD .hole).aS ((aA 1 ls).headD .hole).aS) step_eq (fun I=>start_eq I ls) n
def md (a0 a1:List az):Bool:=dV a0 a1
def gd (a0 a1:List az):Prop:=True
def acc (ls:List L):aC×aC:=((ls.headD .hole).aS,((aA 1 ls).headD .hole).aS)
def R:(aC×aC)->Option Bool:=RR (p2 gd) (u2 md)
def aj {a0 a1}(h:gd a0 a1):R ((a0.map az.row),(a1.map az.row))=some (md a0 a1):=aO (a:=(a0,a1)) h
def aW:fT:=CN pats res acc R
def bw (a0 a1:List az)(hg:gd a0 a1)(h0:a0.length<=maxLen)(h1:a1.length<=maxLen):∃n,start (iter step n) (a0.map az.row) (a1.map az.row)=ret ((md a0 a1):Bool):=by
 unfold start md
 simp only [List.length_map]
 refine iN (pt:=fun i=>Pt.p0 (a0.map az.row) (a1.map az.row) (i:Int)) (fun hl J i h h2=>?_) (fun J=>?_)
 ·simp only [step,MM,List.length_map,aN h,aN h2,aJ,bg,cE,az.eD h,az.eD h2]
  rw [aG h h0]
  rw [call_eq (Z255.aj (a0:=a0[i]) (a1:=a1[i]) trivial),Z255.md]
  cases dV a0[i] a1[i]<;>rfl
 ·simp only [step,List.length_map,dY,bq]
def af:cy 50 aW:=VV (run:=fun n x=>start (iter step n) x.1 x.2) mix aF (.cons Z255.af .nil) Tryz.func50 (by kernel_rfl) run_eq (fun ls a hl e hg=>bw a.1 a.2 hg (by have h:(ls.headD .hole).aS.length<=maxLen:=hl.1.len;have e:a.1.map az.row=(ls.headD .hole).aS:=(congrArg (fun x=>x.1) e.symm);rw [<-e] at h;simpa using h) (by have h:((aA 1 ls).headD .hole).aS.length<=maxLen:=hl.2.1.len;have e:a.2.map az.row=((aA 1 ls).headD .hole).aS:=(congrArg (fun x=>x.2) e.symm);rw [<-e] at h;simpa using h))
end Z256
namespace Z257
def F (x0 x1:bu):aH:=(call (Z254.R (x0.aI,x1.aI)) fun v1=>(cond (!v1) bh (call (Z256.R (x0.bn,x1.bn)) fun v2=>(cond (!v2) bh eI))))
def md (a0 a1:aq):Bool:=dV a0 a1
def gd (a0 a1:aq):Prop:=True
def R:=RR (p2 gd) (u2 md)
def aj {a0 a1}(h:gd a0 a1):R ((aq.r a0),(aq.r a1))=some (md a0 a1):=aO (a:=(a0,a1)) h
def aW:=CN [.agg tE,.agg tE] oB RT.dec R
def bw (a0)(a1)(hg:gd a0 a1):F (aq.r a0) (aq.r a1)=ret (md a0 a1):=by
 unfold md
 show (call (Z254.R ((a0.aI.map (dF aa.row)),(a1.aI.map (dF aa.row)))) fun v1=>(bif (!v1) then bh else (call (Z256.R ((a0.bn.map az.row),(a1.bn.map az.row))) fun v2=>(cond (!v2) bh eI))))=_
 simp only [call_eq (Z254.aj (a0:=a0.aI) (a1:=a1.aI) trivial),Z254.md]
 simp only [call_eq (Z256.aj (a0:=a0.bn) (a1:=a1.bn) trivial),Z256.md]
 try simp only [bne,ff,bool_beq,eM]
 have e:dV a0 a1=(dV a0.aI a1.aI&&(dV a0.bn a1.bn&&true)):=by
  cases a0;cases a1
  rw [Bool.eq_iff_iff]
  simp only [cZ,Bool.and_eq_true,aq.mk.injEq,and_true]
 rw [e]
 refine cM fun _=>?_
 refine cM fun _=>?_
 rfl
def af:cy 17 aW:=W2 17 F mix aF bw (.cons Z254.af (.cons Z256.af .nil)) Tryz.func17
end Z257
namespace Z258
inductive Pt where
 | p0 (a b:aC) (c:Int)
def pid:Pt->Nat
 | .p0 ..=>4
def cj:Pt->List V
 | .p0 a b c=>[.sl none 9 a,.sl none 9 b,.int .i64 c]
def cg:Pt->List aV
 | .p0 a b c=>[]
def step (J:Pt->aH):Pt->aH
 | .p0 a b c=>(cond (decide (c<(a.length:Int))) (m2 c (a.length:Int) (m2 c (b.length:Int) (cond (!((pR a (toNat c))==(pR b (toNat c)))) bh (J (.p0 a b (i64.wrap (c+1))))))) eI)
def start (J:Pt->aH)(x0 x1:aC):aH:=(cond ((x0.length:Int) != (x1.length:Int)) bh (J (.p0 x0 x1 0)))
def live:Nat->Live:=fun i=>match i with | 4=>[(0,none),(1,none),(5,none)] | _=>[]
def pats:List gj:=[.rd (.sl 9),.rd (.sl 9)]
def res:RP:=.one (.rd (.bool))
abbrev E:Env:={ T:=assoc kL,G:=dm [],nt:=26 }
def step_eq (I:cH)(p:Pt):cR E live I (pid p) (bQ Tryz.f20) (fE (live (pid p)) (cj p) (cg p)) (cG E Tryz.f20 res)=step (fun q=>I (pid q) (cj q) (cg q)) p:=by
 cases p<;>kernel_rfl
def start_eq (I:cH)(ls:List L):eS E live I (bQ Tryz.f20) (cW pats ls) (cG E Tryz.f20 res)=start (fun q=>I (pid q) (cj q) (cg q)) (ls.headD .hole).aS ((aA 1 ls).headD .hole).aS:=by kernel_rfl
def run_eq (n:Nat)(ls:List L):eN E live Tryz.f20 res n (cW pats ls)=start (iter step n) (ls.headD .hole).aS ((aA 1 ls).headD .hole).aS:=cB (id:=pid) (vs:=cj) (hs:=cg) (step:=step) (start:=fun J=>start J (ls.headD .hole).aS ((aA 1 ls).headD .hole).aS) step_eq (fun I=>start_eq I ls) n
def md (a0 a1:List aD):Bool:=dV a0 a1
def gd (a0 a1:List aD):Prop:=True
def acc (ls:List L):aC×aC:=((ls.headD .hole).aS,((aA 1 ls).headD .hole).aS)
def R:(aC×aC)->Option Bool:=RR (p2 gd) (u2 md)
def aj {a0 a1}(h:gd a0 a1):R ((a0.map cC),(a1.map cC))=some (md a0 a1):=aO (a:=(a0,a1)) h
def aW:fT:=CN pats res acc R
def bw (a0 a1:List aD)(hg:gd a0 a1)(h0:a0.length<=maxLen)(h1:a1.length<=maxLen):∃n,start (iter step n) (a0.map cC) (a1.map cC)=ret ((md a0 a1):Bool):=by
 unfold start md
 simp only [List.length_map]
 refine iN (pt:=fun i=>Pt.p0 (a0.map cC) (a1.map cC) (i:Int)) (fun hl J i h h2=>?_) (fun J=>?_)
 ·simp only [step,MM,List.length_map,aN h,aN h2,aJ,bg,cE,pN h,pN h2]
  rw [aG h h0]
  simp only [bne,ff,bool_beq,eM]
  cases dV a0[i] a1[i]<;>rfl
 ·simp only [step,List.length_map,dY,bq]
def af:cy 20 aW:=VV (run:=fun n x=>start (iter step n) x.1 x.2) mix aF .nil Tryz.func20 (by kernel_rfl) run_eq (fun ls a hl e hg=>bw a.1 a.2 hg (by have h:(ls.headD .hole).aS.length<=maxLen:=hl.1.len;have e:a.1.map cC=(ls.headD .hole).aS:=(congrArg (fun x=>x.1) e.symm);rw [<-e] at h;simpa using h) (by have h:((aA 1 ls).headD .hole).aS.length<=maxLen:=hl.2.1.len;have e:a.2.map cC=((aA 1 ls).headD .hole).aS:=(congrArg (fun x=>x.2) e.symm);rw [<-e] at h;simpa using h))
end Z258
namespace Z259
def F (x0 x1:aU):aH:=(cond (!(x0.bf==x1.bf)) bh (cond (x0.bJ != x1.bJ) bh (cond (x0.bV != x1.bV) bh (call (Z258.R (x0.bH,x1.bH)) fun v1=>(cond (!v1) bh eI)))))
def md (a0 a1:ah):Bool:=dV a0 a1
def gd (a0 a1:ah):Prop:=True
def R:=RR (p2 gd) (u2 md)
def aj {a0 a1}(h:gd a0 a1):R ((ah.r a0),(ah.r a1))=some (md a0 a1):=aO (a:=(a0,a1)) h
def aW:=CN [.agg qV,.agg qV] oB RT.dec R
def bw (a0)(a1)(hg:gd a0 a1):F (ah.r a0) (ah.r a1)=ret (md a0 a1):=by
 unfold md
 show (bif (!(a0.bf==a1.bf)) then bh else (bif (a0.bJ != a1.bJ) then bh else (bif (a0.bV != a1.bV) then bh else (call (Z258.R ((a0.bH.map cC),(a1.bH.map cC))) fun v1=>(cond (!v1) bh eI)))))=_
 simp only [call_eq (Z258.aj (a0:=a0.bH) (a1:=a1.bH) trivial),Z258.md]
 try simp only [bne,ff,bool_beq,eM]
 have e:dV a0 a1=(dV a0.bf a1.bf&&(dV a0.bJ a1.bJ&&(dV a0.bV a1.bV&&(dV a0.bH a1.bH&&true)))):=by
  cases a0;cases a1
  rw [Bool.eq_iff_iff]
  simp only [cZ,Bool.and_eq_true,ah.mk.injEq,and_true]
 rw [e]
 refine cM fun _=>?_
 refine cM fun _=>?_
 refine cM fun _=>?_
 refine cM fun _=>?_
 rfl
def af:cy 72 aW:=W2 26 F mix aF bw (.cons Z258.af .nil) Tryz.func72
end Z259
namespace Z260
def F (x0 x1:cX):aH:=(call (Z257.R (x0.bW,x1.bW)) fun v1=>(cond (!v1) bh (cond (x0.gn != x1.gn) bh (call (Z259.R (x0.aT,x1.aT)) fun v2=>(cond (!v2) bh (call (Z247.R (x0.bG,x1.bG)) fun v3=>(cond (!v3) bh (cond (x0.eX != x1.eX) bh eI))))))))
def md (a0 a1:bE):Bool:=dV a0 a1
def gd (a0 a1:bE):Prop:=True
def R:=RR (p2 gd) (u2 md)
def aj {a0 a1}(h:gd a0 a1):R ((bE.r a0),(bE.r a1))=some (md a0 a1):=aO (a:=(a0,a1)) h
def aW:=CN [.agg Bl,.agg Bl] oB RT.dec R
def bw (a0)(a1)(hg:gd a0 a1):F (bE.r a0) (bE.r a1)=ret (md a0 a1):=by
 unfold md
 show (call (Z257.R ((aq.r a0.bW),(aq.r a1.bW))) fun v1=>(bif (!v1) then bh else (bif (a0.gn != a1.gn) then bh else (call (Z259.R ((ah.r a0.aT),(ah.r a1.aT))) fun v2=>(bif (!v2) then bh else (call (Z247.R ((a0.bG.map aZ),(a1.bG.map aZ))) fun v3=>(cond (!v3) bh (cond (a0.eX != a1.eX) bh eI))))))))=_
 simp only [call_eq (Z257.aj (a0:=a0.bW) (a1:=a1.bW) trivial),Z257.md]
 simp only [call_eq (Z259.aj (a0:=a0.aT) (a1:=a1.aT) trivial),Z259.md]
 simp only [call_eq (Z247.aj (a0:=a0.bG) (a1:=a1.bG) trivial),Z247.md]
 try simp only [bne,ff,bool_beq,eM]
 have e:dV a0 a1=(dV a0.bW a1.bW&&(dV a0.gn a1.gn&&(dV a0.aT a1.aT&&(dV a0.bG a1.bG&&(dV a0.eX a1.eX&&true))))):=by
  cases a0;cases a1
  rw [Bool.eq_iff_iff]
  simp only [cZ,Bool.and_eq_true,bE.mk.injEq,and_true]
 rw [e]
 refine cM fun _=>?_
 refine cM fun _=>?_
 refine cM fun _=>?_
 refine cM fun _=>?_
 refine cM fun _=>?_
 rfl
def af:cy 30 aW:=W2 33 F mix aF bw (.cons Z257.af (.cons Z259.af (.cons Z247.af .nil))) Tryz.func30
end Z260
namespace Z261
inductive Pt where
 | p0 (a b:aC) (c:Int)
def pid:Pt->Nat
 | .p0 ..=>4
def cj:Pt->List V
 | .p0 a b c=>[.sl none 57 a,.sl none 57 b,.int .i64 c]
def cg:Pt->List aV
 | .p0 a b c=>[]
def step (J:Pt->aH):Pt->aH
 | .p0 a b c=>(cond (decide (c<(a.length:Int))) (m2 c (a.length:Int) (m2 c (b.length:Int) (call (Z259.R ((aU.at a (toNat c)),(aU.at b (toNat c)))) fun v1=>(cond (!v1) bh (J (.p0 a b (i64.wrap (c+1)))))))) eI)
def start (J:Pt->aH)(x0 x1:aC):aH:=(cond ((x0.length:Int) != (x1.length:Int)) bh (J (.p0 x0 x1 0)))
def live:Nat->Live:=fun i=>match i with | 4=>[(0,none),(1,none),(5,none)] | _=>[]
def pats:List gj:=[.rd (.sl 57),.rd (.sl 57)]
def res:RP:=.one (.rd (.bool))
abbrev E:Env:={ T:=assoc kL,G:=dm [(72,Z259.aW)],nt:=27 }
def step_eq (I:cH)(p:Pt):cR E live I (pid p) (bQ Tryz.f152) (fE (live (pid p)) (cj p) (cg p)) (cG E Tryz.f152 res)=step (fun q=>I (pid q) (cj q) (cg q)) p:=by
 cases p<;>kernel_rfl
def start_eq (I:cH)(ls:List L):eS E live I (bQ Tryz.f152) (cW pats ls) (cG E Tryz.f152 res)=start (fun q=>I (pid q) (cj q) (cg q)) (ls.headD .hole).aS ((aA 1 ls).headD .hole).aS:=by kernel_rfl
def run_eq (n:Nat)(ls:List L):eN E live Tryz.f152 res n (cW pats ls)=start (iter step n) (ls.headD .hole).aS ((aA 1 ls).headD .hole).aS:=cB (id:=pid) (vs:=cj) (hs:=cg) (step:=step) (start:=fun J=>start J (ls.headD .hole).aS ((aA 1 ls).headD .hole).aS) step_eq (fun I=>start_eq I ls) n
def md (a0 a1:List ah):Bool:=dV a0 a1
def gd (a0 a1:List ah):Prop:=True
def acc (ls:List L):aC×aC:=((ls.headD .hole).aS,((aA 1 ls).headD .hole).aS)
def R:(aC×aC)->Option Bool:=RR (p2 gd) (u2 md)
def aj {a0 a1}(h:gd a0 a1):R ((a0.map ah.row),(a1.map ah.row))=some (md a0 a1):=aO (a:=(a0,a1)) h
def aW:fT:=CN pats res acc R
def bw (a0 a1:List ah)(hg:gd a0 a1)(h0:a0.length<=maxLen)(h1:a1.length<=maxLen):∃n,start (iter step n) (a0.map ah.row) (a1.map ah.row)=ret ((md a0 a1):Bool):=by
 unfold start md
 simp only [List.length_map]
 refine iN (pt:=fun i=>Pt.p0 (a0.map ah.row) (a1.map ah.row) (i:Int)) (fun hl J i h h2=>?_) (fun J=>?_)
 ·simp only [step,MM,List.length_map,aN h,aN h2,aJ,bg,cE,ah.eD h,ah.eD h2]
  rw [aG h h0]
  rw [call_eq (Z259.aj (a0:=a0[i]) (a1:=a1[i]) trivial),Z259.md]
  cases dV a0[i] a1[i]<;>rfl
 ·simp only [step,List.length_map,dY,bq]
def af:cy 152 aW:=VV (run:=fun n x=>start (iter step n) x.1 x.2) mix aF (.cons Z259.af .nil) Tryz.func152 (by kernel_rfl) run_eq (fun ls a hl e hg=>bw a.1 a.2 hg (by have h:(ls.headD .hole).aS.length<=maxLen:=hl.1.len;have e:a.1.map ah.row=(ls.headD .hole).aS:=(congrArg (fun x=>x.1) e.symm);rw [<-e] at h;simpa using h) (by have h:((aA 1 ls).headD .hole).aS.length<=maxLen:=hl.2.1.len;have e:a.2.map ah.row=((aA 1 ls).headD .hole).aS:=(congrArg (fun x=>x.2) e.symm);rw [<-e] at h;simpa using h))
end Z261
namespace Z262
def F (x0 x1:dJ):aH:=(call (Z253.R (x0.aR,x1.aR)) fun v1=>(cond (!v1) bh (call (Z261.R (x0.bK,x1.bK)) fun v2=>(cond (!v2) bh eI))))
def md (a0 a1:aK):Bool:=dV a0 a1
def gd (a0 a1:aK):Prop:=True
def R:=RR (p2 gd) (u2 md)
def aj {a0 a1}(h:gd a0 a1):R ((aK.r a0),(aK.r a1))=some (md a0 a1):=aO (a:=(a0,a1)) h
def aW:=CN [.agg sJ,.agg sJ] oB RT.dec R
def bw (a0)(a1)(hg:gd a0 a1):F (aK.r a0) (aK.r a1)=ret (md a0 a1):=by
 unfold md
 show (call (Z253.R ((a0.aR.map aa.row),(a1.aR.map aa.row))) fun v1=>(bif (!v1) then bh else (call (Z261.R ((a0.bK.map ah.row),(a1.bK.map ah.row))) fun v2=>(cond (!v2) bh eI))))=_
 simp only [call_eq (Z253.aj (a0:=a0.aR) (a1:=a1.aR) trivial),Z253.md]
 simp only [call_eq (Z261.aj (a0:=a0.bK) (a1:=a1.bK) trivial),Z261.md]
 try simp only [bne,ff,bool_beq,eM]
 have e:dV a0 a1=(dV a0.aR a1.aR&&(dV a0.bK a1.bK&&true)):=by
  cases a0;cases a1
  rw [Bool.eq_iff_iff]
  simp only [cZ,Bool.and_eq_true,aK.mk.injEq,and_true]
 rw [e]
 refine cM fun _=>?_
 refine cM fun _=>?_
 rfl
def af:cy 120 aW:=W2 17 F mix aF bw (.cons Z253.af (.cons Z261.af .nil)) Tryz.func120
end Z262
namespace Z263
inductive Pt where
 | p0 (a b:aC) (c:Int)
def pid:Pt->Nat
 | .p0 ..=>4
def cj:Pt->List V
 | .p0 a b c=>[.sl none 155 a,.sl none 155 b,.int .i64 c]
def cg:Pt->List aV
 | .p0 a b c=>[]
def step (J:Pt->aH):Pt->aH
 | .p0 a b c=>(cond (decide (c<(a.length:Int))) (m2 c (a.length:Int) (m2 c (b.length:Int) (call (Z262.R ((dJ.at a (toNat c)),(dJ.at b (toNat c)))) fun v1=>(cond (!v1) bh (J (.p0 a b (i64.wrap (c+1)))))))) eI)
def start (J:Pt->aH)(x0 x1:aC):aH:=(cond ((x0.length:Int) != (x1.length:Int)) bh (J (.p0 x0 x1 0)))
def live:Nat->Live:=fun i=>match i with | 4=>[(0,none),(1,none),(5,none)] | _=>[]
def pats:List gj:=[.rd (.sl 155),.rd (.sl 155)]
def res:RP:=.one (.rd (.bool))
abbrev E:Env:={ T:=assoc kL,G:=dm [(120,Z262.aW)],nt:=27 }
def step_eq (I:cH)(p:Pt):cR E live I (pid p) (bQ Tryz.f93) (fE (live (pid p)) (cj p) (cg p)) (cG E Tryz.f93 res)=step (fun q=>I (pid q) (cj q) (cg q)) p:=by
 cases p<;>kernel_rfl
def start_eq (I:cH)(ls:List L):eS E live I (bQ Tryz.f93) (cW pats ls) (cG E Tryz.f93 res)=start (fun q=>I (pid q) (cj q) (cg q)) (ls.headD .hole).aS ((aA 1 ls).headD .hole).aS:=by kernel_rfl
def run_eq (n:Nat)(ls:List L):eN E live Tryz.f93 res n (cW pats ls)=start (iter step n) (ls.headD .hole).aS ((aA 1 ls).headD .hole).aS:=cB (id:=pid) (vs:=cj) (hs:=cg) (step:=step) (start:=fun J=>start J (ls.headD .hole).aS ((aA 1 ls).headD .hole).aS) step_eq (fun I=>start_eq I ls) n
def md (a0 a1:List aK):Bool:=dV a0 a1
def gd (a0 a1:List aK):Prop:=True
def acc (ls:List L):aC×aC:=((ls.headD .hole).aS,((aA 1 ls).headD .hole).aS)
def R:(aC×aC)->Option Bool:=RR (p2 gd) (u2 md)
def aj {a0 a1}(h:gd a0 a1):R ((a0.map aK.row),(a1.map aK.row))=some (md a0 a1):=aO (a:=(a0,a1)) h
def aW:fT:=CN pats res acc R
def bw (a0 a1:List aK)(hg:gd a0 a1)(h0:a0.length<=maxLen)(h1:a1.length<=maxLen):∃n,start (iter step n) (a0.map aK.row) (a1.map aK.row)=ret ((md a0 a1):Bool):=by
 unfold start md
 simp only [List.length_map]
 refine iN (pt:=fun i=>Pt.p0 (a0.map aK.row) (a1.map aK.row) (i:Int)) (fun hl J i h h2=>?_) (fun J=>?_)
 ·simp only [step,MM,List.length_map,aN h,aN h2,aJ,bg,cE,aK.eD h,aK.eD h2]
  rw [aG h h0]
  rw [call_eq (Z262.aj (a0:=a0[i]) (a1:=a1[i]) trivial),Z262.md]
  cases dV a0[i] a1[i]<;>rfl
 ·simp only [step,List.length_map,dY,bq]
def af:cy 93 aW:=VV (run:=fun n x=>start (iter step n) x.1 x.2) mix aF (.cons Z262.af .nil) Tryz.func93 (by kernel_rfl) run_eq (fun ls a hl e hg=>bw a.1 a.2 hg (by have h:(ls.headD .hole).aS.length<=maxLen:=hl.1.len;have e:a.1.map aK.row=(ls.headD .hole).aS:=(congrArg (fun x=>x.1) e.symm);rw [<-e] at h;simpa using h) (by have h:((aA 1 ls).headD .hole).aS.length<=maxLen:=hl.2.1.len;have e:a.2.map aK.row=((aA 1 ls).headD .hole).aS:=(congrArg (fun x=>x.2) e.symm);rw [<-e] at h;simpa using h))
end Z263
namespace Z264
def F (x0 x1:cI):aH:=(call (Z263.R (x0.bG,x1.bG)) fun v1=>(cond (!v1) bh (cond (x0.gF != x1.gF) bh eI)))
def md (a0 a1:ay):Bool:=dV a0 a1
def gd (a0 a1:ay):Prop:=True
def R:=RR (p2 gd) (u2 md)
def aj {a0 a1}(h:gd a0 a1):R ((ay.r a0),(ay.r a1))=some (md a0 a1):=aO (a:=(a0,a1)) h
def aW:=CN [.agg Be,.agg Be] oB RT.dec R
def bw (a0)(a1)(hg:gd a0 a1):F (ay.r a0) (ay.r a1)=ret (md a0 a1):=by
 unfold md
 show (call (Z263.R ((a0.bG.map aK.row),(a1.bG.map aK.row))) fun v1=>(cond (!v1) bh (cond (a0.gF != a1.gF) bh eI)))=_
 simp only [call_eq (Z263.aj (a0:=a0.bG) (a1:=a1.bG) trivial),Z263.md]
 try simp only [bne,ff,bool_beq,eM]
 have e:dV a0 a1=(dV a0.bG a1.bG&&(dV a0.gF a1.gF&&true)):=by
  cases a0;cases a1
  rw [Bool.eq_iff_iff]
  simp only [cZ,Bool.and_eq_true,ay.mk.injEq,and_true]
 rw [e]
 refine cM fun _=>?_
 refine cM fun _=>?_
 rfl
def af:cy 51 aW:=W2 16 F mix aF bw (.cons Z263.af .nil) Tryz.func51
end Z264
namespace Z265
inductive Pt where
 | p0 (a b:aC) (c:Int)
def pid:Pt->Nat
 | .p0 ..=>4
def cj:Pt->List V
 | .p0 a b c=>[.sl none 88 a,.sl none 88 b,.int .i64 c]
def cg:Pt->List aV
 | .p0 a b c=>[]
def step (J:Pt->aH):Pt->aH
 | .p0 a b c=>(cond (decide (c<(a.length:Int))) (m2 c (a.length:Int) (m2 c (b.length:Int) (call (Z264.R ((cI.at a (toNat c)),(cI.at b (toNat c)))) fun v1=>(cond (!v1) bh (J (.p0 a b (i64.wrap (c+1)))))))) eI)
def start (J:Pt->aH)(x0 x1:aC):aH:=(cond ((x0.length:Int) != (x1.length:Int)) bh (J (.p0 x0 x1 0)))
def live:Nat->Live:=fun i=>match i with | 4=>[(0,none),(1,none),(5,none)] | _=>[]
def pats:List gj:=[.rd (.sl 88),.rd (.sl 88)]
def res:RP:=.one (.rd (.bool))
abbrev E:Env:={ T:=assoc kL,G:=dm [(51,Z264.aW)],nt:=27 }
def step_eq (I:cH)(p:Pt):cR E live I (pid p) (bQ Tryz.f18) (fE (live (pid p)) (cj p) (cg p)) (cG E Tryz.f18 res)=step (fun q=>I (pid q) (cj q) (cg q)) p:=by
 cases p<;>kernel_rfl
def start_eq (I:cH)(ls:List L):eS E live I (bQ Tryz.f18) (cW pats ls) (cG E Tryz.f18 res)=start (fun q=>I (pid q) (cj q) (cg q)) (ls.headD .hole).aS ((aA 1 ls).headD .hole).aS:=by kernel_rfl
def run_eq (n:Nat)(ls:List L):eN E live Tryz.f18 res n (cW pats ls)=start (iter step n) (ls.headD .hole).aS ((aA 1 ls).headD .hole).aS:=cB (id:=pid) (vs:=cj) (hs:=cg) (step:=step) (start:=fun J=>start J (ls.headD .hole).aS ((aA 1 ls).headD .hole).aS) step_eq (fun I=>start_eq I ls) n
def md (a0 a1:List ay):Bool:=dV a0 a1
def gd (a0 a1:List ay):Prop:=True
def acc (ls:List L):aC×aC:=((ls.headD .hole).aS,((aA 1 ls).headD .hole).aS)
def R:(aC×aC)->Option Bool:=RR (p2 gd) (u2 md)
def aj {a0 a1}(h:gd a0 a1):R ((a0.map ay.row),(a1.map ay.row))=some (md a0 a1):=aO (a:=(a0,a1)) h
def aW:fT:=CN pats res acc R
def bw (a0 a1:List ay)(hg:gd a0 a1)(h0:a0.length<=maxLen)(h1:a1.length<=maxLen):∃n,start (iter step n) (a0.map ay.row) (a1.map ay.row)=ret ((md a0 a1):Bool):=by
 unfold start md
 simp only [List.length_map]
 refine iN (pt:=fun i=>Pt.p0 (a0.map ay.row) (a1.map ay.row) (i:Int)) (fun hl J i h h2=>?_) (fun J=>?_)
 ·simp only [step,MM,List.length_map,aN h,aN h2,aJ,bg,cE,ay.eD h,ay.eD h2]
  rw [aG h h0]
  rw [call_eq (Z264.aj (a0:=a0[i]) (a1:=a1[i]) trivial),Z264.md]
  cases dV a0[i] a1[i]<;>rfl
 ·simp only [step,List.length_map,dY,bq]
def af:cy 18 aW:=VV (run:=fun n x=>start (iter step n) x.1 x.2) mix aF (.cons Z264.af .nil) Tryz.func18 (by kernel_rfl) run_eq (fun ls a hl e hg=>bw a.1 a.2 hg (by have h:(ls.headD .hole).aS.length<=maxLen:=hl.1.len;have e:a.1.map ay.row=(ls.headD .hole).aS:=(congrArg (fun x=>x.1) e.symm);rw [<-e] at h;simpa using h) (by have h:((aA 1 ls).headD .hole).aS.length<=maxLen:=hl.2.1.len;have e:a.2.map ay.row=((aA 1 ls).headD .hole).aS:=(congrArg (fun x=>x.2) e.symm);rw [<-e] at h;simpa using h))
end Z265
namespace Z266
set_option maxHeartbeats 8000000
inductive Pt where
 | p0 (a b:Int) (c:aC)
def pid:Pt->Nat
 | .p0 ..=>2
def cj:Pt->List V
 | .p0 a b c=>[.own 0,.int .i64 a,.int .i64 b]
def cg:Pt->List aV
 | .p0 a b c=>[.row 3 c]
def step (J:Pt->aH):Pt->aH
 | .p0 a b c=>(cond (decide (b<(c.length:Int))) (m2 b (c.length:Int) (J (.p0 (i64.wrap (a+1)) (i64.wrap (b+1)) (List.set c (toNat b) [L.int a])))) (ret ((a,c):Int×aC)))
def start (J:Pt->aH)(x0:aC)(x1:Int):aH:=J (.p0 x1 0 x0)
def live:Nat->Live:=fun i=>match i with | 2=>[(0,none),(1,none),(5,none)] | _=>[]
def pats:List (Bool×List K):=[(false,[.sl 3]),(false,[aB])]
def res:RP:=.nV [3]
abbrev E:Env:={ T:=assoc kL,G:=dm [],nt:=19,M:=fO [],np:=1,mt:=true }
def step_eq (I:cH)(p:Pt):cR E live I (pid p) (bQ Tryz.f57) (fE (live (pid p)) (cj p) (cg p)) (cG E Tryz.f57 res)=step (fun q=>I (pid q) (cj q) (cg q)) p:=by
 cases p<;>kernel_rfl
def start_eq (I:cH)(ls:List L):eS E live I (bQ Tryz.f57) (gK pats ls) (cG E Tryz.f57 res)=start (fun q=>I (pid q) (cj q) (cg q)) (ls.headD .hole).aS ((aA 1 ls).headD .hole).toInt:=by kernel_rfl
def run_eq (n:Nat)(ls:List L):eN E live Tryz.f57 res n (gK pats ls)=start (iter step n) (ls.headD .hole).aS ((aA 1 ls).headD .hole).toInt:=cB (id:=pid) (vs:=cj) (hs:=cg) (step:=step) (start:=fun J=>start J (ls.headD .hole).aS ((aA 1 ls).headD .hole).toInt) step_eq (fun I=>start_eq I ls) n
def el (x k:Int):Int×Int:=((i64.wrap (k+1)),(k))
def iz (x k:Int)(hk:eJ k):eJ (el x k).1:=(cw _)
def cnt (x:Int):Nat:=1
def sum (a:List Int):Nat:=(a.map cnt).sum
def md (a0:List Int)(a1:Int):Int×List Int:=jo el a0 a1
def gd (a0:List Int)(a1:Int):Prop:=eJ a1
def acc (ls:List L):aC×Int:=((ls.headD .hole).aS,((aA 1 ls).headD .hole).toInt)
def R:(aC×Int)->Option (Int×aC):=RR (p2 gd) (u2 md)
def aj {a0 a1}(h:gd a0 a1):R ((a0.map aZ),a1)=some ((md a0 a1).1,((md a0 a1).2.map aZ)):=aO (a:=(a0,a1)) h
def aW:gB:=MN pats acc R
def bw (a0:List Int)(a1:Int)(hg:gd a0 a1)(h0:a0.length<=maxLen):∃n,start (iter step n) (a0.map aZ) a1=ret (((md a0 a1).1,((md a0 a1).2.map aZ)):Int×aC):=by
 unfold gd at hg
 show ∃n,iter step n (Pt.p0 a1 0 (a0.map aZ))=_
 unfold md
 refine gy (el:=el) (xs:=a0) 0 eJ iz (pt:=fun i k c=>Pt.p0 k (i:Int) (c.map aZ)) (out:=fun b=>ret (b.1,b.2.map aZ)) (fun J i k c hi hc hk=>?_) (fun J k c hc=>?_) hg
 ·have hm:c.length<=maxLen:=hc ▸ h0
  simp only [step,SS]
  refine ak (aN hi) ?_
  refine ak aJ ?_
  refine ak (aN hi) ?_
  rw [aG hi hm]
  exact congrArg (fun q=>J (Pt.p0 (el (c.getD i 0) k).1 ((i+1:Nat):Int) q)) (List.map_set (f:=aZ) (l:=c) (i:=i) (a:=(el (c.getD i 0) k).2)).symm
 ·simp only [step,SS]
  refine cL (by apply decide_eq_false;omega) ?_
  rfl
def af:eR Tryz.prog Ev 57 aW:=MV (run:=fun n x=>start (iter step n) x.1 x.2) mix aF .nil .nil Tryz.func57 (by kernel_rfl) run_eq (fun ls a hl e hg=>bw a.1 a.2 hg (by have h:(ls.headD .hole).aS.length<=maxLen:=(hl _ _ (.head _)).len;have e:a.1.map aZ=(ls.headD .hole).aS:=(congrArg (fun x=>x.1) e.symm);rw [<-e] at h;simpa using h))
def iq {a0:List Int}{a1:Int}(h:eJ a1):eJ (md a0 a1).1:=jP iz h
def qx (x k:Int)(h0:0<=k)(hb:k+(cnt x:Int)<=4611686018427387904):(el x k).1=k+cnt x:=by
 simp only [cnt,Int.natCast_add] at hb ⊢
 simp (disch:=omega) only [el,wi]
 all_goals first | done | omega
def kk (a0:List Int)(a1:Int)(h0:0<=a1)(hb:a1+(sum a0:Int)<=4611686018427387904):(md a0 a1).1=a1+sum a0:=gH qx a0 a1 h0 hb
def sz (a:List Int):sum a<=60*(dP (fun y:Int=>0) a):=jM (fun x=>by
 try simp only [cnt] at *
 omega) a
end Z266
namespace Z267
set_option maxHeartbeats 8000000
inductive Pt where
 | p0 (a b:Int) (c:aC)
def pid:Pt->Nat
 | .p0 ..=>2
def cj:Pt->List V
 | .p0 a b c=>[.own 0,.int .i64 a,.int .i64 b]
def cg:Pt->List aV
 | .p0 a b c=>[.row 190 c]
def step (J:Pt->aH):Pt->aH
 | .p0 a b c=>(cond (decide (b<(c.length:Int))) (m2 b (c.length:Int) (m2 b (c.length:Int) (bZ (fq b) (J (.p0 (i64.wrap ((i64.wrap (a+1))+1)) (i64.wrap (b+1)) (List.set c (toNat b) (bk.enc (⟨a,(i64.wrap (a+1))⟩:bk)))))))) (ret ((a,c):Int×aC)))
def start (J:Pt->aH)(x0:aC)(x1:Int):aH:=J (.p0 x1 0 x0)
def live:Nat->Live:=fun i=>match i with | 2=>[(0,none),(1,none),(5,none)] | _=>[]
def pats:List (Bool×List K):=[(false,[.sl 190]),(false,[aB])]
def res:RP:=.nV [190]
abbrev E:Env:={ T:=assoc kL,G:=dm [],nt:=27,M:=fO [],np:=1,mt:=true }
def step_eq (I:cH)(p:Pt):cR E live I (pid p) (bQ Tryz.f95) (fE (live (pid p)) (cj p) (cg p)) (cG E Tryz.f95 res)=step (fun q=>I (pid q) (cj q) (cg q)) p:=by
 cases p<;>kernel_rfl
def start_eq (I:cH)(ls:List L):eS E live I (bQ Tryz.f95) (gK pats ls) (cG E Tryz.f95 res)=start (fun q=>I (pid q) (cj q) (cg q)) (ls.headD .hole).aS ((aA 1 ls).headD .hole).toInt:=by kernel_rfl
def run_eq (n:Nat)(ls:List L):eN E live Tryz.f95 res n (gK pats ls)=start (iter step n) (ls.headD .hole).aS ((aA 1 ls).headD .hole).toInt:=cB (id:=pid) (vs:=cj) (hs:=cg) (step:=step) (start:=fun J=>start J (ls.headD .hole).aS ((aA 1 ls).headD .hole).toInt) step_eq (fun I=>start_eq I ls) n
def el (x:bk)(k:Int):Int×bk:=((i64.wrap ((i64.wrap (k+1))+1)),(⟨k,(i64.wrap (k+1))⟩:bk))
def iz (x:bk)(k:Int)(hk:eJ k):eJ (el x k).1:=(cw _)
def cnt (x:bk):Nat:=2
def sum (a:List bk):Nat:=(a.map cnt).sum
def md (a0:List bk)(a1:Int):Int×List bk:=jo el a0 a1
def gd (a0:List bk)(a1:Int):Prop:=eJ a1
def acc (ls:List L):aC×Int:=((ls.headD .hole).aS,((aA 1 ls).headD .hole).toInt)
def R:(aC×Int)->Option (Int×aC):=RR (p2 gd) (u2 md)
def aj {a0 a1}(h:gd a0 a1):R ((a0.map bk.row),a1)=some ((md a0 a1).1,((md a0 a1).2.map bk.row)):=aO (a:=(a0,a1)) h
def aW:gB:=MN pats acc R
def bw (a0:List bk)(a1:Int)(hg:gd a0 a1)(h0:a0.length<=maxLen):∃n,start (iter step n) (a0.map bk.row) a1=ret (((md a0 a1).1,((md a0 a1).2.map bk.row)):Int×aC):=by
 unfold gd at hg
 show ∃n,iter step n (Pt.p0 a1 0 (a0.map bk.row))=_
 unfold md
 refine gy (el:=el) (xs:=a0) bk.zero eJ iz (pt:=fun i k c=>Pt.p0 k (i:Int) (c.map bk.row)) (out:=fun b=>ret (b.1,b.2.map bk.row)) (fun J i k c hi hc hk=>?_) (fun J k c hc=>?_) hg
 ·have hm:c.length<=maxLen:=hc ▸ h0
  simp only [step,SS]
  refine ak (aN hi) ?_
  repeat first | refine ak aJ ?_ | refine ak (aN hi) ?_ | refine ak (gS _) ?_
  rw [aG hi hm]
  exact congrArg (fun q=>J (Pt.p0 (el (c.getD i bk.zero) k).1 ((i+1:Nat):Int) q)) (List.map_set (f:=bk.row) (l:=c) (i:=i) (a:=(el (c.getD i bk.zero) k).2)).symm
 ·simp only [step,SS]
  refine cL (by apply decide_eq_false;omega) ?_
  rfl
def af:eR Tryz.prog Ev 95 aW:=MV (run:=fun n x=>start (iter step n) x.1 x.2) mix aF .nil .nil Tryz.func95 (by kernel_rfl) run_eq (fun ls a hl e hg=>bw a.1 a.2 hg (by have h:(ls.headD .hole).aS.length<=maxLen:=(hl _ _ (.head _)).len;have e:a.1.map bk.row=(ls.headD .hole).aS:=(congrArg (fun x=>x.1) e.symm);rw [<-e] at h;simpa using h))
def iq {a0:List bk}{a1:Int}(h:eJ a1):eJ (md a0 a1).1:=jP iz h
def qx (x:bk)(k:Int)(h0:0<=k)(hb:k+(cnt x:Int)<=4611686018427387904):(el x k).1=k+cnt x:=by
 simp only [cnt,Int.natCast_add] at hb ⊢
 simp (disch:=omega) only [el,wi]
 all_goals first | done | omega
def kk (a0:List bk)(a1:Int)(h0:0<=a1)(hb:a1+(sum a0:Int)<=4611686018427387904):(md a0 a1).1=a1+sum a0:=gH qx a0 a1 h0 hb
def sz (a:List bk):sum a<=60*(dP (fun y:bk=>bk.size y) a):=jM (fun x=>by
 try simp only [cnt,bk.size] at *
 omega) a
end Z267
namespace Z268
set_option maxHeartbeats 8000000
inductive Pt where
 | p0 (a b:Int) (c:aC)
def pid:Pt->Nat
 | .p0 ..=>2
def cj:Pt->List V
 | .p0 a b c=>[.own 0,.int .i64 a,.int .i64 b]
def cg:Pt->List aV
 | .p0 a b c=>[.row 141 c]
def step (J:Pt->aH):Pt->aH
 | .p0 a b c=>(cond (decide (b<(c.length:Int))) (m2 b (c.length:Int) (m2 b (c.length:Int) (bZ (fq b) (m2 b (c.length:Int) (bZ (fq b) (m2 b (c.length:Int) (bZ (fq b) (m2 b (c.length:Int) (bZ (fq b) (m2 b (c.length:Int) (bZ (fq b) (m2 b (c.length:Int) (bZ (fq b) (m2 b (c.length:Int) (bZ (fq b) (m2 b (c.length:Int) (bZ (fq b) (bZ (fq b) (call (Z266.R ((aP.at c (toNat b)).an.bO.aX,(i64.wrap ((i64.wrap ((i64.wrap ((i64.wrap ((i64.wrap ((i64.wrap ((i64.wrap ((i64.wrap (a+1))+1))+1))+1))+1))+1))+1))+1)))) fun v1=>(m2 b (c.length:Int) (bZ (fq b) (m2 b (c.length:Int) (bZ (fq b) (bZ (fq b) (call (Z266.R ((aP.at c (toNat b)).an.bA.aX,(i64.wrap (v1.1+1)))) fun v2=>(m2 b (c.length:Int) (bZ (fq b) (m2 b (c.length:Int) (bZ (fq b) (m2 b (c.length:Int) (bZ (fq b) (bZ (fq b) (call (Z266.R ((aP.at c (toNat b)).an.bt.aX,(i64.wrap ((i64.wrap (v2.1+1))+1)))) fun v3=>(m2 b (c.length:Int) (bZ (fq b) (m2 b (c.length:Int) (bZ (fq b) (m2 b (c.length:Int) (bZ (fq b) (bZ (fq b) (call (Z267.R ((aP.at c (toNat b)).bY,(i64.wrap ((i64.wrap (v3.1+1))+1)))) fun v4=>J (.p0 v4.1 (i64.wrap (b+1)) (List.set c (toNat b) (aP.enc (⟨(⟨a,(i64.wrap (a+1)),(i64.wrap ((i64.wrap (a+1))+1)),(i64.wrap ((i64.wrap ((i64.wrap (a+1))+1))+1)),(i64.wrap ((i64.wrap ((i64.wrap ((i64.wrap (a+1))+1))+1))+1)),(i64.wrap ((i64.wrap ((i64.wrap ((i64.wrap ((i64.wrap (a+1))+1))+1))+1))+1)),(i64.wrap ((i64.wrap ((i64.wrap ((i64.wrap ((i64.wrap ((i64.wrap (a+1))+1))+1))+1))+1))+1)),(i64.wrap ((i64.wrap ((i64.wrap ((i64.wrap ((i64.wrap ((i64.wrap ((i64.wrap (a+1))+1))+1))+1))+1))+1))+1)),(⟨v1.2,v1.1⟩:bB),(⟨v2.2,v2.1⟩:bB),(i64.wrap (v2.1+1)),(⟨v3.2,v3.1⟩:bB),((Int.tmod (i64.wrap (v3.1+1)) 3)==0)⟩:bX),v4.2⟩:aP))))))))))))))))))))))))))))))))))))))))))))) (ret ((a,c):Int×aC)))
def start (J:Pt->aH)(x0:aC)(x1:Int):aH:=J (.p0 x1 0 x0)
def live:Nat->Live:=fun i=>match i with | 2=>[(0,none),(1,none),(5,none)] | _=>[]
def pats:List (Bool×List K):=[(false,[.sl 141]),(false,[aB])]
def res:RP:=.nV [141]
abbrev E:Env:={ T:=assoc kL,G:=dm [],nt:=156,M:=fO [(57,Z266.aW),(95,Z267.aW)],np:=1,mt:=true }
def step_eq (I:cH)(p:Pt):cR E live I (pid p) (bQ Tryz.f94) (fE (live (pid p)) (cj p) (cg p)) (cG E Tryz.f94 res)=step (fun q=>I (pid q) (cj q) (cg q)) p:=by
 cases p<;>kernel_rfl
def start_eq (I:cH)(ls:List L):eS E live I (bQ Tryz.f94) (gK pats ls) (cG E Tryz.f94 res)=start (fun q=>I (pid q) (cj q) (cg q)) (ls.headD .hole).aS ((aA 1 ls).headD .hole).toInt:=by kernel_rfl
def run_eq (n:Nat)(ls:List L):eN E live Tryz.f94 res n (gK pats ls)=start (iter step n) (ls.headD .hole).aS ((aA 1 ls).headD .hole).toInt:=cB (id:=pid) (vs:=cj) (hs:=cg) (step:=step) (start:=fun J=>start J (ls.headD .hole).aS ((aA 1 ls).headD .hole).toInt) step_eq (fun I=>start_eq I ls) n
def e1 (x:aa)(k:Int):=Z266.md (((x.an).bO).aX) (i64.wrap ((i64.wrap ((i64.wrap ((i64.wrap ((i64.wrap ((i64.wrap ((i64.wrap ((i64.wrap (k+1))+1))+1))+1))+1))+1))+1))+1))
def e2 (x:aa)(k:Int):=Z266.md (((x.an).bA).aX) (i64.wrap ((e1 x k).1+1))
def e3 (x:aa)(k:Int):=Z266.md (((x.an).bt).aX) (i64.wrap ((i64.wrap ((e2 x k).1+1))+1))
def e4 (x:aa)(k:Int):=Z267.md x.bY (i64.wrap ((i64.wrap ((e3 x k).1+1))+1))
def el (x:aa)(k:Int):Int×aa:=((e4 x k).1,(⟨(⟨k,(i64.wrap (k+1)),(i64.wrap ((i64.wrap (k+1))+1)),(i64.wrap ((i64.wrap ((i64.wrap (k+1))+1))+1)),(i64.wrap ((i64.wrap ((i64.wrap ((i64.wrap (k+1))+1))+1))+1)),(i64.wrap ((i64.wrap ((i64.wrap ((i64.wrap ((i64.wrap (k+1))+1))+1))+1))+1)),(i64.wrap ((i64.wrap ((i64.wrap ((i64.wrap ((i64.wrap ((i64.wrap (k+1))+1))+1))+1))+1))+1)),(i64.wrap ((i64.wrap ((i64.wrap ((i64.wrap ((i64.wrap ((i64.wrap ((i64.wrap (k+1))+1))+1))+1))+1))+1))+1)),(⟨(e1 x k).2,(e1 x k).1⟩:aM),(⟨(e2 x k).2,(e2 x k).1⟩:aM),(i64.wrap ((e2 x k).1+1)),(⟨(e3 x k).2,(e3 x k).1⟩:aM),((Int.tmod (i64.wrap ((e3 x k).1+1)) 3)==0)⟩:aE),(e4 x k).2⟩:aa))
def iz (x:aa)(k:Int)(hk:eJ k):eJ (el x k).1:=(Z267.iq (cw _))
def cnt (x:aa):Nat:=13+Z266.sum (((x.an).bO).aX)+Z266.sum (((x.an).bA).aX)+Z266.sum (((x.an).bt).aX)+Z267.sum x.bY
def sum (a:List aa):Nat:=(a.map cnt).sum
def md (a0:List aa)(a1:Int):Int×List aa:=jo el a0 a1
def gd (a0:List aa)(a1:Int):Prop:=eJ a1
def acc (ls:List L):aC×Int:=((ls.headD .hole).aS,((aA 1 ls).headD .hole).toInt)
def R:(aC×Int)->Option (Int×aC):=RR (p2 gd) (u2 md)
def aj {a0 a1}(h:gd a0 a1):R ((a0.map aa.row),a1)=some ((md a0 a1).1,((md a0 a1).2.map aa.row)):=aO (a:=(a0,a1)) h
def aW:gB:=MN pats acc R
def bw (a0:List aa)(a1:Int)(hg:gd a0 a1)(h0:a0.length<=maxLen):∃n,start (iter step n) (a0.map aa.row) a1=ret (((md a0 a1).1,((md a0 a1).2.map aa.row)):Int×aC):=by
 unfold gd at hg
 show ∃n,iter step n (Pt.p0 a1 0 (a0.map aa.row))=_
 unfold md
 refine gy (el:=el) (xs:=a0) aa.zero eJ iz (pt:=fun i k c=>Pt.p0 k (i:Int) (c.map aa.row)) (out:=fun b=>ret (b.1,b.2.map aa.row)) (fun J i k c hi hc hk=>?_) (fun J k c hc=>?_) hg
 ·have hm:c.length<=maxLen:=hc ▸ h0
  simp only [step,SS]
  refine ak (aN hi) ?_
  repeat first | refine ak aJ ?_ | refine ak (aN hi) ?_ | refine ak (gS _) ?_
  refine bp ((e1 (c.getD i aa.zero) k).1,((e1 (c.getD i aa.zero) k).2.map aZ)) (Z266.aj (a0:=(((c.getD i aa.zero).an).bO).aX) (a1:=i64.wrap ((i64.wrap ((i64.wrap ((i64.wrap ((i64.wrap ((i64.wrap ((i64.wrap ((i64.wrap (k+1))+1))+1))+1))+1))+1))+1))+1)) (cw _)) ?_
  repeat first | refine ak aJ ?_ | refine ak (aN hi) ?_ | refine ak (gS _) ?_
  refine bp ((e2 (c.getD i aa.zero) k).1,((e2 (c.getD i aa.zero) k).2.map aZ)) (Z266.aj (a0:=(((c.getD i aa.zero).an).bA).aX) (a1:=i64.wrap ((e1 (c.getD i aa.zero) k).1+1)) (cw _)) ?_
  repeat first | refine ak aJ ?_ | refine ak (aN hi) ?_ | refine ak (gS _) ?_
  refine bp ((e3 (c.getD i aa.zero) k).1,((e3 (c.getD i aa.zero) k).2.map aZ)) (Z266.aj (a0:=(((c.getD i aa.zero).an).bt).aX) (a1:=i64.wrap ((i64.wrap ((e2 (c.getD i aa.zero) k).1+1))+1)) (cw _)) ?_
  repeat first | refine ak aJ ?_ | refine ak (aN hi) ?_ | refine ak (gS _) ?_
  refine bp ((e4 (c.getD i aa.zero) k).1,((e4 (c.getD i aa.zero) k).2.map bk.row)) (Z267.aj (a0:=(c.getD i aa.zero).bY) (a1:=i64.wrap ((i64.wrap ((e3 (c.getD i aa.zero) k).1+1))+1)) (cw _)) ?_
  rw [aG hi hm]
  exact congrArg (fun q=>J (Pt.p0 (el (c.getD i aa.zero) k).1 ((i+1:Nat):Int) q)) (List.map_set (f:=aa.row) (l:=c) (i:=i) (a:=(el (c.getD i aa.zero) k).2)).symm
 ·simp only [step,SS]
  refine cL (by apply decide_eq_false;omega) ?_
  rfl
def af:eR Tryz.prog Ev 94 aW:=MV (run:=fun n x=>start (iter step n) x.1 x.2) mix aF .nil (.cons Z266.af (.cons Z267.af .nil)) Tryz.func94 (by kernel_rfl) run_eq (fun ls a hl e hg=>bw a.1 a.2 hg (by have h:(ls.headD .hole).aS.length<=maxLen:=(hl _ _ (.head _)).len;have e:a.1.map aa.row=(ls.headD .hole).aS:=(congrArg (fun x=>x.1) e.symm);rw [<-e] at h;simpa using h))
def iq {a0:List aa}{a1:Int}(h:eJ a1):eJ (md a0 a1).1:=jP iz h
def qx (x:aa)(k:Int)(h0:0<=k)(hb:k+(cnt x:Int)<=4611686018427387904):(el x k).1=k+cnt x:=by
 simp only [cnt,Int.natCast_add] at hb ⊢
 simp (disch:=omega) only [el,e1,e2,e3,e4,wi,Z266.kk,Z267.kk]
 all_goals first | done | omega
def kk (a0:List aa)(a1:Int)(h0:0<=a1)(hb:a1+(sum a0:Int)<=4611686018427387904):(md a0 a1).1=a1+sum a0:=gH qx a0 a1 h0 hb
def sz (a:List aa):sum a<=60*(dP (fun y:aa=>aa.size y) a):=jM (fun x=>by
 have:=Z266.sz (((x.an).bO).aX)
 have:=Z266.sz (((x.an).bA).aX)
 have:=Z266.sz (((x.an).bt).aX)
 have:=Z267.sz x.bY
 try simp only [cnt,aa.size,aE.size,aM.size] at *
 omega) a
end Z268
namespace Z269
set_option maxHeartbeats 8000000
inductive Pt where
 | p0 (a b:Int) (c:aC)
def pid:Pt->Nat
 | .p0 ..=>2
def cj:Pt->List V
 | .p0 a b c=>[.own 0,.int .i64 a,.int .i64 b]
def cg:Pt->List aV
 | .p0 a b c=>[.row 134 c]
def step (J:Pt->aH):Pt->aH
 | .p0 a b c=>(cond (decide (b<(c.length:Int))) (m2 b (c.length:Int) (call (Z268.R ((oy c (toNat b)),a)) fun v1=>J (.p0 v1.1 (i64.wrap (b+1)) (List.set c (toNat b) [L.sl v1.2])))) (ret ((a,c):Int×aC)))
def start (J:Pt->aH)(x0:aC)(x1:Int):aH:=J (.p0 x1 0 x0)
def live:Nat->Live:=fun i=>match i with | 2=>[(0,none),(1,none),(5,none)] | _=>[]
def pats:List (Bool×List K):=[(false,[.sl 134]),(false,[aB])]
def res:RP:=.nV [134]
abbrev E:Env:={ T:=assoc kL,G:=dm [],nt:=19,M:=fO [(94,Z268.aW)],np:=1,mt:=true }
def step_eq (I:cH)(p:Pt):cR E live I (pid p) (bQ Tryz.f53) (fE (live (pid p)) (cj p) (cg p)) (cG E Tryz.f53 res)=step (fun q=>I (pid q) (cj q) (cg q)) p:=by
 cases p<;>kernel_rfl
def start_eq (I:cH)(ls:List L):eS E live I (bQ Tryz.f53) (gK pats ls) (cG E Tryz.f53 res)=start (fun q=>I (pid q) (cj q) (cg q)) (ls.headD .hole).aS ((aA 1 ls).headD .hole).toInt:=by kernel_rfl
def run_eq (n:Nat)(ls:List L):eN E live Tryz.f53 res n (gK pats ls)=start (iter step n) (ls.headD .hole).aS ((aA 1 ls).headD .hole).toInt:=cB (id:=pid) (vs:=cj) (hs:=cg) (step:=step) (start:=fun J=>start J (ls.headD .hole).aS ((aA 1 ls).headD .hole).toInt) step_eq (fun I=>start_eq I ls) n
def e1 (x:List aa)(k:Int):=Z268.md x k
def el (x:List aa)(k:Int):Int×(List aa):=((e1 x k).1,((e1 x k).2))
def iz (x:List aa)(k:Int)(hk:eJ k):eJ (el x k).1:=(Z268.iq hk)
def cnt (x:List aa):Nat:=0+Z268.sum x
def sum (a:List (List aa)):Nat:=(a.map cnt).sum
def md (a0:List (List aa))(a1:Int):Int×List (List aa):=jo el a0 a1
def gd (a0:List (List aa))(a1:Int):Prop:=eJ a1
def acc (ls:List L):aC×Int:=((ls.headD .hole).aS,((aA 1 ls).headD .hole).toInt)
def R:(aC×Int)->Option (Int×aC):=RR (p2 gd) (u2 md)
def aj {a0 a1}(h:gd a0 a1):R ((a0.map (dF aa.row)),a1)=some ((md a0 a1).1,((md a0 a1).2.map (dF aa.row))):=aO (a:=(a0,a1)) h
def aW:gB:=MN pats acc R
def bw (a0:List (List aa))(a1:Int)(hg:gd a0 a1)(h0:a0.length<=maxLen):∃n,start (iter step n) (a0.map (dF aa.row)) a1=ret (((md a0 a1).1,((md a0 a1).2.map (dF aa.row))):Int×aC):=by
 unfold gd at hg
 show ∃n,iter step n (Pt.p0 a1 0 (a0.map (dF aa.row)))=_
 unfold md
 refine gy (el:=el) (xs:=a0) [] eJ iz (pt:=fun i k c=>Pt.p0 k (i:Int) (c.map (dF aa.row))) (out:=fun b=>ret (b.1,b.2.map (dF aa.row))) (fun J i k c hi hc hk=>?_) (fun J k c hc=>?_) hg
 ·have hm:c.length<=maxLen:=hc ▸ h0
  simp only [step,SS]
  refine ak (aN hi) ?_
  refine ak aJ ?_
  refine ak (aN hi) ?_
  refine bp ((e1 (c.getD i []) k).1,((e1 (c.getD i []) k).2.map aa.row)) (Z268.aj (a0:=c.getD i []) (a1:=k) hk) ?_
  rw [aG hi hm]
  exact congrArg (fun q=>J (Pt.p0 (el (c.getD i []) k).1 ((i+1:Nat):Int) q)) (List.map_set (f:=(dF aa.row)) (l:=c) (i:=i) (a:=(el (c.getD i []) k).2)).symm
 ·simp only [step,SS]
  refine cL (by apply decide_eq_false;omega) ?_
  rfl
def af:eR Tryz.prog Ev 53 aW:=MV (run:=fun n x=>start (iter step n) x.1 x.2) mix aF .nil (.cons Z268.af .nil) Tryz.func53 (by kernel_rfl) run_eq (fun ls a hl e hg=>bw a.1 a.2 hg (by have h:(ls.headD .hole).aS.length<=maxLen:=(hl _ _ (.head _)).len;have e:a.1.map (dF aa.row)=(ls.headD .hole).aS:=(congrArg (fun x=>x.1) e.symm);rw [<-e] at h;simpa using h))
def iq {a0:List (List aa)}{a1:Int}(h:eJ a1):eJ (md a0 a1).1:=jP iz h
def qx (x:List aa)(k:Int)(h0:0<=k)(hb:k+(cnt x:Int)<=4611686018427387904):(el x k).1=k+cnt x:=by
 simp only [cnt,Int.natCast_add] at hb ⊢
 simp (disch:=omega) only [el,e1,wi,Z268.kk]
 all_goals first | done | omega
def kk (a0:List (List aa))(a1:Int)(h0:0<=a1)(hb:a1+(sum a0:Int)<=4611686018427387904):(md a0 a1).1=a1+sum a0:=gH qx a0 a1 h0 hb
def sz (a:List (List aa)):sum a<=60*(dP (fun y:List aa=>dP (fun y:aa=>aa.size y) y) a):=jM (fun x=>by
 have:=Z268.sz x
 try simp only [cnt] at *
 omega) a
end Z269
namespace Z270
set_option maxHeartbeats 8000000
inductive Pt where
 | p0 (a b:Int) (c:aC)
def pid:Pt->Nat
 | .p0 ..=>2
def cj:Pt->List V
 | .p0 a b c=>[.own 0,.int .i64 a,.int .i64 b]
def cg:Pt->List aV
 | .p0 a b c=>[.row 143 c]
def step (J:Pt->aH):Pt->aH
 | .p0 a b c=>(cond (decide (b<(c.length:Int))) (m2 b (c.length:Int) (m2 b (c.length:Int) (bZ (fq b) (m2 b (c.length:Int) (bZ (fq b) (m2 b (c.length:Int) (bZ (fq b) (m2 b (c.length:Int) (bZ (fq b) (m2 b (c.length:Int) (bZ (fq b) (m2 b (c.length:Int) (bZ (fq b) (m2 b (c.length:Int) (bZ (fq b) (m2 b (c.length:Int) (bZ (fq b) (bZ (fq b) (call (Z266.R ((bF.at c (toNat b)).aQ.an.bO.aX,(i64.wrap ((i64.wrap ((i64.wrap ((i64.wrap ((i64.wrap ((i64.wrap ((i64.wrap ((i64.wrap (a+1))+1))+1))+1))+1))+1))+1))+1)))) fun v1=>(m2 b (c.length:Int) (bZ (fq b) (m2 b (c.length:Int) (bZ (fq b) (bZ (fq b) (call (Z266.R ((bF.at c (toNat b)).aQ.an.bA.aX,(i64.wrap (v1.1+1)))) fun v2=>(m2 b (c.length:Int) (bZ (fq b) (m2 b (c.length:Int) (bZ (fq b) (m2 b (c.length:Int) (bZ (fq b) (bZ (fq b) (call (Z266.R ((bF.at c (toNat b)).aQ.an.bt.aX,(i64.wrap ((i64.wrap (v2.1+1))+1)))) fun v3=>(m2 b (c.length:Int) (bZ (fq b) (m2 b (c.length:Int) (bZ (fq b) (m2 b (c.length:Int) (bZ (fq b) (bZ (fq b) (call (Z267.R ((bF.at c (toNat b)).aQ.bY,(i64.wrap ((i64.wrap (v3.1+1))+1)))) fun v4=>(m2 b (c.length:Int) (bZ (fq b) (m2 b (c.length:Int) (bZ (fq b) (m2 b (c.length:Int) (bZ (fq b) (m2 b (c.length:Int) (bZ (fq b) (m2 b (c.length:Int) (bZ (fq b) (m2 b (c.length:Int) (bZ (fq b) (m2 b (c.length:Int) (bZ (fq b) (m2 b (c.length:Int) (bZ (fq b) (m2 b (c.length:Int) (bZ (fq b) (bZ (fq b) (call (Z266.R ((bF.at c (toNat b)).fA.an.bO.aX,(i64.wrap ((i64.wrap ((i64.wrap ((i64.wrap ((i64.wrap ((i64.wrap ((i64.wrap ((i64.wrap (v4.1+1))+1))+1))+1))+1))+1))+1))+1)))) fun v5=>(m2 b (c.length:Int) (bZ (fq b) (m2 b (c.length:Int) (bZ (fq b) (bZ (fq b) (call (Z266.R ((bF.at c (toNat b)).fA.an.bA.aX,(i64.wrap (v5.1+1)))) fun v6=>(m2 b (c.length:Int) (bZ (fq b) (m2 b (c.length:Int) (bZ (fq b) (m2 b (c.length:Int) (bZ (fq b) (bZ (fq b) (call (Z266.R ((bF.at c (toNat b)).fA.an.bt.aX,(i64.wrap ((i64.wrap (v6.1+1))+1)))) fun v7=>(m2 b (c.length:Int) (bZ (fq b) (m2 b (c.length:Int) (bZ (fq b) (m2 b (c.length:Int) (bZ (fq b) (bZ (fq b) (call (Z267.R ((bF.at c (toNat b)).fA.bY,(i64.wrap ((i64.wrap (v7.1+1))+1)))) fun v8=>(m2 b (c.length:Int) (bZ (fq b) (m2 b (c.length:Int) (bZ (fq b) (m2 b (c.length:Int) (bZ (fq b) (m2 b (c.length:Int) (bZ (fq b) (m2 b (c.length:Int) (bZ (fq b) (m2 b (c.length:Int) (bZ (fq b) (m2 b (c.length:Int) (bZ (fq b) (m2 b (c.length:Int) (bZ (fq b) (m2 b (c.length:Int) (bZ (fq b) (bZ (fq b) (call (Z266.R ((bF.at c (toNat b)).fB.an.bO.aX,(i64.wrap ((i64.wrap ((i64.wrap ((i64.wrap ((i64.wrap ((i64.wrap ((i64.wrap ((i64.wrap (v8.1+1))+1))+1))+1))+1))+1))+1))+1)))) fun v9=>(m2 b (c.length:Int) (bZ (fq b) (m2 b (c.length:Int) (bZ (fq b) (bZ (fq b) (call (Z266.R ((bF.at c (toNat b)).fB.an.bA.aX,(i64.wrap (v9.1+1)))) fun v10=>(m2 b (c.length:Int) (bZ (fq b) (m2 b (c.length:Int) (bZ (fq b) (m2 b (c.length:Int) (bZ (fq b) (bZ (fq b) (call (Z266.R ((bF.at c (toNat b)).fB.an.bt.aX,(i64.wrap ((i64.wrap (v10.1+1))+1)))) fun v11=>(m2 b (c.length:Int) (bZ (fq b) (m2 b (c.length:Int) (bZ (fq b) (m2 b (c.length:Int) (bZ (fq b) (bZ (fq b) (call (Z267.R ((bF.at c (toNat b)).fB.bY,(i64.wrap ((i64.wrap (v11.1+1))+1)))) fun v12=>J (.p0 v12.1 (i64.wrap (b+1)) (List.set c (toNat b) (bF.enc (⟨(⟨(⟨a,(i64.wrap (a+1)),(i64.wrap ((i64.wrap (a+1))+1)),(i64.wrap ((i64.wrap ((i64.wrap (a+1))+1))+1)),(i64.wrap ((i64.wrap ((i64.wrap ((i64.wrap (a+1))+1))+1))+1)),(i64.wrap ((i64.wrap ((i64.wrap ((i64.wrap ((i64.wrap (a+1))+1))+1))+1))+1)),(i64.wrap ((i64.wrap ((i64.wrap ((i64.wrap ((i64.wrap ((i64.wrap (a+1))+1))+1))+1))+1))+1)),(i64.wrap ((i64.wrap ((i64.wrap ((i64.wrap ((i64.wrap ((i64.wrap ((i64.wrap (a+1))+1))+1))+1))+1))+1))+1)),(⟨v1.2,v1.1⟩:bB),(⟨v2.2,v2.1⟩:bB),(i64.wrap (v2.1+1)),(⟨v3.2,v3.1⟩:bB),((Int.tmod (i64.wrap (v3.1+1)) 3)==0)⟩:bX),v4.2⟩:aP),(⟨(⟨v4.1,(i64.wrap (v4.1+1)),(i64.wrap ((i64.wrap (v4.1+1))+1)),(i64.wrap ((i64.wrap ((i64.wrap (v4.1+1))+1))+1)),(i64.wrap ((i64.wrap ((i64.wrap ((i64.wrap (v4.1+1))+1))+1))+1)),(i64.wrap ((i64.wrap ((i64.wrap ((i64.wrap ((i64.wrap (v4.1+1))+1))+1))+1))+1)),(i64.wrap ((i64.wrap ((i64.wrap ((i64.wrap ((i64.wrap ((i64.wrap (v4.1+1))+1))+1))+1))+1))+1)),(i64.wrap ((i64.wrap ((i64.wrap ((i64.wrap ((i64.wrap ((i64.wrap ((i64.wrap (v4.1+1))+1))+1))+1))+1))+1))+1)),(⟨v5.2,v5.1⟩:bB),(⟨v6.2,v6.1⟩:bB),(i64.wrap (v6.1+1)),(⟨v7.2,v7.1⟩:bB),((Int.tmod (i64.wrap (v7.1+1)) 3)==0)⟩:bX),v8.2⟩:aP),(⟨(⟨v8.1,(i64.wrap (v8.1+1)),(i64.wrap ((i64.wrap (v8.1+1))+1)),(i64.wrap ((i64.wrap ((i64.wrap (v8.1+1))+1))+1)),(i64.wrap ((i64.wrap ((i64.wrap ((i64.wrap (v8.1+1))+1))+1))+1)),(i64.wrap ((i64.wrap ((i64.wrap ((i64.wrap ((i64.wrap (v8.1+1))+1))+1))+1))+1)),(i64.wrap ((i64.wrap ((i64.wrap ((i64.wrap ((i64.wrap ((i64.wrap (v8.1+1))+1))+1))+1))+1))+1)),(i64.wrap ((i64.wrap ((i64.wrap ((i64.wrap ((i64.wrap ((i64.wrap ((i64.wrap (v8.1+1))+1))+1))+1))+1))+1))+1)),(⟨v9.2,v9.1⟩:bB),(⟨v10.2,v10.1⟩:bB),(i64.wrap (v10.1+1)),(⟨v11.2,v11.1⟩:bB),((Int.tmod (i64.wrap (v11.1+1)) 3)==0)⟩:bX),v12.2⟩:aP)⟩:bF))))))))))))))))))))))))))))))))))))))))))))))))))))))))))))))))))))))))))))))))))))))))))))))))))))))))))))))))))))))))))))))))) (ret ((a,c):Int×aC)))
def start (J:Pt->aH)(x0:aC)(x1:Int):aH:=J (.p0 x1 0 x0)
def live:Nat->Live:=fun i=>match i with | 2=>[(0,none),(1,none),(5,none)] | _=>[]
def pats:List (Bool×List K):=[(false,[.sl 143]),(false,[aB])]
def res:RP:=.nV [143]
abbrev E:Env:={ T:=assoc kL,G:=dm [],nt:=493,M:=fO [(57,Z266.aW),(95,Z267.aW)],np:=1,mt:=true }
def step_eq (I:cH)(p:Pt):cR E live I (pid p) (bQ Tryz.f54) (fE (live (pid p)) (cj p) (cg p)) (cG E Tryz.f54 res)=step (fun q=>I (pid q) (cj q) (cg q)) p:=by
 cases p<;>kernel_rfl
def start_eq (I:cH)(ls:List L):eS E live I (bQ Tryz.f54) (gK pats ls) (cG E Tryz.f54 res)=start (fun q=>I (pid q) (cj q) (cg q)) (ls.headD .hole).aS ((aA 1 ls).headD .hole).toInt:=by kernel_rfl
def run_eq (n:Nat)(ls:List L):eN E live Tryz.f54 res n (gK pats ls)=start (iter step n) (ls.headD .hole).aS ((aA 1 ls).headD .hole).toInt:=cB (id:=pid) (vs:=cj) (hs:=cg) (step:=step) (start:=fun J=>start J (ls.headD .hole).aS ((aA 1 ls).headD .hole).toInt) step_eq (fun I=>start_eq I ls) n
def e1 (x:az)(k:Int):=Z266.md ((((x.aQ).an).bO).aX) (i64.wrap ((i64.wrap ((i64.wrap ((i64.wrap ((i64.wrap ((i64.wrap ((i64.wrap ((i64.wrap (k+1))+1))+1))+1))+1))+1))+1))+1))
def e2 (x:az)(k:Int):=Z266.md ((((x.aQ).an).bA).aX) (i64.wrap ((e1 x k).1+1))
def e3 (x:az)(k:Int):=Z266.md ((((x.aQ).an).bt).aX) (i64.wrap ((i64.wrap ((e2 x k).1+1))+1))
def e4 (x:az)(k:Int):=Z267.md ((x.aQ).bY) (i64.wrap ((i64.wrap ((e3 x k).1+1))+1))
def e5 (x:az)(k:Int):=Z266.md ((((x.fA).an).bO).aX) (i64.wrap ((i64.wrap ((i64.wrap ((i64.wrap ((i64.wrap ((i64.wrap ((i64.wrap ((i64.wrap ((e4 x k).1+1))+1))+1))+1))+1))+1))+1))+1))
def e6 (x:az)(k:Int):=Z266.md ((((x.fA).an).bA).aX) (i64.wrap ((e5 x k).1+1))
def e7 (x:az)(k:Int):=Z266.md ((((x.fA).an).bt).aX) (i64.wrap ((i64.wrap ((e6 x k).1+1))+1))
def e8 (x:az)(k:Int):=Z267.md ((x.fA).bY) (i64.wrap ((i64.wrap ((e7 x k).1+1))+1))
def e9 (x:az)(k:Int):=Z266.md ((((x.fB).an).bO).aX) (i64.wrap ((i64.wrap ((i64.wrap ((i64.wrap ((i64.wrap ((i64.wrap ((i64.wrap ((i64.wrap ((e8 x k).1+1))+1))+1))+1))+1))+1))+1))+1))
def tT (x:az)(k:Int):=Z266.md ((((x.fB).an).bA).aX) (i64.wrap ((e9 x k).1+1))
def tZ (x:az)(k:Int):=Z266.md ((((x.fB).an).bt).aX) (i64.wrap ((i64.wrap ((tT x k).1+1))+1))
def xA (x:az)(k:Int):=Z267.md ((x.fB).bY) (i64.wrap ((i64.wrap ((tZ x k).1+1))+1))
def el (x:az)(k:Int):Int×az:=((xA x k).1,(⟨(⟨(⟨k,(i64.wrap (k+1)),(i64.wrap ((i64.wrap (k+1))+1)),(i64.wrap ((i64.wrap ((i64.wrap (k+1))+1))+1)),(i64.wrap ((i64.wrap ((i64.wrap ((i64.wrap (k+1))+1))+1))+1)),(i64.wrap ((i64.wrap ((i64.wrap ((i64.wrap ((i64.wrap (k+1))+1))+1))+1))+1)),(i64.wrap ((i64.wrap ((i64.wrap ((i64.wrap ((i64.wrap ((i64.wrap (k+1))+1))+1))+1))+1))+1)),(i64.wrap ((i64.wrap ((i64.wrap ((i64.wrap ((i64.wrap ((i64.wrap ((i64.wrap (k+1))+1))+1))+1))+1))+1))+1)),(⟨(e1 x k).2,(e1 x k).1⟩:aM),(⟨(e2 x k).2,(e2 x k).1⟩:aM),(i64.wrap ((e2 x k).1+1)),(⟨(e3 x k).2,(e3 x k).1⟩:aM),((Int.tmod (i64.wrap ((e3 x k).1+1)) 3)==0)⟩:aE),(e4 x k).2⟩:aa),(⟨(⟨(e4 x k).1,(i64.wrap ((e4 x k).1+1)),(i64.wrap ((i64.wrap ((e4 x k).1+1))+1)),(i64.wrap ((i64.wrap ((i64.wrap ((e4 x k).1+1))+1))+1)),(i64.wrap ((i64.wrap ((i64.wrap ((i64.wrap ((e4 x k).1+1))+1))+1))+1)),(i64.wrap ((i64.wrap ((i64.wrap ((i64.wrap ((i64.wrap ((e4 x k).1+1))+1))+1))+1))+1)),(i64.wrap ((i64.wrap ((i64.wrap ((i64.wrap ((i64.wrap ((i64.wrap ((e4 x k).1+1))+1))+1))+1))+1))+1)),(i64.wrap ((i64.wrap ((i64.wrap ((i64.wrap ((i64.wrap ((i64.wrap ((i64.wrap ((e4 x k).1+1))+1))+1))+1))+1))+1))+1)),(⟨(e5 x k).2,(e5 x k).1⟩:aM),(⟨(e6 x k).2,(e6 x k).1⟩:aM),(i64.wrap ((e6 x k).1+1)),(⟨(e7 x k).2,(e7 x k).1⟩:aM),((Int.tmod (i64.wrap ((e7 x k).1+1)) 3)==0)⟩:aE),(e8 x k).2⟩:aa),(⟨(⟨(e8 x k).1,(i64.wrap ((e8 x k).1+1)),(i64.wrap ((i64.wrap ((e8 x k).1+1))+1)),(i64.wrap ((i64.wrap ((i64.wrap ((e8 x k).1+1))+1))+1)),(i64.wrap ((i64.wrap ((i64.wrap ((i64.wrap ((e8 x k).1+1))+1))+1))+1)),(i64.wrap ((i64.wrap ((i64.wrap ((i64.wrap ((i64.wrap ((e8 x k).1+1))+1))+1))+1))+1)),(i64.wrap ((i64.wrap ((i64.wrap ((i64.wrap ((i64.wrap ((i64.wrap ((e8 x k).1+1))+1))+1))+1))+1))+1)),(i64.wrap ((i64.wrap ((i64.wrap ((i64.wrap ((i64.wrap ((i64.wrap ((i64.wrap ((e8 x k).1+1))+1))+1))+1))+1))+1))+1)),(⟨(e9 x k).2,(e9 x k).1⟩:aM),(⟨(tT x k).2,(tT x k).1⟩:aM),(i64.wrap ((tT x k).1+1)),(⟨(tZ x k).2,(tZ x k).1⟩:aM),((Int.tmod (i64.wrap ((tZ x k).1+1)) 3)==0)⟩:aE),(xA x k).2⟩:aa)⟩:az))
def iz (x:az)(k:Int)(hk:eJ k):eJ (el x k).1:=(Z267.iq (cw _))
def cnt (x:az):Nat:=39+Z266.sum ((((x.aQ).an).bO).aX)+Z266.sum ((((x.aQ).an).bA).aX)+Z266.sum ((((x.aQ).an).bt).aX)+Z267.sum ((x.aQ).bY)+Z266.sum ((((x.fA).an).bO).aX)+Z266.sum ((((x.fA).an).bA).aX)+Z266.sum ((((x.fA).an).bt).aX)+Z267.sum ((x.fA).bY)+Z266.sum ((((x.fB).an).bO).aX)+Z266.sum ((((x.fB).an).bA).aX)+Z266.sum ((((x.fB).an).bt).aX)+Z267.sum ((x.fB).bY)
def sum (a:List az):Nat:=(a.map cnt).sum
def md (a0:List az)(a1:Int):Int×List az:=jo el a0 a1
def gd (a0:List az)(a1:Int):Prop:=eJ a1
def acc (ls:List L):aC×Int:=((ls.headD .hole).aS,((aA 1 ls).headD .hole).toInt)
def R:(aC×Int)->Option (Int×aC):=RR (p2 gd) (u2 md)
def aj {a0 a1}(h:gd a0 a1):R ((a0.map az.row),a1)=some ((md a0 a1).1,((md a0 a1).2.map az.row)):=aO (a:=(a0,a1)) h
def aW:gB:=MN pats acc R
def bw (a0:List az)(a1:Int)(hg:gd a0 a1)(h0:a0.length<=maxLen):∃n,start (iter step n) (a0.map az.row) a1=ret (((md a0 a1).1,((md a0 a1).2.map az.row)):Int×aC):=by
 unfold gd at hg
 show ∃n,iter step n (Pt.p0 a1 0 (a0.map az.row))=_
 unfold md
 refine gy (el:=el) (xs:=a0) az.zero eJ iz (pt:=fun i k c=>Pt.p0 k (i:Int) (c.map az.row)) (out:=fun b=>ret (b.1,b.2.map az.row)) (fun J i k c hi hc hk=>?_) (fun J k c hc=>?_) hg
 ·have hm:c.length<=maxLen:=hc ▸ h0
  simp only [step,SS]
  refine ak (aN hi) ?_
  repeat first | refine ak aJ ?_ | refine ak (aN hi) ?_ | refine ak (gS _) ?_
  refine bp ((e1 (c.getD i az.zero) k).1,((e1 (c.getD i az.zero) k).2.map aZ)) (Z266.aj (a0:=((((c.getD i az.zero).aQ).an).bO).aX) (a1:=i64.wrap ((i64.wrap ((i64.wrap ((i64.wrap ((i64.wrap ((i64.wrap ((i64.wrap ((i64.wrap (k+1))+1))+1))+1))+1))+1))+1))+1)) (cw _)) ?_
  repeat first | refine ak aJ ?_ | refine ak (aN hi) ?_ | refine ak (gS _) ?_
  refine bp ((e2 (c.getD i az.zero) k).1,((e2 (c.getD i az.zero) k).2.map aZ)) (Z266.aj (a0:=((((c.getD i az.zero).aQ).an).bA).aX) (a1:=i64.wrap ((e1 (c.getD i az.zero) k).1+1)) (cw _)) ?_
  repeat first | refine ak aJ ?_ | refine ak (aN hi) ?_ | refine ak (gS _) ?_
  refine bp ((e3 (c.getD i az.zero) k).1,((e3 (c.getD i az.zero) k).2.map aZ)) (Z266.aj (a0:=((((c.getD i az.zero).aQ).an).bt).aX) (a1:=i64.wrap ((i64.wrap ((e2 (c.getD i az.zero) k).1+1))+1)) (cw _)) ?_
  repeat first | refine ak aJ ?_ | refine ak (aN hi) ?_ | refine ak (gS _) ?_
  refine bp ((e4 (c.getD i az.zero) k).1,((e4 (c.getD i az.zero) k).2.map bk.row)) (Z267.aj (a0:=((c.getD i az.zero).aQ).bY) (a1:=i64.wrap ((i64.wrap ((e3 (c.getD i az.zero) k).1+1))+1)) (cw _)) ?_
  repeat first | refine ak aJ ?_ | refine ak (aN hi) ?_ | refine ak (gS _) ?_
  refine bp ((e5 (c.getD i az.zero) k).1,((e5 (c.getD i az.zero) k).2.map aZ)) (Z266.aj (a0:=((((c.getD i az.zero).fA).an).bO).aX) (a1:=i64.wrap ((i64.wrap ((i64.wrap ((i64.wrap ((i64.wrap ((i64.wrap ((i64.wrap ((i64.wrap ((e4 (c.getD i az.zero) k).1+1))+1))+1))+1))+1))+1))+1))+1)) (cw _)) ?_
  repeat first | refine ak aJ ?_ | refine ak (aN hi) ?_ | refine ak (gS _) ?_
  refine bp ((e6 (c.getD i az.zero) k).1,((e6 (c.getD i az.zero) k).2.map aZ)) (Z266.aj (a0:=((((c.getD i az.zero).fA).an).bA).aX) (a1:=i64.wrap ((e5 (c.getD i az.zero) k).1+1)) (cw _)) ?_
  repeat first | refine ak aJ ?_ | refine ak (aN hi) ?_ | refine ak (gS _) ?_
  refine bp ((e7 (c.getD i az.zero) k).1,((e7 (c.getD i az.zero) k).2.map aZ)) (Z266.aj (a0:=((((c.getD i az.zero).fA).an).bt).aX) (a1:=i64.wrap ((i64.wrap ((e6 (c.getD i az.zero) k).1+1))+1)) (cw _)) ?_
  repeat first | refine ak aJ ?_ | refine ak (aN hi) ?_ | refine ak (gS _) ?_
  refine bp ((e8 (c.getD i az.zero) k).1,((e8 (c.getD i az.zero) k).2.map bk.row)) (Z267.aj (a0:=((c.getD i az.zero).fA).bY) (a1:=i64.wrap ((i64.wrap ((e7 (c.getD i az.zero) k).1+1))+1)) (cw _)) ?_
  repeat first | refine ak aJ ?_ | refine ak (aN hi) ?_ | refine ak (gS _) ?_
  refine bp ((e9 (c.getD i az.zero) k).1,((e9 (c.getD i az.zero) k).2.map aZ)) (Z266.aj (a0:=((((c.getD i az.zero).fB).an).bO).aX) (a1:=i64.wrap ((i64.wrap ((i64.wrap ((i64.wrap ((i64.wrap ((i64.wrap ((i64.wrap ((i64.wrap ((e8 (c.getD i az.zero) k).1+1))+1))+1))+1))+1))+1))+1))+1)) (cw _)) ?_
  repeat first | refine ak aJ ?_ | refine ak (aN hi) ?_ | refine ak (gS _) ?_
  refine bp ((tT (c.getD i az.zero) k).1,((tT (c.getD i az.zero) k).2.map aZ)) (Z266.aj (a0:=((((c.getD i az.zero).fB).an).bA).aX) (a1:=i64.wrap ((e9 (c.getD i az.zero) k).1+1)) (cw _)) ?_
  repeat first | refine ak aJ ?_ | refine ak (aN hi) ?_ | refine ak (gS _) ?_
  refine bp ((tZ (c.getD i az.zero) k).1,((tZ (c.getD i az.zero) k).2.map aZ)) (Z266.aj (a0:=((((c.getD i az.zero).fB).an).bt).aX) (a1:=i64.wrap ((i64.wrap ((tT (c.getD i az.zero) k).1+1))+1)) (cw _)) ?_
  repeat first | refine ak aJ ?_ | refine ak (aN hi) ?_ | refine ak (gS _) ?_
  refine bp ((xA (c.getD i az.zero) k).1,((xA (c.getD i az.zero) k).2.map bk.row)) (Z267.aj (a0:=((c.getD i az.zero).fB).bY) (a1:=i64.wrap ((i64.wrap ((tZ (c.getD i az.zero) k).1+1))+1)) (cw _)) ?_
  rw [aG hi hm]
  exact congrArg (fun q=>J (Pt.p0 (el (c.getD i az.zero) k).1 ((i+1:Nat):Int) q)) (List.map_set (f:=az.row) (l:=c) (i:=i) (a:=(el (c.getD i az.zero) k).2)).symm
 ·simp only [step,SS]
  refine cL (by apply decide_eq_false;omega) ?_
  rfl
def af:eR Tryz.prog Ev 54 aW:=MV (run:=fun n x=>start (iter step n) x.1 x.2) mix aF .nil (.cons Z266.af (.cons Z267.af .nil)) Tryz.func54 (by kernel_rfl) run_eq (fun ls a hl e hg=>bw a.1 a.2 hg (by have h:(ls.headD .hole).aS.length<=maxLen:=(hl _ _ (.head _)).len;have e:a.1.map az.row=(ls.headD .hole).aS:=(congrArg (fun x=>x.1) e.symm);rw [<-e] at h;simpa using h))
def iq {a0:List az}{a1:Int}(h:eJ a1):eJ (md a0 a1).1:=jP iz h
def qx (x:az)(k:Int)(h0:0<=k)(hb:k+(cnt x:Int)<=4611686018427387904):(el x k).1=k+cnt x:=by
 simp only [cnt,Int.natCast_add] at hb ⊢
 simp (disch:=omega) only [el,e1,e2,e3,e4,e5,e6,e7,e8,e9,tT,tZ,xA,wi,Z266.kk,Z267.kk]
 all_goals first | done | omega
def kk (a0:List az)(a1:Int)(h0:0<=a1)(hb:a1+(sum a0:Int)<=4611686018427387904):(md a0 a1).1=a1+sum a0:=gH qx a0 a1 h0 hb
def sz (a:List az):sum a<=60*(dP (fun y:az=>az.size y) a):=jM (fun x=>by
 have:=Z266.sz ((((x.aQ).an).bO).aX)
 have:=Z266.sz ((((x.aQ).an).bA).aX)
 have:=Z266.sz ((((x.aQ).an).bt).aX)
 have:=Z267.sz ((x.aQ).bY)
 have:=Z266.sz ((((x.fA).an).bO).aX)
 have:=Z266.sz ((((x.fA).an).bA).aX)
 have:=Z266.sz ((((x.fA).an).bt).aX)
 have:=Z267.sz ((x.fA).bY)
 have:=Z266.sz ((((x.fB).an).bO).aX)
 have:=Z266.sz ((((x.fB).an).bA).aX)
 have:=Z266.sz ((((x.fB).an).bt).aX)
 have:=Z267.sz ((x.fB).bY)
 try simp only [cnt,az.size,aa.size,aE.size,aM.size] at *
 omega) a
end Z270
namespace Z271
set_option maxHeartbeats 8000000
def F (x0:bu)(x1:Int):aH:=(call (Z269.R (x0.aI,x1)) fun v1=>(call (Z270.R (x0.bn,v1.1)) fun v2=>ret ((v2.1,v1.2,v2.2):Int×aC×aC)))
def pats:List (Bool×List K):=[(true,[.sl 134,.sl 143]),(false,[aB])]
def res:RP:=.nV [134,143]
def e1 (x:aq)(k:Int):=Z269.md x.aI k
def e2 (x:aq)(k:Int):=Z270.md x.bn ((e1 x k).1)
def sum (x:aq):Nat:=0+Z269.sum x.aI+Z270.sum x.bn
def md (a0:aq)(a1:Int):Int×List (List aa)×List az:=((e2 a0 a1).1,(e1 a0 a1).2,(e2 a0 a1).2)
def gd (a0:aq)(a1:Int):Prop:=eJ a1
def acc (ls:List L):bu×Int:=((bu.dec ls),((aA 2 ls).headD .hole).toInt)
def R:(bu×Int)->Option (Int×aC×aC):=RR (p2 gd) (u2 md)
def aj {a0 a1}(h:gd a0 a1):R ((aq.r a0),a1)=some ((md a0 a1).1,((md a0 a1).2.1.map (dF aa.row)),((md a0 a1).2.2.map az.row)):=aO (a:=(a0,a1)) h
def aW:gB:=MN pats acc R
def bw (a0:aq)(a1:Int)(hg:gd a0 a1):F (aq.r a0) a1=ret (((md a0 a1).1,((md a0 a1).2.1.map (dF aa.row)),((md a0 a1).2.2.map az.row)):Int×aC×aC):=by
 unfold gd at hg
 simp only [F,SS]
 unfold md
 refine bp ((e1 a0 a1).1,((e1 a0 a1).2.map (dF aa.row))) (Z269.aj (a0:=a0.aI) (a1:=a1) hg) ?_
 refine bp ((e2 a0 a1).1,((e2 a0 a1).2.map az.row)) (Z270.aj (a0:=a0.bn) (a1:=(e1 a0 a1).1) (Z269.iq hg)) ?_
 first | rfl | (simp only [SS];rfl)
def af:eR Tryz.prog Ev 21 aW:=MV (live:=fun _=>[]) (nt:=14) (run:=fun _ x=>F x.1 x.2) mix aF .nil (.cons Z269.af (.cons Z270.af .nil)) Tryz.func21 (by kernel_rfl) (fun _ _=>by kernel_rfl) (fun _ a _ _ hg=>⟨0,bw a.1 a.2 hg⟩)
def iq {a0:aq}{a1:Int}(hk:eJ a1):eJ (md a0 a1).1:=(Z270.iq (Z269.iq hk))
def kk (x:aq)(k:Int)(h0:0<=k)(hb:k+(sum x:Int)<=4611686018427387904):(md x k).1=k+sum x:=by
 simp only [sum,Int.natCast_add] at hb ⊢
 simp (disch:=omega) only [md,e1,e2,wi,Z269.kk,Z270.kk]
 all_goals first | done | omega
def sz (x:aq):sum x<=60*aq.size x:=by
 have:=Z269.sz x.aI
 have:=Z270.sz x.bn
 try simp only [sum,aq.size] at *
 omega
def upd (x:aq)(k:Int):aq:=(⟨(md x k).2.1,(md x k).2.2⟩:aq)
end Z271
namespace Z272
inductive Pt where
 | p0 (a:Int) (b:aD)
def pid:Pt->Nat
 | .p0 ..=>4
def cj:Pt->List V
 | .p0 a b=>[.int .i64 a,.str b]
def cg:Pt->List aV
 | .p0 a b=>[]
def step (J:Pt->aH):Pt->aH
 | .p0 a b=>(cond (decide (a>0)) (cond (decide ((((uy [[L.int (IntKind.u8.wrap (i64.wrap (48+(Int.tmod a 10))))]]).size+b.size:Nat):Int)>9223372036854775807)) none (J (.p0 (i64.wrap (Int.tdiv a 10)) ((uy [[L.int (IntKind.u8.wrap (i64.wrap (48+(Int.tmod a 10))))]])++b)))) (cond (decide ((((⟨#[109]⟩:aD).size+b.size:Nat):Int)>9223372036854775807)) none (ret (((⟨#[109]⟩:aD)++b):aD))))
def start (J:Pt->aH)(x0:Int):aH:=(cond (decide (x0<=0)) (ret ((⟨#[109,48]⟩:aD):aD)) (J (.p0 x0 ⟨#[]⟩)))
def live:Nat->Live:=fun i=>match i with | 4=>[(0,none),(3,none)] | _=>[]
def dg (a:Int):aD:=uy [[L.int (IntKind.u8.wrap (i64.wrap (48+(Int.tmod a 10))))]]
def txt:Nat->Int->aD->aD
 | 0,_,b=>b
 | n+1,a,b=>bif decide (a>0) then txt n (i64.wrap (Int.tdiv a 10)) (dg a++b) else b
def zh (a:Int):(uy [[L.int (IntKind.u8.wrap (i64.wrap (48+(Int.tmod a 10))))]]).size=1:=rfl
def run:∀(n:Nat) (a:Int) (b:aD),n<=64->a<2^n->eJ a->b.size+n<=1000->∃m,iter step m (.p0 a b)=ret ((⟨#[109]⟩:aD)++txt n a b)
 | 0,a,b,_,h1,_,h3=>by
  refine ⟨1,?_⟩
  show step _ (.p0 a b)=_
  have e1:decide (a>0)=false:=decide_eq_false (by simp at h1;omega)
  have e2:decide ((((⟨#[109]⟩:aD).size+b.size:Nat):Int)>9223372036854775807)=false:=decide_eq_false (by have :(⟨#[109]⟩:aD).size=1:=rfl;omega)
  simp only [step,e1,e2,bq]
  rfl
 | n+1,a,b,hn,h1,h2,h3=>by
  by_cases hp:a>0
  ·have e1:decide (a>0)=true:=decide_eq_true hp
   have hq:Int.tdiv a 10=a / 10:=Int.tdiv_eq_ediv_of_nonneg (by omega)
   unfold eJ at h2
   have hw:i64.wrap (Int.tdiv a 10)=a / 10:=by rw [hq];exact wi _ (by omega)
   have hlt:a / 10<2^n:=by
    have :(2:Int)^(n+1)=2^n*2:=Int.pow_succ 2 n
    omega
   have hs:(dg a++b).size=1+b.size:=by rw [ByteArray.size_append];rfl
   obtain ⟨m,hm⟩:=run n (a / 10) (dg a++b) (by omega) hlt ⟨by omega,by omega⟩ (by rw [hs];omega)
   refine ⟨m+1,?_⟩
   show step _ (.p0 a b)=_
   have e2:decide ((((uy [[L.int (IntKind.u8.wrap (i64.wrap (48+(Int.tmod a 10))))]]).size+b.size:Nat):Int)>9223372036854775807)=false:=decide_eq_false (by rw [zh];omega)
   simp only [step,txt,e1,e2,bg,bq,hw]
   exact hm
  ·refine ⟨1,?_⟩
   show step _ (.p0 a b)=_
   have e1:decide (a>0)=false:=decide_eq_false hp
   have e2:decide ((((⟨#[109]⟩:aD).size+b.size:Nat):Int)>9223372036854775807)=false:=decide_eq_false (by have :(⟨#[109]⟩:aD).size=1:=rfl;omega)
   simp only [step,txt,e1,e2,bq]
def md (a0:Int):aD:=(cond (decide (a0<=0)) (⟨#[109,48]⟩:aD) ((⟨#[109]⟩:aD)++txt 64 a0 ⟨#[]⟩))
def gd (a0:Int):Prop:=eJ a0
def R:=RR gd md
def aj {a0}(h:gd a0):R a0=some (md a0):=aO (a:=a0) h
def aW:=CN [pI] oS RT.dec R
def bw (a0)(hg:gd a0):∃n,start (iter step n) a0=ret (md a0):=by
 unfold gd at hg
 unfold start md
 cases h:decide (a0<=0)
 ·have h2:=hg.2
  have h3:(2:Int)^64=18446744073709551616:=by decide
  obtain ⟨m,hm⟩:=run 64 a0 ⟨#[]⟩ (Nat.le_refl _) (by rw [h3];omega) hg (by show 0+64<=1000;omega)
  exact ⟨m,hm⟩
 ·exact ⟨0,rfl⟩
def af:cy 56 aW:=L1 20 pid cj cg live step start mix aF bw .nil Tryz.func56
end Z272
namespace Z273
set_option maxHeartbeats 8000000
inductive Pt where
 | p0 (a b:Int) (c:aC)
def pid:Pt->Nat
 | .p0 ..=>2
def cj:Pt->List V
 | .p0 a b c=>[.own 0,.int .i64 a,.int .i64 b]
def cg:Pt->List aV
 | .p0 a b c=>[.row 9 c]
def step (J:Pt->aH):Pt->aH
 | .p0 a b c=>(cond (decide (b<(c.length:Int))) (call (Z272.R a) fun v1=>(m2 b (c.length:Int) (J (.p0 (i64.wrap (a+1)) (i64.wrap (b+1)) (List.set c (toNat b) [L.str v1]))))) (ret ((a,c):Int×aC)))
def start (J:Pt->aH)(x0:aC)(x1:Int):aH:=J (.p0 x1 0 x0)
def live:Nat->Live:=fun i=>match i with | 2=>[(0,none),(1,none),(5,none)] | _=>[]
def pats:List (Bool×List K):=[(false,[.sl 9]),(false,[aB])]
def res:RP:=.nV [9]
abbrev E:Env:={ T:=assoc kL,G:=dm [(56,Z272.aW)],nt:=20,M:=fO [],np:=1,mt:=true }
def step_eq (I:cH)(p:Pt):cR E live I (pid p) (bQ Tryz.f24) (fE (live (pid p)) (cj p) (cg p)) (cG E Tryz.f24 res)=step (fun q=>I (pid q) (cj q) (cg q)) p:=by
 cases p<;>kernel_rfl
def start_eq (I:cH)(ls:List L):eS E live I (bQ Tryz.f24) (gK pats ls) (cG E Tryz.f24 res)=start (fun q=>I (pid q) (cj q) (cg q)) (ls.headD .hole).aS ((aA 1 ls).headD .hole).toInt:=by kernel_rfl
def run_eq (n:Nat)(ls:List L):eN E live Tryz.f24 res n (gK pats ls)=start (iter step n) (ls.headD .hole).aS ((aA 1 ls).headD .hole).toInt:=cB (id:=pid) (vs:=cj) (hs:=cg) (step:=step) (start:=fun J=>start J (ls.headD .hole).aS ((aA 1 ls).headD .hole).toInt) step_eq (fun I=>start_eq I ls) n
def el (x:aD)(k:Int):Int×aD:=((i64.wrap (k+1)),(Z272.md k))
def iz (x:aD)(k:Int)(hk:eJ k):eJ (el x k).1:=(cw _)
def cnt (x:aD):Nat:=1
def sum (a:List aD):Nat:=(a.map cnt).sum
def md (a0:List aD)(a1:Int):Int×List aD:=jo el a0 a1
def gd (a0:List aD)(a1:Int):Prop:=eJ a1
def acc (ls:List L):aC×Int:=((ls.headD .hole).aS,((aA 1 ls).headD .hole).toInt)
def R:(aC×Int)->Option (Int×aC):=RR (p2 gd) (u2 md)
def aj {a0 a1}(h:gd a0 a1):R ((a0.map cC),a1)=some ((md a0 a1).1,((md a0 a1).2.map cC)):=aO (a:=(a0,a1)) h
def aW:gB:=MN pats acc R
def bw (a0:List aD)(a1:Int)(hg:gd a0 a1)(h0:a0.length<=maxLen):∃n,start (iter step n) (a0.map cC) a1=ret (((md a0 a1).1,((md a0 a1).2.map cC)):Int×aC):=by
 unfold gd at hg
 show ∃n,iter step n (Pt.p0 a1 0 (a0.map cC))=_
 unfold md
 refine gy (el:=el) (xs:=a0) ⟨#[]⟩ eJ iz (pt:=fun i k c=>Pt.p0 k (i:Int) (c.map cC)) (out:=fun b=>ret (b.1,b.2.map cC)) (fun J i k c hi hc hk=>?_) (fun J k c hc=>?_) hg
 ·have hm:c.length<=maxLen:=hc ▸ h0
  simp only [step,SS]
  refine ak (aN hi) ?_
  refine bp (Z272.md k) (Z272.aj (a0:=k) hk) ?_
  refine ak aJ ?_
  refine ak (aN hi) ?_
  rw [aG hi hm]
  exact congrArg (fun q=>J (Pt.p0 (el (c.getD i ⟨#[]⟩) k).1 ((i+1:Nat):Int) q)) (List.map_set (f:=cC) (l:=c) (i:=i) (a:=(el (c.getD i ⟨#[]⟩) k).2)).symm
 ·simp only [step,SS]
  refine cL (by apply decide_eq_false;omega) ?_
  rfl
def af:eR Tryz.prog Ev 24 aW:=MV (run:=fun n x=>start (iter step n) x.1 x.2) mix aF (.cons Z272.af .nil) .nil Tryz.func24 (by kernel_rfl) run_eq (fun ls a hl e hg=>bw a.1 a.2 hg (by have h:(ls.headD .hole).aS.length<=maxLen:=(hl _ _ (.head _)).len;have e:a.1.map cC=(ls.headD .hole).aS:=(congrArg (fun x=>x.1) e.symm);rw [<-e] at h;simpa using h))
def iq {a0:List aD}{a1:Int}(h:eJ a1):eJ (md a0 a1).1:=jP iz h
def qx (x:aD)(k:Int)(h0:0<=k)(hb:k+(cnt x:Int)<=4611686018427387904):(el x k).1=k+cnt x:=by
 simp only [cnt,Int.natCast_add] at hb ⊢
 simp (disch:=omega) only [el,wi]
 all_goals first | done | omega
def kk (a0:List aD)(a1:Int)(h0:0<=a1)(hb:a1+(sum a0:Int)<=4611686018427387904):(md a0 a1).1=a1+sum a0:=gH qx a0 a1 h0 hb
def sz (a:List aD):sum a<=60*(dP (fun y:aD=>y.size) a):=jM (fun x=>by
 try simp only [cnt] at *
 omega) a
end Z273
end Go.DM
end
