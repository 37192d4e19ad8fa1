/- What the functions compute that the law reaches, and that the law returns true. Conditions: none. -/
import Derived.Test.YtknikjmcpjaggaaGreatResolveTy
import Derived.Test.YtknikjmcpjaggaaGreatResolveFnB
import Derived.Test.YtknikjmcpjaggaaGreatProg
import Derived.Lib.AppendZerosOnto
import Derived.Lib.Bytealg
import Derived.Laws.Externs
import Derived.Lib.Walk
import Derived.Lib.Hide
import Derived.Lib.Strings
set_option linter.all false
set_option maxRecDepth 100000
noncomputable section
namespace Go.DM
open Go.Proofs
open Go.IntKind (i64)
open Int (toNat)
namespace Z199
inductive Pt where
 | p0 (a:List (List L)) (b:List L) (c:Int) (d:Int)
def pid:Pt→Nat
 | .p0 ..=>2
def bY:Pt→List V
 | .p0 a b c d=>[.sl none 61 a,.fn 562 [.dD none [.str] b 0],.int .i64 c,.int .i64 d]
def bZ:Pt→List aU
 | .p0 a b c d=>[]
def step (J:Pt→aG):Pt→aG
 | .p0 a b c d=>(cond (decide (d<c)) (m2 d (a.length:Int) (call (Z198.R ((aS.at a (toNat d)),(sDec b))) fun v1=>(cond v1 (ret (d:Int)) (J (.p0 a b c (i64.wrap (d+1))))))) (ret ((-1):Int)))
def start (J:Pt→aG)(x0:List (List L))(x1:List L):aG:=J (.p0 x0 x1 (x0.length:Int) 0)
def live:Nat→Live:=fun i=>match i with | 2=>[(0,none),(1,none),(7,none),(8,none)] | _=>[]
def pats:List gq:=[.rd (.sl 61),.fn 562 [[.str]]]
def res:RP:=.one (.rd (.int .i64))
abbrev E:Env:={ T:=assoc kQ,G:=dy [(562,Z198.aV)],nt:=19 }
theorem step_eq (I:cG)(p:Pt):cT E live I (pid p) (bM Tryz.f561) (fM (live (pid p)) (bY p) (bZ p)) (cH E Tryz.f561 res)=step (fun q=>I (pid q) (bY q) (bZ q)) p:=by
 cases p<;>kernel_rfl
theorem start_eq (I:cG)(ls:List L):eX E live I (bM Tryz.f561) (cZ pats ls) (cH E Tryz.f561 res)=start (fun q=>I (pid q) (bY q) (bZ q)) (ls.headD .hole).aR (cK 1 (aA 1 ls)):=by kernel_rfl
theorem run_eq (n:Nat)(ls:List L):eO E live Tryz.f561 res n (cZ pats ls)=start (iter step n) (ls.headD .hole).aR (cK 1 (aA 1 ls)):=cC (id:=pid) (vs:=bY) (hs:=bZ) (step:=step) (start:=fun J=>start J (ls.headD .hole).aR (cK 1 (aA 1 ls))) step_eq (fun I=>start_eq I ls) n
def md (a0:List ah)(a1:ByteArray):Int:=(dS (S:=Unit) (β:=Int) (fun (i1:Nat) (y1:ah) (s3:Unit)=>(cond (Z198.md y1 a1) (.inr ((i1:Int):Int)) (.inl ()))) (fun (s3:Unit)=>((-1):Int)) 0 a0 ())
def gd (a0:List ah)(a1:ByteArray):Prop:=(bK (2^21) (fun y:ah=>ah.Sm (2^21) y) a0)
def acc (ls:List L):List (List L)×ByteArray:=((ls.headD .hole).aR,(sDec (cK 1 (aA 1 ls))))
def R:(List (List L)×ByteArray)→Option Int:=RR (p2 gd) (u2 md)
theorem aj {a0 a1}(h:gd a0 a1):R ((a0.map ah.row),a1)=some (md a0 a1):=aM (a:=(a0,a1)) h
def aV:fW:=CN pats res acc R
theorem bq (a0:List ah)(a1:ByteArray)(p1:List L)(e1:a1=(sDec p1))(hg:gd a0 a1):∃n,start (iter step n) (a0.map ah.row) p1=ret ((md a0 a1):Int):=by
 unfold gd at hg
 have H0:=hg
 unfold start md
 try simp only [SS,←e1]
 have Bh2:a0.length≤maxLen:=(by
   have:=(H0).1
   try simp only [maxLen] at *
   omega)
 refine ex_eq (out:=ret) (cX (z:=ah.zero)) ?_
 refine dN (p:=Pt.p0 (a0.map ah.row) p1 (a0.length:Int) 0) fz ?_
 refine ck (pt:=fun (i1:Nat) (s3:Unit)=>Pt.p0 (a0.map ah.row) p1 (a0.length:Int) (i1:Int)) (s:=(():Unit)) (out:=ret) (fun _ _=>True) (fun J i1 s3 h2 hih2=>?_) (fun s3 hih2=>?_) trivial
 ·simp only [step,SS,←e1]
  have bb_:=Bh2
  simp only [maxLen] at bb_
  have:=(H0).1
  refine bt.yes (by apply decide_eq_true;omega) ?_
  refine bt.yes aH ?_
  refine bt.yes (aL h2) ?_
  refine cr (Z198.aj trivial) ?_
  refine bt.bif (fun c4=>?_) (fun c4=>?_)
  ·refine bt.inr ?_
   all_goals exact fz
  ·refine bt.inl trivial ?_
   rw [aE h2 Bh2]
   all_goals exact fz
 ·simp only [step,SS,←e1]
  have:=(H0).1
  refine dx (by apply decide_eq_false;omega) ?_
  refine ⟨0,?_⟩
  all_goals exact fz
theorem oJ (ls:List L)(a:List ah×ByteArray)(e:acc ls=Im.im a)(hg:(p2 gd) a):∃n:Nat,start (iter step n) ((ls.headD .hole).aR) (cK 1 (aA 1 ls))=ret (Im.im ((u2 md) a)):=by
 have e0:(a.1.map ah.row)=(ls.headD .hole).aR:=(congrArg (fun x=>x.1) e.symm)
 obtain ⟨n,hn⟩:=bq a.1 a.2 (cK 1 (aA 1 ls)) (congrArg (fun x=>x.2) e.symm) hg
 refine ⟨n,?_⟩
 rw [←e0]
 exact hn
theorem af:cw 561 aV:=VP (accr:=fun ls=>((ls.headD .hole).aR,(cK 1 (aA 1 ls)))) (run:=fun n x=>start (iter step n) x.1 x.2) mix aD (.cons Z198.af .nil) Tryz.func561 (by kernel_rfl) run_eq (fun ls a _ e hg=>oJ ls a e hg)
theorem fa (a0:List ah)(a1:ByteArray):-1≤md a0 a1∧md a0 a1<(a0.length:Int):=by
 unfold md
 refine gb ?_ _ _
 all_goals
  intro i x s b h
  revert h
  simp only [Bool.cond_eq_ite]
  repeat' split
  all_goals (intro h;first | (cases h;rfl) | cases h)
theorem idx_eq (a0:List ah)(a1:ByteArray):md a0 a1=iX (fun y=>Z198.md y a1) 0 a0:=by
 unfold md
 exact gV
end Z199
namespace Z200
def F (x0:List (List L))(x1:ByteArray):aG:=(call (Z199.R (x0,x1)) fun v1=>ret (v1:Int))
def md (a0:List ah)(a1:ByteArray):Int:=((Z199.md a0 a1):Int)
def gd (a0:List ah)(a1:ByteArray):Prop:=(bK (2^21) (fun y:ah=>ah.Sm (2^21) y) a0)
def R:=RR (p2 gd) (u2 md)
theorem aj {a0 a1}(h:gd a0 a1):R ((a0.map ah.row),a1)=some (md a0 a1):=aM (a:=(a0,a1)) h
def aV:=CN [pL 61,pS] oI RT.dec R
theorem bq (a0)(a1)(hg:gd a0 a1):F (a0.map ah.row) a1=ret (md a0 a1):=by
 unfold gd at hg
 have H0:=hg
 unfold F md
 try simp only [SS]
 refine ct (Z199.aj H0) ?_
 have fv1_:=Z199.fa a0 a1
 all_goals exact fz
theorem af:cw 511 aV:=W2 8 F mix aD bq (.cons Z199.af .nil) Tryz.func511
theorem fa (a0:List ah)(a1:ByteArray):-1≤md a0 a1∧md a0 a1<(a0.length:Int):=by
 unfold md
 refine gb ?_ _ _
 all_goals
  intro i x s b h
  revert h
  simp only [Bool.cond_eq_ite]
  repeat' split
  all_goals (intro h;first | (cases h;rfl) | cases h)
theorem br (a0:List ah)(a1:ByteArray):md a0 a1=Z88.md a0 a1:=by
 unfold md Z88.md
 first
 | (simp only [Z199.idx_eq];done)
 | (simp only [Z199.idx_eq];rfl)
 | rfl
end Z200
namespace Z201
def F (x0:List (List L)):aG:=(cond x0.isEmpty (either (ret ([]:List (List L))) ((bX (eU ((x0.length:Int)*16)) (ret (x0:List (List L)))))) (bX (eU ((x0.length:Int)*16)) (ret (x0:List (List L)))))
def md (a0:List ByteArray):List ByteArray:=a0
def gd (a0:List ByteArray):Prop:=bK (2^21) (fun y:ByteArray=>y.size≤(2^21)) a0
def R:=RR gd md
theorem aj {a0}(h:gd a0):R (a0.map cA)=some (a0.map cA):=aM (a:=a0) h
def aV:=CN [pL 9] (oL 9) RT.dec R
theorem bq (a0)(hg:gd a0):F (a0.map cA)=ret ((md a0).map cA):=by
 have H0:=hg.1
 unfold F md
 have hl:eU (((a0.map cA).length:Int)*16)=true:=iS (by simp only [List.length_map];omega)
 simp only [hl,bf]
 cases a0 with
 | nil=>exact lN
 | cons x xs=>rfl
theorem af:cw 294 aV:=W1 8 F mix aD bq .nil Tryz.func294
end Z201
namespace Z202
def F (x0:aS):aG:=(call (Z201.R x0.bC) fun v1=>ret ((⟨x0.aW,x0.bD,x0.bS,v1⟩:aS):aS))
def md (a0:ah):ah:=a0
def gd (a0:ah):Prop:=(ah.Sm (2^21) a0)
def R:=RR gd md
theorem aj {a0}(h:gd a0):R (ah.r a0)=some (ah.r a0):=aM (a:=a0) h
def aV:=CN [.agg ru] (.agg f61) RT.dec R
theorem bq (a0)(hg:gd a0):F (ah.r a0)=ret (ah.r (md a0)):=by
 unfold gd at hg
 have H0:=hg
 unfold F md
 try simp only [SS]
 refine ct (Z201.aj H0.2) ?_
 try simp only [SS]
 all_goals exact fz
theorem af:cw 280 aV:=W1 8 F mix aD bq (.cons Z201.af .nil) Tryz.func280
end Z202
namespace Z203
inductive Pt where
 | p0 (a:List (List L)) (b:Int) (c:List (List L))
 | p1 (a:Int) (b:List (List L)) (c:List (List L))
def pid:Pt→Nat
 | .p0 ..=>4
 | .p1 ..=>4
def bY:Pt→List V
 | .p0 a b c=>[.sl none 3 a,.int .i64 b,.own 0]
 | .p1 a b c=>[.own 0,.int .i64 a,.own 1]
def bZ:Pt→List aU
 | .p0 a b c=>[.row 3 c]
 | .p1 a b c=>[.row 3 b,.row 3 c]
def step (J:Pt→aG):Pt→aG
 | .p0 a b c=>(cond (decide ((a.length:Int)>1)) (cond (decide ((mW .i64 b 1)<(a.length:Int))) (bX (decide ((0:Int)≤(mW .i64 b 1))) (bX (decide ((mW .i64 b 1)<(a.length:Int))) (bX (eU (((c.length:Int)+1)*8)) (call (Z188.R a) fun v1=>J (.p1 (i64.wrap (Int.tdiv b 2)) v1 (c++[[L.int (jv a (toNat (mW .i64 b 1)))]])))))) (call (Z188.R a) fun v2=>J (.p1 (i64.wrap (Int.tdiv b 2)) v2 c))) (ret (c:List (List L))))
 | .p1 a b c=>(cond (decide ((b.length:Int)>1)) (cond (decide ((mW .i64 a 1)<(b.length:Int))) (bX (decide ((0:Int)≤(mW .i64 a 1))) (bX (decide ((mW .i64 a 1)<(b.length:Int))) (bX (eU (((c.length:Int)+1)*8)) (call (Z188.R b) fun v1=>J (.p1 (i64.wrap (Int.tdiv a 2)) v1 (c++[[L.int (jv b (toNat (mW .i64 a 1)))]])))))) (call (Z188.R b) fun v2=>J (.p1 (i64.wrap (Int.tdiv a 2)) v2 c))) (ret (c:List (List L))))
def start (J:Pt→aG)(x0:List (List L))(x1:Int):aG:=(call (Z130.R (x1,0,(i64.wrap ((x0.length:Int) - 1)))) fun v1=>(cond (!v1) (ret ([]:List (List L))) (J (.p0 x0 x1 []))))
def live:Nat→Live:=fun i=>match i with | 4=>[(0,none),(1,none),(5,some 3)] | _=>[]
theorem Bu (b:Nat)(h:b<2^40):mW .i64 (b:Int) 1=((Z90.vh b:Nat):Int):=by
 have e1:(BitVec.ofInt 64 (b:Int)).toNat=b:=by simp [BitVec.toNat_ofInt];omega
 have e2:(BitVec.ofInt 64 (1:Int)).toNat=1:=by decide
 have e3:(b ^^^ 1)=Z90.vh b:=by
  have a1:(b ^^^ 1) % 2=(b+1) % 2:=by
   have h:=Nat.xor_mod_two_pow (a:=b) (b:=1) (n:=1)
   rw [Nat.pow_one,show (1:Nat) % 2=1 from rfl] at h
   rcases Nat.mod_two_eq_zero_or_one b with e | e
   ·rw [e,show (0:Nat) ^^^ 1=1 from rfl] at h;omega
   ·rw [e,show (1:Nat) ^^^ 1=0 from rfl] at h;omega
  have a2:(b ^^^ 1) / 2=b / 2:=by rw [Nat.xor_div_two];simp
  unfold Z90.vh;split<;>omega
 show i64.wrap (((BitVec.ofInt 64 (b:Int) ^^^ BitVec.ofInt 64 1).toNat:Nat):Int)=_
 rw [BitVec.toNat_xor,e1,e2,e3,wi _ (by unfold Z90.vh;split<;>omega)]
def md (a0:List Int)(a1:Int):List Int:=Z90.md a0 a1
def gd (a0:List Int)(a1:Int):Prop:=bK (2^38) (fun y:Int=>True) a0
def R:=RR (p2 gd) (u2 md)
theorem aj {a0 a1}(h:gd a0 a1):R ((a0.map aZ),a1)=some ((md a0 a1).map aZ):=aM (a:=(a0,a1)) h
def aV:=CN [pL 3,pI] (oL 3) RT.dec R
theorem bq (a0)(a1)(hg:gd a0 a1):∃n,start (iter step n) (a0.map aZ) a1=ret ((md a0 a1).map aZ):=by
 have one:∀(i:Nat) (l c r:List Int) (n:Nat),bK (2^38) (fun y:Int=>True) l→i<2^40→c.length<2^40→(if l.length>1 then iter step n (Pt.p1 ((i / 2:Nat):Int) ((Z80.up l).map aZ) ((Z90.vg i l c).map aZ))=ret (r.map aZ) else c=r)→
   step (iter step n) (Pt.p0 (l.map aZ) (i:Int) (c.map aZ))=ret (r.map aZ)∧step (iter step n) (Pt.p1 (i:Int) (l.map aZ) (c.map aZ))=ret (r.map aZ):=by
  intro i l c r n hl hi hc h
  have hs:=Bu i hi
  have hd:=Z90.half i hi
  refine ⟨?_,?_⟩
  all_goals
   simp only [step,MM,List.length_map,gQ,hs,hd,cF]
   by_cases h1:l.length>1
   ·rw [if_pos h1] at h
    rw [decide_eq_true (show (l.length:Int)>1 by omega),bf]
    by_cases h2:Z90.vh i<l.length
    ·rw [Z90.vg,if_pos h2,List.map_append] at h
     rw [decide_eq_true (show ((Z90.vh i:Nat):Int)<(l.length:Int) by omega),bf,decide_eq_true (show (0:Int)≤((Z90.vh i:Nat):Int) by omega),bf,bf,iS (by omega),bf]
     exact bh ((Z80.up l).map aZ) (Z188.aj hl) h
    ·rw [Z90.vg,if_neg h2] at h
     rw [decide_eq_false (show ¬((Z90.vh i:Nat):Int)<(l.length:Int) by omega),bk]
     exact bh ((Z80.up l).map aZ) (Z188.aj hl) h
   ·rw [if_neg h1] at h
    rw [decide_eq_false (show ¬(l.length:Int)>1 by omega),bk,h]
 have key:∀(k i:Nat) (l c:List Int),bK (2^38) (fun y:Int=>True) l→l.length≤k→i<2^40→c.length+k<2^40→
   ∃n,step (iter step n) (Pt.p0 (l.map aZ) (i:Int) (c.map aZ))=ret ((Z90.yY k i l c).map aZ)∧step (iter step n) (Pt.p1 (i:Int) (l.map aZ) (c.map aZ))=ret ((Z90.yY k i l c).map aZ):=by
  intro k
  induction k with
  | zero=>intro i l c hl hk hi hc;exact ⟨0,one i l c _ 0 hl hi (by omega) (by rw [if_neg (by omega)];rfl)⟩
  | succ k ih=>
   intro i l c hl hk hi hc
   unfold Z90.yY
   by_cases h1:l.length>1
   ·have hu:=Z80.jZ l
    have hl1:=hl.1
    have h2:(Z90.vg i l c).length≤c.length+1:=by unfold Z90.vg;split<;>simp
    obtain ⟨n,_,hn⟩:=ih (i / 2) (Z80.up l) (Z90.vg i l c) ⟨by omega,fun _ _=>trivial⟩ (by omega) (by omega) (by omega)
    rw [if_pos h1]
    exact ⟨n+1,one i l c _ (n+1) hl hi (by omega) (by rw [if_pos h1];exact hn)⟩
   ·rw [if_neg h1]
    exact ⟨0,one i l c _ 0 hl hi (by omega) (by rw [if_neg h1])⟩
 unfold gd at hg
 unfold start md Z90.md
 simp only [List.length_map]
 have hlen:=hg.1
 cases h:Z41.md a1 0 (i64.wrap ((a0.length:Int) - 1))
 ·exact ⟨0,bh false (by rw [←h,←Z130.br];exact Z130.aj trivial) rfl⟩
 ·have hh:=h
  rw [wi _ (by omega)] at hh
  simp [Z41.md] at hh
  obtain ⟨i,rfl⟩:=Int.eq_ofNat_of_zero_le hh.1
  obtain ⟨n,hn,_⟩:=key a0.length i a0 [] hg (Nat.le_refl _) (by omega) (by simp only [List.length_nil];omega)
  exact ⟨n+1,bh true (by rw [←h,←Z130.br];exact Z130.aj trivial) hn⟩
theorem af:cw 563 aV:=L2 36 pid bY bZ live step start mix aD bq (.cons Z130.af (.cons Z188.af .nil)) Tryz.func563
theorem len (a0:List Int)(a1:Int):(md a0 a1).length≤a0.length:=by
 intros;unfold md Z90.md
 cases Z41.md _ 0 _
 ·exact Nat.zero_le _
 ·exact Nat.le_trans (Z90.sX _ _ _ _) (by simp)
theorem br (a0:List Int)(a1:Int):md a0 a1=Z90.md a0 a1:=by
 unfold md Z90.md
 first
 | (simp only [Z130.br,Z188.br];done)
 | (simp only [Z130.br,Z188.br];rfl)
 | rfl
end Z203
namespace Z204
def F (x0:List (List L))(x1:ByteArray):aG:=(call (Z200.R (x0,x1)) fun v1=>(cond (decide (v1<0)) (ret (((⟨0,[]⟩:bN),false):bN×Bool)) (call (Z185.R x0) fun v2=>(call (Z203.R (v2,v1)) fun v3=>ret (((⟨v1,v3⟩:bN),true):bN×Bool)))))
def md (a0:List ah)(a1:ByteArray):aK×Bool:=(cond (decide ((Z200.md a0 a1)<0)) ((⟨0,[]⟩:aK),false) ((⟨(Z200.md a0 a1),(Z203.md (Z185.md a0) (Z200.md a0 a1))⟩:aK),true))
def gd (a0:List ah)(a1:ByteArray):Prop:=(bK (2^21) (fun y:ah=>ah.Sm (2^21) y) a0)
def R:=RR (p2 gd) (u2 md)
theorem aj {a0 a1}(h:gd a0 a1):R ((a0.map ah.row),a1)=some ((aK.r (md a0 a1).1),(md a0 a1).2):=aM (a:=(a0,a1)) h
def aV:=CN [pL 61,pS] (.iT [(true,f128),(false,[fB])]) RT.dec R
theorem bq (a0)(a1)(hg:gd a0 a1):F (a0.map ah.row) a1=ret ((aK.r (md a0 a1).1),(md a0 a1).2):=by
 unfold gd at hg
 have H0:=hg
 unfold F md
 try simp only [SS]
 refine ct (Z200.aj H0) ?_
 have fv1_:=Z200.fa a0 a1
 refine av (fun b:aK×Bool=>ret (((aK.r b.1),b.2):bN×Bool)) (fun c1=>?_) (fun c1=>?_)
 ·all_goals exact fz
 ·have dc1:=c1
  try simp only [DC] at dc1
  refine ct (Z185.aj H0) ?_
  try simp only [SS]
  refine ct (Z203.aj ⟨(have:=Z185.len a0;have:=(H0).1;om),fun _ _=>trivial⟩) ?_
  try simp only [SS]
  all_goals exact fz
theorem af:cw 512 aV:=W2 19 F mix aD bq (.cons Z200.af (.cons Z185.af (.cons Z203.af .nil))) Tryz.func512
theorem gh {a0:List ah}{a1:ByteArray}(hg:gd a0 a1):aK.Sm (2^21) ((md a0 a1).1):=by
 unfold gd at hg;unfold md
 cases decide (Z200.md a0 a1<0)
 ·refine ⟨?_,fun _ _=>trivial⟩
  have h:=Z203.len (Z185.md a0) (Z200.md a0 a1)
  rw [Z185.len] at h
  exact Nat.le_trans h hg.1
 ·exact bK.nil
theorem br (a0:List ah)(a1:ByteArray):md a0 a1=Z91.md a0 a1:=by
 unfold md Z91.md
 first
 | (simp only [Z200.br,Z185.br,Z203.br];done)
 | (simp only [Z200.br,Z185.br,Z203.br];rfl)
 | rfl
end Z204
namespace Z205
inductive Pt where
 | p0 (a:ByteArray) (b:Int) (c:List (List L)) (d:Int) (e:Int)
def pid:Pt→Nat
 | .p0 ..=>3
def bY:Pt→List V
 | .p0 a b c d e=>[.str a,.int .i64 b,.sl none 61 c,.int .i64 d,.int .i64 e]
def bZ:Pt→List aU
 | .p0 a b c d e=>[]
def step (J:Pt→aG):Pt→aG
 | .p0 a b c d e=>(cond (decide (e<d)) (m2 e (c.length:Int) (call (Z179.R ((aS.at c (toNat e)).aW,a)) fun v1=>(cond (decide (v1<0)) (J (.p0 a (i64.wrap (b+1)) c d (i64.wrap (e+1)))) (J (.p0 a b c d (i64.wrap (e+1))))))) (ret (b:Int)))
def start (J:Pt→aG)(x0:List (List L))(x1:ByteArray):aG:=J (.p0 x1 0 x0 (x0.length:Int) 0)
def live:Nat→Live:=fun i=>match i with | 3=>[(1,none),(5,none),(8,none),(9,none),(10,none)] | _=>[]
def md (a0:List ah)(a1:ByteArray):Int:=(dW (S:=Int) (β:=Int) (fun (y1:ah) (s3:Int)=>(cond (decide ((Z179.md (y1.aW) a1)<0)) (.inl (i64.wrap (s3+1))) (.inl s3))) (fun (s3:Int)=>(s3:Int)) a0 0)
def gd (a0:List ah)(a1:ByteArray):Prop:=(bK (2^21) (fun y:ah=>ah.Sm (2^21) y) a0)
def R:=RR (p2 gd) (u2 md)
theorem aj {a0 a1}(h:gd a0 a1):R ((a0.map ah.row),a1)=some (md a0 a1):=aM (a:=(a0,a1)) h
def aV:=CN [pL 61,pS] oI RT.dec R
theorem bq (a0)(a1)(hg:gd a0 a1):∃n,start (iter step n) (a0.map ah.row) a1=ret (md a0 a1):=by
 unfold gd at hg
 have H0:=hg
 unfold start md
 try simp only [SS]
 have Bh2:a0.length≤maxLen:=(by
   have:=(H0).1
   try simp only [maxLen] at *
   omega)
 refine ex_eq (out:=ret) (eE (z:=ah.zero)) ?_
 refine dN (p:=Pt.p0 a1 0 (a0.map ah.row) (a0.length:Int) 0) fz ?_
 refine ck (pt:=fun (i1:Nat) (s3:Int)=>Pt.p0 a1 s3 (a0.map ah.row) (a0.length:Int) (i1:Int)) (s:=(0:Int)) (out:=ret) (fun _ _=>True) (fun J i1 s3 h2 hih2=>?_) (fun s3 hih2=>?_) trivial
 ·simp only [step,SS]
  have bb_:=Bh2
  simp only [maxLen] at bb_
  have:=(H0).1
  refine bt.yes (by apply decide_eq_true;omega) ?_
  refine bt.yes aH ?_
  refine bt.yes (aL h2) ?_
  refine cr (Z179.aj trivial) ?_
  refine bt.bif (fun c4=>?_) (fun c4=>?_)
  ·refine bt.inl trivial ?_
   rw [aE h2 Bh2]
   all_goals exact fz
  ·refine bt.inl trivial ?_
   rw [aE h2 Bh2]
   all_goals exact fz
 ·simp only [step,SS]
  have:=(H0).1
  refine dx (by apply decide_eq_false;omega) ?_
  refine ⟨0,?_⟩
  all_goals exact fz
theorem af:cw 566 aV:=L2 23 pid bY bZ live step start mix aD bq (.cons Z179.af .nil) Tryz.func566
theorem fa (a0:List ah)(a1:ByteArray):a0.length≤2^21→0≤md a0 a1∧md a0 a1≤(a0.length:Int):=fun hl=>by
 have key:∀(xs:List ah) (s:Int),0≤s→s+xs.length≤2^22→0≤dW (S:=Int) (β:=Int) (fun (y1:ah) (s3:Int)=>(cond (decide ((Z179.md (y1.aW) a1)<0)) (.inl (i64.wrap (s3+1))) (.inl s3))) (fun (s3:Int)=>(s3:Int)) xs s∧dW (S:=Int) (β:=Int) (fun (y1:ah) (s3:Int)=>(cond (decide ((Z179.md (y1.aW) a1)<0)) (.inl (i64.wrap (s3+1))) (.inl s3))) (fun (s3:Int)=>(s3:Int)) xs s≤s+xs.length:=by
  intro xs
  induction xs with
  | nil=>intro s h0 h1;exact ⟨h0,by simp [dW]⟩
  | cons x xs ih=>
   intro s h0 h1
   simp only [List.length_cons] at h1 ⊢
   unfold dW
   cases decide (Z179.md x.aW a1<0)
   ·have:=ih s h0 (by omega)
    simp only [bk]
    omega
   ·have:=ih (s+1) (by omega) (by omega)
    simp only [bf]
    rw [wi _ (by omega)]
    omega
 have:=key a0 0 (Int.le_refl _) (by omega)
 unfold md
 omega
theorem br (a0:List ah)(a1:ByteArray):md a0 a1=Z92.md a0 a1:=by
 unfold md Z92.md
 first
 | (simp only [Z179.br];done)
 | (simp only [Z179.br];rfl)
 | rfl
end Z205
namespace Z206
def F (x0:List (List L))(x1:ByteArray):aG:=(call (Z180.R x0) fun v1=>(cond (!v1) (ret (((⟨0,(⟨(⟨#[]⟩:ByteArray),0,0,[]⟩:aS),(⟨(⟨#[]⟩:ByteArray),0,0,[]⟩:aS),(⟨0,[]⟩:bN),(⟨0,[]⟩:bN)⟩:dL),false):dL×Bool)) (call (Z131.R x1) fun v2=>(cond (!v2) (ret (((⟨0,(⟨(⟨#[]⟩:ByteArray),0,0,[]⟩:aS),(⟨(⟨#[]⟩:ByteArray),0,0,[]⟩:aS),(⟨0,[]⟩:bN),(⟨0,[]⟩:bN)⟩:dL),false):dL×Bool)) (call (Z200.R (x0,x1)) fun v3=>(cond (decide (v3≥0)) (ret (((⟨0,(⟨(⟨#[]⟩:ByteArray),0,0,[]⟩:aS),(⟨(⟨#[]⟩:ByteArray),0,0,[]⟩:aS),(⟨0,[]⟩:bN),(⟨0,[]⟩:bN)⟩:dL),false):dL×Bool)) (call (Z205.R (x0,x1)) fun v4=>(cond (decide (v4>0)) (bX (decide ((0:Int)≤(i64.wrap (v4 - 1)))) (bX (decide ((i64.wrap (v4 - 1))<(x0.length:Int))) (call (Z202.R (aS.at x0 (toNat (i64.wrap (v4 - 1))))) fun v5=>(call (Z204.R (x0,v5.aW)) fun v6=>(cond (decide (v4<(x0.length:Int))) (m2 v4 (x0.length:Int) (call (Z202.R (aS.at x0 (toNat v4))) fun v7=>(call (Z204.R (x0,v7.aW)) fun v8=>ret (((⟨v4,v5,v7,v6.1,v8.1⟩:dL),true):dL×Bool)))) (ret (((⟨v4,v5,(⟨(⟨#[]⟩:ByteArray),0,0,[]⟩:aS),v6.1,(⟨0,[]⟩:bN)⟩:dL),true):dL×Bool))))))) (cond (decide (v4<(x0.length:Int))) (m2 v4 (x0.length:Int) (call (Z202.R (aS.at x0 (toNat v4))) fun v9=>(call (Z204.R (x0,v9.aW)) fun v10=>ret (((⟨v4,(⟨(⟨#[]⟩:ByteArray),0,0,[]⟩:aS),v9,(⟨0,[]⟩:bN),v10.1⟩:dL),true):dL×Bool)))) (ret (((⟨v4,(⟨(⟨#[]⟩:ByteArray),0,0,[]⟩:aS),(⟨(⟨#[]⟩:ByteArray),0,0,[]⟩:aS),(⟨0,[]⟩:bN),(⟨0,[]⟩:bN)⟩:dL),true):dL×Bool)))))))))))
def md (a0:List ah)(a1:ByteArray):bP×Bool:=(cond (!(Z180.md a0)) ((⟨0,(⟨((⟨#[]⟩:ByteArray):ByteArray),0,0,[]⟩:ah),(⟨((⟨#[]⟩:ByteArray):ByteArray),0,0,[]⟩:ah),(⟨0,[]⟩:aK),(⟨0,[]⟩:aK)⟩:bP),false) (cond (!(Z131.md a1)) ((⟨0,(⟨((⟨#[]⟩:ByteArray):ByteArray),0,0,[]⟩:ah),(⟨((⟨#[]⟩:ByteArray):ByteArray),0,0,[]⟩:ah),(⟨0,[]⟩:aK),(⟨0,[]⟩:aK)⟩:bP),false) (cond (decide ((Z200.md a0 a1)≥0)) ((⟨0,(⟨((⟨#[]⟩:ByteArray):ByteArray),0,0,[]⟩:ah),(⟨((⟨#[]⟩:ByteArray):ByteArray),0,0,[]⟩:ah),(⟨0,[]⟩:aK),(⟨0,[]⟩:aK)⟩:bP),false) (cond (decide ((Z205.md a0 a1)>0)) (cond (decide ((Z205.md a0 a1)<(a0.length:Int))) ((⟨(Z205.md a0 a1),(a0.getD (toNat (i64.wrap ((Z205.md a0 a1) - 1))) ah.zero),(a0.getD (toNat (Z205.md a0 a1)) ah.zero),(Z204.md a0 ((a0.getD (toNat (i64.wrap ((Z205.md a0 a1) - 1))) ah.zero).aW)).1,(Z204.md a0 ((a0.getD (toNat (Z205.md a0 a1)) ah.zero).aW)).1⟩:bP),true) ((⟨(Z205.md a0 a1),(a0.getD (toNat (i64.wrap ((Z205.md a0 a1) - 1))) ah.zero),(⟨((⟨#[]⟩:ByteArray):ByteArray),0,0,[]⟩:ah),(Z204.md a0 ((a0.getD (toNat (i64.wrap ((Z205.md a0 a1) - 1))) ah.zero).aW)).1,(⟨0,[]⟩:aK)⟩:bP),true)) (cond (decide ((Z205.md a0 a1)<(a0.length:Int))) ((⟨(Z205.md a0 a1),(⟨((⟨#[]⟩:ByteArray):ByteArray),0,0,[]⟩:ah),(a0.getD (toNat (Z205.md a0 a1)) ah.zero),(⟨0,[]⟩:aK),(Z204.md a0 ((a0.getD (toNat (Z205.md a0 a1)) ah.zero).aW)).1⟩:bP),true) ((⟨(Z205.md a0 a1),(⟨((⟨#[]⟩:ByteArray):ByteArray),0,0,[]⟩:ah),(⟨((⟨#[]⟩:ByteArray):ByteArray),0,0,[]⟩:ah),(⟨0,[]⟩:aK),(⟨0,[]⟩:aK)⟩:bP),true))))))
def gd (a0:List ah)(a1:ByteArray):Prop:=(bK (2^21) (fun y:ah=>ah.Sm (2^21) y) a0)∧(a1.size≤(2^21))
def R:=RR (p2 gd) (u2 md)
theorem aj {a0 a1}(h:gd a0 a1):R ((a0.map ah.row),a1)=some ((bP.r (md a0 a1).1),(md a0 a1).2):=aM (a:=(a0,a1)) h
def aV:=CN [pL 61,pS] (.iT [(true,f130),(false,[fB])]) RT.dec R
theorem bq (a0)(a1)(hg:gd a0 a1):F (a0.map ah.row) a1=ret ((bP.r (md a0 a1).1),(md a0 a1).2):=by
 obtain ⟨H0,H1⟩:=hg
 unfold F md
 try simp only [SS]
 refine ct (Z180.aj H0) ?_
 refine av (fun b:bP×Bool=>ret (((bP.r b.1),b.2):dL×Bool)) (fun c1=>?_) (fun c1=>?_)
 ·all_goals exact fz
 ·have dc1:=c1
  try simp only [DC] at dc1
  refine ct (Z131.aj (Nat.le_trans H1 (by decide))) ?_
  refine av (fun b:bP×Bool=>ret (((bP.r b.1),b.2):dL×Bool)) (fun c2=>?_) (fun c2=>?_)
  ·all_goals exact fz
  ·have dc2:=c2
   try simp only [DC] at dc2
   refine ct (Z200.aj H0) ?_
   have fv3_:=Z200.fa a0 a1
   refine av (fun b:bP×Bool=>ret (((bP.r b.1),b.2):dL×Bool)) (fun c3=>?_) (fun c3=>?_)
   ·all_goals exact fz
   ·have dc3:=c3
    try simp only [DC] at dc3
    refine ct (Z205.aj H0) ?_
    have fv4_:=Z205.fa a0 a1
    refine av (fun b:bP×Bool=>ret (((bP.r b.1),b.2):dL×Bool)) (fun c4=>?_) (fun c4=>?_)
    ·have dc4:=c4
     try simp only [DC] at dc4
     refine ak (have:=(H0).1;dt) ?_
     refine ak (have:=(H0).1;have:=(H0).1;dt) ?_
     refine ct (Z202.aj (bK.getD (z:=ah.zero) H0 (by have:=(H0).1;first | assumption | omega | (simp (disch:=omega) only [wi];omega) | (simp;omega)))) ?_
     try simp only [SS]
     refine ct (Z204.aj H0) ?_
     try simp only [SS]
     refine av (fun b:bP×Bool=>ret (((bP.r b.1),b.2):dL×Bool)) (fun c5=>?_) (fun c5=>?_)
     ·have dc5:=c5
      try simp only [DC] at dc5
      refine ak (have:=(H0).1;dt) ?_
      refine ak (have:=(H0).1;have:=(H0).1;dt) ?_
      refine ct (Z202.aj (bK.getD (z:=ah.zero) H0 (by have:=(H0).1;first | assumption | omega | (simp (disch:=omega) only [wi];omega) | (simp;omega)))) ?_
      try simp only [SS]
      refine ct (Z204.aj H0) ?_
      try simp only [SS]
      all_goals exact fz
     ·all_goals exact fz
    ·have dc4:=c4
     try simp only [DC] at dc4
     refine av (fun b:bP×Bool=>ret (((bP.r b.1),b.2):dL×Bool)) (fun c6=>?_) (fun c6=>?_)
     ·have dc6:=c6
      try simp only [DC] at dc6
      refine ak (have:=(H0).1;dt) ?_
      refine ak (have:=(H0).1;have:=(H0).1;dt) ?_
      refine ct (Z202.aj (bK.getD (z:=ah.zero) H0 (by have:=(H0).1;first | assumption | omega | (simp (disch:=omega) only [wi];omega) | (simp;omega)))) ?_
      try simp only [SS]
      refine ct (Z204.aj H0) ?_
      try simp only [SS]
      all_goals exact fz
     ·all_goals exact fz
theorem af:cw 513 aV:=W2 68 F mix aD bq (.cons Z180.af (.cons Z131.af (.cons Z200.af (.cons Z205.af (.cons Z202.af (.cons Z204.af .nil)))))) Tryz.func513
theorem gh {a0:List ah}{a1:ByteArray}(hg:gd a0 a1):bP.Sm (2^21) ((md a0 a1).1):=by
 unfold gd at hg;unfold md
 have ez:ah.Sm (2^21) ⟨⟨#[]⟩,0,0,[]⟩:=⟨Nat.zero_le _,bK.nil⟩
 have pz:aK.Sm (2^21) ⟨0,[]⟩:=bK.nil
 have he:∀i,ah.Sm (2^21) (a0.getD i ah.zero):=fun i=>bK.vO hg.1 ez
 have hp:∀x,aK.Sm (2^21) (Z204.md a0 x).1:=fun x=>Z204.gh hg.1
 simp only [Bool.cond_eq_ite]
 repeat' split
 all_goals (refine ⟨?_,?_,?_,?_⟩<;>first | exact he _ | exact hp _ | exact ez | exact pz)
theorem br (a0:List ah)(a1:ByteArray):md a0 a1=Z93.md a0 a1:=by
 unfold md Z93.md
 first
 | (simp only [Z180.br,Z131.br,Z200.br,Z205.br,Z204.br];done)
 | (simp only [Z180.br,Z131.br,Z200.br,Z205.br,Z204.br];rfl)
 | rfl
end Z206
namespace Z207
def F (x0:dH)(x1:ByteArray):aG:=(call (Z193.R x0) fun v1=>(cond (!v1) (ret ((⟨[],false,(⟨(⟨#[]⟩:ByteArray),0,0,[]⟩:aS),(⟨0,[]⟩:bN),(⟨0,(⟨(⟨#[]⟩:ByteArray),0,0,[]⟩:aS),(⟨(⟨#[]⟩:ByteArray),0,0,[]⟩:aS),(⟨0,[]⟩:bN),(⟨0,[]⟩:bN)⟩:dL)⟩:aX):aX)) (call (Z131.R x1) fun v2=>(cond (!v2) (ret ((⟨[],false,(⟨(⟨#[]⟩:ByteArray),0,0,[]⟩:aS),(⟨0,[]⟩:bN),(⟨0,(⟨(⟨#[]⟩:ByteArray),0,0,[]⟩:aS),(⟨(⟨#[]⟩:ByteArray),0,0,[]⟩:aS),(⟨0,[]⟩:bN),(⟨0,[]⟩:bN)⟩:dL)⟩:aX):aX)) (call (Z127.R x0.aQ) fun v3=>(call (Z200.R (x0.bH,x1)) fun v4=>(cond (decide (v4≥0)) (m2 v4 (x0.bH.length:Int) (call (Z202.R (aS.at x0.bH (toNat v4))) fun v5=>(call (Z204.R (x0.bH,x1)) fun v6=>ret ((⟨v3,true,v5,v6.1,(⟨0,(⟨(⟨#[]⟩:ByteArray),0,0,[]⟩:aS),(⟨(⟨#[]⟩:ByteArray),0,0,[]⟩:aS),(⟨0,[]⟩:bN),(⟨0,[]⟩:bN)⟩:dL)⟩:aX):aX)))) (call (Z206.R (x0.bH,x1)) fun v7=>ret ((⟨v3,false,(⟨(⟨#[]⟩:ByteArray),0,0,[]⟩:aS),(⟨0,[]⟩:bN),v7.1⟩:aX):aX)))))))))
def md (a0:aI)(a1:ByteArray):ay:=(cond (!(Z193.md a0)) (⟨[],false,(⟨((⟨#[]⟩:ByteArray):ByteArray),0,0,[]⟩:ah),(⟨0,[]⟩:aK),(⟨0,(⟨((⟨#[]⟩:ByteArray):ByteArray),0,0,[]⟩:ah),(⟨((⟨#[]⟩:ByteArray):ByteArray),0,0,[]⟩:ah),(⟨0,[]⟩:aK),(⟨0,[]⟩:aK)⟩:bP)⟩:ay) (cond (!(Z131.md a1)) (⟨[],false,(⟨((⟨#[]⟩:ByteArray):ByteArray),0,0,[]⟩:ah),(⟨0,[]⟩:aK),(⟨0,(⟨((⟨#[]⟩:ByteArray):ByteArray),0,0,[]⟩:ah),(⟨((⟨#[]⟩:ByteArray):ByteArray),0,0,[]⟩:ah),(⟨0,[]⟩:aK),(⟨0,[]⟩:aK)⟩:bP)⟩:ay) (cond (decide ((Z200.md a0.bH a1)≥0)) (⟨a0.aQ,true,(a0.bH.getD (toNat (Z200.md a0.bH a1)) ah.zero),(Z204.md a0.bH a1).1,(⟨0,(⟨((⟨#[]⟩:ByteArray):ByteArray),0,0,[]⟩:ah),(⟨((⟨#[]⟩:ByteArray):ByteArray),0,0,[]⟩:ah),(⟨0,[]⟩:aK),(⟨0,[]⟩:aK)⟩:bP)⟩:ay) (⟨a0.aQ,false,(⟨((⟨#[]⟩:ByteArray):ByteArray),0,0,[]⟩:ah),(⟨0,[]⟩:aK),(Z206.md a0.bH a1).1⟩:ay))))
def gd (a0:aI)(a1:ByteArray):Prop:=(aI.Sm (2^21) a0)∧(a1.size≤(2^21))
def R:=RR (p2 gd) (u2 md)
theorem aj {a0 a1}(h:gd a0 a1):R ((aI.r a0),a1)=some (ay.r (md a0 a1)):=aM (a:=(a0,a1)) h
def aV:=CN [.agg sH,pS] (.agg f132) RT.dec R
theorem bq (a0)(a1)(hg:gd a0 a1):F (aI.r a0) a1=ret (ay.r (md a0 a1)):=by
 obtain ⟨H0,H1⟩:=hg
 unfold F md
 try simp only [SS]
 refine ct (Z193.aj H0) ?_
 refine av (fun b:ay=>ret ((ay.r b):aX)) (fun c1=>?_) (fun c1=>?_)
 ·all_goals exact fz
 ·have dc1:=c1
  try simp only [DC] at dc1
  try have tc1:=Z193.tr (by simpa using c1)
  refine ct (Z131.aj (Nat.le_trans H1 (by decide))) ?_
  refine av (fun b:ay=>ret ((ay.r b):aX)) (fun c2=>?_) (fun c2=>?_)
  ·all_goals exact fz
  ·have dc2:=c2
   try simp only [DC] at dc2
   refine ct (Z127.aj H0.1) ?_
   try simp only [SS]
   refine ct (Z200.aj H0.2) ?_
   have fv4_:=Z200.fa a0.bH a1
   refine av (fun b:ay=>ret ((ay.r b):aX)) (fun c3=>?_) (fun c3=>?_)
   ·have dc3:=c3
    try simp only [DC] at dc3
    refine ak dt ?_
    refine ak (have:=(H0.2).1;dt) ?_
    refine ct (Z202.aj (bK.getD (z:=ah.zero) H0.2 (by first | assumption | omega | (simp (disch:=omega) only [wi];omega) | (simp;omega)))) ?_
    try simp only [SS]
    refine ct (Z204.aj H0.2) ?_
    try simp only [SS]
    all_goals exact fz
   ·refine ct (Z206.aj ⟨H0.2,H1⟩) ?_
    try simp only [SS]
    all_goals exact fz
theorem af:cw 437 aV:=W2 51 F mix aD bq (.cons Z193.af (.cons Z131.af (.cons Z127.af (.cons Z200.af (.cons Z202.af (.cons Z204.af (.cons Z206.af .nil))))))) Tryz.func437
theorem gh {a0:aI}{a1:ByteArray}(hg:gd a0 a1):ay.Sm (2^21) (md a0 a1):=by
 unfold gd at hg;unfold md
 obtain ⟨⟨hc,hl⟩,_⟩:=hg
 have ez:ah.Sm (2^21) ⟨⟨#[]⟩,0,0,[]⟩:=⟨Nat.zero_le _,bK.nil⟩
 have pz:aK.Sm (2^21) ⟨0,[]⟩:=bK.nil
 have gz:bP.Sm (2^21) ⟨0,⟨⟨#[]⟩,0,0,[]⟩,⟨⟨#[]⟩,0,0,[]⟩,⟨0,[]⟩,⟨0,[]⟩⟩:=⟨ez,ez,pz,pz⟩
 have he:∀i,ah.Sm (2^21) (a0.bH.getD i ah.zero):=fun i=>bK.vO hl ez
 have hp:∀x,aK.Sm (2^21) (Z204.md a0.bH x).1:=fun x=>Z204.gh hl
 have hga:bP.Sm (2^21) (Z206.md a0.bH a1).1:=Z206.gh ⟨hl,by assumption⟩
 simp only [Bool.cond_eq_ite]
 repeat' split
 all_goals (refine ⟨?_,?_,?_,?_⟩<;>first | exact hc | exact bK.nil | exact he _ | exact hp _ | exact hga | exact ez | exact pz | exact gz)
theorem br (a0:aI)(a1:ByteArray):md a0 a1=Z94.md a0 a1:=by
 unfold md Z94.md
 first
 | (simp only [Z193.br,Z131.br,Z200.br,Z204.br,Z206.br];done)
 | (simp only [Z193.br,Z131.br,Z200.br,Z204.br,Z206.br];rfl)
 | rfl
end Z207
namespace Z208
def F (x0:cI)(x1:Int)(x2:ByteArray):aG:=(call (Z197.R (x0,x1)) fun v1=>(cond (decide (v1<0)) (ret ((⟨[],false,(⟨(⟨#[]⟩:ByteArray),0,0,[]⟩:aS),(⟨0,[]⟩:bN),(⟨0,(⟨(⟨#[]⟩:ByteArray),0,0,[]⟩:aS),(⟨(⟨#[]⟩:ByteArray),0,0,[]⟩:aS),(⟨0,[]⟩:bN),(⟨0,[]⟩:bN)⟩:dL)⟩:aX):aX)) (cond (x0.gP==4) (ret ((⟨[],false,(⟨(⟨#[]⟩:ByteArray),0,0,[]⟩:aS),(⟨0,[]⟩:bN),(⟨0,(⟨(⟨#[]⟩:ByteArray),0,0,[]⟩:aS),(⟨(⟨#[]⟩:ByteArray),0,0,[]⟩:aS),(⟨0,[]⟩:bN),(⟨0,[]⟩:bN)⟩:dL)⟩:aX):aX)) (m2 v1 (x0.bE.length:Int) (call (Z207.R ((dH.at x0.bE (toNat v1)),x2)) fun v2=>(cond (x0.gP==1) (ret ((⟨v2.aQ,v2.cj,(⟨v2.aN.aW,v2.aN.bD,(i64.wrap (v2.aN.bS+1)),v2.aN.bC⟩:aS),v2.eo,v2.eT⟩:aX):aX)) (cond (x0.gP==2) (bX (decide ((0:Int)≤(cond (decide ((0:Int)<(i64.wrap ((v2.aQ.length:Int) - 1)))) (i64.wrap ((v2.aQ.length:Int) - 1)) 0))) (bX (decide ((cond (decide ((0:Int)<(i64.wrap ((v2.aQ.length:Int) - 1)))) (i64.wrap ((v2.aQ.length:Int) - 1)) 0)≤(v2.aQ.length:Int))) (ret ((⟨(List.take (toNat (cond (decide ((0:Int)<(i64.wrap ((v2.aQ.length:Int) - 1)))) (i64.wrap ((v2.aQ.length:Int) - 1)) 0)) v2.aQ),v2.cj,v2.aN,v2.eo,v2.eT⟩:aX):aX)))) (cond (x0.gP==3) (ret ((⟨v2.aQ,false,(⟨(⟨#[]⟩:ByteArray),0,0,[]⟩:aS),(⟨0,[]⟩:bN),(⟨0,(⟨(⟨#[]⟩:ByteArray),0,0,[]⟩:aS),(⟨(⟨#[]⟩:ByteArray),0,0,[]⟩:aS),(⟨0,[]⟩:bN),(⟨0,[]⟩:bN)⟩:dL)⟩:aX):aX)) (ret (v2:aX))))))))))
def pats:List gq:=[.agg [.sl 293,.int .i64],.rd (.int .i64),.rd (.str)]
def res:RP:=.agg [.fr 123,.rd (.bool),.rd (.str),.rd (.int .i64),.rd (.int .i64),.fr 9,.rd (.int .i64),.fr 3,.rd (.int .i64),.rd (.str),.rd (.int .i64),.rd (.int .i64),.fr 9,.rd (.str),.rd (.int .i64),.rd (.int .i64),.fr 9,.rd (.int .i64),.fr 3,.rd (.int .i64),.fr 3]
def md (a0:az)(a1:Int)(a2:ByteArray):ay:=(cond (decide ((Z197.md a0 a1)<0)) (⟨[],false,(⟨((⟨#[]⟩:ByteArray):ByteArray),0,0,[]⟩:ah),(⟨0,[]⟩:aK),(⟨0,(⟨((⟨#[]⟩:ByteArray):ByteArray),0,0,[]⟩:ah),(⟨((⟨#[]⟩:ByteArray):ByteArray),0,0,[]⟩:ah),(⟨0,[]⟩:aK),(⟨0,[]⟩:aK)⟩:bP)⟩:ay) (cond (a0.gP==4) (⟨[],false,(⟨((⟨#[]⟩:ByteArray):ByteArray),0,0,[]⟩:ah),(⟨0,[]⟩:aK),(⟨0,(⟨((⟨#[]⟩:ByteArray):ByteArray),0,0,[]⟩:ah),(⟨((⟨#[]⟩:ByteArray):ByteArray),0,0,[]⟩:ah),(⟨0,[]⟩:aK),(⟨0,[]⟩:aK)⟩:bP)⟩:ay) (cond (a0.gP==1) (⟨(Z207.md (a0.bE.getD (toNat (Z197.md a0 a1)) aI.zero) a2).aQ,(Z207.md (a0.bE.getD (toNat (Z197.md a0 a1)) aI.zero) a2).cj,(⟨(Z207.md (a0.bE.getD (toNat (Z197.md a0 a1)) aI.zero) a2).aN.aW,(Z207.md (a0.bE.getD (toNat (Z197.md a0 a1)) aI.zero) a2).aN.bD,(i64.wrap ((Z207.md (a0.bE.getD (toNat (Z197.md a0 a1)) aI.zero) a2).aN.bS+1)),(Z207.md (a0.bE.getD (toNat (Z197.md a0 a1)) aI.zero) a2).aN.bC⟩:ah),(Z207.md (a0.bE.getD (toNat (Z197.md a0 a1)) aI.zero) a2).eo,(Z207.md (a0.bE.getD (toNat (Z197.md a0 a1)) aI.zero) a2).eT⟩:ay) (cond (a0.gP==2) (⟨(List.take (toNat (cond (decide ((0:Int)<(i64.wrap (((Z207.md (a0.bE.getD (toNat (Z197.md a0 a1)) aI.zero) a2).aQ.length:Int) - 1)))) (i64.wrap (((Z207.md (a0.bE.getD (toNat (Z197.md a0 a1)) aI.zero) a2).aQ.length:Int) - 1)) 0)) (Z207.md (a0.bE.getD (toNat (Z197.md a0 a1)) aI.zero) a2).aQ),(Z207.md (a0.bE.getD (toNat (Z197.md a0 a1)) aI.zero) a2).cj,(Z207.md (a0.bE.getD (toNat (Z197.md a0 a1)) aI.zero) a2).aN,(Z207.md (a0.bE.getD (toNat (Z197.md a0 a1)) aI.zero) a2).eo,(Z207.md (a0.bE.getD (toNat (Z197.md a0 a1)) aI.zero) a2).eT⟩:ay) (cond (a0.gP==3) (⟨(Z207.md (a0.bE.getD (toNat (Z197.md a0 a1)) aI.zero) a2).aQ,false,(⟨((⟨#[]⟩:ByteArray):ByteArray),0,0,[]⟩:ah),(⟨0,[]⟩:aK),(⟨0,(⟨((⟨#[]⟩:ByteArray):ByteArray),0,0,[]⟩:ah),(⟨((⟨#[]⟩:ByteArray):ByteArray),0,0,[]⟩:ah),(⟨0,[]⟩:aK),(⟨0,[]⟩:aK)⟩:bP)⟩:ay) (Z207.md (a0.bE.getD (toNat (Z197.md a0 a1)) aI.zero) a2))))))
def gd (a0:az)(a1:Int)(a2:ByteArray):Prop:=(az.Sm (2^21) a0)∧(a2.size≤(2^21))
def acc (ls:List L):cI×Int×ByteArray:=((cI.dec ls),((aA 2 ls).headD .hole).toInt,((aA 3 ls).headD .hole).toStr)
def R:(cI×Int×ByteArray)→Option aX:=RR (p3 gd) (u3 md)
theorem aj {a0 a1 a2}(h:gd a0 a1 a2):R ((az.r a0),a1,a2)=some (ay.r (md a0 a1 a2)):=aM (a:=(a0,a1,a2)) h
def aV:fW:=CN pats res acc R
theorem bq (a0:az)(a1:Int)(a2:ByteArray)(hg:gd a0 a1 a2):F (az.r a0) a1 a2=ret ((ay.r (md a0 a1 a2)):aX):=by
 obtain ⟨H0,H2⟩:=hg
 unfold F md
 try simp only [SS]
 refine ct (Z197.aj H0) ?_
 have fv1_:=Z197.fa a0 a1
 refine av (fun b:ay=>ret ((ay.r b):aX)) (fun c1=>?_) (fun c1=>?_)
 ·all_goals exact fz
 ·have dc1:=c1
  try simp only [DC] at dc1
  refine av (fun b:ay=>ret ((ay.r b):aX)) (fun c2=>?_) (fun c2=>?_)
  ·all_goals exact fz
  ·have dc2:=c2
   try simp only [DC] at dc2
   refine ak (have:=(H0).1;dt) ?_
   refine ak (have:=(H0).1;have:=(H0).1;dt) ?_
   refine ct (Z207.aj ⟨(bK.getD (z:=aI.zero) H0 (by have:=(H0).1;first | assumption | omega | (simp (disch:=omega) only [wi];omega) | (simp;omega))),H2⟩) ?_
   try simp only [SS]
   refine av (fun b:ay=>ret ((ay.r b):aX)) (fun c3=>?_) (fun c3=>?_)
   ·all_goals exact fz
   ·have dc3:=c3
    try simp only [DC] at dc3
    refine av (fun b:ay=>ret ((ay.r b):aX)) (fun c4=>?_) (fun c4=>?_)
    ·have dc4:=c4
     try simp only [DC] at dc4
     refine ak (have:=((Z207.gh (a0:=a0.bE.getD (toNat (Z197.md a0 a1)) aI.zero) (a1:=a2) ⟨(bK.getD (z:=aI.zero) H0 (by have:=(H0).1;first | assumption | omega | (simp (disch:=omega) only [wi];omega) | (simp;omega))),H2⟩).1).1;have:=(H0).1;dt) ?_
     refine ak (have:=((Z207.gh (a0:=a0.bE.getD (toNat (Z197.md a0 a1)) aI.zero) (a1:=a2) ⟨(bK.getD (z:=aI.zero) H0 (by have:=(H0).1;first | assumption | omega | (simp (disch:=omega) only [wi];omega) | (simp;omega))),H2⟩).1).1;have:=(H0).1;dt) ?_
     all_goals exact fz
    ·refine av (fun b:ay=>ret ((ay.r b):aX)) (fun c5=>?_) (fun c5=>?_)
     ·all_goals exact fz
     ·all_goals exact fz
theorem af:cw 346 aV:=VT (live:=fun _=>[]) (nt:=54) (run:=fun _ x=>F x.1 x.2.1 x.2.2) mix aD (.cons Z197.af (.cons Z207.af .nil)) .nil Tryz.func346 (by kernel_rfl) (fun _ _=>by kernel_rfl) (fun _ a _ _ hg=>⟨0,bq a.1 a.2.1 a.2.2 hg⟩)
theorem br (a0:az)(a1:Int)(a2:ByteArray):md a0 a1 a2=Z95.md a0 a1 a2:=by
 unfold md Z95.md
 simp only [Z197.br,Z207.br]
 generalize Z94.md (a0.bE.getD (toNat (Z87.md a0 a1)) aI.zero) a2=A
 have mx:∀n:Int,toNat (cond (decide ((0:Int)<n)) n 0)=toNat n:=by
  intro n
  by_cases h:(0:Int)<n
  ·rw [decide_eq_true h];rfl
  ·rw [decide_eq_false h];simp only [bk];omega
 have e:∀k:Nat,(⟨List.take k A.aQ,A.cj,A.aN,A.eo,A.eT⟩:ay)=bif decide ((A.aQ.length:Int)>0) then (⟨List.take k A.aQ,A.cj,A.aN,A.eo,A.eT⟩:ay) else A:=by
  intro k
  obtain ⟨ch,f,e,p,g⟩:=A
  cases ch with
  | nil=>simp
  | cons x xs=>simp only [List.length_cons];rw [decide_eq_true (by omega)];rfl
 simp only [mx,←e]
end Z208
namespace Z209
inductive Pt where
 | p0 (a:Int) (b:ByteArray) (c:List (List L)) (d:Int) (e:Int) (f:List (List L))
def pid:Pt→Nat
 | .p0 ..=>3
def bY:Pt→List V
 | .p0 a b c d e f=>[.int .i64 a,.str b,.own 0,.sl none 227 c,.int .i64 d,.int .i64 e]
def bZ:Pt→List aU
 | .p0 a b c d e f=>[.row 132 f]
def step (J:Pt→aG):Pt→aG
 | .p0 a b c d e f=>(cond (decide (e<d)) (m2 e (c.length:Int) (call (Z208.R ((cI.at c (toNat e)),a,b)) fun v1=>(bX (eU (((f.length:Int)+1)*304)) (J (.p0 a b c d (i64.wrap (e+1)) (f++[(aX.enc v1)])))))) (ret (f:List (List L))))
def start (J:Pt→aG)(x0:List (List L))(x1:Int)(x2:ByteArray):aG:=(bX (decide ((0:Int)≤(cond (decide ((x0.length:Int)<4)) (x0.length:Int) 4))) (bX (decide ((cond (decide ((x0.length:Int)<4)) (x0.length:Int) 4)≤(x0.length:Int))) (J (.p0 x1 x2 (List.take (toNat ((cond (decide ((x0.length:Int)<4)) (x0.length:Int) 4) - 0)) (List.drop 0 x0)) ((List.take (toNat ((cond (decide ((x0.length:Int)<4)) (x0.length:Int) 4) - 0)) (List.drop 0 x0)).length:Int) 0 []))))
def live:Nat→Live:=fun i=>match i with | 3=>[(1,none),(2,none),(7,some 132),(15,none),(16,none),(17,none)] | _=>[]
def md (a0:List az)(a1:Int)(a2:ByteArray):List ay:=((List.take (toNat ((cond (decide ((a0.length:Int)<4)) (a0.length:Int) 4) - 0)) (List.drop 0 a0)).map (fun (y1:az)=>(Z208.md y1 a1 a2)))
def gd (a0:List az)(a1:Int)(a2:ByteArray):Prop:=(bK (2^21) (fun y:az=>az.Sm (2^21) y) a0)∧(a2.size≤(2^21))
def R:=RR (p3 gd) (u3 md)
theorem aj {a0 a1 a2}(h:gd a0 a1 a2):R ((a0.map az.row),a1,a2)=some ((md a0 a1 a2).map ay.row):=aM (a:=(a0,a1,a2)) h
def aV:=CN [pL 227,pI,pS] (oL 132) RT.dec R
theorem bq (a0)(a1)(a2)(hg:gd a0 a1 a2):∃n,start (iter step n) (a0.map az.row) a1 a2=ret ((md a0 a1 a2).map ay.row):=by
 obtain ⟨H0,H2⟩:=hg
 unfold start md
 try simp only [SS]
 refine dI (have:=(H0).1;dt) ?_
 refine dI (have:=(H0).1;dt) ?_
 have Bh2:(List.take (toNat ((cond (decide ((a0.length:Int)<4)) (a0.length:Int) 4) - 0)) (List.drop 0 a0)).length≤maxLen:=(by
   have:=(H0).1
   have:=((bK.take (k:=(toNat ((cond (decide ((a0.length:Int)<4)) (a0.length:Int) 4) - 0))) (bK.drop (k:=0) H0))).1
   try simp only [maxLen] at *
   omega)
 refine ex_eq (out:=(fun b:List ay=>ret ((b.map ay.row):List (List L)))) (mL (g:=fun (y1:az)=>(Z208.md y1 a1 a2)) (z:=az.zero) (t:=fun (s3:List ay)=>s3)) ?_
 refine dN (p:=Pt.p0 a1 a2 ((List.take (toNat ((cond (decide ((a0.length:Int)<4)) (a0.length:Int) 4) - 0)) (List.drop 0 a0)).map az.row) ((List.take (toNat ((cond (decide ((a0.length:Int)<4)) (a0.length:Int) 4) - 0)) (List.drop 0 a0)).length:Int) 0 ([].map ay.row)) fz ?_
 refine ck (pt:=fun (i1:Nat) (s3:List ay)=>Pt.p0 a1 a2 ((List.take (toNat ((cond (decide ((a0.length:Int)<4)) (a0.length:Int) 4) - 0)) (List.drop 0 a0)).map az.row) ((List.take (toNat ((cond (decide ((a0.length:Int)<4)) (a0.length:Int) 4) - 0)) (List.drop 0 a0)).length:Int) (i1:Int) (s3.map ay.row)) (s:=([]:List ay)) (out:=(fun b:List ay=>ret ((b.map ay.row):List (List L)))) (fun (i1:Nat) (s3:List ay)=>s3.length≤([]:List Int).length+1*i1) (fun J i1 s3 h2 hih2=>?_) (fun s3 hih2=>?_) (by simp)
 ·simp only [step,SS]
  have gr_:=hih2
  try simp only [LN] at gr_
  have bb_:=Bh2
  simp only [maxLen] at bb_
  have:=(H0).1
  have:=((bK.take (k:=(toNat ((cond (decide ((a0.length:Int)<4)) (a0.length:Int) 4) - 0))) (bK.drop (k:=0) H0))).1
  refine bt.yes (by apply decide_eq_true;omega) ?_
  refine bt.yes aH ?_
  refine bt.yes (aL h2) ?_
  refine cr (Z208.aj ⟨(bK.getD (z:=az.zero) (bK.take (k:=(toNat ((cond (decide ((a0.length:Int)<4)) (a0.length:Int) 4) - 0))) (bK.drop (k:=0) H0)) h2),H2⟩) ?_
  try simp only [SS]
  refine bt.yes lm ?_
  refine bt.inl (by
    have g_:=hih2
    try simp only [LN] at g_ ⊢
    first | omega | (simp;done) | (simp;omega)) ?_
  rw [aE h2 Bh2]
  all_goals exact fz
 ·simp only [step,SS]
  have gr_:=hih2
  try simp only [LN] at gr_
  have:=(H0).1
  have:=((bK.take (k:=(toNat ((cond (decide ((a0.length:Int)<4)) (a0.length:Int) 4) - 0))) (bK.drop (k:=0) H0))).1
  refine dx (by apply decide_eq_false;omega) ?_
  refine ⟨0,?_⟩
  all_goals exact fz
theorem af:cw 216 aV:=L3 30 pid bY bZ live step start mix aD bq (.cons Z208.af .nil) Tryz.func216
theorem br (a0:List az)(a1:Int)(a2:ByteArray):md a0 a1 a2=Z96.md a0 a1 a2:=by
 rw [Z96.qa]
 unfold md
 simp only [Z208.br,Int.sub_zero,List.drop_zero]
 congr 1
 by_cases h:(a0.length:Int)<4
 ·rw [decide_eq_true h,bf,List.take_of_length_le (by omega),List.take_of_length_le (by omega)]
 ·rw [decide_eq_false h];rfl
theorem gh {a0:List az}{a1:Int}{a2:ByteArray}(hg:gd a0 a1 a2):bK (2^21) (fun y:ay=>ay.Sm (2^21) y) (md a0 a1 a2):=by
 rw [br]
 exact Z96.gh hg
end Z209
namespace Z210
def F (x0:List (List L)):aG:=(call (Z174.R x0) fun v1=>(cond (!v1) (ret (((⟨0,0,0,0,0,0,0,0,(⟨[],0⟩:bu),(⟨[],0⟩:bu),0,(⟨[],0⟩:bu),false⟩:bU),false):bU×Bool)) (call (Z175.R x0) fun v2=>(call (Z124.R v2) fun v3=>ret ((v3,true):bU×Bool)))))
def md (a0:List aa):aC×Bool:=(cond (!(Z174.md a0)) ((⟨0,0,0,0,0,0,0,0,(⟨[],0⟩:aJ),(⟨[],0⟩:aJ),0,(⟨[],0⟩:aJ),false⟩:aC),false) ((Z175.md a0),true))
def gd (a0:List aa):Prop:=(bK (2^21) (fun y:aa=>aa.Sm (2^21) y) a0)
def R:=RR gd md
theorem aj {a0}(h:gd a0):R (a0.map aa.row)=some ((aC.r (md a0).1),(md a0).2):=aM (a:=a0) h
def aV:=CN [pL 123] (.iT [(true,f102),(false,[fB])]) RT.dec R
theorem bq (a0)(hg:gd a0):F (a0.map aa.row)=ret ((aC.r (md a0).1),(md a0).2):=by
 unfold gd at hg
 have H0:=hg
 unfold F md
 try simp only [SS]
 refine ct (Z174.aj H0) ?_
 refine av (fun b:aC×Bool=>ret (((aC.r b.1),b.2):bU×Bool)) (fun c1=>?_) (fun c1=>?_)
 ·all_goals exact fz
 ·have dc1:=c1
  try simp only [DC] at dc1
  try have tc1:=Z174.tr (by simpa using c1)
  refine ct (Z175.aj ⟨H0,(by
    have:=(H0).1
    first | assumption | exact om)⟩) ?_
  try simp only [SS]
  refine ct (Z124.aj (Z175.gh (a0:=a0) ⟨H0,(by
    have:=(H0).1
    first | assumption | exact om)⟩)) ?_
  try simp only [SS]
  all_goals exact fz
theorem af:cw 226 aV:=W1 11 F mix aD bq (.cons Z174.af (.cons Z175.af (.cons Z124.af .nil))) Tryz.func226
theorem br (a0:List aa):md a0=Z70.md a0:=by
 unfold md Z70.md
 first
 | (simp only [Z174.br];done)
 | (simp only [Z174.br];rfl)
 | rfl
end Z210
namespace Z211
def F (x0:bU)(x1:Int):aG:=(call (Z130.R (x1,x0.cB,x0.cq)) fun v1=>ret (v1:Bool))
def md (a0:aC)(a1:Int):Bool:=((Z130.md a1 a0.cB a0.cq):Bool)
def gd (a0:aC)(a1:Int):Prop:=True
def R:=RR (p2 gd) (u2 md)
theorem aj {a0 a1}(h:gd a0 a1):R ((aC.r a0),a1)=some (md a0 a1):=aM (a:=(a0,a1)) h
def aV:=CN [.agg fX,pI] oB RT.dec R
theorem bq (a0)(a1)(hg:gd a0 a1):F (aC.r a0) a1=ret (md a0 a1):=by
 unfold F md
 try simp only [SS]
 refine ct (Z130.aj trivial) ?_
 all_goals exact fz
theorem af:cw 383 aV:=W2 11 F mix aD bq (.cons Z130.af .nil) Tryz.func383
theorem br (a0:aC)(a1:Int):md a0 a1=Z103.md a0 a1:=by
 unfold md Z103.md
 first
 | (simp only [Z130.br];done)
 | (simp only [Z130.br];rfl)
 | rfl
end Z211
namespace Z212
inductive Pt where
 | p0 (a:Int) (b:Int) (c:Int) (d:List (List L))
def pid:Pt→Nat
 | .p0 ..=>3
def bY:Pt→List V
 | .p0 a b c d=>[.int .i64 a,.int .i64 b,.int .i64 c,.sl none 3 d]
def bZ:Pt→List aU
 | .p0 a b c d=>[]
def step (J:Pt→aG):Pt→aG
 | .p0 a b c d=>(cond (decide (c>1)) (cond (decide ((mW .i64 b 1)≥c)) (J (.p0 a (i64.wrap (Int.tdiv b 2)) (i64.wrap (Int.tdiv (i64.wrap (c+1)) 2)) d)) (cond ((d.length:Int)==0) (ret ((0,false):Int×Bool)) (cond ((Int.tmod b 2)==0) (bX (decide ((0:Int)<(d.length:Int))) (call (Z187.R (a,(jv d 0))) fun v1=>(bX (decide ((1:Int)≤(d.length:Int))) (bX (decide ((d.length:Int)≤(d.length:Int))) (J (.p0 v1 (i64.wrap (Int.tdiv b 2)) (i64.wrap (Int.tdiv (i64.wrap (c+1)) 2)) (List.take (toNat ((d.length:Int) - 1)) (List.drop 1 d)))))))) (bX (decide ((0:Int)<(d.length:Int))) (call (Z187.R ((jv d 0),a)) fun v2=>(bX (decide ((1:Int)≤(d.length:Int))) (bX (decide ((d.length:Int)≤(d.length:Int))) (J (.p0 v2 (i64.wrap (Int.tdiv b 2)) (i64.wrap (Int.tdiv (i64.wrap (c+1)) 2)) (List.take (toNat ((d.length:Int) - 1)) (List.drop 1 d))))))))))) (cond (decide ((d.length:Int)>0)) (ret ((0,false):Int×Bool)) (ret ((a,true):Int×Bool))))
def start (J:Pt→aG)(x0:Int)(x1:Int)(x2:Int)(x3:List (List L)):aG:=(cond (decide (x2<1)) (ret ((0,false):Int×Bool)) (cond (decide (x2>12)) (ret ((0,false):Int×Bool)) (call (Z130.R (x1,0,(i64.wrap (x2 - 1)))) fun v1=>(cond (!v1) (ret ((0,false):Int×Bool)) (J (.p0 x0 x1 x2 x3))))))
def live:Nat→Live:=fun i=>match i with | 3=>[(0,none),(1,none),(2,none),(3,none)] | _=>[]
def md (a0:Int)(a1:Int)(a2:Int)(a3:List Int):Int×Bool:=Z104.md a0 a1 a2 a3
def gd (a0:Int)(a1:Int)(a2:Int)(a3:List Int):Prop:=bK (2^38) (fun y:Int=>True) a3
def R:=RR (p4 gd) (u4 md)
theorem aj {a0 a1 a2 a3}(h:gd a0 a1 a2 a3):R (a0,a1,a2,(a3.map aZ))=some ((md a0 a1 a2 a3).1,(md a0 a1 a2 a3).2):=aM (a:=(a0,a1,a2,a3)) h
def aV:=CN [pI,pI,pI,pL 3] (.iT [(false,[fI]),(false,[fB])]) RT.dec R
theorem bq (a0)(a1)(a2)(a3)(hg:gd a0 a1 a2 a3):∃n,start (iter step n) a0 a1 a2 (a3.map aZ)=ret ((md a0 a1 a2 a3).1,(md a0 a1 a2 a3).2):=by
 have tm:∀b:Int,0≤b→b≤11→Int.tmod b 2=b % 2:=fun b h1 h2=>Int.tmod_eq_emod_of_nonneg h1
 have td:∀b:Int,0≤b→b≤13→i64.wrap (Int.tdiv b 2)=b / 2:=fun b h1 h2=>by
  rw [Int.tdiv_eq_ediv_of_nonneg h1,Go.IntWalk.i64_in _ (by omega)]
 have t1:∀b:Int,0≤b→b≤13→i64.wrap (b+1)=b+1:=fun b h1 h2=>Go.IntWalk.i64_in _ (by omega)
 have xr:∀b:Int,0≤b→b≤11→mW .i64 b 1=if b % 2=0 then b+1 else b - 1:=by
  intro b h1 h2
  have :b=0∨b=1∨b=2∨b=3∨b=4∨b=5∨b=6∨b=7∨b=8∨b=9∨b=10∨b=11:=by omega
  rcases this with h | h | h | h | h | h | h | h | h | h | h | h<;>subst h<;>decide
 have key:∀(k:Nat) (leaf i n:Int) (p:List Int),p.length≤2^38→0≤i→i<n→n≤12→n≤2^k→∃m,iter step m (Pt.p0 leaf i n (p.map aZ))=ret ((Z104.tf (k+1) leaf i n p).1,(Z104.tf (k+1) leaf i n p).2):=by
  have fin:∀(leaf:Int) (p:List Int) (J:Pt→aG),step J (Pt.p0 leaf 0 1 (p.map aZ))=ret ((if p.isEmpty then (leaf,true) else (0,false)).1,(if p.isEmpty then (leaf,true) else (0,false)).2):=by
   intro leaf p J
   simp only [step,List.length_map]
   refine cN (by decide) ?_
   cases p with
   | nil=>rfl
   | cons x xs=>exact ak (decide_eq_true (by simp only [List.length_cons];omega)) rfl
  intro k
  induction k with
  | zero=>
   intro leaf i n p hp h1 h2 h3 h4
   have hn:n=1:=by omega
   subst hn
   have hi:i=0:=by omega
   subst hi
   exact ⟨1,(fin leaf p _).trans rfl⟩
  | succ k ih=>
   intro leaf i n p hp h1 h2 h3 h4
   have hk:n≤2*2^k:=by rw [Int.pow_succ] at h4;omega
   unfold Z104.tf
   by_cases hn:n>1
   ·have e1:=tm i h1 (by omega)
    have e2:=td i h1 (by omega)
    have e3:=t1 n (by omega) (by omega)
    have e4:=td (n+1) (by omega) (by omega)
    have e6:=xr i h1 (by omega)
    rw [if_pos hn]
    by_cases hc:i % 2=1∨i+1<n
    ·have hx:decide (mW .i64 i 1≥n)=false:=by
      rw [e6]
      split
      ·exact decide_eq_false (by omega)
      ·exact decide_eq_false (by omega)
     rw [if_pos hc]
     cases p with
     | nil=>
      refine ⟨1,?_⟩
      show step (iter step 0) (Pt.p0 _ _ _ _)=_
      simp only [step,hx]
      exact ak (decide_eq_true (by omega)) (cN rfl (ak rfl rfl))
     | cons x xs=>
      simp only [List.length_cons] at hp
      obtain ⟨m,hm⟩:=ih (if i % 2=1 then Z79.md x leaf else Z79.md leaf x) (i / 2) ((n+1) / 2) xs (by omega) (by omega) (by omega) (by omega) (by omega)
      refine ⟨m+1,?_⟩
      show step (iter step m) (Pt.p0 _ _ _ _)=_
      have ht:List.take (toNat ((xs.length:Int)+1 - 1)) (List.drop 1 ((x::xs).map aZ))=xs.map aZ:=by
       simp only [List.map_cons,List.drop_succ_cons,List.drop_zero]
       exact List.take_of_length_le (by simp)
      have hl:(((x::xs).map aZ).length:Int)=(xs.length:Int)+1:=by simp
      simp only [step,hx,e1,e2,e3,e4,ht,hl]
      refine ak (decide_eq_true (by omega)) (cN rfl (cN (beq_eq_false_iff_ne.2 (by omega)) ?_))
      have hat:jv ((x::xs).map aZ) 0=x:=rfl
      rw [hat]
      by_cases hp:i % 2=1
      ·rw [if_pos hp] at hm
       rw [hp]
       refine cN rfl (ak (decide_eq_true (by omega)) (bh (Z79.md x leaf) (by have:=Z187.aj (a0:=x) (a1:=leaf) trivial;rw [Z187.br] at this;exact this) (ak (decide_eq_true (by omega)) (ak (decide_eq_true (by omega)) ?_))))
       rw [if_pos rfl]
       exact hm
      ·rw [if_neg hp] at hm
       have h0:i % 2=0:=by omega
       rw [h0]
       refine ak rfl (ak (decide_eq_true (by omega)) (bh (Z79.md leaf x) (by have:=Z187.aj (a0:=leaf) (a1:=x) trivial;rw [Z187.br] at this;exact this) (ak (decide_eq_true (by omega)) (ak (decide_eq_true (by omega)) ?_))))
       rw [if_neg (by omega)]
       exact hm
    ·have hx:decide (mW .i64 i 1≥n)=true:=by
      rw [e6,if_pos (by omega)]
      exact decide_eq_true (by omega)
     rw [if_neg hc]
     obtain ⟨m,hm⟩:=ih leaf (i / 2) ((n+1) / 2) p hp (by omega) (by omega) (by omega) (by omega)
     refine ⟨m+1,?_⟩
     show step (iter step m) (Pt.p0 _ _ _ _)=_
     simp only [step,hx,e2,e3,e4]
     exact ak (decide_eq_true (by omega)) (ak rfl hm)
   ·have hn1:n=1:=by omega
    subst hn1
    have hi:i=0:=by omega
    subst hi
    refine ⟨1,(fin leaf p _).trans ?_⟩
    rw [if_neg (show ¬(1:Int)>1 by omega)]
 unfold start md Z104.md
 obtain ⟨H3,_⟩:=hg
 by_cases c1:a2<1
 ·refine ⟨0,ak (decide_eq_true c1) ?_⟩
  rw [show Z41.md a2 1 12=false from by simp [Z41.md];omega];rfl
 refine dx (decide_eq_false c1) ?_
 by_cases c2:a2>12
 ·refine ⟨0,ak (decide_eq_true c2) ?_⟩
  rw [show Z41.md a2 1 12=false from by simp [Z41.md];omega];rfl
 refine dx (decide_eq_false c2) ?_
 rw [show Z41.md a2 1 12=true from by simp [Z41.md];omega]
 simp only [Bool.not_true,bk]
 refine eW (Z41.md a1 0 (i64.wrap (a2 - 1))) (by have:=Z130.aj (a0:=a1) (a1:=0) (a2:=i64.wrap (a2 - 1)) trivial;rw [Z130.br] at this;exact this) ?_
 cases hd:Z41.md a1 0 (i64.wrap (a2 - 1))
 ·exact ⟨0,rfl⟩
 rw [Go.IntWalk.i64_in _ (by omega)] at hd
 have i2:0≤a1∧a1≤a2 - 1:=by simpa [Z41.md] using hd
 exact key 4 a0 a1 a2 a3 H3 (by omega) (by omega) (by omega) (by omega)
theorem af:cw 540 aV:=L4 56 pid bY bZ live step start mix aD bq (.cons Z130.af (.cons Z187.af .nil)) Tryz.func540
theorem br (a0:Int)(a1:Int)(a2:Int)(a3:List Int):md a0 a1 a2 a3=Z104.md a0 a1 a2 a3:=by
 unfold md Z104.md
 first
 | (simp only [Z130.br,Z187.br];done)
 | (simp only [Z130.br,Z187.br];rfl)
 | rfl
end Z212
namespace Z213
def F (x0:Int)(x1:Int)(x2:aS)(x3:bN):aG:=(call (Z184.R x2) fun v1=>(call (Z212.R (v1,x3.ep,x1,x3.bC)) fun v2=>(cond v2.2 (call (Z176.R x2) fun v3=>(cond v3 (call (Z190.R (x1,v2.1)) fun v4=>ret ((v4==x0):Bool)) (ret (false:Bool)))) (ret (false:Bool)))))
def md (a0:Int)(a1:Int)(a2:ah)(a3:aK):Bool:=(cond ((Z212.md (Z184.md a2) a3.ep a1 a3.bC).2) (cond (Z176.md a2) (((Z190.md a1 ((Z212.md (Z184.md a2) a3.ep a1 a3.bC).1))==a0):Bool) (false:Bool)) (false:Bool))
def gd (a0:Int)(a1:Int)(a2:ah)(a3:aK):Prop:=(ah.Sm (2^21) a2)∧(aK.Sm (2^21) a3)
def R:=RR (p4 gd) (u4 md)
theorem aj {a0 a1 a2 a3}(h:gd a0 a1 a2 a3):R (a0,a1,(ah.r a2),(aK.r a3))=some (md a0 a1 a2 a3):=aM (a:=(a0,a1,a2,a3)) h
def aV:=CN [pI,pI,.agg ru,.agg rm] oB RT.dec R
theorem bq (a0)(a1)(a2)(a3)(hg:gd a0 a1 a2 a3):F a0 a1 (ah.r a2) (aK.r a3)=ret (md a0 a1 a2 a3):=by
 obtain ⟨H2,H3⟩:=hg
 unfold F md
 try simp only [SS]
 refine ct (Z184.aj H2) ?_
 refine ct (Z212.aj (H3.mono (by decide) (fun x hx=>trivial))) ?_
 refine av ret (fun c1=>?_) (fun _=>rfl)
 refine ct (Z176.aj H2) ?_
 refine av ret (fun c2=>?_) (fun _=>rfl)
 refine ct (Z190.aj trivial) ?_
 all_goals exact fz
theorem af:cw 465 aV:=W4 34 F mix aD bq (.cons Z184.af (.cons Z212.af (.cons Z176.af (.cons Z190.af .nil)))) Tryz.func465
theorem br (a0:Int)(a1:Int)(a2:ah)(a3:aK):md a0 a1 a2 a3=Z105.md a0 a1 a2 a3:=by
 unfold md Z105.md
 simp only [Z212.br,Z184.br,Z176.br,Z190.br]
 cases Z71.md a2<;>cases (Z104.md (Z77.md a2) a3.ep a1 a3.bC).2<;>rfl
end Z213
namespace Z214
inductive Pt where
 | p0 (a:List (List L)) (b:List (List L)) (c:Int) (d:Int)
def pid:Pt→Nat
 | .p0 ..=>4
def bY:Pt→List V
 | .p0 a b c d=>[.sl none 9 a,.sl none 9 b,.int .i64 c,.int .i64 d]
def bZ:Pt→List aU
 | .p0 a b c d=>[]
def step (J:Pt→aG):Pt→aG
 | .p0 a b c d=>(cond (decide (d<c)) (m2 d (a.length:Int) (m2 d (b.length:Int) (cond (!((pZ a (toNat d))==(pZ b (toNat d)))) (ret (false:Bool)) (J (.p0 a b c (i64.wrap (d+1))))))) (ret (true:Bool)))
def start (J:Pt→aG)(x0:List (List L))(x1:List (List L)):aG:=(cond ((x0.length:Int) != (x1.length:Int)) (ret (false:Bool)) (J (.p0 x0 x1 (x0.length:Int) 0)))
def live:Nat→Live:=fun i=>match i with | 4=>[(0,none),(1,none),(12,none),(13,none)] | _=>[]
def md (a0:List ByteArray)(a1:List ByteArray):Bool:=(bif ((a0.length:Int) != (a1.length:Int)) then (false:Bool) else (eg (S:=Unit) (β:=Bool) (fun (i2:Nat) (s4:Unit)=>(cond (!((a0.getD i2 ⟨#[]⟩)==(a1.getD i2 ⟨#[]⟩))) (.inr (false:Bool)) (.inl ()))) (fun (s4:Unit)=>(true:Bool)) a0.length 0 ()))
def gd (a0:List ByteArray)(a1:List ByteArray):Prop:=(bK (2^21) (fun y:ByteArray=>y.size≤(2^21)) a0)∧(bK (2^21) (fun y:ByteArray=>y.size≤(2^21)) a1)
def R:=RR (p2 gd) (u2 md)
theorem aj {a0 a1}(h:gd a0 a1):R ((a0.map cA),(a1.map cA))=some (md a0 a1):=aM (a:=(a0,a1)) h
def aV:=CN [pL 9,pL 9] oB RT.dec R
theorem bq (a0)(a1)(hg:gd a0 a1):∃n,start (iter step n) (a0.map cA) (a1.map cA)=ret (md a0 a1):=by
 obtain ⟨H0,H1⟩:=hg
 unfold start md
 try simp only [SS]
 refine gT ret (fun _=>⟨0,rfl⟩) (fun c1=>?_)
 have dc1:=c1
 try simp only [DC] at dc1
 have Bh3:a0.length≤maxLen:=(by
   have:=(H0).1
   try simp only [maxLen] at *
   omega)
 refine dN (p:=Pt.p0 (a0.map cA) (a1.map cA) (a0.length:Int) 0) fz ?_
 refine ck (pt:=fun (i2:Nat) (s4:Unit)=>Pt.p0 (a0.map cA) (a1.map cA) (a0.length:Int) (i2:Int)) (s:=(():Unit)) (out:=ret) (fun _ _=>True) (fun J i2 s4 h3 hih3=>?_) (fun s4 hih3=>?_) trivial
 ·simp only [step,SS]
  have bb_:=Bh3
  simp only [maxLen] at bb_
  have:=(H0).1
  refine bt.yes (by apply decide_eq_true;omega) ?_
  refine bt.yes aH ?_
  refine bt.yes (aL h3) ?_
  refine bt.yes aH ?_
  refine bt.yes (have:=(H1).1;dt) ?_
  refine bt.bif (fun _=>bt.inr rfl) (fun c5=>?_)
  refine bt.inl trivial ?_
  rw [aE h3 Bh3]
  all_goals exact fz
 ·simp only [step,SS]
  have:=(H0).1
  refine dx (by apply decide_eq_false;omega) ?_
  refine ⟨0,?_⟩
  all_goals exact fz
theorem af:cw 289 aV:=L2 26 pid bY bZ live step start mix aD bq .nil Tryz.func289
theorem md_eq (a0:List ByteArray)(a1:List ByteArray):md a0 a1=dZ a0 a1:=by
 unfold md
 refine jX (⟨#[]⟩) (fun i s h h2=>?_) (fun s=>rfl)
 simp only [bne,fq,bool_beq,eS]
 cases dZ _ _<;>rfl
end Z214
namespace Z215
def F (x0:aS)(x1:aS):aG:=(cond (x0.aW==x1.aW) (cond (x0.bD==x1.bD) (cond (x0.bS==x1.bS) (call (Z214.R (x0.bC,x1.bC)) fun v1=>ret (v1:Bool)) (ret (false:Bool))) (ret (false:Bool))) (ret (false:Bool)))
def md (a0:ah)(a1:ah):Bool:=(cond (a0.aW==a1.aW) (cond (a0.bD==a1.bD) (cond (a0.bS==a1.bS) ((Z214.md a0.bC a1.bC):Bool) (false:Bool)) (false:Bool)) (false:Bool))
def gd (a0:ah)(a1:ah):Prop:=(ah.Sm (2^21) a0)∧(ah.Sm (2^21) a1)
def R:=RR (p2 gd) (u2 md)
theorem aj {a0 a1}(h:gd a0 a1):R ((ah.r a0),(ah.r a1))=some (md a0 a1):=aM (a:=(a0,a1)) h
def aV:=CN [.agg ru,.agg ru] oB RT.dec R
theorem bq (a0)(a1)(hg:gd a0 a1):F (ah.r a0) (ah.r a1)=ret (md a0 a1):=by
 obtain ⟨H0,H1⟩:=hg
 unfold F md
 try simp only [SS]
 refine av ret (fun c1=>?_) (fun _=>rfl)
 refine av ret (fun c2=>?_) (fun _=>rfl)
 refine av ret (fun c3=>?_) (fun _=>rfl)
 refine ct (Z214.aj ⟨H0.2,H1.2⟩) ?_
 all_goals exact fz
theorem af:cw 110 aV:=W2 31 F mix aD bq (.cons Z214.af .nil) Tryz.func110
theorem md_eq (a0:ah)(a1:ah):md a0 a1=dZ a0 a1:=by
 unfold md
 cases a0;cases a1
 rw [Bool.eq_iff_iff]
 simp [dm,eS,ah.mk.injEq,Z214.md_eq]
 try (constructor<;>(intro h;simp_all))
end Z215
namespace Z216
def F (x0:bN)(x1:bN):aG:=(cond (x0.ep==x1.ep) (call (Z166.R (x0.bC,x1.bC)) fun v1=>ret (v1:Bool)) (ret (false:Bool)))
def md (a0:aK)(a1:aK):Bool:=(cond (a0.ep==a1.ep) ((Z166.md a0.bC a1.bC):Bool) (false:Bool))
def gd (a0:aK)(a1:aK):Prop:=(aK.Sm (2^21) a0)∧(aK.Sm (2^21) a1)
def R:=RR (p2 gd) (u2 md)
theorem aj {a0 a1}(h:gd a0 a1):R ((aK.r a0),(aK.r a1))=some (md a0 a1):=aM (a:=(a0,a1)) h
def aV:=CN [.agg rm,.agg rm] oB RT.dec R
theorem bq (a0)(a1)(hg:gd a0 a1):F (aK.r a0) (aK.r a1)=ret (md a0 a1):=by
 obtain ⟨H0,H1⟩:=hg
 unfold F md
 try simp only [SS]
 refine av ret (fun c1=>?_) (fun _=>rfl)
 refine ct (Z166.aj ⟨(H0.mono (by decide) (fun x hx=>trivial)),(H1.mono (by decide) (fun x hx=>trivial))⟩) ?_
 all_goals exact fz
theorem af:cw 273 aV:=W2 17 F mix aD bq (.cons Z166.af .nil) Tryz.func273
theorem md_eq (a0:aK)(a1:aK):md a0 a1=dZ a0 a1:=by
 unfold md
 cases a0;cases a1
 rw [Bool.eq_iff_iff]
 simp [dm,eS,aK.mk.injEq,Z166.md_eq]
 try (constructor<;>(intro h;simp_all))
end Z216
namespace Z217
def F (x0:dL)(x1:dL):aG:=(cond (x0.ep==x1.ep) (call (Z215.R (x0.aP,x1.aP)) fun v1=>(cond v1 (call (Z215.R (x0.cz,x1.cz)) fun v2=>(cond v2 (call (Z216.R (x0.eB,x1.eB)) fun v3=>(cond v3 (call (Z216.R (x0.cR,x1.cR)) fun v4=>ret (v4:Bool)) (ret (false:Bool)))) (ret (false:Bool)))) (ret (false:Bool)))) (ret (false:Bool)))
def md (a0:bP)(a1:bP):Bool:=(cond (a0.ep==a1.ep) (cond (Z215.md a0.aP a1.aP) (cond (Z215.md a0.cz a1.cz) (cond (Z216.md a0.eB a1.eB) ((Z216.md a0.cR a1.cR):Bool) (false:Bool)) (false:Bool)) (false:Bool)) (false:Bool))
def gd (a0:bP)(a1:bP):Prop:=(bP.Sm (2^21) a0)∧(bP.Sm (2^21) a1)
def R:=RR (p2 gd) (u2 md)
theorem aj {a0 a1}(h:gd a0 a1):R ((bP.r a0),(bP.r a1))=some (md a0 a1):=aM (a:=(a0,a1)) h
def aV:=CN [.agg vC,.agg vC] oB RT.dec R
theorem bq (a0)(a1)(hg:gd a0 a1):F (bP.r a0) (bP.r a1)=ret (md a0 a1):=by
 obtain ⟨H0,H1⟩:=hg
 unfold F md
 try simp only [SS]
 refine av ret (fun c1=>?_) (fun _=>rfl)
 refine ct (Z215.aj ⟨H0.1,H1.1⟩) ?_
 refine av ret (fun c2=>?_) (fun _=>rfl)
 refine ct (Z215.aj ⟨H0.2.1,H1.2.1⟩) ?_
 refine av ret (fun c3=>?_) (fun _=>rfl)
 refine ct (Z216.aj ⟨H0.2.2.1,H1.2.2.1⟩) ?_
 refine av ret (fun c4=>?_) (fun _=>rfl)
 refine ct (Z216.aj ⟨H0.2.2.2,H1.2.2.2⟩) ?_
 all_goals exact fz
theorem af:cw 274 aV:=W2 38 F mix aD bq (.cons Z215.af (.cons Z216.af .nil)) Tryz.func274
theorem md_eq (a0:bP)(a1:bP):md a0 a1=dZ a0 a1:=by
 unfold md
 cases a0;cases a1
 rw [Bool.eq_iff_iff]
 simp [dm,eS,bP.mk.injEq,Z215.md_eq,Z216.md_eq]
 try (constructor<;>(intro h;simp_all))
end Z217
namespace Z218
def F (x0:aS):aG:=(call (Z215.R (x0,(⟨(⟨#[]⟩:ByteArray),0,0,[]⟩:aS))) fun v1=>ret (v1:Bool))
def md (a0:ah):Bool:=((Z215.md a0 (⟨((⟨#[]⟩:ByteArray):ByteArray),0,0,[]⟩:ah)):Bool)
def gd (a0:ah):Prop:=(ah.Sm (2^21) a0)
def R:=RR gd md
theorem aj {a0}(h:gd a0):R (ah.r a0)=some (md a0):=aM (a:=a0) h
def aV:=CN [.agg ru] oB RT.dec R
theorem bq (a0)(hg:gd a0):F (ah.r a0)=ret (md a0):=by
 unfold gd at hg
 have H0:=hg
 unfold F md
 try simp only [SS]
 refine ct (Z215.aj (a1:=(⟨((⟨#[]⟩:ByteArray):ByteArray),0,0,[]⟩:ah)) ⟨H0,⟨(by decide),bK.nil⟩⟩) ?_
 all_goals exact fz
theorem af:cw 467 aV:=W1 6 F mix aD bq (.cons Z215.af .nil) Tryz.func467
end Z218
namespace Z219
def F (x0:bN):aG:=(call (Z216.R (x0,(⟨0,[]⟩:bN))) fun v1=>ret (v1:Bool))
def md (a0:aK):Bool:=((Z216.md a0 (⟨0,[]⟩:aK)):Bool)
def gd (a0:aK):Prop:=(aK.Sm (2^21) a0)
def R:=RR gd md
theorem aj {a0}(h:gd a0):R (aK.r a0)=some (md a0):=aM (a:=a0) h
def aV:=CN [.agg rm] oB RT.dec R
theorem bq (a0)(hg:gd a0):F (aK.r a0)=ret (md a0):=by
 unfold gd at hg
 have H0:=hg
 unfold F md
 try simp only [SS]
 refine ct (Z216.aj (a1:=(⟨0,[]⟩:aK)) ⟨H0,bK.nil⟩) ?_
 all_goals exact fz
theorem af:cw 468 aV:=W1 6 F mix aD bq (.cons Z216.af .nil) Tryz.func468
end Z219
namespace Z220
def F (x0:Int)(x1:Int)(x2:aS)(x3:bN)(x4:Int):aG:=(call (Z130.R (x4,0,(i64.wrap (x1 - 1)))) fun v1=>(cond (!v1) (call (Z218.R x2) fun v2=>(cond v2 (call (Z219.R x3) fun v3=>ret (v3:Bool)) (ret (false:Bool)))) (call (Z213.R (x0,x1,x2,x3)) fun v4=>(cond v4 (ret ((x3.ep==x4):Bool)) (ret (false:Bool))))))
def md (a0:Int)(a1:Int)(a2:ah)(a3:aK)(a4:Int):Bool:=(cond (!(Z130.md a4 0 (i64.wrap (a1 - 1)))) (cond (Z218.md a2) ((Z219.md a3):Bool) (false:Bool)) (cond (Z213.md a0 a1 a2 a3) ((a3.ep==a4):Bool) (false:Bool)))
def gd (a0:Int)(a1:Int)(a2:ah)(a3:aK)(a4:Int):Prop:=(ah.Sm (2^21) a2)∧(aK.Sm (2^21) a3)
def R:=RR (p5 gd) (u5 md)
theorem aj {a0 a1 a2 a3 a4}(h:gd a0 a1 a2 a3 a4):R (a0,a1,(ah.r a2),(aK.r a3),a4)=some (md a0 a1 a2 a3 a4):=aM (a:=(a0,a1,a2,a3,a4)) h
def aV:=CN [pI,pI,.agg ru,.agg rm,pI] oB RT.dec R
theorem bq (a0)(a1)(a2)(a3)(a4)(hg:gd a0 a1 a2 a3 a4):F a0 a1 (ah.r a2) (aK.r a3) a4=ret (md a0 a1 a2 a3 a4):=by
 obtain ⟨H2,H3⟩:=hg
 unfold F md
 try simp only [SS]
 refine ct (Z130.aj trivial) ?_
 refine av ret (fun c1=>?_) (fun c1=>?_)
 ·refine ct (Z218.aj H2) ?_
  refine av ret (fun c2=>?_) (fun _=>rfl)
  refine ct (Z219.aj H3) ?_
  all_goals exact fz
 ·refine ct (Z213.aj ⟨H2,H3⟩) ?_
  refine av ret (fun c3=>?_) (fun _=>rfl)
  all_goals exact fz
theorem af:cw 544 aV:=W5 33 F mix aD bq (.cons Z130.af (.cons Z218.af (.cons Z219.af (.cons Z213.af .nil)))) Tryz.func544
end Z220
namespace Z221
def F (x0:Int)(x1:Int)(x2:ByteArray)(x3:dL):aG:=(call (Z131.R x2) fun v1=>(cond (!v1) (ret (false:Bool)) (call (Z130.R (x3.ep,0,x1)) fun v2=>(cond (!v2) (ret (false:Bool)) (cond (x1==0) (call (Z191.R []) fun v3=>(cond (x0 != v3) (ret (false:Bool)) (call (Z220.R (x0,x1,x3.aP,x3.eB,(i64.wrap (x3.ep - 1)))) fun v4=>(cond (!v4) (ret (false:Bool)) (call (Z220.R (x0,x1,x3.cz,x3.cR,x3.ep)) fun v5=>(cond (!v5) (ret (false:Bool)) (cond (x3.ep==0) (cond (x3.ep==x1) (ret (true:Bool)) (call (Z179.R (x3.cz.aW,x2)) fun v6=>ret ((decide (v6>0)):Bool))) (call (Z179.R (x3.aP.aW,x2)) fun v7=>(cond (decide (v7<0)) (cond (x3.ep==x1) (ret (true:Bool)) (call (Z179.R (x3.cz.aW,x2)) fun v8=>ret ((decide (v8>0)):Bool))) (ret (false:Bool))))))))))) (call (Z220.R (x0,x1,x3.aP,x3.eB,(i64.wrap (x3.ep - 1)))) fun v9=>(cond (!v9) (ret (false:Bool)) (call (Z220.R (x0,x1,x3.cz,x3.cR,x3.ep)) fun v10=>(cond (!v10) (ret (false:Bool)) (cond (x3.ep==0) (cond (x3.ep==x1) (ret (true:Bool)) (call (Z179.R (x3.cz.aW,x2)) fun v11=>ret ((decide (v11>0)):Bool))) (call (Z179.R (x3.aP.aW,x2)) fun v12=>(cond (decide (v12<0)) (cond (x3.ep==x1) (ret (true:Bool)) (call (Z179.R (x3.cz.aW,x2)) fun v13=>ret ((decide (v13>0)):Bool))) (ret (false:Bool))))))))))))))
def md (a0:Int)(a1:Int)(a2:ByteArray)(a3:bP):Bool:=(cond (!(Z131.md a2)) (false:Bool) (cond (!(Z130.md a3.ep 0 a1)) (false:Bool) (cond (a1==0) (cond (a0 != (Z191.md [])) (false:Bool) (cond (!(Z220.md a0 a1 a3.aP a3.eB (i64.wrap (a3.ep - 1)))) (false:Bool) (cond (!(Z220.md a0 a1 a3.cz a3.cR a3.ep)) (false:Bool) (cond (a3.ep==0) (cond (a3.ep==a1) (true:Bool) ((decide ((Z179.md a3.cz.aW a2)>0)):Bool)) (cond (decide ((Z179.md a3.aP.aW a2)<0)) (cond (a3.ep==a1) (true:Bool) ((decide ((Z179.md a3.cz.aW a2)>0)):Bool)) (false:Bool)))))) (cond (!(Z220.md a0 a1 a3.aP a3.eB (i64.wrap (a3.ep - 1)))) (false:Bool) (cond (!(Z220.md a0 a1 a3.cz a3.cR a3.ep)) (false:Bool) (cond (a3.ep==0) (cond (a3.ep==a1) (true:Bool) ((decide ((Z179.md a3.cz.aW a2)>0)):Bool)) (cond (decide ((Z179.md a3.aP.aW a2)<0)) (cond (a3.ep==a1) (true:Bool) ((decide ((Z179.md a3.cz.aW a2)>0)):Bool)) (false:Bool))))))))
def gd (a0:Int)(a1:Int)(a2:ByteArray)(a3:bP):Prop:=(a2.size≤(2^21))∧(bP.Sm (2^21) a3)
def R:=RR (p4 gd) (u4 md)
theorem aj {a0 a1 a2 a3}(h:gd a0 a1 a2 a3):R (a0,a1,a2,(bP.r a3))=some (md a0 a1 a2 a3):=aM (a:=(a0,a1,a2,a3)) h
def aV:=CN [pI,pI,pS,.agg vC] oB RT.dec R
theorem bq (a0)(a1)(a2)(a3)(hg:gd a0 a1 a2 a3):F a0 a1 a2 (bP.r a3)=ret (md a0 a1 a2 a3):=by
 obtain ⟨H2,H3⟩:=hg
 unfold F md
 try simp only [SS]
 refine ct (Z131.aj (Nat.le_trans H2 (by decide))) ?_
 refine av ret (fun _=>rfl) (fun c1=>?_)
 refine ct (Z130.aj trivial) ?_
 refine av ret (fun _=>rfl) (fun c2=>?_)
 refine av ret (fun c3=>?_) (fun c3=>?_)
 ·refine bh (Z191.md []) (rq (Z191.aj (a0:=[]) bK.nil)) ?_
  refine av ret (fun _=>rfl) (fun c4=>?_)
  refine ct (Z220.aj ⟨H3.1,H3.2.2.1⟩) ?_
  refine av ret (fun _=>rfl) (fun c5=>?_)
  refine ct (Z220.aj ⟨H3.2.1,H3.2.2.2⟩) ?_
  refine av ret (fun _=>rfl) (fun c6=>?_)
  refine av ret (fun c7=>?_) (fun c7=>?_)
  ·refine av ret (fun _=>rfl) (fun c8=>?_)
   refine ct (Z179.aj trivial) ?_
   all_goals exact fz
  ·refine ct (Z179.aj trivial) ?_
   refine av ret (fun c9=>?_) (fun _=>rfl)
   refine av ret (fun _=>rfl) (fun c10=>?_)
   refine ct (Z179.aj trivial) ?_
   all_goals exact fz
 ·refine ct (Z220.aj ⟨H3.1,H3.2.2.1⟩) ?_
  refine av ret (fun _=>rfl) (fun c11=>?_)
  refine ct (Z220.aj ⟨H3.2.1,H3.2.2.2⟩) ?_
  refine av ret (fun _=>rfl) (fun c12=>?_)
  refine av ret (fun c13=>?_) (fun c13=>?_)
  ·refine av ret (fun _=>rfl) (fun c14=>?_)
   refine ct (Z179.aj trivial) ?_
   all_goals exact fz
  ·refine ct (Z179.aj trivial) ?_
   refine av ret (fun c15=>?_) (fun _=>rfl)
   refine av ret (fun _=>rfl) (fun c16=>?_)
   refine ct (Z179.aj trivial) ?_
   all_goals exact fz
theorem af:cw 466 aV:=W4 76 F mix aD bq (.cons Z131.af (.cons Z130.af (.cons Z191.af (.cons Z220.af (.cons Z179.af .nil))))) Tryz.func466
theorem Bz (a0:Int)(a1:Int)(a2:ByteArray)(a3:bP)(hc:a1≤1000):md a0 a1 a2 a3=Z111.md a0 a1 a2 a3:=by
 unfold md Z111.md Z220.md Z110.md Z218.md Z219.md
 simp only [Z131.br,Z130.br,Z191.br,Z213.br,Z215.md_eq,Z107.md_eq,Z216.md_eq,Z108.md_eq,Z179.br,Z72.lt,Z72.gt]
 cases Z42.md a2
 ·rfl
 cases hr:Z41.md a3.ep 0 a1
 ·rfl
 have hi:0≤a3.ep∧a3.ep≤a1:=by simpa [Z41.md] using hr
 have w1:i64.wrap (a1 - 1)=a1 - 1:=Go.IntWalk.i64_in _ (by omega)
 have w2:i64.wrap (a3.ep - 1)=a3.ep - 1:=Go.IntWalk.i64_in _ (by omega)
 have e1:Z41.md (a3.ep - 1) 0 (a1 - 1)=!(a3.ep==0):=by
  rw [Bool.eq_iff_iff];simp [Z41.md];omega
 have e2:Z41.md a3.ep 0 (a1 - 1)=!(a3.ep==a1):=by
  rw [Bool.eq_iff_iff];simp [Z41.md];omega
 simp only [w1,w2,e1,e2,bne]
 generalize (a3.ep==0)=z
 generalize (a3.ep==a1)=e
 generalize (a1==0)=c0
 generalize (a0==Z83.md [])=rt
 generalize dZ a3.aP _=x1
 generalize dZ a3.eB _=x2
 generalize dZ a3.cz _=x3
 generalize dZ a3.cR _=x4
 generalize Z105.md a0 a1 a3.aP a3.eB=k1
 generalize Z105.md a0 a1 a3.cz a3.cR=k2
 generalize (a3.eB.ep==a3.ep - 1)=p1
 generalize (a3.cR.ep==a3.ep)=p2
 generalize (Z72.md a3.aP.aW a2 == -1)=m1
 generalize (Z72.md a3.cz.aW a2==1)=m2
 cases c0<;>cases rt<;>cases z<;>cases e<;>cases x1<;>cases x2<;>cases k1<;>cases p1<;>cases m1<;>first | rfl | (cases x3<;>cases x4<;>rfl) | (cases k2<;>cases p2<;>cases m2<;>rfl)
end Z221
namespace Z222
def F (x0:bU)(x1:ByteArray)(x2:aX):aG:=(cond x2.cj (cond (x2.aN.aW==x1) (call (Z213.R (x0.cS,x0.cg,x2.aN,x2.eo)) fun v1=>(cond v1 (call (Z217.R (x2.eT,(⟨0,(⟨(⟨#[]⟩:ByteArray),0,0,[]⟩:aS),(⟨(⟨#[]⟩:ByteArray),0,0,[]⟩:aS),(⟨0,[]⟩:bN),(⟨0,[]⟩:bN)⟩:dL))) fun v2=>ret (v2:Bool)) (ret (false:Bool)))) (ret (false:Bool))) (call (Z221.R (x0.cS,x0.cg,x1,x2.eT)) fun v3=>(cond v3 (call (Z218.R x2.aN) fun v4=>(cond v4 (call (Z219.R x2.eo) fun v5=>ret (v5:Bool)) (ret (false:Bool)))) (ret (false:Bool)))))
def md (a0:aC)(a1:ByteArray)(a2:ay):Bool:=(cond a2.cj (cond (a2.aN.aW==a1) (cond (Z213.md a0.cS a0.cg a2.aN a2.eo) ((Z217.md a2.eT (⟨0,(⟨((⟨#[]⟩:ByteArray):ByteArray),0,0,[]⟩:ah),(⟨((⟨#[]⟩:ByteArray):ByteArray),0,0,[]⟩:ah),(⟨0,[]⟩:aK),(⟨0,[]⟩:aK)⟩:bP)):Bool) (false:Bool)) (false:Bool)) (cond (Z221.md a0.cS a0.cg a1 a2.eT) (cond (Z218.md a2.aN) ((Z219.md a2.eo):Bool) (false:Bool)) (false:Bool)))
def gd (a0:aC)(a1:ByteArray)(a2:ay):Prop:=(a1.size≤(2^21))∧(ay.Sm (2^21) a2)
def R:=RR (p3 gd) (u3 md)
theorem aj {a0 a1 a2}(h:gd a0 a1 a2):R ((aC.r a0),a1,(ay.r a2))=some (md a0 a1 a2):=aM (a:=(a0,a1,a2)) h
def aV:=CN [.agg fX,pS,.agg yw] oB RT.dec R
theorem bq (a0)(a1)(a2)(hg:gd a0 a1 a2):F (aC.r a0) a1 (ay.r a2)=ret (md a0 a1 a2):=by
 obtain ⟨H1,H2⟩:=hg
 unfold F md
 try simp only [SS]
 refine av ret (fun c1=>?_) (fun c1=>?_)
 ·refine av ret (fun c2=>?_) (fun _=>rfl)
  refine ct (Z213.aj ⟨H2.2.1,H2.2.2.1⟩) ?_
  refine av ret (fun c3=>?_) (fun _=>rfl)
  refine ct (Z217.aj (a1:=(⟨0,(⟨((⟨#[]⟩:ByteArray):ByteArray),0,0,[]⟩:ah),(⟨((⟨#[]⟩:ByteArray):ByteArray),0,0,[]⟩:ah),(⟨0,[]⟩:aK),(⟨0,[]⟩:aK)⟩:bP)) ⟨H2.2.2.2,⟨⟨(by decide),bK.nil⟩,⟨(by decide),bK.nil⟩,bK.nil,bK.nil⟩⟩) ?_
  all_goals exact fz
 ·refine ct (Z221.aj ⟨H1,H2.2.2.2⟩) ?_
  refine av ret (fun c4=>?_) (fun _=>rfl)
  refine ct (Z218.aj H2.2.1) ?_
  refine av ret (fun c5=>?_) (fun _=>rfl)
  refine ct (Z219.aj H2.2.2.1) ?_
  all_goals exact fz
theorem af:cw 384 aV:=W3 49 F mix aD bq (.cons Z213.af (.cons Z217.af (.cons Z221.af (.cons Z218.af (.cons Z219.af .nil))))) Tryz.func384
theorem Bz (a0:aC)(a1:ByteArray)(a2:ay)(hc:a0.cg≤1000):md a0 a1 a2=Z112.md a0 a1 a2:=by
 unfold md Z112.md Z110.md Z218.md Z219.md
 simp only [Z221.Bz _ _ _ _ hc,Z213.br,Z215.md_eq,Z107.md_eq,Z216.md_eq,Z108.md_eq,Z217.md_eq,Z109.md_eq]
end Z222
namespace Z223
def F (x0:Int)(x1:ByteArray)(x2:aX)(x3:Int):aG:=(call (Z210.R x2.aQ) fun v1=>(cond (!v1.2) (ret (3:Int)) (cond (v1.1.bA != x0) (ret (2:Int)) (call (Z211.R (v1.1,x3)) fun v2=>(cond (!v2) (ret (4:Int)) (cond v1.1.bB (ret (5:Int)) (call (Z222.R (v1.1,x1,x2)) fun v3=>(cond (!v3) (ret (6:Int)) (ret (1:Int))))))))))
def md (a0:Int)(a1:ByteArray)(a2:ay)(a3:Int):Int:=(cond (!(Z210.md a2.aQ).2) (3:Int) (cond ((Z210.md a2.aQ).1.bA != a0) (2:Int) (cond (!(Z211.md ((Z210.md a2.aQ).1) a3)) (4:Int) (cond ((Z210.md a2.aQ).1.bB) (5:Int) (cond (!(Z222.md ((Z210.md a2.aQ).1) a1 a2)) (6:Int) (1:Int))))))
def gd (a0:Int)(a1:ByteArray)(a2:ay)(a3:Int):Prop:=(a1.size≤(2^21))∧(ay.Sm (2^21) a2)
def R:=RR (p4 gd) (u4 md)
theorem aj {a0 a1 a2 a3}(h:gd a0 a1 a2 a3):R (a0,a1,(ay.r a2),a3)=some (md a0 a1 a2 a3):=aM (a:=(a0,a1,a2,a3)) h
def aV:=CN [pI,pS,.agg yw,pI] oI RT.dec R
theorem bq (a0)(a1)(a2)(a3)(hg:gd a0 a1 a2 a3):F a0 a1 (ay.r a2) a3=ret (md a0 a1 a2 a3):=by
 obtain ⟨H1,H2⟩:=hg
 unfold F md
 try simp only [SS]
 refine ct (Z210.aj H2.1) ?_
 try simp only [SS]
 refine av ret (fun _=>rfl) (fun c1=>?_)
 refine av ret (fun _=>rfl) (fun c2=>?_)
 refine ct (Z211.aj trivial) ?_
 refine av ret (fun _=>rfl) (fun c3=>?_)
 refine av ret (fun _=>rfl) (fun c4=>?_)
 refine ct (Z222.aj ⟨H1,H2⟩) ?_
 refine av ret (fun _=>rfl) (fun _=>rfl)
theorem af:cw 264 aV:=W4 39 F mix aD bq (.cons Z210.af (.cons Z211.af (.cons Z222.af .nil))) Tryz.func264
theorem br (a0:Int)(a1:ByteArray)(a2:ay)(a3:Int):md a0 a1 a2 a3=Z113.md a0 a1 a2 a3:=by
 unfold md Z113.md
 simp only [Z210.br,Z211.br]
 cases hok:(Z70.md a2.aQ).2
 ·rfl
 ·have:=Z47.tr (Z70.head hok).2.2
  rw [Z222.Bz _ _ _ (by omega)]
end Z223
namespace Z224
def F (x0:List (List L))(x1:List L):aG:=(cond (decide ((x0.length:Int)>0)) (bX (decide ((0:Int)<(x0.length:Int))) (ret (((aO.at x0 0).aq.bA==(gk x1)):Bool))) (ret (false:Bool)))
def pats:List gq:=[.rd (.sl 123),.ptr [.int .i64]]
def res:RP:=.one (.rd (.bool))
def md (a0:List aa)(a1:Int):Bool:=(cond (decide ((a0.length:Int)>0)) ((((a0.getD 0 aa.zero).aq).bA==a1):Bool) (false:Bool))
def gd (a0:List aa)(a1:Int):Prop:=(bK (2^21) (fun y:aa=>aa.Sm (2^21) y) a0)
def acc (ls:List L):List (List L)×Int:=((ls.headD .hole).aR,(gk (cK 1 (aA 1 ls))))
def R:(List (List L)×Int)→Option Bool:=RR (p2 gd) (u2 md)
theorem aj {a0 a1}(h:gd a0 a1):R ((a0.map aa.row),a1)=some (md a0 a1):=aM (a:=(a0,a1)) h
def aV:fW:=CN pats res acc R
theorem bq (a0:List aa)(a1:Int)(p1:List L)(e1:a1=(gk p1))(hg:gd a0 a1):F (a0.map aa.row) p1=ret ((md a0 a1):Bool):=by
 unfold gd at hg
 have H0:=hg
 unfold F md
 try simp only [SS,←e1]
 refine av ret (fun c1=>?_) (fun _=>rfl)
 have dc1:=c1
 try simp only [DC] at dc1
 refine ak (have:=(H0).1;dt) ?_
 all_goals exact fz
theorem oJ (ls:List L)(a:List aa×Int)(e:acc ls=Im.im a)(hg:(p2 gd) a):∃n:Nat,F ((ls.headD .hole).aR) (cK 1 (aA 1 ls))=ret (Im.im ((u2 md) a)):=by
 have e0:(a.1.map aa.row)=(ls.headD .hole).aR:=(congrArg (fun x=>x.1) e.symm)
 have hn:=bq a.1 a.2 (cK 1 (aA 1 ls)) (congrArg (fun x=>x.2) e.symm) hg
 refine ⟨0,?_⟩
 rw [←e0]
 exact hn
theorem af:cw 366 aV:=VP (live:=fun _=>[]) (nt:=16) (accr:=fun ls=>((ls.headD .hole).aR,(cK 1 (aA 1 ls)))) (run:=fun _ x=>F x.1 x.2) mix aD .nil Tryz.func366 (by kernel_rfl) (fun _ _=>by kernel_rfl) (fun ls a _ e hg=>oJ ls a e hg)
end Z224
namespace Z225
inductive Pt where
 | p0 (a:List (List L)) (b:List L) (c:Int) (d:Int)
def pid:Pt→Nat
 | .p0 ..=>2
def bY:Pt→List V
 | .p0 a b c d=>[.sl none 92 a,.fn 366 [.dD none [.int .i64] b 0],.int .i64 c,.int .i64 d]
def bZ:Pt→List aU
 | .p0 a b c d=>[]
def step (J:Pt→aG):Pt→aG
 | .p0 a b c d=>(cond (decide (d<c)) (m2 d (a.length:Int) (call (Z224.R ((oO a (toNat d)),(gk b))) fun v1=>(cond v1 (ret (d:Int)) (J (.p0 a b c (i64.wrap (d+1))))))) (ret ((-1):Int)))
def start (J:Pt→aG)(x0:List (List L))(x1:List L):aG:=J (.p0 x0 x1 (x0.length:Int) 0)
def live:Nat→Live:=fun i=>match i with | 2=>[(0,none),(1,none),(7,none),(8,none)] | _=>[]
def pats:List gq:=[.rd (.sl 92),.fn 366 [[.int .i64]]]
def res:RP:=.one (.rd (.int .i64))
abbrev E:Env:={ T:=assoc kQ,G:=dy [(366,Z224.aV)],nt:=19 }
theorem step_eq (I:cG)(p:Pt):cT E live I (pid p) (bM Tryz.f365) (fM (live (pid p)) (bY p) (bZ p)) (cH E Tryz.f365 res)=step (fun q=>I (pid q) (bY q) (bZ q)) p:=by
 cases p<;>kernel_rfl
theorem start_eq (I:cG)(ls:List L):eX E live I (bM Tryz.f365) (cZ pats ls) (cH E Tryz.f365 res)=start (fun q=>I (pid q) (bY q) (bZ q)) (ls.headD .hole).aR (cK 1 (aA 1 ls)):=by kernel_rfl
theorem run_eq (n:Nat)(ls:List L):eO E live Tryz.f365 res n (cZ pats ls)=start (iter step n) (ls.headD .hole).aR (cK 1 (aA 1 ls)):=cC (id:=pid) (vs:=bY) (hs:=bZ) (step:=step) (start:=fun J=>start J (ls.headD .hole).aR (cK 1 (aA 1 ls))) step_eq (fun I=>start_eq I ls) n
def md (a0:List (List aa))(a1:Int):Int:=(dS (S:=Unit) (β:=Int) (fun (i1:Nat) (y1:List aa) (s3:Unit)=>(cond (Z224.md y1 a1) (.inr ((i1:Int):Int)) (.inl ()))) (fun (s3:Unit)=>((-1):Int)) 0 a0 ())
def gd (a0:List (List aa))(a1:Int):Prop:=(bK (2^21) (fun y:List aa=>bK (2^21) (fun y:aa=>aa.Sm (2^21) y) y) a0)
def acc (ls:List L):List (List L)×Int:=((ls.headD .hole).aR,(gk (cK 1 (aA 1 ls))))
def R:(List (List L)×Int)→Option Int:=RR (p2 gd) (u2 md)
theorem aj {a0 a1}(h:gd a0 a1):R ((a0.map (dK aa.row)),a1)=some (md a0 a1):=aM (a:=(a0,a1)) h
def aV:fW:=CN pats res acc R
theorem bq (a0:List (List aa))(a1:Int)(p1:List L)(e1:a1=(gk p1))(hg:gd a0 a1):∃n,start (iter step n) (a0.map (dK aa.row)) p1=ret ((md a0 a1):Int):=by
 unfold gd at hg
 have H0:=hg
 unfold start md
 try simp only [SS,←e1]
 have Bh2:a0.length≤maxLen:=(by
   have:=(H0).1
   try simp only [maxLen] at *
   omega)
 refine ex_eq (out:=ret) (cX (z:=[])) ?_
 refine dN (p:=Pt.p0 (a0.map (dK aa.row)) p1 (a0.length:Int) 0) fz ?_
 refine ck (pt:=fun (i1:Nat) (s3:Unit)=>Pt.p0 (a0.map (dK aa.row)) p1 (a0.length:Int) (i1:Int)) (s:=(():Unit)) (out:=ret) (fun _ _=>True) (fun J i1 s3 h2 hih2=>?_) (fun s3 hih2=>?_) trivial
 ·simp only [step,SS,←e1]
  have bb_:=Bh2
  simp only [maxLen] at bb_
  have:=(H0).1
  refine bt.yes (by apply decide_eq_true;omega) ?_
  refine bt.yes aH ?_
  refine bt.yes (aL h2) ?_
  refine cr (Z224.aj (bK.getD (z:=[]) H0 h2)) ?_
  refine bt.bif (fun c4=>?_) (fun c4=>?_)
  ·refine bt.inr ?_
   all_goals exact fz
  ·refine bt.inl trivial ?_
   rw [aE h2 Bh2]
   all_goals exact fz
 ·simp only [step,SS,←e1]
  have:=(H0).1
  refine dx (by apply decide_eq_false;omega) ?_
  refine ⟨0,?_⟩
  all_goals exact fz
theorem oJ (ls:List L)(a:List (List aa)×Int)(e:acc ls=Im.im a)(hg:(p2 gd) a):∃n:Nat,start (iter step n) ((ls.headD .hole).aR) (cK 1 (aA 1 ls))=ret (Im.im ((u2 md) a)):=by
 have e0:(a.1.map (dK aa.row))=(ls.headD .hole).aR:=(congrArg (fun x=>x.1) e.symm)
 obtain ⟨n,hn⟩:=bq a.1 a.2 (cK 1 (aA 1 ls)) (congrArg (fun x=>x.2) e.symm) hg
 refine ⟨n,?_⟩
 rw [←e0]
 exact hn
theorem af:cw 365 aV:=VP (accr:=fun ls=>((ls.headD .hole).aR,(cK 1 (aA 1 ls)))) (run:=fun n x=>start (iter step n) x.1 x.2) mix aD (.cons Z224.af .nil) Tryz.func365 (by kernel_rfl) run_eq (fun ls a _ e hg=>oJ ls a e hg)
theorem fa (a0:List (List aa))(a1:Int):-1≤md a0 a1∧md a0 a1<(a0.length:Int):=by
 unfold md
 refine gb ?_ _ _
 all_goals
  intro i x s b h
  revert h
  simp only [Bool.cond_eq_ite]
  repeat' split
  all_goals (intro h;first | (cases h;rfl) | cases h)
theorem idx_eq (a0:List (List aa))(a1:Int):md a0 a1=iX (fun y=>Z224.md y a1) 0 a0:=by
 unfold md
 exact gV
end Z225
namespace Z226
def F (x0:bn)(x1:Int):aG:=(call (Z225.R (x0.aF,x1)) fun v1=>ret (v1:Int))
def md (a0:au)(a1:Int):Int:=((Z225.md a0.aF a1):Int)
def gd (a0:au)(a1:Int):Prop:=(au.Sm (2^21) a0)
def R:=RR (p2 gd) (u2 md)
theorem aj {a0 a1}(h:gd a0 a1):R ((au.r a0),a1)=some (md a0 a1):=aM (a:=(a0,a1)) h
def aV:=CN [.agg tI,pI] oI RT.dec R
theorem bq (a0)(a1)(hg:gd a0 a1):F (au.r a0) a1=ret (md a0 a1):=by
 unfold gd at hg
 have H0:=hg
 unfold F md
 try simp only [SS]
 refine ct (Z225.aj H0.1) ?_
 have fv1_:=Z225.fa a0.aF a1
 all_goals exact fz
theorem af:cw 242 aV:=W2 9 F mix aD bq (.cons Z225.af .nil) Tryz.func242
theorem fa (a0:au)(a1:Int):-1≤md a0 a1∧md a0 a1<(a0.aF.length:Int):=by unfold md;exact Z225.fa _ _
theorem br (a0:au)(a1:Int):md a0 a1=Z97.md a0 a1:=by
 unfold md Z97.md
 rw [Z225.idx_eq]
 symm
 refine lF (fun i x s=>?_) _ _ _
 unfold Z224.md
 cases decide ((x.length:Int)>0)<;>first | rfl | (cases ((x.getD 0 aa.zero).aq).bA==a1<;>rfl)
end Z226
namespace Z227
def F (x0:bU)(x1:bU):aG:=(call (Z167.R (x0.bJ,x1.bJ)) fun v1=>(cond v1 (call (Z167.R (x0.bw,x1.bw)) fun v2=>(cond v2 (call (Z167.R (x0.bp,x1.bp)) fun v3=>(cond v3 (call (Z152.R x0) fun v4=>(call (Z152.R x1) fun v5=>(call (Z166.R (v4,v5)) fun v6=>ret (v6:Bool)))) (ret (false:Bool)))) (ret (false:Bool)))) (ret (false:Bool))))
def md (a0:aC)(a1:aC):Bool:=(cond (Z167.md a0.bJ a1.bJ) (cond (Z167.md a0.bw a1.bw) (cond (Z167.md a0.bp a1.bp) ((Z166.md (Z152.md a0) (Z152.md a1)):Bool) (false:Bool)) (false:Bool)) (false:Bool))
def gd (a0:aC)(a1:aC):Prop:=(aC.Sm (2^21) a0)∧(aC.Sm (2^21) a1)
def R:=RR (p2 gd) (u2 md)
theorem aj {a0 a1}(h:gd a0 a1):R ((aC.r a0),(aC.r a1))=some (md a0 a1):=aM (a:=(a0,a1)) h
def aV:=CN [.agg fX,.agg fX] oB RT.dec R
theorem bq (a0)(a1)(hg:gd a0 a1):F (aC.r a0) (aC.r a1)=ret (md a0 a1):=by
 obtain ⟨H0,H1⟩:=hg
 unfold F md
 try simp only [SS]
 refine ct (Z167.aj ⟨H0.1,H1.1⟩) ?_
 refine av ret (fun c1=>?_) (fun _=>rfl)
 refine ct (Z167.aj ⟨H0.2.1,H1.2.1⟩) ?_
 refine av ret (fun c2=>?_) (fun _=>rfl)
 refine ct (Z167.aj ⟨H0.2.2,H1.2.2⟩) ?_
 refine av ret (fun c3=>?_) (fun _=>rfl)
 refine ct (Z152.aj H0) ?_
 try simp only [SS]
 refine ct (Z152.aj H1) ?_
 try simp only [SS]
 refine ct (Z166.aj ⟨⟨(have:=Z152.len a0;have:=(H0.1).1;have:=(H0.2.1).1;have:=(H0.2.2).1;om),fun _ _=>trivial⟩,⟨(have:=Z152.len a1;have:=(H1.1).1;have:=(H1.2.1).1;have:=(H1.2.2).1;om),fun _ _=>trivial⟩⟩) ?_
 all_goals exact fz
theorem af:cw 255 aV:=W2 31 F mix aD bq (.cons Z167.af (.cons Z152.af (.cons Z166.af .nil))) Tryz.func255
theorem md_eq (a0:aC)(a1:aC):md a0 a1=dZ a0 a1:=by
 unfold md
 simp only [Z166.md_eq,Z167.md_eq,Z152.br]
 rw [Bool.eq_iff_iff]
 constructor
 ·intro h
  simp only [zX,Bool.and_eq_true] at h
  exact dm.2 (Z52.inj (dm.1 h.2.2.2))
 ·intro h
  rw [dm] at h
  rw [h]
  simp only [fP];rfl
end Z227
namespace Z228
inductive Pt where
 | p0 (a:List (List L)) (b:List (List L)) (c:Int) (d:Int)
def pid:Pt→Nat
 | .p0 ..=>4
def bY:Pt→List V
 | .p0 a b c d=>[.sl none 123 a,.sl none 123 b,.int .i64 c,.int .i64 d]
def bZ:Pt→List aU
 | .p0 a b c d=>[]
def step (J:Pt→aG):Pt→aG
 | .p0 a b c d=>(cond (decide (d<c)) (m2 d (b.length:Int) (m2 d (a.length:Int) (call (Z227.R ((aO.at b (toNat d)).aq,(aO.at a (toNat d)).aq)) fun v1=>(cond (!v1) (ret (false:Bool)) (J (.p0 a b c (i64.wrap (d+1)))))))) (ret (true:Bool)))
def start (J:Pt→aG)(x0:List (List L))(x1:List (List L)):aG:=(cond (decide ((x0.length:Int)>(x1.length:Int))) (ret (false:Bool)) (J (.p0 x1 x0 (x0.length:Int) 0)))
def live:Nat→Live:=fun i=>match i with | 4=>[(1,none),(12,none),(13,none),(14,none)] | _=>[]
def md (a0:List aa)(a1:List aa):Bool:=(bif (decide ((a0.length:Int)>(a1.length:Int))) then (false:Bool) else (eg (S:=Unit) (β:=Bool) (fun (i2:Nat) (s4:Unit)=>(cond (!(Z227.md ((a0.getD i2 aa.zero).aq) ((a1.getD i2 aa.zero).aq))) (.inr (false:Bool)) (.inl ()))) (fun (s4:Unit)=>(true:Bool)) a0.length 0 ()))
def gd (a0:List aa)(a1:List aa):Prop:=(bK (2^21) (fun y:aa=>aa.Sm (2^21) y) a0)∧(bK (2^21) (fun y:aa=>aa.Sm (2^21) y) a1)
def R:=RR (p2 gd) (u2 md)
theorem aj {a0 a1}(h:gd a0 a1):R ((a0.map aa.row),(a1.map aa.row))=some (md a0 a1):=aM (a:=(a0,a1)) h
def aV:=CN [pL 123,pL 123] oB RT.dec R
theorem bq (a0)(a1)(hg:gd a0 a1):∃n,start (iter step n) (a0.map aa.row) (a1.map aa.row)=ret (md a0 a1):=by
 obtain ⟨H0,H1⟩:=hg
 unfold start md
 try simp only [SS]
 refine gT ret (fun _=>⟨0,rfl⟩) (fun c1=>?_)
 have dc1:=c1
 try simp only [DC] at dc1
 have Bh3:a0.length≤maxLen:=(by
   have:=(H0).1
   try simp only [maxLen] at *
   omega)
 refine dN (p:=Pt.p0 (a1.map aa.row) (a0.map aa.row) (a0.length:Int) 0) fz ?_
 refine ck (pt:=fun (i2:Nat) (s4:Unit)=>Pt.p0 (a1.map aa.row) (a0.map aa.row) (a0.length:Int) (i2:Int)) (s:=(():Unit)) (out:=ret) (fun _ _=>True) (fun J i2 s4 h3 hih3=>?_) (fun s4 hih3=>?_) trivial
 ·simp only [step,SS]
  have bb_:=Bh3
  simp only [maxLen] at bb_
  have:=(H0).1
  refine bt.yes (by apply decide_eq_true;omega) ?_
  refine bt.yes aH ?_
  refine bt.yes (aL h3) ?_
  refine bt.yes aH ?_
  refine bt.yes (have:=(H1).1;dt) ?_
  refine cr (Z227.aj ⟨(bK.getD (z:=aa.zero) H0 h3).1,(bK.getD (z:=aa.zero) H1 (by first | assumption | omega | (simp (disch:=omega) only [wi];omega) | (simp;omega))).1⟩) ?_
  refine bt.bif (fun _=>bt.inr rfl) (fun c5=>?_)
  refine bt.inl trivial ?_
  rw [aE h3 Bh3]
  all_goals exact fz
 ·simp only [step,SS]
  have:=(H0).1
  refine dx (by apply decide_eq_false;omega) ?_
  refine ⟨0,?_⟩
  all_goals exact fz
theorem af:cw 88 aV:=L2 29 pid bY bZ live step start mix aD bq (.cons Z227.af .nil) Tryz.func88
theorem br (a0:List aa)(a1:List aa):md a0 a1=Z99.md a0 a1:=by
 unfold md Z99.md
 first
 | (simp only [Z227.md_eq,Z98.md_eq];done)
 | (simp only [Z227.md_eq,Z98.md_eq];rfl)
 | rfl
end Z228
namespace Z229
def F (x0:bn)(x1:List (List L)):aG:=(call (Z174.R x1) fun v1=>(cond (!v1) (ret (6:Int)) (bX (decide ((0:Int)<(x1.length:Int))) (call (Z226.R (x0,(aO.at x1 0).aq.bA)) fun v2=>(cond (decide (v2<0)) (ret (1:Int)) (m2 v2 (x0.aF.length:Int) (call (Z228.R ((oO x0.aF (toNat v2)),x1)) fun v3=>(m2 v2 (x0.aF.length:Int) (call (Z228.R (x1,(oO x0.aF (toNat v2)))) fun v4=>(cond v3 (cond v4 (ret (2:Int)) (cond v3 (ret (3:Int)) (cond v4 (ret (4:Int)) (ret (5:Int))))) (cond v3 (ret (3:Int)) (cond v4 (ret (4:Int)) (ret (5:Int))))))))))))))
def md (a0:au)(a1:List aa):Int:=(cond (!(Z174.md a1)) (6:Int) (cond (decide ((Z226.md a0 (((a1.getD 0 aa.zero).aq).bA))<0)) (1:Int) (cond (Z228.md (a0.aF.getD (toNat (Z226.md a0 (((a1.getD 0 aa.zero).aq).bA))) []) a1) (cond (Z228.md a1 (a0.aF.getD (toNat (Z226.md a0 (((a1.getD 0 aa.zero).aq).bA))) [])) (2:Int) (cond (Z228.md (a0.aF.getD (toNat (Z226.md a0 (((a1.getD 0 aa.zero).aq).bA))) []) a1) (3:Int) (cond (Z228.md a1 (a0.aF.getD (toNat (Z226.md a0 (((a1.getD 0 aa.zero).aq).bA))) [])) (4:Int) (5:Int)))) (cond (Z228.md (a0.aF.getD (toNat (Z226.md a0 (((a1.getD 0 aa.zero).aq).bA))) []) a1) (3:Int) (cond (Z228.md a1 (a0.aF.getD (toNat (Z226.md a0 (((a1.getD 0 aa.zero).aq).bA))) [])) (4:Int) (5:Int))))))
def gd (a0:au)(a1:List aa):Prop:=(au.Sm (2^21) a0)∧(bK (2^21) (fun y:aa=>aa.Sm (2^21) y) a1)
def R:=RR (p2 gd) (u2 md)
theorem aj {a0 a1}(h:gd a0 a1):R ((au.r a0),(a1.map aa.row))=some (md a0 a1):=aM (a:=(a0,a1)) h
def aV:=CN [.agg tI,pL 123] oI RT.dec R
theorem bq (a0)(a1)(hg:gd a0 a1):F (au.r a0) (a1.map aa.row)=ret (md a0 a1):=by
 obtain ⟨H0,H1⟩:=hg
 unfold F md
 try simp only [SS]
 refine ct (Z174.aj H1) ?_
 refine av ret (fun _=>rfl) (fun c1=>?_)
 have dc1:=c1
 try simp only [DC] at dc1
 try have tc1:=Z174.tr (by simpa using c1)
 refine ak (have:=(H1).1;dt) ?_
 refine ct (Z226.aj H0) ?_
 have fv2_:=Z226.fa a0 (((a1.getD 0 aa.zero).aq).bA)
 refine av ret (fun _=>rfl) (fun c2=>?_)
 have dc2:=c2
 try simp only [DC] at dc2
 refine ak dt ?_
 refine ak (have:=(H0.1).1;dt) ?_
 refine ct (Z228.aj ⟨(bK.getD (z:=[]) H0.1 (by first | assumption | omega | (simp (disch:=omega) only [wi];omega) | (simp;omega))),H1⟩) ?_
 refine ak dt ?_
 refine ak (have:=(H0.1).1;dt) ?_
 refine ct (Z228.aj ⟨H1,(bK.getD (z:=[]) H0.1 (by first | assumption | omega | (simp (disch:=omega) only [wi];omega) | (simp;omega)))⟩) ?_
 refine av ret (fun c3=>?_) (fun c3=>?_)
 ·refine av ret (fun _=>rfl) (fun c4=>?_)
  refine av ret (fun _=>rfl) (fun c5=>?_)
  refine av ret (fun _=>rfl) (fun _=>rfl)
 ·refine av ret (fun _=>rfl) (fun c7=>?_)
  refine av ret (fun _=>rfl) (fun _=>rfl)
theorem af:cw 90 aV:=W2 43 F mix aD bq (.cons Z174.af (.cons Z226.af (.cons Z228.af .nil))) Tryz.func90
theorem fa (a0:au)(a1:List aa):(md a0 a1=3→1≤a1.length∧0≤Z226.md a0 (a1.getD 0 aa.zero).aq.bA)∧(md a0 a1=5→1≤a1.length∧0≤Z226.md a0 (a1.getD 0 aa.zero).aq.bA):=by
 unfold md
 cases h:Z174.md a1
 ·exact ⟨fun h=>by simp at h,fun h=>by simp at h⟩
 ·have t:=Z174.tr h
  cases hf:decide (Z226.md a0 ((a1.getD 0 aa.zero).aq.bA)<0)
  ·have:=of_decide_eq_false hf
   exact ⟨fun _=>⟨t.1,by omega⟩,fun _=>⟨t.1,by omega⟩⟩
  ·exact ⟨fun h=>by simp at h,fun h=>by simp at h⟩
theorem br (a0:au)(a1:List aa):md a0 a1=Z100.md a0 a1:=by
 unfold md Z100.md
 first
 | (simp only [Z174.br,Z226.br,Z228.br];done)
 | (simp only [Z174.br,Z226.br,Z228.br];rfl)
 | rfl
end Z229
namespace Z230
inductive Pt where
 | p0 (a:List (List L)) (b:List (List L)) (c:Int) (d:Int) (e:Int) (f:Int) (g:Int) (h:Int) (i:Int) (j:Int) (k:Int) (l:Int) (m:Int) (n:Int) (o:Int) (p:Bool) (q:Int) (s:Int) (t:Int) (u:Int) (v:Int) (w:Int) (y:Int) (z:Int) (w24:Int) (w25:Int) (w26:Int) (w27:Int) (w28:Bool) (w29:Int) (w30:Int) (w31:Int) (w32:Int) (w33:Int) (w34:Int) (w35:Int) (w36:Int) (w37:Int) (w38:Int) (w39:Int) (w40:Int) (w41:Bool)
def pid:Pt→Nat
 | .p0 ..=>4
def bY:Pt→List V
 | .p0 a b c d e f g h i j k l m n o p q s t u v w y z w24 w25 w26 w27 w28 w29 w30 w31 w32 w33 w34 w35 w36 w37 w38 w39 w40 w41=>[.sl none 123 a,.sl none 123 b,.dc 0 0,.int .i64 c]
def bZ:Pt→List aU
 | .p0 a b c d e f g h i j k l m n o p q s t u v w y z w24 w25 w26 w27 w28 w29 w30 w31 w32 w33 w34 w35 w36 w37 w38 w39 w40 w41=>[.box [.int .i64 d,.int .i64 e,.int .i64 f,.int .i64 g,.int .i64 h,.int .i64 i,.int .i64 j,.int .i64 k,.nil,.int .i64 l,.nil,.int .i64 m,.int .i64 n,.nil,.int .i64 o,.bool p,.nil,.int .i64 q,.int .i64 s,.int .i64 t,.int .i64 u,.int .i64 v,.int .i64 w,.int .i64 y,.int .i64 z,.nil,.int .i64 w24,.nil,.int .i64 w25,.int .i64 w26,.nil,.int .i64 w27,.bool w28,.nil,.int .i64 w29,.int .i64 w30,.int .i64 w31,.int .i64 w32,.int .i64 w33,.int .i64 w34,.int .i64 w35,.int .i64 w36,.nil,.int .i64 w37,.nil,.int .i64 w38,.int .i64 w39,.nil,.int .i64 w40,.bool w41,.nil]]
def step (J:Pt→aG):Pt→aG
 | .p0 a b c d e f g h i j k l m n o p q s t u v w y z w24 w25 w26 w27 w28 w29 w30 w31 w32 w33 w34 w35 w36 w37 w38 w39 w40 w41=>(m2 c (a.length:Int) (m2 c (b.length:Int) (call (Z227.R ((aO.at a (toNat c)).aq,(aO.at b (toNat c)).aq)) fun v1=>(cond v1 (J (.p0 a b (i64.wrap (c+1)) d e f g h i j k l m n o p q s t u v w y z w24 w25 w26 w27 w28 w29 w30 w31 w32 w33 w34 w35 w36 w37 w38 w39 w40 w41)) (m2 c (a.length:Int) (call (Z126.R (aO.at a (toNat c))) fun v2=>(m2 c (b.length:Int) (call (Z126.R (aO.at b (toNat c))) fun v3=>(cond (decide (c>0)) (bX (decide ((0:Int)≤(i64.wrap (c - 1)))) (bX (decide ((i64.wrap (c - 1))<(a.length:Int))) (call (Z126.R (aO.at a (toNat (i64.wrap (c - 1))))) fun v4=>ret (((⟨v4,v2,v3⟩:bF),true):bF×Bool)))) (ret (((⟨(⟨(⟨0,0,0,0,0,0,0,0,(⟨[],0⟩:bu),(⟨[],0⟩:bu),0,(⟨[],0⟩:bu),false⟩:bU),[]⟩:aO),v2,v3⟩:bF),true):bF×Bool)))))))))))
def start (J:Pt→aG)(x0:List (List L))(x1:List (List L)):aG:=(call (Z174.R x0) fun v1=>(cond (!v1) (ret (((⟨(⟨(⟨0,0,0,0,0,0,0,0,(⟨[],0⟩:bu),(⟨[],0⟩:bu),0,(⟨[],0⟩:bu),false⟩:bU),[]⟩:aO),(⟨(⟨0,0,0,0,0,0,0,0,(⟨[],0⟩:bu),(⟨[],0⟩:bu),0,(⟨[],0⟩:bu),false⟩:bU),[]⟩:aO),(⟨(⟨0,0,0,0,0,0,0,0,(⟨[],0⟩:bu),(⟨[],0⟩:bu),0,(⟨[],0⟩:bu),false⟩:bU),[]⟩:aO)⟩:bF),false):bF×Bool)) (call (Z174.R x1) fun v2=>(cond (!v2) (ret (((⟨(⟨(⟨0,0,0,0,0,0,0,0,(⟨[],0⟩:bu),(⟨[],0⟩:bu),0,(⟨[],0⟩:bu),false⟩:bU),[]⟩:aO),(⟨(⟨0,0,0,0,0,0,0,0,(⟨[],0⟩:bu),(⟨[],0⟩:bu),0,(⟨[],0⟩:bu),false⟩:bU),[]⟩:aO),(⟨(⟨0,0,0,0,0,0,0,0,(⟨[],0⟩:bu),(⟨[],0⟩:bu),0,(⟨[],0⟩:bu),false⟩:bU),[]⟩:aO)⟩:bF),false):bF×Bool)) (bX (decide ((0:Int)<(x0.length:Int))) (bX (decide ((0:Int)<(x1.length:Int))) (cond ((aO.at x0 0).aq.bA != (aO.at x1 0).aq.bA) (ret (((⟨(⟨(⟨0,0,0,0,0,0,0,0,(⟨[],0⟩:bu),(⟨[],0⟩:bu),0,(⟨[],0⟩:bu),false⟩:bU),[]⟩:aO),(⟨(⟨0,0,0,0,0,0,0,0,(⟨[],0⟩:bu),(⟨[],0⟩:bu),0,(⟨[],0⟩:bu),false⟩:bU),[]⟩:aO),(⟨(⟨0,0,0,0,0,0,0,0,(⟨[],0⟩:bu),(⟨[],0⟩:bu),0,(⟨[],0⟩:bu),false⟩:bU),[]⟩:aO)⟩:bF),false):bF×Bool)) (call (Z228.R (x0,x1)) fun v3=>(cond v3 (ret (((⟨(⟨(⟨0,0,0,0,0,0,0,0,(⟨[],0⟩:bu),(⟨[],0⟩:bu),0,(⟨[],0⟩:bu),false⟩:bU),[]⟩:aO),(⟨(⟨0,0,0,0,0,0,0,0,(⟨[],0⟩:bu),(⟨[],0⟩:bu),0,(⟨[],0⟩:bu),false⟩:bU),[]⟩:aO),(⟨(⟨0,0,0,0,0,0,0,0,(⟨[],0⟩:bu),(⟨[],0⟩:bu),0,(⟨[],0⟩:bu),false⟩:bU),[]⟩:aO)⟩:bF),false):bF×Bool)) (call (Z228.R (x1,x0)) fun v4=>(cond v4 (ret (((⟨(⟨(⟨0,0,0,0,0,0,0,0,(⟨[],0⟩:bu),(⟨[],0⟩:bu),0,(⟨[],0⟩:bu),false⟩:bU),[]⟩:aO),(⟨(⟨0,0,0,0,0,0,0,0,(⟨[],0⟩:bu),(⟨[],0⟩:bu),0,(⟨[],0⟩:bu),false⟩:bU),[]⟩:aO),(⟨(⟨0,0,0,0,0,0,0,0,(⟨[],0⟩:bu),(⟨[],0⟩:bu),0,(⟨[],0⟩:bu),false⟩:bU),[]⟩:aO)⟩:bF),false):bF×Bool)) (J (.p0 x0 x1 0 0 0 0 0 0 0 0 0 0 0 0 0 false 0 0 0 0 0 0 0 0 0 0 0 0 false 0 0 0 0 0 0 0 0 0 0 0 0 false)))))))))))))
def live:Nat→Live:=fun i=>match i with | 4=>[(0,none),(1,none),(4,none),(6,none)] | _=>[]
def pt (a b:List (List L))(c:Int):Pt:=Pt.p0 a b c 0 0 0 0 0 0 0 0 0 0 0 0 false 0 0 0 0 0 0 0 0 0 0 0 0 false 0 0 0 0 0 0 0 0 0 0 0 0 false
def md (a0:List aa)(a1:List aa):aB×Bool:=(cond (!(Z174.md a0)) (aB.zero,false) (cond (!(Z174.md a1)) (aB.zero,false) (cond (((a0.getD 0 aa.zero).aq).bA != ((a1.getD 0 aa.zero).aq).bA) (aB.zero,false) (cond (Z228.md a0 a1) (aB.zero,false) (cond (Z228.md a1 a0) (aB.zero,false) (Z101.uP a0 a1 (Z101.fk a0 a1),true))))))
def gd (a0:List aa)(a1:List aa):Prop:=bK (2^21) (fun y:aa=>aa.Sm (2^21) y) a0∧bK (2^21) (fun y:aa=>aa.Sm (2^21) y) a1
def R:=RR (p2 gd) (u2 md)
theorem aj {a0 a1}(h:gd a0 a1):R ((a0.map aa.row),(a1.map aa.row))=some ((aB.r (md a0 a1).1),(md a0 a1).2):=aM (a:=(a0,a1)) h
def aV:=CN [pL 123,pL 123] (.iT [(true,f280),(false,[fB])]) RT.dec R
theorem bq (a0)(a1)(hg:gd a0 a1):∃n,start (iter step n) (a0.map aa.row) (a1.map aa.row)=ret ((aB.r (md a0 a1).1),(md a0 a1).2):=by
 unfold gd at hg
 obtain ⟨H0,H1⟩:=hg
 have hl0:=H0.1
 have hl1:=H1.1
 have key:Z101.fk a0 a1<a0.length→Z101.fk a0 a1<a1.length→Z98.md (a0.getD (Z101.fk a0 a1) aa.zero).aq (a1.getD (Z101.fk a0 a1) aa.zero).aq=false→∀d k,k+d=Z101.fk a0 a1→∃n,iter step n (pt (a0.map aa.row) (a1.map aa.row) (k:Int))=ret ((aB.r (Z101.uP a0 a1 (Z101.fk a0 a1)),true):bF×Bool):=by
  intro hn0 hn1 hne d
  have hR:∀k,k<a0.length→k<a1.length→Z227.R (aC.r (a0.getD k aa.zero).aq,aC.r (a1.getD k aa.zero).aq)=some (Z98.md (a0.getD k aa.zero).aq (a1.getD k aa.zero).aq):=by
   intro k h0 h1
   rw [Z227.aj ⟨(bK.getD (z:=aa.zero) H0 h0).1,(bK.getD (z:=aa.zero) H1 h1).1⟩,Z227.md_eq,Z98.md_eq]
  induction d with
  | zero=>
   intro k hk
   obtain rfl:k=Z101.fk a0 a1:=by omega
   generalize hkk:Z101.fk a0 a1=k at hn0 hn1 hne ⊢
   refine ⟨1,?_⟩
   show step (iter step 0) _=_
   have q1:(0:Int)≤(k:Int):=by omega
   have q2:(k:Int)<(a0.length:Int):=by omega
   have q3:(k:Int)<(a1.length:Int):=by omega
   simp only [pt,step,MM,S0,aa.rs,aC.rs,q1,q2,q3,decide_true,bf]
   rw [call_eq (hR k hn0 hn1),hne,bk,call_eq (Z126.aj (a0:=a0.getD k aa.zero) (bK.getD (z:=aa.zero) H0 hn0)),call_eq (Z126.aj (a0:=a1.getD k aa.zero) (bK.getD (z:=aa.zero) H1 hn1))]
   cases k with
   | zero=>rfl
   | succ k=>
    have q4:((k+1:Nat):Int)>0:=by omega
    have q5:i64.wrap (((k+1:Nat):Int) - 1)=(k:Int):=by rw [wi _ (by omega)];omega
    have q6:(0:Int)≤(k:Int):=by omega
    have q7:(k:Int)<(a0.length:Int):=by omega
    simp only [q4,q5,q6,q7,decide_true,bf,S0,aa.rs]
    rw [call_eq (Z126.aj (a0:=a0.getD k aa.zero) (bK.getD (z:=aa.zero) H0 (by omega)))]
    rfl
  | succ d ih=>
   intro k hk
   obtain ⟨n,hn⟩:=ih (k+1) (by omega)
   refine ⟨n+1,?_⟩
   show step (iter step n) _=_
   have q1:(0:Int)≤(k:Int):=by omega
   have q2:(k:Int)<(a0.length:Int):=by omega
   have q3:(k:Int)<(a1.length:Int):=by omega
   simp only [pt,step,MM,S0,aa.rs,aC.rs,q1,q2,q3,decide_true,bf]
   rw [call_eq (hR k (by omega) (by omega)),(Z101.pX a0 a1).1 k (by omega),bf,wi _ (by omega)]
   exact hn
 unfold start md
 simp only [S0,aa.rs,aC.rs]
 refine eW (Z174.md a0) (Z174.aj H0) ?_
 cases hc0:Z174.md a0
 ·exact ⟨0,rfl⟩
 simp only [Bool.not_true,bk]
 refine eW (Z174.md a1) (Z174.aj H1) ?_
 cases hc1:Z174.md a1
 ·exact ⟨0,rfl⟩
 have t0:=Z174.tr hc0
 have t1:=Z174.tr hc1
 simp only [Bool.not_true,bk]
 refine dI (decide_eq_true (by omega)) (dI (decide_eq_true (by omega)) ?_)
 cases ((a0.getD 0 aa.zero).aq.bA != (a1.getD 0 aa.zero).aq.bA)
 case true=>exact ⟨0,rfl⟩
 simp only [bk]
 refine eW (Z228.md a0 a1) (Z228.aj ⟨H0,H1⟩) ?_
 cases hp0:Z228.md a0 a1
 case true=>exact ⟨0,rfl⟩
 simp only [bk]
 refine eW (Z228.md a1 a0) (Z228.aj ⟨H1,H0⟩) ?_
 cases hp1:Z228.md a1 a0
 case true=>exact ⟨0,rfl⟩
 simp only [bk]
 rw [Z228.br] at hp0 hp1
 obtain ⟨h1,h2,h3⟩:=Z101.kV hp0 hp1
 exact key h1 h2 h3 (Z101.fk a0 a1) 0 (by omega)
theorem af:cw 243 aV:=L2 74 pid bY bZ live step start mix aD bq (.cons Z174.af (.cons Z228.af (.cons Z227.af (.cons Z126.af .nil)))) Tryz.func243
theorem gh {a0:List aa}{a1:List aa}(hg:gd a0 a1):aB.Sm (2^21) ((md a0 a1).1):=by
 unfold gd at hg;unfold md
 have z:aB.Sm (2^21) aB.zero:=⟨⟨⟨bK.nil,bK.nil,bK.nil⟩,bK.nil⟩,⟨⟨bK.nil,bK.nil,bK.nil⟩,bK.nil⟩,⟨⟨bK.nil,bK.nil,bK.nil⟩,bK.nil⟩⟩
 cases Z174.md a0
 ·exact z
 cases Z174.md a1
 ·exact z
 cases ((a0.getD 0 aa.zero).aq.bA != (a1.getD 0 aa.zero).aq.bA)
 case true=>exact z
 cases h1:Z228.md a0 a1
 case true=>exact z
 cases h2:Z228.md a1 a0
 case true=>exact z
 rw [Z228.br] at h1 h2
 obtain ⟨h3,h4,_⟩:=Z101.kV h1 h2
 exact Z101.wm hg.1 hg.2 h3 h4
theorem br (a0:List aa)(a1:List aa):md a0 a1=Z101.md a0 a1:=by
 unfold md Z101.md
 first
 | (simp only [Z174.br,Z228.br,Z227.md_eq,Z98.md_eq];done)
 | (simp only [Z174.br,Z228.br,Z227.md_eq,Z98.md_eq];rfl)
 | rfl
end Z230
namespace Z231
def F (x0:bn)(x1:List (List L)):aG:=(call (Z129.R x0) fun v1=>(call (Z229.R (x0,x1)) fun v2=>(cond (v2==1) (cond (decide ((x0.aF.length:Int)≥8)) (ret ((v1,6):bn×Int)) (call (Z127.R x1) fun v3=>(bX (eU (((v1.aF.length:Int)+1)*24)) (ret (((⟨(v1.aF++[[L.sl v3]]),v1.bg⟩:bn),v2):bn×Int))))) (cond (v2==3) (bX (decide ((0:Int)<(x1.length:Int))) (call (Z226.R (x0,(aO.at x1 0).aq.bA)) fun v4=>(call (Z127.R x1) fun v5=>(m2 v4 (v1.aF.length:Int) (ret (((⟨(List.set v1.aF (toNat v4) [L.sl v5]),v1.bg⟩:bn),v2):bn×Int)))))) (cond (v2==5) (bX (decide ((0:Int)<(x1.length:Int))) (call (Z226.R (x0,(aO.at x1 0).aq.bA)) fun v6=>(m2 v6 (x0.aF.length:Int) (call (Z230.R ((oO x0.aF (toNat v6)),x1)) fun v7=>(cond v7.2 (cond (decide ((x0.bg.length:Int)<8)) (bX (eU (((v1.bg.length:Int)+1)*600)) (ret (((⟨v1.aF,(v1.bg++[(bF.enc v7.1)])⟩:bn),v2):bn×Int))) (ret ((v1,v2):bn×Int))) (ret ((v1,v2):bn×Int))))))) (ret ((v1,v2):bn×Int)))))))
def md (a0:au)(a1:List aa):au×Int:=(cond ((Z229.md a0 a1)==1) (cond (decide ((a0.aF.length:Int)≥8)) (a0,6) ((⟨(a0.aF++[a1]),a0.bg⟩:au),(Z229.md a0 a1))) (cond ((Z229.md a0 a1)==3) ((⟨(List.set a0.aF (toNat (Z226.md a0 (((a1.getD 0 aa.zero).aq).bA))) a1),a0.bg⟩:au),(Z229.md a0 a1)) (cond ((Z229.md a0 a1)==5) (cond ((Z230.md (a0.aF.getD (toNat (Z226.md a0 (((a1.getD 0 aa.zero).aq).bA))) []) a1).2) (cond (decide ((a0.bg.length:Int)<8)) ((⟨a0.aF,(a0.bg++[(Z230.md (a0.aF.getD (toNat (Z226.md a0 (((a1.getD 0 aa.zero).aq).bA))) []) a1).1])⟩:au),(Z229.md a0 a1)) (a0,(Z229.md a0 a1))) (a0,(Z229.md a0 a1))) (a0,(Z229.md a0 a1)))))
def gd (a0:au)(a1:List aa):Prop:=(au.Sm (2^21) a0)∧(bK (2^21) (fun y:aa=>aa.Sm (2^21) y) a1)
def R:=RR (p2 gd) (u2 md)
theorem aj {a0 a1}(h:gd a0 a1):R ((au.r a0),(a1.map aa.row))=some ((au.r (md a0 a1).1),(md a0 a1).2):=aM (a:=(a0,a1)) h
def aV:=CN [.agg tI,pL 123] (.iT [(true,f37),(false,[fI])]) RT.dec R
theorem bq (a0)(a1)(hg:gd a0 a1):F (au.r a0) (a1.map aa.row)=ret ((au.r (md a0 a1).1),(md a0 a1).2):=by
 obtain ⟨H0,H1⟩:=hg
 unfold F md
 try simp only [SS]
 refine ct (Z129.aj H0) ?_
 try simp only [SS]
 refine ct (Z229.aj ⟨H0,H1⟩) ?_
 have fv2_:=Z229.fa a0 a1
 refine av (fun b:au×Int=>ret (((au.r b.1),b.2):bn×Int)) (fun c1=>?_) (fun c1=>?_)
 ·have dc1:=c1
  try simp only [DC] at dc1
  refine av (fun b:au×Int=>ret (((au.r b.1),b.2):bn×Int)) (fun c2=>?_) (fun c2=>?_)
  ·all_goals exact fz
  ·have dc2:=c2
   try simp only [DC] at dc2
   refine ct (Z127.aj H1) ?_
   try simp only [SS]
   refine ak (have:=(H0.1).1;lm) ?_
   all_goals exact fz
 ·have dc1:=c1
  try simp only [DC] at dc1
  refine av (fun b:au×Int=>ret (((au.r b.1),b.2):bn×Int)) (fun c3=>?_) (fun c3=>?_)
  ·have dc3:=c3
   try simp only [DC] at dc3
   refine ak (have:=(H1).1;dt) ?_
   refine ct (Z226.aj H0) ?_
   have fv4_:=Z226.fa a0 (((a1.getD 0 aa.zero).aq).bA)
   refine ct (Z127.aj H1) ?_
   try simp only [SS]
   refine ak dt ?_
   refine ak (have:=(H0.1).1;dt) ?_
   all_goals exact fz
  ·have dc3:=c3
   try simp only [DC] at dc3
   refine av (fun b:au×Int=>ret (((au.r b.1),b.2):bn×Int)) (fun c4=>?_) (fun c4=>?_)
   ·have dc4:=c4
    try simp only [DC] at dc4
    refine ak (have:=(H1).1;dt) ?_
    refine ct (Z226.aj H0) ?_
    have fv6_:=Z226.fa a0 (((a1.getD 0 aa.zero).aq).bA)
    refine ak dt ?_
    refine ak (have:=(H0.1).1;dt) ?_
    refine ct (Z230.aj ⟨(bK.getD (z:=[]) H0.1 (by first | assumption | omega | (simp (disch:=omega) only [wi];omega) | (simp;omega))),H1⟩) ?_
    try simp only [SS]
    refine av (fun b:au×Int=>ret (((au.r b.1),b.2):bn×Int)) (fun c5=>?_) (fun c5=>?_)
    ·refine av (fun b:au×Int=>ret (((au.r b.1),b.2):bn×Int)) (fun c6=>?_) (fun c6=>?_)
     ·have dc6:=c6
      try simp only [DC] at dc6
      refine ak (have:=(H0.2).1;lm) ?_
      all_goals exact fz
     ·all_goals exact fz
    ·all_goals exact fz
   ·all_goals exact fz
theorem af:cw 82 aV:=W2 77 F mix aD bq (.cons Z129.af (.cons Z229.af (.cons Z127.af (.cons Z226.af (.cons Z230.af .nil))))) Tryz.func82
theorem gh {a0:au}{a1:List aa}(hg:gd a0 a1):au.Sm (2^21) ((md a0 a1).1):=by
 unfold gd at hg;unfold md
 obtain ⟨⟨h1,h2⟩,h3⟩:=hg
 simp only [Bool.cond_eq_ite]
 repeat' split
 all_goals (try simp only [decide_eq_true_eq,ge_iff_le] at *)
 all_goals first
  | exact ⟨h1,h2⟩
  | exact ⟨bK.app (a:=7) (b:=1) ⟨by omega,h1.2⟩ (bK.one h3) (by decide),h2⟩
  | exact ⟨bK.set h1 h3,h2⟩
  | exact ⟨h1,bK.app (a:=7) (b:=1) ⟨by omega,h2.2⟩ (bK.one (Z230.gh ⟨bK.vO h1 bK.nil,h3⟩)) (by decide)⟩
theorem br (a0:au)(a1:List aa):md a0 a1=Z102.md a0 a1:=by
 unfold md Z102.md
 first
 | (simp only [Z229.br,Z226.br,Z230.br];done)
 | (simp only [Z229.br,Z226.br,Z230.br];rfl)
 | rfl
end Z231
namespace Z232
inductive Pt where
 | p0 (a:List (List L)) (b:List (List L)) (c:Int) (d:Int)
def pid:Pt→Nat
 | .p0 ..=>4
def bY:Pt→List V
 | .p0 a b c d=>[.sl none 428 a,.sl none 428 b,.int .i64 c,.int .i64 d]
def bZ:Pt→List aU
 | .p0 a b c d=>[]
def step (J:Pt→aG):Pt→aG
 | .p0 a b c d=>(cond (decide (d<c)) (m2 d (a.length:Int) (m2 d (b.length:Int) (cond (!((((aY.at a (toNat d)).gN:Int)==(aY.at b (toNat d)).gN)&&((((aY.at a (toNat d)).jw:Int)==(aY.at b (toNat d)).jw)&&true))) (ret (false:Bool)) (J (.p0 a b c (i64.wrap (d+1))))))) (ret (true:Bool)))
def start (J:Pt→aG)(x0:List (List L))(x1:List (List L)):aG:=(cond ((x0.length:Int) != (x1.length:Int)) (ret (false:Bool)) (J (.p0 x0 x1 (x0.length:Int) 0)))
def live:Nat→Live:=fun i=>match i with | 4=>[(0,none),(1,none),(12,none),(13,none)] | _=>[]
def md (a0:List aY)(a1:List aY):Bool:=(bif ((a0.length:Int) != (a1.length:Int)) then (false:Bool) else (eg (S:=Unit) (β:=Bool) (fun (i2:Nat) (s4:Unit)=>(cond (!((((a0.getD i2 aY.zero).gN:Int)==(a1.getD i2 aY.zero).gN)&&((((a0.getD i2 aY.zero).jw:Int)==(a1.getD i2 aY.zero).jw)&&true))) (.inr (false:Bool)) (.inl ()))) (fun (s4:Unit)=>(true:Bool)) a0.length 0 ()))
def gd (a0:List aY)(a1:List aY):Prop:=(bK (2^21) (fun y:aY=>aY.Sm (2^21) y) a0)∧(bK (2^21) (fun y:aY=>aY.Sm (2^21) y) a1)
def R:=RR (p2 gd) (u2 md)
theorem aj {a0 a1}(h:gd a0 a1):R ((a0.map aY.row),(a1.map aY.row))=some (md a0 a1):=aM (a:=(a0,a1)) h
def aV:=CN [pL 428,pL 428] oB RT.dec R
theorem bq (a0)(a1)(hg:gd a0 a1):∃n,start (iter step n) (a0.map aY.row) (a1.map aY.row)=ret (md a0 a1):=by
 obtain ⟨H0,H1⟩:=hg
 unfold start md
 try simp only [SS]
 refine gT ret (fun _=>⟨0,rfl⟩) (fun c1=>?_)
 have dc1:=c1
 try simp only [DC] at dc1
 have Bh3:a0.length≤maxLen:=(by
   have:=(H0).1
   try simp only [maxLen] at *
   omega)
 refine dN (p:=Pt.p0 (a0.map aY.row) (a1.map aY.row) (a0.length:Int) 0) fz ?_
 refine ck (pt:=fun (i2:Nat) (s4:Unit)=>Pt.p0 (a0.map aY.row) (a1.map aY.row) (a0.length:Int) (i2:Int)) (s:=(():Unit)) (out:=ret) (fun _ _=>True) (fun J i2 s4 h3 hih3=>?_) (fun s4 hih3=>?_) trivial
 ·simp only [step,SS]
  have bb_:=Bh3
  simp only [maxLen] at bb_
  have:=(H0).1
  refine bt.yes (by apply decide_eq_true;omega) ?_
  refine bt.yes aH ?_
  refine bt.yes (aL h3) ?_
  refine bt.yes aH ?_
  refine bt.yes (have:=(H1).1;dt) ?_
  refine bt.bif (fun _=>bt.inr rfl) (fun c5=>?_)
  refine bt.inl trivial ?_
  rw [aE h3 Bh3]
  all_goals exact fz
 ·simp only [step,SS]
  have:=(H0).1
  refine dx (by apply decide_eq_false;omega) ?_
  refine ⟨0,?_⟩
  all_goals exact fz
theorem af:cw 453 aV:=L2 26 pid bY bZ live step start mix aD bq .nil Tryz.func453
theorem md_eq (a0:List aY)(a1:List aY):md a0 a1=dZ a0 a1:=by
 unfold md
 refine jX (aY.zero) (fun i s h h2=>?_) (fun s=>rfl)
 simp only [bne,fq,bool_beq,eS,aY.eqc]
 cases dZ _ _<;>rfl
end Z232
namespace Z233
def F (x0:aO)(x1:aO):aG:=(call (Z227.R (x0.aq,x1.aq)) fun v1=>(cond v1 (call (Z232.R (x0.bW,x1.bW)) fun v2=>ret (v2:Bool)) (ret (false:Bool))))
def md (a0:aa)(a1:aa):Bool:=(cond (Z227.md a0.aq a1.aq) ((Z232.md a0.bW a1.bW):Bool) (false:Bool))
def gd (a0:aa)(a1:aa):Prop:=(aa.Sm (2^21) a0)∧(aa.Sm (2^21) a1)
def R:=RR (p2 gd) (u2 md)
theorem aj {a0 a1}(h:gd a0 a1):R ((aa.r a0),(aa.r a1))=some (md a0 a1):=aM (a:=(a0,a1)) h
def aV:=CN [.agg kH,.agg kH] oB RT.dec R
theorem bq (a0)(a1)(hg:gd a0 a1):F (aa.r a0) (aa.r a1)=ret (md a0 a1):=by
 obtain ⟨H0,H1⟩:=hg
 unfold F md
 try simp only [SS]
 refine ct (Z227.aj ⟨H0.1,H1.1⟩) ?_
 refine av ret (fun c1=>?_) (fun _=>rfl)
 refine ct (Z232.aj ⟨H0.2,H1.2⟩) ?_
 all_goals exact fz
theorem af:cw 370 aV:=W2 17 F mix aD bq (.cons Z227.af (.cons Z232.af .nil)) Tryz.func370
theorem md_eq (a0:aa)(a1:aa):md a0 a1=dZ a0 a1:=by
 unfold md
 cases a0;cases a1
 rw [Bool.eq_iff_iff]
 simp [dm,eS,aa.mk.injEq,Z227.md_eq,Z232.md_eq]
 try (constructor<;>(intro h;simp_all))
end Z233
namespace Z234
def F (x0:bF):aG:=(call (Z227.R (x0.fA.aq,x0.fB.aq)) fun v1=>(cond v1 (ret (false:Bool)) (call (Z233.R (x0.aP,(⟨(⟨0,0,0,0,0,0,0,0,(⟨[],0⟩:bu),(⟨[],0⟩:bu),0,(⟨[],0⟩:bu),false⟩:bU),[]⟩:aO))) fun v2=>(cond v2 (call (Z162.R x0.fA) fun v3=>(cond v3 (call (Z162.R x0.fB) fun v4=>(cond v4 (ret ((x0.fA.aq.bA==x0.fB.aq.bA):Bool)) (ret (false:Bool)))) (ret (false:Bool)))) (call (Z172.R (x0.aP.aq,x0.fA)) fun v5=>(cond v5 (call (Z172.R (x0.aP.aq,x0.fB)) fun v6=>ret (v6:Bool)) (ret (false:Bool))))))))
def md (a0:aB):Bool:=(cond (Z227.md a0.fA.aq a0.fB.aq) (false:Bool) (cond (Z233.md a0.aP (⟨(⟨0,0,0,0,0,0,0,0,(⟨[],0⟩:aJ),(⟨[],0⟩:aJ),0,(⟨[],0⟩:aJ),false⟩:aC),[]⟩:aa)) (cond (Z162.md a0.fA) (cond (Z162.md a0.fB) ((a0.fA.aq.bA==a0.fB.aq.bA):Bool) (false:Bool)) (false:Bool)) (cond (Z172.md a0.aP.aq a0.fA) ((Z172.md a0.aP.aq a0.fB):Bool) (false:Bool))))
def gd (a0:aB):Prop:=(aB.Sm (2^21) a0)
def R:=RR gd md
theorem aj {a0}(h:gd a0):R (aB.r a0)=some (md a0):=aM (a:=a0) h
def aV:=CN [.agg sQ] oB RT.dec R
theorem bq (a0)(hg:gd a0):F (aB.r a0)=ret (md a0):=by
 unfold gd at hg
 have H0:=hg
 unfold F md
 try simp only [SS]
 refine ct (Z227.aj ⟨H0.2.1.1,H0.2.2.1⟩) ?_
 refine av ret (fun _=>rfl) (fun c1=>?_)
 refine ct (Z233.aj (a1:=(⟨(⟨0,0,0,0,0,0,0,0,(⟨[],0⟩:aJ),(⟨[],0⟩:aJ),0,(⟨[],0⟩:aJ),false⟩:aC),[]⟩:aa)) ⟨H0.1,⟨⟨bK.nil,bK.nil,bK.nil⟩,bK.nil⟩⟩) ?_
 refine av ret (fun c2=>?_) (fun c2=>?_)
 ·refine ct (Z162.aj H0.2.1) ?_
  refine av ret (fun c3=>?_) (fun _=>rfl)
  refine ct (Z162.aj H0.2.2) ?_
  refine av ret (fun c4=>?_) (fun _=>rfl)
  all_goals exact fz
 ·refine ct (Z172.aj ⟨H0.1.1,H0.2.1⟩) ?_
  refine av ret (fun c5=>?_) (fun _=>rfl)
  refine ct (Z172.aj ⟨H0.1.1,H0.2.2⟩) ?_
  all_goals exact fz
theorem af:cw 253 aV:=W1 49 F mix aD bq (.cons Z227.af (.cons Z233.af (.cons Z162.af (.cons Z172.af .nil)))) Tryz.func253
theorem br (a0:aB):md a0=Z115.md a0:=by
 unfold md Z115.md
 first
 | (simp only [Z162.br,Z172.br,Z227.md_eq,Z233.md_eq,Z98.md_eq,Z114.md_eq];done)
 | (simp only [Z162.br,Z172.br,Z227.md_eq,Z233.md_eq,Z98.md_eq,Z114.md_eq];rfl)
 | rfl
end Z234
namespace Z235
def F (x0:bF):aG:=(call (Z234.R x0) fun v1=>(cond (!v1) (ret ((-1):Int)) (ret (x0.fA.aq.bA:Int))))
def md (a0:aB):Int:=(cond (!(Z234.md a0)) ((-1):Int) (a0.fA.aq.bA:Int))
def gd (a0:aB):Prop:=(aB.Sm (2^21) a0)
def R:=RR gd md
theorem aj {a0}(h:gd a0):R (aB.r a0)=some (md a0):=aM (a:=a0) h
def aV:=CN [.agg sQ] oI RT.dec R
theorem bq (a0)(hg:gd a0):F (aB.r a0)=ret (md a0):=by
 unfold gd at hg
 have H0:=hg
 unfold F md
 try simp only [SS]
 refine ct (Z234.aj H0) ?_
 refine av ret (fun _=>rfl) (fun c1=>?_)
 all_goals exact fz
theorem af:cw 257 aV:=W1 10 F mix aD bq (.cons Z234.af .nil) Tryz.func257
theorem br (a0:aB):md a0=Z116.md a0:=by
 unfold md Z116.md
 first
 | (simp only [Z234.br];done)
 | (simp only [Z234.br];rfl)
 | rfl
end Z235
namespace Z236
def F (x0:bF)(x1:List L):aG:=(call (Z235.R x0) fun v1=>ret ((v1==(gk x1)):Bool))
def pats:List gq:=[.agg [.int .i64,.int .i64,.int .i64,.int .i64,.int .i64,.int .i64,.int .i64,.int .i64,.sl 3,.int .i64,.sl 3,.int .i64,.int .i64,.sl 3,.int .i64,.bool,.sl 428,.int .i64,.int .i64,.int .i64,.int .i64,.int .i64,.int .i64,.int .i64,.int .i64,.sl 3,.int .i64,.sl 3,.int .i64,.int .i64,.sl 3,.int .i64,.bool,.sl 428,.int .i64,.int .i64,.int .i64,.int .i64,.int .i64,.int .i64,.int .i64,.int .i64,.sl 3,.int .i64,.sl 3,.int .i64,.int .i64,.sl 3,.int .i64,.bool,.sl 428],.ptr [.int .i64]]
def res:RP:=.one (.rd (.bool))
def md (a0:aB)(a1:Int):Bool:=(((Z235.md a0)==a1):Bool)
def gd (a0:aB)(a1:Int):Prop:=(aB.Sm (2^21) a0)
def acc (ls:List L):bF×Int:=((bF.dec ls),(gk (cK 1 (aA 51 ls))))
def R:(bF×Int)→Option Bool:=RR (p2 gd) (u2 md)
theorem aj {a0 a1}(h:gd a0 a1):R ((aB.r a0),a1)=some (md a0 a1):=aM (a:=(a0,a1)) h
def aV:fW:=CN pats res acc R
theorem bq (a0:aB)(a1:Int)(p1:List L)(e1:a1=(gk p1))(hg:gd a0 a1):F (aB.r a0) p1=ret ((md a0 a1):Bool):=by
 unfold gd at hg
 have H0:=hg
 unfold F md
 try simp only [SS,←e1]
 refine ct (Z235.aj H0) ?_
 all_goals exact fz
theorem oJ (ls:List L)(a:aB×Int)(e:acc ls=Im.im a)(hg:(p2 gd) a):∃n:Nat,F (bF.dec ls) (cK 1 (aA 51 ls))=ret (Im.im ((u2 md) a)):=by
 have e0:(aB.r a.1)=(bF.dec ls):=(congrArg (fun x=>x.1) e.symm)
 have hn:=bq a.1 a.2 (cK 1 (aA 51 ls)) (congrArg (fun x=>x.2) e.symm) hg
 refine ⟨0,?_⟩
 rw [←e0]
 exact hn
theorem af:cw 256 aV:=VP (live:=fun _=>[]) (nt:=8) (accr:=fun ls=>((bF.dec ls),(cK 1 (aA 51 ls)))) (run:=fun _ x=>F x.1 x.2) mix aD (.cons Z235.af .nil) Tryz.func256 (by kernel_rfl) (fun _ _=>by kernel_rfl) (fun ls a _ e hg=>oJ ls a e hg)
end Z236
namespace Z237
inductive Pt where
 | p0 (a:List (List L)) (b:List L) (c:Int) (d:Int)
def pid:Pt→Nat
 | .p0 ..=>2
def bY:Pt→List V
 | .p0 a b c d=>[.sl none 280 a,.fn 256 [.dD none [.int .i64] b 0],.int .i64 c,.int .i64 d]
def bZ:Pt→List aU
 | .p0 a b c d=>[]
def step (J:Pt→aG):Pt→aG
 | .p0 a b c d=>(cond (decide (d<c)) (m2 d (a.length:Int) (call (Z236.R ((bF.at a (toNat d)),(gk b))) fun v1=>(cond v1 (ret (d:Int)) (J (.p0 a b c (i64.wrap (d+1))))))) (ret ((-1):Int)))
def start (J:Pt→aG)(x0:List (List L))(x1:List L):aG:=J (.p0 x0 x1 (x0.length:Int) 0)
def live:Nat→Live:=fun i=>match i with | 2=>[(0,none),(1,none),(7,none),(8,none)] | _=>[]
def pats:List gq:=[.rd (.sl 280),.fn 256 [[.int .i64]]]
def res:RP:=.one (.rd (.int .i64))
abbrev E:Env:={ T:=assoc kQ,G:=dy [(256,Z236.aV)],nt:=19 }
theorem step_eq (I:cG)(p:Pt):cT E live I (pid p) (bM Tryz.f371) (fM (live (pid p)) (bY p) (bZ p)) (cH E Tryz.f371 res)=step (fun q=>I (pid q) (bY q) (bZ q)) p:=by
 cases p<;>kernel_rfl
theorem start_eq (I:cG)(ls:List L):eX E live I (bM Tryz.f371) (cZ pats ls) (cH E Tryz.f371 res)=start (fun q=>I (pid q) (bY q) (bZ q)) (ls.headD .hole).aR (cK 1 (aA 1 ls)):=by kernel_rfl
theorem run_eq (n:Nat)(ls:List L):eO E live Tryz.f371 res n (cZ pats ls)=start (iter step n) (ls.headD .hole).aR (cK 1 (aA 1 ls)):=cC (id:=pid) (vs:=bY) (hs:=bZ) (step:=step) (start:=fun J=>start J (ls.headD .hole).aR (cK 1 (aA 1 ls))) step_eq (fun I=>start_eq I ls) n
def md (a0:List aB)(a1:Int):Int:=(dS (S:=Unit) (β:=Int) (fun (i1:Nat) (y1:aB) (s3:Unit)=>(cond (Z236.md y1 a1) (.inr ((i1:Int):Int)) (.inl ()))) (fun (s3:Unit)=>((-1):Int)) 0 a0 ())
def gd (a0:List aB)(a1:Int):Prop:=(bK (2^21) (fun y:aB=>aB.Sm (2^21) y) a0)
def acc (ls:List L):List (List L)×Int:=((ls.headD .hole).aR,(gk (cK 1 (aA 1 ls))))
def R:(List (List L)×Int)→Option Int:=RR (p2 gd) (u2 md)
theorem aj {a0 a1}(h:gd a0 a1):R ((a0.map aB.row),a1)=some (md a0 a1):=aM (a:=(a0,a1)) h
def aV:fW:=CN pats res acc R
theorem bq (a0:List aB)(a1:Int)(p1:List L)(e1:a1=(gk p1))(hg:gd a0 a1):∃n,start (iter step n) (a0.map aB.row) p1=ret ((md a0 a1):Int):=by
 unfold gd at hg
 have H0:=hg
 unfold start md
 try simp only [SS,←e1]
 have Bh2:a0.length≤maxLen:=(by
   have:=(H0).1
   try simp only [maxLen] at *
   omega)
 refine ex_eq (out:=ret) (cX (z:=aB.zero)) ?_
 refine dN (p:=Pt.p0 (a0.map aB.row) p1 (a0.length:Int) 0) fz ?_
 refine ck (pt:=fun (i1:Nat) (s3:Unit)=>Pt.p0 (a0.map aB.row) p1 (a0.length:Int) (i1:Int)) (s:=(():Unit)) (out:=ret) (fun _ _=>True) (fun J i1 s3 h2 hih2=>?_) (fun s3 hih2=>?_) trivial
 ·simp only [step,SS,←e1]
  have bb_:=Bh2
  simp only [maxLen] at bb_
  have:=(H0).1
  refine bt.yes (by apply decide_eq_true;omega) ?_
  refine bt.yes aH ?_
  refine bt.yes (aL h2) ?_
  refine cr (Z236.aj (bK.getD (z:=aB.zero) H0 h2)) ?_
  refine bt.bif (fun c4=>?_) (fun c4=>?_)
  ·refine bt.inr ?_
   all_goals exact fz
  ·refine bt.inl trivial ?_
   rw [aE h2 Bh2]
   all_goals exact fz
 ·simp only [step,SS,←e1]
  have:=(H0).1
  refine dx (by apply decide_eq_false;omega) ?_
  refine ⟨0,?_⟩
  all_goals exact fz
theorem oJ (ls:List L)(a:List aB×Int)(e:acc ls=Im.im a)(hg:(p2 gd) a):∃n:Nat,start (iter step n) ((ls.headD .hole).aR) (cK 1 (aA 1 ls))=ret (Im.im ((u2 md) a)):=by
 have e0:(a.1.map aB.row)=(ls.headD .hole).aR:=(congrArg (fun x=>x.1) e.symm)
 obtain ⟨n,hn⟩:=bq a.1 a.2 (cK 1 (aA 1 ls)) (congrArg (fun x=>x.2) e.symm) hg
 refine ⟨n,?_⟩
 rw [←e0]
 exact hn
theorem af:cw 371 aV:=VP (accr:=fun ls=>((ls.headD .hole).aR,(cK 1 (aA 1 ls)))) (run:=fun n x=>start (iter step n) x.1 x.2) mix aD (.cons Z236.af .nil) Tryz.func371 (by kernel_rfl) run_eq (fun ls a _ e hg=>oJ ls a e hg)
theorem fa (a0:List aB)(a1:Int):-1≤md a0 a1∧md a0 a1<(a0.length:Int):=by
 unfold md
 refine gb ?_ _ _
 all_goals
  intro i x s b h
  revert h
  simp only [Bool.cond_eq_ite]
  repeat' split
  all_goals (intro h;first | (cases h;rfl) | cases h)
theorem idx_eq (a0:List aB)(a1:Int):md a0 a1=iX (fun y=>Z236.md y a1) 0 a0:=by
 unfold md
 exact gV
end Z237
namespace Z238
def F (x0:List (List L))(x1:List L):aG:=(call (Z237.R (x0,(gk x1))) fun v1=>ret ((decide (v1≥0)):Bool))
def pats:List gq:=[.rd (.sl 280),.fn 256 [[.int .i64]]]
def res:RP:=.one (.rd (.bool))
def md (a0:List aB)(a1:Int):Bool:=((decide ((Z237.md a0 a1)≥0)):Bool)
def gd (a0:List aB)(a1:Int):Prop:=(bK (2^21) (fun y:aB=>aB.Sm (2^21) y) a0)
def acc (ls:List L):List (List L)×Int:=((ls.headD .hole).aR,(gk (cK 1 (aA 1 ls))))
def R:(List (List L)×Int)→Option Bool:=RR (p2 gd) (u2 md)
theorem aj {a0 a1}(h:gd a0 a1):R ((a0.map aB.row),a1)=some (md a0 a1):=aM (a:=(a0,a1)) h
def aV:fW:=CN pats res acc R
theorem bq (a0:List aB)(a1:Int)(p1:List L)(e1:a1=(gk p1))(hg:gd a0 a1):F (a0.map aB.row) p1=ret ((md a0 a1):Bool):=by
 unfold gd at hg
 have H0:=hg
 unfold F md
 try simp only [SS,←e1]
 refine ct (Z237.aj H0) ?_
 have fv1_:=Z237.fa a0 a1
 all_goals exact fz
theorem oJ (ls:List L)(a:List aB×Int)(e:acc ls=Im.im a)(hg:(p2 gd) a):∃n:Nat,F ((ls.headD .hole).aR) (cK 1 (aA 1 ls))=ret (Im.im ((u2 md) a)):=by
 have e0:(a.1.map aB.row)=(ls.headD .hole).aR:=(congrArg (fun x=>x.1) e.symm)
 have hn:=bq a.1 a.2 (cK 1 (aA 1 ls)) (congrArg (fun x=>x.2) e.symm) hg
 refine ⟨0,?_⟩
 rw [←e0]
 exact hn
theorem af:cw 251 aV:=VP (live:=fun _=>[]) (nt:=9) (accr:=fun ls=>((ls.headD .hole).aR,(cK 1 (aA 1 ls)))) (run:=fun _ x=>F x.1 x.2) mix aD (.cons Z237.af .nil) Tryz.func251 (by kernel_rfl) (fun _ _=>by kernel_rfl) (fun ls a _ e hg=>oJ ls a e hg)
theorem any_eq (a0:List aB)(a1:Int):md a0 a1=a0.any (fun y=>Z236.md y a1):=by
 unfold md
 rw [Z237.idx_eq]
 exact qG
end Z238
namespace Z239
def F (x0:bn)(x1:Int):aG:=(cond (decide (x1≥0)) (call (Z238.R (x0.bg,x1)) fun v1=>ret (v1:Bool)) (ret (false:Bool)))
def md (a0:au)(a1:Int):Bool:=(cond (decide (a1≥0)) ((Z238.md a0.bg a1):Bool) (false:Bool))
def gd (a0:au)(a1:Int):Prop:=(au.Sm (2^21) a0)
def R:=RR (p2 gd) (u2 md)
theorem aj {a0 a1}(h:gd a0 a1):R ((au.r a0),a1)=some (md a0 a1):=aM (a:=(a0,a1)) h
def aV:=CN [.agg tI,pI] oB RT.dec R
theorem bq (a0)(a1)(hg:gd a0 a1):F (au.r a0) a1=ret (md a0 a1):=by
 unfold gd at hg
 have H0:=hg
 unfold F md
 try simp only [SS]
 refine av ret (fun c1=>?_) (fun _=>rfl)
 refine ct (Z238.aj H0.2) ?_
 all_goals exact fz
theorem af:cw 89 aV:=W2 13 F mix aD bq (.cons Z238.af .nil) Tryz.func89
theorem br (a0:au)(a1:Int):md a0 a1=Z117.md a0 a1:=by
 unfold md Z117.md
 rw [Z238.any_eq]
 rw [mJ (p:=fun y=>(Z116.md y==a1)&&decide (a1≥0)) (fun x s=>by
  cases (Z116.md x==a1)<;>cases decide (a1≥0)<;>rfl) a0.bg ()]
 have e:(fun y=>Z236.md y a1)=fun y=>Z116.md y==a1:=by
  funext y
  unfold Z236.md
  rw [Z235.br]
 rw [e]
 cases decide (a1≥0)
 ·simp
 ·simp
end Z239
namespace Z240
abbrev E (n:Nat):Env:={ T:=assoc kQ,G:=dy [(264,Z223.aV),(219,Z174.aV),(82,Z231.aV),(348,Z130.aV),(89,Z239.aV)],nt:=74,M:=fT [],np:=n,I:=nD [] }
def ic (n:Nat):mh:=inl (E n) Tryz.f347
theorem th (n:Nat):gX Tryz.prog Ev n 347 (ic n):=xw (mt:=false) mix aD (.cons Z223.af (.cons Z174.af (.cons Z231.af (.cons Z130.af (.cons Z239.af .nil))))) .nil .nil Tryz.func347 (by kernel_rfl)
end Z240
namespace Z241
inductive Pt where
 | p0 (a:Int) (b:ByteArray) (c:Int) (d:List (List L)) (e:Int) (f:Int) (g:Bool) (h:ByteArray) (i:Int) (j:Int) (k:Bool) (l:Bool) (m:ByteArray) (n:Int) (o:Int) (p:Bool) (q:List (List L)) (s:List (List L)) (t:List (List L))
def pid:Pt→Nat
 | .p0 ..=>3
def bY:Pt→List V
 | .p0 a b c d e f g h i j k l m n o p q s t=>[.int .i64 a,.str b,.int .i64 c,.dc 0 0,.dc 1 0,.sl none 132 d,.int .i64 e,.int .i64 f,.dc 1 0]
def bZ:Pt→List aU
 | .p0 a b c d e f g h i j k l m n o p q s t=>[.box [.nil,.nil,.bool g,.str h,.int .i64 i,.int .i64 j,.nil,.bool k,.nil],.box [.own 2,.own 3,.bool l,.str m,.int .i64 n,.int .i64 o,.nil,.bool p,.own 4],.row 92 q,.row 280 s,.row 3 t]
def step (J:Pt→aG):Pt→aG
 | .p0 a b c d e f g h i j k l m n o p q s t=>(cond (decide (f<e)) (m2 f (d.length:Int) (call (Z223.R (a,b,(aX.at d (toNat f)),c)) fun v1=>(call (Z174.R ((aX.at d (toNat f)).aQ)) fun v2=>(cond v2 (bX (decide ((0:Int)<((aX.at d (toNat f)).aQ.length:Int))) (cond ((aO.at ((aX.at d (toNat f)).aQ) 0).aq.bA==a) (call (Z231.R ((⟨q,s⟩:bn),(aX.at d (toNat f)).aQ)) fun v3=>(call (Z130.R (v3.2,1,3)) fun v4=>(cond v4 (call (Z239.R (v3.1,a)) fun v5=>(cond (v1==1) (cond (!(!v5)) (bX (eU (((t.length:Int)+1)*8)) (J (.p0 a b c d e (i64.wrap (f+1)) g h i j k l m n o p v3.1.aF v3.1.bg (t++[[L.int 3]])))) (bX (eU (((t.length:Int)+1)*8)) (cond (v1==1) (call (Z202.R ((aX.at d (toNat f)).aN)) fun v6=>ret (((⟨v3.1,(aX.at d (toNat f)).cj,v6,true,(t++[[L.int v1]])⟩:cY),f):cY×Int)) (J (.p0 a b c d e (i64.wrap (f+1)) g h i j k l m n o p v3.1.aF v3.1.bg (t++[[L.int v1]])))))) (bX (eU (((t.length:Int)+1)*8)) (cond (v1==1) (call (Z202.R ((aX.at d (toNat f)).aN)) fun v7=>ret (((⟨v3.1,(aX.at d (toNat f)).cj,v7,true,(t++[[L.int v1]])⟩:cY),f):cY×Int)) (J (.p0 a b c d e (i64.wrap (f+1)) g h i j k l m n o p v3.1.aF v3.1.bg (t++[[L.int v1]]))))))) (cond (v1==1) (bX (eU (((t.length:Int)+1)*8)) (J (.p0 a b c d e (i64.wrap (f+1)) g h i j k l m n o p v3.1.aF v3.1.bg (t++[[L.int 3]])))) (bX (eU (((t.length:Int)+1)*8)) (cond (v1==1) (call (Z202.R ((aX.at d (toNat f)).aN)) fun v8=>ret (((⟨v3.1,(aX.at d (toNat f)).cj,v8,true,(t++[[L.int v1]])⟩:cY),f):cY×Int)) (J (.p0 a b c d e (i64.wrap (f+1)) g h i j k l m n o p v3.1.aF v3.1.bg (t++[[L.int v1]]))))))))) (call (Z130.R (6,1,3)) fun v9=>(cond v9 (call (Z239.R ((⟨q,s⟩:bn),a)) fun v10=>(cond (v1==1) (cond (!(!v10)) (bX (eU (((t.length:Int)+1)*8)) (J (.p0 a b c d e (i64.wrap (f+1)) g h i j k l m n o p q s (t++[[L.int 3]])))) (bX (eU (((t.length:Int)+1)*8)) (cond (v1==1) (call (Z202.R ((aX.at d (toNat f)).aN)) fun v11=>ret (((⟨(⟨q,s⟩:bn),(aX.at d (toNat f)).cj,v11,true,(t++[[L.int v1]])⟩:cY),f):cY×Int)) (J (.p0 a b c d e (i64.wrap (f+1)) g h i j k l m n o p q s (t++[[L.int v1]])))))) (bX (eU (((t.length:Int)+1)*8)) (cond (v1==1) (call (Z202.R ((aX.at d (toNat f)).aN)) fun v12=>ret (((⟨(⟨q,s⟩:bn),(aX.at d (toNat f)).cj,v12,true,(t++[[L.int v1]])⟩:cY),f):cY×Int)) (J (.p0 a b c d e (i64.wrap (f+1)) g h i j k l m n o p q s (t++[[L.int v1]]))))))) (cond (v1==1) (bX (eU (((t.length:Int)+1)*8)) (J (.p0 a b c d e (i64.wrap (f+1)) g h i j k l m n o p q s (t++[[L.int 3]])))) (bX (eU (((t.length:Int)+1)*8)) (cond (v1==1) (call (Z202.R ((aX.at d (toNat f)).aN)) fun v13=>ret (((⟨(⟨q,s⟩:bn),(aX.at d (toNat f)).cj,v13,true,(t++[[L.int v1]])⟩:cY),f):cY×Int)) (J (.p0 a b c d e (i64.wrap (f+1)) g h i j k l m n o p q s (t++[[L.int v1]])))))))))) (call (Z130.R (6,1,3)) fun v14=>(cond v14 (call (Z239.R ((⟨q,s⟩:bn),a)) fun v15=>(cond (v1==1) (cond (!(!v15)) (bX (eU (((t.length:Int)+1)*8)) (J (.p0 a b c d e (i64.wrap (f+1)) g h i j k l m n o p q s (t++[[L.int 3]])))) (bX (eU (((t.length:Int)+1)*8)) (cond (v1==1) (call (Z202.R ((aX.at d (toNat f)).aN)) fun v16=>ret (((⟨(⟨q,s⟩:bn),(aX.at d (toNat f)).cj,v16,true,(t++[[L.int v1]])⟩:cY),f):cY×Int)) (J (.p0 a b c d e (i64.wrap (f+1)) g h i j k l m n o p q s (t++[[L.int v1]])))))) (bX (eU (((t.length:Int)+1)*8)) (cond (v1==1) (call (Z202.R ((aX.at d (toNat f)).aN)) fun v17=>ret (((⟨(⟨q,s⟩:bn),(aX.at d (toNat f)).cj,v17,true,(t++[[L.int v1]])⟩:cY),f):cY×Int)) (J (.p0 a b c d e (i64.wrap (f+1)) g h i j k l m n o p q s (t++[[L.int v1]]))))))) (cond (v1==1) (bX (eU (((t.length:Int)+1)*8)) (J (.p0 a b c d e (i64.wrap (f+1)) g h i j k l m n o p q s (t++[[L.int 3]])))) (bX (eU (((t.length:Int)+1)*8)) (cond (v1==1) (call (Z202.R ((aX.at d (toNat f)).aN)) fun v18=>ret (((⟨(⟨q,s⟩:bn),(aX.at d (toNat f)).cj,v18,true,(t++[[L.int v1]])⟩:cY),f):cY×Int)) (J (.p0 a b c d e (i64.wrap (f+1)) g h i j k l m n o p q s (t++[[L.int v1]])))))))))))) (ret (((⟨(⟨q,s⟩:bn),l,(⟨m,n,o,[]⟩:aS),p,t⟩:cY),(-1)):cY×Int)))
def start (J:Pt→aG)(x0:bn)(x1:List (List L))(x2:Int)(x3:ByteArray)(x4:Int):aG:=(call (Z129.R x0) fun v1=>J (.p0 x2 x3 x4 x1 (x1.length:Int) 0 false ⟨#[]⟩ 0 0 false false ⟨#[]⟩ 0 0 false v1.aF v1.bg []))
def live:Nat→Live:=fun i=>match i with | 3=>[(2,none),(3,none),(4,none),(10,none),(12,none),(18,none),(19,none),(20,none),(12,some 8388611)] | _=>[]
def pats:List gq:=[.agg [.sl 92,.sl 280],.rd (.sl 132),.rd (.int .i64),.rd (.str),.rd (.int .i64)]
def res:RP:=.iT [(true,[.fr 92,.fr 280,.rd (.bool),.rd (.str),.rd (.int .i64),.rd (.int .i64),.fr 9,.rd (.bool),.fr 3]),(false,[.rd (.int .i64)])]
abbrev E:Env:={ T:=assoc kQ,G:=dy [(170,Z129.aV),(280,Z202.aV)],nt:=42,M:=fT [],I:=nD [(347,Z240.ic 0)] }
theorem step_eq (I:cG)(p:Pt):cT E live I (pid p) (bM Tryz.f217) (fM (live (pid p)) (bY p) (bZ p)) (cH E Tryz.f217 res)=step (fun q=>I (pid q) (bY q) (bZ q)) p:=by
 cases p<;>kernel_rfl
theorem start_eq (I:cG)(ls:List L):eX E live I (bM Tryz.f217) (cZ pats ls) (cH E Tryz.f217 res)=start (fun q=>I (pid q) (bY q) (bZ q)) (bn.dec ls) ((aA 2 ls).headD .hole).aR ((aA 3 ls).headD .hole).toInt ((aA 4 ls).headD .hole).toStr ((aA 5 ls).headD .hole).toInt:=by kernel_rfl
theorem run_eq (n:Nat)(ls:List L):eO E live Tryz.f217 res n (cZ pats ls)=start (iter step n) (bn.dec ls) ((aA 2 ls).headD .hole).aR ((aA 3 ls).headD .hole).toInt ((aA 4 ls).headD .hole).toStr ((aA 5 ls).headD .hole).toInt:=cC (id:=pid) (vs:=bY) (hs:=bZ) (step:=step) (start:=fun J=>start J (bn.dec ls) ((aA 2 ls).headD .hole).aR ((aA 3 ls).headD .hole).toInt ((aA 4 ls).headD .hole).toStr ((aA 5 ls).headD .hole).toInt) step_eq (fun I=>start_eq I ls) n
def md (a0:au)(a1:List ay)(a2:Int)(a3:ByteArray)(a4:Int):bO×Int:=(dS (S:=List (List aa)×List aB×List Int) (β:=bO×Int) (fun (i1:Nat) (y1:ay) (s3:List (List aa)×List aB×List Int)=>(cond (Z174.md (y1.aQ)) (cond (((y1.aQ.getD 0 aa.zero).aq).bA==a2) (cond (Z130.md ((Z231.md (⟨s3.1,s3.2.1⟩:au) (y1.aQ)).2) 1 3) (cond ((Z223.md a2 a3 y1 a4)==1) (cond (!(!(Z239.md ((Z231.md (⟨s3.1,s3.2.1⟩:au) (y1.aQ)).1) a2))) (.inl ((Z231.md (⟨s3.1,s3.2.1⟩:au) (y1.aQ)).1.aF,(Z231.md (⟨s3.1,s3.2.1⟩:au) (y1.aQ)).1.bg,(s3.2.2++[3]))) (cond ((Z223.md a2 a3 y1 a4)==1) (.inr ((⟨(Z231.md (⟨s3.1,s3.2.1⟩:au) (y1.aQ)).1,y1.cj,(y1.aN),true,(s3.2.2++[(Z223.md a2 a3 y1 a4)])⟩:bO),(i1:Int))) (.inl ((Z231.md (⟨s3.1,s3.2.1⟩:au) (y1.aQ)).1.aF,(Z231.md (⟨s3.1,s3.2.1⟩:au) (y1.aQ)).1.bg,(s3.2.2++[(Z223.md a2 a3 y1 a4)]))))) (cond ((Z223.md a2 a3 y1 a4)==1) (.inr ((⟨(Z231.md (⟨s3.1,s3.2.1⟩:au) (y1.aQ)).1,y1.cj,(y1.aN),true,(s3.2.2++[(Z223.md a2 a3 y1 a4)])⟩:bO),(i1:Int))) (.inl ((Z231.md (⟨s3.1,s3.2.1⟩:au) (y1.aQ)).1.aF,(Z231.md (⟨s3.1,s3.2.1⟩:au) (y1.aQ)).1.bg,(s3.2.2++[(Z223.md a2 a3 y1 a4)]))))) (cond ((Z223.md a2 a3 y1 a4)==1) (.inl ((Z231.md (⟨s3.1,s3.2.1⟩:au) (y1.aQ)).1.aF,(Z231.md (⟨s3.1,s3.2.1⟩:au) (y1.aQ)).1.bg,(s3.2.2++[3]))) (cond ((Z223.md a2 a3 y1 a4)==1) (.inr ((⟨(Z231.md (⟨s3.1,s3.2.1⟩:au) (y1.aQ)).1,y1.cj,(y1.aN),true,(s3.2.2++[(Z223.md a2 a3 y1 a4)])⟩:bO),(i1:Int))) (.inl ((Z231.md (⟨s3.1,s3.2.1⟩:au) (y1.aQ)).1.aF,(Z231.md (⟨s3.1,s3.2.1⟩:au) (y1.aQ)).1.bg,(s3.2.2++[(Z223.md a2 a3 y1 a4)])))))) (cond (Z130.md 6 1 3) (cond ((Z223.md a2 a3 y1 a4)==1) (cond (!(!(Z239.md (⟨s3.1,s3.2.1⟩:au) a2))) (.inl (s3.1,s3.2.1,(s3.2.2++[3]))) (cond ((Z223.md a2 a3 y1 a4)==1) (.inr ((⟨(⟨s3.1,s3.2.1⟩:au),y1.cj,(y1.aN),true,(s3.2.2++[(Z223.md a2 a3 y1 a4)])⟩:bO),(i1:Int))) (.inl (s3.1,s3.2.1,(s3.2.2++[(Z223.md a2 a3 y1 a4)]))))) (cond ((Z223.md a2 a3 y1 a4)==1) (.inr ((⟨(⟨s3.1,s3.2.1⟩:au),y1.cj,(y1.aN),true,(s3.2.2++[(Z223.md a2 a3 y1 a4)])⟩:bO),(i1:Int))) (.inl (s3.1,s3.2.1,(s3.2.2++[(Z223.md a2 a3 y1 a4)]))))) (cond ((Z223.md a2 a3 y1 a4)==1) (.inl (s3.1,s3.2.1,(s3.2.2++[3]))) (cond ((Z223.md a2 a3 y1 a4)==1) (.inr ((⟨(⟨s3.1,s3.2.1⟩:au),y1.cj,(y1.aN),true,(s3.2.2++[(Z223.md a2 a3 y1 a4)])⟩:bO),(i1:Int))) (.inl (s3.1,s3.2.1,(s3.2.2++[(Z223.md a2 a3 y1 a4)]))))))) (cond (Z130.md 6 1 3) (cond ((Z223.md a2 a3 y1 a4)==1) (cond (!(!(Z239.md (⟨s3.1,s3.2.1⟩:au) a2))) (.inl (s3.1,s3.2.1,(s3.2.2++[3]))) (cond ((Z223.md a2 a3 y1 a4)==1) (.inr ((⟨(⟨s3.1,s3.2.1⟩:au),y1.cj,(y1.aN),true,(s3.2.2++[(Z223.md a2 a3 y1 a4)])⟩:bO),(i1:Int))) (.inl (s3.1,s3.2.1,(s3.2.2++[(Z223.md a2 a3 y1 a4)]))))) (cond ((Z223.md a2 a3 y1 a4)==1) (.inr ((⟨(⟨s3.1,s3.2.1⟩:au),y1.cj,(y1.aN),true,(s3.2.2++[(Z223.md a2 a3 y1 a4)])⟩:bO),(i1:Int))) (.inl (s3.1,s3.2.1,(s3.2.2++[(Z223.md a2 a3 y1 a4)]))))) (cond ((Z223.md a2 a3 y1 a4)==1) (.inl (s3.1,s3.2.1,(s3.2.2++[3]))) (cond ((Z223.md a2 a3 y1 a4)==1) (.inr ((⟨(⟨s3.1,s3.2.1⟩:au),y1.cj,(y1.aN),true,(s3.2.2++[(Z223.md a2 a3 y1 a4)])⟩:bO),(i1:Int))) (.inl (s3.1,s3.2.1,(s3.2.2++[(Z223.md a2 a3 y1 a4)])))))))) (fun (s3:List (List aa)×List aB×List Int)=>((⟨(⟨s3.1,s3.2.1⟩:au),false,(⟨(⟨#[]⟩:ByteArray),0,0,[]⟩:ah),false,s3.2.2⟩:bO),(-1))) 0 a1 (a0.aF,a0.bg,[]))
def gd (a0:au)(a1:List ay)(a2:Int)(a3:ByteArray)(a4:Int):Prop:=(au.Sm (2^21) a0)∧(bK (2^21) (fun y:ay=>ay.Sm (2^21) y) a1)∧(a3.size≤(2^21))
def acc (ls:List L):bn×List (List L)×Int×ByteArray×Int:=((bn.dec ls),((aA 2 ls).headD .hole).aR,((aA 3 ls).headD .hole).toInt,((aA 4 ls).headD .hole).toStr,((aA 5 ls).headD .hole).toInt)
def R:(bn×List (List L)×Int×ByteArray×Int)→Option (cY×Int):=RR (p5 gd) (u5 md)
theorem aj {a0 a1 a2 a3 a4}(h:gd a0 a1 a2 a3 a4):R ((au.r a0),(a1.map ay.row),a2,a3,a4)=some ((bO.r (md a0 a1 a2 a3 a4).1),(md a0 a1 a2 a3 a4).2):=aM (a:=(a0,a1,a2,a3,a4)) h
def aV:fW:=CN pats res acc R
theorem bq (a0:au)(a1:List ay)(a2:Int)(a3:ByteArray)(a4:Int)(hg:gd a0 a1 a2 a3 a4):∃n,start (iter step n) (au.r a0) (a1.map ay.row) a2 a3 a4=ret (((bO.r (md a0 a1 a2 a3 a4).1),(md a0 a1 a2 a3 a4).2):cY×Int):=by
 obtain ⟨H0,H1,H3⟩:=hg
 unfold start md
 try simp only [SS]
 refine cx (Z129.aj H0) ?_
 try simp only [SS]
 have Bh2:a1.length≤maxLen:=(by
   have:=(H1).1
   try simp only [maxLen] at *
   omega)
 refine ex_eq (out:=(fun b:bO×Int=>ret (((bO.r b.1),b.2):cY×Int))) (cX (z:=ay.zero)) ?_
 refine dN (p:=Pt.p0 a2 a3 a4 (a1.map ay.row) (a1.length:Int) 0 false (⟨#[]⟩:ByteArray) 0 0 false false (⟨#[]⟩:ByteArray) 0 0 false (a0.aF.map (dK aa.row)) (a0.bg.map aB.row) ([].map aZ)) fz ?_
 refine ck (pt:=fun (i1:Nat) (s3:List (List aa)×List aB×List Int)=>Pt.p0 a2 a3 a4 (a1.map ay.row) (a1.length:Int) (i1:Int) false (⟨#[]⟩:ByteArray) 0 0 false false (⟨#[]⟩:ByteArray) 0 0 false (s3.1.map (dK aa.row)) (s3.2.1.map aB.row) (s3.2.2.map aZ)) (s:=((a0.aF,a0.bg,[]):List (List aa)×List aB×List Int)) (out:=(fun b:bO×Int=>ret (((bO.r b.1),b.2):cY×Int))) (fun (i1:Nat) (s3:List (List aa)×List aB×List Int)=>au.Sm (2^21) (⟨s3.1,s3.2.1⟩:au)∧s3.2.2.length≤i1) (fun J i1 s3 h2 hih2=>?_) (fun s3 hih2=>?_) ⟨H0,Nat.zero_le _⟩
 ·simp only [step,SS]
  have gr_:=hih2
  try simp only [LN] at gr_
  have bb_:=Bh2
  simp only [maxLen] at bb_
  have:=(H1).1
  refine bt.yes (by apply decide_eq_true;omega) ?_
  refine bt.yes aH ?_
  refine bt.yes (aL h2) ?_
  refine cr (Z223.aj ⟨H3,(bK.getD (z:=ay.zero) H1 h2)⟩) ?_
  refine cr (Z174.aj (bK.getD (z:=ay.zero) H1 h2).1) ?_
  refine bt.bif (fun c4=>?_) (fun c4=>?_)
  ·try have tc4:=Z174.tr (by simpa using c4)
   refine bt.yes (have:=((bK.getD (z:=ay.zero) H1 h2).1).1;dt) ?_
   refine bt.bif (fun c5=>?_) (fun c5=>?_)
   ·have dc5:=c5
    try simp only [DC] at dc5
    refine cr (Z231.aj (a0:=(⟨s3.1,s3.2.1⟩:au)) ⟨⟨hih2.1.1,hih2.1.2⟩,(bK.getD (z:=ay.zero) H1 h2).1⟩) ?_
    try simp only [SS]
    refine cr (Z130.aj (a0:=(Z231.md (⟨s3.1,s3.2.1⟩:au) ((a1.getD i1 ay.zero).aQ)).2) trivial) ?_
    refine bt.bif (fun c6=>?_) (fun c6=>?_)
    ·have Dc6:=c6
     try simp [Z130.md] at Dc6
     refine cr (Z239.aj (a0:=(Z231.md (⟨s3.1,s3.2.1⟩:au) ((a1.getD i1 ay.zero).aQ)).1) (Z231.gh (a0:=(⟨s3.1,s3.2.1⟩:au)) (a1:=(a1.getD i1 ay.zero).aQ) ⟨⟨hih2.1.1,hih2.1.2⟩,(bK.getD (z:=ay.zero) H1 h2).1⟩)) ?_
     refine bt.bif (fun c7=>?_) (fun c7=>?_)
     ·have dc7:=c7
      try simp only [DC] at dc7
      refine bt.bif (fun c8=>?_) (fun c8=>?_)
      ·have dc8:=c8
       try simp only [DC] at dc8
       refine bt.yes lm ?_
       refine bt.inl (by first | exact ⟨hih2.1,iy hih2.2⟩ | exact ⟨Z231.gh ⟨hih2.1,(bK.getD H1 h2).1⟩,iy hih2.2⟩) ?_
       rw [aE h2 Bh2]
       all_goals exact fz
      ·have dc8:=c8
       try simp only [DC] at dc8
       refine bt.yes lm ?_
       refine bt.bif (fun c9=>?_) (fun c9=>?_)
       ·refine cr (Z202.aj (bK.getD (z:=ay.zero) H1 h2).2.1) ?_
        try simp only [SS]
        refine bt.inr ?_
        all_goals exact fz
       ·refine bt.inl (by first | exact ⟨hih2.1,iy hih2.2⟩ | exact ⟨Z231.gh ⟨hih2.1,(bK.getD H1 h2).1⟩,iy hih2.2⟩) ?_
        rw [aE h2 Bh2]
        all_goals exact fz
     ·have dc7:=c7
      try simp only [DC] at dc7
      refine bt.yes lm ?_
      refine bt.bif (fun c10=>?_) (fun c10=>?_)
      ·refine cr (Z202.aj (bK.getD (z:=ay.zero) H1 h2).2.1) ?_
       try simp only [SS]
       refine bt.inr ?_
       all_goals exact fz
      ·refine bt.inl (by first | exact ⟨hih2.1,iy hih2.2⟩ | exact ⟨Z231.gh ⟨hih2.1,(bK.getD H1 h2).1⟩,iy hih2.2⟩) ?_
       rw [aE h2 Bh2]
       all_goals exact fz
    ·have Dc6:=c6
     try simp [Z130.md] at Dc6
     refine bt.bif (fun c11=>?_) (fun c11=>?_)
     ·have dc11:=c11
      try simp only [DC] at dc11
      refine bt.yes lm ?_
      refine bt.inl (by first | exact ⟨hih2.1,iy hih2.2⟩ | exact ⟨Z231.gh ⟨hih2.1,(bK.getD H1 h2).1⟩,iy hih2.2⟩) ?_
      rw [aE h2 Bh2]
      all_goals exact fz
     ·have dc11:=c11
      try simp only [DC] at dc11
      refine bt.yes lm ?_
      refine bt.bif (fun c12=>?_) (fun c12=>?_)
      ·refine cr (Z202.aj (bK.getD (z:=ay.zero) H1 h2).2.1) ?_
       try simp only [SS]
       refine bt.inr ?_
       all_goals exact fz
      ·refine bt.inl (by first | exact ⟨hih2.1,iy hih2.2⟩ | exact ⟨Z231.gh ⟨hih2.1,(bK.getD H1 h2).1⟩,iy hih2.2⟩) ?_
       rw [aE h2 Bh2]
       all_goals exact fz
   ·have dc5:=c5
    try simp only [DC] at dc5
    refine cr (Z130.aj trivial) ?_
    refine bt.bif (fun c13=>?_) (fun c13=>?_)
    ·refine cr (Z239.aj (a0:=(⟨s3.1,s3.2.1⟩:au)) ⟨hih2.1.1,hih2.1.2⟩) ?_
     refine bt.bif (fun c14=>?_) (fun c14=>?_)
     ·have dc14:=c14
      try simp only [DC] at dc14
      refine bt.bif (fun c15=>?_) (fun c15=>?_)
      ·have dc15:=c15
       try simp only [DC] at dc15
       refine bt.yes lm ?_
       refine bt.inl (by first | exact ⟨hih2.1,iy hih2.2⟩ | exact ⟨Z231.gh ⟨hih2.1,(bK.getD H1 h2).1⟩,iy hih2.2⟩) ?_
       rw [aE h2 Bh2]
       all_goals exact fz
      ·have dc15:=c15
       try simp only [DC] at dc15
       refine bt.yes lm ?_
       refine bt.bif (fun c16=>?_) (fun c16=>?_)
       ·refine cr (Z202.aj (bK.getD (z:=ay.zero) H1 h2).2.1) ?_
        try simp only [SS]
        refine bt.inr ?_
        all_goals exact fz
       ·refine bt.inl (by first | exact ⟨hih2.1,iy hih2.2⟩ | exact ⟨Z231.gh ⟨hih2.1,(bK.getD H1 h2).1⟩,iy hih2.2⟩) ?_
        rw [aE h2 Bh2]
        all_goals exact fz
     ·have dc14:=c14
      try simp only [DC] at dc14
      refine bt.yes lm ?_
      refine bt.bif (fun c17=>?_) (fun c17=>?_)
      ·refine cr (Z202.aj (bK.getD (z:=ay.zero) H1 h2).2.1) ?_
       try simp only [SS]
       refine bt.inr ?_
       all_goals exact fz
      ·refine bt.inl (by first | exact ⟨hih2.1,iy hih2.2⟩ | exact ⟨Z231.gh ⟨hih2.1,(bK.getD H1 h2).1⟩,iy hih2.2⟩) ?_
       rw [aE h2 Bh2]
       all_goals exact fz
    ·refine bt.bif (fun c18=>?_) (fun c18=>?_)
     ·have dc18:=c18
      try simp only [DC] at dc18
      refine bt.yes lm ?_
      refine bt.inl (by first | exact ⟨hih2.1,iy hih2.2⟩ | exact ⟨Z231.gh ⟨hih2.1,(bK.getD H1 h2).1⟩,iy hih2.2⟩) ?_
      rw [aE h2 Bh2]
      all_goals exact fz
     ·have dc18:=c18
      try simp only [DC] at dc18
      refine bt.yes lm ?_
      refine bt.bif (fun c19=>?_) (fun c19=>?_)
      ·refine cr (Z202.aj (bK.getD (z:=ay.zero) H1 h2).2.1) ?_
       try simp only [SS]
       refine bt.inr ?_
       all_goals exact fz
      ·refine bt.inl (by first | exact ⟨hih2.1,iy hih2.2⟩ | exact ⟨Z231.gh ⟨hih2.1,(bK.getD H1 h2).1⟩,iy hih2.2⟩) ?_
       rw [aE h2 Bh2]
       all_goals exact fz
  ·try have tc4:=Z174.tr (by simpa using c4)
   refine cr (Z130.aj trivial) ?_
   refine bt.bif (fun c20=>?_) (fun c20=>?_)
   ·refine cr (Z239.aj (a0:=(⟨s3.1,s3.2.1⟩:au)) ⟨hih2.1.1,hih2.1.2⟩) ?_
    refine bt.bif (fun c21=>?_) (fun c21=>?_)
    ·have dc21:=c21
     try simp only [DC] at dc21
     refine bt.bif (fun c22=>?_) (fun c22=>?_)
     ·have dc22:=c22
      try simp only [DC] at dc22
      refine bt.yes lm ?_
      refine bt.inl (by first | exact ⟨hih2.1,iy hih2.2⟩ | exact ⟨Z231.gh ⟨hih2.1,(bK.getD H1 h2).1⟩,iy hih2.2⟩) ?_
      rw [aE h2 Bh2]
      all_goals exact fz
     ·have dc22:=c22
      try simp only [DC] at dc22
      refine bt.yes lm ?_
      refine bt.bif (fun c23=>?_) (fun c23=>?_)
      ·refine cr (Z202.aj (bK.getD (z:=ay.zero) H1 h2).2.1) ?_
       try simp only [SS]
       refine bt.inr ?_
       all_goals exact fz
      ·refine bt.inl (by first | exact ⟨hih2.1,iy hih2.2⟩ | exact ⟨Z231.gh ⟨hih2.1,(bK.getD H1 h2).1⟩,iy hih2.2⟩) ?_
       rw [aE h2 Bh2]
       all_goals exact fz
    ·have dc21:=c21
     try simp only [DC] at dc21
     refine bt.yes lm ?_
     refine bt.bif (fun c24=>?_) (fun c24=>?_)
     ·refine cr (Z202.aj (bK.getD (z:=ay.zero) H1 h2).2.1) ?_
      try simp only [SS]
      refine bt.inr ?_
      all_goals exact fz
     ·refine bt.inl (by first | exact ⟨hih2.1,iy hih2.2⟩ | exact ⟨Z231.gh ⟨hih2.1,(bK.getD H1 h2).1⟩,iy hih2.2⟩) ?_
      rw [aE h2 Bh2]
      all_goals exact fz
   ·refine bt.bif (fun c25=>?_) (fun c25=>?_)
    ·have dc25:=c25
     try simp only [DC] at dc25
     refine bt.yes lm ?_
     refine bt.inl (by first | exact ⟨hih2.1,iy hih2.2⟩ | exact ⟨Z231.gh ⟨hih2.1,(bK.getD H1 h2).1⟩,iy hih2.2⟩) ?_
     rw [aE h2 Bh2]
     all_goals exact fz
    ·have dc25:=c25
     try simp only [DC] at dc25
     refine bt.yes lm ?_
     refine bt.bif (fun c26=>?_) (fun c26=>?_)
     ·refine cr (Z202.aj (bK.getD (z:=ay.zero) H1 h2).2.1) ?_
      try simp only [SS]
      refine bt.inr ?_
      all_goals exact fz
     ·refine bt.inl (by first | exact ⟨hih2.1,iy hih2.2⟩ | exact ⟨Z231.gh ⟨hih2.1,(bK.getD H1 h2).1⟩,iy hih2.2⟩) ?_
      rw [aE h2 Bh2]
      all_goals exact fz
 ·simp only [step,SS]
  have gr_:=hih2
  try simp only [LN] at gr_
  have:=(H1).1
  refine dx (by apply decide_eq_false;omega) ?_
  refine ⟨0,?_⟩
  all_goals exact fz
theorem af:cw 217 aV:=VI (mt:=false) (run:=fun n x=>start (iter step n) x.1 x.2.1 x.2.2.1 x.2.2.2.1 x.2.2.2.2) mix aD (.cons Z129.af (.cons Z202.af .nil)) .nil (.cons (Z240.th 0) .nil) Tryz.func217 (by kernel_rfl) run_eq (fun _ a _ _ hg=>bq a.1 a.2.1 a.2.2.1 a.2.2.2.1 a.2.2.2.2 hg)
theorem qQ (a0:au)(a1:List ay)(a2:Int)(a3:ByteArray)(a4:Int):md a0 a1 a2 a3 a4=dS (fun i y s=>(Z118.tH a2 a3 a4 y s).map id (fun b=>(b,(i:Int)))) (fun s=>(Z118.fin s,-1)) 0 a1 (a0.aF,a0.bg,[]):=by
 unfold md
 refine kS (fun i y _ s=>?_) (fun s=>rfl)
 have h31:((3:Int)==1)=false:=rfl
 have h61:((6:Int)==1)=false:=rfl
 have h62:((6:Int)==2)=false:=rfl
 have h63:((6:Int)==3)=false:=rfl
 have hin:∀n:Int,Z130.md n 1 3=(n==1||(n==2||n==3)):=fun n=>by
  unfold Z130.md
  rw [Bool.eq_iff_iff];simp;omega
 simp only [Z223.br,Z174.br,Z231.br,Z239.br,hin]
 unfold Z118.tH Z118.nJ
 cases g1:Z69.md y.aQ
 ·have e:(Z70.md y.aQ).2=false:=by unfold Z70.md;rw [g1];rfl
  cases g2:(Z113.md a2 a3 y a4==1)<;>simp [e,g2,h31,h61,h62,h63,Sum.map]
 have hl:=Z69.tr g1
 have e:(Z70.md y.aQ).2=true:=by unfold Z70.md;rw [g1];rfl
 have e2:(Z70.md y.aQ).1.bA=(y.aQ.getD 0 aa.zero).aq.bA:=by
  have hi:toNat (i64.wrap ((y.aQ.length:Int) - 1))=y.aQ.length - 1:=by simp (disch:=omega) only [wi];omega
  have:=Z69.AQ g1 (y.aQ.length - 1) (by omega)
  unfold Z70.md
  rw [g1,hi]
  exact this
 rw [e2,e]
 cases g3:((y.aQ.getD 0 aa.zero).aq.bA==a2)
 ·cases g2:(Z113.md a2 a3 y a4==1)<;>simp [g2,h31,h61,h62,h63,Sum.map]
 generalize Z102.md (⟨s.1,s.2.1⟩:au) y.aQ=r
 cases g2:(Z113.md a2 a3 y a4==1)<;>cases g4:(r.2==1)<;>cases g5:(r.2==2)<;>cases g6:(r.2==3)<;>cases g7:Z117.md r.1 a2<;>simp [g2,g4,g5,g6,g7,h31,Sum.map]
theorem Ci (a0:au)(a1:List ay)(a2:Int)(a3:ByteArray)(a4:Int):(md a0 a1 a2 a3 a4).1=Z118.md a0 a1 a2 a3 a4:=by
 rw [qQ,Z118.qQ]
 exact qI (p:=Prod.fst) (fun i y s=>by cases Z118.tH a2 a3 a4 y s<;>rfl) (fun s=>rfl) a1 0 _
end Z241
namespace Z242
def F (x0:bn)(x1:List (List L))(x2:Int)(x3:ByteArray)(x4:Int):aG:=(call (Z241.R (x0,x1,x2,x3,x4)) fun v1=>ret (v1.1:cY))
def md (a0:au)(a1:List ay)(a2:Int)(a3:ByteArray)(a4:Int):bO:=(Z241.md a0 a1 a2 a3 a4).1
def gd (a0:au)(a1:List ay)(a2:Int)(a3:ByteArray)(a4:Int):Prop:=(au.Sm (2^21) a0)∧(bK (2^21) (fun y:ay=>ay.Sm (2^21) y) a1)∧(a3.size≤(2^21))
def R:=RR (p5 gd) (u5 md)
theorem aj {a0 a1 a2 a3 a4}(h:gd a0 a1 a2 a3 a4):R ((au.r a0),(a1.map ay.row),a2,a3,a4)=some (bO.r (md a0 a1 a2 a3 a4)):=aM (a:=(a0,a1,a2,a3,a4)) h
def aV:=CN [.agg tI,pL 132,pI,pS,pI] (.agg f169) RT.dec R
theorem bq (a0)(a1)(a2)(a3)(a4)(hg:gd a0 a1 a2 a3 a4):F (au.r a0) (a1.map ay.row) a2 a3 a4=ret (bO.r (md a0 a1 a2 a3 a4)):=by
 obtain ⟨H0,H1,H3⟩:=hg
 unfold F md
 try simp only [SS]
 refine ct (Z241.aj ⟨H0,H1,H3⟩) ?_
 try simp only [SS]
 all_goals exact fz
theorem af:cw 118 aV:=W5 23 F mix aD bq (.cons Z241.af .nil) Tryz.func118
theorem br (a0:au)(a1:List ay)(a2:Int)(a3:ByteArray)(a4:Int):md a0 a1 a2 a3 a4=Z118.md a0 a1 a2 a3 a4:=by
 unfold md
 exact Z241.Ci a0 a1 a2 a3 a4
end Z242
namespace Z243
def F (x0:bn)(x1:Int)(x2:ByteArray)(x3:List L)(x4:List L):aG:=(call (Z209.R ((mm x3),x1,x2)) fun v1=>(call (Z242.R (x0,v1,x1,x2,(gk x4))) fun v2=>ret (v2:cY)))
def pats:List gq:=[.agg [.sl 92,.sl 280],.rd (.int .i64),.rd (.str),.ptr [.sl 227],.ptr [.int .i64]]
def res:RP:=.agg [.fr 92,.fr 280,.rd (.bool),.rd (.str),.rd (.int .i64),.rd (.int .i64),.fr 9,.rd (.bool),.fr 3]
def md (a0:au)(a1:Int)(a2:ByteArray)(a3:List az)(a4:Int):bO:=(Z242.md a0 (Z209.md a3 a1 a2) a1 a2 a4)
def gd (a0:au)(a1:Int)(a2:ByteArray)(a3:List az)(a4:Int):Prop:=(au.Sm (2^21) a0)∧(a2.size≤(2^21))∧(bK (2^21) (fun y:az=>az.Sm (2^21) y) a3)
def acc (ls:List L):bn×Int×ByteArray×List (List L)×Int:=((bn.dec ls),((aA 2 ls).headD .hole).toInt,((aA 3 ls).headD .hole).toStr,(mm (cK 1 (aA 4 ls))),(gk (cK 1 (aA 5 ls))))
def R:(bn×Int×ByteArray×List (List L)×Int)→Option cY:=RR (p5 gd) (u5 md)
theorem aj {a0 a1 a2 a3 a4}(h:gd a0 a1 a2 a3 a4):R ((au.r a0),a1,a2,(a3.map az.row),a4)=some (bO.r (md a0 a1 a2 a3 a4)):=aM (a:=(a0,a1,a2,a3,a4)) h
def aV:fW:=CN pats res acc R
theorem bq (a0:au)(a1:Int)(a2:ByteArray)(a3:List az)(a4:Int)(p3:List L)(p4:List L)(e3:(a3.map az.row)=(mm p3))(e4:a4=(gk p4))(hg:gd a0 a1 a2 a3 a4):F (au.r a0) a1 a2 p3 p4=ret ((bO.r (md a0 a1 a2 a3 a4)):cY):=by
 obtain ⟨H0,H2,H3⟩:=hg
 unfold F md
 try simp only [SS,←e3,←e4]
 refine ct (Z209.aj ⟨H3,H2⟩) ?_
 try simp only [SS,←e3,←e4]
 refine ct (Z242.aj ⟨H0,(Z209.gh (a0:=a3) (a1:=a1) (a2:=a2) ⟨H3,H2⟩),H2⟩) ?_
 try simp only [SS,←e3,←e4]
 all_goals exact fz
theorem oJ (ls:List L)(a:au×Int×ByteArray×List az×Int)(e:acc ls=Im.im a)(hg:(p5 gd) a):∃n:Nat,F (bn.dec ls) (((aA 2 ls).headD .hole).toInt) (((aA 3 ls).headD .hole).toStr) (cK 1 (aA 4 ls)) (cK 1 (aA 5 ls))=ret (Im.im ((u5 md) a)):=by
 have e0:(au.r a.1)=(bn.dec ls):=(congrArg (fun x=>x.1) e.symm)
 have e1:a.2.1=((aA 2 ls).headD .hole).toInt:=(congrArg (fun x=>x.2.1) e.symm)
 have e2:a.2.2.1=((aA 3 ls).headD .hole).toStr:=(congrArg (fun x=>x.2.2.1) e.symm)
 have hn:=bq a.1 a.2.1 a.2.2.1 a.2.2.2.1 a.2.2.2.2 (cK 1 (aA 4 ls)) (cK 1 (aA 5 ls)) (congrArg (fun x=>x.2.2.2.1) e.symm) (congrArg (fun x=>x.2.2.2.2) e.symm) hg
 refine ⟨0,?_⟩
 rw [←e0,←e1,←e2]
 exact hn
theorem af:cw 307 aV:=VP (live:=fun _=>[]) (nt:=18) (accr:=fun ls=>((bn.dec ls),((aA 2 ls).headD .hole).toInt,((aA 3 ls).headD .hole).toStr,(cK 1 (aA 4 ls)),(cK 1 (aA 5 ls)))) (run:=fun _ x=>F x.1 x.2.1 x.2.2.1 x.2.2.2.1 x.2.2.2.2) mix aD (.cons Z209.af (.cons Z242.af .nil)) Tryz.func307 (by kernel_rfl) (fun _ _=>by kernel_rfl) (fun ls a _ e hg=>oJ ls a e hg)
theorem lk (a0:au)(a1:Int)(a2:ByteArray)(a3:List az)(a4:Int):md a0 a1 a2 a3 a4=Z118.md a0 (Z96.md a3 a1 a2) a1 a2 a4:=by
 unfold md
 rw [Z242.br,Z209.br]
end Z243
namespace Z244
abbrev E (n:Nat):Env:={ T:=assoc kQ,G:=dy [(294,Z201.aV),(298,Z135.aV),(280,Z202.aV)],nt:=83,M:=fT [],np:=n,I:=nD [] }
def ic (n:Nat):mh:=inl (E n) Tryz.f345
theorem th (n:Nat):gX Tryz.prog Ev n 345 (ic n):=xw (mt:=false) mix aD (.cons Z201.af (.cons Z135.af (.cons Z202.af .nil))) .nil .nil Tryz.func345 (by kernel_rfl)
end Z244
namespace Z245
inductive Pt where
 | p0 (a:List (List L)) (b:List L) (c:List L) (d:Int) (e:Int) (f:ByteArray) (g:Int) (h:Int) (i:Int) (j:Int) (k:ByteArray) (l:Int) (m:Int) (n:Int) (o:List (List L)) (p:List (List L)) (q:List (List L)) (s:List (List L))
def pid:Pt→Nat
 | .p0 ..=>6
def bY:Pt→List V
 | .p0 a b c d e f g h i j k l m n o p q s=>[.sl none 9 a,.fn 307 [.dD none [.sl 227] b 0,.dD none [.int .i64] c 0],.dc 0 0,.dc 1 0,.int .i64 d,.dc 1 0,.dc 1 0]
def bZ:Pt→List aU
 | .p0 a b c d e f g h i j k l m n o p q s=>[.box [.nil,.nil,.int .i64 e,.str f,.int .i64 g,.int .i64 h,.nil,.nil,.int .i64 i],.box [.own 2,.own 3,.int .i64 j,.str k,.int .i64 l,.int .i64 m,.own 4,.own 5,.int .i64 n],.row 92 o,.row 280 p,.row 9 q,.row 3 s]
def step (J:Pt→aG):Pt→aG
 | .p0 a b c d e f g h i j k l m n o p q s=>(cond (j==0) (bX (decide ((0:Int)<(a.length:Int))) (call (Z243.R ((⟨o,p⟩:bn),d,(pZ a 0),(mm b),(gk c))) fun v1=>(bX (eU (((s.length:Int)+1)*8)) (bX (decide ((1:Int)≤(a.length:Int))) (bX (decide ((a.length:Int)≤(a.length:Int))) (cond (!v1.kf) (J (.p0 [] b c 0 e f g h i 3 k l m n v1.bV.aF v1.bV.bg q (s++[[L.int d]]))) (cond (!v1.cj) (J (.p0 [] b c 0 e f g h i 2 k l m n v1.bV.aF v1.bV.bg q (s++[[L.int d]]))) (cond (v1.aN.bD==3) (call (Z201.R v1.aN.bC) fun v2=>(bX (eU (((v2.length:Int)+((List.take (toNat ((a.length:Int) - 1)) (List.drop 1 a)).length:Int))*16)) (cond (decide (n≥3)) (J (.p0 [] b c 0 e f g h i 5 k l m n v1.bV.aF v1.bV.bg q (s++[[L.int d]]))) (call (Z135.R (v2++(List.take (toNat ((a.length:Int) - 1)) (List.drop 1 a)))) fun v3=>(cond (!v3) (J (.p0 [] b c 0 e f g h i 5 k l m n v1.bV.aF v1.bV.bg q (s++[[L.int d]]))) (J (.p0 (v2++(List.take (toNat ((a.length:Int) - 1)) (List.drop 1 a))) b c v1.aN.bS e f g h i j k l m (i64.wrap (n+1)) v1.bV.aF v1.bV.bg q (s++[[L.int d]])))))))) (cond (((List.take (toNat ((a.length:Int) - 1)) (List.drop 1 a)).length:Int)==0) (call (Z202.R v1.aN) fun v4=>J (.p0 [] b c 0 e f g h i 1 v4.aW v4.bD v4.bS n v1.bV.aF v1.bV.bg v4.bC (s++[[L.int d]]))) (cond (v1.aN.bD==2) (J (.p0 (List.take (toNat ((a.length:Int) - 1)) (List.drop 1 a)) b c v1.aN.bS e f g h i j k l m n v1.bV.aF v1.bV.bg q (s++[[L.int d]]))) (J (.p0 [] b c 0 e f g h i 4 k l m n v1.bV.aF v1.bV.bg q (s++[[L.int d]]))))))))))))) (ret ((⟨(⟨o,p⟩:bn),j,(⟨k,l,m,q⟩:aS),s,n⟩:cV):cV)))
def start (J:Pt→aG)(x0:bn)(x1:Int)(x2:List (List L))(x3:List L)(x4:List L):aG:=(call (Z129.R x0) fun v1=>(call (Z135.R x2) fun v2=>(cond (!v2) (ret ((⟨v1,6,(⟨(⟨#[]⟩:ByteArray),0,0,[]⟩:aS),[],0⟩:cV):cV)) (J (.p0 x2 x3 x4 x1 0 ⟨#[]⟩ 0 0 0 0 ⟨#[]⟩ 0 0 0 v1.aF v1.bg [] [])))))
def live:Nat→Live:=fun i=>match i with | 6=>[(2,some 1099511627785),(3,none),(8,none),(9,none),(10,none),(9,some 6291465),(9,some 7340035)] | _=>[]
def pats:List gq:=[.agg [.sl 92,.sl 280],.rd (.int .i64),.rd (.sl 9),.fn 307 [[.sl 227],[.int .i64]]]
def res:RP:=.agg [.fr 92,.fr 280,.rd (.int .i64),.rd (.str),.rd (.int .i64),.rd (.int .i64),.fr 9,.fr 3,.rd (.int .i64)]
abbrev E:Env:={ T:=assoc kQ,G:=dy [(170,Z129.aV),(298,Z135.aV),(307,Z243.aV)],nt:=48,M:=fT [],I:=nD [(345,Z244.ic 0)] }
theorem step_eq (I:cG)(p:Pt):cT E live I (pid p) (bM Tryz.f214) (fM (live (pid p)) (bY p) (bZ p)) (cH E Tryz.f214 res)=step (fun q=>I (pid q) (bY q) (bZ q)) p:=by
 cases p<;>kernel_rfl
theorem start_eq (I:cG)(ls:List L):eX E live I (bM Tryz.f214) (cZ pats ls) (cH E Tryz.f214 res)=start (fun q=>I (pid q) (bY q) (bZ q)) (bn.dec ls) ((aA 2 ls).headD .hole).toInt ((aA 3 ls).headD .hole).aR (cK 1 (aA 4 ls)) (cK 1 (aA 5 ls)):=by kernel_rfl
theorem run_eq (n:Nat)(ls:List L):eO E live Tryz.f214 res n (cZ pats ls)=start (iter step n) (bn.dec ls) ((aA 2 ls).headD .hole).toInt ((aA 3 ls).headD .hole).aR (cK 1 (aA 4 ls)) (cK 1 (aA 5 ls)):=cC (id:=pid) (vs:=bY) (hs:=bZ) (step:=step) (start:=fun J=>start J (bn.dec ls) ((aA 2 ls).headD .hole).toInt ((aA 3 ls).headD .hole).aR (cK 1 (aA 4 ls)) (cK 1 (aA 5 ls))) step_eq (fun I=>start_eq I ls) n
def md (a0:au)(a1:Int)(a2:List ByteArray)(a3:List az)(a4:Int):bz:=(cond (!Z135.md a2) ⟨a0,6,⟨⟨#[]⟩,0,0,[]⟩,[],0⟩ ((Z121.rs (Z121.lk a3 a4) 17 () a0 [] 0 a1 a2).1))
def gd (a0:au)(a1:Int)(a2:List ByteArray)(a3:List az)(a4:Int):Prop:=(au.Sm (2^21) a0)∧(bK (2^21) (fun y:ByteArray=>y.size≤(2^21)) a2)∧(bK (2^21) (fun y:az=>az.Sm (2^21) y) a3)
def acc (ls:List L):bn×Int×List (List L)×List (List L)×Int:=((bn.dec ls),((aA 2 ls).headD .hole).toInt,((aA 3 ls).headD .hole).aR,(mm (cK 1 (aA 4 ls))),(gk (cK 1 (aA 5 ls))))
def R:(bn×Int×List (List L)×List (List L)×Int)→Option cV:=RR (p5 gd) (u5 md)
theorem aj {a0 a1 a2 a3 a4}(h:gd a0 a1 a2 a3 a4):R ((au.r a0),a1,(a2.map cA),(a3.map az.row),a4)=some (bz.r (md a0 a1 a2 a3 a4)):=aM (a:=(a0,a1,a2,a3,a4)) h
def aV:fW:=CN pats res acc R
theorem bq (a0:au)(a1:Int)(a2:List ByteArray)(a3:List az)(a4:Int)(p3:List L)(p4:List L)(e3:(a3.map az.row)=(mm p3))(e4:a4=(gk p4))(hg:gd a0 a1 a2 a3 a4):∃n,start (iter step n) (au.r a0) a1 (a2.map cA) p3 p4=ret ((bz.r (md a0 a1 a2 a3 a4)):cV):=by
 obtain ⟨H0,H2,H3⟩:=hg
 have fin:∀(J:Pt→aG) (code:Int) (x z:Int) (xs:List (List L)) (lab:ByteArray) (kd vl mv:Int) (o p q s:List (List L)),¬code=0→step J (Pt.p0 xs p3 p4 z 0 ⟨#[]⟩ 0 0 0 code lab kd vl mv o p q s)=ret (⟨⟨o,p⟩,code,⟨lab,kd,vl,q⟩,s,mv⟩:cV):=by
  intro J code x z xs lab kd vl mv o p q s h
  simp only [step]
  exact cN (beq_eq_false_iff_ne.2 h) rfl
 have key:∀(n:Nat) (k:au) (zs:List Int) (mv z:Int) (p:List ByteArray),au.Sm (2^21) k→Z43.md p=true→0≤mv→mv≤3→(3 - mv)*4+(p.length:Int)≤n→zs.length+n≤100→
   ∃m,iter step m (Pt.p0 (p.map cA) p3 p4 z 0 ⟨#[]⟩ 0 0 0 0 ⟨#[]⟩ 0 0 mv (k.aF.map (dK aa.row)) (k.bg.map aB.row) [] (zs.map aZ))=ret (bz.r (Z121.rs (Z121.lk a3 a4) n () k zs mv z p).1):=by
  intro n
  induction n with
  | zero=>intro k zs mv z p _ hp _ _ hm _;have:=(Z43.tr hp).1;omega
  | succ n ih=>
   intro k zs mv z p hk hp h0 h3 hm hz
   obtain ⟨⟨p1,p4'⟩,p8⟩:=Z43.tr hp
   obtain ⟨x,xs,rfl⟩:∃x xs,p=x::xs:=by
    cases p with
    | nil=>simp at p1
    | cons x xs=>exact ⟨x,xs,rfl⟩
   have hx:x.size≤2^21:=Nat.le_trans (p8 x (by simp)) (by decide)
   have hxs:∀y∈xs,y.size≤2^22:=fun y hy=>Nat.le_trans (p8 y (by simp [hy])) (by decide)
   have hask:=Z96.gh (a0:=a3) (a1:=z) (a2:=x) ⟨H3,hx⟩
   have hlk:=Z118.gh (a0:=k) (a1:=Z96.md a3 z x) (a2:=z) (a3:=x) (a4:=a4) ⟨hk,hask,hx⟩
   have hat:pZ ((x::xs).map cA) 0=x:=rfl
   have ht:List.take (toNat (((xs.length+1:Nat):Int) - 1)) (List.drop 1 ((x::xs).map cA))=xs.map cA:=by
    simp only [List.map_cons,List.drop_succ_cons,List.drop_zero]
    exact List.take_of_length_le (by simp)
   simp only [List.length_cons] at p4' hm
   refine Z121.wD ?_
   simp only [step,hat,List.length_map,List.length_cons,ht,←e3,←e4]
   refine dI rfl (dI dt ?_)
   have hR:=Z243.aj (a0:=k) (a1:=z) (a2:=x) (a3:=a3) (a4:=a4) ⟨hk,hx,H3⟩
   rw [Z243.lk] at hR
   refine cx hR ?_
   have hcase:∀q,Z121.nx (Z118.md k (Z96.md a3 z x) z x a4) mv (x::xs)=.inl q→Z121.rs (Z121.lk a3 a4) (n+1) () k zs mv z (x::xs)=(⟨(Z118.md k (Z96.md a3 z x) z x a4).bV,q.1,q.2,zs++[z],mv⟩,()):=fun q hq=>Z121.vE hq
   have hcase2:∀q,Z121.nx (Z118.md k (Z96.md a3 z x) z x a4) mv (x::xs)=.inr q→Z121.rs (Z121.lk a3 a4) (n+1) () k zs mv z (x::xs)=Z121.rs (Z121.lk a3 a4) n () (Z118.md k (Z96.md a3 z x) z x a4).bV (zs++[z]) q.1 q.2.1 q.2.2:=fun q hq=>Z121.vF hq
   clear hR
   revert hcase hcase2 hlk
   generalize Z118.md k (Z96.md a3 z x) z x a4=l
   intro hlk hcase hcase2
   refine dI lm (dI dt (dI dt ?_))
   obtain ⟨lk0,lf,le,ld,lc⟩:=l
   unfold Z121.nx at hcase hcase2
   have hzz:zs.map aZ++[[L.int z]]=(zs++[z]).map aZ:=by simp [aZ]
   cases ld
   ·exact dI rfl ⟨1,(fin _ 3 0 _ _ _ _ _ _ _ _ _ _ (by decide)).trans (by rw [hcase _ rfl];exact fz)⟩
   cases lf
   ·exact dx rfl (dI rfl ⟨1,(fin _ 2 0 _ _ _ _ _ _ _ _ _ _ (by decide)).trans (by rw [hcase _ rfl];exact fz)⟩)
   simp only [Bool.not_true,bk,bf,List.tail_cons] at hcase hcase2 ⊢
   have hpl:bK (2^21) (fun y:ByteArray=>y.size≤(2^21)) le.bC:=hlk.2.1.2
   have hpl1:le.bC.length≤2^21:=hpl.1
   refine dx rfl (dx rfl ?_)
   try simp only [SS]
   cases hk3:(le.bD==3)
   ·simp only [hk3,bk] at hcase hcase2 ⊢
    by_cases hx0:xs.length=0
    ·have e0:((xs.length:Int)==0)=true:=by simp [hx0]
     rw [e0] at hcase
     refine dI (beq_iff_eq.2 (by omega)) (cx (Z202.aj (a0:=le) hlk.2.1) ?_)
     exact ⟨1,(fin _ 1 0 _ _ _ _ _ _ _ _ _ _ (by decide)).trans (by rw [hcase _ rfl];exact fz)⟩
    ·have e0:((xs.length:Int)==0)=false:=by simpa using hx0
     rw [e0] at hcase hcase2
     refine dx (beq_eq_false_iff_ne.2 (by omega)) ?_
     cases hk2:(le.bD==2)
     ·simp only [hk2,bk] at hcase
      exact dx rfl ⟨1,(fin _ 4 0 _ _ _ _ _ _ _ _ _ _ (by decide)).trans (by rw [hcase _ rfl];exact fz)⟩
     ·simp only [hk2,bk,bf] at hcase2
      refine dI rfl ?_
      have hip:Z43.md xs=true:=Z43.tl hp hx0
      rw [hcase2 _ rfl,hzz]
      exact ih lk0 (zs++[z]) mv le.bS xs hlk.1 hip h0 h3 (by omega) (by simp;omega)
   ·simp only [hk3,bf] at hcase hcase2 ⊢
    refine cx (Z201.aj (a0:=le.bC) hpl) ?_
    refine dI (by have :(le.bC.map cA).length=le.bC.length:=List.length_map ..;have :(xs.map cA).length=xs.length:=List.length_map ..;exact iS (by omega)) ?_
    by_cases hmv:mv≥3
    ·rw [decide_eq_true hmv] at hcase ⊢
     exact dI rfl ⟨1,(fin _ 5 0 _ _ _ _ _ _ _ _ _ _ (by decide)).trans (by rw [hcase _ rfl];exact fz)⟩
    ·rw [decide_eq_false hmv] at hcase hcase2 ⊢
     simp only [bk] at hcase hcase2 ⊢
     have e:le.bC.map cA++xs.map cA=(le.bC++xs).map cA:=by simp
     rw [e]
     have hq:=Z135.aj (a0:=le.bC++xs) ⟨by rw [List.length_append];omega,fun y hy=>(List.mem_append.1 hy).elim (fun h=>Nat.le_trans (hpl.2 y h) (by decide)) (hxs y)⟩
     rw [Z135.br] at hq
     refine cx hq ?_
     cases hip:Z43.md (le.bC++xs)
     ·rw [hip] at hcase
      exact dI rfl ⟨1,(fin _ 5 0 _ _ _ _ _ _ _ _ _ _ (by decide)).trans (by rw [hcase _ rfl];exact fz)⟩
     ·rw [hip] at hcase2
      have ht:=Z43.tr hip
      rw [hcase2 _ rfl,hzz,wi _ (by omega)]
      exact ih lk0 (zs++[z]) (mv+1) le.bS (le.bC++xs) hlk.1 hip (by omega) (by omega) (by omega) (by simp;omega)
 unfold start md
 refine cx (Z129.aj (a0:=a0) H0) ?_
 refine cx (Z135.aj (a0:=a2) (bK.mono H2 (by decide) (fun y hy=>Nat.le_trans hy (by decide)))) ?_
 cases hp:Z135.md a2
 ·exact ⟨0,rfl⟩
 ·simp only [Bool.not_true,bk]
  rw [Z135.br] at hp
  exact key 17 a0 [] 0 a1 a2 H0 hp (by decide) (by decide) (by have:=(Z43.tr hp).1;omega) (by simp)
theorem oJ (ls:List L)(a:au×Int×List ByteArray×List az×Int)(e:acc ls=Im.im a)(hg:(p5 gd) a):∃n:Nat,start (iter step n) (bn.dec ls) (((aA 2 ls).headD .hole).toInt) (((aA 3 ls).headD .hole).aR) (cK 1 (aA 4 ls)) (cK 1 (aA 5 ls))=ret (Im.im ((u5 md) a)):=by
 have e0:(au.r a.1)=(bn.dec ls):=(congrArg (fun x=>x.1) e.symm)
 have e1:a.2.1=((aA 2 ls).headD .hole).toInt:=(congrArg (fun x=>x.2.1) e.symm)
 have e2:(a.2.2.1.map cA)=((aA 3 ls).headD .hole).aR:=(congrArg (fun x=>x.2.2.1) e.symm)
 obtain ⟨n,hn⟩:=bq a.1 a.2.1 a.2.2.1 a.2.2.2.1 a.2.2.2.2 (cK 1 (aA 4 ls)) (cK 1 (aA 5 ls)) (congrArg (fun x=>x.2.2.2.1) e.symm) (congrArg (fun x=>x.2.2.2.2) e.symm) hg
 refine ⟨n,?_⟩
 rw [←e0,←e1,←e2]
 exact hn
theorem af:cw 214 aV:=VJ (mt:=false) (accr:=fun ls=>((bn.dec ls),((aA 2 ls).headD .hole).toInt,((aA 3 ls).headD .hole).aR,(cK 1 (aA 4 ls)),(cK 1 (aA 5 ls)))) (run:=fun n x=>start (iter step n) x.1 x.2.1 x.2.2.1 x.2.2.2.1 x.2.2.2.2) mix aD (.cons Z129.af (.cons Z135.af (.cons Z243.af .nil))) .nil (.cons (Z244.th 0) .nil) Tryz.func214 (by kernel_rfl) run_eq (fun ls a _ e hg=>oJ ls a e hg)
end Z245
namespace Z246
def F (x0:bn)(x1:List (List L))(x2:Int)(x3:List (List L))(x4:Int):aG:=(call (Z245.R (x0,x2,x3,x1,x4)) fun v1=>ret (v1:cV))
def md (a0:au)(a1:List az)(a2:Int)(a3:List ByteArray)(a4:Int):bz:=(Z245.md a0 a2 a3 a1 a4)
def gd (a0:au)(a1:List az)(a2:Int)(a3:List ByteArray)(a4:Int):Prop:=(au.Sm (2^21) a0)∧(bK (2^21) (fun y:az=>az.Sm (2^21) y) a1)∧(bK (2^21) (fun y:ByteArray=>y.size≤(2^21)) a3)
def R:=RR (p5 gd) (u5 md)
theorem aj {a0 a1 a2 a3 a4}(h:gd a0 a1 a2 a3 a4):R ((au.r a0),(a1.map az.row),a2,(a3.map cA),a4)=some (bz.r (md a0 a1 a2 a3 a4)):=aM (a:=(a0,a1,a2,a3,a4)) h
def aV:=CN [.agg tI,pL 227,pI,pL 9,pI] (.agg f64) RT.dec R
theorem bq (a0)(a1)(a2)(a3)(a4)(hg:gd a0 a1 a2 a3 a4):F (au.r a0) (a1.map az.row) a2 (a3.map cA) a4=ret (bz.r (md a0 a1 a2 a3 a4)):=by
 obtain ⟨H0,H1,H3⟩:=hg
 unfold F md
 try simp only [SS]
 refine ct (Z245.aj ⟨H0,H3,H1⟩) ?_
 try simp only [SS]
 all_goals exact fz
theorem af:cw 127 aV:=W5 16 F mix aD bq (.cons Z245.af .nil) Tryz.func127
theorem br (a0:au)(a1:List az)(a2:Int)(a3:List ByteArray)(a4:Int):md a0 a1 a2 a3 a4=Z121.md a0 a1 a2 a3 a4:=by
 unfold md Z245.md Z121.md
 rw [Z135.br]
end Z246
namespace Z247
inductive Pt where
 | p0 (a:List (List L)) (b:List (List L)) (c:Int)
def pid:Pt→Nat
 | .p0 ..=>4
def bY:Pt→List V
 | .p0 a b c=>[.sl none 3 a,.sl none 3 b,.int .i64 c]
def bZ:Pt→List aU
 | .p0 a b c=>[]
def step (J:Pt→aG):Pt→aG
 | .p0 a b c=>(cond (decide (c<(a.length:Int))) (m2 c (a.length:Int) (m2 c (b.length:Int) (cond ((jv a (toNat c)) != (jv b (toNat c))) (ret (false:Bool)) (J (.p0 a b (i64.wrap (c+1))))))) (ret (true:Bool)))
def start (J:Pt→aG)(x0:List (List L))(x1:List (List L)):aG:=(cond ((x0.length:Int) != (x1.length:Int)) (ret (false:Bool)) (J (.p0 x0 x1 0)))
def live:Nat→Live:=fun i=>match i with | 4=>[(0,none),(1,none),(5,none)] | _=>[]
def pats:List gq:=[.rd (.sl 3),.rd (.sl 3)]
def res:RP:=.one (.rd (.bool))
abbrev E:Env:={ T:=assoc kQ,G:=dy [],nt:=26 }
theorem step_eq (I:cG)(p:Pt):cT E live I (pid p) (bM Tryz.f187) (fM (live (pid p)) (bY p) (bZ p)) (cH E Tryz.f187 res)=step (fun q=>I (pid q) (bY q) (bZ q)) p:=by
 cases p<;>kernel_rfl
theorem start_eq (I:cG)(ls:List L):eX E live I (bM Tryz.f187) (cZ pats ls) (cH E Tryz.f187 res)=start (fun q=>I (pid q) (bY q) (bZ q)) (ls.headD .hole).aR ((aA 1 ls).headD .hole).aR:=by kernel_rfl
theorem run_eq (n:Nat)(ls:List L):eO E live Tryz.f187 res n (cZ pats ls)=start (iter step n) (ls.headD .hole).aR ((aA 1 ls).headD .hole).aR:=cC (id:=pid) (vs:=bY) (hs:=bZ) (step:=step) (start:=fun J=>start J (ls.headD .hole).aR ((aA 1 ls).headD .hole).aR) step_eq (fun I=>start_eq I ls) n
def md (a0:List Int)(a1:List Int):Bool:=dZ a0 a1
def gd (a0:List Int)(a1:List Int):Prop:=True
def acc (ls:List L):List (List L)×List (List L):=((ls.headD .hole).aR,((aA 1 ls).headD .hole).aR)
def R:(List (List L)×List (List L))→Option Bool:=RR (p2 gd) (u2 md)
theorem aj {a0 a1}(h:gd a0 a1):R ((a0.map aZ),(a1.map aZ))=some (md a0 a1):=aM (a:=(a0,a1)) h
def aV:fW:=CN pats res acc R
theorem bq (a0:List Int)(a1:List Int)(hg:gd a0 a1)(h0:a0.length≤maxLen)(h1:a1.length≤maxLen):∃n,start (iter step n) (a0.map aZ) (a1.map aZ)=ret ((md a0 a1):Bool):=by
 unfold start md
 simp only [List.length_map]
 refine iZ (pt:=fun i=>Pt.p0 (a0.map aZ) (a1.map aZ) (i:Int)) (fun hl J i h h2=>?_) (fun J=>?_)
 ·simp only [step,MM,List.length_map,aL h,aL h2,aH,bf,cF,tA h,tA h2]
  rw [aE h h0]
  simp only [bne,fq,bool_beq,eS]
  cases dZ a0[i] a1[i]<;>rfl
 ·simp only [step,List.length_map,ef,bk]
theorem af:cw 187 aV:=VV (run:=fun n x=>start (iter step n) x.1 x.2) mix aD .nil Tryz.func187 (by kernel_rfl) run_eq (fun ls a hl e hg=>bq a.1 a.2 hg (by have h:(ls.headD .hole).aR.length≤maxLen:=hl.1.len;have e:a.1.map aZ=(ls.headD .hole).aR:=(congrArg (fun x=>x.1) e.symm);rw [←e] at h;simpa using h) (by have h:((aA 1 ls).headD .hole).aR.length≤maxLen:=hl.2.1.len;have e:a.2.map aZ=((aA 1 ls).headD .hole).aR:=(congrArg (fun x=>x.2) e.symm);rw [←e] at h;simpa using h))
end Z247
namespace Z248
def F (x0:bu)(x1:bu):aG:=(call (Z247.R (x0.aT,x1.aT)) fun v1=>(cond (!v1) (ret (false:Bool)) (cond (x0.cu != x1.cu) (ret (false:Bool)) (ret (true:Bool)))))
def md (a0:aJ)(a1:aJ):Bool:=dZ a0 a1
def gd (a0:aJ)(a1:aJ):Prop:=True
def R:=RR (p2 gd) (u2 md)
theorem aj {a0 a1}(h:gd a0 a1):R ((aJ.r a0),(aJ.r a1))=some (md a0 a1):=aM (a:=(a0,a1)) h
def aV:=CN [.agg qb,.agg qb] oB RT.dec R
theorem bq (a0)(a1)(hg:gd a0 a1):F (aJ.r a0) (aJ.r a1)=ret (md a0 a1):=by
 unfold md
 show (call (Z247.R ((a0.aT.map aZ),(a1.aT.map aZ))) fun v1=>(cond (!v1) (ret (false:Bool)) (cond (a0.cu != a1.cu) (ret (false:Bool)) (ret (true:Bool)))))=_
 simp only [call_eq (Z247.aj (a0:=a0.aT) (a1:=a1.aT) trivial),Z247.md]
 try simp only [bne,fq,bool_beq,eS]
 have e:dZ a0 a1=(dZ a0.aT a1.aT&&(dZ a0.cu a1.cu&&true)):=by
  cases a0;cases a1
  rw [Bool.eq_iff_iff]
  simp only [dm,Bool.and_eq_true,aJ.mk.injEq,and_true]
 rw [e]
 refine cM fun _=>?_
 refine cM fun _=>?_
 rfl
theorem af:cw 553 aV:=W2 16 F mix aD bq (.cons Z247.af .nil) Tryz.func553
end Z248
namespace Z249
def F (x0:bU)(x1:bU):aG:=(cond (x0.bA != x1.bA) (ret (false:Bool)) (cond (x0.cE != x1.cE) (ret (false:Bool)) (cond (x0.bD != x1.bD) (ret (false:Bool)) (cond (x0.cB != x1.cB) (ret (false:Bool)) (cond (x0.cq != x1.cq) (ret (false:Bool)) (cond (x0.cg != x1.cg) (ret (false:Bool)) (cond (x0.cS != x1.cS) (ret (false:Bool)) (cond (x0.dz != x1.dz) (ret (false:Bool)) (call (Z248.R (x0.bJ,x1.bJ)) fun v1=>(cond (!v1) (ret (false:Bool)) (call (Z248.R (x0.bw,x1.bw)) fun v2=>(cond (!v2) (ret (false:Bool)) (cond (x0.cW != x1.cW) (ret (false:Bool)) (call (Z248.R (x0.bp,x1.bp)) fun v3=>(cond (!v3) (ret (false:Bool)) (cond (!(x0.bB==x1.bB)) (ret (false:Bool)) (ret (true:Bool))))))))))))))))))
def md (a0:aC)(a1:aC):Bool:=dZ a0 a1
def gd (a0:aC)(a1:aC):Prop:=True
def R:=RR (p2 gd) (u2 md)
theorem aj {a0 a1}(h:gd a0 a1):R ((aC.r a0),(aC.r a1))=some (md a0 a1):=aM (a:=(a0,a1)) h
def aV:=CN [.agg fX,.agg fX] oB RT.dec R
theorem bq (a0)(a1)(hg:gd a0 a1):F (aC.r a0) (aC.r a1)=ret (md a0 a1):=by
 unfold md
 show (bif (a0.bA != a1.bA) then ret (false:Bool) else (bif (a0.cE != a1.cE) then ret (false:Bool) else (bif (a0.bD != a1.bD) then ret (false:Bool) else (bif (a0.cB != a1.cB) then ret (false:Bool) else (bif (a0.cq != a1.cq) then ret (false:Bool) else (bif (a0.cg != a1.cg) then ret (false:Bool) else (bif (a0.cS != a1.cS) then ret (false:Bool) else (bif (a0.dz != a1.dz) then ret (false:Bool) else (call (Z248.R ((aJ.r a0.bJ),(aJ.r a1.bJ))) fun v1=>(bif (!v1) then ret (false:Bool) else (call (Z248.R ((aJ.r a0.bw),(aJ.r a1.bw))) fun v2=>(bif (!v2) then ret (false:Bool) else (bif (a0.cW != a1.cW) then ret (false:Bool) else (call (Z248.R ((aJ.r a0.bp),(aJ.r a1.bp))) fun v3=>(cond (!v3) (ret (false:Bool)) (cond (!(a0.bB==a1.bB)) (ret (false:Bool)) (ret (true:Bool))))))))))))))))))=_
 simp only [call_eq (Z248.aj (a0:=a0.bJ) (a1:=a1.bJ) trivial),Z248.md]
 simp only [call_eq (Z248.aj (a0:=a0.bw) (a1:=a1.bw) trivial),Z248.md]
 simp only [call_eq (Z248.aj (a0:=a0.bp) (a1:=a1.bp) trivial),Z248.md]
 try simp only [bne,fq,bool_beq,eS]
 have e:dZ a0 a1=(dZ a0.bA a1.bA&&(dZ a0.cE a1.cE&&(dZ a0.bD a1.bD&&(dZ a0.cB a1.cB&&(dZ a0.cq a1.cq&&(dZ a0.cg a1.cg&&(dZ a0.cS a1.cS&&(dZ a0.dz a1.dz&&(dZ a0.bJ a1.bJ&&(dZ a0.bw a1.bw&&(dZ a0.cW a1.cW&&(dZ a0.bp a1.bp&&(dZ a0.bB a1.bB&&true))))))))))))):=by
  cases a0;cases a1
  rw [Bool.eq_iff_iff]
  simp only [dm,Bool.and_eq_true,aC.mk.injEq,and_true]
 rw [e]
 refine cM fun _=>?_
 refine cM fun _=>?_
 refine cM fun _=>?_
 refine cM fun _=>?_
 refine cM fun _=>?_
 refine cM fun _=>?_
 refine cM fun _=>?_
 refine cM fun _=>?_
 refine cM fun _=>?_
 refine cM fun _=>?_
 refine cM fun _=>?_
 refine cM fun _=>?_
 refine cM fun _=>?_
 rfl
theorem af:cw 492 aV:=W2 73 F mix aD bq (.cons Z248.af .nil) Tryz.func492
end Z249
namespace Z250
def F (x0:aY)(x1:aY):aG:=(cond (x0.gN != x1.gN) (ret (false:Bool)) (cond (x0.jw != x1.jw) (ret (false:Bool)) (ret (true:Bool))))
def md (a0:aY)(a1:aY):Bool:=dZ a0 a1
def gd (a0:aY)(a1:aY):Prop:=True
def R:=RR (p2 gd) (u2 md)
theorem aj {a0 a1}(h:gd a0 a1):R (a0,a1)=some (md a0 a1):=aM (a:=(a0,a1)) h
def aV:=CN [.agg yI,.agg yI] oB RT.dec R
theorem bq (a0)(a1)(hg:gd a0 a1):F a0 a1=ret (md a0 a1):=by
 unfold md
 show (cond (a0.gN != a1.gN) (ret (false:Bool)) (cond (a0.jw != a1.jw) (ret (false:Bool)) (ret (true:Bool))))=_
 try simp only [bne,fq,bool_beq,eS]
 have e:dZ a0 a1=(dZ a0.gN a1.gN&&(dZ a0.jw a1.jw&&true)):=by
  cases a0;cases a1
  rw [Bool.eq_iff_iff]
  simp only [dm,Bool.and_eq_true,aY.mk.injEq,and_true]
 rw [e]
 refine cM fun _=>?_
 refine cM fun _=>?_
 rfl
theorem af:cw 554 aV:=W2 15 F mix aD bq .nil Tryz.func554
end Z250
namespace Z251
inductive Pt where
 | p0 (a:List (List L)) (b:List (List L)) (c:Int)
def pid:Pt→Nat
 | .p0 ..=>4
def bY:Pt→List V
 | .p0 a b c=>[.sl none 428 a,.sl none 428 b,.int .i64 c]
def bZ:Pt→List aU
 | .p0 a b c=>[]
def step (J:Pt→aG):Pt→aG
 | .p0 a b c=>(cond (decide (c<(a.length:Int))) (m2 c (a.length:Int) (m2 c (b.length:Int) (call (Z250.R ((aY.at a (toNat c)),(aY.at b (toNat c)))) fun v1=>(cond (!v1) (ret (false:Bool)) (J (.p0 a b (i64.wrap (c+1)))))))) (ret (true:Bool)))
def start (J:Pt→aG)(x0:List (List L))(x1:List (List L)):aG:=(cond ((x0.length:Int) != (x1.length:Int)) (ret (false:Bool)) (J (.p0 x0 x1 0)))
def live:Nat→Live:=fun i=>match i with | 4=>[(0,none),(1,none),(5,none)] | _=>[]
def pats:List gq:=[.rd (.sl 428),.rd (.sl 428)]
def res:RP:=.one (.rd (.bool))
abbrev E:Env:={ T:=assoc kQ,G:=dy [(554,Z250.aV)],nt:=27 }
theorem step_eq (I:cG)(p:Pt):cT E live I (pid p) (bM Tryz.f493) (fM (live (pid p)) (bY p) (bZ p)) (cH E Tryz.f493 res)=step (fun q=>I (pid q) (bY q) (bZ q)) p:=by
 cases p<;>kernel_rfl
theorem start_eq (I:cG)(ls:List L):eX E live I (bM Tryz.f493) (cZ pats ls) (cH E Tryz.f493 res)=start (fun q=>I (pid q) (bY q) (bZ q)) (ls.headD .hole).aR ((aA 1 ls).headD .hole).aR:=by kernel_rfl
theorem run_eq (n:Nat)(ls:List L):eO E live Tryz.f493 res n (cZ pats ls)=start (iter step n) (ls.headD .hole).aR ((aA 1 ls).headD .hole).aR:=cC (id:=pid) (vs:=bY) (hs:=bZ) (step:=step) (start:=fun J=>start J (ls.headD .hole).aR ((aA 1 ls).headD .hole).aR) step_eq (fun I=>start_eq I ls) n
def md (a0:List aY)(a1:List aY):Bool:=dZ a0 a1
def gd (a0:List aY)(a1:List aY):Prop:=True
def acc (ls:List L):List (List L)×List (List L):=((ls.headD .hole).aR,((aA 1 ls).headD .hole).aR)
def R:(List (List L)×List (List L))→Option Bool:=RR (p2 gd) (u2 md)
theorem aj {a0 a1}(h:gd a0 a1):R ((a0.map aY.row),(a1.map aY.row))=some (md a0 a1):=aM (a:=(a0,a1)) h
def aV:fW:=CN pats res acc R
theorem bq (a0:List aY)(a1:List aY)(hg:gd a0 a1)(h0:a0.length≤maxLen)(h1:a1.length≤maxLen):∃n,start (iter step n) (a0.map aY.row) (a1.map aY.row)=ret ((md a0 a1):Bool):=by
 unfold start md
 simp only [List.length_map]
 refine iZ (pt:=fun i=>Pt.p0 (a0.map aY.row) (a1.map aY.row) (i:Int)) (fun hl J i h h2=>?_) (fun J=>?_)
 ·simp only [step,MM,List.length_map,aL h,aL h2,aH,bf,cF,aY.eH h,aY.eH h2]
  rw [aE h h0]
  rw [call_eq (Z250.aj (a0:=a0[i]) (a1:=a1[i]) trivial),Z250.md]
  cases dZ a0[i] a1[i]<;>rfl
 ·simp only [step,List.length_map,ef,bk]
theorem af:cw 493 aV:=VV (run:=fun n x=>start (iter step n) x.1 x.2) mix aD (.cons Z250.af .nil) Tryz.func493 (by kernel_rfl) run_eq (fun ls a hl e hg=>bq a.1 a.2 hg (by have h:(ls.headD .hole).aR.length≤maxLen:=hl.1.len;have e:a.1.map aY.row=(ls.headD .hole).aR:=(congrArg (fun x=>x.1) e.symm);rw [←e] at h;simpa using h) (by have h:((aA 1 ls).headD .hole).aR.length≤maxLen:=hl.2.1.len;have e:a.2.map aY.row=((aA 1 ls).headD .hole).aR:=(congrArg (fun x=>x.2) e.symm);rw [←e] at h;simpa using h))
end Z251
namespace Z252
def F (x0:aO)(x1:aO):aG:=(call (Z249.R (x0.aq,x1.aq)) fun v1=>(cond (!v1) (ret (false:Bool)) (call (Z251.R (x0.bW,x1.bW)) fun v2=>(cond (!v2) (ret (false:Bool)) (ret (true:Bool))))))
def md (a0:aa)(a1:aa):Bool:=dZ a0 a1
def gd (a0:aa)(a1:aa):Prop:=True
def R:=RR (p2 gd) (u2 md)
theorem aj {a0 a1}(h:gd a0 a1):R ((aa.r a0),(aa.r a1))=some (md a0 a1):=aM (a:=(a0,a1)) h
def aV:=CN [.agg kH,.agg kH] oB RT.dec R
theorem bq (a0)(a1)(hg:gd a0 a1):F (aa.r a0) (aa.r a1)=ret (md a0 a1):=by
 unfold md
 show (call (Z249.R ((aC.r a0.aq),(aC.r a1.aq))) fun v1=>(bif (!v1) then ret (false:Bool) else (call (Z251.R ((a0.bW.map aY.row),(a1.bW.map aY.row))) fun v2=>(cond (!v2) (ret (false:Bool)) (ret (true:Bool))))))=_
 simp only [call_eq (Z249.aj (a0:=a0.aq) (a1:=a1.aq) trivial),Z249.md]
 simp only [call_eq (Z251.aj (a0:=a0.bW) (a1:=a1.bW) trivial),Z251.md]
 try simp only [bne,fq,bool_beq,eS]
 have e:dZ a0 a1=(dZ a0.aq a1.aq&&(dZ a0.bW a1.bW&&true)):=by
  cases a0;cases a1
  rw [Bool.eq_iff_iff]
  simp only [dm,Bool.and_eq_true,aa.mk.injEq,and_true]
 rw [e]
 refine cM fun _=>?_
 refine cM fun _=>?_
 rfl
theorem af:cw 426 aV:=W2 17 F mix aD bq (.cons Z249.af (.cons Z251.af .nil)) Tryz.func426
end Z252
namespace Z253
inductive Pt where
 | p0 (a:List (List L)) (b:List (List L)) (c:Int)
def pid:Pt→Nat
 | .p0 ..=>4
def bY:Pt→List V
 | .p0 a b c=>[.sl none 123 a,.sl none 123 b,.int .i64 c]
def bZ:Pt→List aU
 | .p0 a b c=>[]
def step (J:Pt→aG):Pt→aG
 | .p0 a b c=>(cond (decide (c<(a.length:Int))) (m2 c (a.length:Int) (m2 c (b.length:Int) (call (Z252.R ((aO.at a (toNat c)),(aO.at b (toNat c)))) fun v1=>(cond (!v1) (ret (false:Bool)) (J (.p0 a b (i64.wrap (c+1)))))))) (ret (true:Bool)))
def start (J:Pt→aG)(x0:List (List L))(x1:List (List L)):aG:=(cond ((x0.length:Int) != (x1.length:Int)) (ret (false:Bool)) (J (.p0 x0 x1 0)))
def live:Nat→Live:=fun i=>match i with | 4=>[(0,none),(1,none),(5,none)] | _=>[]
def pats:List gq:=[.rd (.sl 123),.rd (.sl 123)]
def res:RP:=.one (.rd (.bool))
abbrev E:Env:={ T:=assoc kQ,G:=dy [(426,Z252.aV)],nt:=27 }
theorem step_eq (I:cG)(p:Pt):cT E live I (pid p) (bM Tryz.f328) (fM (live (pid p)) (bY p) (bZ p)) (cH E Tryz.f328 res)=step (fun q=>I (pid q) (bY q) (bZ q)) p:=by
 cases p<;>kernel_rfl
theorem start_eq (I:cG)(ls:List L):eX E live I (bM Tryz.f328) (cZ pats ls) (cH E Tryz.f328 res)=start (fun q=>I (pid q) (bY q) (bZ q)) (ls.headD .hole).aR ((aA 1 ls).headD .hole).aR:=by kernel_rfl
theorem run_eq (n:Nat)(ls:List L):eO E live Tryz.f328 res n (cZ pats ls)=start (iter step n) (ls.headD .hole).aR ((aA 1 ls).headD .hole).aR:=cC (id:=pid) (vs:=bY) (hs:=bZ) (step:=step) (start:=fun J=>start J (ls.headD .hole).aR ((aA 1 ls).headD .hole).aR) step_eq (fun I=>start_eq I ls) n
def md (a0:List aa)(a1:List aa):Bool:=dZ a0 a1
def gd (a0:List aa)(a1:List aa):Prop:=True
def acc (ls:List L):List (List L)×List (List L):=((ls.headD .hole).aR,((aA 1 ls).headD .hole).aR)
def R:(List (List L)×List (List L))→Option Bool:=RR (p2 gd) (u2 md)
theorem aj {a0 a1}(h:gd a0 a1):R ((a0.map aa.row),(a1.map aa.row))=some (md a0 a1):=aM (a:=(a0,a1)) h
def aV:fW:=CN pats res acc R
theorem bq (a0:List aa)(a1:List aa)(hg:gd a0 a1)(h0:a0.length≤maxLen)(h1:a1.length≤maxLen):∃n,start (iter step n) (a0.map aa.row) (a1.map aa.row)=ret ((md a0 a1):Bool):=by
 unfold start md
 simp only [List.length_map]
 refine iZ (pt:=fun i=>Pt.p0 (a0.map aa.row) (a1.map aa.row) (i:Int)) (fun hl J i h h2=>?_) (fun J=>?_)
 ·simp only [step,MM,List.length_map,aL h,aL h2,aH,bf,cF,aa.eH h,aa.eH h2]
  rw [aE h h0]
  rw [call_eq (Z252.aj (a0:=a0[i]) (a1:=a1[i]) trivial),Z252.md]
  cases dZ a0[i] a1[i]<;>rfl
 ·simp only [step,List.length_map,ef,bk]
theorem af:cw 328 aV:=VV (run:=fun n x=>start (iter step n) x.1 x.2) mix aD (.cons Z252.af .nil) Tryz.func328 (by kernel_rfl) run_eq (fun ls a hl e hg=>bq a.1 a.2 hg (by have h:(ls.headD .hole).aR.length≤maxLen:=hl.1.len;have e:a.1.map aa.row=(ls.headD .hole).aR:=(congrArg (fun x=>x.1) e.symm);rw [←e] at h;simpa using h) (by have h:((aA 1 ls).headD .hole).aR.length≤maxLen:=hl.2.1.len;have e:a.2.map aa.row=((aA 1 ls).headD .hole).aR:=(congrArg (fun x=>x.2) e.symm);rw [←e] at h;simpa using h))
end Z253
namespace Z254
inductive Pt where
 | p0 (a:List (List L)) (b:List (List L)) (c:Int)
def pid:Pt→Nat
 | .p0 ..=>4
def bY:Pt→List V
 | .p0 a b c=>[.sl none 92 a,.sl none 92 b,.int .i64 c]
def bZ:Pt→List aU
 | .p0 a b c=>[]
def step (J:Pt→aG):Pt→aG
 | .p0 a b c=>(cond (decide (c<(a.length:Int))) (m2 c (a.length:Int) (m2 c (b.length:Int) (call (Z253.R ((oO a (toNat c)),(oO b (toNat c)))) fun v1=>(cond (!v1) (ret (false:Bool)) (J (.p0 a b (i64.wrap (c+1)))))))) (ret (true:Bool)))
def start (J:Pt→aG)(x0:List (List L))(x1:List (List L)):aG:=(cond ((x0.length:Int) != (x1.length:Int)) (ret (false:Bool)) (J (.p0 x0 x1 0)))
def live:Nat→Live:=fun i=>match i with | 4=>[(0,none),(1,none),(5,none)] | _=>[]
def pats:List gq:=[.rd (.sl 92),.rd (.sl 92)]
def res:RP:=.one (.rd (.bool))
abbrev E:Env:={ T:=assoc kQ,G:=dy [(328,Z253.aV)],nt:=27 }
theorem step_eq (I:cG)(p:Pt):cT E live I (pid p) (bM Tryz.f171) (fM (live (pid p)) (bY p) (bZ p)) (cH E Tryz.f171 res)=step (fun q=>I (pid q) (bY q) (bZ q)) p:=by
 cases p<;>kernel_rfl
theorem start_eq (I:cG)(ls:List L):eX E live I (bM Tryz.f171) (cZ pats ls) (cH E Tryz.f171 res)=start (fun q=>I (pid q) (bY q) (bZ q)) (ls.headD .hole).aR ((aA 1 ls).headD .hole).aR:=by kernel_rfl
theorem run_eq (n:Nat)(ls:List L):eO E live Tryz.f171 res n (cZ pats ls)=start (iter step n) (ls.headD .hole).aR ((aA 1 ls).headD .hole).aR:=cC (id:=pid) (vs:=bY) (hs:=bZ) (step:=step) (start:=fun J=>start J (ls.headD .hole).aR ((aA 1 ls).headD .hole).aR) step_eq (fun I=>start_eq I ls) n
def md (a0:List (List aa))(a1:List (List aa)):Bool:=dZ a0 a1
def gd (a0:List (List aa))(a1:List (List aa)):Prop:=True
def acc (ls:List L):List (List L)×List (List L):=((ls.headD .hole).aR,((aA 1 ls).headD .hole).aR)
def R:(List (List L)×List (List L))→Option Bool:=RR (p2 gd) (u2 md)
theorem aj {a0 a1}(h:gd a0 a1):R ((a0.map (dK aa.row)),(a1.map (dK aa.row)))=some (md a0 a1):=aM (a:=(a0,a1)) h
def aV:fW:=CN pats res acc R
theorem bq (a0:List (List aa))(a1:List (List aa))(hg:gd a0 a1)(h0:a0.length≤maxLen)(h1:a1.length≤maxLen):∃n,start (iter step n) (a0.map (dK aa.row)) (a1.map (dK aa.row))=ret ((md a0 a1):Bool):=by
 unfold start md
 simp only [List.length_map]
 refine iZ (pt:=fun i=>Pt.p0 (a0.map (dK aa.row)) (a1.map (dK aa.row)) (i:Int)) (fun hl J i h h2=>?_) (fun J=>?_)
 ·simp only [step,MM,List.length_map,aL h,aL h2,aH,bf,cF,pY h,pY h2]
  rw [aE h h0]
  rw [call_eq (Z253.aj (a0:=a0[i]) (a1:=a1[i]) trivial),Z253.md]
  cases dZ a0[i] a1[i]<;>rfl
 ·simp only [step,List.length_map,ef,bk]
theorem af:cw 171 aV:=VV (run:=fun n x=>start (iter step n) x.1 x.2) mix aD (.cons Z253.af .nil) Tryz.func171 (by kernel_rfl) run_eq (fun ls a hl e hg=>bq a.1 a.2 hg (by have h:(ls.headD .hole).aR.length≤maxLen:=hl.1.len;have e:a.1.map (dK aa.row)=(ls.headD .hole).aR:=(congrArg (fun x=>x.1) e.symm);rw [←e] at h;simpa using h) (by have h:((aA 1 ls).headD .hole).aR.length≤maxLen:=hl.2.1.len;have e:a.2.map (dK aa.row)=((aA 1 ls).headD .hole).aR:=(congrArg (fun x=>x.2) e.symm);rw [←e] at h;simpa using h))
end Z254
namespace Z255
def F (x0:bF)(x1:bF):aG:=(call (Z252.R (x0.aP,x1.aP)) fun v1=>(cond (!v1) (ret (false:Bool)) (call (Z252.R (x0.fA,x1.fA)) fun v2=>(cond (!v2) (ret (false:Bool)) (call (Z252.R (x0.fB,x1.fB)) fun v3=>(cond (!v3) (ret (false:Bool)) (ret (true:Bool))))))))
def md (a0:aB)(a1:aB):Bool:=dZ a0 a1
def gd (a0:aB)(a1:aB):Prop:=True
def R:=RR (p2 gd) (u2 md)
theorem aj {a0 a1}(h:gd a0 a1):R ((aB.r a0),(aB.r a1))=some (md a0 a1):=aM (a:=(a0,a1)) h
def aV:=CN [.agg sQ,.agg sQ] oB RT.dec R
theorem bq (a0)(a1)(hg:gd a0 a1):F (aB.r a0) (aB.r a1)=ret (md a0 a1):=by
 unfold md
 show (call (Z252.R ((aa.r a0.aP),(aa.r a1.aP))) fun v1=>(bif (!v1) then ret (false:Bool) else (call (Z252.R ((aa.r a0.fA),(aa.r a1.fA))) fun v2=>(bif (!v2) then ret (false:Bool) else (call (Z252.R ((aa.r a0.fB),(aa.r a1.fB))) fun v3=>(cond (!v3) (ret (false:Bool)) (ret (true:Bool))))))))=_
 simp only [call_eq (Z252.aj (a0:=a0.aP) (a1:=a1.aP) trivial),Z252.md]
 simp only [call_eq (Z252.aj (a0:=a0.fA) (a1:=a1.fA) trivial),Z252.md]
 simp only [call_eq (Z252.aj (a0:=a0.fB) (a1:=a1.fB) trivial),Z252.md]
 try simp only [bne,fq,bool_beq,eS]
 have e:dZ a0 a1=(dZ a0.aP a1.aP&&(dZ a0.fA a1.fA&&(dZ a0.fB a1.fB&&true))):=by
  cases a0;cases a1
  rw [Bool.eq_iff_iff]
  simp only [dm,Bool.and_eq_true,aB.mk.injEq,and_true]
 rw [e]
 refine cM fun _=>?_
 refine cM fun _=>?_
 refine cM fun _=>?_
 rfl
theorem af:cw 329 aV:=W2 23 F mix aD bq (.cons Z252.af .nil) Tryz.func329
end Z255
namespace Z256
inductive Pt where
 | p0 (a:List (List L)) (b:List (List L)) (c:Int)
def pid:Pt→Nat
 | .p0 ..=>4
def bY:Pt→List V
 | .p0 a b c=>[.sl none 280 a,.sl none 280 b,.int .i64 c]
def bZ:Pt→List aU
 | .p0 a b c=>[]
def step (J:Pt→aG):Pt→aG
 | .p0 a b c=>(cond (decide (c<(a.length:Int))) (m2 c (a.length:Int) (m2 c (b.length:Int) (call (Z255.R ((bF.at a (toNat c)),(bF.at b (toNat c)))) fun v1=>(cond (!v1) (ret (false:Bool)) (J (.p0 a b (i64.wrap (c+1)))))))) (ret (true:Bool)))
def start (J:Pt→aG)(x0:List (List L))(x1:List (List L)):aG:=(cond ((x0.length:Int) != (x1.length:Int)) (ret (false:Bool)) (J (.p0 x0 x1 0)))
def live:Nat→Live:=fun i=>match i with | 4=>[(0,none),(1,none),(5,none)] | _=>[]
def pats:List gq:=[.rd (.sl 280),.rd (.sl 280)]
def res:RP:=.one (.rd (.bool))
abbrev E:Env:={ T:=assoc kQ,G:=dy [(329,Z255.aV)],nt:=27 }
theorem step_eq (I:cG)(p:Pt):cT E live I (pid p) (bM Tryz.f172) (fM (live (pid p)) (bY p) (bZ p)) (cH E Tryz.f172 res)=step (fun q=>I (pid q) (bY q) (bZ q)) p:=by
 cases p<;>kernel_rfl
theorem start_eq (I:cG)(ls:List L):eX E live I (bM Tryz.f172) (cZ pats ls) (cH E Tryz.f172 res)=start (fun q=>I (pid q) (bY q) (bZ q)) (ls.headD .hole).aR ((aA 1 ls).headD .hole).aR:=by kernel_rfl
theorem run_eq (n:Nat)(ls:List L):eO E live Tryz.f172 res n (cZ pats ls)=start (iter step n) (ls.headD .hole).aR ((aA 1 ls).headD .hole).aR:=cC (id:=pid) (vs:=bY) (hs:=bZ) (step:=step) (start:=fun J=>start J (ls.headD .hole).aR ((aA 1 ls).headD .hole).aR) step_eq (fun I=>start_eq I ls) n
def md (a0:List aB)(a1:List aB):Bool:=dZ a0 a1
def gd (a0:List aB)(a1:List aB):Prop:=True
def acc (ls:List L):List (List L)×List (List L):=((ls.headD .hole).aR,((aA 1 ls).headD .hole).aR)
def R:(List (List L)×List (List L))→Option Bool:=RR (p2 gd) (u2 md)
theorem aj {a0 a1}(h:gd a0 a1):R ((a0.map aB.row),(a1.map aB.row))=some (md a0 a1):=aM (a:=(a0,a1)) h
def aV:fW:=CN pats res acc R
theorem bq (a0:List aB)(a1:List aB)(hg:gd a0 a1)(h0:a0.length≤maxLen)(h1:a1.length≤maxLen):∃n,start (iter step n) (a0.map aB.row) (a1.map aB.row)=ret ((md a0 a1):Bool):=by
 unfold start md
 simp only [List.length_map]
 refine iZ (pt:=fun i=>Pt.p0 (a0.map aB.row) (a1.map aB.row) (i:Int)) (fun hl J i h h2=>?_) (fun J=>?_)
 ·simp only [step,MM,List.length_map,aL h,aL h2,aH,bf,cF,aB.eH h,aB.eH h2]
  rw [aE h h0]
  rw [call_eq (Z255.aj (a0:=a0[i]) (a1:=a1[i]) trivial),Z255.md]
  cases dZ a0[i] a1[i]<;>rfl
 ·simp only [step,List.length_map,ef,bk]
theorem af:cw 172 aV:=VV (run:=fun n x=>start (iter step n) x.1 x.2) mix aD (.cons Z255.af .nil) Tryz.func172 (by kernel_rfl) run_eq (fun ls a hl e hg=>bq a.1 a.2 hg (by have h:(ls.headD .hole).aR.length≤maxLen:=hl.1.len;have e:a.1.map aB.row=(ls.headD .hole).aR:=(congrArg (fun x=>x.1) e.symm);rw [←e] at h;simpa using h) (by have h:((aA 1 ls).headD .hole).aR.length≤maxLen:=hl.2.1.len;have e:a.2.map aB.row=((aA 1 ls).headD .hole).aR:=(congrArg (fun x=>x.2) e.symm);rw [←e] at h;simpa using h))
end Z256
namespace Z257
def F (x0:bn)(x1:bn):aG:=(call (Z254.R (x0.aF,x1.aF)) fun v1=>(cond (!v1) (ret (false:Bool)) (call (Z256.R (x0.bg,x1.bg)) fun v2=>(cond (!v2) (ret (false:Bool)) (ret (true:Bool))))))
def md (a0:au)(a1:au):Bool:=dZ a0 a1
def gd (a0:au)(a1:au):Prop:=True
def R:=RR (p2 gd) (u2 md)
theorem aj {a0 a1}(h:gd a0 a1):R ((au.r a0),(au.r a1))=some (md a0 a1):=aM (a:=(a0,a1)) h
def aV:=CN [.agg tI,.agg tI] oB RT.dec R
theorem bq (a0)(a1)(hg:gd a0 a1):F (au.r a0) (au.r a1)=ret (md a0 a1):=by
 unfold md
 show (call (Z254.R ((a0.aF.map (dK aa.row)),(a1.aF.map (dK aa.row)))) fun v1=>(bif (!v1) then ret (false:Bool) else (call (Z256.R ((a0.bg.map aB.row),(a1.bg.map aB.row))) fun v2=>(cond (!v2) (ret (false:Bool)) (ret (true:Bool))))))=_
 simp only [call_eq (Z254.aj (a0:=a0.aF) (a1:=a1.aF) trivial),Z254.md]
 simp only [call_eq (Z256.aj (a0:=a0.bg) (a1:=a1.bg) trivial),Z256.md]
 try simp only [bne,fq,bool_beq,eS]
 have e:dZ a0 a1=(dZ a0.aF a1.aF&&(dZ a0.bg a1.bg&&true)):=by
  cases a0;cases a1
  rw [Bool.eq_iff_iff]
  simp only [dm,Bool.and_eq_true,au.mk.injEq,and_true]
 rw [e]
 refine cM fun _=>?_
 refine cM fun _=>?_
 rfl
theorem af:cw 32 aV:=W2 17 F mix aD bq (.cons Z254.af (.cons Z256.af .nil)) Tryz.func32
end Z257
namespace Z258
inductive Pt where
 | p0 (a:List (List L)) (b:List (List L)) (c:Int)
def pid:Pt→Nat
 | .p0 ..=>4
def bY:Pt→List V
 | .p0 a b c=>[.sl none 9 a,.sl none 9 b,.int .i64 c]
def bZ:Pt→List aU
 | .p0 a b c=>[]
def step (J:Pt→aG):Pt→aG
 | .p0 a b c=>(cond (decide (c<(a.length:Int))) (m2 c (a.length:Int) (m2 c (b.length:Int) (cond (!((pZ a (toNat c))==(pZ b (toNat c)))) (ret (false:Bool)) (J (.p0 a b (i64.wrap (c+1))))))) (ret (true:Bool)))
def start (J:Pt→aG)(x0:List (List L))(x1:List (List L)):aG:=(cond ((x0.length:Int) != (x1.length:Int)) (ret (false:Bool)) (J (.p0 x0 x1 0)))
def live:Nat→Live:=fun i=>match i with | 4=>[(0,none),(1,none),(5,none)] | _=>[]
def pats:List gq:=[.rd (.sl 9),.rd (.sl 9)]
def res:RP:=.one (.rd (.bool))
abbrev E:Env:={ T:=assoc kQ,G:=dy [],nt:=26 }
theorem step_eq (I:cG)(p:Pt):cT E live I (pid p) (bM Tryz.f35) (fM (live (pid p)) (bY p) (bZ p)) (cH E Tryz.f35 res)=step (fun q=>I (pid q) (bY q) (bZ q)) p:=by
 cases p<;>kernel_rfl
theorem start_eq (I:cG)(ls:List L):eX E live I (bM Tryz.f35) (cZ pats ls) (cH E Tryz.f35 res)=start (fun q=>I (pid q) (bY q) (bZ q)) (ls.headD .hole).aR ((aA 1 ls).headD .hole).aR:=by kernel_rfl
theorem run_eq (n:Nat)(ls:List L):eO E live Tryz.f35 res n (cZ pats ls)=start (iter step n) (ls.headD .hole).aR ((aA 1 ls).headD .hole).aR:=cC (id:=pid) (vs:=bY) (hs:=bZ) (step:=step) (start:=fun J=>start J (ls.headD .hole).aR ((aA 1 ls).headD .hole).aR) step_eq (fun I=>start_eq I ls) n
def md (a0:List ByteArray)(a1:List ByteArray):Bool:=dZ a0 a1
def gd (a0:List ByteArray)(a1:List ByteArray):Prop:=True
def acc (ls:List L):List (List L)×List (List L):=((ls.headD .hole).aR,((aA 1 ls).headD .hole).aR)
def R:(List (List L)×List (List L))→Option Bool:=RR (p2 gd) (u2 md)
theorem aj {a0 a1}(h:gd a0 a1):R ((a0.map cA),(a1.map cA))=some (md a0 a1):=aM (a:=(a0,a1)) h
def aV:fW:=CN pats res acc R
theorem bq (a0:List ByteArray)(a1:List ByteArray)(hg:gd a0 a1)(h0:a0.length≤maxLen)(h1:a1.length≤maxLen):∃n,start (iter step n) (a0.map cA) (a1.map cA)=ret ((md a0 a1):Bool):=by
 unfold start md
 simp only [List.length_map]
 refine iZ (pt:=fun i=>Pt.p0 (a0.map cA) (a1.map cA) (i:Int)) (fun hl J i h h2=>?_) (fun J=>?_)
 ·simp only [step,MM,List.length_map,aL h,aL h2,aH,bf,cF,pQ h,pQ h2]
  rw [aE h h0]
  simp only [bne,fq,bool_beq,eS]
  cases dZ a0[i] a1[i]<;>rfl
 ·simp only [step,List.length_map,ef,bk]
theorem af:cw 35 aV:=VV (run:=fun n x=>start (iter step n) x.1 x.2) mix aD .nil Tryz.func35 (by kernel_rfl) run_eq (fun ls a hl e hg=>bq a.1 a.2 hg (by have h:(ls.headD .hole).aR.length≤maxLen:=hl.1.len;have e:a.1.map cA=(ls.headD .hole).aR:=(congrArg (fun x=>x.1) e.symm);rw [←e] at h;simpa using h) (by have h:((aA 1 ls).headD .hole).aR.length≤maxLen:=hl.2.1.len;have e:a.2.map cA=((aA 1 ls).headD .hole).aR:=(congrArg (fun x=>x.2) e.symm);rw [←e] at h;simpa using h))
end Z258
namespace Z259
def F (x0:aS)(x1:aS):aG:=(cond (!(x0.aW==x1.aW)) (ret (false:Bool)) (cond (x0.bD != x1.bD) (ret (false:Bool)) (cond (x0.bS != x1.bS) (ret (false:Bool)) (call (Z258.R (x0.bC,x1.bC)) fun v1=>(cond (!v1) (ret (false:Bool)) (ret (true:Bool)))))))
def md (a0:ah)(a1:ah):Bool:=dZ a0 a1
def gd (a0:ah)(a1:ah):Prop:=True
def R:=RR (p2 gd) (u2 md)
theorem aj {a0 a1}(h:gd a0 a1):R ((ah.r a0),(ah.r a1))=some (md a0 a1):=aM (a:=(a0,a1)) h
def aV:=CN [.agg ru,.agg ru] oB RT.dec R
theorem bq (a0)(a1)(hg:gd a0 a1):F (ah.r a0) (ah.r a1)=ret (md a0 a1):=by
 unfold md
 show (bif (!(a0.aW==a1.aW)) then ret (false:Bool) else (bif (a0.bD != a1.bD) then ret (false:Bool) else (bif (a0.bS != a1.bS) then ret (false:Bool) else (call (Z258.R ((a0.bC.map cA),(a1.bC.map cA))) fun v1=>(cond (!v1) (ret (false:Bool)) (ret (true:Bool)))))))=_
 simp only [call_eq (Z258.aj (a0:=a0.bC) (a1:=a1.bC) trivial),Z258.md]
 try simp only [bne,fq,bool_beq,eS]
 have e:dZ a0 a1=(dZ a0.aW a1.aW&&(dZ a0.bD a1.bD&&(dZ a0.bS a1.bS&&(dZ a0.bC a1.bC&&true)))):=by
  cases a0;cases a1
  rw [Bool.eq_iff_iff]
  simp only [dm,Bool.and_eq_true,ah.mk.injEq,and_true]
 rw [e]
 refine cM fun _=>?_
 refine cM fun _=>?_
 refine cM fun _=>?_
 refine cM fun _=>?_
 rfl
theorem af:cw 186 aV:=W2 26 F mix aD bq (.cons Z258.af .nil) Tryz.func186
end Z259
namespace Z260
def F (x0:cV)(x1:cV):aG:=(call (Z257.R (x0.bV,x1.bV)) fun v1=>(cond (!v1) (ret (false:Bool)) (cond (x0.eZ != x1.eZ) (ret (false:Bool)) (call (Z259.R (x0.aN,x1.aN)) fun v2=>(cond (!v2) (ret (false:Bool)) (call (Z247.R (x0.bE,x1.bE)) fun v3=>(cond (!v3) (ret (false:Bool)) (cond (x0.eY != x1.eY) (ret (false:Bool)) (ret (true:Bool))))))))))
def md (a0:bz)(a1:bz):Bool:=dZ a0 a1
def gd (a0:bz)(a1:bz):Prop:=True
def R:=RR (p2 gd) (u2 md)
theorem aj {a0 a1}(h:gd a0 a1):R ((bz.r a0),(bz.r a1))=some (md a0 a1):=aM (a:=(a0,a1)) h
def aV:=CN [.agg Bj,.agg Bj] oB RT.dec R
theorem bq (a0)(a1)(hg:gd a0 a1):F (bz.r a0) (bz.r a1)=ret (md a0 a1):=by
 unfold md
 show (call (Z257.R ((au.r a0.bV),(au.r a1.bV))) fun v1=>(bif (!v1) then ret (false:Bool) else (bif (a0.eZ != a1.eZ) then ret (false:Bool) else (call (Z259.R ((ah.r a0.aN),(ah.r a1.aN))) fun v2=>(bif (!v2) then ret (false:Bool) else (call (Z247.R ((a0.bE.map aZ),(a1.bE.map aZ))) fun v3=>(cond (!v3) (ret (false:Bool)) (cond (a0.eY != a1.eY) (ret (false:Bool)) (ret (true:Bool))))))))))=_
 simp only [call_eq (Z257.aj (a0:=a0.bV) (a1:=a1.bV) trivial),Z257.md]
 simp only [call_eq (Z259.aj (a0:=a0.aN) (a1:=a1.aN) trivial),Z259.md]
 simp only [call_eq (Z247.aj (a0:=a0.bE) (a1:=a1.bE) trivial),Z247.md]
 try simp only [bne,fq,bool_beq,eS]
 have e:dZ a0 a1=(dZ a0.bV a1.bV&&(dZ a0.eZ a1.eZ&&(dZ a0.aN a1.aN&&(dZ a0.bE a1.bE&&(dZ a0.eY a1.eY&&true))))):=by
  cases a0;cases a1
  rw [Bool.eq_iff_iff]
  simp only [dm,Bool.and_eq_true,bz.mk.injEq,and_true]
 rw [e]
 refine cM fun _=>?_
 refine cM fun _=>?_
 refine cM fun _=>?_
 refine cM fun _=>?_
 refine cM fun _=>?_
 rfl
theorem af:cw 47 aV:=W2 33 F mix aD bq (.cons Z257.af (.cons Z259.af (.cons Z247.af .nil))) Tryz.func47
end Z260
namespace Z261
inductive Pt where
 | p0 (a:List (List L)) (b:List (List L)) (c:Int)
def pid:Pt→Nat
 | .p0 ..=>4
def bY:Pt→List V
 | .p0 a b c=>[.sl none 61 a,.sl none 61 b,.int .i64 c]
def bZ:Pt→List aU
 | .p0 a b c=>[]
def step (J:Pt→aG):Pt→aG
 | .p0 a b c=>(cond (decide (c<(a.length:Int))) (m2 c (a.length:Int) (m2 c (b.length:Int) (call (Z259.R ((aS.at a (toNat c)),(aS.at b (toNat c)))) fun v1=>(cond (!v1) (ret (false:Bool)) (J (.p0 a b (i64.wrap (c+1)))))))) (ret (true:Bool)))
def start (J:Pt→aG)(x0:List (List L))(x1:List (List L)):aG:=(cond ((x0.length:Int) != (x1.length:Int)) (ret (false:Bool)) (J (.p0 x0 x1 0)))
def live:Nat→Live:=fun i=>match i with | 4=>[(0,none),(1,none),(5,none)] | _=>[]
def pats:List gq:=[.rd (.sl 61),.rd (.sl 61)]
def res:RP:=.one (.rd (.bool))
abbrev E:Env:={ T:=assoc kQ,G:=dy [(186,Z259.aV)],nt:=27 }
theorem step_eq (I:cG)(p:Pt):cT E live I (pid p) (bM Tryz.f494) (fM (live (pid p)) (bY p) (bZ p)) (cH E Tryz.f494 res)=step (fun q=>I (pid q) (bY q) (bZ q)) p:=by
 cases p<;>kernel_rfl
theorem start_eq (I:cG)(ls:List L):eX E live I (bM Tryz.f494) (cZ pats ls) (cH E Tryz.f494 res)=start (fun q=>I (pid q) (bY q) (bZ q)) (ls.headD .hole).aR ((aA 1 ls).headD .hole).aR:=by kernel_rfl
theorem run_eq (n:Nat)(ls:List L):eO E live Tryz.f494 res n (cZ pats ls)=start (iter step n) (ls.headD .hole).aR ((aA 1 ls).headD .hole).aR:=cC (id:=pid) (vs:=bY) (hs:=bZ) (step:=step) (start:=fun J=>start J (ls.headD .hole).aR ((aA 1 ls).headD .hole).aR) step_eq (fun I=>start_eq I ls) n
def md (a0:List ah)(a1:List ah):Bool:=dZ a0 a1
def gd (a0:List ah)(a1:List ah):Prop:=True
def acc (ls:List L):List (List L)×List (List L):=((ls.headD .hole).aR,((aA 1 ls).headD .hole).aR)
def R:(List (List L)×List (List L))→Option Bool:=RR (p2 gd) (u2 md)
theorem aj {a0 a1}(h:gd a0 a1):R ((a0.map ah.row),(a1.map ah.row))=some (md a0 a1):=aM (a:=(a0,a1)) h
def aV:fW:=CN pats res acc R
theorem bq (a0:List ah)(a1:List ah)(hg:gd a0 a1)(h0:a0.length≤maxLen)(h1:a1.length≤maxLen):∃n,start (iter step n) (a0.map ah.row) (a1.map ah.row)=ret ((md a0 a1):Bool):=by
 unfold start md
 simp only [List.length_map]
 refine iZ (pt:=fun i=>Pt.p0 (a0.map ah.row) (a1.map ah.row) (i:Int)) (fun hl J i h h2=>?_) (fun J=>?_)
 ·simp only [step,MM,List.length_map,aL h,aL h2,aH,bf,cF,ah.eH h,ah.eH h2]
  rw [aE h h0]
  rw [call_eq (Z259.aj (a0:=a0[i]) (a1:=a1[i]) trivial),Z259.md]
  cases dZ a0[i] a1[i]<;>rfl
 ·simp only [step,List.length_map,ef,bk]
theorem af:cw 494 aV:=VV (run:=fun n x=>start (iter step n) x.1 x.2) mix aD (.cons Z259.af .nil) Tryz.func494 (by kernel_rfl) run_eq (fun ls a hl e hg=>bq a.1 a.2 hg (by have h:(ls.headD .hole).aR.length≤maxLen:=hl.1.len;have e:a.1.map ah.row=(ls.headD .hole).aR:=(congrArg (fun x=>x.1) e.symm);rw [←e] at h;simpa using h) (by have h:((aA 1 ls).headD .hole).aR.length≤maxLen:=hl.2.1.len;have e:a.2.map ah.row=((aA 1 ls).headD .hole).aR:=(congrArg (fun x=>x.2) e.symm);rw [←e] at h;simpa using h))
end Z261
namespace Z262
def F (x0:dH)(x1:dH):aG:=(call (Z253.R (x0.aQ,x1.aQ)) fun v1=>(cond (!v1) (ret (false:Bool)) (call (Z261.R (x0.bH,x1.bH)) fun v2=>(cond (!v2) (ret (false:Bool)) (ret (true:Bool))))))
def md (a0:aI)(a1:aI):Bool:=dZ a0 a1
def gd (a0:aI)(a1:aI):Prop:=True
def R:=RR (p2 gd) (u2 md)
theorem aj {a0 a1}(h:gd a0 a1):R ((aI.r a0),(aI.r a1))=some (md a0 a1):=aM (a:=(a0,a1)) h
def aV:=CN [.agg sH,.agg sH] oB RT.dec R
theorem bq (a0)(a1)(hg:gd a0 a1):F (aI.r a0) (aI.r a1)=ret (md a0 a1):=by
 unfold md
 show (call (Z253.R ((a0.aQ.map aa.row),(a1.aQ.map aa.row))) fun v1=>(bif (!v1) then ret (false:Bool) else (call (Z261.R ((a0.bH.map ah.row),(a1.bH.map ah.row))) fun v2=>(cond (!v2) (ret (false:Bool)) (ret (true:Bool))))))=_
 simp only [call_eq (Z253.aj (a0:=a0.aQ) (a1:=a1.aQ) trivial),Z253.md]
 simp only [call_eq (Z261.aj (a0:=a0.bH) (a1:=a1.bH) trivial),Z261.md]
 try simp only [bne,fq,bool_beq,eS]
 have e:dZ a0 a1=(dZ a0.aQ a1.aQ&&(dZ a0.bH a1.bH&&true)):=by
  cases a0;cases a1
  rw [Bool.eq_iff_iff]
  simp only [dm,Bool.and_eq_true,aI.mk.injEq,and_true]
 rw [e]
 refine cM fun _=>?_
 refine cM fun _=>?_
 rfl
theorem af:cw 427 aV:=W2 17 F mix aD bq (.cons Z253.af (.cons Z261.af .nil)) Tryz.func427
end Z262
namespace Z263
inductive Pt where
 | p0 (a:List (List L)) (b:List (List L)) (c:Int)
def pid:Pt→Nat
 | .p0 ..=>4
def bY:Pt→List V
 | .p0 a b c=>[.sl none 293 a,.sl none 293 b,.int .i64 c]
def bZ:Pt→List aU
 | .p0 a b c=>[]
def step (J:Pt→aG):Pt→aG
 | .p0 a b c=>(cond (decide (c<(a.length:Int))) (m2 c (a.length:Int) (m2 c (b.length:Int) (call (Z262.R ((dH.at a (toNat c)),(dH.at b (toNat c)))) fun v1=>(cond (!v1) (ret (false:Bool)) (J (.p0 a b (i64.wrap (c+1)))))))) (ret (true:Bool)))
def start (J:Pt→aG)(x0:List (List L))(x1:List (List L)):aG:=(cond ((x0.length:Int) != (x1.length:Int)) (ret (false:Bool)) (J (.p0 x0 x1 0)))
def live:Nat→Live:=fun i=>match i with | 4=>[(0,none),(1,none),(5,none)] | _=>[]
def pats:List gq:=[.rd (.sl 293),.rd (.sl 293)]
def res:RP:=.one (.rd (.bool))
abbrev E:Env:={ T:=assoc kQ,G:=dy [(427,Z262.aV)],nt:=27 }
theorem step_eq (I:cG)(p:Pt):cT E live I (pid p) (bM Tryz.f330) (fM (live (pid p)) (bY p) (bZ p)) (cH E Tryz.f330 res)=step (fun q=>I (pid q) (bY q) (bZ q)) p:=by
 cases p<;>kernel_rfl
theorem start_eq (I:cG)(ls:List L):eX E live I (bM Tryz.f330) (cZ pats ls) (cH E Tryz.f330 res)=start (fun q=>I (pid q) (bY q) (bZ q)) (ls.headD .hole).aR ((aA 1 ls).headD .hole).aR:=by kernel_rfl
theorem run_eq (n:Nat)(ls:List L):eO E live Tryz.f330 res n (cZ pats ls)=start (iter step n) (ls.headD .hole).aR ((aA 1 ls).headD .hole).aR:=cC (id:=pid) (vs:=bY) (hs:=bZ) (step:=step) (start:=fun J=>start J (ls.headD .hole).aR ((aA 1 ls).headD .hole).aR) step_eq (fun I=>start_eq I ls) n
def md (a0:List aI)(a1:List aI):Bool:=dZ a0 a1
def gd (a0:List aI)(a1:List aI):Prop:=True
def acc (ls:List L):List (List L)×List (List L):=((ls.headD .hole).aR,((aA 1 ls).headD .hole).aR)
def R:(List (List L)×List (List L))→Option Bool:=RR (p2 gd) (u2 md)
theorem aj {a0 a1}(h:gd a0 a1):R ((a0.map aI.row),(a1.map aI.row))=some (md a0 a1):=aM (a:=(a0,a1)) h
def aV:fW:=CN pats res acc R
theorem bq (a0:List aI)(a1:List aI)(hg:gd a0 a1)(h0:a0.length≤maxLen)(h1:a1.length≤maxLen):∃n,start (iter step n) (a0.map aI.row) (a1.map aI.row)=ret ((md a0 a1):Bool):=by
 unfold start md
 simp only [List.length_map]
 refine iZ (pt:=fun i=>Pt.p0 (a0.map aI.row) (a1.map aI.row) (i:Int)) (fun hl J i h h2=>?_) (fun J=>?_)
 ·simp only [step,MM,List.length_map,aL h,aL h2,aH,bf,cF,aI.eH h,aI.eH h2]
  rw [aE h h0]
  rw [call_eq (Z262.aj (a0:=a0[i]) (a1:=a1[i]) trivial),Z262.md]
  cases dZ a0[i] a1[i]<;>rfl
 ·simp only [step,List.length_map,ef,bk]
theorem af:cw 330 aV:=VV (run:=fun n x=>start (iter step n) x.1 x.2) mix aD (.cons Z262.af .nil) Tryz.func330 (by kernel_rfl) run_eq (fun ls a hl e hg=>bq a.1 a.2 hg (by have h:(ls.headD .hole).aR.length≤maxLen:=hl.1.len;have e:a.1.map aI.row=(ls.headD .hole).aR:=(congrArg (fun x=>x.1) e.symm);rw [←e] at h;simpa using h) (by have h:((aA 1 ls).headD .hole).aR.length≤maxLen:=hl.2.1.len;have e:a.2.map aI.row=((aA 1 ls).headD .hole).aR:=(congrArg (fun x=>x.2) e.symm);rw [←e] at h;simpa using h))
end Z263
namespace Z264
def F (x0:cI)(x1:cI):aG:=(call (Z263.R (x0.bE,x1.bE)) fun v1=>(cond (!v1) (ret (false:Bool)) (cond (x0.gP != x1.gP) (ret (false:Bool)) (ret (true:Bool)))))
def md (a0:az)(a1:az):Bool:=dZ a0 a1
def gd (a0:az)(a1:az):Prop:=True
def R:=RR (p2 gd) (u2 md)
theorem aj {a0 a1}(h:gd a0 a1):R ((az.r a0),(az.r a1))=some (md a0 a1):=aM (a:=(a0,a1)) h
def aV:=CN [.agg yM,.agg yM] oB RT.dec R
theorem bq (a0)(a1)(hg:gd a0 a1):F (az.r a0) (az.r a1)=ret (md a0 a1):=by
 unfold md
 show (call (Z263.R ((a0.bE.map aI.row),(a1.bE.map aI.row))) fun v1=>(cond (!v1) (ret (false:Bool)) (cond (a0.gP != a1.gP) (ret (false:Bool)) (ret (true:Bool)))))=_
 simp only [call_eq (Z263.aj (a0:=a0.bE) (a1:=a1.bE) trivial),Z263.md]
 try simp only [bne,fq,bool_beq,eS]
 have e:dZ a0 a1=(dZ a0.bE a1.bE&&(dZ a0.gP a1.gP&&true)):=by
  cases a0;cases a1
  rw [Bool.eq_iff_iff]
  simp only [dm,Bool.and_eq_true,az.mk.injEq,and_true]
 rw [e]
 refine cM fun _=>?_
 refine cM fun _=>?_
 rfl
theorem af:cw 173 aV:=W2 16 F mix aD bq (.cons Z263.af .nil) Tryz.func173
end Z264
namespace Z265
inductive Pt where
 | p0 (a:List (List L)) (b:List (List L)) (c:Int)
def pid:Pt→Nat
 | .p0 ..=>4
def bY:Pt→List V
 | .p0 a b c=>[.sl none 227 a,.sl none 227 b,.int .i64 c]
def bZ:Pt→List aU
 | .p0 a b c=>[]
def step (J:Pt→aG):Pt→aG
 | .p0 a b c=>(cond (decide (c<(a.length:Int))) (m2 c (a.length:Int) (m2 c (b.length:Int) (call (Z264.R ((cI.at a (toNat c)),(cI.at b (toNat c)))) fun v1=>(cond (!v1) (ret (false:Bool)) (J (.p0 a b (i64.wrap (c+1)))))))) (ret (true:Bool)))
def start (J:Pt→aG)(x0:List (List L))(x1:List (List L)):aG:=(cond ((x0.length:Int) != (x1.length:Int)) (ret (false:Bool)) (J (.p0 x0 x1 0)))
def live:Nat→Live:=fun i=>match i with | 4=>[(0,none),(1,none),(5,none)] | _=>[]
def pats:List gq:=[.rd (.sl 227),.rd (.sl 227)]
def res:RP:=.one (.rd (.bool))
abbrev E:Env:={ T:=assoc kQ,G:=dy [(173,Z264.aV)],nt:=27 }
theorem step_eq (I:cG)(p:Pt):cT E live I (pid p) (bM Tryz.f33) (fM (live (pid p)) (bY p) (bZ p)) (cH E Tryz.f33 res)=step (fun q=>I (pid q) (bY q) (bZ q)) p:=by
 cases p<;>kernel_rfl
theorem start_eq (I:cG)(ls:List L):eX E live I (bM Tryz.f33) (cZ pats ls) (cH E Tryz.f33 res)=start (fun q=>I (pid q) (bY q) (bZ q)) (ls.headD .hole).aR ((aA 1 ls).headD .hole).aR:=by kernel_rfl
theorem run_eq (n:Nat)(ls:List L):eO E live Tryz.f33 res n (cZ pats ls)=start (iter step n) (ls.headD .hole).aR ((aA 1 ls).headD .hole).aR:=cC (id:=pid) (vs:=bY) (hs:=bZ) (step:=step) (start:=fun J=>start J (ls.headD .hole).aR ((aA 1 ls).headD .hole).aR) step_eq (fun I=>start_eq I ls) n
def md (a0:List az)(a1:List az):Bool:=dZ a0 a1
def gd (a0:List az)(a1:List az):Prop:=True
def acc (ls:List L):List (List L)×List (List L):=((ls.headD .hole).aR,((aA 1 ls).headD .hole).aR)
def R:(List (List L)×List (List L))→Option Bool:=RR (p2 gd) (u2 md)
theorem aj {a0 a1}(h:gd a0 a1):R ((a0.map az.row),(a1.map az.row))=some (md a0 a1):=aM (a:=(a0,a1)) h
def aV:fW:=CN pats res acc R
theorem bq (a0:List az)(a1:List az)(hg:gd a0 a1)(h0:a0.length≤maxLen)(h1:a1.length≤maxLen):∃n,start (iter step n) (a0.map az.row) (a1.map az.row)=ret ((md a0 a1):Bool):=by
 unfold start md
 simp only [List.length_map]
 refine iZ (pt:=fun i=>Pt.p0 (a0.map az.row) (a1.map az.row) (i:Int)) (fun hl J i h h2=>?_) (fun J=>?_)
 ·simp only [step,MM,List.length_map,aL h,aL h2,aH,bf,cF,az.eH h,az.eH h2]
  rw [aE h h0]
  rw [call_eq (Z264.aj (a0:=a0[i]) (a1:=a1[i]) trivial),Z264.md]
  cases dZ a0[i] a1[i]<;>rfl
 ·simp only [step,List.length_map,ef,bk]
theorem af:cw 33 aV:=VV (run:=fun n x=>start (iter step n) x.1 x.2) mix aD (.cons Z264.af .nil) Tryz.func33 (by kernel_rfl) run_eq (fun ls a hl e hg=>bq a.1 a.2 hg (by have h:(ls.headD .hole).aR.length≤maxLen:=hl.1.len;have e:a.1.map az.row=(ls.headD .hole).aR:=(congrArg (fun x=>x.1) e.symm);rw [←e] at h;simpa using h) (by have h:((aA 1 ls).headD .hole).aR.length≤maxLen:=hl.2.1.len;have e:a.2.map az.row=((aA 1 ls).headD .hole).aR:=(congrArg (fun x=>x.2) e.symm);rw [←e] at h;simpa using h))
end Z265
namespace Z266
set_option maxHeartbeats 8000000
inductive Pt where
 | p0 (a:Int) (b:Int) (c:List (List L))
def pid:Pt→Nat
 | .p0 ..=>2
def bY:Pt→List V
 | .p0 a b c=>[.own 0,.int .i64 a,.int .i64 b]
def bZ:Pt→List aU
 | .p0 a b c=>[.row 3 c]
def step (J:Pt→aG):Pt→aG
 | .p0 a b c=>(cond (decide (b<(c.length:Int))) (m2 b (c.length:Int) (J (.p0 (i64.wrap (a+1)) (i64.wrap (b+1)) (List.set c (toNat b) [L.int a])))) (ret ((a,c):Int×List (List L))))
def start (J:Pt→aG)(x0:List (List L))(x1:Int):aG:=J (.p0 x1 0 x0)
def live:Nat→Live:=fun i=>match i with | 2=>[(0,none),(1,none),(5,none)] | _=>[]
def pats:List (Bool×List K):=[(false,[.sl 3]),(false,[.int .i64])]
def res:RP:=.ot [3]
abbrev E:Env:={ T:=assoc kQ,G:=dy [],nt:=19,M:=fT [],np:=1,mt:=true }
theorem step_eq (I:cG)(p:Pt):cT E live I (pid p) (bM Tryz.f179) (fM (live (pid p)) (bY p) (bZ p)) (cH E Tryz.f179 res)=step (fun q=>I (pid q) (bY q) (bZ q)) p:=by
 cases p<;>kernel_rfl
theorem start_eq (I:cG)(ls:List L):eX E live I (bM Tryz.f179) (gL pats ls) (cH E Tryz.f179 res)=start (fun q=>I (pid q) (bY q) (bZ q)) (ls.headD .hole).aR ((aA 1 ls).headD .hole).toInt:=by kernel_rfl
theorem run_eq (n:Nat)(ls:List L):eO E live Tryz.f179 res n (gL pats ls)=start (iter step n) (ls.headD .hole).aR ((aA 1 ls).headD .hole).toInt:=cC (id:=pid) (vs:=bY) (hs:=bZ) (step:=step) (start:=fun J=>start J (ls.headD .hole).aR ((aA 1 ls).headD .hole).toInt) step_eq (fun I=>start_eq I ls) n
def el (x:Int)(k:Int):Int×Int:=((i64.wrap (k+1)),(k))
theorem iJ (x:Int)(k:Int)(hk:eK k):eK (el x k).1:=(cy _)
def cnt (x:Int):Nat:=1
def sum (a:List Int):Nat:=(a.map cnt).sum
def md (a0:List Int)(a1:Int):Int×List Int:=jB el a0 a1
def gd (a0:List Int)(a1:Int):Prop:=eK a1
def acc (ls:List L):List (List L)×Int:=((ls.headD .hole).aR,((aA 1 ls).headD .hole).toInt)
def R:(List (List L)×Int)→Option (Int×List (List L)):=RR (p2 gd) (u2 md)
theorem aj {a0 a1}(h:gd a0 a1):R ((a0.map aZ),a1)=some ((md a0 a1).1,((md a0 a1).2.map aZ)):=aM (a:=(a0,a1)) h
def aV:gH:=MN pats acc R
theorem bq (a0:List Int)(a1:Int)(hg:gd a0 a1)(h0:a0.length≤maxLen):∃n,start (iter step n) (a0.map aZ) a1=ret (((md a0 a1).1,((md a0 a1).2.map aZ)):Int×List (List L)):=by
 unfold gd at hg
 show ∃n,iter step n (Pt.p0 a1 0 (a0.map aZ))=_
 unfold md
 refine gF (el:=el) (xs:=a0) 0 eK iJ (pt:=fun i k c=>Pt.p0 k (i:Int) (c.map aZ)) (out:=fun b=>ret (b.1,b.2.map aZ)) (fun J i k c hi hc hk=>?_) (fun J k c hc=>?_) hg
 ·have hm:c.length≤maxLen:=hc ▸ h0
  simp only [step,SS]
  refine ak (aL hi) ?_
  refine ak aH ?_
  refine ak (aL hi) ?_
  rw [aE hi hm]
  exact congrArg (fun q=>J (Pt.p0 (el (c.getD i 0) k).1 ((i+1:Nat):Int) q)) (List.map_set (f:=aZ) (l:=c) (i:=i) (a:=(el (c.getD i 0) k).2)).symm
 ·simp only [step,SS]
  refine cN (by apply decide_eq_false;omega) ?_
  rfl
theorem af:eV Tryz.prog Ev 179 aV:=MV (run:=fun n x=>start (iter step n) x.1 x.2) mix aD .nil .nil Tryz.func179 (by kernel_rfl) run_eq (fun ls a hl e hg=>bq a.1 a.2 hg (by have h:(ls.headD .hole).aR.length≤maxLen:=(hl _ _ (.head _)).len;have e:a.1.map aZ=(ls.headD .hole).aR:=(congrArg (fun x=>x.1) e.symm);rw [←e] at h;simpa using h))
theorem iq {a0:List Int}{a1:Int}(h:eK a1):eK (md a0 a1).1:=jR iJ h
theorem qE (x:Int)(k:Int)(h0:0≤k)(hb:k+(cnt x:Int)≤4611686018427387904):(el x k).1=k+cnt x:=by
 simp only [cnt,Int.natCast_add] at hb ⊢
 simp (disch:=omega) only [el,wi]
 all_goals first | done | omega
theorem kk (a0:List Int)(a1:Int)(h0:0≤a1)(hb:a1+(sum a0:Int)≤4611686018427387904):(md a0 a1).1=a1+sum a0:=gR qE a0 a1 h0 hb
theorem sz (a:List Int):sum a≤60*(dQ (fun y:Int=>0) a):=jQ (fun x=>by
 try simp only [cnt] at *
 omega) a
end Z266
namespace Z267
set_option maxHeartbeats 8000000
inductive Pt where
 | p0 (a:Int) (b:Int) (c:List (List L))
def pid:Pt→Nat
 | .p0 ..=>2
def bY:Pt→List V
 | .p0 a b c=>[.own 0,.int .i64 a,.int .i64 b]
def bZ:Pt→List aU
 | .p0 a b c=>[.row 428 c]
def step (J:Pt→aG):Pt→aG
 | .p0 a b c=>(cond (decide (b<(c.length:Int))) (m2 b (c.length:Int) (m2 b (c.length:Int) (bX (Nat.beq (toNat b) (toNat b)&&true) (J (.p0 (i64.wrap ((i64.wrap (a+1))+1)) (i64.wrap (b+1)) (List.set c (toNat b) (aY.enc (⟨a,(i64.wrap (a+1))⟩:aY)))))))) (ret ((a,c):Int×List (List L))))
def start (J:Pt→aG)(x0:List (List L))(x1:Int):aG:=J (.p0 x1 0 x0)
def live:Nat→Live:=fun i=>match i with | 2=>[(0,none),(1,none),(5,none)] | _=>[]
def pats:List (Bool×List K):=[(false,[.sl 428]),(false,[.int .i64])]
def res:RP:=.ot [428]
abbrev E:Env:={ T:=assoc kQ,G:=dy [],nt:=27,M:=fT [],np:=1,mt:=true }
theorem step_eq (I:cG)(p:Pt):cT E live I (pid p) (bM Tryz.f332) (fM (live (pid p)) (bY p) (bZ p)) (cH E Tryz.f332 res)=step (fun q=>I (pid q) (bY q) (bZ q)) p:=by
 cases p<;>kernel_rfl
theorem start_eq (I:cG)(ls:List L):eX E live I (bM Tryz.f332) (gL pats ls) (cH E Tryz.f332 res)=start (fun q=>I (pid q) (bY q) (bZ q)) (ls.headD .hole).aR ((aA 1 ls).headD .hole).toInt:=by kernel_rfl
theorem run_eq (n:Nat)(ls:List L):eO E live Tryz.f332 res n (gL pats ls)=start (iter step n) (ls.headD .hole).aR ((aA 1 ls).headD .hole).toInt:=cC (id:=pid) (vs:=bY) (hs:=bZ) (step:=step) (start:=fun J=>start J (ls.headD .hole).aR ((aA 1 ls).headD .hole).toInt) step_eq (fun I=>start_eq I ls) n
def el (x:aY)(k:Int):Int×aY:=((i64.wrap ((i64.wrap (k+1))+1)),(⟨k,(i64.wrap (k+1))⟩:aY))
theorem iJ (x:aY)(k:Int)(hk:eK k):eK (el x k).1:=(cy _)
def cnt (x:aY):Nat:=2
def sum (a:List aY):Nat:=(a.map cnt).sum
def md (a0:List aY)(a1:Int):Int×List aY:=jB el a0 a1
def gd (a0:List aY)(a1:Int):Prop:=eK a1
def acc (ls:List L):List (List L)×Int:=((ls.headD .hole).aR,((aA 1 ls).headD .hole).toInt)
def R:(List (List L)×Int)→Option (Int×List (List L)):=RR (p2 gd) (u2 md)
theorem aj {a0 a1}(h:gd a0 a1):R ((a0.map aY.row),a1)=some ((md a0 a1).1,((md a0 a1).2.map aY.row)):=aM (a:=(a0,a1)) h
def aV:gH:=MN pats acc R
theorem bq (a0:List aY)(a1:Int)(hg:gd a0 a1)(h0:a0.length≤maxLen):∃n,start (iter step n) (a0.map aY.row) a1=ret (((md a0 a1).1,((md a0 a1).2.map aY.row)):Int×List (List L)):=by
 unfold gd at hg
 show ∃n,iter step n (Pt.p0 a1 0 (a0.map aY.row))=_
 unfold md
 refine gF (el:=el) (xs:=a0) aY.zero eK iJ (pt:=fun i k c=>Pt.p0 k (i:Int) (c.map aY.row)) (out:=fun b=>ret (b.1,b.2.map aY.row)) (fun J i k c hi hc hk=>?_) (fun J k c hc=>?_) hg
 ·have hm:c.length≤maxLen:=hc ▸ h0
  simp only [step,SS]
  refine ak (aL hi) ?_
  repeat first | refine ak aH ?_ | refine ak (aL hi) ?_ | refine ak (gZ _) ?_
  rw [aE hi hm]
  exact congrArg (fun q=>J (Pt.p0 (el (c.getD i aY.zero) k).1 ((i+1:Nat):Int) q)) (List.map_set (f:=aY.row) (l:=c) (i:=i) (a:=(el (c.getD i aY.zero) k).2)).symm
 ·simp only [step,SS]
  refine cN (by apply decide_eq_false;omega) ?_
  rfl
theorem af:eV Tryz.prog Ev 332 aV:=MV (run:=fun n x=>start (iter step n) x.1 x.2) mix aD .nil .nil Tryz.func332 (by kernel_rfl) run_eq (fun ls a hl e hg=>bq a.1 a.2 hg (by have h:(ls.headD .hole).aR.length≤maxLen:=(hl _ _ (.head _)).len;have e:a.1.map aY.row=(ls.headD .hole).aR:=(congrArg (fun x=>x.1) e.symm);rw [←e] at h;simpa using h))
theorem iq {a0:List aY}{a1:Int}(h:eK a1):eK (md a0 a1).1:=jR iJ h
theorem qE (x:aY)(k:Int)(h0:0≤k)(hb:k+(cnt x:Int)≤4611686018427387904):(el x k).1=k+cnt x:=by
 simp only [cnt,Int.natCast_add] at hb ⊢
 simp (disch:=omega) only [el,wi]
 all_goals first | done | omega
theorem kk (a0:List aY)(a1:Int)(h0:0≤a1)(hb:a1+(sum a0:Int)≤4611686018427387904):(md a0 a1).1=a1+sum a0:=gR qE a0 a1 h0 hb
theorem sz (a:List aY):sum a≤60*(dQ (fun y:aY=>aY.size y) a):=jQ (fun x=>by
 try simp only [cnt,aY.size] at *
 omega) a
end Z267
namespace Z268
set_option maxHeartbeats 8000000
inductive Pt where
 | p0 (a:Int) (b:Int) (c:List (List L))
def pid:Pt→Nat
 | .p0 ..=>2
def bY:Pt→List V
 | .p0 a b c=>[.own 0,.int .i64 a,.int .i64 b]
def bZ:Pt→List aU
 | .p0 a b c=>[.row 123 c]
def step (J:Pt→aG):Pt→aG
 | .p0 a b c=>(cond (decide (b<(c.length:Int))) (m2 b (c.length:Int) (m2 b (c.length:Int) (bX (Nat.beq (toNat b) (toNat b)&&true) (m2 b (c.length:Int) (bX (Nat.beq (toNat b) (toNat b)&&true) (m2 b (c.length:Int) (bX (Nat.beq (toNat b) (toNat b)&&true) (m2 b (c.length:Int) (bX (Nat.beq (toNat b) (toNat b)&&true) (m2 b (c.length:Int) (bX (Nat.beq (toNat b) (toNat b)&&true) (m2 b (c.length:Int) (bX (Nat.beq (toNat b) (toNat b)&&true) (m2 b (c.length:Int) (bX (Nat.beq (toNat b) (toNat b)&&true) (m2 b (c.length:Int) (bX (Nat.beq (toNat b) (toNat b)&&true) (bX (Nat.beq (toNat b) (toNat b)&&true) (call (Z266.R ((aO.at c (toNat b)).aq.bJ.aT,(i64.wrap ((i64.wrap ((i64.wrap ((i64.wrap ((i64.wrap ((i64.wrap ((i64.wrap ((i64.wrap (a+1))+1))+1))+1))+1))+1))+1))+1)))) fun v1=>(m2 b (c.length:Int) (bX (Nat.beq (toNat b) (toNat b)&&true) (m2 b (c.length:Int) (bX (Nat.beq (toNat b) (toNat b)&&true) (bX (Nat.beq (toNat b) (toNat b)&&true) (call (Z266.R ((aO.at c (toNat b)).aq.bw.aT,(i64.wrap (v1.1+1)))) fun v2=>(m2 b (c.length:Int) (bX (Nat.beq (toNat b) (toNat b)&&true) (m2 b (c.length:Int) (bX (Nat.beq (toNat b) (toNat b)&&true) (m2 b (c.length:Int) (bX (Nat.beq (toNat b) (toNat b)&&true) (bX (Nat.beq (toNat b) (toNat b)&&true) (call (Z266.R ((aO.at c (toNat b)).aq.bp.aT,(i64.wrap ((i64.wrap (v2.1+1))+1)))) fun v3=>(m2 b (c.length:Int) (bX (Nat.beq (toNat b) (toNat b)&&true) (m2 b (c.length:Int) (bX (Nat.beq (toNat b) (toNat b)&&true) (m2 b (c.length:Int) (bX (Nat.beq (toNat b) (toNat b)&&true) (bX (Nat.beq (toNat b) (toNat b)&&true) (call (Z267.R ((aO.at c (toNat b)).bW,(i64.wrap ((i64.wrap (v3.1+1))+1)))) fun v4=>J (.p0 v4.1 (i64.wrap (b+1)) (List.set c (toNat b) (aO.enc (⟨(⟨a,(i64.wrap (a+1)),(i64.wrap ((i64.wrap (a+1))+1)),(i64.wrap ((i64.wrap ((i64.wrap (a+1))+1))+1)),(i64.wrap ((i64.wrap ((i64.wrap ((i64.wrap (a+1))+1))+1))+1)),(i64.wrap ((i64.wrap ((i64.wrap ((i64.wrap ((i64.wrap (a+1))+1))+1))+1))+1)),(i64.wrap ((i64.wrap ((i64.wrap ((i64.wrap ((i64.wrap ((i64.wrap (a+1))+1))+1))+1))+1))+1)),(i64.wrap ((i64.wrap ((i64.wrap ((i64.wrap ((i64.wrap ((i64.wrap ((i64.wrap (a+1))+1))+1))+1))+1))+1))+1)),(⟨v1.2,v1.1⟩:bu),(⟨v2.2,v2.1⟩:bu),(i64.wrap (v2.1+1)),(⟨v3.2,v3.1⟩:bu),((Int.tmod (i64.wrap (v3.1+1)) 3)==0)⟩:bU),v4.2⟩:aO))))))))))))))))))))))))))))))))))))))))))))) (ret ((a,c):Int×List (List L))))
def start (J:Pt→aG)(x0:List (List L))(x1:Int):aG:=J (.p0 x1 0 x0)
def live:Nat→Live:=fun i=>match i with | 2=>[(0,none),(1,none),(5,none)] | _=>[]
def pats:List (Bool×List K):=[(false,[.sl 123]),(false,[.int .i64])]
def res:RP:=.ot [123]
abbrev E:Env:={ T:=assoc kQ,G:=dy [],nt:=156,M:=fT [(179,Z266.aV),(332,Z267.aV)],np:=1,mt:=true }
theorem step_eq (I:cG)(p:Pt):cT E live I (pid p) (bM Tryz.f331) (fM (live (pid p)) (bY p) (bZ p)) (cH E Tryz.f331 res)=step (fun q=>I (pid q) (bY q) (bZ q)) p:=by
 cases p<;>kernel_rfl
theorem start_eq (I:cG)(ls:List L):eX E live I (bM Tryz.f331) (gL pats ls) (cH E Tryz.f331 res)=start (fun q=>I (pid q) (bY q) (bZ q)) (ls.headD .hole).aR ((aA 1 ls).headD .hole).toInt:=by kernel_rfl
theorem run_eq (n:Nat)(ls:List L):eO E live Tryz.f331 res n (gL pats ls)=start (iter step n) (ls.headD .hole).aR ((aA 1 ls).headD .hole).toInt:=cC (id:=pid) (vs:=bY) (hs:=bZ) (step:=step) (start:=fun J=>start J (ls.headD .hole).aR ((aA 1 ls).headD .hole).toInt) step_eq (fun I=>start_eq I ls) n
def e1 (x:aa)(k:Int):=Z266.md (((x.aq).bJ).aT) (i64.wrap ((i64.wrap ((i64.wrap ((i64.wrap ((i64.wrap ((i64.wrap ((i64.wrap ((i64.wrap (k+1))+1))+1))+1))+1))+1))+1))+1))
def e2 (x:aa)(k:Int):=Z266.md (((x.aq).bw).aT) (i64.wrap ((e1 x k).1+1))
def e3 (x:aa)(k:Int):=Z266.md (((x.aq).bp).aT) (i64.wrap ((i64.wrap ((e2 x k).1+1))+1))
def e4 (x:aa)(k:Int):=Z267.md x.bW (i64.wrap ((i64.wrap ((e3 x k).1+1))+1))
def el (x:aa)(k:Int):Int×aa:=((e4 x k).1,(⟨(⟨k,(i64.wrap (k+1)),(i64.wrap ((i64.wrap (k+1))+1)),(i64.wrap ((i64.wrap ((i64.wrap (k+1))+1))+1)),(i64.wrap ((i64.wrap ((i64.wrap ((i64.wrap (k+1))+1))+1))+1)),(i64.wrap ((i64.wrap ((i64.wrap ((i64.wrap ((i64.wrap (k+1))+1))+1))+1))+1)),(i64.wrap ((i64.wrap ((i64.wrap ((i64.wrap ((i64.wrap ((i64.wrap (k+1))+1))+1))+1))+1))+1)),(i64.wrap ((i64.wrap ((i64.wrap ((i64.wrap ((i64.wrap ((i64.wrap ((i64.wrap (k+1))+1))+1))+1))+1))+1))+1)),(⟨(e1 x k).2,(e1 x k).1⟩:aJ),(⟨(e2 x k).2,(e2 x k).1⟩:aJ),(i64.wrap ((e2 x k).1+1)),(⟨(e3 x k).2,(e3 x k).1⟩:aJ),((Int.tmod (i64.wrap ((e3 x k).1+1)) 3)==0)⟩:aC),(e4 x k).2⟩:aa))
theorem iJ (x:aa)(k:Int)(hk:eK k):eK (el x k).1:=(Z267.iq (cy _))
def cnt (x:aa):Nat:=13+Z266.sum (((x.aq).bJ).aT)+Z266.sum (((x.aq).bw).aT)+Z266.sum (((x.aq).bp).aT)+Z267.sum x.bW
def sum (a:List aa):Nat:=(a.map cnt).sum
def md (a0:List aa)(a1:Int):Int×List aa:=jB el a0 a1
def gd (a0:List aa)(a1:Int):Prop:=eK a1
def acc (ls:List L):List (List L)×Int:=((ls.headD .hole).aR,((aA 1 ls).headD .hole).toInt)
def R:(List (List L)×Int)→Option (Int×List (List L)):=RR (p2 gd) (u2 md)
theorem aj {a0 a1}(h:gd a0 a1):R ((a0.map aa.row),a1)=some ((md a0 a1).1,((md a0 a1).2.map aa.row)):=aM (a:=(a0,a1)) h
def aV:gH:=MN pats acc R
theorem bq (a0:List aa)(a1:Int)(hg:gd a0 a1)(h0:a0.length≤maxLen):∃n,start (iter step n) (a0.map aa.row) a1=ret (((md a0 a1).1,((md a0 a1).2.map aa.row)):Int×List (List L)):=by
 unfold gd at hg
 show ∃n,iter step n (Pt.p0 a1 0 (a0.map aa.row))=_
 unfold md
 refine gF (el:=el) (xs:=a0) aa.zero eK iJ (pt:=fun i k c=>Pt.p0 k (i:Int) (c.map aa.row)) (out:=fun b=>ret (b.1,b.2.map aa.row)) (fun J i k c hi hc hk=>?_) (fun J k c hc=>?_) hg
 ·have hm:c.length≤maxLen:=hc ▸ h0
  simp only [step,SS]
  refine ak (aL hi) ?_
  repeat first | refine ak aH ?_ | refine ak (aL hi) ?_ | refine ak (gZ _) ?_
  refine bh ((e1 (c.getD i aa.zero) k).1,((e1 (c.getD i aa.zero) k).2.map aZ)) (Z266.aj (a0:=(((c.getD i aa.zero).aq).bJ).aT) (a1:=i64.wrap ((i64.wrap ((i64.wrap ((i64.wrap ((i64.wrap ((i64.wrap ((i64.wrap ((i64.wrap (k+1))+1))+1))+1))+1))+1))+1))+1)) (cy _)) ?_
  repeat first | refine ak aH ?_ | refine ak (aL hi) ?_ | refine ak (gZ _) ?_
  refine bh ((e2 (c.getD i aa.zero) k).1,((e2 (c.getD i aa.zero) k).2.map aZ)) (Z266.aj (a0:=(((c.getD i aa.zero).aq).bw).aT) (a1:=i64.wrap ((e1 (c.getD i aa.zero) k).1+1)) (cy _)) ?_
  repeat first | refine ak aH ?_ | refine ak (aL hi) ?_ | refine ak (gZ _) ?_
  refine bh ((e3 (c.getD i aa.zero) k).1,((e3 (c.getD i aa.zero) k).2.map aZ)) (Z266.aj (a0:=(((c.getD i aa.zero).aq).bp).aT) (a1:=i64.wrap ((i64.wrap ((e2 (c.getD i aa.zero) k).1+1))+1)) (cy _)) ?_
  repeat first | refine ak aH ?_ | refine ak (aL hi) ?_ | refine ak (gZ _) ?_
  refine bh ((e4 (c.getD i aa.zero) k).1,((e4 (c.getD i aa.zero) k).2.map aY.row)) (Z267.aj (a0:=(c.getD i aa.zero).bW) (a1:=i64.wrap ((i64.wrap ((e3 (c.getD i aa.zero) k).1+1))+1)) (cy _)) ?_
  rw [aE hi hm]
  exact congrArg (fun q=>J (Pt.p0 (el (c.getD i aa.zero) k).1 ((i+1:Nat):Int) q)) (List.map_set (f:=aa.row) (l:=c) (i:=i) (a:=(el (c.getD i aa.zero) k).2)).symm
 ·simp only [step,SS]
  refine cN (by apply decide_eq_false;omega) ?_
  rfl
theorem af:eV Tryz.prog Ev 331 aV:=MV (run:=fun n x=>start (iter step n) x.1 x.2) mix aD .nil (.cons Z266.af (.cons Z267.af .nil)) Tryz.func331 (by kernel_rfl) run_eq (fun ls a hl e hg=>bq a.1 a.2 hg (by have h:(ls.headD .hole).aR.length≤maxLen:=(hl _ _ (.head _)).len;have e:a.1.map aa.row=(ls.headD .hole).aR:=(congrArg (fun x=>x.1) e.symm);rw [←e] at h;simpa using h))
theorem iq {a0:List aa}{a1:Int}(h:eK a1):eK (md a0 a1).1:=jR iJ h
theorem qE (x:aa)(k:Int)(h0:0≤k)(hb:k+(cnt x:Int)≤4611686018427387904):(el x k).1=k+cnt x:=by
 simp only [cnt,Int.natCast_add] at hb ⊢
 simp (disch:=omega) only [el,e1,e2,e3,e4,wi,Z266.kk,Z267.kk]
 all_goals first | done | omega
theorem kk (a0:List aa)(a1:Int)(h0:0≤a1)(hb:a1+(sum a0:Int)≤4611686018427387904):(md a0 a1).1=a1+sum a0:=gR qE a0 a1 h0 hb
theorem sz (a:List aa):sum a≤60*(dQ (fun y:aa=>aa.size y) a):=jQ (fun x=>by
 have:=Z266.sz (((x.aq).bJ).aT)
 have:=Z266.sz (((x.aq).bw).aT)
 have:=Z266.sz (((x.aq).bp).aT)
 have:=Z267.sz x.bW
 try simp only [cnt,aa.size,aC.size,aJ.size] at *
 omega) a
end Z268
namespace Z269
set_option maxHeartbeats 8000000
inductive Pt where
 | p0 (a:Int) (b:Int) (c:List (List L))
def pid:Pt→Nat
 | .p0 ..=>2
def bY:Pt→List V
 | .p0 a b c=>[.own 0,.int .i64 a,.int .i64 b]
def bZ:Pt→List aU
 | .p0 a b c=>[.row 92 c]
def step (J:Pt→aG):Pt→aG
 | .p0 a b c=>(cond (decide (b<(c.length:Int))) (m2 b (c.length:Int) (call (Z268.R ((oO c (toNat b)),a)) fun v1=>J (.p0 v1.1 (i64.wrap (b+1)) (List.set c (toNat b) [L.sl v1.2])))) (ret ((a,c):Int×List (List L))))
def start (J:Pt→aG)(x0:List (List L))(x1:Int):aG:=J (.p0 x1 0 x0)
def live:Nat→Live:=fun i=>match i with | 2=>[(0,none),(1,none),(5,none)] | _=>[]
def pats:List (Bool×List K):=[(false,[.sl 92]),(false,[.int .i64])]
def res:RP:=.ot [92]
abbrev E:Env:={ T:=assoc kQ,G:=dy [],nt:=19,M:=fT [(331,Z268.aV)],np:=1,mt:=true }
theorem step_eq (I:cG)(p:Pt):cT E live I (pid p) (bM Tryz.f175) (fM (live (pid p)) (bY p) (bZ p)) (cH E Tryz.f175 res)=step (fun q=>I (pid q) (bY q) (bZ q)) p:=by
 cases p<;>kernel_rfl
theorem start_eq (I:cG)(ls:List L):eX E live I (bM Tryz.f175) (gL pats ls) (cH E Tryz.f175 res)=start (fun q=>I (pid q) (bY q) (bZ q)) (ls.headD .hole).aR ((aA 1 ls).headD .hole).toInt:=by kernel_rfl
theorem run_eq (n:Nat)(ls:List L):eO E live Tryz.f175 res n (gL pats ls)=start (iter step n) (ls.headD .hole).aR ((aA 1 ls).headD .hole).toInt:=cC (id:=pid) (vs:=bY) (hs:=bZ) (step:=step) (start:=fun J=>start J (ls.headD .hole).aR ((aA 1 ls).headD .hole).toInt) step_eq (fun I=>start_eq I ls) n
def e1 (x:List aa)(k:Int):=Z268.md x k
def el (x:List aa)(k:Int):Int×(List aa):=((e1 x k).1,((e1 x k).2))
theorem iJ (x:List aa)(k:Int)(hk:eK k):eK (el x k).1:=(Z268.iq hk)
def cnt (x:List aa):Nat:=0+Z268.sum x
def sum (a:List (List aa)):Nat:=(a.map cnt).sum
def md (a0:List (List aa))(a1:Int):Int×List (List aa):=jB el a0 a1
def gd (a0:List (List aa))(a1:Int):Prop:=eK a1
def acc (ls:List L):List (List L)×Int:=((ls.headD .hole).aR,((aA 1 ls).headD .hole).toInt)
def R:(List (List L)×Int)→Option (Int×List (List L)):=RR (p2 gd) (u2 md)
theorem aj {a0 a1}(h:gd a0 a1):R ((a0.map (dK aa.row)),a1)=some ((md a0 a1).1,((md a0 a1).2.map (dK aa.row))):=aM (a:=(a0,a1)) h
def aV:gH:=MN pats acc R
theorem bq (a0:List (List aa))(a1:Int)(hg:gd a0 a1)(h0:a0.length≤maxLen):∃n,start (iter step n) (a0.map (dK aa.row)) a1=ret (((md a0 a1).1,((md a0 a1).2.map (dK aa.row))):Int×List (List L)):=by
 unfold gd at hg
 show ∃n,iter step n (Pt.p0 a1 0 (a0.map (dK aa.row)))=_
 unfold md
 refine gF (el:=el) (xs:=a0) [] eK iJ (pt:=fun i k c=>Pt.p0 k (i:Int) (c.map (dK aa.row))) (out:=fun b=>ret (b.1,b.2.map (dK aa.row))) (fun J i k c hi hc hk=>?_) (fun J k c hc=>?_) hg
 ·have hm:c.length≤maxLen:=hc ▸ h0
  simp only [step,SS]
  refine ak (aL hi) ?_
  refine ak aH ?_
  refine ak (aL hi) ?_
  refine bh ((e1 (c.getD i []) k).1,((e1 (c.getD i []) k).2.map aa.row)) (Z268.aj (a0:=c.getD i []) (a1:=k) hk) ?_
  rw [aE hi hm]
  exact congrArg (fun q=>J (Pt.p0 (el (c.getD i []) k).1 ((i+1:Nat):Int) q)) (List.map_set (f:=(dK aa.row)) (l:=c) (i:=i) (a:=(el (c.getD i []) k).2)).symm
 ·simp only [step,SS]
  refine cN (by apply decide_eq_false;omega) ?_
  rfl
theorem af:eV Tryz.prog Ev 175 aV:=MV (run:=fun n x=>start (iter step n) x.1 x.2) mix aD .nil (.cons Z268.af .nil) Tryz.func175 (by kernel_rfl) run_eq (fun ls a hl e hg=>bq a.1 a.2 hg (by have h:(ls.headD .hole).aR.length≤maxLen:=(hl _ _ (.head _)).len;have e:a.1.map (dK aa.row)=(ls.headD .hole).aR:=(congrArg (fun x=>x.1) e.symm);rw [←e] at h;simpa using h))
theorem iq {a0:List (List aa)}{a1:Int}(h:eK a1):eK (md a0 a1).1:=jR iJ h
theorem qE (x:List aa)(k:Int)(h0:0≤k)(hb:k+(cnt x:Int)≤4611686018427387904):(el x k).1=k+cnt x:=by
 simp only [cnt,Int.natCast_add] at hb ⊢
 simp (disch:=omega) only [el,e1,wi,Z268.kk]
 all_goals first | done | omega
theorem kk (a0:List (List aa))(a1:Int)(h0:0≤a1)(hb:a1+(sum a0:Int)≤4611686018427387904):(md a0 a1).1=a1+sum a0:=gR qE a0 a1 h0 hb
theorem sz (a:List (List aa)):sum a≤60*(dQ (fun y:List aa=>dQ (fun y:aa=>aa.size y) y) a):=jQ (fun x=>by
 have:=Z268.sz x
 try simp only [cnt] at *
 omega) a
end Z269
end Go.DM
end
