/- What the functions compute that the law reaches, and that the law returns true. Conditions: none. -/
import Derived.Test.YtgagkddebgbdmaaAreRootsTy
import Derived.Test.YtgagkddebgbdmaaProg
import Derived.Lib.AppendZerosOnto
import Derived.Lib.Bytealg
import Derived.Laws.Externs
import Derived.Lib.Walk
import Derived.Lib.Hide
import Derived.Lib.Strings
import Derived.WalkKit
import Derived.Maps.Own
import Derived.Maps.OwnOps
import Derived.Maps.OwnSet
import Derived.Maps.Views
set_option linter.all false
set_option maxRecDepth 100000
noncomputable section
namespace Go.DM
open Go.Proofs
open Go.IntKind (i64)
open Int (toNat)
open Nat (le_trans zero_le)
abbrev gQ:=K.int .i64
abbrev bT:=ret (false:Bool)
abbrev nP:=ret (true:Bool)
abbrev QqT (b:Int):Bool:=Nat.beq (toNat b) (toNat b)&&true
abbrev k7:List K:=[gQ,gQ,.bool,.int .u8]
abbrev f7:List Lf:=[fI,fI,fB,.rd (.int .u8)]
abbrev k8:List K:=[gQ,gQ,.bool,.int .u8]
abbrev f8:List Lf:=[fI,fI,fB,.rd (.int .u8)]
abbrev kA:List K:=[.str,.int .u64]
abbrev f13:List Lf:=[fS,.rd (.int .u64)]
abbrev kf:List K:=[.str,.int .u64]
abbrev f14:List Lf:=[fS,.rd (.int .u64)]
abbrev vw:List K:=[.str,gQ]
abbrev f39:List Lf:=[fS,fI]
abbrev uY:List K:=[.str,gQ]
abbrev f40:List Lf:=[fS,fI]
abbrev vg:List K:=[.str,gQ]
abbrev f42:List Lf:=[fS,fI]
abbrev vC:List K:=[.str,gQ]
abbrev f49:List Lf:=[fS,fI]
abbrev vA:List K:=[.str,gQ]
abbrev f53:List Lf:=[fS,fI]
def ve:List (Nat×TI):=[
 (2,⟨[gQ],false,[],8,false⟩),
 (3,⟨[gQ],false,[],8,false⟩),
 (4,⟨[.bool],false,[],1,false⟩),
 (5,⟨[.int .u8],false,[],1,false⟩),
 (6,⟨[.int .u8],false,[],1,false⟩),
 (7,⟨k7,true,[(0,2),(1,3),(2,4),(3,6)],24,false⟩),
 (8,⟨k8,true,[(0,2),(1,3),(2,4),(3,6)],24,false⟩),
 (9,⟨[.str],false,[],16,false⟩),
 (10,⟨[.str],false,[],16,false⟩),
 (11,⟨[.str],false,[],16,false⟩),
 (12,⟨[.int .u64],false,[],8,false⟩),
 (13,⟨kA,true,[(0,9),(1,12)],24,false⟩),
 (14,⟨kf,true,[(0,9),(1,12)],24,false⟩),
 (21,⟨[.int .i32],false,[],4,false⟩),
 (22,⟨[.sl 40],false,[],24,false⟩),
 (25,⟨[.sl 42],false,[],24,false⟩),
 (29,⟨[.sl 49],false,[],24,false⟩),
 (31,⟨[.sl 53],false,[],24,false⟩),
 (39,⟨vw,true,[(0,9),(1,3)],24,false⟩),
 (40,⟨uY,true,[(0,9),(1,3)],24,true⟩),
 (42,⟨vg,true,[(0,9),(1,3)],24,true⟩),
 (49,⟨vC,true,[(0,9),(1,3)],24,true⟩),
 (53,⟨vA,true,[(0,9),(1,3)],24,true⟩),
 (61,⟨[.sl 5],false,[],24,false⟩),
 (69,⟨[.int .u32],false,[],4,false⟩),
 (70,⟨[.int .u8],false,[],1,false⟩),
 (71,⟨[.int .u8],false,[],1,false⟩),
 (74,⟨[.int .i32],false,[],4,false⟩),
 (75,⟨[.int .i32],false,[],4,false⟩)]
abbrev Ev:Env:=bZ ve
def cB:ck Try.prog ve=true:=by kernel_rfl
def mix:Try.prog.follows .mixedOrders=true:=by kernel_rfl
abbrev pW:=Valid Try.prog Ev
namespace Z0
def F (x0:aa)(x1:Int):aq:=(cond (decide ((i64.wrap (x1 - (x0.fName.size:Int)))<0)) (ret ((-1):Int)) (ret ((i64.wrap (x1 - (x0.fName.size:Int))):Int)))
def md (a0:aa)(a1:Int):Int:=qG (aa.size a0) a1
def gd (a0:aa)(a1:Int):Prop:=(aa.Sm maxLen a0)/\0<=a1/\a1<=1048576
def R:=RR (p2 gd) (u2 md)
def cm {a0 a1}(h:gd a0 a1):R (a0,a1)=some (md a0 a1):=dM (a:=(a0,a1)) h
def cj:=CN [.agg uY,pI] oI RT.dec R
def je (a0)(a1)(hg:gd a0 a1):F a0 a1=ret (md a0 a1):=by
 obtain ⟨hs,g0,g1⟩:=hg
 unfold md
 show (cond (decide ((i64.wrap (a1 - (a0.fName.size:Int)))<0)) (ret ((-1):Int)) (ret ((i64.wrap (a1 - (a0.fName.size:Int))):Int)))=_
 rw [pJ (left:=a1) (s:=a0.fName.size) (by omega) (by omega) hs]
 by_cases c0:a1 - ((a0.fName.size:Nat):Int)<0
 ·rw [decide_eq_true c0,ah];rw [show qG (aa.size a0) a1=-1 from ia (by unfold aa.size;omega)];try rfl
 rw [decide_eq_false c0,ak]
 rw [show qG (aa.size a0) a1=a1 - ((a0.fName.size:Nat):Int) from by rw [jo (by unfold aa.size;omega)];unfold aa.size;omega]
def aP:pW 17 cj:=W2 13 F mix cB je .nil Try.func17
end Z0
namespace Z1
inductive Pt where
 | p0 (a:aA) (b c:Int)
def pid:Pt->Nat
 | .p0 ..=>5
def pU:Pt->List V
 | .p0 a b c=>[.sl none 40 a,.int .i64 b,.int .i64 c]
def pF:Pt->List af
 | .p0 a b c=>[]
def step (J:Pt->aq):Pt->aq
 | .p0 a b c=>(cond (decide (c<(a.length:Int))) (m2 c (a.length:Int) (call (Z0.R ((aa.at a (toNat c)),b)) fun v1=>(cond (decide (v1<0)) (ret ((-1):Int)) (J (.p0 a v1 (i64.wrap (c+1))))))) (ret (b:Int)))
def start (J:Pt->aq)(x0:aA)(x1:Int):aq:=(cond (decide ((i64.wrap (x1 - (x0.length:Int)))<0)) (ret ((-1):Int)) (J (.p0 x0 (i64.wrap (x1 - (x0.length:Int))) 0)))
def live:Nat->Live:=fun i=>match i with | 5=>[(0,none),(1,none),(5,none)] | _=>[]
def md (a0:List aa)(a1:Int):Int:=qG (uk (fun y:aa=>aa.size y) a0) a1
def gd (a0:List aa)(a1:Int):Prop:=(mG maxLen (fun y:aa=>aa.Sm maxLen y) a0)/\0<=a1/\a1<=1048576
def R:=RR (p2 gd) (u2 md)
def cm {a0 a1}(h:gd a0 a1):R ((a0.map aa.row),a1)=some (md a0 a1):=dM (a:=(a0,a1)) h
def cj:=CN [pL 40,pI] oI RT.dec R
def je (a0)(a1)(hg:gd a0 a1):∃n,start (iter step n) (a0.map aa.row) a1=ret (md a0 a1):=by
 obtain ⟨hs,g0,g1⟩:=hg
 unfold start md
 simp only [List.length_map]
 refine tj (pt:=fun left i=>Pt.p0 (a0.map aa.row) left (i:Int)) (f:=fun y:aa=>aa.size y) hs.1 (fun J i h left p0 p1=>?_) (fun J left=>?_) g0 g1
 ·simp only [step,MM,List.length_map,bX h,bH,ah,eo,aa.mD h]
  rw [call_eq (Z0.cm ⟨hs.get h,p0,p1⟩),aN h hs.1]
  unfold Z0.md
  by_cases hc:left<((aa.size (a0[i]):Nat):Int)
  ·rw [ia hc,if_pos hc];rfl
  ·rw [jo hc,if_neg hc,pR (by omega)];rfl
 ·simp only [step,List.length_map,me,ak]
def aP:pW 5 cj:=L2 27 pid pU pF live step start mix cB je (.cons Z0.aP .nil) Try.func5
end Z1
namespace Z2
def F (x0:aa):aq:=ret (x0:aa)
def md (a0:aa):aa:=a0
def gd (a0:aa):Prop:=aa.Sm (2^36) a0
def R:=RR gd md
def cm {a0}(h:gd a0):R a0=some a0:=dM (a:=a0) h
def cj:=CN [.agg uY] (.agg f42) RT.dec R
def je (a0)(hg:gd a0):F a0=ret (md a0):=by
 unfold md
 show ret (a0:aa)=_
 rfl
def aP:pW 20 cj:=W1 11 F mix cB je .nil Try.func20
end Z2
namespace Z3
inductive Pt where
 | p0 (a:aA) (b:Int) (c:aA)
def pid:Pt->Nat
 | .p0 ..=>3
def pU:Pt->List V
 | .p0 a b c=>[.sl none 40 a,.own 0,.int .i64 b]
def pF:Pt->List af
 | .p0 a b c=>[.row 42 c]
def step (J:Pt->aq):Pt->aq
 | .p0 a b c=>(cond (decide (b<(a.length:Int))) (m2 b (a.length:Int) (call (Z2.R (aa.at a (toNat b))) fun v1=>(m2 b (c.length:Int) (J (.p0 a (i64.wrap (b+1)) (List.set c (toNat b) (aa.enc v1))))))) (ret (c:aA)))
def start (J:Pt->aq)(x0:aA):aq:=(uh (decide ((0:Int)<=(x0.length:Int))) (uh (decide ((x0.length:Int)<=(x0.length:Int))) (uh (decide ((x0.length:Int)*24<=140737488355328)) (J (.p0 x0 0 (List.replicate (toNat (x0.length:Int)) [L.str ⟨#[]⟩,L.int 0]))))))
def live:Nat->Live:=fun i=>match i with | 3=>[(0,none),(3,none),(4,none)] | _=>[]
def md (a0:List aa):List aa:=a0
def gd (a0:List aa):Prop:=mG (2^36) (fun y:aa=>aa.Sm (2^36) y) a0
def R:=RR gd md
def cm {a0}(h:gd a0):R (a0.map aa.row)=some (a0.map aa.row):=dM (a:=a0) h
def cj:=CN [pL 40] (oL 42) RT.dec R
def je (a0)(hg:gd a0):∃n,start (iter step n) (a0.map aa.row)=ret ((md a0).map aa.row):=by
 unfold start md
 simp only [List.length_map]
 refine sQ (b:=24) (pt:=fun i c=>Pt.p0 (a0.map aa.row) (i:Int) c) (by have:=hg.1;simp at this;omega) (fun J i h c hc=>?_) (fun J c=>?_)
 ·simp only [step,MM,List.length_map,bX h,bH,ah,eo,aa.mD h,hc]
  rw [call_eq (Z2.cm (hg.get h))]
  try simp only [hc,bX h,ah]
  rw [aN (n:=a0.length) h (by have:=hg.1;simp only [maxLen];simp at this;omega)]
  rfl
 ·simp only [step,List.length_map,me,ak]
def aP:pW 7 cj:=L1 23 pid pU pF live step start mix cB je (.cons Z2.aP .nil) Try.func7
end Z3
namespace Z4
def F (x0 x1 x2:Int):aq:=(cond (decide (x0>=x1)) (ret ((decide (x0<=x2)):Bool)) bT)
def md (a0 a1 a2:Int):Bool:=(cond (decide (a0>=a1)) ((decide (a0<=a2)):Bool) (false:Bool))
def gd (a0 a1 a2:Int):Prop:=True
def R:=RR (p3 gd) (u3 md)
def cm {a0 a1 a2}(h:gd a0 a1 a2):R (a0,a1,a2)=some (md a0 a1 a2):=dM (a:=(a0,a1,a2)) h
def cj:=CN [pI,pI,pI] oB RT.dec R
def je (a0)(a1)(a2)(hg:gd a0 a1 a2):F a0 a1 a2=ret (md a0 a1 a2):=by
 unfold F md
 try simp only [SS]
 refine lH ret (fun c1=>?_) (fun _=>rfl)
 all_goals exact fz
def aP:pW 19 cj:=W3 15 F mix cB je .nil Try.func19
end Z4
namespace Z5
inductive Pt where
 | p0 (a:bE) (b:Int)
def pid:Pt->Nat
 | .p0 ..=>4
def pU:Pt->List V
 | .p0 a b=>[.str a,.int .i64 b]
def pF:Pt->List af
 | .p0 a b=>[]
def step (J:Pt->aq):Pt->aq
 | .p0 a b=>(cond (decide (b<(a.size:Int))) (m2 b (a.size:Int) (cond (decide ((aM a (toNat b))<97)) (m2 b (a.size:Int) (cond (decide ((aM a (toNat b))<48)) (m2 b (a.size:Int) (cond ((aM a (toNat b)) != 45) bT (J (.p0 a (i64.wrap (b+1)))))) (m2 b (a.size:Int) (cond (decide ((aM a (toNat b))>57)) (m2 b (a.size:Int) (cond ((aM a (toNat b)) != 45) bT (J (.p0 a (i64.wrap (b+1)))))) (J (.p0 a (i64.wrap (b+1)))))))) (m2 b (a.size:Int) (cond (decide ((aM a (toNat b))>122)) (m2 b (a.size:Int) (cond (decide ((aM a (toNat b))<48)) (m2 b (a.size:Int) (cond ((aM a (toNat b)) != 45) bT (J (.p0 a (i64.wrap (b+1)))))) (m2 b (a.size:Int) (cond (decide ((aM a (toNat b))>57)) (m2 b (a.size:Int) (cond ((aM a (toNat b)) != 45) bT (J (.p0 a (i64.wrap (b+1)))))) (J (.p0 a (i64.wrap (b+1)))))))) (J (.p0 a (i64.wrap (b+1)))))))) nP)
def start (J:Pt->aq)(x0:bE):aq:=(call (Z4.R ((x0.size:Int),1,8)) fun v1=>(cond (!v1) bT (uh (decide ((0:Int)<(x0.size:Int))) (cond ((aM x0 0)==45) bT (uh (decide ((0:Int)<=(i64.wrap ((x0.size:Int) - 1)))) (uh (decide ((i64.wrap ((x0.size:Int) - 1))<(x0.size:Int))) (cond ((aM x0 (toNat (i64.wrap ((x0.size:Int) - 1))))==45) bT (J (.p0 x0 0)))))))))
def live:Nat->Live:=fun i=>match i with | 4=>[(0,none),(3,none)] | _=>[]
def md (a0:bE):Bool:=(bif (!(Z4.md (a0.size:Int) 1 8)) then (false:Bool) else (bif ((aM a0 0)==45) then (false:Bool) else (bif ((aM a0 (toNat (i64.wrap ((a0.size:Int) - 1))))==45) then (false:Bool) else (eg (S:=Unit) (β:=Bool) (fun (i4:Nat) (s6:Unit)=>(cond (decide ((aM a0 i4)<97)) (cond (decide ((aM a0 i4)<48)) (cond ((aM a0 i4) != 45) (.inr (false:Bool)) (.inl ())) (cond (decide ((aM a0 i4)>57)) (cond ((aM a0 i4) != 45) (.inr (false:Bool)) (.inl ())) (.inl ()))) (cond (decide ((aM a0 i4)>122)) (cond (decide ((aM a0 i4)<48)) (cond ((aM a0 i4) != 45) (.inr (false:Bool)) (.inl ())) (cond (decide ((aM a0 i4)>57)) (cond ((aM a0 i4) != 45) (.inr (false:Bool)) (.inl ())) (.inl ()))) (.inl ())))) (fun (s6:Unit)=>(true:Bool)) a0.size 0 ()))))
def gd (a0:bE):Prop:=(a0.size<=(2^22))
def R:=RR gd md
def cm {a0}(h:gd a0):R a0=some (md a0):=dM (a:=a0) h
def cj:=CN [pS] oB RT.dec R
def je (a0)(hg:gd a0):∃n,start (iter step n) a0=ret (md a0):=by
 unfold gd at hg
 have H0:=hg
 unfold start md
 try simp only [SS]
 refine cx (Z4.cm trivial) ?_
 refine oO ret (fun _=>⟨0,rfl⟩) (fun c1=>?_)
 have dc1:=c1
 try simp only [DC] at dc1
 have Dc1:=c1
 try simp [Z4.md] at Dc1
 refine oX (have:=H0;dt) ?_
 refine oO ret (fun _=>⟨0,rfl⟩) (fun c2=>?_)
 have dc2:=c2
 try simp only [DC] at dc2
 refine oX (have:=H0;dt) ?_
 refine oX (have:=H0;dt) ?_
 refine oO ret (fun _=>⟨0,rfl⟩) (fun c3=>?_)
 have dc3:=c3
 try simp only [DC] at dc3
 have Bh5:a0.size<=maxLen:=(by
   have:=H0
   try simp only [maxLen] at *
   omega)
 refine tD (p:=Pt.p0 a0 0) fz ?_
 refine ng (pt:=fun (i4:Nat) (s6:Unit)=>Pt.p0 a0 (i4:Int)) (s:=(():Unit)) (out:=ret) (fun _ _=>True) (fun J i4 s6 h5 hih5=>?_) (fun s6 hih5=>?_) trivial
 ·simp only [step,SS]
  have bb_:=Bh5
  simp only [maxLen] at bb_
  have:=H0
  refine bh.yes (by apply decide_eq_true;omega) ?_
  refine bh.yes bH ?_
  refine bh.yes (bX h5) ?_
  refine bh.bif (fun c7=>?_) (fun c7=>?_)
  ·refine bh.yes bH ?_
   refine bh.yes (bX h5) ?_
   refine bh.bif (fun c8=>?_) (fun c8=>?_)
   ·refine bh.yes bH ?_
    refine bh.yes (bX h5) ?_
    refine bh.bif (fun _=>bh.inr rfl) (fun c9=>?_)
    refine bh.inl trivial ?_
    rw [aN h5 Bh5]
    all_goals exact fz
   ·refine bh.yes bH ?_
    refine bh.yes (bX h5) ?_
    refine bh.bif (fun c10=>?_) (fun c10=>?_)
    ·refine bh.yes bH ?_
     refine bh.yes (bX h5) ?_
     refine bh.bif (fun _=>bh.inr rfl) (fun c11=>?_)
     refine bh.inl trivial ?_
     rw [aN h5 Bh5]
     all_goals exact fz
    ·refine bh.inl trivial ?_
     rw [aN h5 Bh5]
     all_goals exact fz
  ·refine bh.yes bH ?_
   refine bh.yes (bX h5) ?_
   refine bh.bif (fun c12=>?_) (fun c12=>?_)
   ·refine bh.yes bH ?_
    refine bh.yes (bX h5) ?_
    refine bh.bif (fun c13=>?_) (fun c13=>?_)
    ·refine bh.yes bH ?_
     refine bh.yes (bX h5) ?_
     refine bh.bif (fun _=>bh.inr rfl) (fun c14=>?_)
     refine bh.inl trivial ?_
     rw [aN h5 Bh5]
     all_goals exact fz
    ·refine bh.yes bH ?_
     refine bh.yes (bX h5) ?_
     refine bh.bif (fun c15=>?_) (fun c15=>?_)
     ·refine bh.yes bH ?_
      refine bh.yes (bX h5) ?_
      refine bh.bif (fun _=>bh.inr rfl) (fun c16=>?_)
      refine bh.inl trivial ?_
      rw [aN h5 Bh5]
      all_goals exact fz
     ·refine bh.inl trivial ?_
      rw [aN h5 Bh5]
      all_goals exact fz
   ·refine bh.inl trivial ?_
    rw [aN h5 Bh5]
    all_goals exact fz
 ·simp only [step,SS]
  have:=H0
  refine tG (by apply decide_eq_false;omega) ?_
  refine ⟨0,?_⟩
  all_goals exact fz
def aP:pW 18 cj:=L1 55 pid pU pF live step start mix cB je (.cons Z4.aP .nil) Try.func18
end Z5
namespace Z6
inductive Pt where
 | p0 (a:aA) (b:Int)
 | p1 (a:aA) (b c:Int)
def pid:Pt->Nat
 | .p0 ..=>2
 | .p1 ..=>7
def pU:Pt->List V
 | .p0 a b=>[.sl none 42 a,.int .i64 b]
 | .p1 a b c=>[.sl none 42 a,.int .i64 b,.int .i64 c]
def pF:Pt->List af
 | .p0 a b=>[]
 | .p1 a b c=>[]
def step (J:Pt->aq):Pt->aq
 | .p0 a b=>(cond (decide (b<(a.length:Int))) (m2 b (a.length:Int) (call (Z5.R ((aa.at a (toNat b)).fName)) fun v1=>(cond (!v1) bT (m2 b (a.length:Int) (call (Z4.R ((aa.at a (toNat b)).bG,0,2147483646)) fun v2=>(cond (!v2) bT (J (.p1 a b 0)))))))) (ret ((decide ((a.length:Int)<=3)):Bool)))
 | .p1 a b c=>(cond (decide (c<b)) (m2 c (a.length:Int) (m2 b (a.length:Int) (cond ((aa.at a (toNat c)).fName==(aa.at a (toNat b)).fName) bT (J (.p1 a b (i64.wrap (c+1))))))) (J (.p0 a (i64.wrap (b+1)))))
def start (J:Pt->aq)(x0:aA):aq:=J (.p0 x0 0)
def live:Nat->Live:=fun i=>match i with | 2=>[(0,none),(3,none)] | 7=>[(0,none),(3,none),(4,none)] | _=>[]
def nq (a:List aa)(b c m:Nat):Bool:=(List.range' c m).any fun k=>(a.getD k aa.zero).fName==(a.getD b aa.zero).fName
def kD (p q:aa->Bool)(a:List aa)(c m:Nat):Bool:=(List.range' c m).all fun b=>p (a.getD b aa.zero)&&(q (a.getD b aa.zero)&&!(nq a b 0 b))
def qz (a:List aa)(b c m:Nat):nq a b c (m+1)=((a.getD c aa.zero).fName==(a.getD b aa.zero).fName||nq a b (c+1) m):=by simp [nq,List.range'_succ]
def lz (p q:aa->Bool)(a:List aa)(c m:Nat):kD p q a c (m+1)=((p (a.getD c aa.zero)&&(q (a.getD c aa.zero)&&!(nq a c 0 c)))&&kD p q a (c+1) m):=by simp [kD,List.range'_succ]
def md (a0:List aa):Bool:=kD (fun y=>Z5.md y.fName) (fun y=>Z4.md y.bG 0 2147483646) a0 0 a0.length&&decide ((a0.length:Int)<=3)
def gd (a0:List aa):Prop:=mG (2^21) (fun y:aa=>aa.Sm (2^21) y) a0
def R:=RR gd md
def cm {a0}(h:gd a0):R (a0.map aa.row)=some (md a0):=dM (a:=a0) h
def cj:=CN [pL 42] oB RT.dec R
def je (a0)(hg:gd a0):∃n,start (iter step n) (a0.map aa.row)=ret (md a0):=by
 unfold gd at hg
 have hl:=hg.1
 have inner:∀(m b c:Nat) (r:Bool),c+m=b->b<a0.length->(∃n,iter step n (Pt.p0 (a0.map aa.row) ((b+1:Nat):Int))=ret r)->∃n,iter step n (Pt.p1 (a0.map aa.row) (b:Int) (c:Int))=ret (cond (nq a0 b c m) false r):=by
  intro m
  induction m with
  | zero=>
   intro b c r hcm hb ⟨n,hn⟩
   refine ⟨n+1,?_⟩
   show step (iter step n) _=_
   simp only [step,SS]
   refine qV (decide_eq_false (by omega)) ?_
   rw [show i64.wrap ((b:Int)+1)=((b+1:Nat):Int) by rw [wi _ (by omega)];omega]
   rw [hn];rfl
  | succ m ih=>
   intro b c r hcm hb hk
   obtain ⟨n,hn⟩:=ih b (c+1) r (by omega) hb hk
   refine ⟨n+1,?_⟩
   show step (iter step n) _=_
   simp only [step,SS]
   refine cG (decide_eq_true (by omega)) (cG (decide_eq_true (by omega)) (cG (decide_eq_true (by omega)) (cG (decide_eq_true (by omega)) (cG (decide_eq_true (by omega)) ?_))))
   rw [qz]
   try simp only [Int.toNat_natCast]
   cases (a0.getD c aa.zero).fName==(a0.getD b aa.zero).fName
   ·simp only [ak,Bool.false_or]
    rw [show i64.wrap ((c:Int)+1)=((c+1:Nat):Int) by rw [wi _ (by omega)];omega]
    exact hn
   ·rfl
 have outer:∀(m b:Nat),b+m=a0.length->∃n,iter step n (Pt.p0 (a0.map aa.row) (b:Int))=ret (kD (fun y=>Z5.md y.fName) (fun y=>Z4.md y.bG 0 2147483646) a0 b m&&decide ((a0.length:Int)<=3)):=by
  intro m
  induction m with
  | zero=>
   intro b hb
   refine ⟨1,?_⟩
   show step (iter step 0) _=_
   simp only [step,SS]
   refine qV (decide_eq_false (by simp;omega)) ?_
   simp [kD]
  | succ m ih=>
   intro b hb
   obtain ⟨n,hn⟩:=inner b b 0 _ (by omega) (by omega) (ih (b+1) (by omega))
   refine ⟨n+1,?_⟩
   show step (iter step n) _=_
   simp only [step,SS]
   refine cG (decide_eq_true (by simp;omega)) (cG (decide_eq_true (by omega)) (cG (decide_eq_true (by simp;omega)) ?_))
   rw [lz]
   try simp only [Int.toNat_natCast]
   refine ct (Z5.cm (le_trans (mG.getD (z:=aa.zero) hg (show b<a0.length by omega)) (by decide))) ?_
   cases Z5.md (a0.getD b aa.zero).fName
   ·rfl
   ·simp only [Bool.not_true,ak,Bool.true_and]
    refine cG (decide_eq_true (by omega)) (cG (decide_eq_true (by simp;omega)) ?_)
    refine ct (Z4.cm trivial) ?_
    cases Z4.md (a0.getD b aa.zero).bG 0 2147483646
    ·rfl
    ·simp only [Bool.not_true,ak,Bool.true_and]
     have hn':=hn
     rw [show ((0:Nat):Int)=0 from rfl] at hn'
     rw [hn']
     cases nq a0 b 0 b
     ·simp
     ·simp
 obtain ⟨n,hn⟩:=outer a0.length 0 (by omega)
 exact ⟨n,hn⟩
def aP:pW 6 cj:=L1 46 pid pU pF live step start mix cB je (.cons Z5.aP (.cons Z4.aP .nil)) Try.func6
end Z6
namespace Z7
def F (x0 x1 x2:Int):aq:=(cond (decide (x1<=x0)) (ret ((decide (x0<=x2)):Bool)) bT)
def md (a0 a1 a2:Int):Bool:=(cond (decide (a1<=a0)) ((decide (a0<=a2)):Bool) (false:Bool))
def gd (a0 a1 a2:Int):Prop:=True
def R:=RR (p3 gd) (u3 md)
def cm {a0 a1 a2}(h:gd a0 a1 a2):R (a0,a1,a2)=some (md a0 a1 a2):=dM (a:=(a0,a1,a2)) h
def cj:=CN [pI,pI,pI] oB RT.dec R
def je (a0)(a1)(a2)(hg:gd a0 a1 a2):F a0 a1 a2=ret (md a0 a1 a2):=by
 unfold F md
 try simp only [SS]
 refine lH ret (fun c1=>?_) (fun _=>rfl)
 all_goals exact fz
def aP:pW 35 cj:=W3 15 F mix cB je .nil Try.func35
def br (a0 a1 a2:Int):md a0 a1 a2=Z4.md a0 a1 a2:=by
 unfold md Z4.md
 first | rfl | (rw [Bool.eq_iff_iff];simp)
end Z7
namespace Z8
inductive Pt where
 | p0 (a:bE) (b c:Int)
def pid:Pt->Nat
 | .p0 ..=>2
def pU:Pt->List V
 | .p0 a b c=>[.str a,.int .i64 b,.int .i64 c]
def pF:Pt->List af
 | .p0 a b c=>[]
def step (J:Pt->aq):Pt->aq
 | .p0 a b c=>(cond (decide (c<b)) (m2 c (a.size:Int) (cond (decide ((aM a (toNat c))>=97)) (cond (decide ((aM a (toNat c))<=122)) (J (.p0 a b (i64.wrap (c+1)))) (cond (decide ((aM a (toNat c))>=48)) (cond (decide ((aM a (toNat c))<=57)) (J (.p0 a b (i64.wrap (c+1)))) (cond ((aM a (toNat c))==45) (cond (decide (c>0)) (cond (!(decide (c<(i64.wrap ((a.size:Int) - 1))))) bT (J (.p0 a b (i64.wrap (c+1))))) bT) bT)) (cond ((aM a (toNat c))==45) (cond (decide (c>0)) (cond (!(decide (c<(i64.wrap ((a.size:Int) - 1))))) bT (J (.p0 a b (i64.wrap (c+1))))) bT) bT))) (cond (decide ((aM a (toNat c))>=48)) (cond (decide ((aM a (toNat c))<=57)) (J (.p0 a b (i64.wrap (c+1)))) (cond ((aM a (toNat c))==45) (cond (decide (c>0)) (cond (!(decide (c<(i64.wrap ((a.size:Int) - 1))))) bT (J (.p0 a b (i64.wrap (c+1))))) bT) bT)) (cond ((aM a (toNat c))==45) (cond (decide (c>0)) (cond (!(decide (c<(i64.wrap ((a.size:Int) - 1))))) bT (J (.p0 a b (i64.wrap (c+1))))) bT) bT)))) (call (Z7.R ((a.size:Int),1,8)) fun v1=>ret (v1:Bool)))
def start (J:Pt->aq)(x0:bE):aq:=J (.p0 x0 (x0.size:Int) 0)
def live:Nat->Live:=fun i=>match i with | 2=>[(0,none),(6,none),(7,none)] | _=>[]
def md (a0:bE):Bool:=(eg (S:=Unit) (β:=Bool) (fun (i1:Nat) (s3:Unit)=>(cond (decide ((aM a0 i1)>=97)) (cond (decide ((aM a0 i1)<=122)) (.inl ()) (cond (decide ((aM a0 i1)>=48)) (cond (decide ((aM a0 i1)<=57)) (.inl ()) (cond ((aM a0 i1)==45) (cond (decide ((i1:Int)>0)) (cond (!(decide ((i1:Int)<(i64.wrap ((a0.size:Int) - 1))))) (.inr (false:Bool)) (.inl ())) (.inr (false:Bool))) (.inr (false:Bool)))) (cond ((aM a0 i1)==45) (cond (decide ((i1:Int)>0)) (cond (!(decide ((i1:Int)<(i64.wrap ((a0.size:Int) - 1))))) (.inr (false:Bool)) (.inl ())) (.inr (false:Bool))) (.inr (false:Bool))))) (cond (decide ((aM a0 i1)>=48)) (cond (decide ((aM a0 i1)<=57)) (.inl ()) (cond ((aM a0 i1)==45) (cond (decide ((i1:Int)>0)) (cond (!(decide ((i1:Int)<(i64.wrap ((a0.size:Int) - 1))))) (.inr (false:Bool)) (.inl ())) (.inr (false:Bool))) (.inr (false:Bool)))) (cond ((aM a0 i1)==45) (cond (decide ((i1:Int)>0)) (cond (!(decide ((i1:Int)<(i64.wrap ((a0.size:Int) - 1))))) (.inr (false:Bool)) (.inl ())) (.inr (false:Bool))) (.inr (false:Bool)))))) (fun (s3:Unit)=>((Z7.md (a0.size:Int) 1 8):Bool)) a0.size 0 ())
def gd (a0:bE):Prop:=(a0.size<=(2^22))
def R:=RR gd md
def cm {a0}(h:gd a0):R a0=some (md a0):=dM (a:=a0) h
def cj:=CN [pS] oB RT.dec R
def je (a0)(hg:gd a0):∃n,start (iter step n) a0=ret (md a0):=by
 unfold gd at hg
 have H0:=hg
 unfold start md
 try simp only [SS]
 have Bh2:a0.size<=maxLen:=(by
   have:=H0
   try simp only [maxLen] at *
   omega)
 refine tD (p:=Pt.p0 a0 (a0.size:Int) 0) fz ?_
 refine ng (pt:=fun (i1:Nat) (s3:Unit)=>Pt.p0 a0 (a0.size:Int) (i1:Int)) (s:=(():Unit)) (out:=ret) (fun _ _=>True) (fun J i1 s3 h2 hih2=>?_) (fun s3 hih2=>?_) trivial
 ·simp only [step,SS]
  have bb_:=Bh2
  simp only [maxLen] at bb_
  have:=H0
  refine bh.yes (by apply decide_eq_true;omega) ?_
  refine bh.yes bH ?_
  refine bh.yes (bX h2) ?_
  refine bh.bif (fun c4=>?_) (fun c4=>?_)
  ·refine bh.bif (fun c5=>?_) (fun c5=>?_)
   ·refine bh.inl trivial ?_
    rw [aN h2 Bh2]
    all_goals exact fz
   ·refine bh.bif (fun c6=>?_) (fun c6=>?_)
    ·refine bh.bif (fun c7=>?_) (fun c7=>?_)
     ·refine bh.inl trivial ?_
      rw [aN h2 Bh2]
      all_goals exact fz
     ·refine bh.bif (fun c8=>?_) (fun _=>bh.inr rfl)
      refine bh.bif (fun c9=>?_) (fun _=>bh.inr rfl)
      refine bh.bif (fun _=>bh.inr rfl) (fun c10=>?_)
      refine bh.inl trivial ?_
      rw [aN h2 Bh2]
      all_goals exact fz
    ·refine bh.bif (fun c11=>?_) (fun _=>bh.inr rfl)
     refine bh.bif (fun c12=>?_) (fun _=>bh.inr rfl)
     refine bh.bif (fun _=>bh.inr rfl) (fun c13=>?_)
     refine bh.inl trivial ?_
     rw [aN h2 Bh2]
     all_goals exact fz
  ·refine bh.bif (fun c14=>?_) (fun c14=>?_)
   ·refine bh.bif (fun c15=>?_) (fun c15=>?_)
    ·refine bh.inl trivial ?_
     rw [aN h2 Bh2]
     all_goals exact fz
    ·refine bh.bif (fun c16=>?_) (fun _=>bh.inr rfl)
     refine bh.bif (fun c17=>?_) (fun _=>bh.inr rfl)
     refine bh.bif (fun _=>bh.inr rfl) (fun c18=>?_)
     refine bh.inl trivial ?_
     rw [aN h2 Bh2]
     all_goals exact fz
   ·refine bh.bif (fun c19=>?_) (fun _=>bh.inr rfl)
    refine bh.bif (fun c20=>?_) (fun _=>bh.inr rfl)
    refine bh.bif (fun _=>bh.inr rfl) (fun c21=>?_)
    refine bh.inl trivial ?_
    rw [aN h2 Bh2]
    all_goals exact fz
 ·simp only [step,SS]
  have:=H0
  refine tG (by apply decide_eq_false;omega) ?_
  refine cx (Z7.cm trivial) ?_
  refine ⟨0,?_⟩
  all_goals exact fz
def aP:pW 21 cj:=L1 47 pid pU pF live step start mix cB je (.cons Z7.aP .nil) Try.func21
def br (a0:bE):md a0=Z5.md a0:=by
 unfold md Z5.md
 by_cases hl:1<=a0.size/\a0.size<=8
 ·have e1:Z4.md (a0.size:Int) 1 8=true:=by simp [Z4.md];omega
  simp only [Z7.br,e1]
  have ew:i64.wrap ((a0.size:Int) - 1)=((a0.size - 1:Nat):Int):=by
   rw [Go.IntWalk.i64_in _ (by omega)];omega
  simp only [ew,eo]
  rw [Bool.eq_iff_iff]
  rw [jU (fun i=>(97<=aM a0 i/\aM a0 i<=122)∨(48<=aM a0 i/\aM a0 i<=57)∨(aM a0 i=45/\0<i/\i<a0.size - 1)) (fun i hi h=>by simp;grind) (fun i hi h=>by simp;grind)]
  have e2:=jU (n:=a0.size) (f:=fun (i4:Nat) (s6:Unit)=>(cond (decide ((aM a0 i4)<97)) (cond (decide ((aM a0 i4)<48)) (cond ((aM a0 i4) != 45) (.inr (false:Bool)) (.inl ())) (cond (decide ((aM a0 i4)>57)) (cond ((aM a0 i4) != 45) (.inr (false:Bool)) (.inl ())) (.inl ()))) (cond (decide ((aM a0 i4)>122)) (cond (decide ((aM a0 i4)<48)) (cond ((aM a0 i4) != 45) (.inr (false:Bool)) (.inl ())) (cond (decide ((aM a0 i4)>57)) (cond ((aM a0 i4) != 45) (.inr (false:Bool)) (.inl ())) (.inl ()))) (.inl ())))) (t:=fun _=>true)
   (fun i=>(97<=aM a0 i/\aM a0 i<=122)∨(48<=aM a0 i/\aM a0 i<=57)∨aM a0 i=45) (fun i hi h=>by simp;grind) (fun i hi h=>by simp;grind)
  have e3:∀b c d:Bool,(cond (!true) false (bif b then false else bif c then false else d))=true↔b=false/\c=false/\d=true:=by intro b c d;cases b<;>cases c<;>simp
  rw [e3,e2]
  simp only [beq_eq_false_iff_ne,ne_eq,and_true]
  constructor
  ·intro h
   refine ⟨fun h0=>?_,fun h0=>?_,fun i hi=>?_⟩
   ·have:=h 0 (by omega);omega
   ·have:=h (a0.size - 1) (by omega);omega
   ·have:=h i hi;omega
  ·intro ⟨h1,h2,h3⟩ i hi
   have:=h3 i hi
   by_cases h0:i=0
   ·subst h0;omega
   ·by_cases h9:i=a0.size - 1
    ·subst h9;omega
    ·omega
 ·have e1:Z4.md (a0.size:Int) 1 8=false:=by simp [Z4.md];omega
  simp only [Z7.br,e1]
  refine iJ ?_ _ _ _
  intro i s b h
  revert h
  simp only [Bool.cond_eq_ite]
  repeat' split
  all_goals (intro h;first | (cases h;rfl) | cases h)
end Z8
namespace Z9
def F (x0:Int):aq:=(call (Z7.R (x0,0,2147483646)) fun v1=>ret (v1:Bool))
def md (a0:Int):Bool:=((Z7.md a0 0 2147483646):Bool)
def gd (a0:Int):Prop:=True
def R:=RR gd md
def cm {a0}(h:gd a0):R a0=some (md a0):=dM (a:=a0) h
def cj:=CN [pI] oB RT.dec R
def je (a0)(hg:gd a0):F a0=ret (md a0):=by
 unfold F md
 try simp only [SS]
 refine ct (Z7.cm trivial) ?_
 all_goals exact fz
def aP:pW 22 cj:=W1 5 F mix cB je (.cons Z7.aP .nil) Try.func22
end Z9
namespace Z10
open Go.RowKit Go.Maps Go.WideMaps
def u9:Try.prog.underlying 9=some .string:=by kernel_rfl
def u4:Try.prog.underlying 4=some .bool:=by kernel_rfl
def vq:Try.prog.underlying 45=some (.map 9 4):=by kernel_rfl
def uS:Keyed Try.prog 9:=string_keyed u9
def uw (w:World):(zeroValue 4).run Try.prog w=.ok (.bool false) w:=by kernel_rfl
def mF {w w':World}(h:Fr w w' (fun _=>False)){a:Addr}{v:Value}(hc:w.cell? a=some v):w'.cell? a=some v:=by
 have hlt:a.block<w.heap.size:=block_lt_of_cell hc
 rw [World.cell?_of_block (h.block _ hlt (fun h=>h))];exact hc
def gJ {w w':World}(h:Fr w w' (fun _=>False)):w.grownBy w' none:=⟨h.os,h.tape,h.output,h.size,fun b hb _=>h.block b hb (fun h=>h)⟩
def label (s:bE)(hs:s.size<=2^22)(w:World):Calls Try.prog 21 #[.string s] w fun e w'=>e=.returned (.bool (Z8.md s))/\Fr w w' (fun _=>False):=by
 refine (Z8.aP.2.2 [.str s] [.bool (Z8.md s)] w [.string s] (fun _=>False) ?_ (.cons rfl .nil)).mono fun e w' ⟨rv,A',h1,h2,_,_,_,h3⟩=>?_
 ·show (Z8.R s).map RT.enc=_
  rw [Z8.cm hs];rfl
 ·have h4:rv=.bool (Z8.md s):=h3
  rw [h1,h4];exact ⟨rfl,h2⟩
def tK (n:Int)(w:World):Calls Try.prog 22 #[.int .i64 n] w fun e w'=>e=.returned (.bool (Z9.md n))/\Fr w w' (fun _=>False):=by
 refine (Z9.aP.2.2 [.int n] [.bool (Z9.md n)] w [.int .i64 n] (fun _=>False) ?_ (.cons rfl .nil)).mono fun e w' ⟨rv,A',h1,h2,_,_,_,h3⟩=>?_
 ·show (Z9.R n).map RT.enc=_
  rw [Z9.cm trivial];rfl
 ·have h4:rv=.bool (Z9.md n):=h3
  rw [h1,h4];exact ⟨rfl,h2⟩
def Sn (a:List aa):Nat->DataW Unit
 | 0=>.map []
 | k+1=>(Sn a k).put (.string (a.getD k aa.zero).fName.data.toList) (.lit (.bool true))
def rS (a:List aa):∀k,IsMap (Sn a k)
 | 0=>isMap_empty
 | k+1=>(rS a k).put _ _
def tA (a:List aa)(s:bE):∀k,(Sn a k).atKey (.string s.data.toList) (.lit (.bool false))=.lit (.bool ((List.range k).any fun j=>(a.getD j aa.zero).fName==s))
 | 0=>rfl
 | k+1=>by
  unfold Sn
  by_cases h:(a.getD k aa.zero).fName=s
  ·subst h
   rw [atKey_put_same (rS a k) (k:=.string _) (by unfold WideAt.IsKeyLit;trivial)]
   simp [List.range_succ]
  ·rw [atKey_put_other (fun e=>h (by injection e with e;exact (ByteArray.ext (Array.ext' e)).symm)),tA a s k]
   have h':((a.getD k aa.zero).fName==s)=false:=by
    cases hb:((a.getD k aa.zero).fName==s) with
    | false=>rfl
    | true=>exact (h (cV.1 (rq ▸ hb))).elim
   rw [List.range_succ,List.any_append,List.any_cons,List.any_nil,h',Bool.or_false,Bool.or_false]
def sC {v:Value}{z:DataW Unit×List MemPlace}(h:plainElem Try.prog 4 v=some z):∃x,v=.bool x/\z=(.lit (.bool x),[]):=by
 unfold plainElem at h
 rw [u4] at h
 split at h
 ·cases h;exact ⟨_,rfl,rfl⟩
 ·rename_i h1;cases h1
 ·rename_i h1;cases h1
 ·cases h
def key (s:bE)(h:s.size<=maxLen):keyOf Try.prog 9 (.string s)=some (.string s.data.toList):=keyOf_string_mk u9 h
def look {W:World}{b n:Nat}{D:DataW Unit}{s:bE}{x:Bool}(h:W.ownsMap Try.prog 9 (plainElem Try.prog 4) b n D)(hs:s.size<=maxLen)(hat:D.atKey (.string s.data.toList) (.lit (.bool false))=.lit (.bool x)):(Instr.lookup 45 (.map (some b)) (.string s) false).run Try.prog W=.ok (.bool x) W:=by
 obtain ⟨v,ps,hrun,hv⟩:=h.lookup uS vq (uw W) (plainElem_bool u4 false) (key s hs)
 obtain ⟨y,rfl,hy⟩:=sC hv
 rw [hat] at hy
 injection hy with hy
 injection hy with hy
 injection hy with hy
 rw [hrun,hy]
def md (a0:List aa):Bool:=Z6.kD (fun y=>Z8.md y.fName) (fun y=>Z9.md y.bG) a0 0 a0.length&&decide ((a0.length:Int)<=3)
set_option maxHeartbeats 4000000 in
set_option maxRecDepth 1000000 in
def qh (A:Option Addr)(c:Nat)(w:World):Calls Try.prog 8 #[.slice A 0 c] w fun e w'=>e=.returned (.bool true)/\Fr w w' (fun _=>False):=by
 have hmm:=@run_makeMap Try.prog
 go_enter Try.func8,Try.ntmps8
 go_wp2
 refine wp_loop_rounds 1 ?_
 rw [rounds_succ]
 go_wp2
 go_ret
 exact ⟨rfl,(Fr.refl _ _).alloc _⟩
set_option maxHeartbeats 4000000 in
set_option maxRecDepth 1000000 in
def rJ (b off n c:Nat)(xs:List aa)(w:World)(hn:xs.length=n)(h0:0<n)(hnc:n<=c)(hb:b<w.heap.size)(hsm:mG (2^21) (fun y:aa=>aa.Sm (2^21) y) xs)
  (hc:∀k,k<n->w.cell? ⟨b,off+k*2,none⟩=some (.string (xs.getD k aa.zero).fName)/\w.cell? ⟨b,off+k*2+1,none⟩=some (.int .i64 (xs.getD k aa.zero).bG)) :
  Calls Try.prog 8 #[.slice (some ⟨b,off,none⟩) n c] w fun e w'=>e=.returned (.bool (md xs))/\Fr w w' (fun _=>False):=by
 have hmm:=@run_makeMap Try.prog
 have hl:=hsm.1
 go_enter Try.func8,Try.ntmps8
 go_wp2
 go_loopw [9] (fun i wr=>∃k:Nat,k<=n/\i=.int .i64 k/\wr.ownsMap Try.prog 9 (plainElem Try.prog 4) w.heap.size k (Sn xs k)/\Fr w wr (fun _=>False)/\w.heap.size<wr.heap.size/\
   md xs=(Z6.kD (fun y=>Z8.md y.fName) (fun y=>Z9.md y.bG) xs k (n - k)&&decide ((n:Int)<=3)))
  (fun i _=>n - (intOf i).toNat)
 case atStart=>
  refine ⟨0,zero_le _,rfl,World.ownsMap_made _ _ _ _,(Fr.refl _ _).alloc _,by simp,?_⟩
  unfold md
  rw [hn,Nat.sub_zero]
 case round=>
  obtain ⟨k,hk,rfl,hown,hF,hsz,hmd⟩:=hrel
  by_cases hkn:k<n
  ·have hc1:wr.cell? ⟨b,off+k*2,none⟩=some (.string (xs.getD k aa.zero).fName):=mF hF (hc k hkn).1
   have hc2:wr.cell? ⟨b,off+k*2+1,none⟩=some (.int .i64 (xs.getD k aa.zero).bG):=mF hF (hc k hkn).2
   have hs:(xs.getD k aa.zero).fName.size<=2^21:=mG.getD (z:=aa.zero) hsm (by omega)
   have hall:Z6.kD (fun y=>Z8.md y.fName) (fun y=>Z9.md y.bG) xs k (n - k)=((Z8.md (xs.getD k aa.zero).fName&&(Z9.md (xs.getD k aa.zero).bG&&!((List.range k).any fun j=>(xs.getD j aa.zero).fName==(xs.getD k aa.zero).fName)))&&Z6.kD (fun y=>Z8.md y.fName) (fun y=>Z9.md y.bG) xs (k+1) (n - (k+1))):=by
    rw [show n - k=(n - (k+1))+1 by omega,Z6.lz]
    unfold Z6.nq
    rw [List.range_eq_range']
   have hat:=tA xs (xs.getD k aa.zero).fName k
   have hSn:Sn xs (k+1)=(Sn xs k).put (.string (xs.getD k aa.zero).fName.data.toList) (.lit (.bool true)):=rfl
   have hsm2:(xs.getD k aa.zero).fName.size<=maxLen:=by simp only [maxLen];omega
   have hlab:=label (xs.getD k aa.zero).fName (by omega)
   have hdig:=tK (xs.getD k aa.zero).bG
   have hkey:=key _ hsm2
   rw [hall] at hmd
   clear hall hc hsm
   generalize (List.range k).any (fun j=>(xs.getD j aa.zero).fName==(xs.getD k aa.zero).fName)=sn at *
   generalize Z8.md (xs.getD k aa.zero).fName=L at *
   generalize Z9.md (xs.getD k aa.zero).bG=G at *
   generalize (xs.getD k aa.zero).fName=s at *
   generalize (xs.getD k aa.zero).bG=z at *
   have hnew:=heap_alloc_new wr (.cells #[.string s,.int .i64 z] 42)
   have hB:∀W,Fr (wr.alloc (.cells #[.string s,.int .i64 z] 42)) W (fun _=>False)->W.cell? ⟨wr.heap.size,0,none⟩=some (.string s)/\W.cell? ⟨wr.heap.size,1,none⟩=some (.int .i64 z):=fun W hW=>
    ⟨mF hW (by rw [cell_of_row _ _ _ _ 42 (0,0) hnew];rfl),mF hW (by rw [cell_of_row _ _ _ _ 42 (0,0) hnew];rfl)⟩
   have hF1:Fr w (wr.alloc (.cells #[.string s,.int .i64 z] 42)) (fun _=>False):=hF.alloc _
   cases L with
   | false=>
    go_wp2_with (first
     | (go_at_call 21;refine (hlab _).mono ?_;rintro e w2 ⟨rfl,hF2⟩)
     | go_in)
    go_ret
    exact ⟨by rw [hmd];rfl,hF1.trans hF2 (fun _ h=>h.elim)⟩
   | true=>
    cases sn with
    | true=>
     go_wp2_with (first
      | (go_at_call 21;refine (hlab _).mono ?_;rintro e w2 ⟨rfl,hF2⟩;have hb2:=hB w2 hF2;have hc0:=hb2.1;have hlk:=look ((hown.alloc _).kept (gJ hF2) (by simp)) hsm2 hat)
      | go_in)
     go_ret
     exact ⟨by rw [hmd];simp,hF1.trans hF2 (fun _ h=>h.elim)⟩
    | false=>
     cases G with
     | false=>
      go_wp2_with (first
       | (go_at_call 21;refine (hlab _).mono ?_;rintro e w2 ⟨rfl,hF2⟩;have hb2:=hB w2 hF2;have hc0:=hb2.1;have hc9:=hb2.2;have hlk:=look ((hown.alloc _).kept (gJ hF2) (by simp)) hsm2 hat)
       | (go_at_call 22;refine (hdig _).mono ?_;rintro e w3 ⟨rfl,hF3⟩)
       | go_in)
      go_ret
      exact ⟨by rw [hmd];simp,(hF1.trans hF2 (fun _ h=>h.elim)).trans hF3 (fun _ h=>h.elim)⟩
     | true=>
      go_wp2_with (first
       | (go_at_call 21;refine (hlab _).mono ?_;rintro e w2 ⟨rfl,hF2⟩;have hb2:=hB w2 hF2;have hc0:=hb2.1;have hc9:=hb2.2;have hlk:=look ((hown.alloc _).kept (gJ hF2) (by simp)) hsm2 hat)
       | (go_at_call 22;refine (hdig _).mono ?_;rintro e w3 ⟨rfl,hF3⟩;have hb3:=hB w3 (hF2.trans hF3 (fun _ h=>h.elim));have hc5:=hb3.1)
       | (at_mapUpdate;refine wpList_mapUpdate_own _ rfl _ _ _ 45 rfl 9 4 uS vq (plainElem (H:=Unit) Try.prog 4) w.heap.size k _ rfl (((hown.alloc _).kept (gJ hF2) (by simp)).kept (gJ hF3) (by simp)) (by unfold maxLen;omega) _ _ _ rfl rfl hkey _ [] (plainElem_bool u4 true) ?_;intro w4 hown4 hgrow4)
       | go_in)
      have hF13:=(hF1.trans hF2 (fun _ h=>h.elim)).trans hF3 (fun _ h=>h.elim)
      go_roundw
      case rel=>
       refine ⟨k+1,by omega,by go_num,by rw [hSn];exact hown4,⟨hgrow4.os.trans hF13.os,hgrow4.tape.trans hF13.tape,hgrow4.output.trans hF13.output,le_trans hF13.size hgrow4.size,fun b hb hn=>(hgrow4.block b (Nat.lt_of_lt_of_le hb hF13.size) (fun e=>by injection e with e;omega)).trans (hF13.block b hb hn)⟩,?_,by rw [hmd];simp⟩
       have:=hF2.size
       have:=hF3.size
       have:=hgrow4.size
       simp at *
       omega
      case measure=>simp [intOf];omega
  ·have hkk:k=n:=by omega
   subst hkk
   go_wp2
   go_ret
   refine ⟨?_,hF⟩
   rw [hmd,Nat.sub_self]
   rfl
def gd (a0:List aa):Prop:=mG (2^21) (fun y:aa=>aa.Sm (2^21) y) a0
def R:aA->Option Bool:=RR gd md
def cm {a0:List aa}(h:gd a0):R (a0.map aa.row)=some (md a0):=dM (a:=a0) h
def cj:gv:=CN [pL 42] oB RT.dec R
def rdStr {T:Nat->List K}{w:World}{Z:Nat->Prop}{v:Value}{l:L}(h:Rd T w Z .str v l):v=.string l.toStr:=by cases h;rfl
def uP {T:Nat->List K}{w:World}{Z:Nat->Prop}{k:IntKind}{v:Value}{l:L}(h:Rd T w Z (.int k) v l):v=.int k l.toInt:=by cases h;rfl
def uc:Ev.cells 42=[.str,gQ]:=by kernel_rfl
def aP:pW 8 cj:=by
 refine ⟨⟨Try.f8,Try.func8,by kernel_rfl,by kernel_rfl⟩,rfl,fun ls r w vs Z hs hf=>?_⟩
 obtain ⟨v,hv,hq⟩:=map_some (show (R (RT.dec ls)).map RT.enc=some r from hs)
 obtain ⟨a,hg,e,hm⟩:=jD (show ofM Im.im gd (fun a=>Im.im (md a)) (RT.dec ls)=some v from hv)
 subst hq
 have hg':mG (2^21) (fun y:aa=>aa.Sm (2^21) y) a:=hg
 have e':a.map aa.row=(ls.headD .hole).az:=e
 cases hf with
 | @cons _ x _ _ hx ht=>
 cases ht
 have hx':Rd Ev.cells w (bl w (A0 Z w) none) (.sl 42) x (.sl (ls.headD .hole).az):=(show V0 Ev.cells w (A0 Z w) (.sl none 42 (ls.headD .hole).az) x from hx).2
 rw [<-e'] at hx'
 obtain ⟨A,n,c,rfl,h1,h2,h3⟩:=hx'.inv
 have hn:a.length=n:=by rw [<-h1];exact (List.length_map ..).symm
 have key:Calls Try.prog 8 #[.slice A n c] w fun e w'=>e=.returned (.bool (md a))/\Fr w w' (fun _=>False):=by
  by_cases h0:0<n
  ·obtain ⟨b,o,vv,rfl,hz,h4,h5⟩:=h3 h0
   rw [uc] at h4 h5
   refine rJ b o n c a w hn h0 h2 hz.2.1 hg' fun k hk=>?_
   have hrow:(L.sl (a.map aa.row)).az.getD k []=aa.row (a.getD k aa.zero):=by
    show (a.map aa.row).getD k []=_
    rw [List.getD_eq_getElem?_getD,List.getElem?_map,List.getElem?_eq_getElem (show k<a.length by omega),List.getD_eq_getElem?_getD,List.getElem?_eq_getElem (show k<a.length by omega)];rfl
   have r0:=h5 k 0 .str hk rfl
   have r1:=h5 k 1 (.int .i64) hk rfl
   rw [hrow] at r0 r1
   have c0:=h4 k 0 .str hk rfl
   have c1:=h4 k 1 (.int .i64) hk rfl
   have e0:vv k 0=.string (a.getD k aa.zero).fName:=rdStr r0
   have e1:vv k 1=.int .i64 (a.getD k aa.zero).bG:=uP r1
   rw [e0] at c0
   rw [e1] at c1
   exact ⟨c0,c1⟩
  ·have hn0:n=0:=by omega
   subst hn0
   have ha:a=[]:=List.length_eq_zero_iff.1 hn
   subst ha
   refine (qh A c w).mono fun e w' ⟨q1,q2⟩=>⟨by rw [q1];rfl,q2⟩
 refine key.mono fun e2 w' ⟨q1,q2⟩=>?_
 refine ⟨_,{ v:=fun _=>Go.undef,N:=fun _ _=>False,al:=fun _=>False,Z:=(A0 Z w).Z },q1,q2,rfl,fun i=>⟨fun h=>h.elim,fun h=>by simp [cj,CN,RP.R,mW] at h⟩,⟨fun _ _ h=>h.elim,fun _ _ _ h=>h.elim,fun _ _=>rfl,fun _ _ h=>h,q2,fun _ _ h=>h.elim,fun b hb=>hb.elim (fun h=>h.elim) fun h=>.inr h,fun j hj=>absurd hj (Nat.not_lt_zero j)⟩,?_⟩
 rw [<-hm]
 exact V0.v2 (v:=.bool (md a)) rfl
def br (a0:List aa):md a0=Z6.md a0:=by
 unfold md Z6.md
 have e1:(fun y:aa=>Z8.md y.fName)=fun y=>Z5.md y.fName:=by funext y;exact Z8.br _
 have e2:(fun y:aa=>Z9.md y.bG)=fun y=>Z4.md y.bG 0 2147483646:=by
  funext y
  unfold Z9.md
  exact Z7.br _ _ _
 rw [e1,e2]
end Z10
namespace Z11
def F (x0 x1:aa):aq:=(cond (!(x0.fName==x1.fName)) bT (cond (x0.bG != x1.bG) bT nP))
def md (a0 a1:aa):Bool:=jZ a0 a1
def gd (a0 a1:aa):Prop:=True
def R:=RR (p2 gd) (u2 md)
def cm {a0 a1}(h:gd a0 a1):R (a0,a1)=some (md a0 a1):=dM (a:=(a0,a1)) h
def cj:=CN [.agg vg,.agg vg] oB RT.dec R
def je (a0)(a1)(hg:gd a0 a1):F a0 a1=ret (md a0 a1):=by
 unfold md
 show (cond (!(a0.fName==a1.fName)) bT (cond (a0.bG != a1.bG) bT nP))=_
 try simp only [bne,tc,bool_beq,rq]
 have e:jZ a0 a1=(jZ a0.fName a1.fName&&(jZ a0.bG a1.bG&&true)):=by
  cases a0;cases a1
  rw [Bool.eq_iff_iff]
  simp only [cV,Bool.and_eq_true,aa.mk.injEq,and_true]
 rw [e]
 refine nh fun _=>?_
 refine nh fun _=>?_
 rfl
def aP:pW 23 cj:=W2 15 F mix cB je .nil Try.func23
end Z11
namespace Z12
inductive Pt where
 | p0 (a b:aA) (c:Int)
def pid:Pt->Nat
 | .p0 ..=>4
def pU:Pt->List V
 | .p0 a b c=>[.sl none 42 a,.sl none 42 b,.int .i64 c]
def pF:Pt->List af
 | .p0 a b c=>[]
def step (J:Pt->aq):Pt->aq
 | .p0 a b c=>(cond (decide (c<(a.length:Int))) (m2 c (a.length:Int) (m2 c (b.length:Int) (call (Z11.R ((aa.at a (toNat c)),(aa.at b (toNat c)))) fun v1=>(cond (!v1) bT (J (.p0 a b (i64.wrap (c+1)))))))) nP)
def start (J:Pt->aq)(x0 x1:aA):aq:=(cond ((x0.length:Int) != (x1.length:Int)) bT (J (.p0 x0 x1 0)))
def live:Nat->Live:=fun i=>match i with | 4=>[(0,none),(1,none),(5,none)] | _=>[]
def pats:List gq:=[.rd (.sl 42),.rd (.sl 42)]
def res:RP:=.one (.rd (.bool))
abbrev E:Env:={ T:=assoc ve,G:=cq [(23,Z11.cj)],nt:=27 }
def step_eq (I:cS)(p:Pt):bM E live I (pid p) (bn Try.f9) (mA (live (pid p)) (pU p) (pF p)) (dw E Try.f9 res)=step (fun q=>I (pid q) (pU q) (pF q)) p:=by
 cases p<;>kernel_rfl
def start_eq (I:cS)(ls:List L):eY E live I (bn Try.f9) (eu pats ls) (dw E Try.f9 res)=start (fun q=>I (pid q) (pU q) (pF q)) (ls.headD .hole).az ((aU 1 ls).headD .hole).az:=by kernel_rfl
def run_eq (n:Nat)(ls:List L):iH E live Try.f9 res n (eu pats ls)=start (iter step n) (ls.headD .hole).az ((aU 1 ls).headD .hole).az:=iw (id:=pid) (vs:=pU) (hs:=pF) (step:=step) (start:=fun J=>start J (ls.headD .hole).az ((aU 1 ls).headD .hole).az) step_eq (fun I=>start_eq I ls) n
def md (a0 a1:List aa):Bool:=jZ a0 a1
def gd (a0 a1:List aa):Prop:=True
def acc (ls:List L):aA×aA:=((ls.headD .hole).az,((aU 1 ls).headD .hole).az)
def R:(aA×aA)->Option Bool:=RR (p2 gd) (u2 md)
def cm {a0 a1}(h:gd a0 a1):R ((a0.map aa.row),(a1.map aa.row))=some (md a0 a1):=dM (a:=(a0,a1)) h
def cj:gv:=CN pats res acc R
def je (a0 a1:List aa)(hg:gd a0 a1)(h0:a0.length<=maxLen)(h1:a1.length<=maxLen):∃n,start (iter step n) (a0.map aa.row) (a1.map aa.row)=ret ((md a0 a1):Bool):=by
 unfold start md
 simp only [List.length_map]
 refine sM (pt:=fun i=>Pt.p0 (a0.map aa.row) (a1.map aa.row) (i:Int)) (fun hl J i h h2=>?_) (fun J=>?_)
 ·simp only [step,MM,List.length_map,bX h,bX h2,bH,ah,eo,aa.mD h,aa.mD h2]
  rw [aN h h0]
  rw [call_eq (Z11.cm (a0:=a0[i]) (a1:=a1[i]) trivial),Z11.md]
  cases jZ a0[i] a1[i]<;>rfl
 ·simp only [step,List.length_map,me,ak]
def aP:pW 9 cj:=VV (run:=fun n x=>start (iter step n) x.1 x.2) mix cB (.cons Z11.aP .nil) Try.func9 (by kernel_rfl) run_eq (fun ls a hl e hg=>je a.1 a.2 hg (by have h:(ls.headD .hole).az.length<=maxLen:=hl.1.len;have e:a.1.map aa.row=(ls.headD .hole).az:=(congrArg (fun x=>x.1) e.symm);rw [<-e] at h;simpa using h) (by have h:((aU 1 ls).headD .hole).az.length<=maxLen:=hl.2.1.len;have e:a.2.map aa.row=((aU 1 ls).headD .hole).az:=(congrArg (fun x=>x.2) e.symm);rw [<-e] at h;simpa using h))
end Z12
namespace Z13
def F (x0:aA):aq:=(call (Z1.R (x0,1048576)) fun v1=>(cond (decide (v1<0)) nP (call (Z3.R x0) fun v2=>(call (Z6.R v2) fun v3=>(call (Z3.R x0) fun v4=>(call (Z10.R v4) fun v5=>(cond (!(v5==v3)) bT (call (Z3.R x0) fun v6=>(call (Z12.R (v4,v6)) fun v7=>(cond (!v7) bT nP))))))))))
def md (a0:List aa):Bool:=true
def gd (a0:List aa):Prop:=(mG maxLen (fun y:aa=>aa.Sm maxLen y) a0)
def R:=RR gd md
def cm {a0}(h:gd a0):R (a0.map aa.row)=some (md a0):=dM (a:=a0) h
def cj:=CN [pL 40] oB RT.dec R
def je (a0)(hg:gd a0):F (a0.map aa.row)=ret (md a0):=by
 unfold md
 show (call (Z1.R ((a0.map aa.row),1048576)) fun v1=>(bif (decide (v1<0)) then nP else (call (Z3.R (a0.map aa.row)) fun v2=>(call (Z6.R v2) fun v3=>(call (Z3.R (a0.map aa.row)) fun v4=>(call (Z10.R v4) fun v5=>(bif (!(v5==v3)) then bT else (call (Z3.R (a0.map aa.row)) fun v6=>(call (Z12.R (v4,v6)) fun v7=>(cond (!v7) bT nP))))))))))=_
 rw [call_eq (Z1.cm (a1:=(1048576:Int)) ⟨hg,by omega,by omega⟩)]
 unfold Z1.md
 by_cases c0:(1048576:Int)<(((uk (fun y:aa=>aa.size y) a0):Nat):Int)
 ·rw [ia c0];rfl
 rw [jo c0,pR (by omega)]
 simp only [ak]
 have s0:mG (2^20) (fun y:aa=>aa.Sm (2^20) y) a0:=(tR (f:=fun y:aa=>aa.size y) (by omega) (fun x hx=>(aa.uq hx)))
 rw [call_eq (Z3.cm (a0:=a0) (s0.mono (by decide) (fun x hx=>(aa.eI (by decide) hx))))]
 try simp only [Z3.md]
 rw [call_eq (Z6.cm (a0:=a0) (by
  have:=And.intro trivial trivial
  unfold Z6.gd
  first | exact (s0.mono (by decide) (fun x hx=>(aa.eI (by decide) hx))) | refine ⟨(s0.mono (by decide) (fun x hx=>(aa.eI (by decide) hx)))⟩))]
 rw [call_eq (Z3.cm (a0:=a0) (s0.mono (by decide) (fun x hx=>(aa.eI (by decide) hx))))]
 try simp only [Z3.md]
 rw [call_eq (Z10.cm (a0:=a0) (by
  have:=And.intro trivial trivial
  unfold Z10.gd
  first | exact (s0.mono (by decide) (fun x hx=>(aa.eI (by decide) hx))) | refine ⟨(s0.mono (by decide) (fun x hx=>(aa.eI (by decide) hx)))⟩))]
 try simp only [Z10.br,bne_self_eq_false,beq_self_eq_true,sV,Bool.not_true,ak]
 rw [call_eq (Z3.cm (a0:=a0) (s0.mono (by decide) (fun x hx=>(aa.eI (by decide) hx))))]
 try simp only [Z3.md]
 rw [call_eq (Z12.cm (a0:=a0) (a1:=a0) trivial)]
 simp only [Z12.md,nA,Bool.not_true,ak]
def aP:pW 3 cj:=W1 27 F mix cB je (.cons Z1.aP (.cons Z3.aP (.cons Z6.aP (.cons Z10.aP (.cons Z12.aP .nil))))) Try.func3
def oN (r:List L)(h:dL Ev.cells [.str,gQ] r):∃x:aa,aa.row x=r/\aa.Sm maxLen x:=by
 obtain ⟨l0,t0,rfl,g0,h1⟩:=h.ox
 obtain ⟨x0,rfl,s0⟩:=tQ g0
 obtain ⟨l1,t1,rfl,g1,h2⟩:=h1.ox
 obtain ⟨x1,rfl⟩:=tI g1
 obtain rfl:=h2.tB
 exact ⟨⟨x0,x1⟩,rfl,s0⟩
def holds (ls:List L)(h:dL Ev.cells ([22].flatMap Ev.cells) ls):cj.sem ls=some [.bool true]:=by
 have hk:[22].flatMap Ev.cells=[.sl 40]:=by kernel_rfl
 rw [hk] at h
 obtain ⟨l0,t0,rfl,g0,h1⟩:=h.ox
 obtain ⟨x0,rfl,s0⟩:=td (show Ev.cells 40=[.str,gQ] from by kernel_rfl) oN g0
 obtain rfl:=h1.tB
 show (R (x0.map aa.row)).map RT.enc=_
 rw [cm s0]
 rfl
end Z13
end Go.DM
end
