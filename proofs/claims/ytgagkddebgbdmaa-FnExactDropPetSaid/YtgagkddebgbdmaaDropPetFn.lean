/- What the functions compute that the law reaches, and that the law returns true. Conditions: none. -/
import Derived.Test.YtgagkddebgbdmaaDropPetTy
import Derived.Test.YtgagkddebgbdmaaProg
import Derived.Lib.AppendZerosOnto
import Derived.Lib.Bytealg
import Derived.Laws.Externs
import Derived.Lib.Walk
import Derived.Lib.Hide
import Derived.Lib.Strings
import Derived.WalkKit
import Derived.Deep.RegionLaw
import Derived.Lib.SliceRun
import Derived.Laws.IdiomCopy
import Derived.Shelf.RegionOpenPlain
set_option linter.all false
set_option maxRecDepth 100000
noncomputable section
namespace Go.DM
open Go.Proofs
open Go.IntKind (i64)
open Int (toNat)
open Nat (le_trans zero_le)
abbrev gv:=K.int .i64
abbrev bf:=ret (false:Bool)
abbrev lT:=ret (true:Bool)
abbrev wT (b:Int):Bool:=Nat.beq (toNat b) (toNat b)&&true
abbrev k7:List K:=[gv,gv,.bool,.int .u8]
abbrev f7:List Lf:=[fI,fI,fB,.rd (.int .u8)]
abbrev k8:List K:=[gv,gv,.bool,.int .u8]
abbrev f8:List Lf:=[fI,fI,fB,.rd (.int .u8)]
abbrev lM:List K:=[.str,.int .u64]
abbrev f13:List Lf:=[fS,.rd (.int .u64)]
abbrev lV:List K:=[.str,.int .u64]
abbrev f14:List Lf:=[fS,.rd (.int .u64)]
abbrev wU:List K:=[.str,gv]
abbrev f39:List Lf:=[fS,fI]
abbrev wV:List K:=[.str,gv]
abbrev f40:List Lf:=[fS,fI]
abbrev wR:List K:=[.str,gv]
abbrev f42:List Lf:=[fS,fI]
abbrev wz:List K:=[.str,gv]
abbrev f49:List Lf:=[fS,fI]
abbrev wu:List K:=[.str,gv]
abbrev f53:List Lf:=[fS,fI]
def vA:List (Nat×TI):=[
 (2,⟨[gv],false,[],8,false⟩),
 (3,⟨[gv],false,[],8,false⟩),
 (4,⟨[.bool],false,[],1,false⟩),
 (5,⟨[.int .u8],false,[],1,false⟩),
 (6,⟨[.int .u8],false,[],1,false⟩),
 (7,⟨k7,true,[(0,2),(1,3),(2,4),(3,6)],24,false⟩),
 (8,⟨k8,true,[(0,2),(1,3),(2,4),(3,6)],24,false⟩),
 (9,⟨[.str],false,[],16,false⟩),
 (10,⟨[.str],false,[],16,false⟩),
 (11,⟨[.str],false,[],16,false⟩),
 (12,⟨[.int .u64],false,[],8,false⟩),
 (13,⟨lM,true,[(0,9),(1,12)],24,false⟩),
 (14,⟨lV,true,[(0,9),(1,12)],24,false⟩),
 (21,⟨[.int .i32],false,[],4,false⟩),
 (22,⟨[.sl 40],false,[],24,false⟩),
 (25,⟨[.sl 42],false,[],24,false⟩),
 (29,⟨[.sl 49],false,[],24,false⟩),
 (31,⟨[.sl 53],false,[],24,false⟩),
 (39,⟨wU,true,[(0,9),(1,3)],24,false⟩),
 (40,⟨wV,true,[(0,9),(1,3)],24,true⟩),
 (42,⟨wR,true,[(0,9),(1,3)],24,true⟩),
 (49,⟨wz,true,[(0,9),(1,3)],24,true⟩),
 (53,⟨wu,true,[(0,9),(1,3)],24,true⟩),
 (61,⟨[.sl 5],false,[],24,false⟩),
 (69,⟨[.int .u32],false,[],4,false⟩),
 (70,⟨[.int .u8],false,[],1,false⟩),
 (71,⟨[.int .u8],false,[],1,false⟩),
 (74,⟨[.int .i32],false,[],4,false⟩),
 (75,⟨[.int .i32],false,[],4,false⟩)]
abbrev Ev:Env:=bh vA
def aX:bW Try.prog vA=true:=by kernel_rfl
def mix:Try.prog.follows .mixedOrders=true:=by kernel_rfl
abbrev jg:=Valid Try.prog Ev
namespace Z0
def F (x0:aa)(x1:Int):aj:=(cond (decide ((i64.wrap (x1 - (x0.fName.size:Int)))<0)) (ret ((-1):Int)) (ret ((i64.wrap (x1 - (x0.fName.size:Int))):Int)))
def md (a0:aa)(a1:Int):Int:=sw (aa.size a0) a1
def gd (a0:aa)(a1:Int):Prop:=(aa.Sm maxLen a0)/\0<=a1/\a1<=1048576
def R:=RR (p2 gd) (u2 md)
def aQ {a0 a1}(h:gd a0 a1):R (a0,a1)=some (md a0 a1):=bM (a:=(a0,a1)) h
def aO:=CN [.agg wz,pI] oI RT.dec R
def cU (a0)(a1)(hg:gd a0 a1):F a0 a1=ret (md a0 a1):=by
 obtain ⟨hs,g0,g1⟩:=hg
 unfold md
 show (cond (decide ((i64.wrap (a1 - (a0.fName.size:Int)))<0)) (ret ((-1):Int)) (ret ((i64.wrap (a1 - (a0.fName.size:Int))):Int)))=_
 rw [qU (left:=a1) (s:=a0.fName.size) (by omega) (by omega) hs]
 by_cases c0:a1 - ((a0.fName.size:Nat):Int)<0
 ·rw [decide_eq_true c0,ah];rw [show sw (aa.size a0) a1=-1 from iU (by unfold aa.size;omega)];try rfl
 rw [decide_eq_false c0,aq]
 rw [show sw (aa.size a0) a1=a1 - ((a0.fName.size:Nat):Int) from by rw [kF (by unfold aa.size;omega)];unfold aa.size;omega]
def ay:jg 24 aO:=W2 13 F mix aX cU .nil Try.func24
end Z0
namespace Z1
inductive Pt where
 | p0 (a:av) (b c:Int)
def pid:Pt->Nat
 | .p0 ..=>5
def gx:Pt->List V
 | .p0 a b c=>[.sl none 49 a,.int .i64 b,.int .i64 c]
def gq:Pt->List af
 | .p0 a b c=>[]
def step (J:Pt->aj):Pt->aj
 | .p0 a b c=>(cond (decide (c<(a.length:Int))) (m2 c (a.length:Int) (call (Z0.R ((aa.at a (toNat c)),b)) fun v1=>(cond (decide (v1<0)) (ret ((-1):Int)) (J (.p0 a v1 (i64.wrap (c+1))))))) (ret (b:Int)))
def start (J:Pt->aj)(x0:av)(x1:Int):aj:=(cond (decide ((i64.wrap (x1 - (x0.length:Int)))<0)) (ret ((-1):Int)) (J (.p0 x0 (i64.wrap (x1 - (x0.length:Int))) 0)))
def live:Nat->Live:=fun i=>match i with | 5=>[(0,none),(1,none),(5,none)] | _=>[]
def md (a0:List aa)(a1:Int):Int:=sw (tS (fun y:aa=>aa.size y) a0) a1
def gd (a0:List aa)(a1:Int):Prop:=(fU maxLen (fun y:aa=>aa.Sm maxLen y) a0)/\0<=a1/\a1<=1048576
def R:=RR (p2 gd) (u2 md)
def aQ {a0 a1}(h:gd a0 a1):R ((a0.map aa.row),a1)=some (md a0 a1):=bM (a:=(a0,a1)) h
def aO:=CN [pL 49,pI] oI RT.dec R
def cU (a0)(a1)(hg:gd a0 a1):∃n,start (iter step n) (a0.map aa.row) a1=ret (md a0 a1):=by
 obtain ⟨hs,g0,g1⟩:=hg
 unfold start md
 simp only [List.length_map]
 refine uk (pt:=fun left i=>Pt.p0 (a0.map aa.row) left (i:Int)) (f:=fun y:aa=>aa.size y) hs.1 (fun J i h left p0 p1=>?_) (fun J left=>?_) g0 g1
 ·simp only [step,MM,List.length_map,bn h,aW,ah,fq,aa.nA h]
  rw [call_eq (Z0.aQ ⟨hs.get h,p0,p1⟩),aE h hs.1]
  unfold Z0.md
  by_cases hc:left<((aa.size (a0[i]):Nat):Int)
  ·rw [iU hc,if_pos hc];rfl
  ·rw [kF hc,if_neg hc,gC (by omega)];rfl
 ·simp only [step,List.length_map,nQ,aq]
def ay:jg 10 aO:=L2 27 pid gx gq live step start mix aX cU (.cons Z0.ay .nil) Try.func10
end Z1
namespace Z2
def F (x0:aa):aj:=ret (x0:aa)
def md (a0:aa):aa:=a0
def gd (a0:aa):Prop:=aa.Sm (2^36) a0
def R:=RR gd md
def aQ {a0}(h:gd a0):R a0=some a0:=bM (a:=a0) h
def aO:=CN [.agg wz] (.agg f53) RT.dec R
def cU (a0)(hg:gd a0):F a0=ret (md a0):=by
 unfold md
 show ret (a0:aa)=_
 rfl
def ay:jg 28 aO:=W1 11 F mix aX cU .nil Try.func28
end Z2
namespace Z3
inductive Pt where
 | p0 (a:av) (b:Int) (c:av)
def pid:Pt->Nat
 | .p0 ..=>3
def gx:Pt->List V
 | .p0 a b c=>[.sl none 49 a,.own 0,.int .i64 b]
def gq:Pt->List af
 | .p0 a b c=>[.row 53 c]
def step (J:Pt->aj):Pt->aj
 | .p0 a b c=>(cond (decide (b<(a.length:Int))) (m2 b (a.length:Int) (call (Z2.R (aa.at a (toNat b))) fun v1=>(m2 b (c.length:Int) (J (.p0 a (i64.wrap (b+1)) (List.set c (toNat b) (aa.enc v1))))))) (ret (c:av)))
def start (J:Pt->aj)(x0:av):aj:=(lR (decide ((0:Int)<=(x0.length:Int))) (lR (decide ((x0.length:Int)<=(x0.length:Int))) (lR (decide ((x0.length:Int)*24<=140737488355328)) (J (.p0 x0 0 (List.replicate (toNat (x0.length:Int)) [L.str ⟨#[]⟩,L.int 0]))))))
def live:Nat->Live:=fun i=>match i with | 3=>[(0,none),(3,none),(4,none)] | _=>[]
def md (a0:List aa):List aa:=a0
def gd (a0:List aa):Prop:=fU (2^36) (fun y:aa=>aa.Sm (2^36) y) a0
def R:=RR gd md
def aQ {a0}(h:gd a0):R (a0.map aa.row)=some (a0.map aa.row):=bM (a:=a0) h
def aO:=CN [pL 49] (oL 53) RT.dec R
def cU (a0)(hg:gd a0):∃n,start (iter step n) (a0.map aa.row)=ret ((md a0).map aa.row):=by
 unfold start md
 simp only [List.length_map]
 refine uh (b:=24) (pt:=fun i c=>Pt.p0 (a0.map aa.row) (i:Int) c) (by have:=hg.1;simp at this;omega) (fun J i h c hc=>?_) (fun J c=>?_)
 ·simp only [step,MM,List.length_map,bn h,aW,ah,fq,aa.nA h,hc]
  rw [call_eq (Z2.aQ (hg.get h))]
  try simp only [hc,bn h,ah]
  rw [aE (n:=a0.length) h (by have:=hg.1;simp only [maxLen];simp at this;omega)]
  rfl
 ·simp only [step,List.length_map,nQ,aq]
def ay:jg 12 aO:=L1 23 pid gx gq live step start mix aX cU (.cons Z2.ay .nil) Try.func12
end Z3
namespace Z4
inductive Pt where
 | p0 (a:av) (b:aA) (c:Int)
def pid:Pt->Nat
 | .p0 ..=>2
def gx:Pt->List V
 | .p0 a b c=>[.sl none 53 a,.str b,.int .i64 c]
def gq:Pt->List af
 | .p0 a b c=>[]
def step (J:Pt->aj):Pt->aj
 | .p0 a b c=>(cond (decide (c<(a.length:Int))) (m2 c (a.length:Int) (cond ((aa.at a (toNat c)).fName==b) (ret (c:Int)) (J (.p0 a b (i64.wrap (c+1)))))) (ret ((-1):Int)))
def start (J:Pt->aj)(x0:av)(x1:aA):aj:=J (.p0 x0 x1 0)
def live:Nat->Live:=fun i=>match i with | 2=>[(0,none),(1,none),(5,none)] | _=>[]
def md (a0:List aa)(a1:aA):Int:=(cO (S:=Unit) (β:=Int) (fun (i1:Nat) (y1:aa) (s3:Unit)=>(cond (y1.fName==a1) (.inr ((i1:Int):Int)) (.inl ()))) (fun (s3:Unit)=>((-1):Int)) 0 a0 ())
def gd (a0:List aa)(a1:aA):Prop:=(fU (2^21) (fun y:aa=>aa.Sm (2^21) y) a0)
def R:=RR (p2 gd) (u2 md)
def aQ {a0 a1}(h:gd a0 a1):R ((a0.map aa.row),a1)=some (md a0 a1):=bM (a:=(a0,a1)) h
def aO:=CN [pL 53,pS] oI RT.dec R
def cU (a0)(a1)(hg:gd a0 a1):∃n,start (iter step n) (a0.map aa.row) a1=ret (md a0 a1):=by
 unfold gd at hg
 have H0:=hg
 unfold start md
 try simp only [SS]
 have Bh2:a0.length<=maxLen:=(by
   have:=(H0).1
   try simp only [maxLen] at *
   omega)
 refine ex_eq (out:=ret) (eR (z:=aa.zero)) ?_
 refine mH (p:=Pt.p0 (a0.map aa.row) a1 0) fz ?_
 refine fm (pt:=fun (i1:Nat) (s3:Unit)=>Pt.p0 (a0.map aa.row) a1 (i1:Int)) (s:=(():Unit)) (out:=ret) (fun _ _=>True) (fun J i1 s3 h2 hih2=>?_) (fun s3 hih2=>?_) trivial
 ·simp only [step,SS]
  have bb_:=Bh2
  simp only [maxLen] at bb_
  have:=(H0).1
  refine aN.yes (by apply decide_eq_true;omega) ?_
  refine aN.yes aW ?_
  refine aN.yes (bn h2) ?_
  refine aN.bif (fun c4=>?_) (fun c4=>?_)
  ·refine aN.inr ?_
   all_goals exact fz
  ·refine aN.inl trivial ?_
   rw [aE h2 Bh2]
   all_goals exact fz
 ·simp only [step,SS]
  have:=(H0).1
  refine mM (by apply decide_eq_false;omega) ?_
  refine ⟨0,?_⟩
  all_goals exact fz
def ay:jg 25 aO:=L2 20 pid gx gq live step start mix aX cU .nil Try.func25
def fa (a0:List aa)(a1:aA):-1<=md a0 a1/\md a0 a1<(a0.length:Int):=by
 unfold md
 refine mJ ?_ _ _
 all_goals
  intro i x s b h
  revert h
  simp only [Bool.cond_eq_ite]
  repeat' split
  all_goals (intro h;first | (cases h;rfl) | cases h)
end Z4
namespace Z5
def F (x0:av):aj:=(lR (pq ((x0.length:Int)*24)) (ret (x0:av)))
def md (a0:List aa):List aa:=a0
def gd (a0:List aa):Prop:=(fU (2^21) (fun y:aa=>aa.Sm (2^21) y) a0)
def R:=RR gd md
def aQ {a0}(h:gd a0):R (a0.map aa.row)=some (a0.map aa.row):=bM (a:=a0) h
def aO:=CN [pL 53] (oL 53) RT.dec R
def cU (a0)(hg:gd a0):F (a0.map aa.row)=ret ((md a0).map aa.row):=by
 unfold gd at hg
 have H0:=hg
 unfold F md
 try simp only [SS]
 refine bR (have:=(H0).1;lm) ?_
 all_goals exact fz
def ay:jg 27 aO:=W1 6 F mix aX cU .nil Try.func27
end Z5
namespace Z6
def F (x0 x1 x2:Int):aj:=(cond (decide (x0>=x1)) (ret ((decide (x0<=x2)):Bool)) bf)
def md (a0 a1 a2:Int):Bool:=(cond (decide (a0>=a1)) ((decide (a0<=a2)):Bool) (false:Bool))
def gd (a0 a1 a2:Int):Prop:=True
def R:=RR (p3 gd) (u3 md)
def aQ {a0 a1 a2}(h:gd a0 a1 a2):R (a0,a1,a2)=some (md a0 a1 a2):=bM (a:=(a0,a1,a2)) h
def aO:=CN [pI,pI,pI] oB RT.dec R
def cU (a0)(a1)(a2)(hg:gd a0 a1 a2):F a0 a1 a2=ret (md a0 a1 a2):=by
 unfold F md
 try simp only [SS]
 refine dM ret (fun c1=>?_) (fun _=>rfl)
 all_goals exact fz
def ay:jg 19 aO:=W3 15 F mix aX cU .nil Try.func19
end Z6
namespace Z7
inductive Pt where
 | p0 (a:aA) (b:Int)
def pid:Pt->Nat
 | .p0 ..=>4
def gx:Pt->List V
 | .p0 a b=>[.str a,.int .i64 b]
def gq:Pt->List af
 | .p0 a b=>[]
def step (J:Pt->aj):Pt->aj
 | .p0 a b=>(cond (decide (b<(a.size:Int))) (m2 b (a.size:Int) (cond (decide ((aV a (toNat b))<97)) (m2 b (a.size:Int) (cond (decide ((aV a (toNat b))<48)) (m2 b (a.size:Int) (cond ((aV a (toNat b)) != 45) bf (J (.p0 a (i64.wrap (b+1)))))) (m2 b (a.size:Int) (cond (decide ((aV a (toNat b))>57)) (m2 b (a.size:Int) (cond ((aV a (toNat b)) != 45) bf (J (.p0 a (i64.wrap (b+1)))))) (J (.p0 a (i64.wrap (b+1)))))))) (m2 b (a.size:Int) (cond (decide ((aV a (toNat b))>122)) (m2 b (a.size:Int) (cond (decide ((aV a (toNat b))<48)) (m2 b (a.size:Int) (cond ((aV a (toNat b)) != 45) bf (J (.p0 a (i64.wrap (b+1)))))) (m2 b (a.size:Int) (cond (decide ((aV a (toNat b))>57)) (m2 b (a.size:Int) (cond ((aV a (toNat b)) != 45) bf (J (.p0 a (i64.wrap (b+1)))))) (J (.p0 a (i64.wrap (b+1)))))))) (J (.p0 a (i64.wrap (b+1)))))))) lT)
def start (J:Pt->aj)(x0:aA):aj:=(call (Z6.R ((x0.size:Int),1,8)) fun v1=>(cond (!v1) bf (lR (decide ((0:Int)<(x0.size:Int))) (cond ((aV x0 0)==45) bf (lR (decide ((0:Int)<=(i64.wrap ((x0.size:Int) - 1)))) (lR (decide ((i64.wrap ((x0.size:Int) - 1))<(x0.size:Int))) (cond ((aV x0 (toNat (i64.wrap ((x0.size:Int) - 1))))==45) bf (J (.p0 x0 0)))))))))
def live:Nat->Live:=fun i=>match i with | 4=>[(0,none),(3,none)] | _=>[]
def md (a0:aA):Bool:=(bif (!(Z6.md (a0.size:Int) 1 8)) then (false:Bool) else (bif ((aV a0 0)==45) then (false:Bool) else (bif ((aV a0 (toNat (i64.wrap ((a0.size:Int) - 1))))==45) then (false:Bool) else (dH (S:=Unit) (β:=Bool) (fun (i4:Nat) (s6:Unit)=>(cond (decide ((aV a0 i4)<97)) (cond (decide ((aV a0 i4)<48)) (cond ((aV a0 i4) != 45) (.inr (false:Bool)) (.inl ())) (cond (decide ((aV a0 i4)>57)) (cond ((aV a0 i4) != 45) (.inr (false:Bool)) (.inl ())) (.inl ()))) (cond (decide ((aV a0 i4)>122)) (cond (decide ((aV a0 i4)<48)) (cond ((aV a0 i4) != 45) (.inr (false:Bool)) (.inl ())) (cond (decide ((aV a0 i4)>57)) (cond ((aV a0 i4) != 45) (.inr (false:Bool)) (.inl ())) (.inl ()))) (.inl ())))) (fun (s6:Unit)=>(true:Bool)) a0.size 0 ()))))
def gd (a0:aA):Prop:=(a0.size<=(2^22))
def R:=RR gd md
def aQ {a0}(h:gd a0):R a0=some (md a0):=bM (a:=a0) h
def aO:=CN [pS] oB RT.dec R
def cU (a0)(hg:gd a0):∃n,start (iter step n) a0=ret (md a0):=by
 unfold gd at hg
 have H0:=hg
 unfold start md
 try simp only [SS]
 refine cx (Z6.aQ trivial) ?_
 refine qP ret (fun _=>⟨0,rfl⟩) (fun c1=>?_)
 have dc1:=c1
 try simp only [DC] at dc1
 have Dc1:=c1
 try simp [Z6.md] at Dc1
 refine qo (have:=H0;dt) ?_
 refine qP ret (fun _=>⟨0,rfl⟩) (fun c2=>?_)
 have dc2:=c2
 try simp only [DC] at dc2
 refine qo (have:=H0;dt) ?_
 refine qo (have:=H0;dt) ?_
 refine qP ret (fun _=>⟨0,rfl⟩) (fun c3=>?_)
 have dc3:=c3
 try simp only [DC] at dc3
 have Bh5:a0.size<=maxLen:=(by
   have:=H0
   try simp only [maxLen] at *
   omega)
 refine mH (p:=Pt.p0 a0 0) fz ?_
 refine fm (pt:=fun (i4:Nat) (s6:Unit)=>Pt.p0 a0 (i4:Int)) (s:=(():Unit)) (out:=ret) (fun _ _=>True) (fun J i4 s6 h5 hih5=>?_) (fun s6 hih5=>?_) trivial
 ·simp only [step,SS]
  have bb_:=Bh5
  simp only [maxLen] at bb_
  have:=H0
  refine aN.yes (by apply decide_eq_true;omega) ?_
  refine aN.yes aW ?_
  refine aN.yes (bn h5) ?_
  refine aN.bif (fun c7=>?_) (fun c7=>?_)
  ·refine aN.yes aW ?_
   refine aN.yes (bn h5) ?_
   refine aN.bif (fun c8=>?_) (fun c8=>?_)
   ·refine aN.yes aW ?_
    refine aN.yes (bn h5) ?_
    refine aN.bif (fun _=>aN.inr rfl) (fun c9=>?_)
    refine aN.inl trivial ?_
    rw [aE h5 Bh5]
    all_goals exact fz
   ·refine aN.yes aW ?_
    refine aN.yes (bn h5) ?_
    refine aN.bif (fun c10=>?_) (fun c10=>?_)
    ·refine aN.yes aW ?_
     refine aN.yes (bn h5) ?_
     refine aN.bif (fun _=>aN.inr rfl) (fun c11=>?_)
     refine aN.inl trivial ?_
     rw [aE h5 Bh5]
     all_goals exact fz
    ·refine aN.inl trivial ?_
     rw [aE h5 Bh5]
     all_goals exact fz
  ·refine aN.yes aW ?_
   refine aN.yes (bn h5) ?_
   refine aN.bif (fun c12=>?_) (fun c12=>?_)
   ·refine aN.yes aW ?_
    refine aN.yes (bn h5) ?_
    refine aN.bif (fun c13=>?_) (fun c13=>?_)
    ·refine aN.yes aW ?_
     refine aN.yes (bn h5) ?_
     refine aN.bif (fun _=>aN.inr rfl) (fun c14=>?_)
     refine aN.inl trivial ?_
     rw [aE h5 Bh5]
     all_goals exact fz
    ·refine aN.yes aW ?_
     refine aN.yes (bn h5) ?_
     refine aN.bif (fun c15=>?_) (fun c15=>?_)
     ·refine aN.yes aW ?_
      refine aN.yes (bn h5) ?_
      refine aN.bif (fun _=>aN.inr rfl) (fun c16=>?_)
      refine aN.inl trivial ?_
      rw [aE h5 Bh5]
      all_goals exact fz
     ·refine aN.inl trivial ?_
      rw [aE h5 Bh5]
      all_goals exact fz
   ·refine aN.inl trivial ?_
    rw [aE h5 Bh5]
    all_goals exact fz
 ·simp only [step,SS]
  have:=H0
  refine mM (by apply decide_eq_false;omega) ?_
  refine ⟨0,?_⟩
  all_goals exact fz
def ay:jg 18 aO:=L1 55 pid gx gq live step start mix aX cU (.cons Z6.ay .nil) Try.func18
def tr {a0:aA}(h:md a0=true):1<=a0.size/\a0.size<=8:=by
 unfold md at h
 cases e:Z6.md (a0.size:Int) 1 8
 ·rw [e] at h;cases h
 ·simp [Z6.md] at e;omega
end Z7
namespace Z8
def F (x0 x1:aA):aj:=(cond (Op.bytesLess x0.toList x1.toList) (ret ((-1):Int)) (cond (!((Op.bytesLess x0.toList x1.toList)||(x0.toList==x1.toList))) (ret (1:Int)) (ret (0:Int))))
def md (a0 a1:aA):Int:=(cond (Op.bytesLess a0.toList a1.toList) ((-1):Int) (cond (!((Op.bytesLess a0.toList a1.toList)||(a0.toList==a1.toList))) (1:Int) (0:Int)))
def gd (a0 a1:aA):Prop:=True
def R:=RR (p2 gd) (u2 md)
def aQ {a0 a1}(h:gd a0 a1):R (a0,a1)=some (md a0 a1):=bM (a:=(a0,a1)) h
def aO:=CN [pS,pS] oI RT.dec R
def cU (a0)(a1)(hg:gd a0 a1):F a0 a1=ret (md a0 a1):=by
 unfold F md
 try simp only [SS]
 refine dM ret (fun _=>rfl) (fun c1=>?_)
 refine dM ret (fun _=>rfl) (fun _=>rfl)
def ay:jg 36 aO:=W2 13 F mix aX cU .nil Try.func36
end Z8
namespace Z9
inductive Pt where
 | p0 (a:av) (b:Int)
def pid:Pt->Nat
 | .p0 ..=>2
def gx:Pt->List V
 | .p0 a b=>[.sl none 53 a,.int .i64 b]
def gq:Pt->List af
 | .p0 a b=>[]
def step (J:Pt->aj):Pt->aj
 | .p0 a b=>(cond (decide (b<(a.length:Int))) (m2 b (a.length:Int) (call (Z7.R ((aa.at a (toNat b)).fName)) fun v1=>(cond (!v1) bf (m2 b (a.length:Int) (call (Z6.R ((aa.at a (toNat b)).eu,0,2147483646)) fun v2=>(cond (!v2) bf (cond (decide (b>0)) (lR (decide ((0:Int)<=(i64.wrap (b - 1)))) (lR (decide ((i64.wrap (b - 1))<(a.length:Int))) (m2 b (a.length:Int) (call (Z8.R ((aa.at a (toNat (i64.wrap (b - 1)))).fName,(aa.at a (toNat b)).fName)) fun v3=>(cond (v3 != (-1)) bf (J (.p0 a (i64.wrap (b+1))))))))) (J (.p0 a (i64.wrap (b+1))))))))))) (ret ((decide ((a.length:Int)<=8)):Bool)))
def start (J:Pt->aj)(x0:av):aj:=J (.p0 x0 0)
def live:Nat->Live:=fun i=>match i with | 2=>[(0,none),(3,none)] | _=>[]
def md (a0:List aa):Bool:=(cO (S:=Unit) (β:=Bool) (fun (i1:Nat) (y1:aa) (s3:Unit)=>(cond (!(Z7.md (y1.fName))) (.inr (false:Bool)) (cond (!(Z6.md (y1.eu) 0 2147483646)) (.inr (false:Bool)) (cond (decide ((i1:Int)>0)) (cond ((Z8.md ((a0.getD (toNat (i64.wrap ((i1:Int) - 1))) aa.zero).fName) (y1.fName)) != (-1)) (.inr (false:Bool)) (.inl ())) (.inl ()))))) (fun (s3:Unit)=>((decide ((a0.length:Int)<=8)):Bool)) 0 a0 ())
def gd (a0:List aa):Prop:=(fU (2^21) (fun y:aa=>aa.Sm (2^21) y) a0)
def R:=RR gd md
def aQ {a0}(h:gd a0):R (a0.map aa.row)=some (md a0):=bM (a:=a0) h
def aO:=CN [pL 53] oB RT.dec R
def cU (a0)(hg:gd a0):∃n,start (iter step n) (a0.map aa.row)=ret (md a0):=by
 unfold gd at hg
 have H0:=hg
 unfold start md
 try simp only [SS]
 have Bh2:a0.length<=maxLen:=(by
   have:=(H0).1
   try simp only [maxLen] at *
   omega)
 refine ex_eq (out:=ret) (eR (z:=aa.zero)) ?_
 refine mH (p:=Pt.p0 (a0.map aa.row) 0) fz ?_
 refine fm (pt:=fun (i1:Nat) (s3:Unit)=>Pt.p0 (a0.map aa.row) (i1:Int)) (s:=(():Unit)) (out:=ret) (fun _ _=>True) (fun J i1 s3 h2 hih2=>?_) (fun s3 hih2=>?_) trivial
 ·simp only [step,SS]
  have bb_:=Bh2
  simp only [maxLen] at bb_
  have:=(H0).1
  refine aN.yes (by apply decide_eq_true;omega) ?_
  refine aN.yes aW ?_
  refine aN.yes (bn h2) ?_
  refine cr (Z7.aQ (le_trans (fU.getD (z:=aa.zero) H0 h2) (by decide))) ?_
  refine aN.bif (fun _=>aN.inr rfl) (fun c4=>?_)
  have dc4:=c4
  try simp only [DC] at dc4
  try have tc4:=Z7.tr (by simpa using c4)
  refine aN.yes aW ?_
  refine aN.yes (bn h2) ?_
  refine cr (Z6.aQ trivial) ?_
  refine aN.bif (fun _=>aN.inr rfl) (fun c5=>?_)
  have dc5:=c5
  try simp only [DC] at dc5
  have Dc5:=c5
  try simp [Z6.md] at Dc5
  refine aN.bif (fun c6=>?_) (fun c6=>?_)
  ·have dc6:=c6
   try simp only [DC] at dc6
   refine aN.yes dt ?_
   refine aN.yes (have:=(H0).1;dt) ?_
   refine aN.yes aW ?_
   refine aN.yes (bn h2) ?_
   refine cr (Z8.aQ trivial) ?_
   refine aN.bif (fun _=>aN.inr rfl) (fun c7=>?_)
   refine aN.inl trivial ?_
   rw [aE h2 Bh2]
   all_goals exact fz
  ·refine aN.inl trivial ?_
   rw [aE h2 Bh2]
   all_goals exact fz
 ·simp only [step,SS]
  have:=(H0).1
  refine mM (by apply decide_eq_false;omega) ?_
  refine ⟨0,?_⟩
  all_goals exact fz
def ay:jg 26 aO:=L1 48 pid gx gq live step start mix aX cU (.cons Z7.ay (.cons Z6.ay (.cons Z8.ay .nil))) Try.func26
end Z9
namespace Z10
def F (x0:av)(x1:aA):aj:=(call (Z4.R (x0,x1)) fun v1=>(cond (decide (v1<0)) (call (Z5.R x0) fun v2=>ret ((v2,false):av×Bool)) (call (Z9.R x0) fun v3=>(cond (!v3) (call (Z5.R x0) fun v4=>ret ((v4,false):av×Bool)) (lR (decide ((0:Int)<=v1)) (lR (decide (v1<=(x0.length:Int))) (call (Z5.R (List.take (toNat (v1 - 0)) (List.drop 0 x0))) fun v5=>(lR (decide ((0:Int)<=(i64.wrap (v1+1)))) (lR (decide ((i64.wrap (v1+1))<=(x0.length:Int))) (lR (decide ((x0.length:Int)<=(x0.length:Int))) (lR (pq (((v5.length:Int)+((List.take (toNat ((x0.length:Int) - (i64.wrap (v1+1)))) (List.drop (toNat (i64.wrap (v1+1))) x0)).length:Int))*24)) (ret (((v5++(List.take (toNat ((x0.length:Int) - (i64.wrap (v1+1)))) (List.drop (toNat (i64.wrap (v1+1))) x0))),true):av×Bool)))))))))))))
def md (a0:List aa)(a1:aA):List aa×Bool:=(cond (decide ((Z4.md a0 a1)<0)) (a0,false) (cond (!(Z9.md a0)) (a0,false) (((List.take (toNat ((Z4.md a0 a1) - 0)) (List.drop 0 a0))++(List.take (toNat ((a0.length:Int) - (i64.wrap ((Z4.md a0 a1)+1)))) (List.drop (toNat (i64.wrap ((Z4.md a0 a1)+1))) a0))),true)))
def gd (a0:List aa)(a1:aA):Prop:=(fU (2^21) (fun y:aa=>aa.Sm (2^21) y) a0)
def R:=RR (p2 gd) (u2 md)
def aQ {a0 a1}(h:gd a0 a1):R ((a0.map aa.row),a1)=some (((md a0 a1).1.map aa.row),(md a0 a1).2):=bM (a:=(a0,a1)) h
def aO:=CN [pL 53,pS] (.fD [(false,[.fr 53]),(false,[fB])]) RT.dec R
def cU (a0)(a1)(hg:gd a0 a1):F (a0.map aa.row) a1=ret (((md a0 a1).1.map aa.row),(md a0 a1).2):=by
 unfold gd at hg
 have H0:=hg
 have hl:=hg.1
 unfold F md
 try simp only [SS]
 refine ct (Z4.aQ H0) ?_
 have fv1_:=Z4.fa a0 a1
 refine dM (fun b:List aa×Bool=>ret (((b.1.map aa.row),b.2):av×Bool)) (fun c1=>?_) (fun c1=>?_)
 ·refine ct (Z5.aQ H0) ?_
  try simp only [SS]
  all_goals exact fz
 ·have dc1:=c1
  try simp only [DC] at dc1
  refine ct (Z9.aQ H0) ?_
  refine dM (fun b:List aa×Bool=>ret (((b.1.map aa.row),b.2):av×Bool)) (fun c2=>?_) (fun c2=>?_)
  ·refine ct (Z5.aQ H0) ?_
   try simp only [SS]
   all_goals exact fz
  ·have dc2:=c2
   try simp only [DC] at dc2
   refine bR dt ?_
   refine bR (have:=(H0).1;dt) ?_
   refine bq ((List.take (toNat ((Z4.md a0 a1) - 0)) (List.drop 0 a0)).map aa.row) (rq (Z5.aQ (a0:=(List.take (toNat ((Z4.md a0 a1) - 0)) (List.drop 0 a0))) (fU.take (k:=(toNat ((Z4.md a0 a1) - 0))) (fU.drop (k:=0) H0)))) ?_
   try simp only [SS]
   refine bR dt ?_
   refine bR (have:=(H0).1;dt) ?_
   refine bR (have:=(H0).1;dt) ?_
   refine bR (have:=((fU.take (k:=(toNat ((Z4.md a0 a1) - 0))) (fU.drop (k:=0) H0))).1;have:=(H0).1;have:=((fU.take (k:=(toNat ((a0.length:Int) - (i64.wrap ((Z4.md a0 a1)+1))))) (fU.drop (k:=(toNat (i64.wrap ((Z4.md a0 a1)+1)))) H0))).1;lm) ?_
   all_goals exact fz
def ay:jg 11 aO:=W2 28 F mix aX cU (.cons Z4.ay (.cons Z5.ay (.cons Z9.ay .nil))) Try.func11
end Z10
namespace Z11
def F (x0:av):aj:=(cond x0.isEmpty (either (ret ([]:av)) ((lR (pq ((x0.length:Int)*24)) (ret (x0:av))))) (lR (pq ((x0.length:Int)*24)) (ret (x0:av))))
def md (a0:List aa):List aa:=a0
def gd (a0:List aa):Prop:=fU (2^21) (fun y:aa=>aa.Sm (2^21) y) a0
def R:=RR gd md
def aQ {a0}(h:gd a0):R (a0.map aa.row)=some (a0.map aa.row):=bM (a:=a0) h
def aO:=CN [pL 53] (oL 53) RT.dec R
def cU (a0)(hg:gd a0):F (a0.map aa.row)=ret ((md a0).map aa.row):=by
 have H0:=hg.1
 unfold F md
 have hl:pq (((a0.map aa.row).length:Int)*24)=true:=lY (by simp only [List.length_map];omega)
 simp only [hl,ah]
 cases a0 with
 | nil=>exact pZ
 | cons x xs=>rfl
def ay:jg 29 aO:=W1 8 F mix aX cU .nil Try.func29
end Z11
namespace Z12
def F (x0:aa)(x1:List L):aj:=ret ((x0.fName==(sDec x1)):Bool)
def pats:List fO:=[.agg [.str,gv],.ptr [.str]]
def res:RP:=.one (.rd (.bool))
def md (a0:aa)(a1:aA):Bool:=((a0.fName==a1):Bool)
def gd (a0:aa)(a1:aA):Prop:=True
def acc (ls:List L):aa×aA:=((aa.dec ls),(sDec (cL 1 (aD 2 ls))))
def R:(aa×aA)->Option Bool:=RR (p2 gd) (u2 md)
def aQ {a0 a1}(h:gd a0 a1):R (a0,a1)=some (md a0 a1):=bM (a:=(a0,a1)) h
def aO:fk:=CN pats res acc R
def cU (a0:aa)(a1:aA)(p1:List L)(e1:a1=(sDec p1))(hg:gd a0 a1):F a0 p1=ret ((md a0 a1):Bool):=by
 unfold F md
 try simp only [SS,<-e1]
 all_goals exact fz
def wB (ls:List L)(a:aa×aA)(e:acc ls=Im.im a)(hg:(p2 gd) a):∃n:Nat,F (aa.dec ls) (cL 1 (aD 2 ls))=ret (Im.im ((u2 md) a)):=by
 have e0:a.1=(aa.dec ls):=(congrArg (fun x=>x.1) e.symm)
 have hn:=cU a.1 a.2 (cL 1 (aD 2 ls)) (congrArg (fun x=>x.2) e.symm) hg
 refine ⟨0,?_⟩
 rw [<-e0]
 exact hn
def ay:jg 38 aO:=VP (live:=fun _=>[]) (nt:=8) (accr:=fun ls=>((aa.dec ls),(cL 1 (aD 2 ls)))) (run:=fun _ x=>F x.1 x.2) mix aX .nil Try.func38 (by kernel_rfl) (fun _ _=>by kernel_rfl) (fun ls a _ e hg=>wB ls a e hg)
end Z12
namespace Z13
inductive Pt where
 | p0 (a:av) (b:List L) (c d:Int)
def pid:Pt->Nat
 | .p0 ..=>2
def gx:Pt->List V
 | .p0 a b c d=>[.sl none 53 a,.fn 38 [.aH none [.str] b 0],.int .i64 c,.int .i64 d]
def gq:Pt->List af
 | .p0 a b c d=>[]
def step (J:Pt->aj):Pt->aj
 | .p0 a b c d=>(cond (decide (d<c)) (m2 d (a.length:Int) (call (Z12.R ((aa.at a (toNat d)),(sDec b))) fun v1=>(cond v1 (ret (d:Int)) (J (.p0 a b c (i64.wrap (d+1))))))) (ret ((-1):Int)))
def start (J:Pt->aj)(x0:av)(x1:List L):aj:=J (.p0 x0 x1 (x0.length:Int) 0)
def live:Nat->Live:=fun i=>match i with | 2=>[(0,none),(1,none),(7,none),(8,none)] | _=>[]
def pats:List fO:=[.rd (.sl 53),.fn 38 [[.str]]]
def res:RP:=.one (.rd (.int .i64))
abbrev E:Env:={ T:=assoc vA,G:=bN [(38,Z12.aO)],nt:=19 }
def step_eq (I:cz)(p:Pt):bJ E live I (pid p) (aR Try.f37) (jY (live (pid p)) (gx p) (gq p)) (cy E Try.f37 res)=step (fun q=>I (pid q) (gx q) (gq q)) p:=by
 cases p<;>kernel_rfl
def start_eq (I:cz)(ls:List L):fC E live I (aR Try.f37) (cH pats ls) (cy E Try.f37 res)=start (fun q=>I (pid q) (gx q) (gq q)) (ls.headD .hole).az (cL 1 (aD 1 ls)):=by kernel_rfl
def run_eq (n:Nat)(ls:List L):eB E live Try.f37 res n (cH pats ls)=start (iter step n) (ls.headD .hole).az (cL 1 (aD 1 ls)):=dV (id:=pid) (vs:=gx) (hs:=gq) (step:=step) (start:=fun J=>start J (ls.headD .hole).az (cL 1 (aD 1 ls))) step_eq (fun I=>start_eq I ls) n
def md (a0:List aa)(a1:aA):Int:=(cO (S:=Unit) (β:=Int) (fun (i1:Nat) (y1:aa) (s3:Unit)=>(cond (Z12.md y1 a1) (.inr ((i1:Int):Int)) (.inl ()))) (fun (s3:Unit)=>((-1):Int)) 0 a0 ())
def gd (a0:List aa)(a1:aA):Prop:=(fU (2^21) (fun y:aa=>aa.Sm (2^21) y) a0)
def acc (ls:List L):av×aA:=((ls.headD .hole).az,(sDec (cL 1 (aD 1 ls))))
def R:(av×aA)->Option Int:=RR (p2 gd) (u2 md)
def aQ {a0 a1}(h:gd a0 a1):R ((a0.map aa.row),a1)=some (md a0 a1):=bM (a:=(a0,a1)) h
def aO:fk:=CN pats res acc R
def cU (a0:List aa)(a1:aA)(p1:List L)(e1:a1=(sDec p1))(hg:gd a0 a1):∃n,start (iter step n) (a0.map aa.row) p1=ret ((md a0 a1):Int):=by
 unfold gd at hg
 have H0:=hg
 unfold start md
 try simp only [SS,<-e1]
 have Bh2:a0.length<=maxLen:=(by
   have:=(H0).1
   try simp only [maxLen] at *
   omega)
 refine ex_eq (out:=ret) (eR (z:=aa.zero)) ?_
 refine mH (p:=Pt.p0 (a0.map aa.row) p1 (a0.length:Int) 0) fz ?_
 refine fm (pt:=fun (i1:Nat) (s3:Unit)=>Pt.p0 (a0.map aa.row) p1 (a0.length:Int) (i1:Int)) (s:=(():Unit)) (out:=ret) (fun _ _=>True) (fun J i1 s3 h2 hih2=>?_) (fun s3 hih2=>?_) trivial
 ·simp only [step,SS,<-e1]
  have bb_:=Bh2
  simp only [maxLen] at bb_
  have:=(H0).1
  refine aN.yes (by apply decide_eq_true;omega) ?_
  refine aN.yes aW ?_
  refine aN.yes (bn h2) ?_
  refine cr (Z12.aQ trivial) ?_
  refine aN.bif (fun c4=>?_) (fun c4=>?_)
  ·refine aN.inr ?_
   all_goals exact fz
  ·refine aN.inl trivial ?_
   rw [aE h2 Bh2]
   all_goals exact fz
 ·simp only [step,SS,<-e1]
  have:=(H0).1
  refine mM (by apply decide_eq_false;omega) ?_
  refine ⟨0,?_⟩
  all_goals exact fz
def wB (ls:List L)(a:List aa×aA)(e:acc ls=Im.im a)(hg:(p2 gd) a):∃n:Nat,start (iter step n) ((ls.headD .hole).az) (cL 1 (aD 1 ls))=ret (Im.im ((u2 md) a)):=by
 have e0:(a.1.map aa.row)=(ls.headD .hole).az:=(congrArg (fun x=>x.1) e.symm)
 obtain ⟨n,hn⟩:=cU a.1 a.2 (cL 1 (aD 1 ls)) (congrArg (fun x=>x.2) e.symm) hg
 refine ⟨n,?_⟩
 rw [<-e0]
 exact hn
def ay:jg 37 aO:=VP (accr:=fun ls=>((ls.headD .hole).az,(cL 1 (aD 1 ls)))) (run:=fun n x=>start (iter step n) x.1 x.2) mix aX (.cons Z12.ay .nil) Try.func37 (by kernel_rfl) run_eq (fun ls a _ e hg=>wB ls a e hg)
def fa (a0:List aa)(a1:aA):-1<=md a0 a1/\md a0 a1<(a0.length:Int):=by
 unfold md
 refine mJ ?_ _ _
 all_goals
  intro i x s b h
  revert h
  simp only [Bool.cond_eq_ite]
  repeat' split
  all_goals (intro h;first | (cases h;rfl) | cases h)
def idx_eq (a0:List aa)(a1:aA):md a0 a1=qQ (fun y=>Z12.md y a1) 0 a0:=by
 unfold md
 exact lq
end Z13
namespace Z14
def F (x0:av)(x1:aA):aj:=(call (Z13.R (x0,x1)) fun v1=>ret (v1:Int))
def md (a0:List aa)(a1:aA):Int:=((Z13.md a0 a1):Int)
def gd (a0:List aa)(a1:aA):Prop:=(fU (2^21) (fun y:aa=>aa.Sm (2^21) y) a0)
def R:=RR (p2 gd) (u2 md)
def aQ {a0 a1}(h:gd a0 a1):R ((a0.map aa.row),a1)=some (md a0 a1):=bM (a:=(a0,a1)) h
def aO:=CN [pL 53,pS] oI RT.dec R
def cU (a0)(a1)(hg:gd a0 a1):F (a0.map aa.row) a1=ret (md a0 a1):=by
 unfold gd at hg
 have H0:=hg
 unfold F md
 try simp only [SS]
 refine ct (Z13.aQ H0) ?_
 have fv1_:=Z13.fa a0 a1
 all_goals exact fz
def ay:jg 30 aO:=W2 8 F mix aX cU (.cons Z13.ay .nil) Try.func30
def fa (a0:List aa)(a1:aA):-1<=md a0 a1/\md a0 a1<(a0.length:Int):=by unfold md;exact Z13.fa _ _
def br (a0:List aa)(a1:aA):md a0 a1=Z4.md a0 a1:=by
 unfold md Z4.md
 first
 | (simp only [Z13.idx_eq];done)
 | (simp only [Z13.idx_eq];rfl)
 | rfl
end Z14
namespace Z15
def F (x0 x1 x2:Int):aj:=(cond (decide (x1<=x0)) (ret ((decide (x0<=x2)):Bool)) bf)
def md (a0 a1 a2:Int):Bool:=(cond (decide (a1<=a0)) ((decide (a0<=a2)):Bool) (false:Bool))
def gd (a0 a1 a2:Int):Prop:=True
def R:=RR (p3 gd) (u3 md)
def aQ {a0 a1 a2}(h:gd a0 a1 a2):R (a0,a1,a2)=some (md a0 a1 a2):=bM (a:=(a0,a1,a2)) h
def aO:=CN [pI,pI,pI] oB RT.dec R
def cU (a0)(a1)(a2)(hg:gd a0 a1 a2):F a0 a1 a2=ret (md a0 a1 a2):=by
 unfold F md
 try simp only [SS]
 refine dM ret (fun c1=>?_) (fun _=>rfl)
 all_goals exact fz
def ay:jg 35 aO:=W3 15 F mix aX cU .nil Try.func35
def br (a0 a1 a2:Int):md a0 a1 a2=Z6.md a0 a1 a2:=by
 unfold md Z6.md
 first | rfl | (rw [Bool.eq_iff_iff];simp)
end Z15
namespace Z16
inductive Pt where
 | p0 (a:aA) (b c:Int)
def pid:Pt->Nat
 | .p0 ..=>2
def gx:Pt->List V
 | .p0 a b c=>[.str a,.int .i64 b,.int .i64 c]
def gq:Pt->List af
 | .p0 a b c=>[]
def step (J:Pt->aj):Pt->aj
 | .p0 a b c=>(cond (decide (c<b)) (m2 c (a.size:Int) (cond (decide ((aV a (toNat c))>=97)) (cond (decide ((aV a (toNat c))<=122)) (J (.p0 a b (i64.wrap (c+1)))) (cond (decide ((aV a (toNat c))>=48)) (cond (decide ((aV a (toNat c))<=57)) (J (.p0 a b (i64.wrap (c+1)))) (cond ((aV a (toNat c))==45) (cond (decide (c>0)) (cond (!(decide (c<(i64.wrap ((a.size:Int) - 1))))) bf (J (.p0 a b (i64.wrap (c+1))))) bf) bf)) (cond ((aV a (toNat c))==45) (cond (decide (c>0)) (cond (!(decide (c<(i64.wrap ((a.size:Int) - 1))))) bf (J (.p0 a b (i64.wrap (c+1))))) bf) bf))) (cond (decide ((aV a (toNat c))>=48)) (cond (decide ((aV a (toNat c))<=57)) (J (.p0 a b (i64.wrap (c+1)))) (cond ((aV a (toNat c))==45) (cond (decide (c>0)) (cond (!(decide (c<(i64.wrap ((a.size:Int) - 1))))) bf (J (.p0 a b (i64.wrap (c+1))))) bf) bf)) (cond ((aV a (toNat c))==45) (cond (decide (c>0)) (cond (!(decide (c<(i64.wrap ((a.size:Int) - 1))))) bf (J (.p0 a b (i64.wrap (c+1))))) bf) bf)))) (call (Z15.R ((a.size:Int),1,8)) fun v1=>ret (v1:Bool)))
def start (J:Pt->aj)(x0:aA):aj:=J (.p0 x0 (x0.size:Int) 0)
def live:Nat->Live:=fun i=>match i with | 2=>[(0,none),(6,none),(7,none)] | _=>[]
def md (a0:aA):Bool:=(dH (S:=Unit) (β:=Bool) (fun (i1:Nat) (s3:Unit)=>(cond (decide ((aV a0 i1)>=97)) (cond (decide ((aV a0 i1)<=122)) (.inl ()) (cond (decide ((aV a0 i1)>=48)) (cond (decide ((aV a0 i1)<=57)) (.inl ()) (cond ((aV a0 i1)==45) (cond (decide ((i1:Int)>0)) (cond (!(decide ((i1:Int)<(i64.wrap ((a0.size:Int) - 1))))) (.inr (false:Bool)) (.inl ())) (.inr (false:Bool))) (.inr (false:Bool)))) (cond ((aV a0 i1)==45) (cond (decide ((i1:Int)>0)) (cond (!(decide ((i1:Int)<(i64.wrap ((a0.size:Int) - 1))))) (.inr (false:Bool)) (.inl ())) (.inr (false:Bool))) (.inr (false:Bool))))) (cond (decide ((aV a0 i1)>=48)) (cond (decide ((aV a0 i1)<=57)) (.inl ()) (cond ((aV a0 i1)==45) (cond (decide ((i1:Int)>0)) (cond (!(decide ((i1:Int)<(i64.wrap ((a0.size:Int) - 1))))) (.inr (false:Bool)) (.inl ())) (.inr (false:Bool))) (.inr (false:Bool)))) (cond ((aV a0 i1)==45) (cond (decide ((i1:Int)>0)) (cond (!(decide ((i1:Int)<(i64.wrap ((a0.size:Int) - 1))))) (.inr (false:Bool)) (.inl ())) (.inr (false:Bool))) (.inr (false:Bool)))))) (fun (s3:Unit)=>((Z15.md (a0.size:Int) 1 8):Bool)) a0.size 0 ())
def gd (a0:aA):Prop:=(a0.size<=(2^22))
def R:=RR gd md
def aQ {a0}(h:gd a0):R a0=some (md a0):=bM (a:=a0) h
def aO:=CN [pS] oB RT.dec R
def cU (a0)(hg:gd a0):∃n,start (iter step n) a0=ret (md a0):=by
 unfold gd at hg
 have H0:=hg
 unfold start md
 try simp only [SS]
 have Bh2:a0.size<=maxLen:=(by
   have:=H0
   try simp only [maxLen] at *
   omega)
 refine mH (p:=Pt.p0 a0 (a0.size:Int) 0) fz ?_
 refine fm (pt:=fun (i1:Nat) (s3:Unit)=>Pt.p0 a0 (a0.size:Int) (i1:Int)) (s:=(():Unit)) (out:=ret) (fun _ _=>True) (fun J i1 s3 h2 hih2=>?_) (fun s3 hih2=>?_) trivial
 ·simp only [step,SS]
  have bb_:=Bh2
  simp only [maxLen] at bb_
  have:=H0
  refine aN.yes (by apply decide_eq_true;omega) ?_
  refine aN.yes aW ?_
  refine aN.yes (bn h2) ?_
  refine aN.bif (fun c4=>?_) (fun c4=>?_)
  ·refine aN.bif (fun c5=>?_) (fun c5=>?_)
   ·refine aN.inl trivial ?_
    rw [aE h2 Bh2]
    all_goals exact fz
   ·refine aN.bif (fun c6=>?_) (fun c6=>?_)
    ·refine aN.bif (fun c7=>?_) (fun c7=>?_)
     ·refine aN.inl trivial ?_
      rw [aE h2 Bh2]
      all_goals exact fz
     ·refine aN.bif (fun c8=>?_) (fun _=>aN.inr rfl)
      refine aN.bif (fun c9=>?_) (fun _=>aN.inr rfl)
      refine aN.bif (fun _=>aN.inr rfl) (fun c10=>?_)
      refine aN.inl trivial ?_
      rw [aE h2 Bh2]
      all_goals exact fz
    ·refine aN.bif (fun c11=>?_) (fun _=>aN.inr rfl)
     refine aN.bif (fun c12=>?_) (fun _=>aN.inr rfl)
     refine aN.bif (fun _=>aN.inr rfl) (fun c13=>?_)
     refine aN.inl trivial ?_
     rw [aE h2 Bh2]
     all_goals exact fz
  ·refine aN.bif (fun c14=>?_) (fun c14=>?_)
   ·refine aN.bif (fun c15=>?_) (fun c15=>?_)
    ·refine aN.inl trivial ?_
     rw [aE h2 Bh2]
     all_goals exact fz
    ·refine aN.bif (fun c16=>?_) (fun _=>aN.inr rfl)
     refine aN.bif (fun c17=>?_) (fun _=>aN.inr rfl)
     refine aN.bif (fun _=>aN.inr rfl) (fun c18=>?_)
     refine aN.inl trivial ?_
     rw [aE h2 Bh2]
     all_goals exact fz
   ·refine aN.bif (fun c19=>?_) (fun _=>aN.inr rfl)
    refine aN.bif (fun c20=>?_) (fun _=>aN.inr rfl)
    refine aN.bif (fun _=>aN.inr rfl) (fun c21=>?_)
    refine aN.inl trivial ?_
    rw [aE h2 Bh2]
    all_goals exact fz
 ·simp only [step,SS]
  have:=H0
  refine mM (by apply decide_eq_false;omega) ?_
  refine cx (Z15.aQ trivial) ?_
  refine ⟨0,?_⟩
  all_goals exact fz
def ay:jg 21 aO:=L1 47 pid gx gq live step start mix aX cU (.cons Z15.ay .nil) Try.func21
def br (a0:aA):md a0=Z7.md a0:=by
 unfold md Z7.md
 by_cases hl:1<=a0.size/\a0.size<=8
 ·have e1:Z6.md (a0.size:Int) 1 8=true:=by simp [Z6.md];omega
  simp only [Z15.br,e1]
  have ew:i64.wrap ((a0.size:Int) - 1)=((a0.size - 1:Nat):Int):=by
   rw [Go.IntWalk.i64_in _ (by omega)];omega
  simp only [ew,fq]
  rw [Bool.eq_iff_iff]
  rw [lH (fun i=>(97<=aV a0 i/\aV a0 i<=122)∨(48<=aV a0 i/\aV a0 i<=57)∨(aV a0 i=45/\0<i/\i<a0.size - 1)) (fun i hi h=>by simp;grind) (fun i hi h=>by simp;grind)]
  have e2:=lH (n:=a0.size) (f:=fun (i4:Nat) (s6:Unit)=>(cond (decide ((aV a0 i4)<97)) (cond (decide ((aV a0 i4)<48)) (cond ((aV a0 i4) != 45) (.inr (false:Bool)) (.inl ())) (cond (decide ((aV a0 i4)>57)) (cond ((aV a0 i4) != 45) (.inr (false:Bool)) (.inl ())) (.inl ()))) (cond (decide ((aV a0 i4)>122)) (cond (decide ((aV a0 i4)<48)) (cond ((aV a0 i4) != 45) (.inr (false:Bool)) (.inl ())) (cond (decide ((aV a0 i4)>57)) (cond ((aV a0 i4) != 45) (.inr (false:Bool)) (.inl ())) (.inl ()))) (.inl ())))) (t:=fun _=>true)
   (fun i=>(97<=aV a0 i/\aV a0 i<=122)∨(48<=aV a0 i/\aV a0 i<=57)∨aV a0 i=45) (fun i hi h=>by simp;grind) (fun i hi h=>by simp;grind)
  have e3:∀b c d:Bool,(cond (!true) false (bif b then false else bif c then false else d))=true↔b=false/\c=false/\d=true:=by intro b c d;cases b<;>cases c<;>simp
  rw [e3,e2]
  simp only [beq_eq_false_iff_ne,ne_eq,and_true]
  constructor
  ·intro h
   refine ⟨fun h0=>?_,fun h0=>?_,fun i hi=>?_⟩
   ·have:=h 0 (by omega);omega
   ·have:=h (a0.size - 1) (by omega);omega
   ·have:=h i hi;omega
  ·intro ⟨h1,h2,h3⟩ i hi
   have:=h3 i hi
   by_cases h0:i=0
   ·subst h0;omega
   ·by_cases h9:i=a0.size - 1
    ·subst h9;omega
    ·omega
 ·have e1:Z6.md (a0.size:Int) 1 8=false:=by simp [Z6.md];omega
  simp only [Z15.br,e1]
  refine jS ?_ _ _ _
  intro i s b h
  revert h
  simp only [Bool.cond_eq_ite]
  repeat' split
  all_goals (intro h;first | (cases h;rfl) | cases h)
end Z16
namespace Z17
def F (x0:Int):aj:=(call (Z15.R (x0,0,2147483646)) fun v1=>ret (v1:Bool))
def md (a0:Int):Bool:=((Z15.md a0 0 2147483646):Bool)
def gd (a0:Int):Prop:=True
def R:=RR gd md
def aQ {a0}(h:gd a0):R a0=some (md a0):=bM (a:=a0) h
def aO:=CN [pI] oB RT.dec R
def cU (a0)(hg:gd a0):F a0=ret (md a0):=by
 unfold F md
 try simp only [SS]
 refine ct (Z15.aQ trivial) ?_
 all_goals exact fz
def ay:jg 22 aO:=W1 5 F mix aX cU (.cons Z15.ay .nil) Try.func22
end Z17
namespace Z18
set_option maxHeartbeats 1000000 in
set_option maxRecDepth 100000 in
open Go.RowKit in
def calls (a b:aA)(w:World):Calls Try.prog 41 #[.string a,.string b] w fun e w'=>e=.returned (.int .i64 (Lib.compareBytes a.data.toList b.data.toList))/\w'=w:=by
 go_enter Try.func41,Try.ntmps41
 go_wp2
 rw [run_callFunc_extern Try.func42 (by kernel_rfl) (by kernel_rfl) (by kernel_rfl) (e:=Extern.BytealgCompare.compare) (by kernel_rfl),Lib.run_compareString]
 simp only [Result.andThen]
 rw [Oper.upon_value]
 go_wp2
 go_ret
 exact ⟨rfl,rfl⟩
def md (a0 a1:aA):Int:=Lib.compareBytes a0.data.toList a1.data.toList
def R (x:aA×aA):Option Int:=some (md x.1 x.2)
def aQ {a0 a1:aA}(_:True):R (a0,a1)=some (md a0 a1):=rfl
def sem:List L->Option (List L)
 | [y0,y1]=>(R (y0.toStr,y1.toStr)).map RT.enc
 | _=>none
def aO:fk:=⟨[.rd .str,.rd .str],.one (.rd (.int .i64)),sem⟩
def ay:jg 41 aO:=by
 refine oV ⟨Try.f41,Try.func41,by kernel_rfl,by kernel_rfl⟩ rfl (fun _=>rfl) fun ls r w vs Z hs hf=>?_
 simp only [aO] at hs
 unfold sem at hs
 split at hs
 ·rename_i a b
  cases hf with
  | cons h1 ht=>
   cases ht with
   | cons h2 ht=>
    cases ht
    have e1:_=Value.string a.toStr:=h1
    have e2:_=Value.string b.toStr:=h2
    subst e1;subst e2
    refine (calls a.toStr b.toStr w).mono fun e w' ⟨h3,h4⟩=>⟨_,h3,h4,?_⟩
    injection hs with hs
    subst hs
    rfl
 ·cases hs
end Z18
namespace Z19
def F (x0 x1:aA):aj:=(call (Z18.R (x0,x1)) fun v1=>ret (v1:Int))
def md (a0 a1:aA):Int:=((Z18.md a0 a1):Int)
def gd (a0 a1:aA):Prop:=True
def R:=RR (p2 gd) (u2 md)
def aQ {a0 a1}(h:gd a0 a1):R (a0,a1)=some (md a0 a1):=bM (a:=(a0,a1)) h
def aO:=CN [pS,pS] oI RT.dec R
def cU (a0)(a1)(hg:gd a0 a1):F a0 a1=ret (md a0 a1):=by
 unfold F md
 try simp only [SS]
 refine ct (Z18.aQ trivial) ?_
 all_goals exact fz
def ay:jg 40 aO:=W2 8 F mix aX cU (.cons Z18.ay .nil) Try.func40
end Z19
namespace Z20
def F (x0 x1:aA):aj:=(call (Z19.R (x0,x1)) fun v1=>ret (v1:Int))
def md (a0 a1:aA):Int:=((Z19.md a0 a1):Int)
def gd (a0 a1:aA):Prop:=True
def R:=RR (p2 gd) (u2 md)
def aQ {a0 a1}(h:gd a0 a1):R (a0,a1)=some (md a0 a1):=bM (a:=(a0,a1)) h
def aO:=CN [pS,pS] oI RT.dec R
def cU (a0)(a1)(hg:gd a0 a1):F a0 a1=ret (md a0 a1):=by
 unfold F md
 try simp only [SS]
 refine ct (Z19.aQ trivial) ?_
 all_goals exact fz
def ay:jg 39 aO:=W2 8 F mix aX cU (.cons Z19.ay .nil) Try.func39
def cmp:∀a b:List UInt8,Lib.compareBytes a b=(cond (Op.bytesLess a b) ((-1):Int) (cond (!((Op.bytesLess a b)||(a==b))) (1:Int) (0:Int)))
 | [],[]=>by simp [Lib.compareBytes,Op.bytesLess]
 | [],_::_=>by simp [Lib.compareBytes,Op.bytesLess]
 | _::_,[]=>by simp [Lib.compareBytes,Op.bytesLess]
 | a::xs,b::ys=>by
  simp only [Lib.compareBytes,Op.bytesLess]
  rw [cmp xs ys]
  by_cases h1:a<b
  ·simp [h1]
  ·by_cases h2:b<a
   ·have hne:a≠b:=fun e=>by subst e;exact h1 h2
    have hb:(a==b)=false:=beq_eq_false_iff_ne.2 hne
    simp [h1,h2,hb,hne]
   ·have he:a=b:=by
     have:=UInt8.lt_or_eq_of_le (UInt8.not_lt.1 h1)
     rcases this with h | h
     ·exact (h2 h).elim
     ·exact h.symm
    subst he
    simp [h1]
def br (a0 a1:aA):md a0 a1=Z8.md a0 a1:=by
 unfold md Z8.md Z19.md Z18.md
 rw [cmp,ByteArray.toList_eq,ByteArray.toList_eq]
end Z20
namespace Z21
inductive Pt where
 | p0 (a b:av) (c d:Int)
def pid:Pt->Nat
 | .p0 ..=>2
def gx:Pt->List V
 | .p0 a b c d=>[.sl none 53 a,.sl none 53 b,.int .i64 c,.int .i64 d]
def gq:Pt->List af
 | .p0 a b c d=>[]
def step (J:Pt->aj):Pt->aj
 | .p0 a b c d=>(cond (decide (d<c)) (m2 d (b.length:Int) (call (Z16.R ((aa.at b (toNat d)).fName)) fun v1=>(cond (!v1) bf (call (Z17.R ((aa.at b (toNat d)).eu)) fun v2=>(cond (!v2) bf (cond (decide (d>0)) (lR (decide ((0:Int)<=(i64.wrap (d - 1)))) (lR (decide ((i64.wrap (d - 1))<(a.length:Int))) (call (Z20.R ((aa.at b (toNat d)).fName,(aa.at a (toNat (i64.wrap (d - 1)))).fName)) fun v3=>(cond (decide (v3<=0)) bf (J (.p0 a b c (i64.wrap (d+1)))))))) (J (.p0 a b c (i64.wrap (d+1)))))))))) (ret ((decide ((a.length:Int)<=8)):Bool)))
def start (J:Pt->aj)(x0:av):aj:=J (.p0 x0 x0 (x0.length:Int) 0)
def live:Nat->Live:=fun i=>match i with | 2=>[(0,none),(5,none),(6,none),(7,none)] | _=>[]
def md (a0:List aa):Bool:=(cO (S:=Unit) (β:=Bool) (fun (i1:Nat) (y1:aa) (s3:Unit)=>(cond (!(Z16.md (y1.fName))) (.inr (false:Bool)) (cond (!(Z17.md (y1.eu))) (.inr (false:Bool)) (cond (decide ((i1:Int)>0)) (cond (decide ((Z20.md (y1.fName) ((a0.getD (toNat (i64.wrap ((i1:Int) - 1))) aa.zero).fName))<=0)) (.inr (false:Bool)) (.inl ())) (.inl ()))))) (fun (s3:Unit)=>((decide ((a0.length:Int)<=8)):Bool)) 0 a0 ())
def gd (a0:List aa):Prop:=(fU (2^21) (fun y:aa=>aa.Sm (2^21) y) a0)
def R:=RR gd md
def aQ {a0}(h:gd a0):R (a0.map aa.row)=some (md a0):=bM (a:=a0) h
def aO:=CN [pL 53] oB RT.dec R
def cU (a0)(hg:gd a0):∃n,start (iter step n) (a0.map aa.row)=ret (md a0):=by
 unfold gd at hg
 have H0:=hg
 unfold start md
 try simp only [SS]
 have Bh2:a0.length<=maxLen:=(by
   have:=(H0).1
   try simp only [maxLen] at *
   omega)
 refine ex_eq (out:=ret) (eR (z:=aa.zero)) ?_
 refine mH (p:=Pt.p0 (a0.map aa.row) (a0.map aa.row) (a0.length:Int) 0) fz ?_
 refine fm (pt:=fun (i1:Nat) (s3:Unit)=>Pt.p0 (a0.map aa.row) (a0.map aa.row) (a0.length:Int) (i1:Int)) (s:=(():Unit)) (out:=ret) (fun _ _=>True) (fun J i1 s3 h2 hih2=>?_) (fun s3 hih2=>?_) trivial
 ·simp only [step,SS]
  have bb_:=Bh2
  simp only [maxLen] at bb_
  have:=(H0).1
  refine aN.yes (by apply decide_eq_true;omega) ?_
  refine aN.yes aW ?_
  refine aN.yes (bn h2) ?_
  refine cr (Z16.aQ (le_trans (fU.getD (z:=aa.zero) H0 h2) (by decide))) ?_
  refine aN.bif (fun _=>aN.inr rfl) (fun c4=>?_)
  have dc4:=c4
  try simp only [DC] at dc4
  refine cr (Z17.aQ trivial) ?_
  refine aN.bif (fun _=>aN.inr rfl) (fun c5=>?_)
  have dc5:=c5
  try simp only [DC] at dc5
  refine aN.bif (fun c6=>?_) (fun c6=>?_)
  ·have dc6:=c6
   try simp only [DC] at dc6
   refine aN.yes dt ?_
   refine aN.yes (have:=(H0).1;dt) ?_
   refine cr (Z20.aQ trivial) ?_
   refine aN.bif (fun _=>aN.inr rfl) (fun c7=>?_)
   refine aN.inl trivial ?_
   rw [aE h2 Bh2]
   all_goals exact fz
  ·refine aN.inl trivial ?_
   rw [aE h2 Bh2]
   all_goals exact fz
 ·simp only [step,SS]
  have:=(H0).1
  refine mM (by apply decide_eq_false;omega) ?_
  refine ⟨0,?_⟩
  all_goals exact fz
def ay:jg 31 aO:=L1 42 pid gx gq live step start mix aX cU (.cons Z16.ay (.cons Z17.ay (.cons Z20.ay .nil))) Try.func31
def bl:∀a b:List UInt8,(Op.bytesLess a b||a==b)=!(Op.bytesLess b a)
 | [],[]=>by simp [Op.bytesLess]
 | [],_::_=>by simp [Op.bytesLess]
 | _::_,[]=>by simp [Op.bytesLess]
 | a::xs,b::ys=>by
  have ih:=bl xs ys
  simp only [Op.bytesLess]
  by_cases h1:a<b
  ·have h2:¬b<a:=UInt8.not_lt.2 (UInt8.le_of_lt h1)
   have h3:¬b=a:=fun h=>by subst h;exact UInt8.lt_irrefl _ h1
   simp [h1,h2,h3]
  ·by_cases h2:a=b
   ·subst h2
    have hr:¬a<a:=UInt8.lt_irrefl a
    simp only [hr,decide_false,Bool.false_or,beq_self_eq_true,Bool.true_and,List.cons_beq_cons]
    exact ih
   ·have h3:b<a:=by
     rcases UInt8.lt_or_lt_of_ne h2 with h | h
     ·exact (h1 h).elim
     ·exact h
    simp [h1,h2,h3,List.cons_beq_cons]
def swap (a b:aA):decide (Z8.md a b<=0)=(Z8.md b a != -1):=by
 unfold Z8.md
 rw [bl a.toList b.toList,bl b.toList a.toList]
 have h:=bl a.toList b.toList
 cases h1:Op.bytesLess a.toList b.toList<;>cases h2:Op.bytesLess b.toList a.toList<;>rw [h1,h2] at h<;>simp at h ⊢
def br (a0:List aa):md a0=Z9.md a0:=by
 unfold md Z9.md
 refine jI (fun i x _ s=>?_) (fun s=>rfl)
 simp only [Z16.br,Z17.md,Z15.br,Z20.br,swap]
end Z21
namespace Z22
def wj (w:World):(zeroValue 53).run Try.prog w=.ok (.agg #[.string ⟨#[]⟩,.int .i64 0]) w:=by
 have h1:Try.prog.info? 53=some Try.t53:=by kernel_rfl
 have h2:Try.t53.zero=some (.agg #[.string ⟨#[]⟩,.int .i64 0]):=by kernel_rfl
 exact pW h1 h2
set_option maxHeartbeats 4000000 in
set_option maxRecDepth 1000000 in
open Go.RowKit Go.Lib in
def calls (g n c i j te:Nat)(cur:Array Value)(w:World)(hg:w.heap[g]?=some (.cells cur te (0,0)))(hsz:cur.size=c*2)(hlt:i<j)(hj:j<=n)(hcap:n<=c)(hm:c<=maxLen)
  (h1c:∀v∈(cur.toList.drop (j*2)).take ((n - j)*2),v.oneCell'=true) :
  Calls Try.prog 32 #[.slice (some ⟨g,0,none⟩) n c,.int .i64 i,.int .i64 j] w fun e w'=>e=.returned (.slice (some ⟨g,0,none⟩) (n - (j - i)) c)/\
   ∃vs:List Value,vs.length=(j - i)*2/\w'=(w.drew.setCells g (0+i*2) ((cur.toList.drop (j*2)).take ((n - j)*2))).setCells g ((n - (j - i))*2) vs:=by
 have mixed:Try.prog.follows .mixedOrders=true:=by kernel_rfl
 have t31:Try.prog.underlying 31=some (.slice 53):=by kernel_rfl
 obtain ⟨i0,hi0,hz1⟩:∃i0,Try.prog.info? 53=some i0/\i0.size=2:=⟨Try.t53,by kernel_rfl,by kernel_rfl⟩
 obtain ⟨news,hnews⟩:∃news,news=(cur.toList.drop (j*2)).take ((n - j)*2):=⟨_,rfl⟩
 rw [<-hnews] at h1c ⊢
 have hlen:news.length=(n - j)*2:=by rw [hnews];simp [hsz];omega
 have hcell:∀k,w.drew.cell? ⟨g,k,none⟩=cur[k]?:=fun k=>cell_of_row w.drew g k cur te (0,0) hg
 have hget:∀t u,news[t]?=some u->w.drew.cell? ⟨g,j*2+t,none⟩=some u:=by
  intro t u hu
  rw [hcell]
  rw [hnews,List.getElem?_take] at hu
  split at hu
  ·rw [List.getElem?_drop] at hu;simpa using hu
  ·cases hu
 have hfz:∀(W:World) k,W.heap[g]?=some (.cells cur te (0,0))->W.frozen? ⟨g,k,none⟩=false:=by
  intro W k h
  simp [World.frozen?,h]
 obtain ⟨A,hA,hsrc⟩:∃A:Addr,(if c=j then some (⟨g,0,none⟩:Addr) else some ⟨g,j*2,none⟩)=some A/\Hid (∀t u,news[t]?=some u->w.drew.cell? (A.add t)=some u):=by
  by_cases h:c=j
  ·refine ⟨⟨g,0,none⟩,by simp [h],fun t u hu=>?_⟩
   have h0:news.length=0:=by rw [hlen];omega
   rw [List.length_eq_zero_iff.1 h0] at hu
   simp at hu
  ·refine ⟨⟨g,j*2,none⟩,by simp [h],fun t u hu=>?_⟩
   rw [Addr.add_lit]
   exact hget t u hu
 have s1:Hid (news.length=(n - j)*2):=hlen
 have s2:Hid (∀u∈news,u.oneCell'=true):=h1c
 have s3:Hid (∀t,t<news.length->(w.drew.cell? ⟨g,0+i*2+t,none⟩).isSome=true/\w.drew.frozen? ⟨g,0+i*2+t,none⟩=false):=by
  intro t ht
  rw [hlen] at ht
  refine ⟨?_,hfz _ _ hg⟩
  rw [hcell,Array.getElem?_eq_getElem (by omega)];rfl
 obtain ⟨W1,hW1⟩:∃W1,W1=w.drew.setCells g (0+i*2) news:=⟨_,rfl⟩
 obtain ⟨cur1,c1,c2,_,_⟩:=dN g news (0+i*2) w.drew cur te hg (by omega)
 rw [<-hW1] at c1
 have hsp1:∀k,k<c*2->(W1.cell? ⟨g,k,none⟩).isSome=true:=by
  intro k hk
  rw [cell_of_row W1 g k cur1 te (0,0) c1,Array.getElem?_eq_getElem (by omega)];rfl
 have hfz1:∀k,W1.frozen? ⟨g,k,none⟩=false:=by
  intro k
  simp [World.frozen?,c1]
 have hcl:∀ty,(Builtin.clear_ #[31] ty #[.slice (some ⟨g,(i+(n - j))*2,none⟩) (n - (i+(n - j))) (c - (i+(n - j)))]).run Try.prog W1=.ok (.tuple #[]) (W1.setCells g ((i+(n - j))*2) (Builtin.zeroCells #[.string ⟨#[]⟩,.int .i64 0] (n - (i+(n - j)))).toList):=
  fun ty=>jX W1 31 53 ty (.agg #[.string ⟨#[]⟩,.int .i64 0]) 2 t31 wj rfl (by intro v hv;simp [Value.cells] at hv;rcases hv with rfl | rfl<;>rfl) g ((i+(n - j))*2) _ _ (by omega) (fun q hq=>hsp1 _ (by omega)) (fun q _=>hfz1 _)
 have hW:Hid (W1=w.drew.setCells g (0+i*2) news):=hW1
 have hic:i<=c:=by omega
 have hjc:j<=c:=by omega
 have hij:i<=j:=by omega
 have hm2:c<=9223372036854775807:=by simp only [maxLen] at hm;omega
 clear hnews hget hcell hfz hsp1 hfz1 c1 c2 hW1 hm h1c
 go_enter Try.func32,Try.ntmps32
 go_wp2_with fail
 go_region_law_o (refine step_append_room rfl (.tmp 22) (.tmp 25) 31 rfl 53 i0 2 t31 hi0 hz1 g 0 i c (by simp [Act.eval,Act.put]) A (n - j) (c - j) news (by simp [Act.eval,Act.put,hA]) s1.out hsrc.out s2.out (by omega) s3.out ?_;rw [<-hW.out])
 go_wp2
 go_ret
 refine ⟨by rw [show n - (j - i)=i+(n - j) by omega];rfl,_,?_,by rw [hW.out,show n - (j - i)=i+(n - j) by omega]⟩
 rw [Array.length_toList,size_zeroCells]
 simp
 omega
def md (a0:List aa)(a1 a2:Int):List aa:=a0.take a1.toNat++a0.drop a2.toNat
def acc (ls:List L):av×Int×Int:=((ls.headD .hole).az,((aD 1 ls).headD .hole).toInt,((aD 2 ls).headD .hole).toInt)
def R (x:av×Int×Int):Option (av):=bif decide (0<=x.2.1)&&(decide (x.2.1<x.2.2)&&decide (x.2.2<=x.1.length)) then some (x.1.take x.2.1.toNat++x.1.drop x.2.2.toNat) else none
def aQ {a0:List aa}{a1 a2:Int}(h:0<=a1/\a1<a2/\a2<=a0.length):R (a0.map aa.row,a1,a2)=some ((md a0 a1 a2).map aa.row):=by
 have h3:a2<=((a0.map aa.row).length:Int):=by rw [List.length_map];exact h.2.2
 simp [R,md,h.1,h.2.1,h.2.2]
def aO:sI:=RN [.rd (.int .i64),.rd (.int .i64)] 53 acc R
def nM:Ev.cells 53=[.str,gv]:=by kernel_rfl
def ur:tA Try.prog Ev 32 aO:=by
 refine ⟨⟨Try.f32,Try.func32,by kernel_rfl,by kernel_rfl⟩,fun xs ls r w x vs S Z hs hown hS hSZ hv=>?_⟩
 obtain ⟨ys,hR,hq⟩:=map_some (show (R (acc (.sl xs::ls))).map RT.enc=some r from hs)
 subst hq
 unfold R at hR
 have hR':(cond (decide (0<=(ls.headD .hole).toInt)&&(decide ((ls.headD .hole).toInt<(ls.tail.headD .hole).toInt)&&decide ((ls.tail.headD .hole).toInt<=(xs.length:Int)))) (some (xs.take (ls.headD .hole).toInt.toNat++xs.drop (ls.tail.headD .hole).toInt.toNat)) none)=some ys:=hR
 clear hR
 cases hc:(decide (0<=(ls.headD .hole).toInt)&&(decide ((ls.headD .hole).toInt<(ls.tail.headD .hole).toInt)&&decide ((ls.tail.headD .hole).toInt<=(xs.length:Int))))<;>rw [hc] at hR'
 ·cases hR'
 injection hR' with hR
 subst hR
 simp only [Bool.and_eq_true,decide_eq_true_eq] at hc
 cases hv with
 | cons h1 ht=>
 cases ht with
 | cons h2 ht=>
 cases ht
 have e1:_=Value.int .i64 (ls.headD .hole).toInt:=h1
 have e2:_=Value.int .i64 (ls.tail.headD .hole).toInt:=h2
 subst e1;subst e2
 obtain ⟨i,hi⟩:∃i:Nat,(ls.headD .hole).toInt=i:=⟨(ls.headD .hole).toInt.toNat,by omega⟩
 obtain ⟨j,hj⟩:∃j:Nat,(ls.tail.headD .hole).toInt=j:=⟨(ls.tail.headD .hole).toInt.toNat,by omega⟩
 rw [hi,hj] at hc ⊢
 obtain ⟨A,n,c,rfl,hn,hnc,hA⟩:=hown.qC
 have hn':xs.length=n:=hn
 obtain ⟨g,rfl⟩:=hA (by omega)
 obtain ⟨te,cur,v,Sf,_,_,k3,k4,k5,k6,k7,k8,k9,k10⟩:=bA.inv hown (by omega)
 rw [show aO.e=53 from rfl,nM] at k5 k9 k10
 simp only [List.length_cons,List.length_nil,Nat.zero_add,Nat.reduceAdd] at k5 k9
 have hel:∀k,k<n*2->∃y,cur[k]?=some y/\y.oneCell'=true:=by
  intro k hk
  have hm2:k % 2<2:=Nat.mod_lt _ (by omega)
  obtain ⟨kk,hkk⟩:∃kk,([.str,gv]:List K)[k % 2]?=some kk:=⟨_,List.getElem?_eq_getElem (by simpa using hm2)⟩
  have h3:=k9 (k / 2) (k % 2) kk (by omega) hkk
  rw [show k / 2*2+k % 2=k by omega] at h3
  exact ⟨_,h3,(k10 (k / 2) (k % 2) kk (by omega) hkk).one⟩
 refine (calls g n c i j te cur w k4 k5 (by omega) (by omega) hnc k3 (fun y hy=>?_)).mono fun e w' ⟨q1,us,q2,q3⟩=>?_
 ·obtain ⟨t,ht⟩:=List.getElem?_of_mem hy
  rw [List.getElem?_take] at ht
  split at ht
  ·rw [List.getElem?_drop,Array.getElem?_toList] at ht
   obtain ⟨z,hz,hz1⟩:=hel (j*2+t) (by omega)
   rw [ht] at hz;injection hz with hz;rw [hz];exact hz1
  ·cases ht
 ·have hsz:cur.toList.length=c*2:=by rw [Array.length_toList,k5]
  have hnl:((cur.toList.drop (j*2)).take ((n - j)*2)).length=(n - j)*2:=by rw [List.length_take,List.length_drop,hsz];omega
  obtain ⟨cur1,c1,c2,c3,c4⟩:=dN g ((cur.toList.drop (j*2)).take ((n - j)*2)) (0+i*2) w.drew cur te k4 (by rw [hnl];omega)
  obtain ⟨cur2,d1,d2,d3,d4⟩:=dN g us ((n - (j - i))*2) _ cur1 te c1 (by rw [q2];omega)
  obtain ⟨a1,a2,a3,a4,a5⟩:=eZ g ((cur.toList.drop (j*2)).take ((n - j)*2)) (0+i*2) w.drew
  obtain ⟨b1,b2,b3,b4,b5⟩:=eZ g us ((n - (j - i))*2) (w.drew.setCells g (0+i*2) ((cur.toList.drop (j*2)).take ((n - j)*2)))
  rw [<-q3] at d1 b1 b2 b3 b4 b5
  refine ⟨_,S,q1,⟨b1.trans a1,b2.trans a2,b3.trans a3,Nat.le_of_eq (b4.trans a4).symm,fun b hb hn=>?_⟩,?_,fun b hb=>⟨by rw [b4,a4];exact hS b hb,.inl hb⟩⟩
  ·have hbg:b≠g:=by rintro rfl;exact hn k6
   rw [b5 b hbg,a5 b hbg];rfl
  ·refine bA.plain (cur:=cur2) (v:=fun a b=>v (if a<i then a else a+(j - i)) b) (by rw [show aO.e=53 from rfl,nM];rfl) ?_ (by omega) k3 d1 (by rw [show aO.e=53 from rfl,nM,d2,c2,k5];rfl) k6 fun a b k ha hb=>?_
   ·show (xs.take ((i:Int).toNat)++xs.drop ((j:Int).toNat)).length=_
    simp only [List.length_append,List.length_take,List.length_drop,Int.toNat_natCast]
    omega
   ·rw [show aO.e=53 from rfl,nM] at hb ⊢
    have hb2:b<2:=by have:=(List.getElem?_eq_some_iff.1 hb).1;simpa using this
    have hidx:(if a<i then a else a+(j - i))<n:=by split<;>omega
    refine ⟨?_,w,S,?_⟩
    ·show cur2[a*2+b]?=some (v (if a<i then a else a+(j - i)) b)
     rw [d3 _ (.inl (by omega))]
     by_cases hai:a<i
     ·rw [if_pos hai,c3 _ (.inl (by omega))]
      exact k9 a b k (by omega) hb
     ·rw [if_neg hai]
      have:=c4 (a*2+b - i*2) (by rw [hnl];omega)
      rw [show 0+i*2+(a*2+b - i*2)=a*2+b by omega] at this
      rw [this,List.getElem?_take,if_pos (by omega),List.getElem?_drop,Array.getElem?_toList]
      have h9:=k9 (a+(j - i)) b k (by omega) hb
      rw [show (a+(j - i))*2+b=j*2+(a*2+b - i*2) by omega] at h9
      exact h9
    ·have h10:=(k10 (if a<i then a else a+(j - i)) b k hidx hb).rd
     have he:(xs.take ((i:Int).toNat)++xs.drop ((j:Int).toNat)).getD a []=xs.getD (if a<i then a else a+(j - i)) []:=by
      simp only [Int.toNat_natCast,List.getD_eq_getElem?_getD]
      by_cases hai:a<i
      ·rw [if_pos hai,List.getElem?_append_left (by simp;omega),List.getElem?_take,if_pos hai]
      ·rw [if_neg hai,List.getElem?_append_right (by simp;omega),List.getElem?_drop]
       congr 2
       simp;omega
     show Rd _ w S k _ (((xs.take ((i:Int).toNat)++xs.drop ((j:Int).toNat)).getD a []).getD b .hole)
     rw [he]
     exact h10.mono fun b hb=>(k7 _ _ b hb).1
def ic (_:Nat):fV:=vr Ev aO
def uq (n:Nat):ez Try.prog Ev n 32 (ic n):=qv ur
end Z22
namespace Z23
def F (x0:av)(x1:aA):aj:=(call (Z11.R x0) fun v1=>(call (Z14.R (x0,x1)) fun v2=>(call (Z21.R x0) fun v3=>(cond (!v3) (ret ((v1,false):av×Bool)) (cond (decide (v2<0)) (ret ((v1,false):av×Bool)) (call (Z22.R (v1,v2,(i64.wrap (v2+1)))) fun v4=>ret ((v4,true):av×Bool)))))))
def pats:List fO:=[.rd (.sl 53),.rd (.str)]
def res:RP:=.fD [(false,[.fr 53]),(false,[.rd (.bool)])]
abbrev E:Env:={ T:=assoc vA,G:=bN [(29,Z11.aO),(30,Z14.aO),(31,Z21.aO)],nt:=26,M:=dA [],I:=oK [(32,Z22.ic 0)] }
def run_eq (n:Nat)(ls:List L):eB E (fun _=>[]) Try.f13 res n (cH pats ls)=F (ls.headD .hole).az ((aD 1 ls).headD .hole).toStr:=by kernel_rfl
def md (a0:List aa)(a1:aA):List aa×Bool:=(cond (!(Z21.md a0)) (a0,false) (cond (decide ((Z14.md a0 a1)<0)) (a0,false) ((Z22.md a0 (Z14.md a0 a1) (i64.wrap ((Z14.md a0 a1)+1))),true)))
def gd (a0:List aa)(a1:aA):Prop:=(fU (2^21) (fun y:aa=>aa.Sm (2^21) y) a0)
def acc (ls:List L):av×aA:=((ls.headD .hole).az,((aD 1 ls).headD .hole).toStr)
def R:(av×aA)->Option (av×Bool):=RR (p2 gd) (u2 md)
def aQ {a0 a1}(h:gd a0 a1):R ((a0.map aa.row),a1)=some (((md a0 a1).1.map aa.row),(md a0 a1).2):=bM (a:=(a0,a1)) h
def aO:fk:=CN pats res acc R
def cU (a0 : List aa) (a1 : aA) (hg : gd a0 a1) : F (a0.map aa.row) a1 = ret ((((md a0 a1).1.map aa.row), (md a0 a1).2) : av × Bool) := by
  unfold gd at hg
  have H0 := hg
  unfold F md
  try simp only [SS]
  refine ct (Z11.aQ H0) ?_
  try simp only [SS]
  refine ct (Z14.aQ H0) ?_
  have fv2_ := Z14.fa a0 a1
  refine ct (Z21.aQ H0) ?_
  refine dM (fun b : List aa × Bool => ret (((b.1.map aa.row), b.2) : av × Bool)) (fun c1 => ?_) (fun c1 => ?_)
  · all_goals exact fz
  · have dc1 := c1
    try simp only [DC] at dc1
    refine dM (fun b : List aa × Bool => ret (((b.1.map aa.row), b.2) : av × Bool)) (fun c2 => ?_) (fun c2 => ?_)
    · all_goals exact fz
    · have dc2 := c2
      try simp only [DC] at dc2
      refine ct (Z22.aQ (by
            have := (H0).1
            exact ⟨om, om, om⟩)) ?_
      try simp only [SS]
      all_goals exact fz
def ay:jg 13 aO:=VI (mt:=false) (run:=fun _ x=>F x.1 x.2) mix aX (.cons Z11.ay (.cons Z14.ay (.cons Z21.ay .nil))) .nil (.cons (Z22.uq 0) .nil) Try.func13 (by kernel_rfl) run_eq (fun _ a _ _ hg=>⟨0,cU a.1 a.2 hg⟩)
def br (a0:List aa)(a1:aA):md a0 a1=Z10.md a0 a1:=by
 unfold md Z10.md
 rw [Z14.br,Z21.br]
 have e:Z22.md a0 (Z4.md a0 a1) (i64.wrap (Z4.md a0 a1+1))=(List.take (toNat ((Z4.md a0 a1) - 0)) (List.drop 0 a0))++(List.take (toNat ((a0.length:Int) - (i64.wrap ((Z4.md a0 a1)+1)))) (List.drop (toNat (i64.wrap ((Z4.md a0 a1)+1))) a0)):=by
  unfold Z22.md
  rw [List.take_of_length_le (i:=toNat ((a0.length:Int) - (i64.wrap ((Z4.md a0 a1)+1)))) (l:=List.drop (toNat (i64.wrap ((Z4.md a0 a1)+1))) a0) (by rw [List.length_drop];omega),List.drop_zero,Int.sub_zero]
 rw [e]
 cases Z9.md a0<;>cases decide (Z4.md a0 a1<0)<;>rfl
end Z23
namespace Z24
def F (x0 x1:aa):aj:=(cond (!(x0.fName==x1.fName)) bf (cond (x0.eu != x1.eu) bf lT))
def md (a0 a1:aa):Bool:=lK a0 a1
def gd (a0 a1:aa):Prop:=True
def R:=RR (p2 gd) (u2 md)
def aQ {a0 a1}(h:gd a0 a1):R (a0,a1)=some (md a0 a1):=bM (a:=(a0,a1)) h
def aO:=CN [.agg wu,.agg wu] oB RT.dec R
def cU (a0)(a1)(hg:gd a0 a1):F a0 a1=ret (md a0 a1):=by
 unfold md
 show (cond (!(a0.fName==a1.fName)) bf (cond (a0.eu != a1.eu) bf lT))=_
 try simp only [bne,ud,bool_beq,vB]
 have e:lK a0 a1=(lK a0.fName a1.fName&&(lK a0.eu a1.eu&&true)):=by
  cases a0;cases a1
  rw [Bool.eq_iff_iff]
  simp only [eN,Bool.and_eq_true,aa.mk.injEq,and_true]
 rw [e]
 refine pG fun _=>?_
 refine pG fun _=>?_
 rfl
def ay:jg 33 aO:=W2 15 F mix aX cU .nil Try.func33
end Z24
namespace Z25
inductive Pt where
 | p0 (a b:av) (c:Int)
def pid:Pt->Nat
 | .p0 ..=>4
def gx:Pt->List V
 | .p0 a b c=>[.sl none 53 a,.sl none 53 b,.int .i64 c]
def gq:Pt->List af
 | .p0 a b c=>[]
def step (J:Pt->aj):Pt->aj
 | .p0 a b c=>(cond (decide (c<(a.length:Int))) (m2 c (a.length:Int) (m2 c (b.length:Int) (call (Z24.R ((aa.at a (toNat c)),(aa.at b (toNat c)))) fun v1=>(cond (!v1) bf (J (.p0 a b (i64.wrap (c+1)))))))) lT)
def start (J:Pt->aj)(x0 x1:av):aj:=(cond ((x0.length:Int) != (x1.length:Int)) bf (J (.p0 x0 x1 0)))
def live:Nat->Live:=fun i=>match i with | 4=>[(0,none),(1,none),(5,none)] | _=>[]
def pats:List fO:=[.rd (.sl 53),.rd (.sl 53)]
def res:RP:=.one (.rd (.bool))
abbrev E:Env:={ T:=assoc vA,G:=bN [(33,Z24.aO)],nt:=27 }
def step_eq (I:cz)(p:Pt):bJ E live I (pid p) (aR Try.f14) (jY (live (pid p)) (gx p) (gq p)) (cy E Try.f14 res)=step (fun q=>I (pid q) (gx q) (gq q)) p:=by
 cases p<;>kernel_rfl
def start_eq (I:cz)(ls:List L):fC E live I (aR Try.f14) (cH pats ls) (cy E Try.f14 res)=start (fun q=>I (pid q) (gx q) (gq q)) (ls.headD .hole).az ((aD 1 ls).headD .hole).az:=by kernel_rfl
def run_eq (n:Nat)(ls:List L):eB E live Try.f14 res n (cH pats ls)=start (iter step n) (ls.headD .hole).az ((aD 1 ls).headD .hole).az:=dV (id:=pid) (vs:=gx) (hs:=gq) (step:=step) (start:=fun J=>start J (ls.headD .hole).az ((aD 1 ls).headD .hole).az) step_eq (fun I=>start_eq I ls) n
def md (a0 a1:List aa):Bool:=lK a0 a1
def gd (a0 a1:List aa):Prop:=True
def acc (ls:List L):av×av:=((ls.headD .hole).az,((aD 1 ls).headD .hole).az)
def R:(av×av)->Option Bool:=RR (p2 gd) (u2 md)
def aQ {a0 a1}(h:gd a0 a1):R ((a0.map aa.row),(a1.map aa.row))=some (md a0 a1):=bM (a:=(a0,a1)) h
def aO:fk:=CN pats res acc R
def cU (a0 a1:List aa)(hg:gd a0 a1)(h0:a0.length<=maxLen)(h1:a1.length<=maxLen):∃n,start (iter step n) (a0.map aa.row) (a1.map aa.row)=ret ((md a0 a1):Bool):=by
 unfold start md
 simp only [List.length_map]
 refine uD (pt:=fun i=>Pt.p0 (a0.map aa.row) (a1.map aa.row) (i:Int)) (fun hl J i h h2=>?_) (fun J=>?_)
 ·simp only [step,MM,List.length_map,bn h,bn h2,aW,ah,fq,aa.nA h,aa.nA h2]
  rw [aE h h0]
  rw [call_eq (Z24.aQ (a0:=a0[i]) (a1:=a1[i]) trivial),Z24.md]
  cases lK a0[i] a1[i]<;>rfl
 ·simp only [step,List.length_map,nQ,aq]
def ay:jg 14 aO:=VV (run:=fun n x=>start (iter step n) x.1 x.2) mix aX (.cons Z24.ay .nil) Try.func14 (by kernel_rfl) run_eq (fun ls a hl e hg=>cU a.1 a.2 hg (by have h:(ls.headD .hole).az.length<=maxLen:=hl.1.len;have e:a.1.map aa.row=(ls.headD .hole).az:=(congrArg (fun x=>x.1) e.symm);rw [<-e] at h;simpa using h) (by have h:((aD 1 ls).headD .hole).az.length<=maxLen:=hl.2.1.len;have e:a.2.map aa.row=((aD 1 ls).headD .hole).az:=(congrArg (fun x=>x.2) e.symm);rw [<-e] at h;simpa using h))
end Z25
namespace Z26
inductive Pt where
 | p0 (a:Int) (b:aA)
def pid:Pt->Nat
 | .p0 ..=>4
def gx:Pt->List V
 | .p0 a b=>[.int .i64 a,.str b]
def gq:Pt->List af
 | .p0 a b=>[]
def step (J:Pt->aj):Pt->aj
 | .p0 a b=>(cond (decide (a>0)) (cond (decide ((((ou [[L.int (IntKind.u8.wrap (i64.wrap (48+(Int.tmod a 10))))]]).size+b.size:Nat):Int)>9223372036854775807)) none (J (.p0 (i64.wrap (Int.tdiv a 10)) ((ou [[L.int (IntKind.u8.wrap (i64.wrap (48+(Int.tmod a 10))))]])++b)))) (cond (decide ((((⟨#[109]⟩:aA).size+b.size:Nat):Int)>9223372036854775807)) none (ret (((⟨#[109]⟩:aA)++b):aA))))
def start (J:Pt->aj)(x0:Int):aj:=(cond (decide (x0<=0)) (ret ((⟨#[109,48]⟩:aA):aA)) (J (.p0 x0 ⟨#[]⟩)))
def live:Nat->Live:=fun i=>match i with | 4=>[(0,none),(3,none)] | _=>[]
def dg (a:Int):aA:=ou [[L.int (IntKind.u8.wrap (i64.wrap (48+(Int.tmod a 10))))]]
def txt:Nat->Int->aA->aA
 | 0,_,b=>b
 | n+1,a,b=>bif decide (a>0) then txt n (i64.wrap (Int.tdiv a 10)) (dg a++b) else b
def uF (a:Int):(ou [[L.int (IntKind.u8.wrap (i64.wrap (48+(Int.tmod a 10))))]]).size=1:=rfl
def run:∀(n:Nat) (a:Int) (b:aA),n<=64->a<2^n->nE a->b.size+n<=1000->∃m,iter step m (.p0 a b)=ret ((⟨#[109]⟩:aA)++txt n a b)
 | 0,a,b,_,h1,_,h3=>by
  refine ⟨1,?_⟩
  show step _ (.p0 a b)=_
  have e1:decide (a>0)=false:=decide_eq_false (by simp at h1;omega)
  have e2:decide ((((⟨#[109]⟩:aA).size+b.size:Nat):Int)>9223372036854775807)=false:=decide_eq_false (by have :(⟨#[109]⟩:aA).size=1:=rfl;omega)
  simp only [step,e1,e2,aq]
  rfl
 | n+1,a,b,hn,h1,h2,h3=>by
  by_cases hp:a>0
  ·have e1:decide (a>0)=true:=decide_eq_true hp
   have hq:Int.tdiv a 10=a / 10:=Int.tdiv_eq_ediv_of_nonneg (by omega)
   unfold nE at h2
   have hw:i64.wrap (Int.tdiv a 10)=a / 10:=by rw [hq];exact wi _ (by omega)
   have hlt:a / 10<2^n:=by
    have :(2:Int)^(n+1)=2^n*2:=Int.pow_succ 2 n
    omega
   have hs:(dg a++b).size=1+b.size:=by rw [ByteArray.size_append];rfl
   obtain ⟨m,hm⟩:=run n (a / 10) (dg a++b) (by omega) hlt ⟨by omega,by omega⟩ (by rw [hs];omega)
   refine ⟨m+1,?_⟩
   show step _ (.p0 a b)=_
   have e2:decide ((((ou [[L.int (IntKind.u8.wrap (i64.wrap (48+(Int.tmod a 10))))]]).size+b.size:Nat):Int)>9223372036854775807)=false:=decide_eq_false (by rw [uF];omega)
   simp only [step,txt,e1,e2,ah,aq,hw]
   exact hm
  ·refine ⟨1,?_⟩
   show step _ (.p0 a b)=_
   have e1:decide (a>0)=false:=decide_eq_false hp
   have e2:decide ((((⟨#[109]⟩:aA).size+b.size:Nat):Int)>9223372036854775807)=false:=decide_eq_false (by have :(⟨#[109]⟩:aA).size=1:=rfl;omega)
   simp only [step,txt,e1,e2,aq]
def md (a0:Int):aA:=(cond (decide (a0<=0)) (⟨#[109,48]⟩:aA) ((⟨#[109]⟩:aA)++txt 64 a0 ⟨#[]⟩))
def gd (a0:Int):Prop:=nE a0
def R:=RR gd md
def aQ {a0}(h:gd a0):R a0=some (md a0):=bM (a:=a0) h
def aO:=CN [pI] oS RT.dec R
def cU (a0)(hg:gd a0):∃n,start (iter step n) a0=ret (md a0):=by
 unfold gd at hg
 unfold start md
 cases h:decide (a0<=0)
 ·have h2:=hg.2
  have h3:(2:Int)^64=18446744073709551616:=by decide
  obtain ⟨m,hm⟩:=run 64 a0 ⟨#[]⟩ (Nat.le_refl _) (by rw [h3];omega) hg (by show 0+64<=1000;omega)
  exact ⟨m,hm⟩
 ·exact ⟨0,rfl⟩
def ay:jg 34 aO:=L1 20 pid gx gq live step start mix aX cU .nil Try.func34
end Z26
namespace Z27
set_option maxHeartbeats 8000000
inductive Pt where
 | p0 (a b:Int) (c:av)
def pid:Pt->Nat
 | .p0 ..=>2
def gx:Pt->List V
 | .p0 a b c=>[.own 0,.int .i64 a,.int .i64 b]
def gq:Pt->List af
 | .p0 a b c=>[.row 53 c]
def step (J:Pt->aj):Pt->aj
 | .p0 a b c=>(cond (decide (b<(c.length:Int))) (call (Z26.R a) fun v1=>(m2 b (c.length:Int) (m2 b (c.length:Int) (lR (wT b) (J (.p0 (i64.wrap ((i64.wrap (a+1))+1)) (i64.wrap (b+1)) (List.set c (toNat b) (aa.enc (⟨v1,(i64.wrap (a+1))⟩:aa))))))))) (ret ((a,c):Int×av)))
def start (J:Pt->aj)(x0:av)(x1:Int):aj:=J (.p0 x1 0 x0)
def live:Nat->Live:=fun i=>match i with | 2=>[(0,none),(1,none),(5,none)] | _=>[]
def pats:List (Bool×List K):=[(false,[.sl 53]),(false,[gv])]
def res:RP:=.oE [53]
abbrev E:Env:={ T:=assoc vA,G:=bN [(34,Z26.aO)],nt:=28,M:=dA [],np:=1,mt:=true }
def step_eq (I:cz)(p:Pt):bJ E live I (pid p) (aR Try.f15) (jY (live (pid p)) (gx p) (gq p)) (cy E Try.f15 res)=step (fun q=>I (pid q) (gx q) (gq q)) p:=by
 cases p<;>kernel_rfl
def start_eq (I:cz)(ls:List L):fC E live I (aR Try.f15) (qh pats ls) (cy E Try.f15 res)=start (fun q=>I (pid q) (gx q) (gq q)) (ls.headD .hole).az ((aD 1 ls).headD .hole).toInt:=by kernel_rfl
def run_eq (n:Nat)(ls:List L):eB E live Try.f15 res n (qh pats ls)=start (iter step n) (ls.headD .hole).az ((aD 1 ls).headD .hole).toInt:=dV (id:=pid) (vs:=gx) (hs:=gq) (step:=step) (start:=fun J=>start J (ls.headD .hole).az ((aD 1 ls).headD .hole).toInt) step_eq (fun I=>start_eq I ls) n
def el (x:aa)(k:Int):Int×aa:=((i64.wrap ((i64.wrap (k+1))+1)),(⟨(Z26.md k),(i64.wrap (k+1))⟩:aa))
def vS (x:aa)(k:Int)(hk:nE k):nE (el x k).1:=(oP _)
def cnt (x:aa):Nat:=2
def sum (a:List aa):Nat:=(a.map cnt).sum
def md (a0:List aa)(a1:Int):Int×List aa:=iB el a0 a1
def gd (a0:List aa)(a1:Int):Prop:=nE a1
def acc (ls:List L):av×Int:=((ls.headD .hole).az,((aD 1 ls).headD .hole).toInt)
def R:(av×Int)->Option (Int×av):=RR (p2 gd) (u2 md)
def aQ {a0 a1}(h:gd a0 a1):R ((a0.map aa.row),a1)=some ((md a0 a1).1,((md a0 a1).2.map aa.row)):=bM (a:=(a0,a1)) h
def aO:fu:=MN pats acc R
def cU (a0:List aa)(a1:Int)(hg:gd a0 a1)(h0:a0.length<=maxLen):∃n,start (iter step n) (a0.map aa.row) a1=ret (((md a0 a1).1,((md a0 a1).2.map aa.row)):Int×av):=by
 unfold gd at hg
 show ∃n,iter step n (Pt.p0 a1 0 (a0.map aa.row))=_
 unfold md
 refine rD (el:=el) (xs:=a0) aa.zero nE vS (pt:=fun i k c=>Pt.p0 k (i:Int) (c.map aa.row)) (out:=fun b=>ret (b.1,b.2.map aa.row)) (fun J i k c hi hc hk=>?_) (fun J k c hc=>?_) hg
 ·have hm:c.length<=maxLen:=hc ▸ h0
  simp only [step,SS]
  refine bR (bn hi) ?_
  refine bq (Z26.md k) (Z26.aQ (a0:=k) hk) ?_
  repeat first | refine bR aW ?_ | refine bR (bn hi) ?_ | refine bR (vT _) ?_
  rw [aE hi hm]
  exact congrArg (fun q=>J (Pt.p0 (el (c.getD i aa.zero) k).1 ((i+1:Nat):Int) q)) (List.map_set (f:=aa.row) (l:=c) (i:=i) (a:=(el (c.getD i aa.zero) k).2)).symm
 ·simp only [step,SS]
  refine cJ (by apply decide_eq_false;omega) ?_
  rfl
def ay:cP Try.prog Ev 15 aO:=MV (run:=fun n x=>start (iter step n) x.1 x.2) mix aX (.cons Z26.ay .nil) .nil Try.func15 (by kernel_rfl) run_eq (fun ls a hl e hg=>cU a.1 a.2 hg (by have h:(ls.headD .hole).az.length<=maxLen:=(hl _ _ (.head _)).len;have e:a.1.map aa.row=(ls.headD .hole).az:=(congrArg (fun x=>x.1) e.symm);rw [<-e] at h;simpa using h))
def iq {a0:List aa}{a1:Int}(h:nE a1):nE (md a0 a1).1:=td vS h
def wN (x:aa)(k:Int)(h0:0<=k)(hb:k+(cnt x:Int)<=4611686018427387904):(el x k).1=k+cnt x:=by
 simp only [cnt,Int.natCast_add] at hb ⊢
 simp (disch:=omega) only [el,wi]
 all_goals first | done | omega
def kk (a0:List aa)(a1:Int)(h0:0<=a1)(hb:a1+(sum a0:Int)<=4611686018427387904):(md a0 a1).1=a1+sum a0:=pT wN a0 a1 h0 hb
def sz (a:List aa):sum a<=60*(tS (fun y:aa=>aa.size y) a):=tK (fun x=>by
 try simp only [cnt,aa.size] at *
 omega) a
end Z27
namespace Z28
set_option maxHeartbeats 8000000
inductive Pt where
 | p0 (a:av) (b c:Int)
def pid:Pt->Nat
 | .p0 ..=>2
def gx:Pt->List V
 | .p0 a b c=>[.sl none 53 a,.int .i64 b,.int .i64 c]
def gq:Pt->List af
 | .p0 a b c=>[]
def step (J:Pt->aj):Pt->aj
 | .p0 a b c=>(cond (decide (c<(a.length:Int))) (m2 c (a.length:Int) (call (Z26.R b) fun v1=>(cond (!((aa.at a (toNat c)).fName==v1)) (ret ((-1):Int)) (m2 c (a.length:Int) (cond ((aa.at a (toNat c)).eu != (i64.wrap (b+1))) (ret ((-1):Int)) (J (.p0 a (i64.wrap ((i64.wrap (b+1))+1)) (i64.wrap (c+1))))))))) (ret (b:Int)))
def start (J:Pt->aj)(x0:av)(x1:Int):aj:=J (.p0 x0 x1 0)
def live:Nat->Live:=fun i=>match i with | 2=>[(0,none),(1,none),(5,none)] | _=>[]
def pats:List fO:=[.rd (.sl 53),.rd (.int .i64)]
def res:RP:=.one (.rd (.int .i64))
abbrev E:Env:={ T:=assoc vA,G:=bN [(34,Z26.aO)],nt:=32 }
def step_eq (I:cz)(p:Pt):bJ E live I (pid p) (aR Try.f16) (jY (live (pid p)) (gx p) (gq p)) (cy E Try.f16 res)=step (fun q=>I (pid q) (gx q) (gq q)) p:=by
 cases p<;>kernel_rfl
def start_eq (I:cz)(ls:List L):fC E live I (aR Try.f16) (cH pats ls) (cy E Try.f16 res)=start (fun q=>I (pid q) (gx q) (gq q)) (ls.headD .hole).az ((aD 1 ls).headD .hole).toInt:=by kernel_rfl
def run_eq (n:Nat)(ls:List L):eB E live Try.f16 res n (cH pats ls)=start (iter step n) (ls.headD .hole).az ((aD 1 ls).headD .hole).toInt:=dV (id:=pid) (vs:=gx) (hs:=gq) (step:=step) (start:=fun J=>start J (ls.headD .hole).az ((aD 1 ls).headD .hole).toInt) step_eq (fun I=>start_eq I ls) n
def f (x:aa)(k:Int):Option Int:=(cond (!(x.fName==(Z26.md k))) none (cond (x.eu != (i64.wrap (k+1))) none (some (i64.wrap ((i64.wrap (k+1))+1)))))
def wK (x:aa)(k k2:Int)(hk:nE k)(h:f x k=some k2):nE k2:=by
 unfold f at h
 have h:=oO h
 have h:=oO h
 injection h with h
 subst h
 exact (oP _)
def md (a0:List aa)(a1:Int):Int:=gU f a0 a1
def gd (a0:List aa)(a1:Int):Prop:=nE a1
def acc (ls:List L):av×Int:=((ls.headD .hole).az,((aD 1 ls).headD .hole).toInt)
def R:(av×Int)->Option Int:=RR (p2 gd) (u2 md)
def aQ {a0 a1}(h:gd a0 a1):R ((a0.map aa.row),a1)=some (md a0 a1):=bM (a:=(a0,a1)) h
def aO:fk:=CN pats res acc R
def cU (a0:List aa)(a1:Int)(hg:gd a0 a1)(h0:a0.length<=maxLen):∃n,start (iter step n) (a0.map aa.row) a1=ret ((md a0 a1):Int):=by
 unfold gd at hg
 show ∃n,iter step n (Pt.p0 (a0.map aa.row) a1 0)=_
 unfold md
 refine rU (f:=f) (xs:=a0) aa.zero nE wK (pt:=fun i k=>Pt.p0 (a0.map aa.row) k (i:Int)) (fun J i k hi hk=>?_) (fun J k=>?_) hg
 ·simp only [step,SS]
  refine bR (bn hi) ?_
  refine bR aW ?_
  refine bR (bn hi) ?_
  refine bq (Z26.md k) (Z26.aQ (a0:=k) hk) ?_
  refine pz rfl ?_
  refine bR aW ?_
  refine bR (bn hi) ?_
  refine pz rfl ?_
  rw [aE hi h0]
  rfl
 ·simp only [step,SS]
  refine cJ (by apply decide_eq_false;omega) ?_
  rfl
def ay:jg 16 aO:=VV (run:=fun n x=>start (iter step n) x.1 x.2) mix aX (.cons Z26.ay .nil) Try.func16 (by kernel_rfl) run_eq (fun ls a hl e hg=>cU a.1 a.2 hg (by have h:(ls.headD .hole).az.length<=maxLen:=hl.1.len;have e:a.1.map aa.row=(ls.headD .hole).az:=(congrArg (fun x=>x.1) e.symm);rw [<-e] at h;simpa using h))
def iq {a0:List aa}{a1:Int}(h:nE a1):nE (md a0 a1):=rB wK uE h
def wS (x:aa)(k:Int)(h0:0<=k)(hb:k+(Z27.cnt x:Int)<=4611686018427387904):f (Z27.el x k).2 k=some (k+Z27.cnt x):=by
 simp only [Z27.cnt,Int.natCast_add] at hb ⊢
 simp (disch:=omega) only [Z27.el,f,wi,bne_self_eq_false,beq_self_eq_true,cW,Bool.not_true,aq,gC]
 all_goals first | done | omega | (congr 1<;>omega)
def mk (a0:List aa)(a1:Int)(h0:0<=a1)(hb:a1+(Z27.sum a0:Int)<=4611686018427387904):md (Z27.md a0 a1).2 a1=a1+Z27.sum a0:=mW Z27.wN wS a0 a1 h0 hb
end Z28
namespace Z29
def F (x0:av)(x1:aA):aj:=(cond (decide ((x1.size:Int)>1048576)) lT (call (Z1.R (x0,1048576)) fun v1=>(cond (decide (v1<0)) lT (call (Z3.R x0) fun v2=>(call (Z10.R (v2,x1)) fun v3=>(call (Z3.R x0) fun v4=>(call (Z23.R (v4,x1)) fun v5=>(call (Z25.R (v5.1,v3.1)) fun v6=>(cond (!v6) bf (cond (!(v5.2==v3.2)) bf (call (Z3.R x0) fun v7=>(call (Z25.R (v4,v7)) fun v8=>(cond (!v8) bf (call (Z27.R (v4,1)) fun v9=>(cond (decide (v9.1<0)) bf (call (Z25.R (v5.1,v3.1)) fun v10=>(cond (!v10) bf (cond (!(v5.2==v3.2)) bf (call (Z27.R (v5.1,1)) fun v11=>(call (Z28.R (v11.2,1)) fun v12=>(cond (decide (v12<0)) bf (cond (v12 != v11.1) bf (call (Z3.R x0) fun v13=>(call (Z23.R (v13,x1)) fun v14=>(call (Z25.R (v14.1,v3.1)) fun v15=>(cond (!v15) bf (cond (!(v14.2==v3.2)) bf (call (Z28.R (v11.2,1)) fun v16=>(cond (decide (v16<0)) bf (cond (v16 != v11.1) bf lT))))))))))))))))))))))))))))))
def pats:List fO:=[.rd (.sl 49),.rd (.str)]
def res:RP:=.one (.rd (.bool))
def md (a0:List aa)(a1:aA):Bool:=true
def gd (a0:List aa)(a1:aA):Prop:=(fU maxLen (fun y:aa=>aa.Sm maxLen y) a0)/\(a1.size<=maxLen)
def acc (ls:List L):av×aA:=((ls.headD .hole).az,((aD 1 ls).headD .hole).toStr)
def R:(av×aA)->Option Bool:=RR (p2 gd) (u2 md)
def aQ {a0 a1}(h:gd a0 a1):R ((a0.map aa.row),a1)=some (md a0 a1):=bM (a:=(a0,a1)) h
def aO:fk:=CN pats res acc R
def cU (a0:List aa)(a1:aA)(hg:gd a0 a1):F (a0.map aa.row) a1=ret ((md a0 a1):Bool):=by
 unfold md
 show (bif (decide ((a1.size:Int)>1048576)) then lT else (call (Z1.R ((a0.map aa.row),1048576)) fun v1=>(bif (decide (v1<0)) then lT else (call (Z3.R (a0.map aa.row)) fun v2=>(call (Z10.R (v2,a1)) fun v3=>(call (Z3.R (a0.map aa.row)) fun v4=>(call (Z23.R (v4,a1)) fun v5=>(call (Z25.R (v5.1,v3.1)) fun v6=>(bif (!v6) then bf else (bif (!(v5.2==v3.2)) then bf else (call (Z3.R (a0.map aa.row)) fun v7=>(call (Z25.R (v4,v7)) fun v8=>(bif (!v8) then bf else (call (Z27.R (v4,1)) fun v9=>(bif (decide (v9.1<0)) then bf else (call (Z25.R (v5.1,v3.1)) fun v10=>(bif (!v10) then bf else (bif (!(v5.2==v3.2)) then bf else (call (Z27.R (v5.1,1)) fun v11=>(call (Z28.R (v11.2,1)) fun v12=>(bif (decide (v12<0)) then bf else (bif (v12 != v11.1) then bf else (call (Z3.R (a0.map aa.row)) fun v13=>(call (Z23.R (v13,a1)) fun v14=>(call (Z25.R (v14.1,v3.1)) fun v15=>(bif (!v15) then bf else (bif (!(v14.2==v3.2)) then bf else (call (Z28.R (v11.2,1)) fun v16=>(cond (decide (v16<0)) bf (cond (v16 != v11.1) bf lT))))))))))))))))))))))))))))))=_
 by_cases q1:((a1.size:Int)>1048576)
 ·rw [decide_eq_true q1];rfl
 rw [decide_eq_false q1,aq]
 have s1:a1.size<=2^20:=by omega
 rw [call_eq (Z1.aQ (a1:=(1048576:Int)) ⟨hg.1,by omega,by omega⟩)]
 unfold Z1.md
 by_cases c0:(1048576:Int)<(((tS (fun y:aa=>aa.size y) a0):Nat):Int)
 ·rw [iU c0];rfl
 rw [kF c0,gC (by omega)]
 simp only [aq]
 have s0:fU (2^20) (fun y:aa=>aa.Sm (2^20) y) a0:=(vm (f:=fun y:aa=>aa.size y) (by omega) (fun x hx=>(aa.vL hx)))
 refine bq (a0.map aa.row) (Z3.aQ (a0:=a0) (s0.mono (by decide) (fun x hx=>(aa.cY (by decide) hx)))) ?_
 refine bq (((Z10.md a0 a1).1.map aa.row),(Z10.md a0 a1).2) (Z10.aQ (a0:=a0) (a1:=a1) (by
  have:=And.intro trivial trivial
  unfold Z10.gd
  first | exact (s0.mono (by decide) (fun x hx=>(aa.cY (by decide) hx))) | refine ⟨(s0.mono (by decide) (fun x hx=>(aa.cY (by decide) hx))),(le_trans s1 (by decide))⟩)) ?_
 refine bq (a0.map aa.row) (Z3.aQ (a0:=a0) (s0.mono (by decide) (fun x hx=>(aa.cY (by decide) hx)))) ?_
 have r_:=Z23.aQ (a0:=a0) (a1:=a1) (by
  have:=And.intro trivial trivial
  unfold Z23.gd
  first | exact (s0.mono (by decide) (fun x hx=>(aa.cY (by decide) hx))) | refine ⟨(s0.mono (by decide) (fun x hx=>(aa.cY (by decide) hx)))⟩)
 rw [Z23.br] at r_
 refine bq (((Z10.md a0 a1).1.map aa.row),(Z10.md a0 a1).2) r_ ?_
 clear r_
 refine bq _ (Z25.aQ (a0:=((Z10.md a0 a1).1)) (a1:=((Z10.md a0 a1).1)) trivial) ?_
 refine cJ (by first | (simp only [bne_self_eq_false,beq_self_eq_true,cW,cC,Bool.not_true,Z25.md];done) | (refine bne_eq_false_iff_eq.2 ?_;omega)) ?_
 refine cJ (by first | (simp only [bne_self_eq_false,beq_self_eq_true,cW,cC,Bool.not_true,Z25.md];done) | (refine bne_eq_false_iff_eq.2 ?_;omega)) ?_
 refine bq (a0.map aa.row) (Z3.aQ (a0:=a0) (s0.mono (by decide) (fun x hx=>(aa.cY (by decide) hx)))) ?_
 refine bq _ (Z25.aQ (a0:=a0) (a1:=a0) trivial) ?_
 refine cJ (by first | (simp only [bne_self_eq_false,beq_self_eq_true,cW,cC,Bool.not_true,Z25.md];done) | (refine bne_eq_false_iff_eq.2 ?_;omega)) ?_
 have u1:=Z27.sz a0
 refine bq ((Z27.md a0 1).1,((Z27.md a0 1).2.map aa.row)) (Z27.aQ (a0:=a0) (a1:=1) kB) ?_
 have k2:=Z27.kk a0 1 (by omega) (by omega)
 refine cJ (gC (by omega)) ?_
 refine bq _ (Z25.aQ (a0:=((Z10.md a0 a1).1)) (a1:=((Z10.md a0 a1).1)) trivial) ?_
 refine cJ (by first | (simp only [bne_self_eq_false,beq_self_eq_true,cW,cC,Bool.not_true,Z25.md];done) | (refine bne_eq_false_iff_eq.2 ?_;omega)) ?_
 refine cJ (by first | (simp only [bne_self_eq_false,beq_self_eq_true,cW,cC,Bool.not_true,Z25.md];done) | (refine bne_eq_false_iff_eq.2 ?_;omega)) ?_
 have u3:Z27.sum ((Z10.md a0 a1).1)<=1000000000000000000:=(by
  have hap:∀a b:List aa,Z27.sum (a++b)=Z27.sum a+Z27.sum b:=fun a b=>by simp [Z27.sum]
  have htk:∀(n:Nat) (a:List aa),Z27.sum (a.take n)<=Z27.sum a:=fun n a=>by
   have:=hap (a.take n) (a.drop n)
   rw [List.take_append_drop] at this
   omega
  have hdr:∀(n:Nat) (a:List aa),Z27.sum (a.drop n)<=Z27.sum a:=fun n a=>by
   have:=hap (a.take n) (a.drop n)
   rw [List.take_append_drop] at this
   omega
  have h1:=Z27.sz a0
  unfold Z10.md
  cases decide (Z4.md a0 a1<0)
  ·cases Z9.md a0
   ·simp only [Bool.not_false,aq,ah];omega
   ·simp only [Bool.not_true,aq]
    rw [hap]
    refine le_trans (Nat.add_le_add (le_trans (htk _ _) (hdr _ _)) (le_trans (htk _ _) (hdr _ _))) ?_
    omega
  ·simp only [ah];omega)
 refine bq ((Z27.md ((Z10.md a0 a1).1) 1).1,((Z27.md ((Z10.md a0 a1).1) 1).2.map aa.row)) (Z27.aQ (a0:=((Z10.md a0 a1).1)) (a1:=1) kB) ?_
 have k4:=Z27.kk ((Z10.md a0 a1).1) 1 (by omega) (by omega)
 refine bq (Z28.md ((Z27.md ((Z10.md a0 a1).1) 1).2) 1) (Z28.aQ (a0:=((Z27.md ((Z10.md a0 a1).1) 1).2)) (a1:=1) kB) ?_
 have h5:(Z28.md ((Z27.md ((Z10.md a0 a1).1) 1).2) 1)=1+(Z27.sum ((Z10.md a0 a1).1):Int):=Z28.mk ((Z10.md a0 a1).1) 1 (by omega) (by omega)
 refine cJ (gC (by omega)) ?_
 refine cJ (by first | (simp only [bne_self_eq_false,beq_self_eq_true,cW,cC,Bool.not_true,Z25.md];done) | (refine bne_eq_false_iff_eq.2 ?_;omega)) ?_
 refine bq (a0.map aa.row) (Z3.aQ (a0:=a0) (s0.mono (by decide) (fun x hx=>(aa.cY (by decide) hx)))) ?_
 have r_:=Z23.aQ (a0:=a0) (a1:=a1) (by
  have:=And.intro trivial trivial
  unfold Z23.gd
  first | exact (s0.mono (by decide) (fun x hx=>(aa.cY (by decide) hx))) | refine ⟨(s0.mono (by decide) (fun x hx=>(aa.cY (by decide) hx)))⟩)
 rw [Z23.br] at r_
 refine bq (((Z10.md a0 a1).1.map aa.row),(Z10.md a0 a1).2) r_ ?_
 clear r_
 refine bq _ (Z25.aQ (a0:=((Z10.md a0 a1).1)) (a1:=((Z10.md a0 a1).1)) trivial) ?_
 refine cJ (by first | (simp only [bne_self_eq_false,beq_self_eq_true,cW,cC,Bool.not_true,Z25.md];done) | (refine bne_eq_false_iff_eq.2 ?_;omega)) ?_
 refine cJ (by first | (simp only [bne_self_eq_false,beq_self_eq_true,cW,cC,Bool.not_true,Z25.md];done) | (refine bne_eq_false_iff_eq.2 ?_;omega)) ?_
 refine bq (Z28.md ((Z27.md ((Z10.md a0 a1).1) 1).2) 1) (Z28.aQ (a0:=((Z27.md ((Z10.md a0 a1).1) 1).2)) (a1:=1) kB) ?_
 have h6:(Z28.md ((Z27.md ((Z10.md a0 a1).1) 1).2) 1)=1+(Z27.sum ((Z10.md a0 a1).1):Int):=Z28.mk ((Z10.md a0 a1).1) 1 (by omega) (by omega)
 refine cJ (gC (by omega)) ?_
 refine cJ (by first | (simp only [bne_self_eq_false,beq_self_eq_true,cW,cC,Bool.not_true,Z25.md];done) | (refine bne_eq_false_iff_eq.2 ?_;omega)) ?_
 rfl
def ay:jg 4 aO:=VS (live:=fun _=>[]) (nt:=104) (run:=fun _ x=>F x.1 x.2) mix aX (.cons Z1.ay (.cons Z3.ay (.cons Z10.ay (.cons Z23.ay (.cons Z25.ay (.cons Z28.ay .nil)))))) (.cons Z27.ay .nil) Try.func4 (by kernel_rfl) (fun _ _=>by kernel_rfl) (fun _ a _ _ hg=>⟨0,cU a.1 a.2 hg⟩)
def rV (r:List L)(h:eD Ev.cells [.str,gv] r):∃x:aa,aa.row x=r/\aa.Sm maxLen x:=by
 obtain ⟨l0,t0,rfl,g0,h1⟩:=h.nI
 obtain ⟨x0,rfl,s0⟩:=sS g0
 obtain ⟨l1,t1,rfl,g1,h2⟩:=h1.nI
 obtain ⟨x1,rfl⟩:=vh g1
 obtain rfl:=h2.uN
 exact ⟨⟨x0,x1⟩,rfl,s0⟩
def holds (ls:List L)(h:eD Ev.cells ([29,9].flatMap Ev.cells) ls):aO.sem ls=some [.bool true]:=by
 have hk:[29,9].flatMap Ev.cells=[.sl 49,.str]:=by kernel_rfl
 rw [hk] at h
 obtain ⟨l0,t0,rfl,g0,h1⟩:=h.nI
 obtain ⟨x0,rfl,s0⟩:=ux (show Ev.cells 49=[.str,gv] from by kernel_rfl) rV g0
 obtain ⟨l1,t1,rfl,g1,h2⟩:=h1.nI
 obtain ⟨x1,rfl,s1⟩:=sS g1
 obtain rfl:=h2.uN
 show (R ((x0.map aa.row),x1)).map RT.enc=_
 rw [aQ ⟨s0,s1⟩]
 rfl
end Z29
end Go.DM
end
