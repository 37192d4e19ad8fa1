/- What the functions compute that the law reaches, and that the law returns true. Conditions: none. -/
import Derived.Test.YtojkbdgmandmpaaGreatLOwnersTy
import Derived.Test.YtojkbdgmandmpaaGreatLOwnersFnA
set_option linter.all false
set_option maxRecDepth 100000
noncomputable section
namespace Go.DM
open Go.Proofs
open Go.IntKind (i64)
open Int (toNat)
open Nat (le_trans zero_le)
namespace Z94
inductive Pt where
 | p0 (a:Int) (b:ak) (c d:Int)
def dM:Pt->List V
 | .p0 a b c d=>[.int .i64 a,.sl none 3 b,.int .i64 c,.int .i64 d]
def step (J:Pt->az):Pt->az
 | .p0 a b c d=>(cond (d<c) (m2 d (b.length:Int) (call (Z93.R ((ld b (toNat d)),2147483647)) fun v1=>J (.p0 (Int.tmod (i64.wrap ((i64.wrap ((i64.wrap (a*1000003))+v1))+13)) 2147483647) b c (i64.wrap (d+1))))) (ret (a:Int)))
def start (J:Pt->az)(x0:ak):az:=J (.p0 11 x0 (x0.length:Int) 0)
def live:Nat->Live:=kA [(3,nP [3,6,7,8])]
def md (a0:List Int):Int:=(dP (S:=Int) (β:=Int) (fun (y1:Int) (s3:Int)=>(.inl (Int.tmod (i64.wrap ((i64.wrap ((i64.wrap (s3*1000003))+(Z93.md y1 2147483647)))+13)) 2147483647))) (fun (s3:Int)=>(s3:Int)) a0 11)
def gd (a0:List Int):Prop:=(cw (2^43) (fun y:Int=>True) a0)
def R:=RR gd md
def au {a0}(h:gd a0):R (a0.map aQ)=some (md a0):=dJ h
def aN:=CN [pL 3] oI RT.dec R
def bC (a0)(hg:gd a0):∃n,start (iter step n) (a0.map aQ)=ret (md a0):=by
 unfold gd at hg
 have H0:=hg
 unfold start md
 try simp only [SS]
 have Bh2:a0.length<=maxLen:=(by
   have:=(H0).1
   try simp only [maxLen] at *
   omega)
 refine ex_eq (out:=ret) (dx (z:=0)) ?_
 refine eO (p:=Pt.p0 11 (a0.map aQ) (a0.length:Int) 0) fz ?_
 refine cH (pt:=fun (i1:Nat) (s3:Int)=>Pt.p0 s3 (a0.map aQ) (a0.length:Int) (i1:Int)) (s:=(11:Int)) (out:=ret) (fun _ _=>True) (fun J i1 s3 h2 hih2=>?_) (fun s3 hih2=>?_) trivial
 ·simp only [step,SS]
  have bb_:=Bh2
  simp only [maxLen] at bb_
  have:=(H0).1
  refine bp.yes (by apply decide_eq_true;omega) ?_
  refine bp.yes bJ ?_
  refine bp.yes (cA h2) ?_
  refine cr (Z93.au trivial) ?_
  refine bp.inl trivial ?_
  rw [aT h2 Bh2]
  all_goals exact fz
 ·simp only [step,SS]
  have:=(H0).1
  refine eM (by apply decide_eq_false;omega) ?_
  refine ⟨0,?_⟩
  all_goals exact fz
def af:cZ 206 aN:=L1 21 (fun _=>3) dM (fun _=>[]) live step start mix aD bC (dR Z93.af) Tryz.func206
def br (a0:List Int):md a0=Z25.md a0:=by
 unfold md Z25.md
 first
 | (simp only [Z93.br];done)
 | (simp only [Z93.br];rfl)
 | rfl
end Z94
namespace Z95
def F (x0:aX)(x1:Int):az:=(call (Z92.R x0) fun v1=>(dZ (gy (((2:Int)+(v1.length:Int))*8)) (call (Z94.R ([[L.int 239],[L.int x1]]++v1)) fun v2=>ret (v2:Int))))
def md (a0:aq)(a1:Int):Int:=((Z94.md ([239,a1]++(Z92.md a0))):Int)
def gd (a0:aq)(a1:Int):Prop:=(aq.Sm (2^21) a0)
def R:=dO gd md
def au {a0 a1}(h:gd a0 a1):R ((aq.r a0),a1)=some (md a0 a1):=dN h
def aN:=CN [.agg nR,pI] oI RT.dec R
def bC (a0)(a1)(hg:gd a0 a1):F (aq.r a0) a1=ret (md a0 a1):=by
 unfold gd at hg
 have H0:=hg
 unfold F md
 try simp only [SS]
 refine ct (Z92.au H0) ?_
 try simp only [SS]
 refine bn (have:=Z92.len a0;have:=(H0).1;lm) ?_
 refine dF (Z94.md ([239,a1]++(Z92.md a0))) (rq (Z94.au (a0:=([239,a1]++(Z92.md a0))) ⟨(have:=Z92.len a0;have:=(H0).1;om),fun _ _=>trivial⟩)) ?_
 all_goals exact fz
def af:cZ 165 aN:=W2 11 F mix aD bC (gD Z92.af Z94.af) Tryz.func165
def br (a0:aq)(a1:Int):md a0 a1=Z26.md a0 a1:=by
 unfold md Z26.md
 first
 | (simp only [Z92.br,Z94.br];done)
 | (simp only [Z92.br,Z94.br];rfl)
 | rfl
end Z95
namespace Z96
def F (x0:Bool):az:=(cond x0 (ret (1:Int)) (ret (0:Int)))
def md (a0:Bool):Int:=(cond a0 (1:Int) (0:Int))
def gd (a0:Bool):Prop:=True
def R:=RR gd md
def au {a0}(h:gd a0):R a0=some (md a0):=dJ h
def aN:=CN [pB] oI RT.dec R
def bC (a0)(hg:gd a0):F a0=ret (md a0):=by
 unfold F md
 try simp only [SS]
 refine av ret (fun _=>rfl) (fun _=>rfl)
def af:cZ 54 aN:=W1 4 F mix aD bC .nil Tryz.func54
end Z96
namespace Z97
set_option maxHeartbeats 1000000 in
set_option maxRecDepth 100000 in
open Go.RowKit in
def Co (b:Option Addr)(w:World):Calls Tryz.prog 249 #[.slice b 0 0,.int .i64 0] w fun e w'=>e=.returned (.slice b 0 0)/\w'=w:=by
 go_enter Tryz.func249,Tryz.ntmps249
 go_wp2
 go_ret
 exact ⟨rfl,rfl⟩
def C7:Tryz.t3.size=1:=by kernel_rfl
def zG:Tryz.t3.bytes=8:=by kernel_rfl
set_option maxHeartbeats 1000000 in
set_option maxRecDepth 100000 in
open Go.RowKit in
def Cn (b:Option Addr)(n:Nat)(w:World)(h0:0<n)(h1:n*8<=140737488355328):Calls Tryz.prog 249 #[.slice b 0 0,.int .i64 n] w fun e w'=>e=.returned (.slice (some ⟨w.heap.size,0,none⟩) 0 (grownCap w n 0 3))/\w'=(w.drew.alloc (.cells (Builtin.zeroCells #[.int .i64 0] n++Builtin.zeroCells #[.int .i64 0] (grownCap w n 0 3 - n)) 3)):=by
 have hp:(0:Int)<n:=by omega
 have hnn:¬((n:Int)<0):=by omega
 have hold:(Builtin.firstCells Tryz.t3.size 0 (.slice b 0 0)).run Tryz.prog w.drew=.ok ([]:List Value).toArray w.drew:=by
  cases b with
  | none=>exact run_firstCells_none _ _ _ _ _
  | some b=>exact run_firstCells_some _ _ _ _ _ _ [] (by simp) (fun j v hj=>by simp at hj)
 have H:=fun ty=>Lib.run_append_grow_zeros (P:=Tryz.prog) w 29 3 ty 3 Tryz.t3 (.int .i64 0) .i64 .i64 (by kernel_rfl) (by kernel_rfl) (by kernel_rfl) (by kernel_rfl) b 0 0 [] hold n h0 (by rw [C7];omega) (by omega) (by omega) (by rw [zG];omega) (by
  rw [Nat.zero_add,nextslicecap_zero h0,zG];omega)
 simp only [Nat.zero_add,Array.empty_append] at H
 have H2:=Lib.hid H
 clear H hold
 go_enter Tryz.func249,Tryz.ntmps249
 go_wp2_with (at_builtin;refine Lib.wpList_append_run _ rfl _ _ _ _ rfl _ _ rfl rfl _ _ (H2.out _) ?_)
 go_ret
 exact ⟨rfl,rfl⟩
def R (x0:Int):Option (ak):=bif decide (0<=x0)&&decide (x0*8<=140737488355328) then some [] else none
def au {a0:Int}(h:0<=a0/\a0*8<=140737488355328):R a0=some []:=by simp [R,h.1,h.2]
def sem:List L->Option (List L)
 | [y0]=>(R y0.toInt).map RT.enc
 | _=>none
def aN:gS:=⟨[.nil,.rd (.int .i64)],.one (.fr 3),sem⟩
def BW:Ev.cells 3=[aG]:=by kernel_rfl
def af:cZ 249 aN:=by
 refine yB ⟨Tryz.f249,Tryz.func249,by kernel_rfl,by kernel_rfl⟩ rfl fun ls r w vs Z hs hf=>?_
 simp only [aN] at hs
 unfold sem at hs
 split at hs
 ·rename_i y
  obtain ⟨v,hv,hq⟩:=map_some hs
  unfold R at hv
  cases hc:(decide (0<=y.toInt)&&decide (y.toInt*8<=140737488355328))<;>simp only [hc,aC,aL] at hv
  ·cases hv
  injection hv with hv
  subst hv
  subst hq
  simp only [Bool.and_eq_true,decide_eq_true_eq] at hc
  cases hf with
  | cons h1 ht=>
   cases ht with
   | cons h2 ht=>
    cases ht
    obtain ⟨b,rfl⟩:=(show V0 Ev.cells w (A0 Z w) .nil _ from h1)
    have e2:_=Value.int .i64 y.toInt:=h2
    subst e2
    obtain ⟨n,hn⟩:∃n:Nat,y.toInt=n:=⟨y.toInt.toNat,by omega⟩
    rw [hn] at hc ⊢
    rcases Nat.eq_zero_or_pos n with h0 | h0
    ·subst h0
     exact (Co b w).mono fun e w' ⟨h3,h4⟩=>⟨_,fun _=>False,h3,by rw [h4];exact Fr.refl _ _,fun b hb=>hb.elim,.nil _ _ _ _ rfl⟩
    ·refine (Cn b n w h0 (by omega)).mono fun e w' ⟨h3,h4⟩=>⟨_,fun b=>b=w.heap.size,h3,?_,fun b hb=>?_,?_⟩
     ·rw [h4];exact ((Fr.refl w _).drew).alloc _
     ·subst hb;rw [h4];simp
     ·have hge:=grownCap_ge w n 0 3
      have hle:grownCap w n 0 3<=maxLen:=grownCap_le_maxLen w n 0 3 (by simp only [maxLen];omega)
      rw [h4]
      refine .sl _ 3 0 _ w.heap.size 3 _ _ (fun _ _=>Go.undef) (fun _ _ _=>False) rfl (zero_le _) hle (heap_alloc_new w.drew _) ?_ rfl (fun _ _ _ h=>h.elim) (fun _ _ _ _ _ h=>h.elim) (fun i j k hi=>by omega) (fun i j k hi=>by omega)
      rw [BW]
      simp only [Array.size_append,size_zeroCells,List.length_singleton]
      simp
      omega
 ·cases hs
end Z97
namespace Z98
inductive Pt where
 | p0 (a:ak) (b:Int) (c:ak) (d e:Int)
 | p1 (a:ak) (b c:Int) (d:ak)
def pid:Pt->Nat
 | .p0 ..=>3
 | .p1 ..=>11
def dM:Pt->List V
 | .p0 a b c d e=>[.sl none 29 a,.int .i64 b,.sl none 29 c,.int .i64 d,.int .i64 e]
 | .p1 a b c d=>[.own 0,.sl none 29 a,.int .i64 b,.int .i64 c]
def fk:Pt->List aA
 | .p0 a b c d e=>[]
 | .p1 a b c d=>[.row 3 d]
def step (J:Pt->az):Pt->az
 | .p0 a b c d e=>(cond (e<d) (m2 e (c.length:Int) (cond ((i64.wrap (b+((Cd c (toNat e)).length:Int)))<0) none (J (.p0 a (i64.wrap (b+((Cd c (toNat e)).length:Int))) c d (i64.wrap (e+1)))))) (call (Z97.R b) fun v1=>J (.p1 a (a.length:Int) 0 v1)))
 | .p1 a b c d=>(cond (c<b) (m2 c (a.length:Int) (dZ (gy (((d.length:Int)+((Cd a (toNat c)).length:Int))*8)) (J (.p1 a b (i64.wrap (c+1)) (d++(Cd a (toNat c))))))) (ret (d:ak)))
def start (J:Pt->az)(x0:ak):az:=J (.p0 x0 0 x0 (x0.length:Int) 0)
def live:Nat->Live:=kA [(3,nP [0,3,9,10,11]),(11,nP [6,25,26,27])]
def md (a0:List (List Int)):List Int:=a0.flatten
def gd (a0:List (List Int)):Prop:=a0.length<=8/\∀x∈a0,x.length<=2^40
def R:=RR gd md
def au {a0}(h:gd a0):R (a0.map (oD aQ))=some ((md a0).map aQ):=dJ h
def aN:=CN [pL 29] (oL 3) RT.dec R
def bC (a0)(hg:gd a0):∃n,start (iter step n) (a0.map (oD aQ))=ret ((md a0).map aQ):=by
 obtain ⟨hl,hx⟩:=hg
 have hs:∀i,i<=a0.length->((a0.take i).map List.length).sum<=i*2^40:=by
  intro i
  induction i with
  | zero=>intro _;simp
  | succ i ih=>
   intro hi
   rw [List.take_succ_eq_append_getElem (by omega)]
   have h1:=hx a0[i] (List.getElem_mem _)
   have h2:=ih (by omega)
   simp only [List.map_append,List.map_cons,List.map_nil,List.sum_append,List.sum_cons,List.sum_nil]
   omega
 have hstep:∀i (h:i<a0.length),((a0.take (i+1)).map List.length).sum=((a0.take i).map List.length).sum+a0[i].length:=by
  intro i hi
  rw [List.take_succ_eq_append_getElem (by omega)]
  simp only [List.map_append,List.map_cons,List.map_nil,List.sum_append,List.sum_cons,List.sum_nil]
  omega
 have hf:∀i,(a0.take i).flatten.length=((a0.take i).map List.length).sum:=fun i=>List.length_flatten
 have second:∀k i,i+k=a0.length->∃n,iter step n (Pt.p1 (a0.map (oD aQ)) (a0.length:Int) (i:Int) ((a0.take i).flatten.map aQ))=ret (a0.flatten.map aQ:ak):=by
  intro k
  induction k with
  | zero=>
   intro i hi
   obtain rfl:i=a0.length:=by omega
   refine ⟨1,?_⟩
   show step (iter step 0) (Pt.p1 _ _ _ _)=_
   simp only [step]
   refine gX (by simp) ?_
   rw [List.take_length]
  | succ k ih=>
   intro i hi
   obtain ⟨n,hn⟩:=ih (i+1) (by omega)
   refine ⟨n+1,?_⟩
   show step (iter step n) (Pt.p1 _ _ _ _)=_
   have hlt:i<a0.length:=by omega
   have b1:=hs (i+1) (by omega)
   have b2:=hstep i hlt
   simp only [step,List.length_map,kB,rG]
   refine bn (by simp;omega) (bn (by simp) (bn (by simp;omega) (bn (gK ?_) ?_)))
   ·rw [fE hlt,hf];omega
   ·rw [aT hlt (by simp only [maxLen];omega),fE hlt,<-List.map_append]
    have e:(a0.take i).flatten++a0[i]=(a0.take (i+1)).flatten:=by
     rw [List.take_succ_eq_append_getElem (by omega)]
     simp only [List.flatten_append,List.flatten_cons,List.flatten_nil,List.append_nil]
    rw [e];exact hn
 have first:∀k i,i+k=a0.length->∃n,iter step n (Pt.p0 (a0.map (oD aQ)) ((((a0.take i).map List.length).sum:Nat):Int) (a0.map (oD aQ)) (a0.length:Int) (i:Int))=ret (a0.flatten.map aQ:ak):=by
  intro k
  induction k with
  | zero=>
   intro i hi
   obtain rfl:i=a0.length:=by omega
   obtain ⟨n,hn⟩:=second a0.length 0 (by omega)
   refine ⟨n+1,?_⟩
   show step (iter step n) (Pt.p0 _ _ _ _ _)=_
   have b1:=hs a0.length (by omega)
   simp only [step]
   refine gX (by simp) (dF [] (Z97.au ⟨by omega,by omega⟩) ?_)
   simpa using hn
  | succ k ih=>
   intro i hi
   obtain ⟨n,hn⟩:=ih (i+1) (by omega)
   refine ⟨n+1,?_⟩
   show step (iter step n) (Pt.p0 _ _ _ _ _)=_
   have hlt:i<a0.length:=by omega
   have b1:=hs (i+1) (by omega)
   have b2:=hstep i hlt
   simp only [step,List.length_map,kB,rG,fE hlt]
   have e:i64.wrap (((((a0.take i).map List.length).sum:Nat):Int)+(a0[i].length:Int))=((((a0.take (i+1)).map List.length).sum:Nat):Int):=by
    rw [Go.IntWalk.i64_in _ (by omega)];omega
   rw [e]
   refine bn (by simp;omega) (bn (by simp) (bn (by simp;omega) (gX (by simp) ?_)))
   rw [aT hlt (by simp only [maxLen];omega)]
   exact hn
 unfold md
 obtain ⟨n,hn⟩:=first a0.length 0 (by omega)
 refine ⟨n,?_⟩
 unfold start
 simpa using hn
def af:cZ 232 aN:=L1 36 pid dM fk live step start mix aD bC (dR Z97.af) Tryz.func232
def len (a0:List (List Int)):(md a0).length=(a0.map List.length).sum:=by simp [md]
end Z98
namespace Z99
def F (x0:aR):az:=(call (Z92.R x0.aE) fun v1=>(call (Z92.R x0.aM) fun v2=>(call (Z92.R x0.aK) fun v3=>(call (Z96.R x0.aH) fun v4=>(call (Z98.R [[L.sl [[L.int x0.bq],[L.int x0.aY],[L.int x0.aP],[L.int x0.aO],[L.int x0.aZ],[L.int x0.bk],[L.int x0.bE],[L.int x0.bW]]],[L.sl v1],[L.sl v2],[L.sl [[L.int x0.bu]]],[L.sl v3],[L.sl [[L.int v4]]]]) fun v5=>ret (v5:ak))))))
def md (a0:aj):List Int:=(Z98.md [[a0.bq,a0.aY,a0.aP,a0.aO,a0.aZ,a0.bk,a0.bE,a0.bW],(Z92.md a0.aE),(Z92.md a0.aM),[a0.bu],(Z92.md a0.aK),[(Z96.md a0.aH)]])
def gd (a0:aj):Prop:=(aj.Sm (2^21) a0)
def R:=RR gd md
def au {a0}(h:gd a0):R (aj.r a0)=some ((md a0).map aQ):=dJ h
def aN:=CN [.agg nQ] (oL 3) RT.dec R
def bC (a0)(hg:gd a0):F (aj.r a0)=ret ((md a0).map aQ):=by
 unfold gd at hg
 have H0:=hg
 unfold F md
 try simp only [SS]
 refine ct (Z92.au H0.1) ?_
 try simp only [SS]
 refine ct (Z92.au H0.2.1) ?_
 try simp only [SS]
 refine ct (Z92.au H0.2.2) ?_
 try simp only [SS]
 refine ct (Z96.au trivial) ?_
 refine dF ((Z98.md [[a0.bq,a0.aY,a0.aP,a0.aO,a0.aZ,a0.bk,a0.bE,a0.bW],(Z92.md a0.aE),(Z92.md a0.aM),[a0.bu],(Z92.md a0.aK),[(Z96.md a0.aH)]]).map aQ) (rq (Z98.au (a0:=[[a0.bq,a0.aY,a0.aP,a0.aO,a0.aZ,a0.bk,a0.bE,a0.bW],(Z92.md a0.aE),(Z92.md a0.aM),[a0.bu],(Z92.md a0.aK),[(Z96.md a0.aH)]]) ⟨(by simp),(by
   have:=Z92.len a0.aE
   have:=(H0.1).1
   have:=Z92.len a0.aM
   have:=(H0.2.1).1
   have:=Z92.len a0.aK
   have:=(H0.2.2).1
   intro x_ hx_
   simp only [List.mem_cons,List.not_mem_nil,or_false] at hx_
   rcases hx_ with hx_ | hx_ | hx_ | hx_ | hx_ | hx_
   all_goals (subst hx_;first | omega | (simp only [LN];omega)))⟩)) ?_
 try simp only [SS]
 all_goals exact fz
def af:cZ 209 aN:=W1 38 F mix aD bC (pG Z92.af Z96.af Z98.af) Tryz.func209
def len (a0:aj):(md a0).length=16+a0.aE.aI.length+a0.aM.aI.length+a0.aK.aI.length:=by unfold md;simp [Z98.md,Z92.len];omega
def br (a0:aj):md a0=Z43.md a0:=by
 rw [Z43.Be]
 unfold md Z98.md
 simp only [Z92.br,Z96.md,List.flatten_cons,List.flatten_nil,List.cons_append,List.nil_append,List.append_nil]
end Z99
namespace Z100
def F (x0:Int)(x1:ak):az:=(call (Z98.R [[L.sl [[L.int x0]]],[L.sl x1],[L.sl [[L.int x0]]]]) fun v1=>(call (Z94.R v1) fun v2=>ret (v2:Int)))
def md (a0:Int)(a1:List Int):Int:=((Z94.md (Z98.md [[a0],a1,[a0]])):Int)
def gd (a0:Int)(a1:List Int):Prop:=(cw (2^40) (fun y:Int=>True) a1)
def R:=dO gd md
def au {a0 a1}(h:gd a0 a1):R (a0,(a1.map aQ))=some (md a0 a1):=dN h
def aN:=CN [pI,pL 3] oI RT.dec R
def bC (a0)(a1)(hg:gd a0 a1):F a0 (a1.map aQ)=ret (md a0 a1):=by
 unfold gd at hg
 have H1:=hg
 unfold F md
 try simp only [SS]
 refine dF ((Z98.md [[a0],a1,[a0]]).map aQ) (rq (Z98.au (a0:=[[a0],a1,[a0]]) ⟨(by simp),(by
   have:=(H1).1
   intro x_ hx_
   simp only [List.mem_cons,List.not_mem_nil,or_false] at hx_
   rcases hx_ with hx_ | hx_ | hx_
   all_goals (subst hx_;first | omega | (simp only [LN];omega)))⟩)) ?_
 try simp only [SS]
 refine ct (Z94.au ⟨(by
   have:=Z98.len [[a0],a1,[a0]]
   try simp only [LN] at this
   have:=(H1).1
   exact om),fun _ _=>trivial⟩) ?_
 all_goals exact fz
def af:cZ 260 aN:=W2 13 F mix aD bC (gD Z98.af Z94.af) Tryz.func260
def br (a0:Int)(a1:List Int):md a0 a1=Z45.md a0 a1:=by
 unfold md Z45.md
 first
 | (simp only [Z94.br];done)
 | (simp only [Z94.br];rfl)
 | rfl
end Z100
namespace Z101
def F (x0:Int)(x1:ak):az:=(dZ (gy (((1:Int)+(x1.length:Int))*8)) (call (Z100.R (x0,([[L.int 223]]++x1))) fun v1=>ret (v1:Int)))
def md (a0:Int)(a1:List Int):Int:=((Z100.md a0 ([223]++a1)):Int)
def gd (a0:Int)(a1:List Int):Prop:=(cw (2^39) (fun y:Int=>True) a1)
def R:=dO gd md
def au {a0 a1}(h:gd a0 a1):R (a0,(a1.map aQ))=some (md a0 a1):=dN h
def aN:=CN [pI,pL 3] oI RT.dec R
def bC (a0)(a1)(hg:gd a0 a1):F a0 (a1.map aQ)=ret (md a0 a1):=by
 unfold gd at hg
 have H1:=hg
 unfold F md
 try simp only [SS]
 refine bn (have:=(H1).1;lm) ?_
 refine dF (Z100.md a0 ([223]++a1)) (rq (Z100.au (a0:=a0) (a1:=([223]++a1)) ⟨(have:=(H1).1;om),fun _ _=>trivial⟩)) ?_
 all_goals exact fz
def af:cZ 258 aN:=W2 10 F mix aD bC (dR Z100.af) Tryz.func258
def br (a0:Int)(a1:List Int):md a0 a1=Z46.md a0 a1:=by
 unfold md Z46.md
 first
 | (simp only [Z100.br];done)
 | (simp only [Z100.br];rfl)
 | rfl
end Z101
namespace Z102
def F (x0:bf)(x1:ak):az:=(call (Z86.R x0.mI) fun v1=>(cond v1 (call (Z101.R (x0.mI,x1)) fun v2=>ret ((x0.wW==v2):Bool)) bL))
def md (a0:bf)(a1:List Int):Bool:=(cond (Z86.md a0.mI) ((a0.wW==(Z101.md a0.mI a1)):Bool) (false:Bool))
def gd (a0:bf)(a1:List Int):Prop:=(cw (2^38) (fun y:Int=>True) a1)
def R:=dO gd md
def au {a0 a1}(h:gd a0 a1):R (a0,(a1.map aQ))=some (md a0 a1):=dN h
def aN:=CN [.agg B3,pL 3] oB RT.dec R
def bC (a0)(a1)(hg:gd a0 a1):F a0 (a1.map aQ)=ret (md a0 a1):=by
 unfold gd at hg
 have H1:=hg
 unfold F md
 try simp only [SS]
 refine ct (Z86.au trivial) ?_
 refine av ret (fun c1=>?_) (fun _=>rfl)
 refine ct (Z101.au (H1.mono (by decide) (fun x hx=>trivial))) ?_
 all_goals exact fz
def af:cZ 248 aN:=W2 17 F mix aD bC (gD Z86.af Z101.af) Tryz.func248
def br (a0:bf)(a1:List Int):md a0 a1=Z53.md a0 a1:=by
 unfold md Z53.md
 first
 | (simp only [Z101.br];done)
 | (simp only [Z101.br];rfl)
 | rfl
end Z102
namespace Z103
def F (x0:bf)(x1 x2:List L):az:=(cond (x0.mI==(kI x1)) (call (Z102.R (x0,(sF x2))) fun v1=>ret (v1:Bool)) bL)
def pats:List eS:=[.agg [aG,aG],.ptr [aG],.ptr [.sl 3]]
def res:RP:=.one (.rd (.bool))
def md (a0:bf)(a1:Int)(a2:List Int):Bool:=(cond (a0.mI==a1) ((Z102.md a0 a2):Bool) (false:Bool))
def gd (a0:bf)(a1:Int)(a2:List Int):Prop:=(cw (2^38) (fun y:Int=>True) a2)
def acc (ls:List L):bf×Int×ak:=((bf.dec ls),(kI (dc 1 (bt 2 ls))),(sF (dc 1 (bt 3 ls))))
def R:(bf×Int×ak)->Option Bool:=qE gd md
def au {a0 a1 a2}(h:gd a0 a1 a2):R (a0,a1,(a2.map aQ))=some (md a0 a1 a2):=qB h
def aN:gS:=CN pats res acc R
def bC (a0:bf)(a1:Int)(a2:List Int)(p1 p2:List L)(e1:a1=(kI p1))(e2:(a2.map aQ)=(sF p2))(hg:gd a0 a1 a2):F a0 p1 p2=ret ((md a0 a1 a2):Bool):=by
 unfold gd at hg
 have H2:=hg
 unfold F md
 try simp only [SS,<-e1,<-e2]
 refine av ret (fun c1=>?_) (fun _=>rfl)
 refine ct (Z102.au H2) ?_
 all_goals exact fz
def zL (ls:List L)(a:bf×Int×List Int)(e:acc ls=Im.im a)(hg:(p3 gd) a):∃n:Nat,F (bf.dec ls) (dc 1 (bt 2 ls)) (dc 1 (bt 3 ls))=ret (Im.im ((u3 md) a)):=by
 have e0:a.1=(bf.dec ls):=(congrArg (fun x=>x.1) e.symm)
 have hn:=bC a.1 a.2.1 a.2.2 (dc 1 (bt 2 ls)) (dc 1 (bt 3 ls)) (congrArg (fun x=>x.2.1) e.symm) (congrArg (fun x=>x.2.2) e.symm) hg
 refine ⟨0,?_⟩
 rw [<-e0]
 exact hn
def af:cZ 247 aN:=VP (live:=fun _=>[]) (nt:=14) (accr:=fun ls=>((bf.dec ls),(dc 1 (bt 2 ls)),(dc 1 (bt 3 ls)))) (run:=fun _ x=>F x.1 x.2.1 x.2.2) mix aD (dR Z102.af) Tryz.func247 (by kernel_rfl) (fun _ _=>by kernel_rfl) (fun ls a _ e hg=>zL ls a e hg)
end Z103
namespace Z104
inductive Pt where
 | p0 (a:ak) (b c:List L) (d e:Int)
def pid:Pt->Nat
 | .p0 ..=>2
def dM:Pt->List V
 | .p0 a b c d e=>[.sl none 209 a,.fn 247 [.cj none [aG] b 0,.cj none [.sl 3] c 0],.int .i64 d,.int .i64 e]
def fk:Pt->List aA
 | .p0 a b c d e=>[]
def step (J:Pt->az):Pt->az
 | .p0 a b c d e=>(cond (e<d) (m2 e (a.length:Int) (call (Z103.R ((bf.at a (toNat e)),(kI b),(sF c))) fun v1=>(cond v1 (ret (e:Int)) (J (.p0 a b c d (i64.wrap (e+1))))))) vP)
def start (J:Pt->az)(x0:ak)(x1 x2:List L):az:=J (.p0 x0 x1 x2 (x0.length:Int) 0)
def live:Nat->Live:=kA [(2,nP [0,1,7,8])]
def pats:List eS:=[.rd (.sl 209),.fn 247 [[aG],[.sl 3]]]
def res:RP:=.one (.rd (.int .i64))
abbrev E:Env:={ T:=assoc nH,G:=cQ [(247,Z103.aN)],nt:=19 }
def step_eq (I:dL)(p:Pt):dA E live I (pid p) (bN Tryz.f257) (kO (live (pid p)) (dM p) (fk p)) (dI E Tryz.f257 res)=step (fun q=>I (pid q) (dM q) (fk q)) p:=by
 cases p<;>kernel_rfl
def start_eq (I:dL)(ls:List L):gU E live I (bN Tryz.f257) (ew pats ls) (dI E Tryz.f257 res)=start (fun q=>I (pid q) (dM q) (fk q)) (eC ls) (dc 1 (bt 1 ls)) (dc 1 (bt 2 ls)):=by kernel_rfl
def run_eq (n:Nat)(ls:List L):eg E live Tryz.f257 res n (ew pats ls)=start (iter step n) (eC ls) (dc 1 (bt 1 ls)) (dc 1 (bt 2 ls)):=eo (id:=pid) (vs:=dM) (hs:=fk) (step:=step) (start:=fun J=>start J (eC ls) (dc 1 (bt 1 ls)) (dc 1 (bt 2 ls))) step_eq (fun I=>start_eq I ls) n
def md (a0:List bf)(a1:Int)(a2:List Int):Int:=(dX (S:=Unit) (β:=Int) (fun (i1:Nat) (y1:bf) (s3:Unit)=>(cond (Z103.md y1 a1 a2) (.inr ((i1:Int):Int)) (.inl ()))) (fun (s3:Unit)=>((-1):Int)) 0 a0 ())
def gd (a0:List bf)(a1:Int)(a2:List Int):Prop:=(cw (2^21) (fun y:bf=>bf.Sm (2^21) y) a0)/\(cw (2^38) (fun y:Int=>True) a2)
def acc (ls:List L):ak×Int×ak:=((eC ls),(kI (dc 1 (bt 1 ls))),(sF (dc 1 (bt 2 ls))))
def R:(ak×Int×ak)->Option Int:=qE gd md
def au {a0 a1 a2}(h:gd a0 a1 a2):R ((a0.map bf.row),a1,(a2.map aQ))=some (md a0 a1 a2):=qB h
def aN:gS:=CN pats res acc R
def bC (a0:List bf)(a1:Int)(a2:List Int)(p1 p2:List L)(e1:a1=(kI p1))(e2:(a2.map aQ)=(sF p2))(hg:gd a0 a1 a2):∃n,start (iter step n) (a0.map bf.row) p1 p2=ret ((md a0 a1 a2):Int):=by
 obtain ⟨H0,H2⟩:=hg
 unfold start md
 try simp only [SS,<-e1,<-e2]
 have Bh2:a0.length<=maxLen:=(by
   have:=(H0).1
   try simp only [maxLen] at *
   omega)
 refine ex_eq (out:=ret) (cX (z:=bf.zero)) ?_
 refine eO (p:=Pt.p0 (a0.map bf.row) p1 p2 (a0.length:Int) 0) fz ?_
 refine cH (pt:=fun (i1:Nat) (s3:Unit)=>Pt.p0 (a0.map bf.row) p1 p2 (a0.length:Int) (i1:Int)) (s:=(():Unit)) (out:=ret) (fun _ _=>True) (fun J i1 s3 h2 hih2=>?_) (fun s3 hih2=>?_) trivial
 ·simp only [step,SS,<-e1,<-e2]
  have bb_:=Bh2
  simp only [maxLen] at bb_
  have:=(H0).1
  refine bp.yes (by apply decide_eq_true;omega) ?_
  refine bp.yes bJ ?_
  refine bp.yes (cA h2) ?_
  refine cr (Z103.au H2) ?_
  refine bp.bif (fun c4=>?_) (fun c4=>?_)
  ·refine bp.inr ?_
   all_goals exact fz
  ·refine bp.inl trivial ?_
   rw [aT h2 Bh2]
   all_goals exact fz
 ·simp only [step,SS,<-e1,<-e2]
  have:=(H0).1
  refine eM (by apply decide_eq_false;omega) ?_
  refine ⟨0,?_⟩
  all_goals exact fz
def zL (ls:List L)(a:List bf×Int×List Int)(e:acc ls=Im.im a)(hg:(p3 gd) a):∃n:Nat,start (iter step n) ((eC ls)) (dc 1 (bt 1 ls)) (dc 1 (bt 2 ls))=ret (Im.im ((u3 md) a)):=by
 have e0:(a.1.map bf.row)=(eC ls):=(congrArg (fun x=>x.1) e.symm)
 obtain ⟨n,hn⟩:=bC a.1 a.2.1 a.2.2 (dc 1 (bt 1 ls)) (dc 1 (bt 2 ls)) (congrArg (fun x=>x.2.1) e.symm) (congrArg (fun x=>x.2.2) e.symm) hg
 refine ⟨n,?_⟩
 rw [<-e0]
 exact hn
def af:cZ 257 aN:=VP (accr:=fun ls=>((eC ls),(dc 1 (bt 1 ls)),(dc 1 (bt 2 ls)))) (run:=fun n x=>start (iter step n) x.1 x.2.1 x.2.2) mix aD (dR Z103.af) Tryz.func257 (by kernel_rfl) run_eq (fun ls a _ e hg=>zL ls a e hg)
def fa (a0:List bf)(a1:Int)(a2:List Int):-1<=md a0 a1 a2/\md a0 a1 a2<(a0.length:Int):=by
 unfold md
 refine tQ ?_ _ _
 all_goals
  intro i x s b h
  revert h
  simp only [Bool.cond_eq_ite]
  repeat' split
  all_goals (intro h;first | (cases h;rfl) | cases h)
def idx_eq (a0:List bf)(a1:Int)(a2:List Int):md a0 a1 a2=mQ (fun y=>Z103.md y a1 a2) 0 a0:=by
 unfold md
 exact nu
end Z104
namespace Z105
def F (x0:ak)(x1 x2:List L):az:=(call (Z104.R (x0,(kI x1),(sF x2))) fun v1=>ret ((decide (v1>=0)):Bool))
def pats:List eS:=[.rd (.sl 209),.fn 247 [[aG],[.sl 3]]]
def res:RP:=.one (.rd (.bool))
def md (a0:List bf)(a1:Int)(a2:List Int):Bool:=((decide ((Z104.md a0 a1 a2)>=0)):Bool)
def gd (a0:List bf)(a1:Int)(a2:List Int):Prop:=(cw (2^21) (fun y:bf=>bf.Sm (2^21) y) a0)/\(cw (2^38) (fun y:Int=>True) a2)
def acc (ls:List L):ak×Int×ak:=((eC ls),(kI (dc 1 (bt 1 ls))),(sF (dc 1 (bt 2 ls))))
def R:(ak×Int×ak)->Option Bool:=qE gd md
def au {a0 a1 a2}(h:gd a0 a1 a2):R ((a0.map bf.row),a1,(a2.map aQ))=some (md a0 a1 a2):=qB h
def aN:gS:=CN pats res acc R
def bC (a0:List bf)(a1:Int)(a2:List Int)(p1 p2:List L)(e1:a1=(kI p1))(e2:(a2.map aQ)=(sF p2))(hg:gd a0 a1 a2):F (a0.map bf.row) p1 p2=ret ((md a0 a1 a2):Bool):=by
 obtain ⟨H0,H2⟩:=hg
 unfold F md
 try simp only [SS,<-e1,<-e2]
 refine ct (Z104.au ⟨H0,H2⟩) ?_
 have fv1_:=Z104.fa a0 a1 a2
 all_goals exact fz
def zL (ls:List L)(a:List bf×Int×List Int)(e:acc ls=Im.im a)(hg:(p3 gd) a):∃n:Nat,F ((eC ls)) (dc 1 (bt 1 ls)) (dc 1 (bt 2 ls))=ret (Im.im ((u3 md) a)):=by
 have e0:(a.1.map bf.row)=(eC ls):=(congrArg (fun x=>x.1) e.symm)
 have hn:=bC a.1 a.2.1 a.2.2 (dc 1 (bt 1 ls)) (dc 1 (bt 2 ls)) (congrArg (fun x=>x.2.1) e.symm) (congrArg (fun x=>x.2.2) e.symm) hg
 refine ⟨0,?_⟩
 rw [<-e0]
 exact hn
def af:cZ 246 aN:=VP (live:=fun _=>[]) (nt:=9) (accr:=fun ls=>((eC ls),(dc 1 (bt 1 ls)),(dc 1 (bt 2 ls)))) (run:=fun _ x=>F x.1 x.2.1 x.2.2) mix aD (dR Z104.af) Tryz.func246 (by kernel_rfl) (fun _ _=>by kernel_rfl) (fun ls a _ e hg=>zL ls a e hg)
def any_eq (a0:List bf)(a1:Int)(a2:List Int):md a0 a1 a2=a0.any (fun y=>Z103.md y a1 a2):=by
 unfold md
 rw [Z104.idx_eq]
 exact sr
end Z105
namespace Z106
inductive Pt where
 | p0 (a:ak) (b:Int) (c:ak) (d e:Int) (f:ak)
def dM:Pt->List V
 | .p0 a b c d e f=>[.sl none 209 a,.bB 0 0,.int .i64 b,.sl none 3 c,.int .i64 d,.int .i64 e]
def fk:Pt->List aA
 | .p0 a b c d e f=>[.box [.sl none 3 f]]
def step (J:Pt->az):Pt->az
 | .p0 a b c d e f=>(cond (e<d) (m2 e (c.length:Int) (call (Z105.R (a,(ld c (toNat e)),f)) fun v1=>(cond v1 (J (.p0 a (i64.wrap (b+1)) c d (i64.wrap (e+1)) f)) (J (.p0 a b c d (i64.wrap (e+1)) f))))) (ret (b:Int)))
def start (J:Pt->az)(x0:aX)(x1 x2:ak):az:=J (.p0 x2 0 x0.aI (x0.aI.length:Int) 0 x1)
def live:Nat->Live:=kA [(3,nP [2,4,7,11,12,13])]
def md (a0:aq)(a1:List Int)(a2:List bf):Int:=(dP (S:=Int) (β:=Int) (fun (y1:Int) (s3:Int)=>(cond (Z105.md a2 y1 a1) (.inl (i64.wrap (s3+1))) (.inl s3))) (fun (s3:Int)=>(s3:Int)) a0.aI 0)
def gd (a0:aq)(a1:List Int)(a2:List bf):Prop:=(aq.Sm (2^21) a0)/\(cw (2^38) (fun y:Int=>True) a1)/\(cw (2^21) (fun y:bf=>bf.Sm (2^21) y) a2)
def R:=qE gd md
def au {a0 a1 a2}(h:gd a0 a1 a2):R ((aq.r a0),(a1.map aQ),(a2.map bf.row))=some (md a0 a1 a2):=qB h
def aN:=CN [.agg nR,pL 3,pL 209] oI RT.dec R
def bC (a0)(a1)(a2)(hg:gd a0 a1 a2):∃n,start (iter step n) (aq.r a0) (a1.map aQ) (a2.map bf.row)=ret (md a0 a1 a2):=by
 obtain ⟨H0,H1,H2⟩:=hg
 unfold start md
 try simp only [SS]
 have Bh2:a0.aI.length<=maxLen:=(by
   have:=(H0).1
   try simp only [maxLen] at *
   omega)
 refine ex_eq (out:=ret) (dx (z:=0)) ?_
 refine eO (p:=Pt.p0 (a2.map bf.row) 0 (a0.aI.map aQ) (a0.aI.length:Int) 0 (a1.map aQ)) fz ?_
 refine cH (pt:=fun (i1:Nat) (s3:Int)=>Pt.p0 (a2.map bf.row) s3 (a0.aI.map aQ) (a0.aI.length:Int) (i1:Int) (a1.map aQ)) (s:=(0:Int)) (out:=ret) (fun _ _=>True) (fun J i1 s3 h2 hih2=>?_) (fun s3 hih2=>?_) trivial
 ·simp only [step,SS]
  have bb_:=Bh2
  simp only [maxLen] at bb_
  have:=(H0).1
  refine bp.yes (by apply decide_eq_true;omega) ?_
  refine bp.yes bJ ?_
  refine bp.yes (cA h2) ?_
  refine cr (Z105.au ⟨H2,H1⟩) ?_
  refine bp.bif (fun c4=>?_) (fun c4=>?_)
  ·refine bp.inl trivial ?_
   rw [aT h2 Bh2]
   all_goals exact fz
  ·refine bp.inl trivial ?_
   rw [aT h2 Bh2]
   all_goals exact fz
 ·simp only [step,SS]
  have:=(H0).1
  refine eM (by apply decide_eq_false;omega) ?_
  refine ⟨0,?_⟩
  all_goals exact fz
def af:cZ 231 aN:=L3 24 (fun _=>3) dM fk live step start mix aD bC (dR Z105.af) Tryz.func231
def br (a0:aq)(a1:List Int)(a2:List bf):md a0 a1 a2=Z54.md a0 a1 a2:=by
 unfold md Z54.md
 refine wC (fun x _ s=>?_) (fun s=>rfl)
 rw [Z105.any_eq]
 refine Eq.trans ?_ (ry (β:=Int⊕Int) (p:=fun y=>Z103.md y x a1) (b:=Sum.inl (i64.wrap (s+1))) (c:=Sum.inl s) (fun y s'=>?_) a2 ()).symm
 ·cases a2.any (fun y=>Z103.md y x a1)<;>rfl
 ·unfold Z103.md
  simp only [Z102.br]
  cases y.mI==x<;>cases Z53.md y a1<;>rfl
end Z106
namespace Z107
def F (x0:aX)(x1 x2:ak):az:=(call (Z87.R x0) fun v1=>(cond v1 (call (Z106.R (x0,x1,x2)) fun v2=>ret ((decide (v2>=x0.bS)):Bool)) bL))
def md (a0:aq)(a1:List Int)(a2:List bf):Bool:=(cond (Z87.md a0) ((decide ((Z106.md a0 a1 a2)>=a0.bS)):Bool) (false:Bool))
def gd (a0:aq)(a1:List Int)(a2:List bf):Prop:=(aq.Sm (2^21) a0)/\(cw (2^38) (fun y:Int=>True) a1)/\(cw (2^21) (fun y:bf=>bf.Sm (2^21) y) a2)
def R:=qE gd md
def au {a0 a1 a2}(h:gd a0 a1 a2):R ((aq.r a0),(a1.map aQ),(a2.map bf.row))=some (md a0 a1 a2):=qB h
def aN:=CN [.agg nR,pL 3,pL 209] oB RT.dec R
def bC (a0)(a1)(a2)(hg:gd a0 a1 a2):F (aq.r a0) (a1.map aQ) (a2.map bf.row)=ret (md a0 a1 a2):=by
 obtain ⟨H0,H1,H2⟩:=hg
 unfold F md
 try simp only [SS]
 refine ct (Z87.au H0) ?_
 refine av ret (fun c1=>?_) (fun _=>rfl)
 refine ct (Z106.au ⟨H0,H1,H2⟩) ?_
 all_goals exact fz
def af:cZ 208 aN:=W3 18 F mix aD bC (gD Z87.af Z106.af) Tryz.func208
def br (a0:aq)(a1:List Int)(a2:List bf):md a0 a1 a2=Z55.md a0 a1 a2:=by
 unfold md Z55.md
 first
 | (simp only [Z87.br,Z106.br];done)
 | (simp only [Z87.br,Z106.br];rfl)
 | rfl
end Z107
namespace Z108
def F (x0:aB)(x1:aX):az:=(call (Z99.R x0.an) fun v1=>(call (Z107.R (x1,v1,x0.eB)) fun v2=>ret (v2:Bool)))
def md (a0:aa)(a1:aq):Bool:=((Z107.md a1 (Z99.md a0.an) a0.eB):Bool)
def gd (a0:aa)(a1:aq):Prop:=(aa.Sm (2^21) a0)/\(aq.Sm (2^21) a1)
def R:=dO gd md
def au {a0 a1}(h:gd a0 a1):R ((aa.r a0),(aq.r a1))=some (md a0 a1):=dN h
def aN:=CN [.agg zp,.agg nR] oB RT.dec R
def bC (a0)(a1)(hg:gd a0 a1):F (aa.r a0) (aq.r a1)=ret (md a0 a1):=by
 obtain ⟨H0,H1⟩:=hg
 unfold F md
 try simp only [SS]
 refine ct (Z99.au H0.1) ?_
 try simp only [SS]
 refine ct (Z107.au ⟨H1,⟨(have:=Z99.len a0.an;have:=(H0.1.1).1;have:=(H0.1.2.1).1;have:=(H0.1.2.2).1;om),fun _ _=>trivial⟩,H0.2⟩) ?_
 all_goals exact fz
def af:cZ 166 aN:=W2 12 F mix aD bC (gD Z99.af Z107.af) Tryz.func166
end Z108
namespace Z109
def F (x0:aB):az:=(call (Z91.R x0.an) fun v1=>(cond v1 (cond (x0.an.aY==0) (cond (x0.an.aP==1) (cond (!x0.an.aH) (call (Z95.R (x0.an.aE,x0.an.bW)) fun v2=>(cond (x0.an.bq==v2) (call (Z108.R (x0,x0.an.aE)) fun v3=>ret (v3:Bool)) bL)) bL) bL) bL) bL))
def md (a0:aa):Bool:=(cond (Z91.md a0.an) (cond (a0.an.aY==0) (cond (a0.an.aP==1) (cond (!a0.an.aH) (cond (a0.an.bq==(Z95.md a0.an.aE a0.an.bW)) ((Z108.md a0 a0.an.aE):Bool) (false:Bool)) (false:Bool)) (false:Bool)) (false:Bool)) (false:Bool))
def gd (a0:aa):Prop:=(aa.Sm (2^21) a0)
def R:=RR gd md
def au {a0}(h:gd a0):R (aa.r a0)=some (md a0):=dJ h
def aN:=CN [.agg zp] oB RT.dec R
def bC (a0)(hg:gd a0):F (aa.r a0)=ret (md a0):=by
 unfold gd at hg
 have H0:=hg
 unfold F md
 try simp only [SS]
 refine ct (Z91.au H0.1) ?_
 refine av ret (fun c1=>?_) (fun _=>rfl)
 refine av ret (fun c2=>?_) (fun _=>rfl)
 refine av ret (fun c3=>?_) (fun _=>rfl)
 refine av ret (fun c4=>?_) (fun _=>rfl)
 refine ct (Z95.au H0.1.1) ?_
 refine av ret (fun c5=>?_) (fun _=>rfl)
 refine ct (Z108.au ⟨H0,H0.1.1⟩) ?_
 all_goals exact fz
def af:cZ 131 aN:=W1 39 F mix aD bC (pG Z91.af Z95.af Z108.af) Tryz.func131
def br (a0:aa):md a0=Z56.md a0:=by
 unfold md Z56.md
 simp only [Z108.md,Z107.br,Z99.br,Z91.br,Z95.br]
end Z109
namespace Z110
def F (x0:aR):az:=(call (Z99.R x0) fun v1=>(dZ (gy (((1:Int)+(v1.length:Int))*8)) (call (Z94.R ([[L.int 233]]++v1)) fun v2=>ret (v2:Int))))
def md (a0:aj):Int:=((Z94.md ([233]++(Z99.md a0))):Int)
def gd (a0:aj):Prop:=(aj.Sm (2^21) a0)
def R:=RR gd md
def au {a0}(h:gd a0):R (aj.r a0)=some (md a0):=dJ h
def aN:=CN [.agg nQ] oI RT.dec R
def bC (a0)(hg:gd a0):F (aj.r a0)=ret (md a0):=by
 unfold gd at hg
 have H0:=hg
 unfold F md
 try simp only [SS]
 refine ct (Z99.au H0) ?_
 try simp only [SS]
 refine bn (have:=Z99.len a0;have:=(H0.1).1;have:=(H0.2.1).1;have:=(H0.2.2).1;lm) ?_
 refine dF (Z94.md ([233]++(Z99.md a0))) (rq (Z94.au (a0:=([233]++(Z99.md a0))) ⟨(have:=Z99.len a0;have:=(H0.1).1;have:=(H0.2.1).1;have:=(H0.2.2).1;om),fun _ _=>trivial⟩)) ?_
 all_goals exact fz
def af:cZ 233 aN:=W1 8 F mix aD bC (gD Z99.af Z94.af) Tryz.func233
def br (a0:aj):md a0=Z50.md a0:=by
 unfold md Z50.md
 first
 | (simp only [Z99.br,Z94.br];done)
 | (simp only [Z99.br,Z94.br];rfl)
 | rfl
end Z110
namespace Z111
def F (x0 x1:aR):az:=(cond (x1.bq==x0.bq) (cond (x1.aY==(i64.wrap (x0.aY+1))) (call (Z110.R x0) fun v1=>(cond (x1.bW==v1) (ret ((decide (x1.aO>=x0.aO)):Bool)) bL)) bL) bL)
def md (a0 a1:aj):Bool:=(cond (a1.bq==a0.bq) (cond (a1.aY==(i64.wrap (a0.aY+1))) (cond (a1.bW==(Z110.md a0)) ((decide (a1.aO>=a0.aO)):Bool) (false:Bool)) (false:Bool)) (false:Bool))
def gd (a0 a1:aj):Prop:=(aj.Sm (2^21) a0)
def R:=dO gd md
def au {a0 a1}(h:gd a0 a1):R ((aj.r a0),(aj.r a1))=some (md a0 a1):=dN h
def aN:=CN [.agg nQ,.agg nQ] oB RT.dec R
def bC (a0)(a1)(hg:gd a0 a1):F (aj.r a0) (aj.r a1)=ret (md a0 a1):=by
 unfold gd at hg
 have H0:=hg
 unfold F md
 try simp only [SS]
 refine av ret (fun c1=>?_) (fun _=>rfl)
 refine av ret (fun c2=>?_) (fun _=>rfl)
 refine ct (Z110.au H0) ?_
 refine av ret (fun c3=>?_) (fun _=>rfl)
 all_goals exact fz
def af:cZ 210 aN:=W2 32 F mix aD bC (dR Z110.af) Tryz.func210
end Z111
namespace Z112
def F (x0:aR)(x1:aB):az:=(cond x0.aH (ret (4:Int)) (cond x1.an.aH (ret (6:Int)) (call (Z108.R (x1,x0.aE)) fun v1=>(cond (!v1) (ret (7:Int)) (ret (1:Int))))))
def md (a0:aj)(a1:aa):Int:=(cond a0.aH (4:Int) (cond a1.an.aH (6:Int) (cond (!(Z108.md a1 a0.aE)) (7:Int) (1:Int))))
def gd (a0:aj)(a1:aa):Prop:=(aj.Sm (2^21) a0)/\(aa.Sm (2^21) a1)
def R:=dO gd md
def au {a0 a1}(h:gd a0 a1):R ((aj.r a0),(aa.r a1))=some (md a0 a1):=dN h
def aN:=CN [.agg nQ,.agg zp] oI RT.dec R
def bC (a0)(a1)(hg:gd a0 a1):F (aj.r a0) (aa.r a1)=ret (md a0 a1):=by
 obtain ⟨H0,H1⟩:=hg
 unfold F md
 try simp only [SS]
 refine av ret (fun _=>rfl) (fun c1=>?_)
 refine av ret (fun _=>rfl) (fun c2=>?_)
 refine ct (Z108.au ⟨H1,H0.1⟩) ?_
 refine av ret (fun _=>rfl) (fun _=>rfl)
def af:cZ 211 aN:=W2 18 F mix aD bC (dR Z108.af) Tryz.func211
end Z112
namespace Z113
inductive Pt where
 | p0 (a b:ak) (c d:Int)
def dM:Pt->List V
 | .p0 a b c d=>[.sl none 3 a,.sl none 3 b,.int .i64 c,.int .i64 d]
def step (J:Pt->az):Pt->az
 | .p0 a b c d=>(cond (d<c) (m2 d (a.length:Int) (m2 d (b.length:Int) (cond ((ld a (toNat d)) != (ld b (toNat d))) bL (J (.p0 a b c (i64.wrap (d+1))))))) oz)
def start (J:Pt->az)(x0 x1:ak):az:=(cond ((x0.length:Int) != (x1.length:Int)) bL (J (.p0 x0 x1 (x0.length:Int) 0)))
def live:Nat->Live:=kA [(4,nP [0,1,12,13])]
def md (a0 a1:List Int):Bool:=(bif ((a0.length:Int) != (a1.length:Int)) then (false:Bool) else (dS (S:=Unit) (β:=Bool) (fun (i2:Nat) (s4:Unit)=>(cond ((a0.getD i2 0) != (a1.getD i2 0)) (.inr (false:Bool)) (.inl ()))) (fun (s4:Unit)=>(true:Bool)) a0.length 0 ()))
def gd (a0 a1:List Int):Prop:=(cw (2^38) (fun y:Int=>True) a0)/\(cw (2^38) (fun y:Int=>True) a1)
def R:=dO gd md
def au {a0 a1}(h:gd a0 a1):R ((a0.map aQ),(a1.map aQ))=some (md a0 a1):=dN h
def aN:=CN [pL 3,pL 3] oB RT.dec R
def bC (a0)(a1)(hg:gd a0 a1):∃n,start (iter step n) (a0.map aQ) (a1.map aQ)=ret (md a0 a1):=by
 obtain ⟨H0,H1⟩:=hg
 unfold start md
 try simp only [SS]
 refine iJ ret (fun _=>⟨0,rfl⟩) (fun c1=>?_)
 have dc1:=c1
 try simp only [DC] at dc1
 have Bh3:a0.length<=maxLen:=(by
   have:=(H0).1
   try simp only [maxLen] at *
   omega)
 refine eO (p:=Pt.p0 (a0.map aQ) (a1.map aQ) (a0.length:Int) 0) fz ?_
 refine cH (pt:=fun (i2:Nat) (s4:Unit)=>Pt.p0 (a0.map aQ) (a1.map aQ) (a0.length:Int) (i2:Int)) (s:=(():Unit)) (out:=ret) (fun _ _=>True) (fun J i2 s4 h3 hih3=>?_) (fun s4 hih3=>?_) trivial
 ·simp only [step,SS]
  have bb_:=Bh3
  simp only [maxLen] at bb_
  have:=(H0).1
  refine bp.yes (by apply decide_eq_true;omega) ?_
  refine bp.yes bJ ?_
  refine bp.yes (cA h3) ?_
  refine bp.yes bJ ?_
  refine bp.yes (have:=(H1).1;dt) ?_
  refine bp.bif (fun _=>bp.inr rfl) (fun c5=>?_)
  refine bp.inl trivial ?_
  rw [aT h3 Bh3]
  all_goals exact fz
 ·simp only [step,SS]
  have:=(H0).1
  refine eM (by apply decide_eq_false;omega) ?_
  refine ⟨0,?_⟩
  all_goals exact fz
def af:cZ 40 aN:=L2 26 (fun _=>4) dM (fun _=>[]) live step start mix aD bC .nil Tryz.func40
def md_eq (a0 a1:List Int):md a0 a1=qi a0 a1:=by
 unfold md
 refine wE (0) (fun i s h h2=>?_) (fun s=>rfl)
 simp only [bne,yj,bool_beq,uK]
 cases qi _ _<;>rfl
end Z113
namespace Z114
def F (x0 x1:aX):az:=(call (Z113.R (x0.aI,x1.aI)) fun v1=>(cond v1 (ret ((x0.bS==x1.bS):Bool)) bL))
def md (a0 a1:aq):Bool:=(cond (Z113.md a0.aI a1.aI) ((a0.bS==a1.bS):Bool) (false:Bool))
def gd (a0 a1:aq):Prop:=(aq.Sm (2^21) a0)/\(aq.Sm (2^21) a1)
def R:=dO gd md
def au {a0 a1}(h:gd a0 a1):R ((aq.r a0),(aq.r a1))=some (md a0 a1):=dN h
def aN:=CN [.agg nR,.agg nR] oB RT.dec R
def bC (a0)(a1)(hg:gd a0 a1):F (aq.r a0) (aq.r a1)=ret (md a0 a1):=by
 obtain ⟨H0,H1⟩:=hg
 unfold F md
 try simp only [SS]
 refine ct (Z113.au ⟨(H0.mono (by decide) (fun x hx=>trivial)),(H1.mono (by decide) (fun x hx=>trivial))⟩) ?_
 refine av ret (fun c1=>?_) (fun _=>rfl)
 all_goals exact fz
def af:cZ 10 aN:=W2 17 F mix aD bC (dR Z113.af) Tryz.func10
def md_eq (a0 a1:aq):md a0 a1=qi a0 a1:=by
 unfold md
 cases a0;cases a1
 rw [Bool.eq_iff_iff]
 simp [fN,uK,aq.mk.injEq,Z113.md_eq]
 try (constructor<;>(intro h;simp_all))
end Z114
namespace Z115
def F (x0 x1:aR):az:=(cond (x0.bk==x1.bk) (ret ((x0.bE==x1.bE):Bool)) bL)
def md (a0 a1:aj):Bool:=(cond (a0.bk==a1.bk) ((a0.bE==a1.bE):Bool) (false:Bool))
def gd (a0 a1:aj):Prop:=True
def R:=dO gd md
def au {a0 a1}(h:gd a0 a1):R ((aj.r a0),(aj.r a1))=some (md a0 a1):=dN h
def aN:=CN [.agg nQ,.agg nQ] oB RT.dec R
def bC (a0)(a1)(hg:gd a0 a1):F (aj.r a0) (aj.r a1)=ret (md a0 a1):=by
 unfold F md
 try simp only [SS]
 refine av ret (fun c1=>?_) (fun _=>rfl)
 all_goals exact fz
def af:cZ 234 aN:=W2 17 F mix aD bC .nil Tryz.func234
def br (a0 a1:aj):md a0 a1=Z60.md a0 a1:=by
 unfold md Z60.md
 first
 | (simp only [id];done)
 | (simp only [id];rfl)
 | rfl
end Z115
namespace Z116
def F (x0:aR)(x1:aB):az:=(cond x0.aH (ret (4:Int)) (call (Z88.R x0.aM) fun v1=>(cond v1 (ret (5:Int)) (cond (x1.an.aO<(i64.wrap (x0.aZ+x0.bu))) (ret (5:Int)) (cond x1.an.aH (ret (6:Int)) (call (Z114.R (x1.an.aE,x0.aM)) fun v2=>(cond (!v2) (ret (6:Int)) (call (Z115.R (x1.an,x0)) fun v3=>(cond (!v3) (ret (6:Int)) (call (Z108.R (x1,x0.aM)) fun v4=>(cond (!v4) (ret (7:Int)) (ret (1:Int)))))))))))))
def md (a0:aj)(a1:aa):Int:=(cond a0.aH (4:Int) (cond (Z88.md a0.aM) (5:Int) (cond (a1.an.aO<(i64.wrap (a0.aZ+a0.bu))) (5:Int) (cond a1.an.aH (6:Int) (cond (!(Z114.md a1.an.aE a0.aM)) (6:Int) (cond (!(Z115.md a1.an a0)) (6:Int) (cond (!(Z108.md a1 a0.aM)) (7:Int) (1:Int))))))))
def gd (a0:aj)(a1:aa):Prop:=(aj.Sm (2^21) a0)/\(aa.Sm (2^21) a1)
def R:=dO gd md
def au {a0 a1}(h:gd a0 a1):R ((aj.r a0),(aa.r a1))=some (md a0 a1):=dN h
def aN:=CN [.agg nQ,.agg zp] oI RT.dec R
def bC (a0)(a1)(hg:gd a0 a1):F (aj.r a0) (aa.r a1)=ret (md a0 a1):=by
 obtain ⟨H0,H1⟩:=hg
 unfold F md
 try simp only [SS]
 refine av ret (fun _=>rfl) (fun c1=>?_)
 refine ct (Z88.au trivial) ?_
 refine av ret (fun _=>rfl) (fun c2=>?_)
 refine av ret (fun _=>rfl) (fun c3=>?_)
 refine av ret (fun _=>rfl) (fun c4=>?_)
 refine ct (Z114.au ⟨H1.1.1,H0.2.1⟩) ?_
 refine av ret (fun _=>rfl) (fun c5=>?_)
 refine ct (Z115.au trivial) ?_
 refine av ret (fun _=>rfl) (fun c6=>?_)
 refine ct (Z108.au ⟨H1,H0.2.1⟩) ?_
 refine av ret (fun _=>rfl) (fun _=>rfl)
def af:cZ 212 aN:=W2 48 F mix aD bC (wL Z88.af Z114.af Z115.af Z108.af) Tryz.func212
end Z116
namespace Z117
def F (x0:aR)(x1:aB):az:=(call (Z115.R (x1.an,x0)) fun v1=>(cond v1 (call (Z114.R (x1.an.aK,x0.aK)) fun v2=>(cond v2 (call (Z114.R (x1.an.aM,x0.aM)) fun v3=>(cond v3 (call (Z88.R x0.aK) fun v4=>(cond v4 (ret (5:Int)) (cond (x1.an.aH==x0.aH) (ret (6:Int)) (cond (!(x1.an.bu==x0.bu)) (ret (6:Int)) (cond x1.an.aH (call (Z114.R (x1.an.aE,x0.aE)) fun v5=>(cond (!v5) (ret (6:Int)) (call (Z108.R (x1,x0.aK)) fun v6=>(cond (!v6) (ret (7:Int)) (ret (1:Int)))))) (call (Z108.R (x1,x0.aK)) fun v7=>(cond (!v7) (ret (7:Int)) (ret (1:Int))))))))) (call (Z88.R x0.aK) fun v8=>(cond v8 (ret (5:Int)) (cond (x1.an.aH==x0.aH) (ret (6:Int)) (ret (6:Int))))))) (call (Z88.R x0.aK) fun v9=>(cond v9 (ret (5:Int)) (cond (x1.an.aH==x0.aH) (ret (6:Int)) (ret (6:Int))))))) (call (Z88.R x0.aK) fun v10=>(cond v10 (ret (5:Int)) (cond (x1.an.aH==x0.aH) (ret (6:Int)) (ret (6:Int)))))))
def md (a0:aj)(a1:aa):Int:=(cond (Z115.md a1.an a0) (cond (Z114.md a1.an.aK a0.aK) (cond (Z114.md a1.an.aM a0.aM) (cond (Z88.md a0.aK) (5:Int) (cond (a1.an.aH==a0.aH) (6:Int) (cond (!(a1.an.bu==a0.bu)) (6:Int) (cond a1.an.aH (cond (!(Z114.md a1.an.aE a0.aE)) (6:Int) (cond (!(Z108.md a1 a0.aK)) (7:Int) (1:Int))) (cond (!(Z108.md a1 a0.aK)) (7:Int) (1:Int)))))) (cond (Z88.md a0.aK) (5:Int) (cond (a1.an.aH==a0.aH) (6:Int) (6:Int)))) (cond (Z88.md a0.aK) (5:Int) (cond (a1.an.aH==a0.aH) (6:Int) (6:Int)))) (cond (Z88.md a0.aK) (5:Int) (cond (a1.an.aH==a0.aH) (6:Int) (6:Int))))
def gd (a0:aj)(a1:aa):Prop:=(aj.Sm (2^21) a0)/\(aa.Sm (2^21) a1)
def R:=dO gd md
def au {a0 a1}(h:gd a0 a1):R ((aj.r a0),(aa.r a1))=some (md a0 a1):=dN h
def aN:=CN [.agg nQ,.agg zp] oI RT.dec R
def bC (a0)(a1)(hg:gd a0 a1):F (aj.r a0) (aa.r a1)=ret (md a0 a1):=by
 obtain ⟨H0,H1⟩:=hg
 unfold F md
 try simp only [SS]
 refine ct (Z115.au trivial) ?_
 refine av ret (fun c1=>?_) (fun c1=>?_)
 ·refine ct (Z114.au ⟨H1.1.2.2,H0.2.2⟩) ?_
  refine av ret (fun c2=>?_) (fun c2=>?_)
  ·refine ct (Z114.au ⟨H1.1.2.1,H0.2.1⟩) ?_
   refine av ret (fun c3=>?_) (fun c3=>?_)
   ·refine ct (Z88.au trivial) ?_
    refine av ret (fun _=>rfl) (fun c4=>?_)
    refine av ret (fun _=>rfl) (fun c5=>?_)
    refine av ret (fun _=>rfl) (fun c6=>?_)
    refine av ret (fun c7=>?_) (fun c7=>?_)
    ·refine ct (Z114.au ⟨H1.1.1,H0.1⟩) ?_
     refine av ret (fun _=>rfl) (fun c8=>?_)
     refine ct (Z108.au ⟨H1,H0.2.2⟩) ?_
     refine av ret (fun _=>rfl) (fun _=>rfl)
    ·refine ct (Z108.au ⟨H1,H0.2.2⟩) ?_
     refine av ret (fun _=>rfl) (fun _=>rfl)
   ·refine ct (Z88.au trivial) ?_
    refine av ret (fun _=>rfl) (fun c11=>?_)
    refine av ret (fun _=>rfl) (fun _=>rfl)
  ·refine ct (Z88.au trivial) ?_
   refine av ret (fun _=>rfl) (fun c13=>?_)
   refine av ret (fun _=>rfl) (fun _=>rfl)
 ·refine ct (Z88.au trivial) ?_
  refine av ret (fun _=>rfl) (fun c15=>?_)
  refine av ret (fun _=>rfl) (fun _=>rfl)
def af:cZ 213 aN:=W2 65 F mix aD bC (wL Z115.af Z114.af Z88.af Z108.af) Tryz.func213
end Z117
namespace Z118
def F (x0:aR)(x1:aB):az:=(call (Z91.R x0) fun v1=>(cond (!v1) (ret (2:Int)) (call (Z91.R x1.an) fun v2=>(cond (!v2) (ret (2:Int)) (call (Z111.R (x0,x1.an)) fun v3=>(cond (!v3) (ret (3:Int)) (cond (x1.an.aP==1) (call (Z112.R (x0,x1)) fun v4=>ret (v4:Int)) (cond (x1.an.aP==2) (call (Z116.R (x0,x1)) fun v5=>ret (v5:Int)) (call (Z117.R (x0,x1)) fun v6=>ret (v6:Int))))))))))
def md (a0:aj)(a1:aa):Int:=(cond (!(Z91.md a0)) (2:Int) (cond (!(Z91.md a1.an)) (2:Int) (cond (!(Z111.md a0 a1.an)) (3:Int) (cond (a1.an.aP==1) ((Z112.md a0 a1):Int) (cond (a1.an.aP==2) ((Z116.md a0 a1):Int) ((Z117.md a0 a1):Int))))))
def gd (a0:aj)(a1:aa):Prop:=(aj.Sm (2^21) a0)/\(aa.Sm (2^21) a1)
def R:=dO gd md
def au {a0 a1}(h:gd a0 a1):R ((aj.r a0),(aa.r a1))=some (md a0 a1):=dN h
def aN:=CN [.agg nQ,.agg zp] oI RT.dec R
def bC (a0)(a1)(hg:gd a0 a1):F (aj.r a0) (aa.r a1)=ret (md a0 a1):=by
 obtain ⟨H0,H1⟩:=hg
 unfold F md
 try simp only [SS]
 refine ct (Z91.au H0) ?_
 refine av ret (fun _=>rfl) (fun c1=>?_)
 refine ct (Z91.au H1.1) ?_
 refine av ret (fun _=>rfl) (fun c2=>?_)
 refine ct (Z111.au H0) ?_
 refine av ret (fun _=>rfl) (fun c3=>?_)
 refine av ret (fun c4=>?_) (fun c4=>?_)
 ·refine ct (Z112.au ⟨H0,H1⟩) ?_
  all_goals exact fz
 ·refine av ret (fun c5=>?_) (fun c5=>?_)
  ·refine ct (Z116.au ⟨H0,H1⟩) ?_
   all_goals exact fz
  ·refine ct (Z117.au ⟨H0,H1⟩) ?_
   all_goals exact fz
def af:cZ 167 aN:=W2 40 F mix aD bC (Cm Z91.af Z111.af Z112.af Z116.af Z117.af) Tryz.func167
def br (a0:aj)(a1:aa):md a0 a1=Z63.md a0 a1:=by
 unfold md Z63.md Z111.md Z112.md Z116.md Z117.md Z108.md Z57.md Z61.md Z62.md
 simp only [Z91.br,Z110.br,Z107.br,Z99.br,Z88.br,Z114.md_eq,Z59.md_eq,Z115.br,bne]
 cases Z40.md a0
 ·rfl
 cases h2:Z40.md a1.an
 ·rfl
 obtain ⟨⟨k1,k2⟩,_⟩:=Z40.tr h2
 have ht:decide (a1.an.aO<a0.aO)=!decide (a1.an.aO>=a0.aO):=by
  rw [Bool.eq_iff_iff];simp
 rw [ht]
 cases a1.an.bq==a0.bq
 ·rfl
 cases a1.an.aY==i64.wrap (a0.aY+1)
 ·rfl
 cases a1.an.bW==Z50.md a0
 ·rfl
 cases decide (a1.an.aO>=a0.aO)
 ·rfl
 have hk:a1.an.aP=1∨a1.an.aP=2∨a1.an.aP=3:=by omega
 generalize Z55.md a0.aE (Z43.md a1.an) a1.eB=s1
 generalize Z55.md a0.aM (Z43.md a1.an) a1.eB=s2
 generalize Z55.md a0.aK (Z43.md a1.an) a1.eB=s3
 generalize Z39.md a0.aM=n1
 generalize Z39.md a0.aK=n2
 generalize decide (a1.an.aO<i64.wrap (a0.aZ+a0.bu))=d1
 generalize qi a1.an.aE a0.aM=e1
 generalize qi a1.an.aK a0.aK=e2
 generalize qi a1.an.aM a0.aM=e3
 generalize qi a1.an.aE a0.aE=e4
 generalize Z60.md a1.an a0=c1
 generalize (a1.an.bu==a0.bu)=w1
 generalize a1.an.aH=f1
 generalize a0.aH=f0
 rcases hk with hk | hk | hk<;>rw [hk]
 ·cases f0<;>cases f1<;>cases s1<;>rfl
 ·cases f0<;>cases n1<;>cases d1<;>cases f1<;>cases e1<;>cases c1<;>cases s2<;>rfl
 ·cases n2
  ·cases f1<;>cases f0<;>cases c1<;>cases e2<;>cases e3<;>cases w1<;>cases e4<;>cases s3<;>rfl
  ·cases c1<;>cases e2<;>cases e3<;>rfl
end Z118
namespace Z119
def F (x0:aR)(x1:aB):az:=(call (Z118.R (x0,x1)) fun v1=>ret ((v1==1):Bool))
def md (a0:aj)(a1:aa):Bool:=(((Z118.md a0 a1)==1):Bool)
def gd (a0:aj)(a1:aa):Prop:=(aj.Sm (2^21) a0)/\(aa.Sm (2^21) a1)
def R:=dO gd md
def au {a0 a1}(h:gd a0 a1):R ((aj.r a0),(aa.r a1))=some (md a0 a1):=dN h
def aN:=CN [.agg nQ,.agg zp] oB RT.dec R
def bC (a0)(a1)(hg:gd a0 a1):F (aj.r a0) (aa.r a1)=ret (md a0 a1):=by
 obtain ⟨H0,H1⟩:=hg
 unfold F md
 try simp only [SS]
 refine ct (Z118.au ⟨H0,H1⟩) ?_
 all_goals exact fz
def af:cZ 132 aN:=W2 9 F mix aD bC (dR Z118.af) Tryz.func132
def br (a0:aj)(a1:aa):md a0 a1=Z64.md a0 a1:=by
 unfold md Z64.md
 first
 | (simp only [Z118.br];done)
 | (simp only [Z118.br];rfl)
 | rfl
end Z119
namespace Z120
inductive Pt where
 | p0 (a b:ak) (c d:Int)
def dM:Pt->List V
 | .p0 a b c d=>[.sl none 78 a,.sl none 78 b,.int .i64 c,.int .i64 d]
def step (J:Pt->az):Pt->az
 | .p0 a b c d=>(cond (d<c) (m2 d (b.length:Int) (cond (d==0) (call (Z109.R (aB.at b (toNat d))) fun v1=>(cond (!v1) (ret (d:Int)) (cond (d>0) (dZ ((0:Int)<=(i64.wrap (d - 1))) (dZ ((i64.wrap (d - 1))<(a.length:Int)) (call (Z119.R ((aB.at a (toNat (i64.wrap (d - 1)))).an,(aB.at b (toNat d)))) fun v2=>(cond (!v2) (ret (d:Int)) (J (.p0 a b c (i64.wrap (d+1)))))))) (J (.p0 a b c (i64.wrap (d+1))))))) (cond (d>0) (dZ ((0:Int)<=(i64.wrap (d - 1))) (dZ ((i64.wrap (d - 1))<(a.length:Int)) (call (Z119.R ((aB.at a (toNat (i64.wrap (d - 1)))).an,(aB.at b (toNat d)))) fun v3=>(cond (!v3) (ret (d:Int)) (J (.p0 a b c (i64.wrap (d+1)))))))) (J (.p0 a b c (i64.wrap (d+1))))))) vP)
def start (J:Pt->az)(x0:ak):az:=J (.p0 x0 x0 (x0.length:Int) 0)
def live:Nat->Live:=kA [(2,nP [0,5,6,7])]
def md (a0:List aa):Int:=(dX (S:=Unit) (β:=Int) (fun (i1:Nat) (y1:aa) (s3:Unit)=>(cond ((i1:Int)==0) (cond (!(Z109.md y1)) (.inr ((i1:Int):Int)) (cond ((i1:Int)>0) (cond (!(Z119.md ((a0.getD (toNat (i64.wrap ((i1:Int) - 1))) aa.zero).an) y1)) (.inr ((i1:Int):Int)) (.inl ())) (.inl ()))) (cond ((i1:Int)>0) (cond (!(Z119.md ((a0.getD (toNat (i64.wrap ((i1:Int) - 1))) aa.zero).an) y1)) (.inr ((i1:Int):Int)) (.inl ())) (.inl ())))) (fun (s3:Unit)=>((-1):Int)) 0 a0 ())
def gd (a0:List aa):Prop:=(cw (2^21) (fun y:aa=>aa.Sm (2^21) y) a0)
def R:=RR gd md
def au {a0}(h:gd a0):R (a0.map aa.row)=some (md a0):=dJ h
def aN:=CN [pL 78] oI RT.dec R
def bC (a0)(hg:gd a0):∃n,start (iter step n) (a0.map aa.row)=ret (md a0):=by
 unfold gd at hg
 have H0:=hg
 unfold start md
 try simp only [SS]
 have Bh2:a0.length<=maxLen:=(by
   have:=(H0).1
   try simp only [maxLen] at *
   omega)
 refine ex_eq (out:=ret) (cX (z:=aa.zero)) ?_
 refine eO (p:=Pt.p0 (a0.map aa.row) (a0.map aa.row) (a0.length:Int) 0) fz ?_
 refine cH (pt:=fun (i1:Nat) (s3:Unit)=>Pt.p0 (a0.map aa.row) (a0.map aa.row) (a0.length:Int) (i1:Int)) (s:=(():Unit)) (out:=ret) (fun _ _=>True) (fun J i1 s3 h2 hih2=>?_) (fun s3 hih2=>?_) trivial
 ·simp only [step,SS]
  have bb_:=Bh2
  simp only [maxLen] at bb_
  have:=(H0).1
  refine bp.yes (by apply decide_eq_true;omega) ?_
  refine bp.yes bJ ?_
  refine bp.yes (cA h2) ?_
  refine bp.bif (fun c4=>?_) (fun c4=>?_)
  ·have dc4:=c4
   try simp only [DC] at dc4
   refine cr (Z109.au (cw.getD (z:=aa.zero) H0 h2)) ?_
   refine bp.bif (fun c5=>?_) (fun c5=>?_)
   ·refine bp.inr ?_
    all_goals exact fz
   ·have dc5:=c5
    try simp only [DC] at dc5
    refine bp.bif (fun c6=>?_) (fun c6=>?_)
    ·have dc6:=c6
     try simp only [DC] at dc6
     refine bp.yes dt ?_
     refine bp.yes (have:=(H0).1;dt) ?_
     refine cr (Z119.au ⟨(cw.getD (z:=aa.zero) H0 (by first | assumption | omega | (simp (disch:=omega) only [wi];omega) | (simp;omega))).1,(cw.getD (z:=aa.zero) H0 h2)⟩) ?_
     refine bp.bif (fun c7=>?_) (fun c7=>?_)
     ·refine bp.inr ?_
      all_goals exact fz
     ·refine bp.inl trivial ?_
      rw [aT h2 Bh2]
      all_goals exact fz
    ·refine bp.inl trivial ?_
     rw [aT h2 Bh2]
     all_goals exact fz
  ·have dc4:=c4
   try simp only [DC] at dc4
   refine bp.bif (fun c8=>?_) (fun c8=>?_)
   ·have dc8:=c8
    try simp only [DC] at dc8
    refine bp.yes dt ?_
    refine bp.yes (have:=(H0).1;dt) ?_
    refine cr (Z119.au ⟨(cw.getD (z:=aa.zero) H0 (by first | assumption | omega | (simp (disch:=omega) only [wi];omega) | (simp;omega))).1,(cw.getD (z:=aa.zero) H0 h2)⟩) ?_
    refine bp.bif (fun c9=>?_) (fun c9=>?_)
    ·refine bp.inr ?_
     all_goals exact fz
    ·refine bp.inl trivial ?_
     rw [aT h2 Bh2]
     all_goals exact fz
   ·refine bp.inl trivial ?_
    rw [aT h2 Bh2]
    all_goals exact fz
 ·simp only [step,SS]
  have:=(H0).1
  refine eM (by apply decide_eq_false;omega) ?_
  refine ⟨0,?_⟩
  all_goals exact fz
def af:cZ 87 aN:=L1 36 (fun _=>2) dM (fun _=>[]) live step start mix aD bC (gD Z109.af Z119.af) Tryz.func87
def br (a0:List aa):md a0=Z65.md a0:=by
 unfold md Z65.md
 rw [<-cX (z:=aa.zero),<-cX (z:=aa.zero)]
 refine vl (fun _ _=>True) (fun i s hi _=>⟨?_,fun _ _=>trivial⟩) (fun _ _=>rfl) trivial
 simp only [Z109.br,Z119.br]
 by_cases h0:i=0
 ·subst h0;rfl
 ·have e:((i:Int)==0)=false:=beq_eq_false_iff_ne.2 (by omega)
  simp only [e,aL]
end Z120
namespace Z121
def F (x0:ak):az:=(call (Z82.R ((x0.length:Int),1,12)) fun v1=>(cond v1 (call (Z120.R x0) fun v2=>ret ((decide (v2<0)):Bool)) bL))
def md (a0:List aa):Bool:=(cond (Z82.md (a0.length:Int) 1 12) ((decide ((Z120.md a0)<0)):Bool) (false:Bool))
def gd (a0:List aa):Prop:=(cw (2^21) (fun y:aa=>aa.Sm (2^21) y) a0)
def R:=RR gd md
def au {a0}(h:gd a0):R (a0.map aa.row)=some (md a0):=dJ h
def aN:=CN [pL 78] oB RT.dec R
def bC (a0)(hg:gd a0):F (a0.map aa.row)=ret (md a0):=by
 unfold gd at hg
 have H0:=hg
 unfold F md
 try simp only [SS]
 refine ct (Z82.au trivial) ?_
 refine av ret (fun c1=>?_) (fun _=>rfl)
 refine ct (Z120.au H0) ?_
 all_goals exact fz
def af:cZ 36 aN:=W1 11 F mix aD bC (gD Z82.af Z120.af) Tryz.func36
def tr {a0:List aa}(h:md a0=true):1<=a0.length/\a0.length<=12:=by simp [md,Z82.md] at h;omega
def br (a0:List aa):md a0=Z66.md a0:=by
 unfold md Z66.md
 first
 | (simp only [Z82.br,Z120.br];done)
 | (simp only [Z82.br,Z120.br];rfl)
 | rfl
end Z121
namespace Z122
def F (x0:ak):az:=(cond x0.isEmpty (either (ret ([]:ak)) ((dZ (gy ((x0.length:Int)*8)) (ret (x0:ak))))) (dZ (gy ((x0.length:Int)*8)) (ret (x0:ak))))
def md (a0:List Int):List Int:=a0
def gd (a0:List Int):Prop:=cw (2^38) (fun y:Int=>True) a0
def R:=RR gd md
def au {a0}(h:gd a0):R (a0.map aQ)=some (a0.map aQ):=dJ h
def aN:=CN [pL 3] (oL 3) RT.dec R
def bC (a0)(hg:gd a0):F (a0.map aQ)=ret ((md a0).map aQ):=by
 have H0:=hg.1
 unfold F md
 have hl:gy (((a0.map aQ).length:Int)*8)=true:=gK (by simp only [List.length_map];omega)
 simp only [hl,aC]
 cases a0 with
 | nil=>exact vg
 | cons x xs=>rfl
def af:cZ 88 aN:=W1 8 F mix aD bC .nil Tryz.func88
end Z122
namespace Z123
def F (x0:aX):az:=(call (Z122.R x0.aI) fun v1=>ret ((⟨v1,x0.bS⟩:aX):aX))
def md (a0:aq):aq:=a0
def gd (a0:aq):Prop:=(aq.Sm (2^21) a0)
def R:=RR gd md
def au {a0}(h:gd a0):R (aq.r a0)=some (aq.r a0):=dJ h
def aN:=CN [.agg nR] (.agg f31) RT.dec R
def bC (a0)(hg:gd a0):F (aq.r a0)=ret (aq.r (md a0)):=by
 unfold gd at hg
 have H0:=hg
 unfold F md
 try simp only [SS]
 refine ct (Z122.au (H0.mono (by decide) (fun x hx=>trivial))) ?_
 try simp only [SS]
 all_goals exact fz
def af:cZ 37 aN:=W1 9 F mix aD bC (dR Z122.af) Tryz.func37
end Z123
namespace Z124
inductive Pt where
 | p0 (a b:ak) (c d:Int) (e:ak)
def dM:Pt->List V
 | .p0 a b c d e=>[.sl none 78 a,.own 0,.sl none 78 b,.int .i64 c,.int .i64 d]
def fk:Pt->List aA
 | .p0 a b c d e=>[.row 41 e]
def step (J:Pt->az):Pt->az
 | .p0 a b c d e=>(cond (d<c) (m2 d (b.length:Int) (cond (d==0) (call (Z123.R ((aB.at b (toNat d)).an.aE)) fun v1=>(dZ (gy (((e.length:Int)+1)*48)) (J (.p0 a b c (i64.wrap (d+1)) (e++[(ez.enc (⟨(aB.at b (toNat d)).an.aO,v1,(aB.at b (toNat d)).an.aP⟩:ez))]))))) (dZ ((0:Int)<=(i64.wrap (d - 1))) (dZ ((i64.wrap (d - 1))<(a.length:Int)) (call (Z114.R ((aB.at b (toNat d)).an.aE,(aB.at a (toNat (i64.wrap (d - 1)))).an.aE)) fun v2=>(cond (!v2) (call (Z123.R ((aB.at b (toNat d)).an.aE)) fun v3=>(dZ (gy (((e.length:Int)+1)*48)) (J (.p0 a b c (i64.wrap (d+1)) (e++[(ez.enc (⟨(aB.at b (toNat d)).an.aO,v3,(aB.at b (toNat d)).an.aP⟩:ez))]))))) (J (.p0 a b c (i64.wrap (d+1)) e)))))))) (ret (e:ak)))
def start (J:Pt->az)(x0:ak):az:=(call (Z121.R x0) fun v1=>(cond (!v1) (ret ([]:ak)) (J (.p0 x0 x0 (x0.length:Int) 0 []))))
def live:Nat->Live:=kA [(5,[(0,none),(3,some 41),(10,none),(11,none),(12,none)])]
def md (a0:List aa):List aS:=(bif (!(Z121.md a0)) then [] else (dX (S:=List aS) (β:=List aS) (fun (i2:Nat) (y2:aa) (s4:List aS)=>(cond ((i2:Int)==0) (.inl (s4++[(⟨(y2.an).aO,((y2.an).aE),(y2.an).aP⟩:aS)])) (cond (!(Z114.md ((y2.an).aE) (((a0.getD (toNat (i64.wrap ((i2:Int) - 1))) aa.zero).an).aE))) (.inl (s4++[(⟨(y2.an).aO,((y2.an).aE),(y2.an).aP⟩:aS)])) (.inl s4)))) (fun (s4:List aS)=>s4) 0 a0 []))
def gd (a0:List aa):Prop:=(cw (2^21) (fun y:aa=>aa.Sm (2^21) y) a0)
def R:=RR gd md
def au {a0}(h:gd a0):R (a0.map aa.row)=some ((md a0).map aS.row):=dJ h
def aN:=CN [pL 78] (oL 41) RT.dec R
def bC (a0)(hg:gd a0):∃n,start (iter step n) (a0.map aa.row)=ret ((md a0).map aS.row):=by
 unfold gd at hg
 have H0:=hg
 unfold start md
 try simp only [SS]
 refine cx (Z121.au H0) ?_
 refine iJ (fun b:List aS=>ret ((b.map aS.row):ak)) (fun c1=>?_) (fun c1=>?_)
 ·refine ⟨0,?_⟩
  all_goals exact fz
 ·have dc1:=c1
  try simp only [DC] at dc1
  try have tc1:=Z121.tr (by simpa using c1)
  have Bh3:a0.length<=maxLen:=(by
    have:=(H0).1
    try simp only [maxLen] at *
    omega)
  refine ex_eq (out:=(fun b:List aS=>ret ((b.map aS.row):ak))) (cX (z:=aa.zero)) ?_
  refine eO (p:=Pt.p0 (a0.map aa.row) (a0.map aa.row) (a0.length:Int) 0 ([].map aS.row)) fz ?_
  refine cH (pt:=fun (i2:Nat) (s4:List aS)=>Pt.p0 (a0.map aa.row) (a0.map aa.row) (a0.length:Int) (i2:Int) (s4.map aS.row)) (s:=([]:List aS)) (out:=(fun b:List aS=>ret ((b.map aS.row):ak))) (fun (i2:Nat) (s4:List aS)=>s4.length<=([]:List Int).length+1*i2) (fun J i2 s4 h3 hih3=>?_) (fun s4 hih3=>?_) (by simp)
  ·simp only [step,SS]
   have gr_:=hih3
   try simp only [LN] at gr_
   have bb_:=Bh3
   simp only [maxLen] at bb_
   have:=(H0).1
   refine bp.yes (by apply decide_eq_true;omega) ?_
   refine bp.yes bJ ?_
   refine bp.yes (cA h3) ?_
   refine bp.bif (fun c5=>?_) (fun c5=>?_)
   ·have dc5:=c5
    try simp only [DC] at dc5
    refine cr (Z123.au (cw.getD (z:=aa.zero) H0 h3).1.1) ?_
    try simp only [SS]
    refine bp.yes lm ?_
    refine bp.inl (by
      have g_:=hih3
      try simp only [LN] at g_ ⊢
      first | omega | (simp;done) | (simp;omega)) ?_
    rw [aT h3 Bh3]
    all_goals exact fz
   ·have dc5:=c5
    try simp only [DC] at dc5
    refine bp.yes dt ?_
    refine bp.yes (have:=(H0).1;dt) ?_
    refine cr (Z114.au ⟨(cw.getD (z:=aa.zero) H0 h3).1.1,(cw.getD (z:=aa.zero) H0 (by first | assumption | omega | (simp (disch:=omega) only [wi];omega) | (simp;omega))).1.1⟩) ?_
    refine bp.bif (fun c6=>?_) (fun c6=>?_)
    ·have dc6:=c6
     try simp only [DC] at dc6
     refine cr (Z123.au (cw.getD (z:=aa.zero) H0 h3).1.1) ?_
     try simp only [SS]
     refine bp.yes lm ?_
     refine bp.inl (by
       have g_:=hih3
       try simp only [LN] at g_ ⊢
       first | omega | (simp;done) | (simp;omega)) ?_
     rw [aT h3 Bh3]
     all_goals exact fz
    ·have dc6:=c6
     try simp only [DC] at dc6
     refine bp.inl (by
       have g_:=hih3
       try simp only [LN] at g_ ⊢
       first | omega | (simp;done) | (simp;omega)) ?_
     rw [aT h3 Bh3]
     all_goals exact fz
  ·simp only [step,SS]
   have gr_:=hih3
   try simp only [LN] at gr_
   have:=(H0).1
   refine eM (by apply decide_eq_false;omega) ?_
   refine ⟨0,?_⟩
   all_goals exact fz
def af:cZ 7 aN:=L1 49 (fun _=>5) dM fk live step start mix aD bC (pG Z121.af Z123.af Z114.af) Tryz.func7
end Z124
namespace Z125
inductive Pt where
 | p0 (a:ak) (b c d e f g h i j k l m n o:Int) (p:Bool)
def dM:Pt->List V
 | .p0 a b c d e f g h i j k l m n o p=>[.sl none 78 a,.int .i64 b,.bB 0 0,.int .i64 c]
def fk:Pt->List aA
 | .p0 a b c d e f g h i j k l m n o p=>[.box [.int .i64 d,.int .i64 e,.int .i64 f,.int .i64 g,.int .i64 h,.int .i64 i,.int .i64 j,.int .i64 k,.nil,.int .i64 l,.nil,.int .i64 m,.int .i64 n,.nil,.int .i64 o,.bool p]]
def step (J:Pt->az):Pt->az
 | .p0 a b c d e f g h i j k l m n o p=>(cond (c>=0) (m2 c (a.length:Int) (cond ((aB.at a (toNat c)).an.aO<=b) (m2 c (a.length:Int) (call (Z42.R ((aB.at a (toNat c)).an)) fun v1=>ret ((v1,true):aR×Bool))) (J (.p0 a b (i64.wrap (c - 1)) d e f g h i j k l m n o p)))) (ret (((⟨0,0,0,0,0,0,0,0,(⟨[],0⟩:aX),(⟨[],0⟩:aX),0,(⟨[],0⟩:aX),false⟩:aR),false):aR×Bool)))
def start (J:Pt->az)(x0:ak)(x1:Int):az:=(call (Z66.R x0) fun v1=>(cond (!v1) (ret (((⟨0,0,0,0,0,0,0,0,(⟨[],0⟩:aX),(⟨[],0⟩:aX),0,(⟨[],0⟩:aX),false⟩:aR),false):aR×Bool)) (J (.p0 x0 x1 (i64.wrap ((x0.length:Int) - 1)) 0 0 0 0 0 0 0 0 0 0 0 0 false))))
def live:Nat->Live:=kA [(4,nP [0,1,4,6])]
def dn (t:Int)(xs:List aa):Nat->aj×Bool
 | 0=>(aj.zero,false)
 | k+1=>bif decide ((xs.getD k aa.zero).an.aO<=t) then ((xs.getD k aa.zero).an,true) else dn t xs k
def BN {t:Int}{xs:List aa}(h:cw (2^21) (fun y:aa=>aa.Sm (2^21) y) xs):∀k:Nat,k<=xs.length->aj.Sm (2^21) (dn t xs k).1
 | 0,_=>⟨cw.nil,cw.nil,cw.nil⟩
 | k+1,hk=>by
  unfold dn
  cases decide ((xs.getD k aa.zero).an.aO<=t)
  ·exact BN h k (by omega)
  ·exact (cw.getD (z:=aa.zero) h (by omega)).1
def md (a0:List aa)(a1:Int):aj×Bool:=(cond (!(Z66.md a0)) (aj.zero,false) (dn a1 a0 a0.length))
def gd (a0:List aa)(a1:Int):Prop:=cw (2^21) (fun y:aa=>aa.Sm (2^21) y) a0
def R:=dO gd md
def au {a0 a1}(h:gd a0 a1):R ((a0.map aa.row),a1)=some ((aj.r (md a0 a1).1),(md a0 a1).2):=dN h
def aN:=CN [pL 78,pI] (.gL [(true,f35),(false,[fB])]) RT.dec R
def bC (a0)(a1)(hg:gd a0 a1):∃n,start (iter step n) (a0.map aa.row) a1=ret ((aj.r (md a0 a1).1),(md a0 a1).2):=by
 unfold gd at hg
 have key:∀k:Nat,k<=a0.length->∃n,iter step n (Pt.p0 (a0.map aa.row) a1 ((k:Int) - 1) 0 0 0 0 0 0 0 0 0 0 0 0 false)=ret ((aj.r (dn a1 a0 k).1,(dn a1 a0 k).2):aR×Bool):=by
  intro k
  induction k with
  | zero=>
   intro _
   refine ⟨1,?_⟩
   show step (iter step 0) _=_
   simp only [step]
   exact gX (by decide) rfl
  | succ k ih=>
   intro hk
   obtain ⟨n,hn⟩:=ih (by omega)
   refine ⟨n+1,?_⟩
   show step (iter step n) _=_
   have hl:=hg.1
   have e:((k+1:Nat):Int) - 1=(k:Int):=by omega
   have hlt:k<a0.length:=by omega
   rw [e]
   simp only [step,MM,S0,aa.rs,aj.rs]
   refine bn (decide_eq_true (by omega)) (bn (decide_eq_true (by omega)) (bn (decide_eq_true (by omega)) ?_))
   unfold dn
   cases hc:decide ((a0.getD k aa.zero).an.aO<=a1)
   ·simp only [aL]
    rw [wi _ (by omega)]
    exact hn
   ·simp only [aC]
    refine bn (decide_eq_true (by omega)) (bn (decide_eq_true (by omega)) ?_)
    exact dF (aj.r (a0.getD k aa.zero).an) (Z42.au (cw.getD (z:=aa.zero) hg hlt).1) rfl
 unfold start md
 refine mU (Z66.md a0) (Z66.au hg) ?_
 cases Z66.md a0
 ·exact ⟨0,rfl⟩
 ·obtain ⟨n,hn⟩:=key a0.length (Nat.le_refl _)
  refine ⟨n,?_⟩
  have hl:=hg.1
  simp only [Bool.not_true,aL,S0]
  rw [wi _ (by omega)]
  exact hn
def af:cZ 9 aN:=L2 33 (fun _=>4) dM fk live step start mix aD bC (gD Z66.af Z42.af) Tryz.func9
def uQ {a0:List aa}{a1:Int}(hg:gd a0 a1):aj.Sm (2^21) ((md a0 a1).1):=by
 unfold gd at hg;unfold md
 cases Z66.md a0
 ·exact ⟨cw.nil,cw.nil,cw.nil⟩
 ·exact Z125.BN hg _ (Nat.le_refl _)
end Z125
namespace Z126
def F (x0:aR):az:=(call (Z123.R x0.aE) fun v1=>(call (Z123.R x0.aM) fun v2=>(call (Z123.R x0.aK) fun v3=>ret ((⟨x0.bq,x0.aY,x0.aP,x0.aO,x0.aZ,x0.bk,x0.bE,x0.bW,v1,v2,x0.bu,v3,x0.aH⟩:aR):aR))))
def md (a0:aj):aj:=a0
def gd (a0:aj):Prop:=(aj.Sm (2^21) a0)
def R:=RR gd md
def au {a0}(h:gd a0):R (aj.r a0)=some (aj.r a0):=dJ h
def aN:=CN [.agg nQ] (.agg f35) RT.dec R
def bC (a0)(hg:gd a0):F (aj.r a0)=ret (aj.r (md a0)):=by
 unfold gd at hg
 have H0:=hg
 unfold F md
 try simp only [SS]
 refine ct (Z123.au H0.1) ?_
 try simp only [SS]
 refine ct (Z123.au H0.2.1) ?_
 try simp only [SS]
 refine ct (Z123.au H0.2.2) ?_
 try simp only [SS]
 all_goals exact fz
def af:cZ 89 aN:=W1 16 F mix aD bC (dR Z123.af) Tryz.func89
end Z126
namespace Z127
inductive Pt where
 | p0 (a:ak) (b c d e f g h i j k l m n o:Int) (p:Bool)
def dM:Pt->List V
 | .p0 a b c d e f g h i j k l m n o p=>[.sl none 78 a,.int .i64 b,.bB 0 0,.int .i64 c]
def fk:Pt->List aA
 | .p0 a b c d e f g h i j k l m n o p=>[.box [.int .i64 d,.int .i64 e,.int .i64 f,.int .i64 g,.int .i64 h,.int .i64 i,.int .i64 j,.int .i64 k,.nil,.int .i64 l,.nil,.int .i64 m,.int .i64 n,.nil,.int .i64 o,.bool p]]
def step (J:Pt->az):Pt->az
 | .p0 a b c d e f g h i j k l m n o p=>(cond (c>=0) (m2 c (a.length:Int) (cond ((aB.at a (toNat c)).an.aO<=b) (m2 c (a.length:Int) (call (Z126.R ((aB.at a (toNat c)).an)) fun v1=>ret ((v1,true):aR×Bool))) (J (.p0 a b (i64.wrap (c - 1)) d e f g h i j k l m n o p)))) (ret (((⟨0,0,0,0,0,0,0,0,(⟨[],0⟩:aX),(⟨[],0⟩:aX),0,(⟨[],0⟩:aX),false⟩:aR),false):aR×Bool)))
def start (J:Pt->az)(x0:ak)(x1:Int):az:=(call (Z121.R x0) fun v1=>(cond (!v1) (ret (((⟨0,0,0,0,0,0,0,0,(⟨[],0⟩:aX),(⟨[],0⟩:aX),0,(⟨[],0⟩:aX),false⟩:aR),false):aR×Bool)) (J (.p0 x0 x1 (i64.wrap ((x0.length:Int) - 1)) 0 0 0 0 0 0 0 0 0 0 0 0 false))))
def live:Nat->Live:=kA [(4,nP [0,1,4,6])]
def md (a0:List aa)(a1:Int):aj×Bool:=(cond (!(Z121.md a0)) (aj.zero,false) (Z125.dn a1 a0 a0.length))
def gd (a0:List aa)(a1:Int):Prop:=cw (2^21) (fun y:aa=>aa.Sm (2^21) y) a0
def R:=dO gd md
def au {a0 a1}(h:gd a0 a1):R ((a0.map aa.row),a1)=some ((aj.r (md a0 a1).1),(md a0 a1).2):=dN h
def aN:=CN [pL 78,pI] (.gL [(true,f35),(false,[fB])]) RT.dec R
def bC (a0)(a1)(hg:gd a0 a1):∃n,start (iter step n) (a0.map aa.row) a1=ret ((aj.r (md a0 a1).1),(md a0 a1).2):=by
 unfold gd at hg
 have key:∀k:Nat,k<=a0.length->∃n,iter step n (Pt.p0 (a0.map aa.row) a1 ((k:Int) - 1) 0 0 0 0 0 0 0 0 0 0 0 0 false)=ret ((aj.r (Z125.dn a1 a0 k).1,(Z125.dn a1 a0 k).2):aR×Bool):=by
  intro k
  induction k with
  | zero=>
   intro _
   refine ⟨1,?_⟩
   show step (iter step 0) _=_
   simp only [step]
   exact gX (by decide) rfl
  | succ k ih=>
   intro hk
   obtain ⟨n,hn⟩:=ih (by omega)
   refine ⟨n+1,?_⟩
   show step (iter step n) _=_
   have hl:=hg.1
   have e:((k+1:Nat):Int) - 1=(k:Int):=by omega
   have hlt:k<a0.length:=by omega
   rw [e]
   simp only [step,MM,S0,aa.rs,aj.rs]
   refine bn (decide_eq_true (by omega)) (bn (decide_eq_true (by omega)) (bn (decide_eq_true (by omega)) ?_))
   unfold Z125.dn
   cases hc:decide ((a0.getD k aa.zero).an.aO<=a1)
   ·simp only [aL]
    rw [wi _ (by omega)]
    exact hn
   ·simp only [aC]
    refine bn (decide_eq_true (by omega)) (bn (decide_eq_true (by omega)) ?_)
    exact dF (aj.r (a0.getD k aa.zero).an) (Z126.au (cw.getD (z:=aa.zero) hg hlt).1) rfl
 unfold start md
 refine mU (Z121.md a0) (Z121.au hg) ?_
 cases Z121.md a0
 ·exact ⟨0,rfl⟩
 ·obtain ⟨n,hn⟩:=key a0.length (Nat.le_refl _)
  refine ⟨n,?_⟩
  have hl:=hg.1
  simp only [Bool.not_true,aL,S0]
  rw [wi _ (by omega)]
  exact hn
def af:cZ 38 aN:=L2 33 (fun _=>4) dM fk live step start mix aD bC (gD Z121.af Z126.af) Tryz.func38
def br (a0:List aa)(a1:Int):md a0 a1=Z125.md a0 a1:=by
 unfold md Z125.md
 first
 | (simp only [Z121.br];done)
 | (simp only [Z121.br];rfl)
 | rfl
end Z127
namespace Z128
def F (x0:ak)(x1:Int):az:=(call (Z127.R (x0,x1)) fun v1=>ret ((v1.1.aE,v1.2):aX×Bool))
def md (a0:List aa)(a1:Int):aq×Bool:=((Z127.md a0 a1).1.aE,(Z127.md a0 a1).2)
def gd (a0:List aa)(a1:Int):Prop:=(cw (2^21) (fun y:aa=>aa.Sm (2^21) y) a0)
def R:=dO gd md
def au {a0 a1}(h:gd a0 a1):R ((a0.map aa.row),a1)=some ((aq.r (md a0 a1).1),(md a0 a1).2):=dN h
def aN:=CN [pL 78,pI] (.gL [(true,f31),(false,[fB])]) RT.dec R
def bC (a0)(a1)(hg:gd a0 a1):F (a0.map aa.row) a1=ret ((aq.r (md a0 a1).1),(md a0 a1).2):=by
 unfold gd at hg
 have H0:=hg
 unfold F md
 try simp only [SS]
 refine ct (Z127.au H0) ?_
 try simp only [SS]
 all_goals exact fz
def af:cZ 8 aN:=W2 17 F mix aD bC (dR Z127.af) Tryz.func8
end Z128
namespace Z129
def F (x0:ak):az:=(call (Z124.R x0) fun v1=>ret ((cond ((0:Int)<(i64.wrap ((v1.length:Int) - 1))) (i64.wrap ((v1.length:Int) - 1)) 0):Int))
def md (a0:List aa):Int:=((cond ((0:Int)<(i64.wrap (((Z124.md a0).length:Int) - 1))) (i64.wrap (((Z124.md a0).length:Int) - 1)) 0):Int)
def gd (a0:List aa):Prop:=(cw (2^21) (fun y:aa=>aa.Sm (2^21) y) a0)
def R:=RR gd md
def au {a0}(h:gd a0):R (a0.map aa.row)=some (md a0):=dJ h
def aN:=CN [pL 78] oI RT.dec R
def bC (a0)(hg:gd a0):F (a0.map aa.row)=ret (md a0):=by
 unfold gd at hg
 have H0:=hg
 unfold F md
 try simp only [SS]
 refine ct (Z124.au H0) ?_
 try simp only [SS]
 all_goals exact fz
def af:cZ 13 aN:=W1 8 F mix aD bC (dR Z124.af) Tryz.func13
end Z129
namespace Z130
def F (x0 x1:Int):az:=(cond (x1>x0) (ret (x1:Int)) (ret (x0:Int)))
def md (a0 a1:Int):Int:=(cond (a1>a0) (a1:Int) (a0:Int))
def gd (a0 a1:Int):Prop:=True
def R:=dO gd md
def au {a0 a1}(h:gd a0 a1):R (a0,a1)=some (md a0 a1):=dN h
def aN:=CN [pI,pI] oI RT.dec R
def bC (a0)(a1)(hg:gd a0 a1):F a0 a1=ret (md a0 a1):=by
 unfold F md
 try simp only [SS]
 refine av ret (fun c1=>?_) (fun c1=>?_)
 ·all_goals exact fz
 ·all_goals exact fz
def af:cZ 56 aN:=W2 10 F mix aD bC .nil Tryz.func56
def max_eq (a0 a1:Int):md a0 a1=max a0 a1:=by
 unfold md
 by_cases h:a1>a0
 ·rw [decide_eq_true h,aC];omega
 ·rw [decide_eq_false h,aL];omega
end Z130
namespace Z131
def F (x0:ak)(x1:Int):az:=(call (Z67.R x0) fun v1=>(cond (!v1.2) vP (call (Z130.R (0,x1)) fun v2=>(call (Z130.R (0,(i64.wrap (v2 - v1.1.aZ)))) fun v3=>ret (v3:Int)))))
def md (a0:List aa)(a1:Int):Int:=(cond (!(Z67.md a0).2) ((-1):Int) ((Z130.md 0 (i64.wrap ((Z130.md 0 a1) - (Z67.md a0).1.aZ))):Int))
def gd (a0:List aa)(a1:Int):Prop:=(cw (2^21) (fun y:aa=>aa.Sm (2^21) y) a0)
def R:=dO gd md
def au {a0 a1}(h:gd a0 a1):R ((a0.map aa.row),a1)=some (md a0 a1):=dN h
def aN:=CN [pL 78,pI] oI RT.dec R
def bC (a0)(a1)(hg:gd a0 a1):F (a0.map aa.row) a1=ret (md a0 a1):=by
 unfold gd at hg
 have H0:=hg
 unfold F md
 try simp only [SS]
 refine ct (Z67.au H0) ?_
 try simp only [SS]
 refine av ret (fun _=>rfl) (fun c1=>?_)
 refine ct (Z130.au trivial) ?_
 refine ct (Z130.au trivial) ?_
 all_goals exact fz
def af:cZ 21 aN:=W2 20 F mix aD bC (gD Z67.af Z130.af) Tryz.func21
end Z131
namespace Z132
def F (x0:ak):az:=(dZ ((0:Int)<=(i64.wrap ((x0.length:Int) - 1))) (dZ ((i64.wrap ((x0.length:Int) - 1))<(x0.length:Int)) (ret ((aB.at x0 (toNat (i64.wrap ((x0.length:Int) - 1)))).an:aR))))
def md (a0:List aa):aj:=(a0.getD (toNat (i64.wrap ((a0.length:Int) - 1))) aa.zero).an
def gd (a0:List aa):Prop:=(cw (2^21) (fun y:aa=>aa.Sm (2^21) y) a0)/\(1<=a0.length)
def R:=RR gd md
def au {a0}(h:gd a0):R (a0.map aa.row)=some (aj.r (md a0)):=dJ h
def aN:=CN [pL 78] (.agg [.rd (.int .i64),.rd (.int .i64),.rd (.int .i64),.rd (.int .i64),.rd (.int .i64),.rd (.int .i64),.rd (.int .i64),.rd (.int .i64),.rd (.sl 3),.rd (.int .i64),.rd (.sl 3),.rd (.int .i64),.rd (.int .i64),.rd (.sl 3),.rd (.int .i64),.rd (.bool)]) RT.dec R
def bC (a0)(hg:gd a0):F (a0.map aa.row)=ret (aj.r (md a0)):=by
 obtain ⟨H0,HX⟩:=hg
 unfold F md
 try simp only [SS]
 refine bn (have:=(H0).1;dt) ?_
 refine bn (have:=(H0).1;dt) ?_
 all_goals exact fz
def af:cZ 45 aN:=W1 10 F mix aD bC .nil Tryz.func45
def uQ {a0:List aa}(hg:gd a0):aj.Sm (2^21) (md a0):=by
 unfold gd at hg;unfold md
 have h1:=hg.1.1
 have h2:=hg.2
 exact (cw.getD hg.1 (by simp (disch:=omega) only [Go.IntWalk.i64_in];omega)).1
end Z132
namespace Z133
def F (x0:ak):az:=(call (Z121.R x0) fun v1=>(cond (!v1) (ret (((⟨0,0,0,0,0,0,0,0,(⟨[],0⟩:aX),(⟨[],0⟩:aX),0,(⟨[],0⟩:aX),false⟩:aR),false):aR×Bool)) (call (Z132.R x0) fun v2=>(call (Z126.R v2) fun v3=>ret ((v3,true):aR×Bool)))))
def md (a0:List aa):aj×Bool:=(cond (!(Z121.md a0)) ((⟨0,0,0,0,0,0,0,0,(⟨[],0⟩:aq),(⟨[],0⟩:aq),0,(⟨[],0⟩:aq),false⟩:aj),false) ((Z132.md a0),true))
def gd (a0:List aa):Prop:=(cw (2^21) (fun y:aa=>aa.Sm (2^21) y) a0)
def R:=RR gd md
def au {a0}(h:gd a0):R (a0.map aa.row)=some ((aj.r (md a0).1),(md a0).2):=dJ h
def aN:=CN [pL 78] (.gL [(true,f35),(false,[fB])]) RT.dec R
def bC (a0)(hg:gd a0):F (a0.map aa.row)=ret ((aj.r (md a0).1),(md a0).2):=by
 unfold gd at hg
 have H0:=hg
 unfold F md
 try simp only [SS]
 refine ct (Z121.au H0) ?_
 refine av (fun b:aj×Bool=>ret (((aj.r b.1),b.2):aR×Bool)) (fun c1=>?_) (fun c1=>?_)
 ·all_goals exact fz
 ·have dc1:=c1
  try simp only [DC] at dc1
  try have tc1:=Z121.tr (by simpa using c1)
  refine ct (Z132.au ⟨H0,(by
    have:=(H0).1
    first | assumption | exact om)⟩) ?_
  try simp only [SS]
  refine ct (Z126.au (Z132.uQ (a0:=a0) ⟨H0,(by
    have:=(H0).1
    first | assumption | exact om)⟩)) ?_
  try simp only [SS]
  all_goals exact fz
def af:cZ 43 aN:=W1 11 F mix aD bC (pG Z121.af Z132.af Z126.af) Tryz.func43
def br (a0:List aa):md a0=Z67.md a0:=by
 unfold md Z67.md
 first
 | (simp only [Z121.br];done)
 | (simp only [Z121.br];rfl)
 | rfl
end Z133
namespace Z134
def F (x0:ak)(x1:Int):az:=(call (Z133.R x0) fun v1=>(cond (!v1.2) vP (cond (x1<=v1.1.aZ) (ret (0:Int)) (ret ((i64.wrap (x1 - v1.1.aZ)):Int)))))
def md (a0:List aa)(a1:Int):Int:=(cond (!(Z133.md a0).2) ((-1):Int) (cond (a1<=(Z133.md a0).1.aZ) (0:Int) ((i64.wrap (a1 - (Z133.md a0).1.aZ)):Int)))
def gd (a0:List aa)(a1:Int):Prop:=(cw (2^21) (fun y:aa=>aa.Sm (2^21) y) a0)
def R:=dO gd md
def au {a0 a1}(h:gd a0 a1):R ((a0.map aa.row),a1)=some (md a0 a1):=dN h
def aN:=CN [pL 78,pI] oI RT.dec R
def bC (a0)(a1)(hg:gd a0 a1):F (a0.map aa.row) a1=ret (md a0 a1):=by
 unfold gd at hg
 have H0:=hg
 unfold F md
 try simp only [SS]
 refine ct (Z133.au H0) ?_
 try simp only [SS]
 refine av ret (fun _=>rfl) (fun c1=>?_)
 refine av ret (fun _=>rfl) (fun c2=>?_)
 all_goals exact fz
def af:cZ 14 aN:=W2 24 F mix aD bC (dR Z133.af) Tryz.func14
def D8 (a0:List aa)(a1:Int)(h:Dd a1):md a0 a1=Z131.md a0 a1:=by
 unfold md Z131.md
 simp only [Z133.br,Z130.max_eq]
 cases hok:(Z67.md a0).2
 ·rfl
 ·have hu:=Z40.tr (Z67.head hok).2.2
  obtain ⟨h1,h2⟩:=h
  simp only [Bool.not_true,aL]
  generalize (Z67.md a0).1.aZ=u at *
  rw [wi (max 0 a1 - u) (by omega)]
  by_cases hn:a1<=u
  ·rw [decide_eq_true hn,aC];omega
  ·rw [decide_eq_false hn,aL,wi (a1 - u) (by omega)];omega
end Z134
namespace Z135
def F (x0:ak):az:=(call (Z1.R x0) fun v1=>(call (Z79.R (v1.1,v1.2.1,v1.2.2)) fun v2=>(call (Z3.R (v1.1,v2.2.1,v2.2.2.1,9)) fun v3=>ret ((v2.2.2.2,(i64.wrap (1+v3.2.2.2))):ak×Int))))
def pats:List eS:=[.rd (.sl 5)]
def res:RP:=.gL [(false,[.rd (.sl 78)]),(false,[.rd (.int .i64)])]
abbrev E:Env:={ T:=assoc nH,G:=cQ [],nt:=14,M:=dV [],np:=0,mt:=false,I:=fq [(50,Z1.ic 0),(51,Z79.ic 0),(52,Z3.ic 0)] }
def run_eq (n:Nat)(ls:List L):eg E (fun _=>[]) Tryz.f17 res n (ew pats ls)=F (eC ls):=by kernel_rfl
def gd (x0:ak):Prop:=x0.length<=1048576
def post (x0:ak)(y:ak×Int):Prop:=∃m:List aa,y.1=m.map aa.row/\cw 16 (fun y:aa=>aa.Sm 64 y) m/\1<=y.2/\y.2<=9
def wp (x0:ak)(hg:gd x0):Wp (F x0) (post x0):=by
 unfold F
 refine Z1.bD hg (fun v1 ⟨e0,c1⟩=>?_)
 refine Z79.bD (by rw [e0];exact c1) (fun v2 ⟨c2,m,e2,h2⟩=>?_)
 rw [e0] at c2
 refine Z3.bD (by rw [e0];exact c2) (fun v3 ⟨_,_,h3⟩=>wp_ret ⟨m,e2,h2,?_⟩)
 obtain ⟨a,b⟩:=h3 (by decide)
 show 1<=i64.wrap (1+v3.2.2.2)/\i64.wrap (1+v3.2.2.2)<=9
 rw [wi _ (by omega)];omega
def R:(ak)->Option (ak×Int):=RQ (fun _ x=>F x) (fun x=>post x)
def bD {x0:ak}{γ:Type}[RT γ]{k:(ak×Int)->az}{Q:γ->Prop}(hg:gd x0)(hk:∀y,post x0 y->Wp (k y) Q):Wp (call (R x0) k) Q:=cK ⟨0,wp x0 hg⟩ hk
def acc (ls:List L):ak:=(eC ls)
def aN:gS:=CN pats res acc R
def af:cZ 17 aN:=VQ (live:=(fun _=>[])) (mt:=false) mix aD .nil .nil (.cons (Z1.aU 0) (.cons (Z79.aU 0) (.cons (Z3.aU 0) .nil))) Tryz.func17 (by kernel_rfl) run_eq
end Z135
namespace Z136
def F (x0:ak):az:=(call (Z1.R x0) fun v1=>(call (Z79.R (v1.1,v1.2.1,v1.2.2)) fun v2=>(call (Z73.R (v1.1,v2.2.1,v2.2.2.1,[[L.int (-1)],[L.int 0],[L.int 30],[L.int 200],[L.int 9223372036854775807],[L.int (-9223372036854775808)]])) fun v3=>ret ((v2.2.2.2,v3.2.2.2):ak×Int))))
def pats:List eS:=[.rd (.sl 5)]
def res:RP:=.gL [(false,[.rd (.sl 78)]),(false,[.rd (.int .i64)])]
abbrev E:Env:={ T:=assoc nH,G:=cQ [],nt:=14,M:=dV [],np:=0,mt:=false,I:=fq [(50,Z1.ic 0),(51,Z79.ic 0),(53,Z73.ic 0)] }
def run_eq (n:Nat)(ls:List L):eg E (fun _=>[]) Tryz.f18 res n (ew pats ls)=F (eC ls):=by kernel_rfl
def gd (x0:ak):Prop:=x0.length<=1048576
def post (x0:ak)(y:ak×Int):Prop:=∃m:List aa,y.1=m.map aa.row/\cw 16 (fun y:aa=>aa.Sm 64 y) m/\Dd y.2
def wp (x0:ak)(hg:gd x0):Wp (F x0) (post x0):=by
 unfold F
 refine Z1.bD hg (fun v1 ⟨e0,c1⟩=>?_)
 refine Z79.bD (by rw [e0];exact c1) (fun v2 ⟨c2,m,e2,h2⟩=>?_)
 rw [e0] at c2
 refine Z73.bD ⟨by rw [e0];exact c2,by show 0<6;decide⟩ (fun v3 ⟨_,i,hi,e3⟩=>wp_ret ⟨m,e2,h2,?_⟩)
 show Dd v3.2.2.2
 rw [e3]
 exact Bl (by decide) hi
def R:(ak)->Option (ak×Int):=RQ (fun _ x=>F x) (fun x=>post x)
def bD {x0:ak}{γ:Type}[RT γ]{k:(ak×Int)->az}{Q:γ->Prop}(hg:gd x0)(hk:∀y,post x0 y->Wp (k y) Q):Wp (call (R x0) k) Q:=cK ⟨0,wp x0 hg⟩ hk
def acc (ls:List L):ak:=(eC ls)
def aN:gS:=CN pats res acc R
def af:cZ 18 aN:=VQ (live:=(fun _=>[])) (mt:=false) mix aD .nil .nil (.cons (Z1.aU 0) (.cons (Z79.aU 0) (.cons (Z73.aU 0) .nil))) Tryz.func18 (by kernel_rfl) run_eq
end Z136
namespace Z137
inductive Pt where
 | p0 (a b:Int) (c:ak) (d e:Int)
def dM:Pt->List V
 | .p0 a b c d e=>[.int .i64 a,.int .i64 b,.sl none 78 c,.int .i64 d,.int .i64 e]
def step (J:Pt->az):Pt->az
 | .p0 a b c d e=>(cond (e<d) (m2 e (c.length:Int) (call (Z96.R ((aB.at c (toNat e)).an.aP==a)) fun v1=>J (.p0 a (i64.wrap (b+v1)) c d (i64.wrap (e+1))))) (ret (b:Int)))
def start (J:Pt->az)(x0:ak)(x1:Int):az:=J (.p0 x1 0 x0 (x0.length:Int) 0)
def live:Nat->Live:=kA [(3,nP [1,5,8,9,10])]
def md (a0:List aa)(a1:Int):Int:=(dP (S:=Int) (β:=Int) (fun (y1:aa) (s3:Int)=>(.inl (i64.wrap (s3+(Z96.md ((y1.an).aP==a1)))))) (fun (s3:Int)=>(s3:Int)) a0 0)
def gd (a0:List aa)(a1:Int):Prop:=(cw (2^21) (fun y:aa=>aa.Sm (2^21) y) a0)
def R:=dO gd md
def au {a0 a1}(h:gd a0 a1):R ((a0.map aa.row),a1)=some (md a0 a1):=dN h
def aN:=CN [pL 78,pI] oI RT.dec R
def bC (a0)(a1)(hg:gd a0 a1):∃n,start (iter step n) (a0.map aa.row) a1=ret (md a0 a1):=by
 unfold gd at hg
 have H0:=hg
 unfold start md
 try simp only [SS]
 have Bh2:a0.length<=maxLen:=(by
   have:=(H0).1
   try simp only [maxLen] at *
   omega)
 refine ex_eq (out:=ret) (dx (z:=aa.zero)) ?_
 refine eO (p:=Pt.p0 a1 0 (a0.map aa.row) (a0.length:Int) 0) fz ?_
 refine cH (pt:=fun (i1:Nat) (s3:Int)=>Pt.p0 a1 s3 (a0.map aa.row) (a0.length:Int) (i1:Int)) (s:=(0:Int)) (out:=ret) (fun _ _=>True) (fun J i1 s3 h2 hih2=>?_) (fun s3 hih2=>?_) trivial
 ·simp only [step,SS]
  have bb_:=Bh2
  simp only [maxLen] at bb_
  have:=(H0).1
  refine bp.yes (by apply decide_eq_true;omega) ?_
  refine bp.yes bJ ?_
  refine bp.yes (cA h2) ?_
  refine cr (Z96.au trivial) ?_
  refine bp.inl trivial ?_
  rw [aT h2 Bh2]
  all_goals exact fz
 ·simp only [step,SS]
  have:=(H0).1
  refine eM (by apply decide_eq_false;omega) ?_
  refine ⟨0,?_⟩
  all_goals exact fz
def af:cZ 19 aN:=L2 24 (fun _=>3) dM (fun _=>[]) live step start mix aD bC (dR Z96.af) Tryz.func19
end Z137
namespace Z138
def F (x0:aX)(x1:Int):az:=(call (Z44.R (x0.aI,x1)) fun v1=>ret (v1:Bool))
def md (a0:aq)(a1:Int):Bool:=((Z44.md a0.aI a1):Bool)
def gd (a0:aq)(a1:Int):Prop:=(aq.Sm (2^21) a0)
def R:=dO gd md
def au {a0 a1}(h:gd a0 a1):R ((aq.r a0),a1)=some (md a0 a1):=dN h
def aN:=CN [.agg nR,pI] oB RT.dec R
def bC (a0)(a1)(hg:gd a0 a1):F (aq.r a0) a1=ret (md a0 a1):=by
 unfold gd at hg
 have H0:=hg
 unfold F md
 try simp only [SS]
 refine ct (Z44.au (H0.mono (by decide) (fun x hx=>trivial))) ?_
 all_goals exact fz
def af:cZ 55 aN:=W2 9 F mix aD bC (dR Z44.af) Tryz.func55
end Z138
namespace Z139
inductive Pt where
 | p0 (a:ak) (b c:Int)
def dM:Pt->List V
 | .p0 a b c=>[.sl none 78 a,.int .i64 b,.int .i64 c]
def step (J:Pt->az):Pt->az
 | .p0 a b c=>(cond (c<(a.length:Int)) (m2 c (a.length:Int) (call (Z138.R ((aB.at a (toNat c)).an.aE,b)) fun v1=>(cond v1 oz (J (.p0 a b (i64.wrap (c+1))))))) bL)
def start (J:Pt->az)(x0:ak)(x1:Int):az:=(call (Z67.R x0) fun v1=>(cond (!v1.2) bL (call (Z138.R (v1.1.aE,x1)) fun v2=>(cond v2 bL (J (.p0 x0 x1 0))))))
def live:Nat->Live:=kA [(5,nP [0,1,7])]
def md (a0:List aa)(a1:Int):Bool:=(bif (!(Z67.md a0).2) then (false:Bool) else (bif (Z138.md ((Z67.md a0).1.aE) a1) then (false:Bool) else (dP (S:=Unit) (β:=Bool) (fun (y3:aa) (s5:Unit)=>(cond (Z138.md ((y3.an).aE) a1) (.inr (true:Bool)) (.inl ()))) (fun (s5:Unit)=>(false:Bool)) a0 ())))
def gd (a0:List aa)(a1:Int):Prop:=(cw (2^21) (fun y:aa=>aa.Sm (2^21) y) a0)
def R:=dO gd md
def au {a0 a1}(h:gd a0 a1):R ((a0.map aa.row),a1)=some (md a0 a1):=dN h
def aN:=CN [pL 78,pI] oB RT.dec R
def bC (a0)(a1)(hg:gd a0 a1):∃n,start (iter step n) (a0.map aa.row) a1=ret (md a0 a1):=by
 unfold gd at hg
 have H0:=hg
 unfold start md
 try simp only [SS]
 refine cx (Z67.au H0) ?_
 try simp only [SS]
 refine iJ ret (fun _=>⟨0,rfl⟩) (fun c1=>?_)
 have dc1:=c1
 try simp only [DC] at dc1
 refine cx (Z138.au (Z67.uQ (a0:=a0) H0).1) ?_
 refine iJ ret (fun _=>⟨0,rfl⟩) (fun c2=>?_)
 have Bh4:a0.length<=maxLen:=(by
   have:=(H0).1
   try simp only [maxLen] at *
   omega)
 refine ex_eq (out:=ret) (dx (z:=aa.zero)) ?_
 refine eO (p:=Pt.p0 (a0.map aa.row) a1 0) fz ?_
 refine cH (pt:=fun (i3:Nat) (s5:Unit)=>Pt.p0 (a0.map aa.row) a1 (i3:Int)) (s:=(():Unit)) (out:=ret) (fun _ _=>True) (fun J i3 s5 h4 hih4=>?_) (fun s5 hih4=>?_) trivial
 ·simp only [step,SS]
  have bb_:=Bh4
  simp only [maxLen] at bb_
  have:=(H0).1
  refine bp.yes (by apply decide_eq_true;omega) ?_
  refine bp.yes bJ ?_
  refine bp.yes (cA h4) ?_
  refine cr (Z138.au (cw.getD (z:=aa.zero) H0 h4).1.1) ?_
  refine bp.bif (fun _=>bp.inr rfl) (fun c6=>?_)
  refine bp.inl trivial ?_
  rw [aT h4 Bh4]
  all_goals exact fz
 ·simp only [step,SS]
  have:=(H0).1
  refine eM (by apply decide_eq_false;omega) ?_
  refine ⟨0,?_⟩
  all_goals exact fz
def af:cZ 20 aN:=L2 35 (fun _=>5) dM (fun _=>[]) live step start mix aD bC (gD Z67.af Z138.af) Tryz.func20
end Z139
namespace Z140
inductive Pt where
 | p0 (a:ak) (b c d:Int)
def dM:Pt->List V
 | .p0 a b c d=>[.sl none 3 a,.int .i64 b,.int .i64 c,.int .i64 d]
def step (J:Pt->az):Pt->az
 | .p0 a b c d=>(cond (d<c) (m2 d (a.length:Int) (cond (b==(ld a (toNat d))) (ret (d:Int)) (J (.p0 a b c (i64.wrap (d+1)))))) vP)
def start (J:Pt->az)(x0:ak)(x1:Int):az:=J (.p0 x0 x1 (x0.length:Int) 0)
def live:Nat->Live:=kA [(2,nP [0,1,7,8])]
def md (a0:List Int)(a1:Int):Int:=(dX (S:=Unit) (β:=Int) (fun (i1:Nat) (y1:Int) (s3:Unit)=>(cond (a1==y1) (.inr ((i1:Int):Int)) (.inl ()))) (fun (s3:Unit)=>((-1):Int)) 0 a0 ())
def gd (a0:List Int)(a1:Int):Prop:=(cw (2^38) (fun y:Int=>True) a0)
def R:=dO gd md
def au {a0 a1}(h:gd a0 a1):R ((a0.map aQ),a1)=some (md a0 a1):=dN h
def aN:=CN [pL 3,pI] oI RT.dec R
def bC (a0)(a1)(hg:gd a0 a1):∃n,start (iter step n) (a0.map aQ) a1=ret (md a0 a1):=by
 unfold gd at hg
 have H0:=hg
 unfold start md
 try simp only [SS]
 have Bh2:a0.length<=maxLen:=(by
   have:=(H0).1
   try simp only [maxLen] at *
   omega)
 refine ex_eq (out:=ret) (cX (z:=0)) ?_
 refine eO (p:=Pt.p0 (a0.map aQ) a1 (a0.length:Int) 0) fz ?_
 refine cH (pt:=fun (i1:Nat) (s3:Unit)=>Pt.p0 (a0.map aQ) a1 (a0.length:Int) (i1:Int)) (s:=(():Unit)) (out:=ret) (fun _ _=>True) (fun J i1 s3 h2 hih2=>?_) (fun s3 hih2=>?_) trivial
 ·simp only [step,SS]
  have bb_:=Bh2
  simp only [maxLen] at bb_
  have:=(H0).1
  refine bp.yes (by apply decide_eq_true;omega) ?_
  refine bp.yes bJ ?_
  refine bp.yes (cA h2) ?_
  refine bp.bif (fun c4=>?_) (fun c4=>?_)
  ·refine bp.inr ?_
   all_goals exact fz
  ·refine bp.inl trivial ?_
   rw [aT h2 Bh2]
   all_goals exact fz
 ·simp only [step,SS]
  have:=(H0).1
  refine eM (by apply decide_eq_false;omega) ?_
  refine ⟨0,?_⟩
  all_goals exact fz
def af:cZ 94 aN:=L2 19 (fun _=>2) dM (fun _=>[]) live step start mix aD bC .nil Tryz.func94
end Z140
namespace Z141
def F (x0:ak)(x1:Int):az:=(call (Z140.R (x0,x1)) fun v1=>ret ((decide (v1>=0)):Bool))
def md (a0:List Int)(a1:Int):Bool:=((decide ((Z140.md a0 a1)>=0)):Bool)
def gd (a0:List Int)(a1:Int):Prop:=(cw (2^38) (fun y:Int=>True) a0)
def R:=dO gd md
def au {a0 a1}(h:gd a0 a1):R ((a0.map aQ),a1)=some (md a0 a1):=dN h
def aN:=CN [pL 3,pI] oB RT.dec R
def bC (a0)(a1)(hg:gd a0 a1):F (a0.map aQ) a1=ret (md a0 a1):=by
 unfold gd at hg
 have H0:=hg
 unfold F md
 try simp only [SS]
 refine ct (Z140.au H0) ?_
 all_goals exact fz
def af:cZ 48 aN:=W2 9 F mix aD bC (dR Z140.af) Tryz.func48
def any_eq (a0:List Int)(a1:Int):md a0 a1=a0.any (fun y=>y==a1):=by
 unfold md Z140.md
 rw [qu (p:=fun y=>y==a1) (fun i x s=>by rw [show (a1==x)=(x==a1) from by rw [Bool.eq_iff_iff,beq_iff_eq,beq_iff_eq];exact eq_comm])]
 exact sr
end Z141
namespace Z142
def F (x0:aX)(x1:Int):az:=(call (Z141.R (x0.aI,x1)) fun v1=>ret (v1:Bool))
def md (a0:aq)(a1:Int):Bool:=((Z141.md a0.aI a1):Bool)
def gd (a0:aq)(a1:Int):Prop:=(aq.Sm (2^21) a0)
def R:=dO gd md
def au {a0 a1}(h:gd a0 a1):R ((aq.r a0),a1)=some (md a0 a1):=dN h
def aN:=CN [.agg nR,pI] oB RT.dec R
def bC (a0)(a1)(hg:gd a0 a1):F (aq.r a0) a1=ret (md a0 a1):=by
 unfold gd at hg
 have H0:=hg
 unfold F md
 try simp only [SS]
 refine ct (Z141.au (H0.mono (by decide) (fun x hx=>trivial))) ?_
 all_goals exact fz
def af:cZ 44 aN:=W2 9 F mix aD bC (dR Z141.af) Tryz.func44
def br (a0:aq)(a1:Int):md a0 a1=Z138.md a0 a1:=by
 unfold md Z138.md Z44.md
 rw [Z141.any_eq]
 refine Eq.trans ?_ (pT (p:=fun y=>y==a1) (b:=true) (c:=false)).symm
 cases a0.aI.any (fun y=>y==a1)<;>rfl
end Z142
namespace Z143
def F (x0:aB)(x1:List L):az:=(call (Z142.R (x0.an.aE,(kI x1))) fun v1=>ret (v1:Bool))
def pats:List eS:=[.agg [aG,aG,aG,aG,aG,aG,aG,aG,.sl 3,aG,.sl 3,aG,aG,.sl 3,aG,.bool,.sl 209],.ptr [aG]]
def res:RP:=.one (.rd (.bool))
def md (a0:aa)(a1:Int):Bool:=((Z142.md a0.an.aE a1):Bool)
def gd (a0:aa)(a1:Int):Prop:=(aa.Sm (2^21) a0)
def acc (ls:List L):aB×Int:=((aB.dec ls),(kI (dc 1 (bt 17 ls))))
def R:(aB×Int)->Option Bool:=dO gd md
def au {a0 a1}(h:gd a0 a1):R ((aa.r a0),a1)=some (md a0 a1):=dN h
def aN:gS:=CN pats res acc R
def bC (a0:aa)(a1:Int)(p1:List L)(e1:a1=(kI p1))(hg:gd a0 a1):F (aa.r a0) p1=ret ((md a0 a1):Bool):=by
 unfold gd at hg
 have H0:=hg
 unfold F md
 try simp only [SS,<-e1]
 refine ct (Z142.au H0.1.1) ?_
 all_goals exact fz
def zL (ls:List L)(a:aa×Int)(e:acc ls=Im.im a)(hg:(p2 gd) a):∃n:Nat,F (aB.dec ls) (dc 1 (bt 17 ls))=ret (Im.im ((u2 md) a)):=by
 have e0:(aa.r a.1)=(aB.dec ls):=(congrArg (fun x=>x.1) e.symm)
 have hn:=bC a.1 a.2 (dc 1 (bt 17 ls)) (congrArg (fun x=>x.2) e.symm) hg
 refine ⟨0,?_⟩
 rw [<-e0]
 exact hn
def af:cZ 47 aN:=VP (live:=fun _=>[]) (nt:=9) (accr:=fun ls=>((aB.dec ls),(dc 1 (bt 17 ls)))) (run:=fun _ x=>F x.1 x.2) mix aD (dR Z142.af) Tryz.func47 (by kernel_rfl) (fun _ _=>by kernel_rfl) (fun ls a _ e hg=>zL ls a e hg)
end Z143
namespace Z144
inductive Pt where
 | p0 (a:ak) (b:List L) (c d:Int)
def pid:Pt->Nat
 | .p0 ..=>2
def dM:Pt->List V
 | .p0 a b c d=>[.sl none 78 a,.fn 47 [.cj none [aG] b 0],.int .i64 c,.int .i64 d]
def fk:Pt->List aA
 | .p0 a b c d=>[]
def step (J:Pt->az):Pt->az
 | .p0 a b c d=>(cond (d<c) (m2 d (a.length:Int) (call (Z143.R ((aB.at a (toNat d)),(kI b))) fun v1=>(cond v1 (ret (d:Int)) (J (.p0 a b c (i64.wrap (d+1))))))) vP)
def start (J:Pt->az)(x0:ak)(x1:List L):az:=J (.p0 x0 x1 (x0.length:Int) 0)
def live:Nat->Live:=kA [(2,nP [0,1,7,8])]
def pats:List eS:=[.rd (.sl 78),.fn 47 [[aG]]]
def res:RP:=.one (.rd (.int .i64))
abbrev E:Env:={ T:=assoc nH,G:=cQ [(47,Z143.aN)],nt:=19 }
def step_eq (I:dL)(p:Pt):dA E live I (pid p) (bN Tryz.f93) (kO (live (pid p)) (dM p) (fk p)) (dI E Tryz.f93 res)=step (fun q=>I (pid q) (dM q) (fk q)) p:=by
 cases p<;>kernel_rfl
def start_eq (I:dL)(ls:List L):gU E live I (bN Tryz.f93) (ew pats ls) (dI E Tryz.f93 res)=start (fun q=>I (pid q) (dM q) (fk q)) (eC ls) (dc 1 (bt 1 ls)):=by kernel_rfl
def run_eq (n:Nat)(ls:List L):eg E live Tryz.f93 res n (ew pats ls)=start (iter step n) (eC ls) (dc 1 (bt 1 ls)):=eo (id:=pid) (vs:=dM) (hs:=fk) (step:=step) (start:=fun J=>start J (eC ls) (dc 1 (bt 1 ls))) step_eq (fun I=>start_eq I ls) n
def md (a0:List aa)(a1:Int):Int:=(dX (S:=Unit) (β:=Int) (fun (i1:Nat) (y1:aa) (s3:Unit)=>(cond (Z143.md y1 a1) (.inr ((i1:Int):Int)) (.inl ()))) (fun (s3:Unit)=>((-1):Int)) 0 a0 ())
def gd (a0:List aa)(a1:Int):Prop:=(cw (2^21) (fun y:aa=>aa.Sm (2^21) y) a0)
def acc (ls:List L):ak×Int:=((eC ls),(kI (dc 1 (bt 1 ls))))
def R:(ak×Int)->Option Int:=dO gd md
def au {a0 a1}(h:gd a0 a1):R ((a0.map aa.row),a1)=some (md a0 a1):=dN h
def aN:gS:=CN pats res acc R
def bC (a0:List aa)(a1:Int)(p1:List L)(e1:a1=(kI p1))(hg:gd a0 a1):∃n,start (iter step n) (a0.map aa.row) p1=ret ((md a0 a1):Int):=by
 unfold gd at hg
 have H0:=hg
 unfold start md
 try simp only [SS,<-e1]
 have Bh2:a0.length<=maxLen:=(by
   have:=(H0).1
   try simp only [maxLen] at *
   omega)
 refine ex_eq (out:=ret) (cX (z:=aa.zero)) ?_
 refine eO (p:=Pt.p0 (a0.map aa.row) p1 (a0.length:Int) 0) fz ?_
 refine cH (pt:=fun (i1:Nat) (s3:Unit)=>Pt.p0 (a0.map aa.row) p1 (a0.length:Int) (i1:Int)) (s:=(():Unit)) (out:=ret) (fun _ _=>True) (fun J i1 s3 h2 hih2=>?_) (fun s3 hih2=>?_) trivial
 ·simp only [step,SS,<-e1]
  have bb_:=Bh2
  simp only [maxLen] at bb_
  have:=(H0).1
  refine bp.yes (by apply decide_eq_true;omega) ?_
  refine bp.yes bJ ?_
  refine bp.yes (cA h2) ?_
  refine cr (Z143.au (cw.getD (z:=aa.zero) H0 h2)) ?_
  refine bp.bif (fun c4=>?_) (fun c4=>?_)
  ·refine bp.inr ?_
   all_goals exact fz
  ·refine bp.inl trivial ?_
   rw [aT h2 Bh2]
   all_goals exact fz
 ·simp only [step,SS,<-e1]
  have:=(H0).1
  refine eM (by apply decide_eq_false;omega) ?_
  refine ⟨0,?_⟩
  all_goals exact fz
def zL (ls:List L)(a:List aa×Int)(e:acc ls=Im.im a)(hg:(p2 gd) a):∃n:Nat,start (iter step n) ((eC ls)) (dc 1 (bt 1 ls))=ret (Im.im ((u2 md) a)):=by
 have e0:(a.1.map aa.row)=(eC ls):=(congrArg (fun x=>x.1) e.symm)
 obtain ⟨n,hn⟩:=bC a.1 a.2 (dc 1 (bt 1 ls)) (congrArg (fun x=>x.2) e.symm) hg
 refine ⟨n,?_⟩
 rw [<-e0]
 exact hn
def af:cZ 93 aN:=VP (accr:=fun ls=>((eC ls),(dc 1 (bt 1 ls)))) (run:=fun n x=>start (iter step n) x.1 x.2) mix aD (dR Z143.af) Tryz.func93 (by kernel_rfl) run_eq (fun ls a _ e hg=>zL ls a e hg)
def fa (a0:List aa)(a1:Int):-1<=md a0 a1/\md a0 a1<(a0.length:Int):=by
 unfold md
 refine tQ ?_ _ _
 all_goals
  intro i x s b h
  revert h
  simp only [Bool.cond_eq_ite]
  repeat' split
  all_goals (intro h;first | (cases h;rfl) | cases h)
def idx_eq (a0:List aa)(a1:Int):md a0 a1=mQ (fun y=>Z143.md y a1) 0 a0:=by
 unfold md
 exact nu
end Z144
namespace Z145
def F (x0:ak)(x1:List L):az:=(call (Z144.R (x0,(kI x1))) fun v1=>ret ((decide (v1>=0)):Bool))
def pats:List eS:=[.rd (.sl 78),.fn 47 [[aG]]]
def res:RP:=.one (.rd (.bool))
def md (a0:List aa)(a1:Int):Bool:=((decide ((Z144.md a0 a1)>=0)):Bool)
def gd (a0:List aa)(a1:Int):Prop:=(cw (2^21) (fun y:aa=>aa.Sm (2^21) y) a0)
def acc (ls:List L):ak×Int:=((eC ls),(kI (dc 1 (bt 1 ls))))
def R:(ak×Int)->Option Bool:=dO gd md
def au {a0 a1}(h:gd a0 a1):R ((a0.map aa.row),a1)=some (md a0 a1):=dN h
def aN:gS:=CN pats res acc R
def bC (a0:List aa)(a1:Int)(p1:List L)(e1:a1=(kI p1))(hg:gd a0 a1):F (a0.map aa.row) p1=ret ((md a0 a1):Bool):=by
 unfold gd at hg
 have H0:=hg
 unfold F md
 try simp only [SS,<-e1]
 refine ct (Z144.au H0) ?_
 have fv1_:=Z144.fa a0 a1
 all_goals exact fz
def zL (ls:List L)(a:List aa×Int)(e:acc ls=Im.im a)(hg:(p2 gd) a):∃n:Nat,F ((eC ls)) (dc 1 (bt 1 ls))=ret (Im.im ((u2 md) a)):=by
 have e0:(a.1.map aa.row)=(eC ls):=(congrArg (fun x=>x.1) e.symm)
 have hn:=bC a.1 a.2 (dc 1 (bt 1 ls)) (congrArg (fun x=>x.2) e.symm) hg
 refine ⟨0,?_⟩
 rw [<-e0]
 exact hn
def af:cZ 46 aN:=VP (live:=fun _=>[]) (nt:=9) (accr:=fun ls=>((eC ls),(dc 1 (bt 1 ls)))) (run:=fun _ x=>F x.1 x.2) mix aD (dR Z144.af) Tryz.func46 (by kernel_rfl) (fun _ _=>by kernel_rfl) (fun ls a _ e hg=>zL ls a e hg)
def any_eq (a0:List aa)(a1:Int):md a0 a1=a0.any (fun y=>Z143.md y a1):=by
 unfold md
 rw [Z144.idx_eq]
 exact sr
end Z145
namespace Z146
def F (x0:ak)(x1:Int):az:=(call (Z121.R x0) fun v1=>(cond v1 (call (Z132.R x0) fun v2=>(call (Z142.R (v2.aE,x1)) fun v3=>(cond (!v3) (call (Z145.R (x0,x1)) fun v4=>ret (v4:Bool)) bL))) bL))
def md (a0:List aa)(a1:Int):Bool:=(cond (Z121.md a0) (cond (!(Z142.md ((Z132.md a0).aE) a1)) ((Z145.md a0 a1):Bool) (false:Bool)) (false:Bool))
def gd (a0:List aa)(a1:Int):Prop:=(cw (2^21) (fun y:aa=>aa.Sm (2^21) y) a0)
def R:=dO gd md
def au {a0 a1}(h:gd a0 a1):R ((a0.map aa.row),a1)=some (md a0 a1):=dN h
def aN:=CN [pL 78,pI] oB RT.dec R
def bC (a0)(a1)(hg:gd a0 a1):F (a0.map aa.row) a1=ret (md a0 a1):=by
 unfold gd at hg
 have H0:=hg
 unfold F md
 try simp only [SS]
 refine ct (Z121.au H0) ?_
 refine av ret (fun c1=>?_) (fun _=>rfl)
 try have tc1:=Z121.tr (by simpa using c1)
 refine ct (Z132.au ⟨H0,(by
   have:=(H0).1
   first | assumption | exact om)⟩) ?_
 try simp only [SS]
 refine ct (Z142.au (Z132.uQ (a0:=a0) ⟨H0,(by
   have:=(H0).1
   first | assumption | exact om)⟩).1) ?_
 refine av ret (fun c2=>?_) (fun _=>rfl)
 refine ct (Z145.au H0) ?_
 all_goals exact fz
def af:cZ 15 aN:=W2 20 F mix aD bC (wL Z121.af Z132.af Z142.af Z145.af) Tryz.func15
def br (a0:List aa)(a1:Int):md a0 a1=Z139.md a0 a1:=by
 unfold md Z139.md Z67.md Z132.md
 simp only [Z121.br,Z142.br]
 rw [Z145.any_eq]
 cases Z66.md a0
 ·rfl
 ·simp only [aC,Bool.not_true,aL]
  refine Eq.trans ?_ (congrArg (fun x=>bif Z138.md _ a1 then false else x) (pT (p:=fun (y:aa)=>Z138.md y.an.aE a1) (b:=true) (c:=false)).symm)
  simp only [Z143.md,Z142.br]
  cases Z138.md (a0.getD (toNat (i64.wrap ((a0.length:Int) - 1))) aa.zero).an.aE a1<;>cases a0.any (fun y=>Z138.md y.an.aE a1)<;>rfl
end Z146
namespace Z147
inductive Pt where
 | p0 (a:ak) (b:Int) (c:ak) (d e:Int) (f:aX)
def dM:Pt->List V
 | .p0 a b c d e f=>[.sl none 3 a,.bB 0 0,.int .i64 b,.sl none 3 c,.int .i64 d,.int .i64 e]
def fk:Pt->List aA
 | .p0 a b c d e f=>[.box [.sl none 3 f.aI,.int .i64 f.bS]]
def step (J:Pt->az):Pt->az
 | .p0 a b c d e f=>(cond (e<d) (m2 e (c.length:Int) (call (Z141.R (a,(ld c (toNat e)))) fun v1=>(cond v1 (J (.p0 a (i64.wrap (b+1)) c d (i64.wrap (e+1)) f)) (J (.p0 a b c d (i64.wrap (e+1)) f))))) (call (Z87.R f) fun v2=>(cond v2 (ret ((decide (b>=f.bS)):Bool)) bL)))
def start (J:Pt->az)(x0:aX)(x1:ak):az:=J (.p0 x1 0 x0.aI (x0.aI.length:Int) 0 x0)
def live:Nat->Live:=kA [(3,nP [1,2,5,9,10,11])]
def md (a0:aq)(a1:List Int):Bool:=(dP (S:=Int) (β:=Bool) (fun (y1:Int) (s3:Int)=>(cond (Z141.md a1 y1) (.inl (i64.wrap (s3+1))) (.inl s3))) (fun (s3:Int)=>(cond (Z87.md a0) ((decide (s3>=a0.bS)):Bool) (false:Bool))) a0.aI 0)
def gd (a0:aq)(a1:List Int):Prop:=(aq.Sm (2^21) a0)/\(cw (2^38) (fun y:Int=>True) a1)
def R:=dO gd md
def au {a0 a1}(h:gd a0 a1):R ((aq.r a0),(a1.map aQ))=some (md a0 a1):=dN h
def aN:=CN [.agg nR,pL 3] oB RT.dec R
def bC (a0)(a1)(hg:gd a0 a1):∃n,start (iter step n) (aq.r a0) (a1.map aQ)=ret (md a0 a1):=by
 obtain ⟨H0,H1⟩:=hg
 unfold start md
 try simp only [SS]
 have Bh2:a0.aI.length<=maxLen:=(by
   have:=(H0).1
   try simp only [maxLen] at *
   omega)
 refine ex_eq (out:=ret) (dx (z:=0)) ?_
 refine eO (p:=Pt.p0 (a1.map aQ) 0 (a0.aI.map aQ) (a0.aI.length:Int) 0 (aq.r a0)) fz ?_
 refine cH (pt:=fun (i1:Nat) (s3:Int)=>Pt.p0 (a1.map aQ) s3 (a0.aI.map aQ) (a0.aI.length:Int) (i1:Int) (aq.r a0)) (s:=(0:Int)) (out:=ret) (fun _ _=>True) (fun J i1 s3 h2 hih2=>?_) (fun s3 hih2=>?_) trivial
 ·simp only [step,SS]
  have bb_:=Bh2
  simp only [maxLen] at bb_
  have:=(H0).1
  refine bp.yes (by apply decide_eq_true;omega) ?_
  refine bp.yes bJ ?_
  refine bp.yes (cA h2) ?_
  refine cr (Z141.au H1) ?_
  refine bp.bif (fun c4=>?_) (fun c4=>?_)
  ·refine bp.inl trivial ?_
   rw [aT h2 Bh2]
   all_goals exact fz
  ·refine bp.inl trivial ?_
   rw [aT h2 Bh2]
   all_goals exact fz
 ·simp only [step,SS]
  have:=(H0).1
  refine eM (by apply decide_eq_false;omega) ?_
  refine cx (Z87.au H0) ?_
  refine iJ ret (fun c5=>?_) (fun _=>⟨0,rfl⟩)
  refine ⟨0,?_⟩
  all_goals exact fz
def af:cZ 16 aN:=L2 29 (fun _=>3) dM fk live step start mix aD bC (gD Z141.af Z87.af) Tryz.func16
end Z147
namespace Z148
inductive Pt where
 | p0 (a b:ak) (c:Int) (d:ak)
 | p1 (a b:ak) (c d e f g h i j k l m n o:Int) (p:Bool) (q s t:ak)
def pid:Pt->Nat
 | .p0 ..=>10
 | .p1 ..=>19
def dM:Pt->List V
 | .p0 a b c d=>[.sl none 5 a,.sl none 78 b,.own 0,.int .i64 c]
 | .p1 a b c d e f g h i j k l m n o p q s t=>[.sl none 5 a,.sl none 78 b,.bB 0 0,.int .i64 c]
def fk:Pt->List aA
 | .p0 a b c d=>[.row 41 d]
 | .p1 a b c d e f g h i j k l m n o p q s t=>[.box [.int .i64 d,.int .i64 e,.int .i64 f,.int .i64 g,.int .i64 h,.int .i64 i,.int .i64 j,.int .i64 k,.own 1,.int .i64 l,.own 2,.int .i64 m,.int .i64 n,.own 3,.int .i64 o,.bool p],.row 3 q,.row 3 s,.row 3 t]
def step (J:Pt->az):Pt->az
 | .p0 a b c d=>(cond (c<(d.length:Int)) (dZ ((0:Int)<=(i64.wrap (c - 1))) (dZ ((i64.wrap (c - 1))<(d.length:Int)) (m2 c (d.length:Int) (cond ((ez.at d (toNat (i64.wrap (c - 1)))).iP>(ez.at d (toNat c)).iP) bL (dZ ((0:Int)<=(i64.wrap (c - 1))) (dZ ((i64.wrap (c - 1))<(d.length:Int)) (m2 c (d.length:Int) (call (Z114.R ((ez.at d (toNat (i64.wrap (c - 1)))).aE,(ez.at d (toNat c)).aE)) fun v1=>(cond v1 bL (J (.p0 a b (i64.wrap (c+1)) d))))))))))) (cond ((d.length:Int)>0) (call (Z67.R b) fun v2=>(dZ ((0:Int)<=(i64.wrap ((d.length:Int) - 1))) (dZ ((i64.wrap ((d.length:Int) - 1))<(d.length:Int)) (call (Z114.R ((ez.at d (toNat (i64.wrap ((d.length:Int) - 1)))).aE,v2.1.aE)) fun v3=>(cond (!v3) bL (call (Z129.R b) fun v4=>(cond (v4 != (i64.wrap ((d.length:Int) - 1))) bL (call (Z134.R (b,v2.1.aZ)) fun v5=>(cond (v5 != 0) bL (J (.p1 a b 1 v2.1.bq v2.1.aY v2.1.aP v2.1.aO v2.1.aZ v2.1.bk v2.1.bE v2.1.bW v2.1.aE.bS v2.1.aM.bS v2.1.bu v2.1.aK.bS v2.1.aH v2.1.aE.aI v2.1.aM.aI v2.1.aK.aI))))))))))) (call (Z135.R a) fun v6=>(call (Z136.R a) fun v7=>(call (Z137.R (b,1)) fun v8=>(call (Z137.R (b,2)) fun v9=>(call (Z137.R (b,3)) fun v10=>(call (Z146.R (v6.1,v6.2)) fun v11=>(call (Z139.R (v6.1,v6.2)) fun v12=>(cond (v11==v12) (call (Z134.R (v7.1,v7.2)) fun v13=>(call (Z131.R (v7.1,v7.2)) fun v14=>(cond (v13==v14) (call (Z66.R b) fun v15=>(cond (!v15) oz (ret (((i64.wrap ((i64.wrap (v8+v9))+v10))==(b.length:Int)):Bool)))) bL))) bL))))))))))
 | .p1 a b c d e f g h i j k l m n o p q s t=>(cond (c<20) (call (Z146.R (b,c)) fun v1=>(cond v1 (call (Z147.R ((⟨q,l⟩:aX),[[L.int c]])) fun v2=>(cond v2 bL (J (.p1 a b (i64.wrap (c+1)) d e f g h i j k l m n o p q s t)))) (J (.p1 a b (i64.wrap (c+1)) d e f g h i j k l m n o p q s t)))) (call (Z135.R a) fun v3=>(call (Z136.R a) fun v4=>(call (Z137.R (b,1)) fun v5=>(call (Z137.R (b,2)) fun v6=>(call (Z137.R (b,3)) fun v7=>(call (Z146.R (v3.1,v3.2)) fun v8=>(call (Z139.R (v3.1,v3.2)) fun v9=>(cond (v8==v9) (call (Z134.R (v4.1,v4.2)) fun v10=>(call (Z131.R (v4.1,v4.2)) fun v11=>(cond (v10==v11) (call (Z66.R b) fun v12=>(cond (!v12) oz (ret (((i64.wrap ((i64.wrap (v5+v6))+v7))==(b.length:Int)):Bool)))) bL))) bL)))))))))
def start (J:Pt->az)(x0:ak):az:=(call (Z0.R x0) fun v1=>(cond v1 oz (call (Z81.R x0) fun v2=>(call (Z124.R v2.1) fun v3=>(call (Z128.R (v2.1,v2.2)) fun v4=>(call (Z125.R (v2.1,v2.2)) fun v5=>(cond (!(v4.2==v5.2)) bL (cond v4.2 (call (Z114.R (v4.1,v5.1.aE)) fun v6=>(cond (!v6) bL (call (Z66.R v2.1) fun v7=>(cond (!((decide ((v3.length:Int)>0))==v7)) bL (J (.p0 x0 v2.1 1 v3)))))) (call (Z66.R v2.1) fun v8=>(cond (!((decide ((v3.length:Int)>0))==v8)) bL (J (.p0 x0 v2.1 1 v3))))))))))))
def live:Nat->Live:=kA [(10,nP [0,3,5,10]),(19,nP [0,3,11,13])]
def pats:List eS:=[.rd (.sl 5)]
def res:RP:=.one (.rd (.bool))
abbrev E:Env:={ T:=assoc nH,G:=cQ [(5,Z0.aN),(6,Z81.aN),(7,Z124.aN),(8,Z128.aN),(9,Z125.aN),(10,Z114.aN),(11,Z66.aN),(12,Z67.aN),(13,Z129.aN),(14,Z134.aN),(17,Z135.aN),(18,Z136.aN),(19,Z137.aN),(15,Z146.aN),(20,Z139.aN),(21,Z131.aN),(16,Z147.aN)],nt:=186,M:=dV [],np:=0,mt:=false,I:=fq [] }
def step_eq (I:dL)(p:Pt):dA E live I (pid p) (bN Tryz.f3) (kO (live (pid p)) (dM p) (fk p)) (dI E Tryz.f3 res)=step (fun q=>I (pid q) (dM q) (fk q)) p:=by
 cases p<;>kernel_rfl
def start_eq (I:dL)(ls:List L):gU E live I (bN Tryz.f3) (ew pats ls) (dI E Tryz.f3 res)=start (fun q=>I (pid q) (dM q) (fk q)) (eC ls):=by kernel_rfl
def run_eq (n:Nat)(ls:List L):eg E live Tryz.f3 res n (ew pats ls)=start (iter step n) (eC ls):=eo (id:=pid) (vs:=dM) (hs:=fk) (step:=step) (start:=fun J=>start J (eC ls)) step_eq (fun I=>start_eq I ls) n
def xm {l:List aa}(h:Z66.md l=true)(i:Nat)(hi:i+1<l.length):Z64.md ((l.getD i aa.zero).an) (l.getD (i+1) aa.zero)=true:=by
 have hl:=Z66.tr h
 have h1:Z65.md l<0:=by
  unfold Z66.md at h
  cases hc:Z15.md (l.length:Int) 1 12<;>rw [hc] at h
  ·cases h
  ·simpa using h
 unfold Z65.md at h1
 have h2:=tS (z:=aa.zero) (by
  intro i x s b h
  revert h
  simp only [Bool.cond_eq_ite]
  repeat' split
  all_goals (intro h;first | (cases h;rfl) | cases h)) h1
 have h3:=h2 (i+1) hi
 have e:(((i+1:Nat):Int)==0)=false:=beq_eq_false_iff_ne.2 (by omega)
 have e2:decide (((i+1:Nat):Int)>0)=true:=by simpa using by omega
 have ei:toNat (i64.wrap (((i+1:Nat):Int) - 1))=i:=by simp (disch:=omega) only [wi];omega
 simp only [e,e2,aL,aC] at h3
 rw [ei] at h3
 cases hf:Z64.md ((l.getD i aa.zero).an) (l.getD (i+1) aa.zero)
 ·rw [hf] at h3;cases h3
 ·rfl
def zi {p:aj}{s:aa}(h:Z64.md p s=true):p.aO<=s.an.aO:=by
 unfold Z64.md Z63.md at h
 by_cases ht:s.an.aO<p.aO
 ·exfalso
  rw [decide_eq_true ht] at h
  revert h
  cases (!(Z40.md p))<;>cases (!(Z40.md s.an))<;>cases (s.an.bq != p.bq)<;>cases (s.an.aY != (i64.wrap (p.aY+1)))<;>cases (s.an.bW != (Z50.md p))<;>simp
 ·omega
def yN {α S β:Type}{f:Nat->α->S->S⊕β}{t:S->β}{z:α}{l:List α}(I:Nat->S->Prop)(h:∀i s,i<l.length->I i s->∃s',f i (l.getD i z) s=.inl s'/\I (i+1) s'){s0:S}(h0:I 0 s0):∃s',dX f t 0 l s0=t s'/\I l.length s':=by
 have key:∀(k i:Nat) (s:S),i+k=l.length->I i s->∃s',dX f t i (l.drop i) s=t s'/\I l.length s':=by
  intro k
  induction k with
  | zero=>
   intro i s hk hi
   have hi':i=l.length:=by omega
   subst hi'
   rw [List.drop_length]
   exact ⟨s,rfl,hi⟩
  | succ k ih=>
   intro i s hk hi
   have hlt:i<l.length:=by omega
   obtain ⟨s',h1,h2⟩:=h i s hlt hi
   rw [List.drop_eq_getElem_cons hlt]
   unfold dX
   have e:l.getD i z=l[i]:=by rw [List.getD_eq_getElem?_getD,List.getElem?_eq_getElem hlt];rfl
   rw [<-e,h1]
   exact ih (i+1) s' (by omega) h2
 exact key l.length 0 s0 (by omega) h0
def Ad (s:List aS):Prop:=∀k,k+1<s.length->(s.getD k aS.zero).iP<=(s.getD (k+1) aS.zero).iP/\(s.getD k aS.zero).aE≠(s.getD (k+1) aS.zero).aE
def Ad.app {s:List aS}{x:aS}(h:Ad s)(h0:0<s.length)(h1:(s.getD (s.length - 1) aS.zero).iP<=x.iP)(h2:(s.getD (s.length - 1) aS.zero).aE≠x.aE):Ad (s++[x]):=by
 intro k hk
 simp only [List.length_append,List.length_cons,List.length_nil] at hk
 have e:∀j,j<s.length->(s++[x]).getD j aS.zero=s.getD j aS.zero:=fun j hj=>by
  rw [List.getD_eq_getElem?_getD,List.getD_eq_getElem?_getD,List.getElem?_append_left hj]
 have e2:(s++[x]).getD s.length aS.zero=x:=by
  rw [List.getD_eq_getElem?_getD,List.getElem?_append_right (Nat.le_refl _)];simp
 rcases Nat.lt_or_ge (k+1) s.length with hlt | hge
 ·rw [e _ (by omega),e _ hlt];exact h k hlt
 ·have :k+1=s.length:=by omega
  rw [e _ (by omega),this,e2,show k=s.length - 1 by omega]
  exact ⟨h1,h2⟩
structure Sp (l:List aa)(i:Nat)(s:List aS):Prop where
 p:0<i->0<s.length/\(s.getD (s.length - 1) aS.zero).aE=(l.getD (i - 1) aa.zero).an.aE/\(s.getD (s.length - 1) aS.zero).iP<=(l.getD (i - 1) aa.zero).an.aO
 a:Ad s
 n:s.length<=i
 k:∀x∈s,∃m∈l,x.aE=m.an.aE
def spans {l:List aa}(h:Z66.md l=true):Sp l l.length (Z124.md l):=by
 have hl:=Z66.tr h
 unfold Z124.md
 rw [Z121.br,h]
 simp only [Bool.not_true,aL]
 have step:∀i s,i<l.length->Sp l i s->∃s',((fun (i2:Nat) (y2:aa) (s4:List aS)=>(cond ((i2:Int)==0) (.inl (s4++[(⟨(y2.an).aO,((y2.an).aE),(y2.an).aP⟩:aS)])) (cond (!(Z114.md ((y2.an).aE) (((l.getD (toNat (i64.wrap ((i2:Int) - 1))) aa.zero).an).aE))) (.inl (s4++[(⟨(y2.an).aO,((y2.an).aE),(y2.an).aP⟩:aS)])) (.inl s4)))):Nat->aa->List aS->List aS⊕List aS) i (l.getD i aa.zero) s=.inl s'/\Sp l (i+1) s':=by
  intro i s hi hI
  have hmem:l.getD i aa.zero∈l:=by
   rw [List.getD_eq_getElem?_getD,List.getElem?_eq_getElem hi];exact List.getElem_mem _
  have last1:∀x:aS,(s++[x]).getD ((s++[x]).length - 1) aS.zero=x:=fun x=>by
   rw [List.getD_eq_getElem?_getD,List.getElem?_append_right (by simp)];simp
  have mem1:∀x:aS,(∃m∈l,x.aE=m.an.aE)->∀y∈s++[x],∃m∈l,y.aE=m.an.aE:=fun x hx y hy=>by
   rcases List.mem_append.1 hy with h1 | h1
   ·exact hI.k y h1
   ·rw [List.mem_singleton.1 h1];exact hx
  by_cases h0:i=0
  ·subst h0
   have hs:s=[]:=List.eq_nil_of_length_eq_zero (Nat.le_zero.1 hI.n)
   subst hs
   refine ⟨_,rfl,⟨fun _=>⟨Nat.zero_lt_one,rfl,Int.le_refl _⟩,fun k hk=>absurd hk (by simp),by simp,mem1 _ ⟨_,hmem,rfl⟩⟩⟩
  ·obtain ⟨g1,g2,g3⟩:=hI.p (by omega)
   have e:((i:Int)==0)=false:=beq_eq_false_iff_ne.2 (by omega)
   have ei:toNat (i64.wrap ((i:Int) - 1))=i - 1:=by rw [wi _ (by omega)];omega
   have ht:=zi (xm h (i - 1) (by omega))
   rw [show i - 1+1=i by omega] at ht
   simp only [e,aL,ei,Z114.md_eq]
   cases hq:qi (l.getD i aa.zero).an.aE (l.getD (i - 1) aa.zero).an.aE<;>simp only [Bool.not_true,Bool.not_false,aC,aL]
   ·refine ⟨_,rfl,⟨fun _=>⟨by simp,by rw [last1];rfl,by rw [last1];exact Int.le_refl _⟩,hI.a.app g1 (Int.le_trans g3 ht) (fun e1=>?_),by have:=hI.n;simp;omega,mem1 _ ⟨_,hmem,rfl⟩⟩⟩
    rw [g2] at e1
    have :qi (l.getD i aa.zero).an.aE (l.getD (i - 1) aa.zero).an.aE=true:=(fN).2 e1.symm
    rw [hq] at this;cases this
   ·have hq:=(fN).1 hq
    refine ⟨_,rfl,⟨fun _=>⟨g1,by rw [g2,show i+1 - 1=i by omega,hq],Int.le_trans g3 (by rw [show i+1 - 1=i by omega];exact ht)⟩,hI.a,Nat.le_succ_of_le hI.n,hI.k⟩⟩
 obtain ⟨s',h1,h2⟩:=yN (z:=aa.zero) (l:=l) (t:=fun (s4:List aS)=>s4) (s0:=[]) (f:=(fun (i2:Nat) (y2:aa) (s4:List aS)=>(cond ((i2:Int)==0) (.inl (s4++[(⟨(y2.an).aO,((y2.an).aE),(y2.an).aP⟩:aS)])) (cond (!(Z114.md ((y2.an).aE) (((l.getD (toNat (i64.wrap ((i2:Int) - 1))) aa.zero).an).aE))) (.inl (s4++[(⟨(y2.an).aO,((y2.an).aE),(y2.an).aP⟩:aS)])) (.inl s4))))) (Sp l) step ⟨fun h=>absurd h (Nat.lt_irrefl _),fun k hk=>absurd hk (Nat.not_lt_zero _),zero_le _,fun _ h=>(nomatch h)⟩
 rw [h1];exact h2
def counts (l:List aa)(hk:∀m∈l,1<=m.an.aP/\m.an.aP<=3)(hn:l.length<=1000):i64.wrap (i64.wrap (Z137.md l 1+Z137.md l 2)+Z137.md l 3)=(l.length:Int):=by
 have key:∀(k:Int) (xs:List aa) (s:Int),0<=s->s+xs.length<=10000->dP (S:=Int) (β:=Int) (fun (y1:aa) (s3:Int)=>(.inl (i64.wrap (s3+(Z96.md ((y1.an).aP==k)))))) (fun (s3:Int)=>(s3:Int)) xs s=s+((xs.countP fun m=>m.an.aP==k:Nat):Int):=by
  intro k xs
  induction xs with
  | nil=>intro s _ _;simp [dP]
  | cons x xs ih=>
   intro s hs hl
   simp only [List.length_cons] at hl
   unfold dP
   simp only
   rw [List.countP_cons]
   cases x.an.aP==k
   ·rw [show Z96.md false=0 from rfl,wi _ (by omega),ih _ (by omega) (by omega)];simp
   ·rw [show Z96.md true=1 from rfl,wi _ (by omega),ih _ (by omega) (by omega)];simp;omega
 have h1:=key 1 l 0 (by omega) (by omega)
 have h2:=key 2 l 0 (by omega) (by omega)
 have h3:=key 3 l 0 (by omega) (by omega)
 have hs:∀xs:List aa,(∀m∈xs,1<=m.an.aP/\m.an.aP<=3)->xs.countP (fun m=>m.an.aP==1)+xs.countP (fun m=>m.an.aP==2)+xs.countP (fun m=>m.an.aP==3)=xs.length:=by
  intro xs
  induction xs with
  | nil=>intro _;rfl
  | cons x xs ih=>
   intro h
   have hx:=h x (by simp)
   have:=ih fun m hm=>h m (List.mem_cons_of_mem _ hm)
   simp only [List.countP_cons,List.length_cons]
   have h3:x.an.aP=1∨x.an.aP=2∨x.an.aP=3:=by omega
   rcases h3 with h | h | h<;>rw [h]<;>simp<;>omega
 have:=hs l hk
 unfold Z137.md
 rw [h1,h2,h3]
 revert this
 generalize l.countP (fun m=>m.an.aP==1)=n1
 generalize l.countP (fun m=>m.an.aP==2)=n2
 generalize l.countP (fun m=>m.an.aP==3)=n3
 intro this
 have e1:i64.wrap (0+(n1:Int)+(0+(n2:Int)))=(n1:Int)+n2:=by rw [wi _ (by omega)];omega
 rw [e1,wi _ (by omega)]
 omega
def uD {s:List aS}{i:Nat}(hi:i<s.length):ez.at (s.map aS.row) i=aS.r (s.getD i aS.zero):=by
 unfold ez.at
 rw [List.getD_eq_getElem?_getD,List.getD_eq_getElem?_getD,List.getElem?_map,List.getElem?_eq_getElem hi]
 rfl
def tl (a b:ak):az:=(call (Z135.R a) fun v6=>(call (Z136.R a) fun v7=>(call (Z137.R (b,1)) fun v8=>(call (Z137.R (b,2)) fun v9=>(call (Z137.R (b,3)) fun v10=>(call (Z146.R (v6.1,v6.2)) fun v11=>(call (Z139.R (v6.1,v6.2)) fun v12=>(cond (v11==v12) (call (Z134.R (v7.1,v7.2)) fun v13=>(call (Z131.R (v7.1,v7.2)) fun v14=>(cond (v13==v14) (call (Z66.R b) fun v15=>(cond (!v15) oz (ret (((i64.wrap ((i64.wrap (v8+v9))+v10))==(b.length:Int)):Bool)))) bL))) bL))))))))
def BK {a:ak}{l:List aa}(ha:a.length<=1048576)(hl:cw 16 (fun y:aa=>aa.Sm 64 y) l):Wp (tl a (l.map aa.row)) (fun y:Bool=>y=true):=by
 have g:cw (2^21) (fun y:aa=>aa.Sm (2^21) y) l:=cw.mono hl (by decide) fun _ h=>aa.aV (by decide) h
 unfold tl
 refine Z135.bD ha (fun v6 ⟨m6,e6,h6,b6,b6'⟩=>Z136.bD ha (fun v7 ⟨m7,e7,h7,b7⟩=>?_))
 have g6:cw (2^21) (fun y:aa=>aa.Sm (2^21) y) m6:=cw.mono h6 (by decide) fun _ h=>aa.aV (by decide) h
 have g7:cw (2^21) (fun y:aa=>aa.Sm (2^21) y) m7:=cw.mono h7 (by decide) fun _ h=>aa.aV (by decide) h
 refine bg (Z137.au (a0:=l) (a1:=1) g) (bg (Z137.au (a0:=l) (a1:=2) g) (bg (Z137.au (a0:=l) (a1:=3) g) ?_))
 rw [e6]
 refine bg (Z146.au (a0:=m6) (a1:=v6.2) g6) (bg (Z139.au (a0:=m6) (a1:=v6.2) g6) ?_)
 rw [Z146.br]
 refine wp_cond (fun _=>?_) (fun c=>by rw [beq_self_eq_true] at c;cases c)
 rw [e7]
 refine bg (Z134.au (a0:=m7) (a1:=v7.2) g7) (bg (Z131.au (a0:=m7) (a1:=v7.2) g7) ?_)
 rw [Z134.D8 _ _ b7]
 refine wp_cond (fun _=>?_) (fun c=>by rw [beq_self_eq_true] at c;cases c)
 refine bg (Z66.au (a0:=l) g) (wp_cond (fun _=>wp_ret rfl) (fun c=>wp_ret ?_))
 have c:Z66.md l=true:=by simpa using c
 rw [counts l (fun m hm=>?_) (by have:=hl.1;omega),List.length_map]
 ·exact beq_self_eq_true _
 ·obtain ⟨i,hi⟩:=List.getElem?_of_mem hm
  have hlt:=(List.getElem?_eq_some_iff.1 hi).1
  have:=Z66.qz c i hlt
  rw [List.getD_eq_getElem?_getD,hi] at this
  exact (Z40.tr this).1
def BX {k:aq}{key:Int}(h:Z142.md k key=false):Z147.md k [key]=false:=by
 have hn:∀y∈k.aI,Z141.md [key] y=false:=by
  intro y hy
  have h1:(k.aI.any fun z=>z==key)=false:=by
   unfold Z142.md at h
   rwa [Z141.any_eq] at h
  rw [Z141.any_eq]
  have:=List.any_eq_false.1 h1 y hy
  simp at this ⊢
  exact fun e=>this e.symm
 have key2:∀(xs:List Int) (t:Int->Bool),(∀y∈xs,Z141.md [key] y=false)->dP (S:=Int) (β:=Bool) (fun (y1:Int) (s3:Int)=>(cond (Z141.md [key] y1) (.inl (i64.wrap (s3+1))) (.inl s3))) t xs 0=t 0:=by
  intro xs t
  induction xs with
  | nil=>intro _;rfl
  | cons x xs ih=>
   intro hx
   unfold dP
   rw [hx x (by simp)]
   exact ih fun y hy=>hx y (List.mem_cons_of_mem _ hy)
 unfold Z147.md
 rw [key2 _ _ hn]
 cases hk:Z87.md k
 ·rfl
 ·simp only [aC]
  have :1<=k.bS:=by
   simp [Z87.md,Z82.md] at hk
   omega
  exact decide_eq_false (by omega)
def gd (x0:ak):Prop:=∃a:List Int,x0=a.map aQ
def post (x0:ak)(y:Bool):Prop:=y=true
def wp (x0:ak)(hg:gd x0):∃n,Wp (start (iter step n) x0) (post x0):=by
 obtain ⟨a,rfl⟩:=hg
 by_cases hbig:((a.map aQ).length:Int)>1048576
 ·refine ⟨0,?_⟩
  unfold start
  refine bg (Z0.au (a0:=a) trivial) (wp_cond (fun _=>wp_ret rfl) (fun c=>?_))
  have :Z0.md a=true:=decide_eq_true (by rw [List.length_map] at hbig;exact hbig)
  rw [this] at c;cases c
 have ha:(a.map aQ).length<=1048576:=by omega
 obtain ⟨v2,hv2,l,e2,hl,t0,t1⟩:=Z81.iN (x0:=a.map aQ) ha
 have g:cw (2^21) (fun y:aa=>aa.Sm (2^21) y) l:=cw.mono hl (by decide) fun _ h=>aa.aV (by decide) h
 obtain ⟨s,hs⟩:∃s,s=Z124.md l:=⟨_,rfl⟩
 have hsp:Z66.md l=true->Sp l l.length s:=fun h=>by rw [hs];exact spans h
 have hsn:Z66.md l=false->s=[]:=fun h=>by
  rw [hs];unfold Z124.md;rw [Z121.br,h];rfl
 have hgt:decide (((s.map aS.row).length:Int)>0)=Z66.md l:=by
  rw [List.length_map]
  cases hc:Z66.md l
  ·rw [hsn hc];rfl
  ·have:=Z66.tr hc
   exact decide_eq_true (by have:=((hsp hc).p (by omega)).1;omega)
 have hsl:s.length<=16:=by
  cases hc:Z66.md l
  ·rw [hsn hc];exact zero_le _
  ·exact le_trans (hsp hc).n hl.1
 have hcl:∀{x},0<s.length->x=Z66.md l->x=true:=fun h0 e=>by
  cases hc:Z66.md l
  ·rw [hsn hc] at h0;cases h0
  ·rw [e,hc]
 have hchain:0<s.length->Z66.md l=true:=fun h=>hcl h rfl
 have hks:0<s.length->∀i,i<s.length->aq.Sm (2^21) (s.getD i aS.zero).aE:=fun h0 i hi=>by
  obtain ⟨m,hm,e⟩:=(hsp (hchain h0)).k (s.getD i aS.zero) (by rw [List.getD_eq_getElem?_getD,List.getElem?_eq_getElem hi];exact List.getElem_mem _)
  rw [e];exact (g.2 m hm).1.1
 have loop:∀n p,(match p with
   | .p0 a' b c d=>a'=a.map aQ/\b=l.map aa.row/\d=s.map aS.row/\1<=c/\c<=17
   | .p1 a' b c _ _ _ _ _ _ _ _ k _ _ _ _ q _ _=>a'=a.map aQ/\b=l.map aa.row/\1<=c/\c<=20/\Z66.md l=true/\k=(Z67.md l).1.aE.bS/\q=(Z67.md l).1.aE.aI.map aQ)->(match p with
   | .p0 _ _ c _=>(18 - c).toNat+30
   | .p1 _ _ c _ _ _ _ _ _ _ _ _ _ _ _ _ _ _ _=>(20 - c).toNat)<n->Wp (iter step n p) (fun y:Bool=>y=true):=by
  refine iR _ _ (fun J p hI hJ=>?_)
  cases p with
  | p0 a' b c d=>
   obtain ⟨rfl,rfl,rfl,k1,k2⟩:=hI
   have e1:i64.wrap (c - 1)=c - 1:=wi _ (by omega)
   have e2:i64.wrap (c+1)=c+1:=wi _ (by omega)
   refine wp_cond (fun c1=>?_) (fun c1=>?_)
   ·have c1:=of_decide_eq_true c1
    rw [List.length_map] at c1
    have q0:(decide ((0:Int)<=(i64.wrap (c - 1))))=true:=decide_eq_true (by omega)
    have q1:(decide ((i64.wrap (c - 1))<((s.map aS.row).length:Int)))=true:=decide_eq_true (by rw [List.length_map];omega)
    have hA:=(hsp (hchain (by omega))).a (c - 1).toNat (by omega)
    have en:(c - 1).toNat+1=c.toNat:=by omega
    rw [en] at hA
    have a1:ez.at (s.map aS.row) (toNat (i64.wrap (c - 1)))=aS.r (s.getD (c - 1).toNat aS.zero):=by rw [e1];exact uD (by omega)
    have a2:ez.at (s.map aS.row) (toNat c)=aS.r (s.getD c.toNat aS.zero):=uD (by omega)
    refine cY q0 (cY q1 (qm (by omega) (by rw [List.length_map];omega) ?_))
    rw [a1,a2]
    refine wp_cond (fun c2=>?_) (fun _=>cY q0 (cY q1 (qm (by omega) (by rw [List.length_map];omega) ?_)))
    ·have c2:=of_decide_eq_true c2
     exact absurd (show (s.getD (c - 1).toNat aS.zero).iP>(s.getD c.toNat aS.zero).iP from c2) (by omega)
    ·refine bg (Z114.au (a0:=(s.getD (c - 1).toNat aS.zero).aE) (a1:=(s.getD c.toNat aS.zero).aE) ⟨hks (by omega) _ (by omega),hks (by omega) _ (by omega)⟩) ?_
     rw [Z114.md_eq]
     refine wp_cond (fun c3=>absurd ((fN).1 c3) hA.2) (fun _=>hJ _ ⟨rfl,rfl,rfl,?_,?_⟩ ?_)
     ·show 1<=i64.wrap (c+1);omega
     ·show i64.wrap (c+1)<=17;omega
     ·show (18 - i64.wrap (c+1)).toNat+30<(18 - c).toNat+30;omega
   ·refine wp_cond (fun c2=>?_) (fun _=>BK ha hl)
    have c2:=of_decide_eq_true c2
    rw [List.length_map] at c2
    have h0:0<s.length:=by omega
    have hc:=hchain h0
    have hS:=(hsp hc).p (by have:=Z66.tr hc;omega)
    have hlast:(Z67.md l).2=true:=by unfold Z67.md;rw [hc];rfl
    have hH:=(Z67.head hlast).2.1
    have hm:aj.Sm (2^21) (Z67.md l).1:=by
     rw [hH]
     have:=Z66.tr hc
     rw [List.getD_eq_getElem?_getD,List.getElem?_eq_getElem (by omega)]
     exact (g.2 _ (List.getElem_mem _)).1
    refine bg (Z67.au (a0:=l) g) ?_
    have e3:i64.wrap (((s.map aS.row).length:Int) - 1)=(s.length:Int) - 1:=by rw [List.length_map];exact wi _ (by omega)
    have a3:ez.at (s.map aS.row) (toNat (i64.wrap (((s.map aS.row).length:Int) - 1)))=aS.r (s.getD (s.length - 1) aS.zero):=by
     rw [e3,show ((s.length:Int) - 1).toNat=s.length - 1 by omega];exact uD (by omega)
    refine cY (decide_eq_true (by omega)) (cY (decide_eq_true (by rw [e3,List.length_map];omega)) ?_)
    rw [a3]
    refine bg (Z114.au (a0:=(s.getD (s.length - 1) aS.zero).aE) (a1:=(Z67.md l).1.aE) ⟨hks h0 _ (by omega),hm.1⟩) ?_
    rw [Z114.md_eq,(fN).2 (show (s.getD (s.length - 1) aS.zero).aE=(Z67.md l).1.aE by rw [hH,hS.2.1])]
    refine wp_cond (fun c3=>by cases c3) (fun _=>bg (Z129.au (a0:=l) g) ?_)
    have e4:Z129.md l=(s.length:Int) - 1:=by
     unfold Z129.md
     rw [<-hs,wi _ (by omega)]
     by_cases h1:(0:Int)<(s.length:Int) - 1
     ·rw [decide_eq_true h1];rfl
     ·rw [decide_eq_false h1];show (0:Int)=_;omega
    rw [e4,e3]
    refine wp_cond (fun c3=>by simp at c3) (fun _=>bg (Z134.au (a0:=l) (a1:=(Z67.md l).1.aZ) g) ?_)
    have e5:Z134.md l (Z67.md l).1.aZ=0:=by
     unfold Z134.md
     rw [Z133.br,hlast,decide_eq_true (Int.le_refl _)];rfl
    rw [e5]
    refine wp_cond (fun c3=>by cases c3) (fun _=>hJ _ ⟨rfl,rfl,Int.le_refl _,by decide,hc,rfl,rfl⟩ ?_)
    show (20 - (1:Int)).toNat<(18 - c).toNat+30
    omega
  | p1 a' b c d e f g' h i j k l' m n o p q s' t=>
   obtain ⟨rfl,rfl,k1,k2,hc,rfl,rfl⟩:=hI
   have e2:i64.wrap (c+1)=c+1:=wi _ (by omega)
   refine wp_cond (fun c1=>?_) (fun _=>BK ha hl)
   have c1:=of_decide_eq_true c1
   have hlast:(Z67.md l).2=true:=by unfold Z67.md;rw [hc];rfl
   have hH:=(Z67.head hlast).2.1
   have hm:aj.Sm (2^21) (Z67.md l).1:=by
    rw [hH]
    have:=Z66.tr hc
    rw [List.getD_eq_getElem?_getD,List.getElem?_eq_getElem (by omega)]
    exact (g.2 _ (List.getElem_mem _)).1
   have next:Wp (J (.p1 (a.map aQ) (l.map aa.row) (i64.wrap (c+1)) d e f g' h i j k (Z67.md l).1.aE.bS m n o p ((Z67.md l).1.aE.aI.map aQ) s' t)) (fun y:Bool=>y=true):=by
    refine hJ _ ⟨rfl,rfl,?_,?_,hc,rfl,rfl⟩ ?_
    ·show 1<=i64.wrap (c+1);omega
    ·show i64.wrap (c+1)<=20;omega
    ·show (20 - i64.wrap (c+1)).toNat<(20 - c).toNat;omega
   refine bg (Z146.au (a0:=l) (a1:=c) g) (wp_cond (fun c2=>?_) (fun _=>next))
   refine bg (Z147.au (a0:=(Z67.md l).1.aE) (a1:=[c]) ⟨hm.1,by show 1<=_;decide,fun _ _=>trivial⟩) ?_
   rw [BX (key:=c) ?_]
   ·exact wp_cond (fun c3=>by cases c3) (fun _=>next)
   ·unfold Z146.md at c2
    rw [Z121.br,hc] at c2
    simp only [aC] at c2
    have e6:Z132.md l=(Z67.md l).1:=by
     rw [hH]
     have:=Z66.tr hc
     unfold Z132.md
     rw [wi _ (by omega),show ((l.length:Int) - 1).toNat=l.length - 1 by omega]
    rw [e6] at c2
    cases hk:Z142.md (Z67.md l).1.aE c
    ·rfl
    ·rw [hk] at c2;cases c2
 refine ⟨60,?_⟩
 unfold start
 refine bg (Z0.au (a0:=a) trivial) ?_
 rw [show Z0.md a=false from decide_eq_false (by rw [List.length_map] at hbig;exact hbig)]
 refine wp_cond (fun c=>by cases c) (fun _=>bg hv2 ?_)
 rw [e2]
 refine bg (Z124.au (a0:=l) g) ?_
 rw [<-hs]
 refine bg (Z128.au (a0:=l) (a1:=v2.2) g) (bg (Z125.au (a0:=l) (a1:=v2.2) g) ?_)
 have e7:(Z128.md l v2.2).2=(Z125.md l v2.2).2:=by unfold Z128.md;rw [Z127.br]
 have e8:(Z128.md l v2.2).1=(Z125.md l v2.2).1.aE:=by unfold Z128.md;rw [Z127.br]
 rw [e7]
 refine wp_cond (fun c=>by simp at c) (fun _=>?_)
 have rest:Wp (call (Z66.R (l.map aa.row)) fun v8=>(cond (!((decide (((s.map aS.row).length:Int)>0))==v8)) bL (iter step 60 (.p0 (a.map aQ) (l.map aa.row) 1 (s.map aS.row))))) (fun y:Bool=>y=true):=by
  refine bg (Z66.au (a0:=l) g) ?_
  rw [hgt]
  refine wp_cond (fun c=>by simp at c) (fun _=>loop 60 _ ⟨rfl,rfl,rfl,Int.le_refl _,by decide⟩ ?_)
  show (18 - (1:Int)).toNat+30<60
  decide
 refine wp_cond (fun c4=>?_) (fun _=>rest)
 have hm5:aq.Sm (2^21) (Z125.md l v2.2).1.aE:=(Z125.uQ g).1
 refine bg (Z114.au (a0:=(Z128.md l v2.2).1) (a1:=(Z125.md l v2.2).1.aE) ⟨by rw [e8];exact hm5,hm5⟩) ?_
 rw [Z114.md_eq,(fN).2 e8]
 exact wp_cond (fun c=>by cases c) (fun _=>rest)
def R:(ak)->Option (Bool):=RQ (fun n x=>start (iter step n) x) (fun x=>post x)
def iN {x0:ak}(hg:gd x0):∃y,R x0=some y/\post x0 y:=ow (wp x0 hg)
def acc (ls:List L):ak:=(eC ls)
def aN:gS:=CN pats res acc R
def af:cZ 3 aN:=VQ (live:=live) (mt:=false) mix aD (.cons Z0.af (.cons Z81.af (.cons Z124.af (.cons Z128.af (.cons Z125.af (.cons Z114.af (.cons Z66.af (.cons Z67.af (.cons Z129.af (.cons Z134.af (.cons Z135.af (.cons Z136.af (.cons Z137.af (.cons Z146.af (.cons Z139.af (.cons Z131.af (.cons Z147.af .nil))))))))))))))))) .nil .nil Tryz.func3 (by kernel_rfl) run_eq
def holds (ls:List L)(h:jC Ev.cells ([22].flatMap Ev.cells) ls):aN.sem ls=some [.bool true]:=by
 have hk:[22].flatMap Ev.cells=[.sl 5]:=by kernel_rfl
 rw [hk] at h
 obtain ⟨l0,t0,rfl,g0,h1⟩:=h.zD
 obtain ⟨x0,rfl,s0⟩:=BC (show Ev.cells 5=[.int .u8] from by kernel_rfl) BG g0
 obtain rfl:=h1.BJ
 show (R (x0.map aQ)).map RT.enc=_
 obtain ⟨y,hy,py⟩:=iN (x0:=(x0.map aQ)) ⟨x0,rfl⟩
 have py:y=true:=py
 rw [hy,py]
 rfl
end Z148
end Go.DM
end
