/- What the functions compute that the law reaches, and that the law returns true. Conditions: none. -/
import Derived.Test.YtcepeleohipibaaGreatLRootsTy
import Derived.Test.YtcepeleohipibaaGreatLRootsFnA
set_option linter.all false
set_option maxRecDepth 100000
noncomputable section
namespace Go.DM
open Go.Proofs
open Go.IntKind (i64)
open Int (toNat)
open Nat (le_trans zero_le)
namespace Z96
def F (x0:an)(x1 x2:Int):aC:=(call (Z5.R (x0,x1,x2,[[L.str (⟨#[115,104,111,112]⟩:az)],[L.str (⟨#[109,97,105,108]⟩:az)],[L.str (⟨#[97,110,110]⟩:az)],[L.str (⟨#[98,111,98]⟩:az)],[L.str (⟨#[115,104,111,112]⟩:az)],[L.str (⟨#[98,97,110,107]⟩:az)]])) fun v1=>(call (Z67.R (x0,v1.2.1,v1.2.2.1,2)) fun v2=>(cond v2.2.2.2 (call (Z6.R (x0,v2.2.1,v2.2.2.1)) fun v3=>(ck (eG (((1:Int)+1)*16)) (call (Z67.R (x0,v3.2.1,v3.2.2.1,8)) fun v4=>(cond v4.2.2.2 (call (Z95.R (x0,v4.2.1,v4.2.2.1)) fun v5=>(ck (eG (((2:Int)+1)*16)) (ret ((Hl.mk,v5.2.1,v5.2.2.1,[[L.str v1.2.2.2],[L.str v3.2.2.2],[L.str v5.2.2.2]]):Hl×Int×Int×an)))) (ret ((Hl.mk,v4.2.1,v4.2.2.1,[[L.str v1.2.2.2],[L.str v3.2.2.2]]):Hl×Int×Int×an)))))) (call (Z67.R (x0,v2.2.1,v2.2.2.1,8)) fun v6=>(cond v6.2.2.2 (call (Z95.R (x0,v6.2.1,v6.2.2.1)) fun v7=>(ck (eG (((1:Int)+1)*16)) (ret ((Hl.mk,v7.2.1,v7.2.2.1,[[L.str v1.2.2.2],[L.str v7.2.2.2]]):Hl×Int×Int×an)))) (ret ((Hl.mk,v6.2.1,v6.2.2.1,[[L.str v1.2.2.2]]):Hl×Int×Int×an)))))))
abbrev eI:List K:=[.sl 5,aE,aE]
def pats:List (Option fE):=[none]
def res:RP:=.one (.fr 9)
abbrev E:Env:={ T:=assoc mq,G:=cW [],nt:=23,M:=eW [],np:=(nC eI),mt:=false,I:=gp [(192,Z5.ic (nC eI)),(142,Z67.ic (nC eI)),(237,Z6.ic (nC eI)),(201,Z95.ic (nC eI))] }
def run_eq (n:Nat)(ls:List L):eV E (fun _=>[]) Tryz.f180 (.cur eI res.parts) n (iI eI pats ls)=F (eM ls) (cI 1 ls) (cI 2 ls):=by kernel_rfl
def gd (x0:an)(x1 x2:Int):Prop:=CI x0 x1
def post (x0:an)(x1 x2:Int)(y:Hl×Int×Int×an):Prop:=CI x0 y.2.1/\∃m:List az,y.2.2.2=m.map dO/\bf 8 (fun y:az=>y.size<=16) m
def wp (x0:an)(x1 x2:Int)(hg:gd x0 x1 x2):Wp (F x0 x1 x2) (post x0 x1 x2):=by
 unfold F
 refine Z5.ep ⟨hg,by show 0<6;decide⟩ (fun v ⟨hv,i,hi,e⟩=>?_)
 have hs:v.2.2.2.size<=16:=by rw [e];exact lq rfl hi
 clear e
 have l1:∀{a:az},a.size<=16->bf 8 (fun y:az=>y.size<=16) [a]:=fun h=>⟨by simp,fun y hy=>by simp at hy;subst hy;exact h⟩
 have l2:∀{a b:az},a.size<=16->b.size<=16->bf 8 (fun y:az=>y.size<=16) [a,b]:=fun h k=>⟨by simp,fun y hy=>by simp at hy;rcases hy with rfl | rfl<;>assumption⟩
 have l3:∀{a b c:az},a.size<=16->b.size<=16->c.size<=16->bf 8 (fun y:az=>y.size<=16) [a,b,c]:=fun h k j=>⟨by simp,fun y hy=>by simp at hy;rcases hy with rfl | rfl | rfl<;>assumption⟩
 refine Z67.ep hv (fun w hw=>wp_cond (fun _=>?_) (fun _=>?_))
 ·refine Z6.ep hw (fun z ⟨hz,h1⟩=>fO (fQ (by decide)) (Z67.ep hz (fun t ht=>wp_cond (fun _=>?_) (fun _=>?_))))
  ·exact Z95.ep ht (fun q ⟨hq,h2⟩=>fO (fQ (by decide)) (wp_ret ⟨hq,[v.2.2.2,z.2.2.2,q.2.2.2],rfl,l3 hs h1 h2⟩))
  ·exact wp_ret ⟨ht,[v.2.2.2,z.2.2.2],rfl,l2 hs h1⟩
 ·refine Z67.ep hw (fun t ht=>wp_cond (fun _=>?_) (fun _=>?_))
  ·exact Z95.ep ht (fun q ⟨hq,h2⟩=>fO (fQ (by decide)) (wp_ret ⟨hq,[v.2.2.2,q.2.2.2],rfl,l2 hs h2⟩))
  ·exact wp_ret ⟨ht,[v.2.2.2],rfl,l1 hs⟩
def R:(an×Int×Int)->Option (Hl×Int×Int×an):=RQ (fun _ x=>F x.1 x.2.1 x.2.2) (fun x=>post x.1 x.2.1 x.2.2)
def ep {x0:an}{x1 x2:Int}{γ:Type}[RT γ]{k:(Hl×Int×Int×an)->aC}{Q:γ->Prop}(hg:gd x0 x1 x2)(hk:∀y,post x0 x1 x2 y->Wp (k y) Q):Wp (call (R (x0,x1,x2)) k) Q:=fN ⟨0,wp x0 x1 x2 hg⟩ hk
def acc (ls:List L):an×Int×Int:=((eM ls),(cI 1 ls),(cI 2 ls))
def aK:jX:=CC eI pats res acc R
def af:gL Tryz.prog Ev 180 aK:=VC (live:=(fun _=>[])) (mt:=false) mix aA .nil .nil (.cons (Z5.bM (nC eI)) (.cons (Z67.bM (nC eI)) (.cons (Z6.bM (nC eI)) (.cons (Z95.bM (nC eI)) .nil)))) Tryz.func180 (by kernel_rfl) run_eq
def ic (_:Nat):gy:=kg Ev aK
def bM (n:Nat):dY Tryz.prog Ev n 180 (ic n):=eY af
end Z96
namespace Z97
def F (x0:an):aC:=(call (Z1.R x0) fun v1=>(call (Z78.R (v1.1,v1.2.1,v1.2.2)) fun v2=>(call (Z85.R (v1.1,v2.2.1,v2.2.2.1,v2.2.2.2)) fun v3=>(call (Z67.R (v1.1,v3.2.1,v3.2.2.1,2)) fun v4=>(cond v4.2.2.2 (call (Z4.R (v1.1,v4.2.1,v4.2.2.1,3)) fun v5=>(ck ((0:Int)<=v5.2.2.2) (ck (v5.2.2.2<(v2.2.2.2.length:Int)) (call (Z93.R ((⟨[],[]⟩:aW),(bT.at v2.2.2.2 (toNat v5.2.2.2)).aD)) fun v6=>(call (Z94.R (v1.1,v5.2.1,v5.2.2.1,v2.2.2.2)) fun v7=>(call (Z96.R (v1.1,v7.2.1,v7.2.2.1)) fun v8=>(call (Z84.R (v1.1,v8.2.1,v8.2.2.1,[[L.int 1],[L.int 20],[L.int 151]])) fun v9=>ret ((v6.1,v3.2.2.2,v7.2.2.2,v8.2.2.2,v9.2.2.2):aW×an×an×an×Int)))))))) (call (Z94.R (v1.1,v4.2.1,v4.2.2.1,v2.2.2.2)) fun v10=>(call (Z96.R (v1.1,v10.2.1,v10.2.2.1)) fun v11=>(call (Z84.R (v1.1,v11.2.1,v11.2.2.1,[[L.int 1],[L.int 20],[L.int 151]])) fun v12=>ret (((⟨[],[]⟩:aW),v3.2.2.2,v10.2.2.2,v11.2.2.2,v12.2.2.2):aW×an×an×an×Int)))))))))
def pats:List fE:=[.rd (.sl 5)]
def res:RP:=.gS [(true,[.fr 37,.fr 170]),(false,[.fr 280]),(false,[.fr 232]),(false,[.fr 9]),(false,[.rd (.int .i64)])]
abbrev E:Env:={ T:=assoc mq,G:=cW [(23,Z93.aK)],nt:=44,M:=eW [],np:=0,mt:=false,I:=gp [(137,Z1.ic 0),(178,Z78.ic 0),(179,Z85.ic 0),(142,Z67.ic 0),(139,Z4.ic 0),(191,Z94.ic 0),(180,Z96.ic 0),(145,Z84.ic 0)] }
def run_eq (n:Nat)(ls:List L):eV E (fun _=>[]) Tryz.f68 res n (dy pats ls)=F (eM ls):=by kernel_rfl
def gd (x0:an):Prop:=x0.length<=1048576
def post (x0:an)(y:aW×an×an×an×Int):Prop:=∃(k:ak) (s:List ay) (r:List aX) (p:List az),y=(ak.r k,s.map ay.row,r.map aX.row,p.map dO,y.2.2.2.2)/\ak.Sm (2^21) k/\bf 3 (fun z:ay=>ay.Sm 64 z) s/\bf 3 (fun z:aX=>aX.Sm 64 z) r/\bf 8 (fun y:az=>y.size<=16) p/\Fp y.2.2.2.2
def wp (x0:an)(hg:gd x0):Wp (F x0) (post x0):=by
 unfold F
 refine Z1.ep hg (fun v1 ⟨e1,c1⟩=>Z78.ep (by rw [e1];exact c1) (fun v2 ⟨c2,zs,e2,l2,o2⟩=>Z85.ep ⟨c2,zs,e2,l2,o2⟩ (fun v3 ⟨c3,ss,e3,s3⟩=>Z67.ep c3 (fun v4 c4=>?_))))
 rw [e2,e3]
 have z0:ak.Sm (2^21) ⟨[],[]⟩:=⟨bf.nil,bf.nil⟩
 refine wp_cond (fun _=>?_) (fun _=>?_)
 ·refine Z4.ep c4 (fun v5 ⟨c5,_,b5⟩=>?_)
  obtain ⟨b1,b2⟩:=b5 (by decide)
  have hi:v5.2.2.2.toNat<zs.length:=by omega
  refine fO (decide_eq_true b1) (fO (decide_eq_true (by rw [List.length_map];omega)) ?_)
  rw [aI.tw hi]
  have ho:=o2 _ (List.getElem_mem hi)
  have hg0:Z93.gd ⟨[],[]⟩ zs[v5.2.2.2.toNat].aD:=⟨z0,ho.1.2.mono (by decide) fun _ h=>aa.dL (by decide) h⟩
  refine bW (Z93.aj (a0:=⟨[],[]⟩) (a1:=zs[v5.2.2.2.toNat].aD) hg0) ?_
  refine Z94.ep ⟨c5,zs,rfl,l2,o2⟩ (fun v7 ⟨c7,rs,e7,s7⟩=>Z96.ep c7 (fun v8 ⟨c8,ps,e8,s8⟩=>Z84.ep ⟨c8,by show 0<3;decide⟩ (fun v9 ⟨c9,i,hi,e9⟩=>?_)))
  rw [e7,e8,e9]
  exact wp_ret ⟨_,ss,rs,ps,rfl,Z93.fc hg0,s3,s7,s8,yU rfl hi⟩
 ·refine Z94.ep ⟨c4,zs,rfl,l2,o2⟩ (fun v7 ⟨c7,rs,e7,s7⟩=>Z96.ep c7 (fun v8 ⟨c8,ps,e8,s8⟩=>Z84.ep ⟨c8,by show 0<3;decide⟩ (fun v9 ⟨c9,i,hi,e9⟩=>?_)))
  rw [e7,e8,e9]
  exact wp_ret ⟨⟨[],[]⟩,ss,rs,ps,rfl,z0,s3,s7,s8,yU rfl hi⟩
def R:(an)->Option (aW×an×an×an×Int):=RQ (fun _ x=>F x) (fun x=>post x)
def mS {x0:an}(hg:gd x0):∃y,R x0=some y/\post x0 y:=pJ ⟨0,wp x0 hg⟩
def acc (ls:List L):an:=(eM ls)
def aK:gu:=CN pats res acc R
def af:bZ 68 aK:=VQ (live:=(fun _=>[])) (mt:=false) mix aA (cM Z93.af) .nil (.cons (Z1.bM 0) (.cons (Z78.bM 0) (.cons (Z85.bM 0) (.cons (Z67.bM 0) (.cons (Z4.bM 0) (.cons (Z94.bM 0) (.cons (Z96.bM 0) (.cons (Z84.bM 0) .nil)))))))) Tryz.func68 (by kernel_rfl) run_eq
end Z97
namespace Z98
inductive Pt where
 | p0 (a:an) (b:az) (c:Int)
def cF:Pt->List V
 | .p0 a b c=>[.sl none 62 a,.str b,.int .i64 c]
def step (J:Pt->aC):Pt->aC
 | .p0 a b c=>(cond (c<(a.length:Int)) (m2 c (a.length:Int) (cond ((bp.at a (toNat c)).aZ==b) (ret (c:Int)) (J (.p0 a b (i64.wrap (c+1)))))) mG)
def start (J:Pt->aC)(x0:an)(x1:az):aC:=J (.p0 x0 x1 0)
def live:Nat->Live:=gx [(2,iR [0,1,5])]
def md (a0:List ah)(a1:az):Int:=(dD (S:=Unit) (β:=Int) (fun i1 y1 s3=>(cond (y1.aZ==a1) (.inr (i1)) (.inl ()))) (fun s3=>((-1):Int)) 0 a0 ())
def gd (a0:List ah)(a1:az):Prop:=(bf (2^21) (fun y:ah=>ah.Sm (2^21) y) a0)
def R:=cL gd md
def aj {a0 a1}(h:gd a0 a1):R ((a0.map ah.row),a1)=some (md a0 a1):=cK h
def aK:=CN [pL 62,pS] oI RT.dec R
def bn (a0)(a1)(H0:gd a0 a1):∃n,start (iter step n) (a0.map ah.row) a1=ret (md a0 a1):=by
 have Bh2:=bl H0
 refine ex_eq (cC (z:=ah.zero)) (dc fz ?_)
 refine bH (pt:=fun (i1:Nat) (s3:Unit)=>Pt.p0 (a0.map ah.row) a1 (i1:Int)) (fun _ _=>True) (fun J i1 s3 h2 hih2=>?_) (fun s3 hih2=>?_) trivial
 ·simp only [step,SS]
  refine aP.yes dt (aP.yes bu ?_)
  refine aP.yes (bK h2) (aP.bif (fun c4=>aP.inr fz) (fun c4=>?_))
  refine aP.inl trivial ?_
  rw [aF h2 Bh2]
 ·simp only [step,SS]
  refine cH dn (⟨0,?_⟩)
  exact fz
def af:bZ 232 aK:=L2 20 (fun _=>2) cF (fun _=>[]) live step start mix aA bn .nil Tryz.func232
def fa (a0:List ah)(a1:az):-1<=md a0 a1/\md a0 a1<(a0.length:Int):=by
 refine jN ?_ _ _
 all_goals
  intro i x s b h
  revert h
  simp only [Bool.cond_eq_ite]
  repeat' split
  all_goals (intro h;first | (cases h;rfl) | cases h)
end Z98
namespace Z99
inductive Pt where
 | p0 (a:Int) (b c:an)
 | p1 (a:Int) (b c:an)
def cF:Pt->List V
 | .p0 a b c=>[.int .i64 a,.own 0,.sl none 3 b]
 | .p1 a b c=>[.int .i64 a,.own 0,.own 1]
def dN:Pt->List aL
 | .p0 a b c=>[.row 3 c]
 | .p1 a b c=>[.row 3 b,.row 3 c]
def step (J:Pt->aC):Pt->aC
 | .p0 a b c=>(cond ((b.length:Int)>1) (cond ((i64.wrap ((i64.wrap (a+1)) - (i64.wrap (2*(Int.tmod a 2)))))<(b.length:Int)) (ck ((0:Int)<=(i64.wrap ((i64.wrap (a+1)) - (i64.wrap (2*(Int.tmod a 2)))))) (ck ((i64.wrap ((i64.wrap (a+1)) - (i64.wrap (2*(Int.tmod a 2)))))<(b.length:Int)) (ck (eG (((c.length:Int)+1)*8)) (call (Z29.R b) fun v1=>J (.p1 (i64.wrap (Int.tdiv a 2)) (c++[[L.int (gR b (toNat (i64.wrap ((i64.wrap (a+1)) - (i64.wrap (2*(Int.tmod a 2)))))))]]) v1))))) (call (Z29.R b) fun v2=>J (.p1 (i64.wrap (Int.tdiv a 2)) c v2))) (ret (c:an)))
 | .p1 a b c=>(cond ((c.length:Int)>1) (cond ((i64.wrap ((i64.wrap (a+1)) - (i64.wrap (2*(Int.tmod a 2)))))<(c.length:Int)) (ck ((0:Int)<=(i64.wrap ((i64.wrap (a+1)) - (i64.wrap (2*(Int.tmod a 2)))))) (ck ((i64.wrap ((i64.wrap (a+1)) - (i64.wrap (2*(Int.tmod a 2)))))<(c.length:Int)) (ck (eG (((b.length:Int)+1)*8)) (call (Z29.R c) fun v1=>J (.p1 (i64.wrap (Int.tdiv a 2)) (b++[[L.int (gR c (toNat (i64.wrap ((i64.wrap (a+1)) - (i64.wrap (2*(Int.tmod a 2)))))))]]) v1))))) (call (Z29.R c) fun v2=>J (.p1 (i64.wrap (Int.tdiv a 2)) b v2))) (ret (b:an)))
def start (J:Pt->aC)(x0:an)(x1:Int):aC:=(call (Z11.R (x1,0,(i64.wrap (x0.length - 1)))) fun v1=>(cond (!v1) (ret ([]:an)) (J (.p0 x1 x0 []))))
def live:Nat->Live:=gx [(5,[(1,none),(5,some 3),(6,none)])]
def xT (i:Nat):Nat:=if i % 2=0 then i+1 else i - 1
def xS (i:Nat)(l c:List Int):List Int:=if xT i<l.length then c++[l.getD (xT i) 0] else c
def BW:Nat->Nat->List Int->List Int->List Int
 | 0,_,_,c=>c
 | k+1,i,l,c=>if l.length>1 then BW k (i / 2) (Z29.up l) (xS i l c) else c
def vB:∀(k i:Nat) (l c:List Int),(BW k i l c).length<=c.length+k
 | 0,_,_,c=>Nat.le_refl _
 | k+1,i,l,c=>by
  unfold BW
  by_cases h:l.length>1
  ·rw [if_pos h]
   have:=vB k (i / 2) (Z29.up l) (xS i l c)
   have h2:(xS i l c).length<=c.length+1:=by unfold xS;split<;>simp
   omega
  ·rw [if_neg h];omega
def half (i:Nat)(h:i<2^40):i64.wrap (Int.tdiv (i:Int) 2)=((i / 2:Nat):Int):=by
 rw [show Int.tdiv (i:Int) 2=((i / 2:Nat):Int) from rfl,wi _ (by omega)]
def Dq (i:Nat)(h:i<2^40):i64.wrap (i64.wrap ((i:Int)+1) - i64.wrap (2*Int.tmod (i:Int) 2))=((xT i:Nat):Int):=by
 rw [show Int.tmod (i:Int) 2=((i % 2:Nat):Int) from rfl,wi ((i:Int)+1) (by omega),wi (2*((i % 2:Nat):Int)) (by omega),wi _ (by omega)]
 unfold xT
 split<;>omega
def md (a0:List Int)(a1:Int):List Int:=bif Z11.md a1 0 (i64.wrap (a0.length - 1)) then BW a0.length a1.toNat a0 [] else []
def gd (a0:List Int)(a1:Int):Prop:=bf (2^38) (fun y:Int=>True) a0
def R:=cL gd md
def aj {a0 a1}(h:gd a0 a1):R ((a0.map aQ),a1)=some ((md a0 a1).map aQ):=cK h
def aK:=CN [pL 3,pI] (oL 3) RT.dec R
def bn (a0)(a1)(hg:gd a0 a1):∃n,start (iter step n) (a0.map aQ) a1=ret ((md a0 a1).map aQ):=by
 have one:∀(i:Nat) (l c r:List Int) (n:Nat),bf (2^38) (fun y:Int=>True) l->i<2^40->c.length<2^40->(if l.length>1 then iter step n (Pt.p1 ((i / 2:Nat):Int) ((xS i l c).map aQ) ((Z29.up l).map aQ))=ret (r.map aQ) else c=r)->
   step (iter step n) (Pt.p0 (i:Int) (l.map aQ) (c.map aQ))=ret (r.map aQ)/\step (iter step n) (Pt.p1 (i:Int) (c.map aQ) (l.map aQ))=ret (r.map aQ):=by
  intro i l c r n hl hi hc h
  have hs:=Dq i hi
  have hd:=half i hi
  refine ⟨?_,?_⟩
  all_goals
   simp only [step,MM,List.length_map,ig,hs,hd,gm]
   by_cases h1:l.length>1
   ·rw [if_pos h1] at h
    rw [decide_eq_true (show (l.length:Int)>1 by omega),aO]
    by_cases h2:xT i<l.length
    ·rw [xS,if_pos h2,List.map_append] at h
     rw [decide_eq_true (show ((xT i:Nat):Int)<(l.length:Int) by omega),aO,decide_eq_true (show (0:Int)<=((xT i:Nat):Int) by omega),aO,aO,fQ (by omega),aO]
     exact cG _ (Z29.aj hl) h
    ·rw [xS,if_neg h2] at h
     rw [decide_eq_false (show ¬((xT i:Nat):Int)<(l.length:Int) by omega),aU]
     exact cG _ (Z29.aj hl) h
   ·rw [if_neg h1] at h
    rw [decide_eq_false (show ¬(l.length:Int)>1 by omega),aU,h]
 have key:∀(k i:Nat) (l c:List Int),bf (2^38) (fun y:Int=>True) l->l.length<=k->i<2^40->c.length+k<2^40->
   ∃n,step (iter step n) (Pt.p0 (i:Int) (l.map aQ) (c.map aQ))=ret ((BW k i l c).map aQ)/\step (iter step n) (Pt.p1 (i:Int) (c.map aQ) (l.map aQ))=ret ((BW k i l c).map aQ):=by
  intro k
  induction k with
  | zero=>intro i l c hl hk hi hc;exact ⟨0,one i l c _ 0 hl hi (by omega) (by rw [if_neg (by omega)];rfl)⟩
  | succ k ih=>
   intro i l c hl hk hi hc
   unfold BW
   by_cases h1:l.length>1
   ·have hu:=Z29.lB l
    have hl1:=hl.1
    have h2:(xS i l c).length<=c.length+1:=by unfold xS;split<;>simp
    obtain ⟨n,_,hn⟩:=ih (i / 2) (Z29.up l) (xS i l c) ⟨by omega,fun _ _=>trivial⟩ (by omega) (by omega) (by omega)
    rw [if_pos h1]
    exact ⟨n+1,one i l c _ (n+1) hl hi (by omega) (by rw [if_pos h1];exact hn)⟩
   ·rw [if_neg h1]
    exact ⟨0,one i l c _ 0 hl hi (by omega) (by rw [if_neg h1])⟩
 unfold start md
 simp only [List.length_map]
 have hlen:=hg.1
 cases h:Z11.md a1 0 (i64.wrap ((a0.length:Int) - 1))
 ·exact ⟨0,cG false (by rw [<-h];exact Z11.aj trivial) rfl⟩
 ·have hh:=h
  rw [wi _ (by omega)] at hh
  simp [Z11.md] at hh
  obtain ⟨i,rfl⟩:=Int.eq_ofNat_of_zero_le hh.1
  obtain ⟨n,hn,_⟩:=key a0.length i a0 [] hg (Nat.le_refl _) (by omega) (by simp only [List.length_nil];omega)
  exact ⟨n+1,cG true (by rw [<-h];exact Z11.aj trivial) hn⟩
def af:bZ 305 aK:=L2 42 (fun _=>5) cF dN live step start mix aA bn (eS Z11.af Z29.af) Tryz.func305
def len (a0:List Int)(a1:Int):(md a0 a1).length<=a0.length:=by
 unfold md
 cases Z11.md _ 0 _
 ·exact zero_le _
 ·exact le_trans (vB _ _ _ _) (by simp)
end Z99
namespace Z100
def F (x0:an)(x1:az):aC:=(call (Z98.R (x0,x1)) fun v1=>(cond (v1<0) (ret (((⟨0,[]⟩),false):eB×Bool)) (call (Z27.R x0) fun v2=>(call (Z99.R (v2,v1)) fun v3=>ret (((⟨v1,v3⟩),true):eB×Bool)))))
def md (a0:List ah)(a1:az):aV×Bool:=(cond ((Z98.md a0 a1)<0) ((⟨0,[]⟩),false) ((⟨(Z98.md a0 a1),(Z99.md (Z27.md a0) (Z98.md a0 a1))⟩),true))
def gd (a0:List ah)(a1:az):Prop:=(bf (2^21) (fun y:ah=>ah.Sm (2^21) y) a0)
def R:=cL gd md
def aj {a0 a1}(h:gd a0 a1):R ((a0.map ah.row),a1)=some ((aV.r (md a0 a1).1),(md a0 a1).2):=cK h
def aK:=CN [pL 62,pS] (.gS [(true,f64),(false,[fB])]) RT.dec R
def bn (a0)(a1)(H0:gd a0 a1):F (a0.map ah.row) a1=ret ((aV.r (md a0 a1).1),(md a0 a1).2):=by
 refine ct (Z98.aj H0) (bP (fun b:aV×Bool=>ret (((aV.r b.1),b.2):eB×Bool)) (fun c1=>fz) (fun c1=>?_))
 refine ct (Z27.aj H0) (ct (Z99.aj ⟨(have:=Z27.len a0;have:=(H0).1;om),fun _ _=>trivial⟩) ?_)
 exact fz
def af:bZ 233 aK:=W2 19 F mix aA bn (jw Z98.af Z27.af Z99.af) Tryz.func233
def fc {a0:List ah}{a1:az}(hg:gd a0 a1):aV.Sm (2^21) ((md a0 a1).1):=by
 unfold gd at hg;unfold md
 cases decide (Z98.md a0 a1<0)
 ·refine ⟨?_,fun _ _=>trivial⟩
  have h:=Z99.len (Z27.md a0) (Z98.md a0 a1)
  rw [Z27.len] at h
  exact le_trans h hg.1
 ·exact bf.nil
end Z100
namespace Z101
inductive Pt where
 | p0 (a:an) (b:az) (c d:Int)
def cF:Pt->List V
 | .p0 a b c d=>[.sl none 62 a,.str b,.int .i64 c,.int .i64 d]
def step (J:Pt->aC):Pt->aC
 | .p0 a b c d=>(cond (d<(a.length:Int)) (m2 d (a.length:Int) (call (Z8.R ((bp.at a (toNat d)).aZ,b)) fun v1=>(cond (v1<0) (J (.p0 a b (i64.wrap (c+1)) (i64.wrap (d+1)))) (J (.p0 a b c (i64.wrap (d+1))))))) (ret (c:Int)))
def start (J:Pt->aC)(x0:an)(x1:az):aC:=J (.p0 x0 x1 0 0)
def live:Nat->Live:=gx [(3,iR [0,1,5,6])]
def md (a0:List ah)(a1:az):Int:=(dQ (S:=Int) (β:=Int) (fun y1 s3=>(cond ((Z8.md (y1.aZ) a1)<0) (.inl (i64.wrap (s3+1))) (.inl s3))) (fun s3=>s3) a0 0)
def gd (a0:List ah)(a1:az):Prop:=(bf (2^21) (fun y:ah=>ah.Sm (2^21) y) a0)
def R:=cL gd md
def aj {a0 a1}(h:gd a0 a1):R ((a0.map ah.row),a1)=some (md a0 a1):=cK h
def aK:=CN [pL 62,pS] oI RT.dec R
def bn (a0)(a1)(H0:gd a0 a1):∃n,start (iter step n) (a0.map ah.row) a1=ret (md a0 a1):=by
 have Bh2:=bl H0
 refine ex_eq (dV (z:=ah.zero)) (dc fz ?_)
 refine bH (pt:=fun (i1:Nat) (s3:Int)=>Pt.p0 (a0.map ah.row) a1 s3 (i1:Int)) (fun _ _=>True) (fun J i1 s3 h2 hih2=>?_) (fun s3 hih2=>?_) trivial
 ·simp only [step,SS]
  refine aP.yes dt (aP.yes bu ?_)
  refine aP.yes (bK h2) (cr (Z8.aj trivial) ?_)
  refine aP.bif (fun c4=>?_) (fun c4=>?_)
  ·refine aP.inl trivial ?_
   rw [aF h2 Bh2]
  ·refine aP.inl trivial ?_
   rw [aF h2 Bh2]
 ·simp only [step,SS]
  refine cH dn (⟨0,?_⟩)
  exact fz
def af:bZ 308 aK:=L2 24 (fun _=>3) cF (fun _=>[]) live step start mix aA bn (cM Z8.af) Tryz.func308
def fa (a0:List ah)(a1:az):a0.length<=2^21->0<=md a0 a1/\md a0 a1<=(a0.length:Int):=fun hl=>by
 have key:∀(xs:List ah) (s:Int),0<=s->s+xs.length<=2^22->0<=dQ (S:=Int) (β:=Int) (fun (y1:ah) (s3:Int)=>(cond ((Z8.md (y1.aZ) a1)<0) (.inl (i64.wrap (s3+1))) (.inl s3))) (fun (s3:Int)=>(s3:Int)) xs s/\dQ (S:=Int) (β:=Int) (fun (y1:ah) (s3:Int)=>(cond ((Z8.md (y1.aZ) a1)<0) (.inl (i64.wrap (s3+1))) (.inl s3))) (fun (s3:Int)=>(s3:Int)) xs s<=s+xs.length:=by
  intro xs
  induction xs with
  | nil=>intro s h0 h1;exact ⟨h0,by simp [dQ]⟩
  | cons x xs ih=>
   intro s h0 h1
   simp only [List.length_cons] at h1 ⊢
   unfold dQ
   cases decide (Z8.md x.aZ a1<0)
   ·have:=ih s h0 (by omega)
    simp only [aU]
    omega
   ·have:=ih (s+1) (by omega) (by omega)
    simp only [aO]
    rw [wi _ (by omega)]
    omega
 have:=key a0 0 (Int.le_refl _) (by omega)
 unfold md
 omega
end Z101
namespace Z102
def F (x0:an)(x1:az):aC:=(call (Z15.R x0) fun v1=>(cond (!v1) (ret (((⟨0,(⟨(⟨#[]⟩:az),0,0,[]⟩),(⟨(⟨#[]⟩:az),0,0,[]⟩),(⟨0,[]⟩),(⟨0,[]⟩)⟩),false):fG×Bool)) (call (Z12.R x1) fun v2=>(cond (!v2) (ret (((⟨0,(⟨(⟨#[]⟩:az),0,0,[]⟩),(⟨(⟨#[]⟩:az),0,0,[]⟩),(⟨0,[]⟩),(⟨0,[]⟩)⟩),false):fG×Bool)) (call (Z98.R (x0,x1)) fun v3=>(cond (v3>=0) (ret (((⟨0,(⟨(⟨#[]⟩:az),0,0,[]⟩),(⟨(⟨#[]⟩:az),0,0,[]⟩),(⟨0,[]⟩),(⟨0,[]⟩)⟩),false):fG×Bool)) (call (Z101.R (x0,x1)) fun v4=>(cond (v4>0) (ck ((0:Int)<=(i64.wrap (v4 - 1))) (ck ((i64.wrap (v4 - 1))<x0.length) (call (Z10.R (bp.at x0 (toNat (i64.wrap (v4 - 1))))) fun v5=>(ck ((0:Int)<=(i64.wrap (v4 - 1))) (ck ((i64.wrap (v4 - 1))<x0.length) (call (Z100.R (x0,(bp.at x0 (toNat (i64.wrap (v4 - 1)))).aZ)) fun v6=>(cond (v4<x0.length) (m2 v4 x0.length (call (Z10.R (bp.at x0 (toNat v4))) fun v7=>(m2 v4 x0.length (call (Z100.R (x0,(bp.at x0 (toNat v4)).aZ)) fun v8=>ret (((⟨v4,v5,v7,v6.1,v8.1⟩),true):fG×Bool))))) (ret (((⟨v4,v5,(⟨(⟨#[]⟩:az),0,0,[]⟩),v6.1,(⟨0,[]⟩)⟩),true):fG×Bool))))))))) (cond (v4<x0.length) (m2 v4 x0.length (call (Z10.R (bp.at x0 (toNat v4))) fun v9=>(m2 v4 x0.length (call (Z100.R (x0,(bp.at x0 (toNat v4)).aZ)) fun v10=>ret (((⟨v4,(⟨(⟨#[]⟩:az),0,0,[]⟩),v9,(⟨0,[]⟩),v10.1⟩),true):fG×Bool))))) (ret (((⟨v4,(⟨(⟨#[]⟩:az),0,0,[]⟩),(⟨(⟨#[]⟩:az),0,0,[]⟩),(⟨0,[]⟩),(⟨0,[]⟩)⟩),true):fG×Bool)))))))))))
def md (a0:List ah)(a1:az):bQ×Bool:=(cond (!(Z15.md a0)) ((⟨0,(⟨((⟨#[]⟩:az)),0,0,[]⟩),(⟨((⟨#[]⟩:az)),0,0,[]⟩),(⟨0,[]⟩),(⟨0,[]⟩)⟩),false) (cond (!(Z12.md a1)) ((⟨0,(⟨((⟨#[]⟩:az)),0,0,[]⟩),(⟨((⟨#[]⟩:az)),0,0,[]⟩),(⟨0,[]⟩),(⟨0,[]⟩)⟩),false) (cond ((Z98.md a0 a1)>=0) ((⟨0,(⟨((⟨#[]⟩:az)),0,0,[]⟩),(⟨((⟨#[]⟩:az)),0,0,[]⟩),(⟨0,[]⟩),(⟨0,[]⟩)⟩),false) (cond ((Z101.md a0 a1)>0) (cond ((Z101.md a0 a1)<a0.length) ((⟨(Z101.md a0 a1),(a0.getD (toNat (i64.wrap ((Z101.md a0 a1) - 1))) ah.zero),(a0.getD (toNat (Z101.md a0 a1)) ah.zero),(Z100.md a0 ((a0.getD (toNat (i64.wrap ((Z101.md a0 a1) - 1))) ah.zero).aZ)).1,(Z100.md a0 ((a0.getD (toNat (Z101.md a0 a1)) ah.zero).aZ)).1⟩),true) ((⟨(Z101.md a0 a1),(a0.getD (toNat (i64.wrap ((Z101.md a0 a1) - 1))) ah.zero),(⟨((⟨#[]⟩:az)),0,0,[]⟩),(Z100.md a0 ((a0.getD (toNat (i64.wrap ((Z101.md a0 a1) - 1))) ah.zero).aZ)).1,(⟨0,[]⟩)⟩),true)) (cond ((Z101.md a0 a1)<a0.length) ((⟨(Z101.md a0 a1),(⟨((⟨#[]⟩:az)),0,0,[]⟩),(a0.getD (toNat (Z101.md a0 a1)) ah.zero),(⟨0,[]⟩),(Z100.md a0 ((a0.getD (toNat (Z101.md a0 a1)) ah.zero).aZ)).1⟩),true) ((⟨(Z101.md a0 a1),(⟨((⟨#[]⟩:az)),0,0,[]⟩),(⟨((⟨#[]⟩:az)),0,0,[]⟩),(⟨0,[]⟩),(⟨0,[]⟩)⟩),true))))))
def gd (a0:List ah)(a1:az):Prop:=(bf (2^21) (fun y:ah=>ah.Sm (2^21) y) a0)/\(a1.size<=(2^21))
def R:=cL gd md
def aj {a0 a1}(h:gd a0 a1):R ((a0.map ah.row),a1)=some ((bQ.r (md a0 a1).1),(md a0 a1).2):=cK h
def aK:=CN [pL 62,pS] (.gS [(true,f66),(false,[fB])]) RT.dec R
def bn (a0)(a1)(hg:gd a0 a1):F (a0.map ah.row) a1=ret ((bQ.r (md a0 a1).1),(md a0 a1).2):=by
 obtain ⟨H0,H1⟩:=hg
 unfold F md
 simp only [SS]
 refine ct (Z15.aj H0) (bP (fun b:bQ×Bool=>ret (((bQ.r b.1),b.2):fG×Bool)) (fun c1=>fz) (fun c1=>?_))
 refine ct (Z12.aj (le_trans H1 (by decide))) (bP (fun b:bQ×Bool=>ret (((bQ.r b.1),b.2):fG×Bool)) (fun c2=>fz) (fun c2=>?_))
 refine ct (Z98.aj H0) (bP (fun b:bQ×Bool=>ret (((bQ.r b.1),b.2):fG×Bool)) (fun c3=>fz) (fun c3=>?_))
 refine ct (Z101.aj H0) ?_
 have fv4_:=Z101.fa a0 a1
 refine bP (fun b:bQ×Bool=>ret (((bQ.r b.1),b.2):fG×Bool)) (fun c4=>?_) (fun c4=>?_)
 ·have dc4:=c4
  simp only [DC] at dc4
  refine aG (have:=(H0).1;dt) (aG (have:=(H0).1;have:=(H0).1;dt) ?_)
  refine ct (Z10.aj (bf.getD H0 (by have:=(H0).1;first | assumption | omega | (simp (disch:=omega) only [wi];omega) | (simp;omega)))) (aG (have:=(H0).1;dt) ?_)
  refine aG (have:=(H0).1;have:=(H0).1;dt) (ct (Z100.aj H0) ?_)
  refine bP (fun b:bQ×Bool=>ret (((bQ.r b.1),b.2):fG×Bool)) (fun c5=>?_) (fun c5=>fz)
  have dc5:=c5
  simp only [DC] at dc5
  refine aG dt (aG (have:=(H0).1;have:=(H0).1;dt) ?_)
  refine ct (Z10.aj (bf.getD H0 (by have:=(H0).1;first | assumption | omega | (simp (disch:=omega) only [wi];omega) | (simp;omega)))) (aG dt ?_)
  refine aG (have:=(H0).1;have:=(H0).1;dt) (ct (Z100.aj H0) ?_)
  exact fz
 ·refine bP (fun b:bQ×Bool=>ret (((bQ.r b.1),b.2):fG×Bool)) (fun c6=>?_) (fun c6=>fz)
  have dc6:=c6
  simp only [DC] at dc6
  refine aG (have:=(H0).1;dt) (aG (have:=(H0).1;have:=(H0).1;dt) ?_)
  refine ct (Z10.aj (bf.getD H0 (by have:=(H0).1;first | assumption | omega | (simp (disch:=omega) only [wi];omega) | (simp;omega)))) (aG (have:=(H0).1;dt) ?_)
  refine aG (have:=(H0).1;have:=(H0).1;dt) (ct (Z100.aj H0) ?_)
  exact fz
def af:bZ 234 aK:=W2 71 F mix aA bn (vp Z15.af Z12.af Z98.af Z101.af Z10.af Z100.af) Tryz.func234
def fc {a0:List ah}{a1:az}(hg:gd a0 a1):bQ.Sm (2^21) ((md a0 a1).1):=by
 unfold gd at hg;unfold md
 have ez:ah.Sm (2^21) ⟨⟨#[]⟩,0,0,[]⟩:=⟨zero_le _,bf.nil⟩
 have pz:aV.Sm (2^21) ⟨0,[]⟩:=bf.nil
 have he:∀i,ah.Sm (2^21) (a0.getD i ah.zero):=fun i=>bf.yO hg.1 ez
 have hp:∀x,aV.Sm (2^21) (Z100.md a0 x).1:=fun x=>Z100.fc hg.1
 simp only [Bool.cond_eq_ite]
 repeat' split
 all_goals (refine ⟨?_,?_,?_,?_⟩<;>first | exact he _ | exact hp _ | exact ez | exact pz)
end Z102
namespace Z103
def F (x0:bT)(x1:az):aC:=(call (Z63.R x0) fun v1=>(cond (!v1) (ret ((⟨[],false,(⟨(⟨#[]⟩:az),0,0,[]⟩),(⟨0,[]⟩),(⟨0,(⟨(⟨#[]⟩:az),0,0,[]⟩),(⟨(⟨#[]⟩:az),0,0,[]⟩),(⟨0,[]⟩),(⟨0,[]⟩)⟩)⟩):bt)) (call (Z12.R x1) fun v2=>(cond (!v2) (ret ((⟨[],false,(⟨(⟨#[]⟩:az),0,0,[]⟩),(⟨0,[]⟩),(⟨0,(⟨(⟨#[]⟩:az),0,0,[]⟩),(⟨(⟨#[]⟩:az),0,0,[]⟩),(⟨0,[]⟩),(⟨0,[]⟩)⟩)⟩):bt)) (call (Z72.R x0.aD) fun v3=>(call (Z98.R (x0.bI,x1)) fun v4=>(cond (v4>=0) (m2 v4 x0.bI.length (call (Z10.R (bp.at x0.bI (toNat v4))) fun v5=>(call (Z100.R (x0.bI,x1)) fun v6=>ret ((⟨v3,true,v5,v6.1,(⟨0,(⟨(⟨#[]⟩:az),0,0,[]⟩),(⟨(⟨#[]⟩:az),0,0,[]⟩),(⟨0,[]⟩),(⟨0,[]⟩)⟩)⟩):bt)))) (call (Z102.R (x0.bI,x1)) fun v7=>ret ((⟨v3,false,(⟨(⟨#[]⟩:az),0,0,[]⟩),(⟨0,[]⟩),v7.1⟩):bt)))))))))
def md (a0:aI)(a1:az):aB:=(cond (!(Z63.md a0)) (⟨[],false,(⟨((⟨#[]⟩:az)),0,0,[]⟩),(⟨0,[]⟩),(⟨0,(⟨((⟨#[]⟩:az)),0,0,[]⟩),(⟨((⟨#[]⟩:az)),0,0,[]⟩),(⟨0,[]⟩),(⟨0,[]⟩)⟩)⟩) (cond (!(Z12.md a1)) (⟨[],false,(⟨((⟨#[]⟩:az)),0,0,[]⟩),(⟨0,[]⟩),(⟨0,(⟨((⟨#[]⟩:az)),0,0,[]⟩),(⟨((⟨#[]⟩:az)),0,0,[]⟩),(⟨0,[]⟩),(⟨0,[]⟩)⟩)⟩) (cond ((Z98.md a0.bI a1)>=0) (⟨a0.aD,true,(a0.bI.getD (toNat (Z98.md a0.bI a1)) ah.zero),(Z100.md a0.bI a1).1,(⟨0,(⟨((⟨#[]⟩:az)),0,0,[]⟩),(⟨((⟨#[]⟩:az)),0,0,[]⟩),(⟨0,[]⟩),(⟨0,[]⟩)⟩)⟩) (⟨a0.aD,false,(⟨((⟨#[]⟩:az)),0,0,[]⟩),(⟨0,[]⟩),(Z102.md a0.bI a1).1⟩))))
def gd (a0:aI)(a1:az):Prop:=(aI.Sm (2^21) a0)/\(a1.size<=(2^21))
def R:=cL gd md
def aj {a0 a1}(h:gd a0 a1):R ((aI.r a0),a1)=some (aB.r (md a0 a1)):=cK h
def aK:=CN [.agg sj,pS] (.agg f68) RT.dec R
def bn (a0)(a1)(hg:gd a0 a1):F (aI.r a0) a1=ret (aB.r (md a0 a1)):=by
 obtain ⟨H0,H1⟩:=hg
 refine ct (Z63.aj H0) (bo (fun c1=>fz) (fun c1=>?_))
 refine ct (Z12.aj (le_trans H1 (by decide))) (bo (fun c2=>fz) (fun c2=>?_))
 refine ct (Z72.aj H0.1) ?_
 simp only [SS]
 refine ct (Z98.aj H0.2) ?_
 have fv4_:=Z98.fa a0.bI a1
 refine bo (fun c3=>?_) (fun c3=>ct (Z102.aj ⟨H0.2,H1⟩) fz)
 have dc3:=c3
 simp only [DC] at dc3
 refine aG dt (aG (have:=(H0.2).1;dt) ?_)
 refine ct (Z10.aj (bf.getD H0.2 (by omega))) (ct (Z100.aj H0.2) ?_)
 exact fz
def af:bZ 141 aK:=W2 52 F mix aA bn (Ad Z63.af Z12.af Z72.af Z98.af Z10.af Z100.af Z102.af) Tryz.func141
def fc {a0:aI}{a1:az}(hg:gd a0 a1):aB.Sm (2^21) (md a0 a1):=by
 unfold gd at hg;unfold md
 obtain ⟨⟨hc,hl⟩,_⟩:=hg
 have ez:ah.Sm (2^21) ⟨⟨#[]⟩,0,0,[]⟩:=⟨zero_le _,bf.nil⟩
 have pz:aV.Sm (2^21) ⟨0,[]⟩:=bf.nil
 have gz:bQ.Sm (2^21) ⟨0,⟨⟨#[]⟩,0,0,[]⟩,⟨⟨#[]⟩,0,0,[]⟩,⟨0,[]⟩,⟨0,[]⟩⟩:=⟨ez,ez,pz,pz⟩
 have he:∀i,ah.Sm (2^21) (a0.bI.getD i ah.zero):=fun i=>bf.yO hl ez
 have hp:∀x,aV.Sm (2^21) (Z100.md a0.bI x).1:=fun x=>Z100.fc hl
 have hga:bQ.Sm (2^21) (Z102.md a0.bI a1).1:=Z102.fc ⟨hl,by assumption⟩
 simp only [Bool.cond_eq_ite]
 repeat' split
 all_goals (refine ⟨?_,?_,?_,?_⟩<;>first | exact hc | exact bf.nil | exact he _ | exact hp _ | exact hga | exact ez | exact pz | exact gz)
end Z103
namespace Z104
def F (x0:bV)(x1:Int)(x2:az):aC:=(call (Z82.R (x0,x1)) fun v1=>(cond (v1<0) (ret ((⟨[],false,(⟨(⟨#[]⟩:az),0,0,[]⟩),(⟨0,[]⟩),(⟨0,(⟨(⟨#[]⟩:az),0,0,[]⟩),(⟨(⟨#[]⟩:az),0,0,[]⟩),(⟨0,[]⟩),(⟨0,[]⟩)⟩)⟩):bt)) (cond (x0.gF==4) (ret ((⟨[],false,(⟨(⟨#[]⟩:az),0,0,[]⟩),(⟨0,[]⟩),(⟨0,(⟨(⟨#[]⟩:az),0,0,[]⟩),(⟨(⟨#[]⟩:az),0,0,[]⟩),(⟨0,[]⟩),(⟨0,[]⟩)⟩)⟩):bt)) (m2 v1 x0.bw.length (call (Z103.R ((bT.at x0.bw (toNat v1)),x2)) fun v2=>(cond (x0.gF==1) (ret ((⟨v2.aD,v2.bO,(⟨v2.aR.aZ,v2.aR.bE,(i64.wrap (v2.aR.bY+1)),v2.aR.bD⟩),v2.eN,v2.fC⟩):bt)) (cond (x0.gF==2) (cond ((v2.aD.length:Int)>0) (ck ((0:Int)<=(i64.wrap (v2.aD.length - 1))) (ck ((i64.wrap (v2.aD.length - 1))<=v2.aD.length) (ret ((⟨(List.take (toNat (i64.wrap (v2.aD.length - 1))) v2.aD),v2.bO,v2.aR,v2.eN,v2.fC⟩):bt)))) (ret v2)) (cond (x0.gF==3) (ret ((⟨v2.aD,false,(⟨(⟨#[]⟩:az),0,0,[]⟩),(⟨0,[]⟩),(⟨0,(⟨(⟨#[]⟩:az),0,0,[]⟩),(⟨(⟨#[]⟩:az),0,0,[]⟩),(⟨0,[]⟩),(⟨0,[]⟩)⟩)⟩):bt)) (ret v2)))))))))
def pats:List fE:=[.agg [.sl 188,aE],.rd (.int .i64),.rd (.str)]
def res:RP:=.agg [.fr 53,.rd (.bool),.rd (.str),.rd (.int .i64),.rd (.int .i64),.fr 9,.rd (.int .i64),.fr 3,.rd (.int .i64),.rd (.str),.rd (.int .i64),.rd (.int .i64),.fr 9,.rd (.str),.rd (.int .i64),.rd (.int .i64),.fr 9,.rd (.int .i64),.fr 3,.rd (.int .i64),.fr 3]
def md (a0:ay)(a1:Int)(a2:az):aB:=(cond ((Z82.md a0 a1)<0) (⟨[],false,(⟨((⟨#[]⟩:az)),0,0,[]⟩),(⟨0,[]⟩),(⟨0,(⟨((⟨#[]⟩:az)),0,0,[]⟩),(⟨((⟨#[]⟩:az)),0,0,[]⟩),(⟨0,[]⟩),(⟨0,[]⟩)⟩)⟩) (cond (a0.gF==4) (⟨[],false,(⟨((⟨#[]⟩:az)),0,0,[]⟩),(⟨0,[]⟩),(⟨0,(⟨((⟨#[]⟩:az)),0,0,[]⟩),(⟨((⟨#[]⟩:az)),0,0,[]⟩),(⟨0,[]⟩),(⟨0,[]⟩)⟩)⟩) (cond (a0.gF==1) (⟨(Z103.md (a0.bw.getD (toNat (Z82.md a0 a1)) aI.zero) a2).aD,(Z103.md (a0.bw.getD (toNat (Z82.md a0 a1)) aI.zero) a2).bO,(⟨(Z103.md (a0.bw.getD (toNat (Z82.md a0 a1)) aI.zero) a2).aR.aZ,(Z103.md (a0.bw.getD (toNat (Z82.md a0 a1)) aI.zero) a2).aR.bE,(i64.wrap ((Z103.md (a0.bw.getD (toNat (Z82.md a0 a1)) aI.zero) a2).aR.bY+1)),(Z103.md (a0.bw.getD (toNat (Z82.md a0 a1)) aI.zero) a2).aR.bD⟩),(Z103.md (a0.bw.getD (toNat (Z82.md a0 a1)) aI.zero) a2).eN,(Z103.md (a0.bw.getD (toNat (Z82.md a0 a1)) aI.zero) a2).fC⟩) (cond (a0.gF==2) (cond (((Z103.md (a0.bw.getD (toNat (Z82.md a0 a1)) aI.zero) a2).aD.length:Int)>0) (⟨(List.take (toNat (i64.wrap (((Z103.md (a0.bw.getD (toNat (Z82.md a0 a1)) aI.zero) a2).aD.length) - 1))) (Z103.md (a0.bw.getD (toNat (Z82.md a0 a1)) aI.zero) a2).aD),(Z103.md (a0.bw.getD (toNat (Z82.md a0 a1)) aI.zero) a2).bO,(Z103.md (a0.bw.getD (toNat (Z82.md a0 a1)) aI.zero) a2).aR,(Z103.md (a0.bw.getD (toNat (Z82.md a0 a1)) aI.zero) a2).eN,(Z103.md (a0.bw.getD (toNat (Z82.md a0 a1)) aI.zero) a2).fC⟩) (Z103.md (a0.bw.getD (toNat (Z82.md a0 a1)) aI.zero) a2)) (cond (a0.gF==3) (⟨(Z103.md (a0.bw.getD (toNat (Z82.md a0 a1)) aI.zero) a2).aD,false,(⟨((⟨#[]⟩:az)),0,0,[]⟩),(⟨0,[]⟩),(⟨0,(⟨((⟨#[]⟩:az)),0,0,[]⟩),(⟨((⟨#[]⟩:az)),0,0,[]⟩),(⟨0,[]⟩),(⟨0,[]⟩)⟩)⟩) (Z103.md (a0.bw.getD (toNat (Z82.md a0 a1)) aI.zero) a2))))))
def gd (a0:ay)(a1:Int)(a2:az):Prop:=(ay.Sm (2^21) a0)/\(a2.size<=(2^21))
def acc (ls:List L):bV×Int×az:=((bV.dec ls),(cI 2 ls),(rI 3 ls))
def R:(bV×Int×az)->Option bt:=lY gd md
def aj {a0 a1 a2}(h:gd a0 a1 a2):R ((ay.r a0),a1,a2)=some (aB.r (md a0 a1 a2)):=lV h
def aK:gu:=CN pats res acc R
def bn (a0:ay)(a1:Int)(a2:az)(hg:gd a0 a1 a2):F (ay.r a0) a1 a2=ret ((aB.r (md a0 a1 a2)):bt):=by
 obtain ⟨H0,H2⟩:=hg
 unfold F md
 simp only [SS]
 refine ct (Z82.aj H0) ?_
 have fv1_:=Z82.fa a0 a1
 refine bo (fun c1=>fz) (fun c1=>?_)
 have dc1:=c1
 simp only [DC] at dc1
 refine bo (fun c2=>fz) (fun c2=>?_)
 refine aG dt (aG (have:=(H0).1;have:=(H0).1;dt) ?_)
 refine ct (Z103.aj ⟨(bf.getD H0 (by have:=(H0).1;first | assumption | omega | (simp (disch:=omega) only [wi];omega) | (simp;omega))),H2⟩) ?_
 simp only [SS]
 refine bo (fun c3=>fz) (fun c3=>?_)
 refine bo (fun c4=>?_) (fun c4=>?_)
 ·refine bo (fun c5=>?_) (fun c5=>fz)
  have dc5:=c5
  simp only [DC] at dc5
  refine aG (have:=((Z103.fc (a0:=a0.bw.getD (toNat (Z82.md a0 a1)) aI.zero) ⟨(bf.getD H0 (by have:=(H0).1;first | assumption | omega | (simp (disch:=omega) only [wi];omega) | (simp;omega))),H2⟩).1).1;have:=(H0).1;dt) (aG (have:=((Z103.fc (a0:=a0.bw.getD (toNat (Z82.md a0 a1)) aI.zero) ⟨(bf.getD H0 (by have:=(H0).1;first | assumption | omega | (simp (disch:=omega) only [wi];omega) | (simp;omega))),H2⟩).1).1;have:=(H0).1;dt) ?_)
  exact fz
 ·exact bo (fun c6=>fz) (fun c6=>fz)
def af:bZ 259 aK:=VT (live:=fun _=>[]) (nt:=57) (run:=fun _ x=>F x.1 x.2.1 x.2.2) mix aA (eS Z82.af Z103.af) .nil Tryz.func259 (by kernel_rfl) (fun _ _=>by kernel_rfl) (fun _ a _ _ hg=>⟨0,bn a.1 a.2.1 a.2.2 hg⟩)
def fc {a0:ay}{a1:Int}{a2:az}(hg:gd a0 a1 a2):aB.Sm (2^21) (md a0 a1 a2):=by
 unfold gd at hg;unfold md
 obtain ⟨hs,hl⟩:=hg
 have ez:ah.Sm (2^21) ⟨⟨#[]⟩,0,0,[]⟩:=⟨zero_le _,bf.nil⟩
 have pz:aV.Sm (2^21) ⟨0,[]⟩:=bf.nil
 have gz:bQ.Sm (2^21) ⟨0,⟨⟨#[]⟩,0,0,[]⟩,⟨⟨#[]⟩,0,0,[]⟩,⟨0,[]⟩,⟨0,[]⟩⟩:=⟨ez,ez,pz,pz⟩
 have zz:aI.Sm (2^21) aI.zero:=⟨bf.nil,bf.nil⟩
 have ha:∀i,aB.Sm (2^21) (Z103.md (a0.bw.getD i aI.zero) a2):=fun i=>Z103.fc ⟨bf.yO hs zz,hl⟩
 have ht2:∀i n,bf (2^21) (fun y:aa=>aa.Sm (2^21) y) (List.take n (Z103.md (a0.bw.getD i aI.zero) a2).aD):=fun i n=>⟨le_trans (by simp;omega) (ha i).1.1,fun x hx=>(ha i).1.2 x (List.mem_of_mem_take hx)⟩
 simp only [Bool.cond_eq_ite]
 repeat' split
 all_goals first | exact ha _ | (refine ⟨?_,?_,?_,?_⟩<;>first | exact ht _ _ | exact ht2 _ _ | exact bf.nil | exact (ha _).1 | exact (ha _).2.1 | exact (ha _).2.2.1 | exact (ha _).2.2.2 | exact ez | exact pz | exact gz)
end Z104
namespace Z105
inductive Pt where
 | p0 (a:an) (b:Int) (c:az) (d:Int) (e:an)
def cF:Pt->List V
 | .p0 a b c d e=>[.sl none 280 a,.int .i64 b,.str c,.own 0,.int .i64 d]
def dN:Pt->List aL
 | .p0 a b c d e=>[.row 68 e]
def step (J:Pt->aC):Pt->aC
 | .p0 a b c d e=>(cond (d<(a.length:Int)) (cond (d<4) (m2 d (a.length:Int) (call (Z104.R ((bV.at a (toNat d)),b,c)) fun v1=>(ck (eG (((e.length:Int)+1)*304)) (J (.p0 a b c (i64.wrap (d+1)) (e++[(bt.enc v1)])))))) (ret (e:an))) (ret (e:an)))
def start (J:Pt->aC)(x0:an)(x1:Int)(x2:az):aC:=J (.p0 x0 x1 x2 0 [])
def live:Nat->Live:=gx [(3,[(0,none),(1,none),(2,none),(7,some 68),(8,none)])]
def md (a0:List ay)(a1:Int)(a2:az):List aB:=(dD (S:=List aB) (β:=List aB) (fun i1 y1 (s3:List aB)=>(cond ((i1:Int)<4) (.inl (s3++[(Z104.md y1 a1 a2)])) (.inr s3))) (fun (s3:List aB)=>s3) 0 a0 [])
def gd (a0:List ay)(a1:Int)(a2:az):Prop:=(bf (2^21) (fun y:ay=>ay.Sm (2^21) y) a0)/\(a2.size<=(2^21))
def R:=lY gd md
def aj {a0 a1 a2}(h:gd a0 a1 a2):R ((a0.map ay.row),a1,a2)=some ((md a0 a1 a2).map aB.row):=lV h
def aK:=CN [pL 280,pI,pS] (oL 68) RT.dec R
def bn (a0)(a1)(a2)(hg:gd a0 a1 a2):∃n,start (iter step n) (a0.map ay.row) a1 a2=ret ((md a0 a1 a2).map aB.row):=by
 obtain ⟨H0,H2⟩:=hg
 have Bh2:=bl H0
 refine ex_eq (out:=(fun b:List aB=>ret ((b.map aB.row):an))) (cC (z:=ay.zero)) (dc fz ?_)
 refine bH (pt:=fun (i1:Nat) (s3:List aB)=>Pt.p0 (a0.map ay.row) a1 a2 (i1:Int) (s3.map aB.row)) (s:=([]:List aB)) (out:=(fun b:List aB=>ret ((b.map aB.row):an))) (fun (i1:Nat) (s3:List aB)=>s3.length<=([]:List Int).length+1*i1) (fun J i1 s3 h2 hih2=>?_) (fun s3 hih2=>?_) (by simp)
 ·simp only [step,SS]
  have gr_:=hih2
  simp only [LN] at gr_
  refine aP.yes dt (aP.bif (fun c4=>?_) (fun c4=>aP.inr fz))
  have dc4:=c4
  simp only [DC] at dc4
  refine aP.yes bu (aP.yes (bK h2) ?_)
  refine cr (Z104.aj ⟨(bf.getD H0 h2),H2⟩) (aP.yes lm ?_)
  refine aP.inl (by
    (simp;omega)) ?_
  rw [aF h2 Bh2]
  exact fz
 ·simp only [step,SS]
  refine cH dn (⟨0,?_⟩)
  exact fz
def af:bZ 164 aK:=L3 31 (fun _=>3) cF dN live step start mix aA bn (cM Z104.af) Tryz.func164
def yY (a0:List ay)(a1:Int)(a2:az):md a0 a1 a2=(a0.take 4).map (fun y=>Z104.md y a1 a2):=by
 have key:∀(xs:List ay) (i:Nat) (s:List aB),i<=4->dD (fun (i1:Nat) (y1:ay) (s3:List aB)=>(cond ((i1:Int)<4) (.inl (s3++[(Z104.md y1 a1 a2)])) (.inr s3))) (fun (s3:List aB)=>s3) i xs s=s++(xs.take (4 - i)).map (fun y=>Z104.md y a1 a2):=by
  intro xs
  induction xs with
  | nil=>intro i s _;simp [dD]
  | cons x xs ih=>
   intro i s hi
   unfold dD
   by_cases h:i<4
   ·rw [decide_eq_true (by omega)]
    simp only [aO]
    rw [ih (i+1) _ (by omega),show 4 - i=(4 - (i+1))+1 by omega]
    simp
   ·rw [decide_eq_false (by omega),show 4 - i=0 by omega]
    simp
 exact (key a0 0 [] (by omega)).trans (by simp)
def fc {a0:List ay}{a1:Int}{a2:az}(hg:gd a0 a1 a2):bf (2^21) (fun y:aB=>aB.Sm (2^21) y) (md a0 a1 a2):=by
 rw [yY]
 exact (bf.take hg.1).map fun x hx=>Z104.fc ⟨hx,hg.2⟩
end Z105
namespace Z106
def F (x0:bL)(x1:Int):aC:=(call (Z11.R (x1,x0.cg,x0.cq)) fun v1=>ret v1)
def md (a0:au)(a1:Int):Bool:=((Z11.md a1 a0.cg a0.cq))
def gd (a0:au)(a1:Int):Prop:=True
def R:=cL gd md
def aj {a0 a1}(h:gd a0 a1):R ((au.r a0),a1)=some (md a0 a1):=cK h
def aK:=CN [.agg lC,pI] oB RT.dec R
def bn (a0)(a1)(hg:gd a0 a1):F (au.r a0) a1=ret (md a0 a1):=ct (Z11.aj trivial) fz
def af:bZ 155 aK:=W2 11 F mix aA bn (cM Z11.af) Tryz.func155
end Z106
namespace Z107
inductive Pt where
 | p0 (a b c:Int) (d:an) (e:Int)
def cF:Pt->List V
 | .p0 a b c d e=>[.int .i64 a,.int .i64 b,.int .i64 c,.sl none 3 d,.int .i64 e]
def step (J:Pt->aC):Pt->aC
 | .p0 a b c d e=>(cond (c>1) (cond ((Int.tmod b 2)==1) (cond (e>=(d.length:Int)) (ret ((0,false):Int×Bool)) (cond ((Int.tmod b 2)==1) (m2 e (d.length:Int) (call (Z28.R ((gR d (toNat e)),a)) fun v1=>J (.p0 v1 (i64.wrap (Int.tdiv b 2)) (i64.wrap (Int.tdiv (i64.wrap (c+1)) 2)) d (i64.wrap (e+1))))) (m2 e (d.length:Int) (call (Z28.R (a,(gR d (toNat e)))) fun v2=>J (.p0 v2 (i64.wrap (Int.tdiv b 2)) (i64.wrap (Int.tdiv (i64.wrap (c+1)) 2)) d (i64.wrap (e+1))))))) (cond ((i64.wrap (b+1))<c) (cond (e>=(d.length:Int)) (ret ((0,false):Int×Bool)) (cond ((Int.tmod b 2)==1) (m2 e (d.length:Int) (call (Z28.R ((gR d (toNat e)),a)) fun v3=>J (.p0 v3 (i64.wrap (Int.tdiv b 2)) (i64.wrap (Int.tdiv (i64.wrap (c+1)) 2)) d (i64.wrap (e+1))))) (m2 e (d.length:Int) (call (Z28.R (a,(gR d (toNat e)))) fun v4=>J (.p0 v4 (i64.wrap (Int.tdiv b 2)) (i64.wrap (Int.tdiv (i64.wrap (c+1)) 2)) d (i64.wrap (e+1))))))) (J (.p0 a (i64.wrap (Int.tdiv b 2)) (i64.wrap (Int.tdiv (i64.wrap (c+1)) 2)) d e)))) (cond (e != (d.length:Int)) (ret ((0,false):Int×Bool)) (ret ((a,true):Int×Bool))))
def start (J:Pt->aC)(x0 x1 x2:Int)(x3:an):aC:=(call (Z11.R (x2,1,12)) fun v1=>(cond (!v1) (ret ((0,false):Int×Bool)) (call (Z11.R (x1,0,(i64.wrap (x2 - 1)))) fun v2=>(cond (!v2) (ret ((0,false):Int×Bool)) (J (.p0 x0 x1 x2 x3 0))))))
def live:Nat->Live:=gx [(4,iR [0,1,2,3,10])]
def tf:Nat->Int->Int->Int->List Int->Int×Bool
 | 0,_,_,_,_=>(0,false)
 | k+1,leaf,i,n,path=>
  if n>1 then
   if i % 2=1∨i+1<n then
    match path with
    | []=>(0,false)
    | p::ps=>tf k (if i % 2=1 then Z28.md p leaf else Z28.md leaf p) (i / 2) ((n+1) / 2) ps
   else tf k leaf (i / 2) ((n+1) / 2) path
  else if path.isEmpty then (leaf,true) else (0,false)
def md (a0 a1 a2:Int)(a3:List Int):Int×Bool:=(cond (!(Z11.md a2 1 12)) (0,false) (bif !(Z11.md a1 0 (i64.wrap (a2 - 1))) then (0,false) else tf 5 a0 a1 a2 a3))
def gd (a0 a1 a2:Int)(a3:List Int):Prop:=bf (2^38) (fun y:Int=>True) a3
def R:=tI gd md
def aj {a0 a1 a2 a3}(h:gd a0 a1 a2 a3):R (a0,a1,a2,(a3.map aQ))=some ((md a0 a1 a2 a3).1,(md a0 a1 a2 a3).2):=sH h
def aK:=CN [pI,pI,pI,pL 3] (.gS [(false,[fI]),(false,[fB])]) RT.dec R
def bn (a0)(a1)(a2)(a3)(hg:gd a0 a1 a2 a3):∃n,start (iter step n) a0 a1 a2 (a3.map aQ)=ret ((md a0 a1 a2 a3).1,(md a0 a1 a2 a3).2):=by
 have tm:∀b:Int,0<=b->b<=11->Int.tmod b 2=b % 2:=fun b h1 h2=>Int.tmod_eq_emod_of_nonneg h1
 have td:∀b:Int,0<=b->b<=13->i64.wrap (Int.tdiv b 2)=b / 2:=fun b h1 h2=>by
  rw [Int.tdiv_eq_ediv_of_nonneg h1,Go.IntWalk.i64_in _ (by omega)]
 have t1:∀b:Int,0<=b->b<=13->i64.wrap (b+1)=b+1:=fun b h1 h2=>Go.IntWalk.i64_in _ (by omega)
 obtain ⟨H3,_⟩:=hg
 have key:∀(k:Nat) (leaf i n:Int) (u:Nat),0<=i->i<n->n<=12->n<=2^k->u<=a3.length->∃m,iter step m (Pt.p0 leaf i n (a3.map aQ) (u:Int))=ret ((tf (k+1) leaf i n (a3.drop u)).1,(tf (k+1) leaf i n (a3.drop u)).2):=by
  intro k
  induction k with
  | zero=>
   intro leaf i n u h1 h2 h3 h4 h5
   refine ⟨1,?_⟩
   show step (iter step 0) (Pt.p0 _ _ _ _ _)=_
   have hn:n=1:=by omega
   subst hn
   simp only [step,List.length_map]
   refine dZ (by decide) ?_
   unfold tf
   rw [if_neg (by omega)]
   by_cases hu:u=a3.length
   ·rw [List.drop_eq_nil_of_le (by omega),show ((u:Int) != (a3.length:Int))=false from bne_eq_false_iff_eq.2 (by omega)];rfl
   ·have hne:(a3.drop u).isEmpty=false:=by
     rw [List.drop_eq_getElem_cons (by omega)];rfl
    rw [hne,show ((u:Int) != (a3.length:Int))=true from bne_iff_ne.2 (by omega)];rfl
  | succ k ih=>
   intro leaf i n u h1 h2 h3 h4 h5
   unfold tf
   by_cases hn:n>1
   ·have e1:=tm i h1 (by omega)
    have e2:=td i h1 (by omega)
    have e3:=t1 n (by omega) (by omega)
    have e4:=td (n+1) (by omega) (by omega)
    have e5:=t1 i h1 (by omega)
    rw [if_pos hn]
    by_cases hc:i % 2=1∨i+1<n
    ·rw [if_pos hc]
     by_cases hu:u=a3.length
     ·refine ⟨1,?_⟩
      show step (iter step 0) (Pt.p0 _ _ _ _ _)=_
      rw [List.drop_eq_nil_of_le (by omega)]
      simp only [step,List.length_map,e1,e5]
      refine aG (decide_eq_true (by omega)) ?_
      by_cases hm:i % 2=1
      ·rw [hm]
       exact aG rfl (aG (decide_eq_true (by omega)) rfl)
      ·refine dZ (beq_eq_false_iff_ne.2 hm) (aG (decide_eq_true (by omega)) (aG (decide_eq_true (by omega)) rfl))
     ·have hlt:u<a3.length:=by omega
      rw [List.drop_eq_getElem_cons hlt]
      obtain ⟨m,hm⟩:=ih (if i % 2=1 then Z28.md a3[u] leaf else Z28.md leaf a3[u]) (i / 2) ((n+1) / 2) (u+1) (by omega) (by omega) (by omega) (by omega) (by omega)
      refine ⟨m+1,?_⟩
      show step (iter step m) (Pt.p0 _ _ _ _ _)=_
      have w:i64.wrap ((u:Int)+1)=((u+1:Nat):Int):=by rw [Go.IntWalk.i64_in _ (by omega)];omega
      simp only [step,List.length_map,e1,e2,e3,e4,e5,w,gm,ig,eD hlt]
      refine aG (decide_eq_true (by omega)) ?_
      by_cases hp:i % 2=1
      ·rw [if_pos hp] at hm
       rw [hp]
       refine aG rfl (dZ (decide_eq_false (by omega)) (aG rfl (aG (decide_eq_true (by omega)) (aG (decide_eq_true (by omega)) (cG _ (Z28.aj trivial) ?_)))))
       rw [if_pos rfl]
       exact hm
      ·rw [if_neg hp] at hm
       have hb:(i % 2==1)=false:=beq_eq_false_iff_ne.2 hp
       rw [hb]
       refine dZ rfl (aG (decide_eq_true (by omega)) (dZ (decide_eq_false (by omega)) (dZ rfl (aG (decide_eq_true (by omega)) (aG (decide_eq_true (by omega)) (cG _ (Z28.aj trivial) ?_))))))
       rw [if_neg hp]
       exact hm
    ·rw [if_neg hc]
     obtain ⟨m,hm⟩:=ih leaf (i / 2) ((n+1) / 2) u (by omega) (by omega) (by omega) (by omega) h5
     refine ⟨m+1,?_⟩
     show step (iter step m) (Pt.p0 _ _ _ _ _)=_
     simp only [step,List.length_map,e1,e2,e3,e4,e5]
     have hb:(i % 2==1)=false:=beq_eq_false_iff_ne.2 (by omega)
     rw [hb]
     exact aG (decide_eq_true (by omega)) (dZ rfl (dZ (decide_eq_false (by omega)) hm))
   ·refine ⟨1,?_⟩
    show step (iter step 0) (Pt.p0 _ _ _ _ _)=_
    have hn1:n=1:=by omega
    subst hn1
    simp only [step,List.length_map]
    refine dZ (by decide) ?_
    rw [if_neg (by omega)]
    by_cases hu:u=a3.length
    ·rw [List.drop_eq_nil_of_le (by omega),show ((u:Int) != (a3.length:Int))=false from bne_eq_false_iff_eq.2 (by omega)];rfl
    ·have hne:(a3.drop u).isEmpty=false:=by
      rw [List.drop_eq_getElem_cons (by omega)];rfl
     rw [hne,show ((u:Int) != (a3.length:Int))=true from bne_iff_ne.2 (by omega)];rfl
 unfold start md
 refine eX _ (Z11.aj trivial) ?_
 cases hc:Z11.md a2 1 12
 ·exact ⟨0,rfl⟩
 simp only [Bool.not_true,aU]
 refine eX _ (Z11.aj trivial) ?_
 cases hd:Z11.md a1 0 (i64.wrap (a2 - 1))
 ·exact ⟨0,rfl⟩
 have i1:1<=a2/\a2<=12:=by simpa [Z11.md] using hc
 rw [Go.IntWalk.i64_in _ (by omega)] at hd
 have i2:0<=a1/\a1<=a2 - 1:=by simpa [Z11.md] using hd
 exact key 4 a0 a1 a2 0 (by omega) (by omega) (by omega) (by omega) (by omega)
def af:bZ 314 aK:=L4 63 (fun _=>4) cF (fun _=>[]) live step start mix aA bn (eS Z11.af Z28.af) Tryz.func314
end Z107
namespace Z108
def F (x0 x1:Int)(x2:bp)(x3:eB):aC:=(call (Z26.R x2) fun v1=>(call (Z107.R (v1,x3.eJ,x1,x3.bD)) fun v2=>(call (Z14.R x2) fun v3=>(cond v3 (cond v2.2 (call (Z31.R (x1,v2.1)) fun v4=>ret ((v4==x0))) (ret false)) (ret false)))))
def md (a0 a1:Int)(a2:ah)(a3:aV):Bool:=(cond (Z14.md a2) (cond ((Z107.md (Z26.md a2) a3.eJ a1 a3.bD).2) (((Z31.md a1 ((Z107.md (Z26.md a2) a3.eJ a1 a3.bD).1))==a0)) false) false)
def gd (a0 a1:Int)(a2:ah)(a3:aV):Prop:=(ah.Sm (2^21) a2)/\(aV.Sm (2^21) a3)
def R:=tI gd md
def aj {a0 a1 a2 a3}(h:gd a0 a1 a2 a3):R (a0,a1,(ah.r a2),(aV.r a3))=some (md a0 a1 a2 a3):=sH h
def aK:=CN [pI,pI,.agg vY,.agg BS] oB RT.dec R
def bn (a0)(a1)(a2)(a3)(hg:gd a0 a1 a2 a3):F a0 a1 (ah.r a2) (aV.r a3)=ret (md a0 a1 a2 a3):=by
 obtain ⟨H2,H3⟩:=hg
 refine ct (Z26.aj H2) (ct (Z107.aj (H3.mono (by decide) (fun x hx=>trivial))) ?_)
 refine ct (Z14.aj H2) (bs (fun c1=>?_) (fun _=>rfl))
 refine bs (fun c2=>?_) (fun _=>rfl)
 exact ct (Z31.aj trivial) fz
def af:bZ 247 aK:=W4 34 F mix aA bn (nQ Z26.af Z107.af Z14.af Z31.af) Tryz.func247
end Z108
namespace Z109
inductive Pt where
 | p0 (a b:an) (c:Int)
def cF:Pt->List V
 | .p0 a b c=>[.sl none 9 a,.sl none 9 b,.int .i64 c]
def step (J:Pt->aC):Pt->aC
 | .p0 a b c=>(cond (c<(a.length:Int)) (m2 c (a.length:Int) (m2 c (b.length:Int) (cond (!((rV a (toNat c))==(rV b (toNat c)))) fq (J (.p0 a b (i64.wrap (c+1))))))) nN)
def start (J:Pt->aC)(x0 x1:an):aC:=(cond (x0.length != (x1.length:Int)) (ret false) (J (.p0 x0 x1 0)))
def live:Nat->Live:=gx [(4,iR [0,1,5])]
def md (a0 a1:List az):Bool:=(bif (a0.length != (a1.length:Int)) then false else (eu (S:=Unit) (β:=Bool) (fun i2 s4=>(cond (!((a0.getD i2 ⟨#[]⟩)==(a1.getD i2 ⟨#[]⟩))) (.inr false) (.inl ()))) (fun s4=>true) a0.length 0 ()))
def gd (a0 a1:List az):Prop:=(bf (2^21) (fun y:az=>y.size<=(2^21)) a0)/\(bf (2^21) (fun y:az=>y.size<=(2^21)) a1)
def R:=cL gd md
def aj {a0 a1}(h:gd a0 a1):R ((a0.map dO),(a1.map dO))=some (md a0 a1):=cK h
def aK:=CN [pL 9,pL 9] oB RT.dec R
def bn (a0)(a1)(hg:gd a0 a1):∃n,start (iter step n) (a0.map dO) (a1.map dO)=ret (md a0 a1):=by
 obtain ⟨H0,H1⟩:=hg
 unfold start md
 simp only [SS]
 refine gB ret (fun _=>⟨0,rfl⟩) (fun c1=>?_)
 have dc1:=c1
 simp only [DC] at dc1
 have Bh3:=bl H0
 refine dc fz (bH (pt:=fun (i2:Nat) (s4:Unit)=>Pt.p0 (a0.map dO) (a1.map dO) (i2:Int)) (fun _ _=>True) (fun J i2 s4 h3 hih3=>?_) (fun s4 hih3=>?_) trivial)
 ·simp only [step,SS]
  refine aP.yes dt (aP.yes bu ?_)
  refine aP.yes (bK h3) (aP.yes bu ?_)
  refine aP.yes dt (aP.bif (fun _=>aP.inr rfl) (fun c5=>?_))
  refine aP.inl trivial ?_
  rw [aF h3 Bh3]
 ·simp only [step,SS]
  refine cH dn (⟨0,?_⟩)
  exact fz
def af:bZ 383 aK:=L2 26 (fun _=>4) cF (fun _=>[]) live step start mix aA bn .nil Tryz.func383
def md_eq (a0 a1:List az):md a0 a1=iM a0 a1:=by
 refine iL (⟨#[]⟩) (fun i s h h2=>?_) (fun s=>rfl)
 simp only [bne,jC,bool_beq,fY]
 cases iM _ _<;>rfl
end Z109
namespace Z110
def F (x0 x1:bp):aC:=(cond (x0.aZ==x1.aZ) (cond (x0.bE==x1.bE) (cond (x0.bY==x1.bY) (call (Z109.R (x0.bD,x1.bD)) fun v1=>ret v1) (ret false)) (ret false)) (ret false))
def md (a0 a1:ah):Bool:=(cond (a0.aZ==a1.aZ) (cond (a0.bE==a1.bE) (cond (a0.bY==a1.bY) ((Z109.md a0.bD a1.bD)) false) false) false)
def gd (a0 a1:ah):Prop:=(ah.Sm (2^21) a0)/\(ah.Sm (2^21) a1)
def R:=cL gd md
def aj {a0 a1}(h:gd a0 a1):R ((ah.r a0),(ah.r a1))=some (md a0 a1):=cK h
def aK:=CN [.agg vY,.agg vY] oB RT.dec R
def bn (a0)(a1)(hg:gd a0 a1):F (ah.r a0) (ah.r a1)=ret (md a0 a1):=by
 obtain ⟨H0,H1⟩:=hg
 refine bs (fun c1=>?_) (fun _=>rfl)
 refine bs (fun c2=>?_) (fun _=>rfl)
 refine bs (fun c3=>?_) (fun _=>rfl)
 exact ct (Z109.aj ⟨H0.2,H1.2⟩) fz
def af:bZ 318 aK:=W2 31 F mix aA bn (cM Z109.af) Tryz.func318
def md_eq (a0 a1:ah):md a0 a1=iM a0 a1:=by
 unfold md
 cases a0;cases a1
 rw [Bool.eq_iff_iff]
 simp [dM,fY,ah.mk.injEq,Z109.md_eq]
end Z110
namespace Z111
def F (x0 x1:eB):aC:=(cond (x0.eJ==x1.eJ) (call (Z52.R (x0.bD,x1.bD)) fun v1=>ret v1) (ret false))
def md (a0 a1:aV):Bool:=(cond (a0.eJ==a1.eJ) ((Z52.md a0.bD a1.bD)) false)
def gd (a0 a1:aV):Prop:=(aV.Sm (2^21) a0)/\(aV.Sm (2^21) a1)
def R:=cL gd md
def aj {a0 a1}(h:gd a0 a1):R ((aV.r a0),(aV.r a1))=some (md a0 a1):=cK h
def aK:=CN [.agg BS,.agg BS] oB RT.dec R
def bn (a0)(a1)(hg:gd a0 a1):F (aV.r a0) (aV.r a1)=ret (md a0 a1):=by
 obtain ⟨H0,H1⟩:=hg
 refine bs (fun c1=>?_) (fun _=>rfl)
 exact ct (Z52.aj ⟨(H0.mono (by decide) (fun x hx=>trivial)),(H1.mono (by decide) (fun x hx=>trivial))⟩) fz
def af:bZ 319 aK:=W2 17 F mix aA bn (cM Z52.af) Tryz.func319
def md_eq (a0 a1:aV):md a0 a1=iM a0 a1:=by
 unfold md
 cases a0;cases a1
 rw [Bool.eq_iff_iff]
 simp [dM,fY,aV.mk.injEq,Z52.md_eq]
end Z111
namespace Z112
def F (x0 x1:fG):aC:=(cond (x0.eJ==x1.eJ) (call (Z110.R (x0.bq,x1.bq)) fun v1=>(cond v1 (call (Z110.R (x0.bX,x1.bX)) fun v2=>(cond v2 (call (Z111.R (x0.eK,x1.eK)) fun v3=>(cond v3 (call (Z111.R (x0.cE,x1.cE)) fun v4=>ret v4) (ret false))) (ret false))) (ret false))) (ret false))
def md (a0 a1:bQ):Bool:=(cond (a0.eJ==a1.eJ) (cond (Z110.md a0.bq a1.bq) (cond (Z110.md a0.bX a1.bX) (cond (Z111.md a0.eK a1.eK) ((Z111.md a0.cE a1.cE)) false) false) false) false)
def gd (a0 a1:bQ):Prop:=(bQ.Sm (2^21) a0)/\(bQ.Sm (2^21) a1)
def R:=cL gd md
def aj {a0 a1}(h:gd a0 a1):R ((bQ.r a0),(bQ.r a1))=some (md a0 a1):=cK h
def aK:=CN [.agg Dp,.agg Dp] oB RT.dec R
def bn (a0)(a1)(hg:gd a0 a1):F (bQ.r a0) (bQ.r a1)=ret (md a0 a1):=by
 obtain ⟨H0,H1⟩:=hg
 refine bs (fun c1=>?_) (fun _=>rfl)
 refine ct (Z110.aj ⟨H0.1,H1.1⟩) (bs (fun c2=>?_) (fun _=>rfl))
 refine ct (Z110.aj ⟨H0.2.1,H1.2.1⟩) (bs (fun c3=>?_) (fun _=>rfl))
 refine ct (Z111.aj ⟨H0.2.2.1,H1.2.2.1⟩) (bs (fun c4=>?_) (fun _=>rfl))
 exact ct (Z111.aj ⟨H0.2.2.2,H1.2.2.2⟩) fz
def af:bZ 248 aK:=W2 38 F mix aA bn (eS Z110.af Z111.af) Tryz.func248
def md_eq (a0 a1:bQ):md a0 a1=iM a0 a1:=by
 unfold md
 cases a0;cases a1
 rw [Bool.eq_iff_iff]
 simp [dM,fY,bQ.mk.injEq,Z110.md_eq,Z111.md_eq]
end Z112
namespace Z113
def F (x0:bp)(x1:eB):aC:=(call (Z110.R (x0,(⟨(⟨#[]⟩:az),0,0,[]⟩))) fun v1=>(cond v1 (call (Z111.R (x1,(⟨0,[]⟩))) fun v2=>ret v2) (ret false)))
def md (a0:ah)(a1:aV):Bool:=(cond (Z110.md a0 (⟨((⟨#[]⟩:az)),0,0,[]⟩)) ((Z111.md a1 (⟨0,[]⟩))) false)
def gd (a0:ah)(a1:aV):Prop:=(ah.Sm (2^21) a0)/\(aV.Sm (2^21) a1)
def R:=cL gd md
def aj {a0 a1}(h:gd a0 a1):R ((ah.r a0),(aV.r a1))=some (md a0 a1):=cK h
def aK:=CN [.agg vY,.agg BS] oB RT.dec R
def bn (a0)(a1)(hg:gd a0 a1):F (ah.r a0) (aV.r a1)=ret (md a0 a1):=by
 obtain ⟨H0,H1⟩:=hg
 refine ct (Z110.aj (a1:=(⟨((⟨#[]⟩:az):az),0,0,[]⟩:ah)) ⟨H0,⟨(by decide),bf.nil⟩⟩) (bs (fun c1=>?_) (fun _=>rfl))
 exact ct (Z111.aj (a1:=(⟨0,[]⟩:aV)) ⟨H1,bf.nil⟩) fz
def af:bZ 250 aK:=W2 13 F mix aA bn (eS Z110.af Z111.af) Tryz.func250
end Z113
namespace Z114
def F (x0 x1:Int)(x2:az)(x3:fG):aC:=(call (Z12.R x2) fun v1=>(cond (!v1) (ret false) (call (Z11.R (x3.eJ,0,x1)) fun v2=>(cond (!v2) (ret false) (cond (x1==0) (call (Z32.R []) fun v3=>(cond (x0 != v3) (ret false) (cond (x3.eJ==0) (call (Z113.R (x3.bq,x3.eK)) fun v4=>(cond (!v4) (ret false) (cond (x3.eJ==x1) (call (Z113.R (x3.bX,x3.cE)) fun v5=>ret v5) (call (Z108.R (x0,x1,x3.bX,x3.cE)) fun v6=>(cond v6 (cond (x3.cE.eJ==x3.eJ) (call (Z8.R (x3.bX.aZ,x2)) fun v7=>ret ((v7==1))) (ret false)) (ret false)))))) (call (Z108.R (x0,x1,x3.bq,x3.eK)) fun v8=>(cond (!v8) (ret false) (cond (x3.eK.eJ != (i64.wrap (x3.eJ - 1))) (ret false) (call (Z8.R (x3.bq.aZ,x2)) fun v9=>(cond (v9 != (-1)) (ret false) (cond (x3.eJ==x1) (call (Z113.R (x3.bX,x3.cE)) fun v10=>ret v10) (call (Z108.R (x0,x1,x3.bX,x3.cE)) fun v11=>(cond v11 (cond (x3.cE.eJ==x3.eJ) (call (Z8.R (x3.bX.aZ,x2)) fun v12=>ret ((v12==1))) (ret false)) (ret false)))))))))))) (cond (x3.eJ==0) (call (Z113.R (x3.bq,x3.eK)) fun v13=>(cond (!v13) (ret false) (cond (x3.eJ==x1) (call (Z113.R (x3.bX,x3.cE)) fun v14=>ret v14) (call (Z108.R (x0,x1,x3.bX,x3.cE)) fun v15=>(cond v15 (cond (x3.cE.eJ==x3.eJ) (call (Z8.R (x3.bX.aZ,x2)) fun v16=>ret ((v16==1))) (ret false)) (ret false)))))) (call (Z108.R (x0,x1,x3.bq,x3.eK)) fun v17=>(cond (!v17) (ret false) (cond (x3.eK.eJ != (i64.wrap (x3.eJ - 1))) (ret false) (call (Z8.R (x3.bq.aZ,x2)) fun v18=>(cond (v18 != (-1)) (ret false) (cond (x3.eJ==x1) (call (Z113.R (x3.bX,x3.cE)) fun v19=>ret v19) (call (Z108.R (x0,x1,x3.bX,x3.cE)) fun v20=>(cond v20 (cond (x3.cE.eJ==x3.eJ) (call (Z8.R (x3.bX.aZ,x2)) fun v21=>ret ((v21==1))) (ret false)) (ret false)))))))))))))))
def md (a0 a1:Int)(a2:az)(a3:bQ):Bool:=(cond (!(Z12.md a2)) false (cond (!(Z11.md a3.eJ 0 a1)) false (cond (a1==0) (cond (a0 != (Z32.md [])) false (cond (a3.eJ==0) (cond (!(Z113.md a3.bq a3.eK)) false (cond (a3.eJ==a1) ((Z113.md a3.bX a3.cE)) (cond (Z108.md a0 a1 a3.bX a3.cE) (cond (a3.cE.eJ==a3.eJ) (((Z8.md a3.bX.aZ a2)==1)) false) false))) (cond (!(Z108.md a0 a1 a3.bq a3.eK)) false (cond (a3.eK.eJ != (i64.wrap (a3.eJ - 1))) false (cond ((Z8.md a3.bq.aZ a2) != (-1)) false (cond (a3.eJ==a1) ((Z113.md a3.bX a3.cE)) (cond (Z108.md a0 a1 a3.bX a3.cE) (cond (a3.cE.eJ==a3.eJ) (((Z8.md a3.bX.aZ a2)==1)) false) false))))))) (cond (a3.eJ==0) (cond (!(Z113.md a3.bq a3.eK)) false (cond (a3.eJ==a1) ((Z113.md a3.bX a3.cE)) (cond (Z108.md a0 a1 a3.bX a3.cE) (cond (a3.cE.eJ==a3.eJ) (((Z8.md a3.bX.aZ a2)==1)) false) false))) (cond (!(Z108.md a0 a1 a3.bq a3.eK)) false (cond (a3.eK.eJ != (i64.wrap (a3.eJ - 1))) false (cond ((Z8.md a3.bq.aZ a2) != (-1)) false (cond (a3.eJ==a1) ((Z113.md a3.bX a3.cE)) (cond (Z108.md a0 a1 a3.bX a3.cE) (cond (a3.cE.eJ==a3.eJ) (((Z8.md a3.bX.aZ a2)==1)) false) false)))))))))
def gd (a0 a1:Int)(a2:az)(a3:bQ):Prop:=(a2.size<=(2^21))/\(bQ.Sm (2^21) a3)
def R:=tI gd md
def aj {a0 a1 a2 a3}(h:gd a0 a1 a2 a3):R (a0,a1,a2,(bQ.r a3))=some (md a0 a1 a2 a3):=sH h
def aK:=CN [pI,pI,pS,.agg Dp] oB RT.dec R
def bn (a0)(a1)(a2)(a3)(hg:gd a0 a1 a2 a3):F a0 a1 a2 (bQ.r a3)=ret (md a0 a1 a2 a3):=by
 obtain ⟨H2,H3⟩:=hg
 refine ct (Z12.aj (le_trans H2 (by decide))) (bs (fun _=>rfl) (fun c1=>?_))
 refine ct (Z11.aj trivial) (bs (fun _=>rfl) (fun c2=>?_))
 refine bs (fun c3=>?_) (fun c3=>?_)
 ·refine cG _ (rq (Z32.aj bf.nil)) (bs (fun _=>rfl) (fun c4=>?_))
  refine bs (fun c5=>?_) (fun c5=>?_)
  ·refine ct (Z113.aj ⟨H3.1,H3.2.2.1⟩) (bs (fun _=>rfl) (fun c6=>?_))
   refine bs (fun c7=>ct (Z113.aj ⟨H3.2.1,H3.2.2.2⟩) fz) (fun c7=>?_)
   refine ct (Z108.aj ⟨H3.2.1,H3.2.2.2⟩) (bs (fun c8=>?_) (fun _=>rfl))
   refine bs (fun c9=>?_) (fun _=>rfl)
   exact ct (Z8.aj trivial) fz
  ·refine ct (Z108.aj ⟨H3.1,H3.2.2.1⟩) (bs (fun _=>rfl) (fun c10=>?_))
   refine bs (fun _=>rfl) (fun c11=>?_)
   refine ct (Z8.aj trivial) (bs (fun _=>rfl) (fun c12=>?_))
   refine bs (fun c13=>ct (Z113.aj ⟨H3.2.1,H3.2.2.2⟩) fz) (fun c13=>?_)
   refine ct (Z108.aj ⟨H3.2.1,H3.2.2.2⟩) (bs (fun c14=>?_) (fun _=>rfl))
   refine bs (fun c15=>?_) (fun _=>rfl)
   exact ct (Z8.aj trivial) fz
 ·refine bs (fun c16=>?_) (fun c16=>?_)
  ·refine ct (Z113.aj ⟨H3.1,H3.2.2.1⟩) (bs (fun _=>rfl) (fun c17=>?_))
   refine bs (fun c18=>ct (Z113.aj ⟨H3.2.1,H3.2.2.2⟩) fz) (fun c18=>?_)
   refine ct (Z108.aj ⟨H3.2.1,H3.2.2.2⟩) (bs (fun c19=>?_) (fun _=>rfl))
   refine bs (fun c20=>?_) (fun _=>rfl)
   exact ct (Z8.aj trivial) fz
  ·refine ct (Z108.aj ⟨H3.1,H3.2.2.1⟩) (bs (fun _=>rfl) (fun c21=>?_))
   refine bs (fun _=>rfl) (fun c22=>?_)
   refine ct (Z8.aj trivial) (bs (fun _=>rfl) (fun c23=>?_))
   refine bs (fun c24=>ct (Z113.aj ⟨H3.2.1,H3.2.2.2⟩) fz) (fun c24=>?_)
   refine ct (Z108.aj ⟨H3.2.1,H3.2.2.2⟩) (bs (fun c25=>?_) (fun _=>rfl))
   refine bs (fun c26=>?_) (fun _=>rfl)
   exact ct (Z8.aj trivial) fz
def af:bZ 249 aK:=W4 95 F mix aA bn (vp Z12.af Z11.af Z32.af Z113.af Z108.af Z8.af) Tryz.func249
end Z114
namespace Z115
def F (x0:bL)(x1:az)(x2:bt):aC:=(cond x2.bO (cond (x2.aR.aZ==x1) (call (Z108.R (x0.dx,x0.cj,x2.aR,x2.eN)) fun v1=>(cond v1 (call (Z112.R (x2.fC,(⟨0,(⟨(⟨#[]⟩:az),0,0,[]⟩),(⟨(⟨#[]⟩:az),0,0,[]⟩),(⟨0,[]⟩),(⟨0,[]⟩)⟩))) fun v2=>ret v2) (ret false))) (ret false)) (call (Z114.R (x0.dx,x0.cj,x1,x2.fC)) fun v3=>(cond v3 (call (Z113.R (x2.aR,x2.eN)) fun v4=>ret v4) (ret false))))
def md (a0:au)(a1:az)(a2:aB):Bool:=(cond a2.bO (cond (a2.aR.aZ==a1) (cond (Z108.md a0.dx a0.cj a2.aR a2.eN) ((Z112.md a2.fC (⟨0,(⟨((⟨#[]⟩:az)),0,0,[]⟩),(⟨((⟨#[]⟩:az)),0,0,[]⟩),(⟨0,[]⟩),(⟨0,[]⟩)⟩))) false) false) (cond (Z114.md a0.dx a0.cj a1 a2.fC) ((Z113.md a2.aR a2.eN)) false))
def gd (a0:au)(a1:az)(a2:aB):Prop:=(a1.size<=(2^21))/\(aB.Sm (2^21) a2)
def R:=lY gd md
def aj {a0 a1 a2}(h:gd a0 a1 a2):R ((au.r a0),a1,(aB.r a2))=some (md a0 a1 a2):=lV h
def aK:=CN [.agg lC,pS,.agg Ec] oB RT.dec R
def bn (a0)(a1)(a2)(hg:gd a0 a1 a2):F (au.r a0) a1 (aB.r a2)=ret (md a0 a1 a2):=by
 obtain ⟨H1,H2⟩:=hg
 refine bs (fun c1=>?_) (fun c1=>?_)
 ·refine bs (fun c2=>?_) (fun _=>rfl)
  refine ct (Z108.aj ⟨H2.2.1,H2.2.2.1⟩) (bs (fun c3=>?_) (fun _=>rfl))
  exact ct (Z112.aj (a1:=(⟨0,(⟨((⟨#[]⟩:az):az),0,0,[]⟩:ah),(⟨((⟨#[]⟩:az):az),0,0,[]⟩:ah),(⟨0,[]⟩:aV),(⟨0,[]⟩:aV)⟩:bQ)) ⟨H2.2.2.2,⟨⟨(by decide),bf.nil⟩,⟨(by decide),bf.nil⟩,bf.nil,bf.nil⟩⟩) fz
 ·refine ct (Z114.aj ⟨H1,H2.2.2.2⟩) (bs (fun c4=>?_) (fun _=>rfl))
  exact ct (Z113.aj ⟨H2.2.1,H2.2.2.1⟩) fz
def af:bZ 156 aK:=W3 46 F mix aA bn (nQ Z108.af Z112.af Z114.af Z113.af) Tryz.func156
end Z115
namespace Z116
def F (x0:Int)(x1:az)(x2:bt)(x3:Int):aC:=(call (Z61.R x2.aD) fun v1=>(cond (!v1.2) (ret (3:Int)) (cond (v1.1.aS != x0) (ret (2:Int)) (call (Z106.R (v1.1,x3)) fun v2=>(cond (!v2) (ret (4:Int)) (cond v1.1.bk (ret (5:Int)) (call (Z115.R (v1.1,x1,x2)) fun v3=>(cond (!v3) (ret (6:Int)) (ret (1:Int))))))))))
def md (a0:Int)(a1:az)(a2:aB)(a3:Int):Int:=(cond (!(Z61.md a2.aD).2) (3:Int) (cond ((Z61.md a2.aD).1.aS != a0) (2:Int) (cond (!(Z106.md ((Z61.md a2.aD).1) a3)) (4:Int) (cond ((Z61.md a2.aD).1.bk) (5:Int) (cond (!(Z115.md ((Z61.md a2.aD).1) a1 a2)) (6:Int) (1:Int))))))
def gd (a0:Int)(a1:az)(a2:aB)(a3:Int):Prop:=(a1.size<=(2^21))/\(aB.Sm (2^21) a2)
def R:=tI gd md
def aj {a0 a1 a2 a3}(h:gd a0 a1 a2 a3):R (a0,a1,(aB.r a2),a3)=some (md a0 a1 a2 a3):=sH h
def aK:=CN [pI,pS,.agg Ec,pI] oI RT.dec R
def bn (a0)(a1)(a2)(a3)(hg:gd a0 a1 a2 a3):F a0 a1 (aB.r a2) a3=ret (md a0 a1 a2 a3):=by
 obtain ⟨H1,H2⟩:=hg
 refine ct (Z61.aj H2.1) (bs (fun _=>rfl) (fun c1=>?_))
 refine bs (fun _=>rfl) (fun c2=>?_)
 refine ct (Z106.aj trivial) (bs (fun _=>rfl) (fun c3=>?_))
 refine bs (fun _=>rfl) (fun c4=>?_)
 refine ct (Z115.aj ⟨H1,H2⟩) (bs (fun _=>rfl) (fun _=>rfl))
def af:bZ 35 aK:=W4 39 F mix aA bn (jw Z61.af Z106.af Z115.af) Tryz.func35
end Z116
namespace Z117
inductive Pt where
 | p0 (a:Int) (b c:aY)
def cF:Pt->List V
 | .p0 a b c=>[.bN 0 0,.bN 1 0,.int .i64 a]
def dN:Pt->List aL
 | .p0 a b c=>[.box [.int .i64 b.aq.aS,.int .i64 b.aq.cy,.int .i64 b.aq.bE,.int .i64 b.aq.cg,.int .i64 b.aq.cq,.int .i64 b.aq.cj,.int .i64 b.aq.dx,.int .i64 b.aq.dX,.sl none 3 b.aq.bU.bz,.int .i64 b.aq.bU.dh,.sl none 3 b.aq.bF.bz,.int .i64 b.aq.bF.dh,.int .i64 b.aq.cT,.sl none 3 b.aq.bB.bz,.int .i64 b.aq.bB.dh,.bool b.aq.bk,.sl none 315 b.dR],.box [.int .i64 c.aq.aS,.int .i64 c.aq.cy,.int .i64 c.aq.bE,.int .i64 c.aq.cg,.int .i64 c.aq.cq,.int .i64 c.aq.cj,.int .i64 c.aq.dx,.int .i64 c.aq.dX,.sl none 3 c.aq.bU.bz,.int .i64 c.aq.bU.dh,.sl none 3 c.aq.bF.bz,.int .i64 c.aq.bF.dh,.int .i64 c.aq.cT,.sl none 3 c.aq.bB.bz,.int .i64 c.aq.bB.dh,.bool c.aq.bk,.sl none 315 c.dR]]
def step (J:Pt->aC):Pt->aC
 | .p0 a b c=>(cond (a<(b.dR.length:Int)) (m2 a (b.dR.length:Int) (m2 a (c.dR.length:Int) (cond (!((((bC.at b.dR (toNat a)).jI:Int)==(bC.at c.dR (toNat a)).jI)&&((((bC.at b.dR (toNat a)).ox:Int)==(bC.at c.dR (toNat a)).ox)&&true))) fq (J (.p0 (i64.wrap (a+1)) b c))))) nN)
def start (J:Pt->aC)(x0 x1:aY):aC:=(call (Z89.R (x0.aq,x1.aq)) fun v1=>(cond (!v1) (ret false) (cond (x0.dR.length != (x1.dR.length:Int)) (ret false) (J (.p0 0 x0 x1)))))
def live:Nat->Live:=gx [(4,iR [2,3,5])]
def md (a0 a1:aa):Bool:=(bif (!(Z89.md a0.aq a1.aq)) then false else (bif (a0.dR.length != (a1.dR.length:Int)) then false else (eu (S:=Unit) (β:=Bool) (fun i3 s5=>(cond (!((((a0.dR.getD i3 bC.zero).jI)==(a1.dR.getD i3 bC.zero).jI)&&((((a0.dR.getD i3 bC.zero).ox)==(a1.dR.getD i3 bC.zero).ox)&&true))) (.inr false) (.inl ()))) (fun s5=>true) a0.dR.length 0 ())))
def gd (a0 a1:aa):Prop:=(aa.Sm (2^21) a0)/\(aa.Sm (2^21) a1)
def R:=cL gd md
def aj {a0 a1}(h:gd a0 a1):R ((aa.r a0),(aa.r a1))=some (md a0 a1):=cK h
def aK:=CN [.agg we,.agg we] oB RT.dec R
def bn (a0)(a1)(hg:gd a0 a1):∃n,start (iter step n) (aa.r a0) (aa.r a1)=ret (md a0 a1):=by
 obtain ⟨H0,H1⟩:=hg
 unfold start md
 simp only [SS]
 refine cx (Z89.aj ⟨H0.1,H1.1⟩) (gB ret (fun _=>⟨0,rfl⟩) (fun c1=>?_))
 refine gB ret (fun _=>⟨0,rfl⟩) (fun c2=>?_)
 have dc2:=c2
 simp only [DC] at dc2
 have Bh4:=bl H0.2
 refine dc fz (bH (pt:=fun (i3:Nat) (s5:Unit)=>Pt.p0 (i3:Int) (aa.r a0) (aa.r a1)) (fun _ _=>True) (fun J i3 s5 h4 hih4=>?_) (fun s5 hih4=>?_) trivial)
 ·simp only [step,SS]
  refine aP.yes dt (aP.yes bu ?_)
  refine aP.yes (bK h4) (aP.yes bu ?_)
  refine aP.yes (have:=(H1.2).1;dt) (aP.bif (fun _=>aP.inr rfl) (fun c6=>?_))
  refine aP.inl trivial ?_
  rw [aF h4 Bh4]
 ·simp only [step,SS]
  refine cH dn (⟨0,?_⟩)
  exact fz
def af:bZ 225 aK:=L2 39 (fun _=>4) cF dN live step start mix aA bn (cM Z89.af) Tryz.func225
def md_eq (a0 a1:aa):md a0 a1=iM a0 a1:=by
 unfold md
 simp only [Z89.md_eq,jC,bC.eqc]
 rw [iL bC.zero (fun i s h h2=>by cases iM (a0.dR.getD i bC.zero) (a1.dR.getD i bC.zero)<;>rfl) (fun s=>rfl)]
 rw [Bool.eq_iff_iff]
 cases a0;cases a1
 simp [dM]
end Z117
namespace Z118
def F (x0:cB):aC:=(call (Z89.R (x0.fA.aq,x0.fB.aq)) fun v1=>(cond v1 (ret false) (call (Z117.R (x0.bq,(⟨(⟨0,0,0,0,0,0,0,0,(⟨[],0⟩),(⟨[],0⟩),0,(⟨[],0⟩),false⟩),[]⟩))) fun v2=>(cond v2 (call (Z49.R x0.fA) fun v3=>(cond v3 (call (Z49.R x0.fB) fun v4=>(cond v4 (ret ((x0.fA.aq.aS==x0.fB.aq.aS))) (ret false))) (ret false))) (call (Z58.R (x0.bq.aq,x0.fA)) fun v5=>(cond v5 (call (Z58.R (x0.bq.aq,x0.fB)) fun v6=>ret v6) (ret false)))))))
def md (a0:aM):Bool:=(cond (Z89.md a0.fA.aq a0.fB.aq) false (cond (Z117.md a0.bq (⟨(⟨0,0,0,0,0,0,0,0,(⟨[],0⟩),(⟨[],0⟩),0,(⟨[],0⟩),false⟩),[]⟩)) (cond (Z49.md a0.fA) (cond (Z49.md a0.fB) ((a0.fA.aq.aS==a0.fB.aq.aS)) false) false) (cond (Z58.md a0.bq.aq a0.fA) ((Z58.md a0.bq.aq a0.fB)) false)))
def gd (a0:aM):Prop:=(aM.Sm (2^21) a0)
def R:=RR gd md
def aj {a0}(h:gd a0):R (aM.r a0)=some (md a0):=cO h
def aK:=CN [.agg vO] oB RT.dec R
def bn (a0)(H0:gd a0):F (aM.r a0)=ret (md a0):=by
 refine ct (Z89.aj ⟨H0.2.1.1,H0.2.2.1⟩) (bs (fun _=>rfl) (fun c1=>?_))
 refine ct (Z117.aj (a1:=(⟨(⟨0,0,0,0,0,0,0,0,(⟨[],0⟩:aN),(⟨[],0⟩:aN),0,(⟨[],0⟩:aN),false⟩:au),[]⟩:aa)) ⟨H0.1,⟨⟨bf.nil,bf.nil,bf.nil⟩,bf.nil⟩⟩) (bs (fun c2=>?_) (fun c2=>?_))
 ·refine ct (Z49.aj H0.2.1) (bs (fun c3=>?_) (fun _=>rfl))
  refine ct (Z49.aj H0.2.2) (bs (fun c4=>?_) (fun _=>rfl))
  exact fz
 ·refine ct (Z58.aj ⟨H0.1.1,H0.2.1⟩) (bs (fun c5=>?_) (fun _=>rfl))
  exact ct (Z58.aj ⟨H0.1.1,H0.2.2⟩) fz
def af:bZ 133 aK:=W1 47 F mix aA bn (nQ Z89.af Z117.af Z49.af Z58.af) Tryz.func133
end Z118
namespace Z119
def F (x0:cB):aC:=(call (Z118.R x0) fun v1=>(cond (!v1) mG (ret x0.fA.aq.aS)))
def md (a0:aM):Int:=(cond (!(Z118.md a0)) ((-1):Int) a0.fA.aq.aS)
def gd (a0:aM):Prop:=(aM.Sm (2^21) a0)
def R:=RR gd md
def aj {a0}(h:gd a0):R (aM.r a0)=some (md a0):=cO h
def aK:=CN [.agg vO] oI RT.dec R
def bn (a0)(H0:gd a0):F (aM.r a0)=ret (md a0):=by
 refine ct (Z118.aj H0) (bs (fun _=>rfl) (fun c1=>?_))
 exact fz
def af:bZ 261 aK:=W1 10 F mix aA bn (cM Z118.af) Tryz.func261
end Z119
namespace Z120
inductive Pt where
 | p0 (a b:Int) (c:aW)
def cF:Pt->List V
 | .p0 a b c=>[.int .i64 a,.bN 0 0,.int .i64 b]
def dN:Pt->List aL
 | .p0 a b c=>[.box [.sl none 37 c.aH,.sl none 170 c.bg]]
def step (J:Pt->aC):Pt->aC
 | .p0 a b c=>(cond (b<(c.bg.length:Int)) (m2 b (c.bg.length:Int) (call (Z119.R (cB.at c.bg (toNat b))) fun v1=>(cond (v1==a) (cond (a>=0) nN (J (.p0 a (i64.wrap (b+1)) c))) (J (.p0 a (i64.wrap (b+1)) c))))) fq)
def start (J:Pt->aC)(x0:aW)(x1:Int):aC:=J (.p0 x1 0 x0)
def live:Nat->Live:=gx [(2,iR [1,2,5])]
def md (a0:ak)(a1:Int):Bool:=(dQ (S:=Unit) (β:=Bool) (fun y1 s3=>(cond ((Z119.md y1)==a1) (cond (a1>=0) (.inr true) (.inl ())) (.inl ()))) (fun s3=>false) a0.bg ())
def gd (a0:ak)(a1:Int):Prop:=(ak.Sm (2^21) a0)
def R:=cL gd md
def aj {a0 a1}(h:gd a0 a1):R ((ak.r a0),a1)=some (md a0 a1):=cK h
def aK:=CN [.agg vF,pI] oB RT.dec R
def bn (a0)(a1)(H0:gd a0 a1):∃n,start (iter step n) (ak.r a0) a1=ret (md a0 a1):=by
 have Bh2:=bl H0.2
 refine ex_eq (dV (z:=aM.zero)) (dc fz ?_)
 refine bH (pt:=fun (i1:Nat) (s3:Unit)=>Pt.p0 a1 (i1:Int) (ak.r a0)) (fun _ _=>True) (fun J i1 s3 h2 hih2=>?_) (fun s3 hih2=>?_) trivial
 ·simp only [step,SS]
  refine aP.yes dt (aP.yes bu ?_)
  refine aP.yes (bK h2) (cr (Z119.aj (bf.getD H0.2 h2)) ?_)
  refine aP.bif (fun c4=>?_) (fun c4=>?_)
  ·refine aP.bif (fun _=>aP.inr rfl) (fun c5=>?_)
   refine aP.inl trivial ?_
   rw [aF h2 Bh2]
  ·refine aP.inl trivial ?_
   rw [aF h2 Bh2]
 ·simp only [step,SS]
  refine cH dn (⟨0,?_⟩)
  exact fz
def af:bZ 167 aK:=L2 25 (fun _=>2) cF dN live step start mix aA bn (cM Z119.af) Tryz.func167
end Z120
namespace Z121
inductive Pt where
 | p0 (a:an) (b:Int) (c:az) (d e:Int) (f:Bool) (g:az) (h i:Int) (j k:Bool) (l:az) (m n:Int) (o:Bool) (p q s:an)
def cF:Pt->List V
 | .p0 a b c d e f g h i j k l m n o p q s=>[.sl none 68 a,.int .i64 b,.str c,.int .i64 d,.bN 0 0,.bN 1 0,.int .i64 e,.bN 1 0]
def dN:Pt->List aL
 | .p0 a b c d e f g h i j k l m n o p q s=>[.box [.nil,.nil,.bool f,.str g,.int .i64 h,.int .i64 i,.nil,.bool j,.nil],.box [.own 2,.own 3,.bool k,.str l,.int .i64 m,.int .i64 n,.nil,.bool o,.own 4],.row 37 p,.row 170 q,.row 3 s]
def step (J:Pt->aC):Pt->aC
 | .p0 a b c d e f g h i j k l m n o p q s=>(cond (e<(a.length:Int)) (m2 e (a.length:Int) (call (Z61.R ((bt.at a (toNat e)).aD)) fun v1=>(cond v1.2 (cond (v1.1.aS==b) (call (Z93.R ((⟨p,q⟩:aW),(bt.at a (toNat e)).aD)) fun v2=>(call (Z116.R (b,c,(bt.at a (toNat e)),d)) fun v3=>(cond (v2.2==1) (cond (v3==1) (call (Z120.R (v2.1,b)) fun v4=>(cond v4 (ck (eG (((s.length:Int)+1)*8)) (J (.p0 a b c d (i64.wrap (e+1)) f g h i j k l m n o v2.1.aH v2.1.bg (s++[[L.int 3]])))) (ck (eG (((s.length:Int)+1)*8)) (cond (v3==1) (call (Z10.R ((bt.at a (toNat e)).aR)) fun v5=>ret ((⟨v2.1,(bt.at a (toNat e)).bO,v5,true,(s++[[L.int v3]])⟩:cP):cP)) (J (.p0 a b c d (i64.wrap (e+1)) f g h i j k l m n o v2.1.aH v2.1.bg (s++[[L.int v3]]))))))) (ck (eG (((s.length:Int)+1)*8)) (cond (v3==1) (call (Z10.R ((bt.at a (toNat e)).aR)) fun v6=>ret ((⟨v2.1,(bt.at a (toNat e)).bO,v6,true,(s++[[L.int v3]])⟩:cP):cP)) (J (.p0 a b c d (i64.wrap (e+1)) f g h i j k l m n o v2.1.aH v2.1.bg (s++[[L.int v3]])))))) (cond (v2.2==2) (cond (v3==1) (call (Z120.R (v2.1,b)) fun v7=>(cond v7 (ck (eG (((s.length:Int)+1)*8)) (J (.p0 a b c d (i64.wrap (e+1)) f g h i j k l m n o v2.1.aH v2.1.bg (s++[[L.int 3]])))) (ck (eG (((s.length:Int)+1)*8)) (cond (v3==1) (call (Z10.R ((bt.at a (toNat e)).aR)) fun v8=>ret ((⟨v2.1,(bt.at a (toNat e)).bO,v8,true,(s++[[L.int v3]])⟩:cP):cP)) (J (.p0 a b c d (i64.wrap (e+1)) f g h i j k l m n o v2.1.aH v2.1.bg (s++[[L.int v3]]))))))) (ck (eG (((s.length:Int)+1)*8)) (cond (v3==1) (call (Z10.R ((bt.at a (toNat e)).aR)) fun v9=>ret ((⟨v2.1,(bt.at a (toNat e)).bO,v9,true,(s++[[L.int v3]])⟩:cP):cP)) (J (.p0 a b c d (i64.wrap (e+1)) f g h i j k l m n o v2.1.aH v2.1.bg (s++[[L.int v3]])))))) (cond (v3==1) (cond (!(v2.2==3)) (ck (eG (((s.length:Int)+1)*8)) (J (.p0 a b c d (i64.wrap (e+1)) f g h i j k l m n o v2.1.aH v2.1.bg (s++[[L.int 3]])))) (call (Z120.R (v2.1,b)) fun v10=>(cond v10 (ck (eG (((s.length:Int)+1)*8)) (J (.p0 a b c d (i64.wrap (e+1)) f g h i j k l m n o v2.1.aH v2.1.bg (s++[[L.int 3]])))) (ck (eG (((s.length:Int)+1)*8)) (cond (v3==1) (call (Z10.R ((bt.at a (toNat e)).aR)) fun v11=>ret ((⟨v2.1,(bt.at a (toNat e)).bO,v11,true,(s++[[L.int v3]])⟩:cP):cP)) (J (.p0 a b c d (i64.wrap (e+1)) f g h i j k l m n o v2.1.aH v2.1.bg (s++[[L.int v3]])))))))) (ck (eG (((s.length:Int)+1)*8)) (cond (v3==1) (call (Z10.R ((bt.at a (toNat e)).aR)) fun v12=>ret ((⟨v2.1,(bt.at a (toNat e)).bO,v12,true,(s++[[L.int v3]])⟩:cP):cP)) (J (.p0 a b c d (i64.wrap (e+1)) f g h i j k l m n o v2.1.aH v2.1.bg (s++[[L.int v3]])))))))))) (call (Z116.R (b,c,(bt.at a (toNat e)),d)) fun v13=>(cond (v13==1) (ck (eG (((s.length:Int)+1)*8)) (J (.p0 a b c d (i64.wrap (e+1)) f g h i j k l m n o p q (s++[[L.int 3]])))) (ck (eG (((s.length:Int)+1)*8)) (cond (v13==1) (call (Z10.R ((bt.at a (toNat e)).aR)) fun v14=>ret ((⟨(⟨p,q⟩:aW),(bt.at a (toNat e)).bO,v14,true,(s++[[L.int v13]])⟩:cP):cP)) (J (.p0 a b c d (i64.wrap (e+1)) f g h i j k l m n o p q (s++[[L.int v13]])))))))) (call (Z116.R (b,c,(bt.at a (toNat e)),d)) fun v15=>(cond (v15==1) (ck (eG (((s.length:Int)+1)*8)) (J (.p0 a b c d (i64.wrap (e+1)) f g h i j k l m n o p q (s++[[L.int 3]])))) (ck (eG (((s.length:Int)+1)*8)) (cond (v15==1) (call (Z10.R ((bt.at a (toNat e)).aR)) fun v16=>ret ((⟨(⟨p,q⟩:aW),(bt.at a (toNat e)).bO,v16,true,(s++[[L.int v15]])⟩:cP):cP)) (J (.p0 a b c d (i64.wrap (e+1)) f g h i j k l m n o p q (s++[[L.int v15]])))))))))) (ret ((⟨(⟨p,q⟩:aW),k,(⟨l,m,n,[]⟩:bp),o,s⟩:cP):cP)))
def start (J:Pt->aC)(x0:aW)(x1:an)(x2:Int)(x3:az)(x4:Int):aC:=(call (Z87.R x0) fun v1=>J (.p0 x1 x2 x3 x4 0 false ⟨#[]⟩ 0 0 false false ⟨#[]⟩ 0 0 false v1.aH v1.bg []))
def live:Nat->Live:=gx [(3,[(1,none),(2,none),(3,none),(4,none),(10,none),(11,none),(12,none),(11,some 8388611)])]
def md (a0:ak)(a1:List aB)(a2:Int)(a3:az)(a4:Int):bG:=(dQ (S:=List (List aa)×List aM×List Int) (β:=bG) (fun (y1:aB) (s3:List (List aa)×List aM×List Int)=>(cond ((Z61.md (y1.aD)).2) (cond ((Z61.md (y1.aD)).1.aS==a2) (cond ((Z93.md (⟨s3.1,s3.2.1⟩:ak) (y1.aD)).2==1) (cond ((Z116.md a2 a3 y1 a4)==1) (cond (Z120.md ((Z93.md (⟨s3.1,s3.2.1⟩:ak) (y1.aD)).1) a2) (.inl ((Z93.md (⟨s3.1,s3.2.1⟩:ak) (y1.aD)).1.aH,(Z93.md (⟨s3.1,s3.2.1⟩:ak) (y1.aD)).1.bg,(s3.2.2++[3]))) (cond ((Z116.md a2 a3 y1 a4)==1) (.inr (⟨(Z93.md (⟨s3.1,s3.2.1⟩:ak) (y1.aD)).1,y1.bO,(y1.aR),true,(s3.2.2++[(Z116.md a2 a3 y1 a4)])⟩:bG)) (.inl ((Z93.md (⟨s3.1,s3.2.1⟩:ak) (y1.aD)).1.aH,(Z93.md (⟨s3.1,s3.2.1⟩:ak) (y1.aD)).1.bg,(s3.2.2++[(Z116.md a2 a3 y1 a4)]))))) (cond ((Z116.md a2 a3 y1 a4)==1) (.inr (⟨(Z93.md (⟨s3.1,s3.2.1⟩:ak) (y1.aD)).1,y1.bO,(y1.aR),true,(s3.2.2++[(Z116.md a2 a3 y1 a4)])⟩:bG)) (.inl ((Z93.md (⟨s3.1,s3.2.1⟩:ak) (y1.aD)).1.aH,(Z93.md (⟨s3.1,s3.2.1⟩:ak) (y1.aD)).1.bg,(s3.2.2++[(Z116.md a2 a3 y1 a4)]))))) (cond ((Z93.md (⟨s3.1,s3.2.1⟩:ak) (y1.aD)).2==2) (cond ((Z116.md a2 a3 y1 a4)==1) (cond (Z120.md ((Z93.md (⟨s3.1,s3.2.1⟩:ak) (y1.aD)).1) a2) (.inl ((Z93.md (⟨s3.1,s3.2.1⟩:ak) (y1.aD)).1.aH,(Z93.md (⟨s3.1,s3.2.1⟩:ak) (y1.aD)).1.bg,(s3.2.2++[3]))) (cond ((Z116.md a2 a3 y1 a4)==1) (.inr (⟨(Z93.md (⟨s3.1,s3.2.1⟩:ak) (y1.aD)).1,y1.bO,(y1.aR),true,(s3.2.2++[(Z116.md a2 a3 y1 a4)])⟩:bG)) (.inl ((Z93.md (⟨s3.1,s3.2.1⟩:ak) (y1.aD)).1.aH,(Z93.md (⟨s3.1,s3.2.1⟩:ak) (y1.aD)).1.bg,(s3.2.2++[(Z116.md a2 a3 y1 a4)]))))) (cond ((Z116.md a2 a3 y1 a4)==1) (.inr (⟨(Z93.md (⟨s3.1,s3.2.1⟩:ak) (y1.aD)).1,y1.bO,(y1.aR),true,(s3.2.2++[(Z116.md a2 a3 y1 a4)])⟩:bG)) (.inl ((Z93.md (⟨s3.1,s3.2.1⟩:ak) (y1.aD)).1.aH,(Z93.md (⟨s3.1,s3.2.1⟩:ak) (y1.aD)).1.bg,(s3.2.2++[(Z116.md a2 a3 y1 a4)]))))) (cond ((Z116.md a2 a3 y1 a4)==1) (cond (!((Z93.md (⟨s3.1,s3.2.1⟩:ak) (y1.aD)).2==3)) (.inl ((Z93.md (⟨s3.1,s3.2.1⟩:ak) (y1.aD)).1.aH,(Z93.md (⟨s3.1,s3.2.1⟩:ak) (y1.aD)).1.bg,(s3.2.2++[3]))) (cond (Z120.md ((Z93.md (⟨s3.1,s3.2.1⟩:ak) (y1.aD)).1) a2) (.inl ((Z93.md (⟨s3.1,s3.2.1⟩:ak) (y1.aD)).1.aH,(Z93.md (⟨s3.1,s3.2.1⟩:ak) (y1.aD)).1.bg,(s3.2.2++[3]))) (cond ((Z116.md a2 a3 y1 a4)==1) (.inr (⟨(Z93.md (⟨s3.1,s3.2.1⟩:ak) (y1.aD)).1,y1.bO,(y1.aR),true,(s3.2.2++[(Z116.md a2 a3 y1 a4)])⟩:bG)) (.inl ((Z93.md (⟨s3.1,s3.2.1⟩:ak) (y1.aD)).1.aH,(Z93.md (⟨s3.1,s3.2.1⟩:ak) (y1.aD)).1.bg,(s3.2.2++[(Z116.md a2 a3 y1 a4)])))))) (cond ((Z116.md a2 a3 y1 a4)==1) (.inr (⟨(Z93.md (⟨s3.1,s3.2.1⟩:ak) (y1.aD)).1,y1.bO,(y1.aR),true,(s3.2.2++[(Z116.md a2 a3 y1 a4)])⟩:bG)) (.inl ((Z93.md (⟨s3.1,s3.2.1⟩:ak) (y1.aD)).1.aH,(Z93.md (⟨s3.1,s3.2.1⟩:ak) (y1.aD)).1.bg,(s3.2.2++[(Z116.md a2 a3 y1 a4)]))))))) (cond ((Z116.md a2 a3 y1 a4)==1) (.inl (s3.1,s3.2.1,(s3.2.2++[3]))) (cond ((Z116.md a2 a3 y1 a4)==1) (.inr (⟨(⟨s3.1,s3.2.1⟩:ak),y1.bO,(y1.aR),true,(s3.2.2++[(Z116.md a2 a3 y1 a4)])⟩:bG)) (.inl (s3.1,s3.2.1,(s3.2.2++[(Z116.md a2 a3 y1 a4)])))))) (cond ((Z116.md a2 a3 y1 a4)==1) (.inl (s3.1,s3.2.1,(s3.2.2++[3]))) (cond ((Z116.md a2 a3 y1 a4)==1) (.inr (⟨(⟨s3.1,s3.2.1⟩:ak),y1.bO,(y1.aR),true,(s3.2.2++[(Z116.md a2 a3 y1 a4)])⟩:bG)) (.inl (s3.1,s3.2.1,(s3.2.2++[(Z116.md a2 a3 y1 a4)]))))))) (fun (s3:List (List aa)×List aM×List Int)=>(⟨(⟨s3.1,s3.2.1⟩:ak),false,(⟨(⟨#[]⟩:az),0,0,[]⟩:ah),false,s3.2.2⟩:bG)) a1 (a0.aH,a0.bg,[]))
def gd (a0:ak)(a1:List aB)(a2:Int)(a3:az)(a4:Int):Prop:=(ak.Sm (2^21) a0)/\(bf (2^21) (fun y:aB=>aB.Sm (2^21) y) a1)/\(a3.size<=(2^21))
def R:=qL gd md
def aj {a0 a1 a2 a3 a4}(h:gd a0 a1 a2 a3 a4):R ((ak.r a0),(a1.map aB.row),a2,a3,a4)=some (bG.r (md a0 a1 a2 a3 a4)):=qA h
def aK:=CN [.agg vF,pL 68,pI,pS,pI] (.agg f89) RT.dec R
def bn (a0)(a1)(a2)(a3)(a4)(hg:gd a0 a1 a2 a3 a4):∃n,start (iter step n) (ak.r a0) (a1.map aB.row) a2 a3 a4=ret (bG.r (md a0 a1 a2 a3 a4)):=by
 obtain ⟨H0,H1,H3⟩:=hg
 unfold start md
 try simp only [SS]
 refine cx (Z87.aj H0) ?_
 try simp only [SS]
 have Bh2:a1.length<=maxLen:=(by
   have:=(H1).1
   try simp only [maxLen] at *
   omega)
 refine ex_eq (out:=(fun b:bG=>ret ((bG.r b):cP))) (dV (z:=aB.zero)) ?_
 refine dc (p:=Pt.p0 (a1.map aB.row) a2 a3 a4 0 false (⟨#[]⟩:az) 0 0 false false (⟨#[]⟩:az) 0 0 false (a0.aH.map (eF aa.row)) (a0.bg.map aM.row) ([].map aQ)) fz ?_
 refine bH (pt:=fun (i1:Nat) (s3:List (List aa)×List aM×List Int)=>Pt.p0 (a1.map aB.row) a2 a3 a4 (i1:Int) false (⟨#[]⟩:az) 0 0 false false (⟨#[]⟩:az) 0 0 false (s3.1.map (eF aa.row)) (s3.2.1.map aM.row) (s3.2.2.map aQ)) (s:=((a0.aH,a0.bg,[]):List (List aa)×List aM×List Int)) (out:=(fun b:bG=>ret ((bG.r b):cP))) (fun (i1:Nat) (s3:List (List aa)×List aM×List Int)=>ak.Sm (2^21) (⟨s3.1,s3.2.1⟩:ak)/\s3.2.2.length<=i1) (fun J i1 s3 h2 hih2=>?_) (fun s3 hih2=>?_) ⟨H0,zero_le _⟩
 ·simp only [step,SS]
  have gr_:=hih2
  try simp only [LN] at gr_
  have bb_:=Bh2
  simp only [maxLen] at bb_
  have:=(H1).1
  refine aP.yes (by apply decide_eq_true;omega) ?_
  refine aP.yes bu ?_
  refine aP.yes (bK h2) ?_
  refine cr (Z61.aj (bf.getD (z:=aB.zero) H1 h2).1) ?_
  try simp only [SS]
  refine aP.bif (fun c4=>?_) (fun c4=>?_)
  ·refine aP.bif (fun c5=>?_) (fun c5=>?_)
   ·have dc5:=c5
    try simp only [DC] at dc5
    refine cr (Z93.aj (a0:=(⟨s3.1,s3.2.1⟩:ak)) ⟨⟨hih2.1.1,hih2.1.2⟩,(bf.getD (z:=aB.zero) H1 h2).1⟩) ?_
    try simp only [SS]
    refine cr (Z116.aj ⟨H3,(bf.getD (z:=aB.zero) H1 h2)⟩) ?_
    refine aP.bif (fun c6=>?_) (fun c6=>?_)
    ·have dc6:=c6
     try simp only [DC] at dc6
     refine aP.bif (fun c7=>?_) (fun c7=>?_)
     ·have dc7:=c7
      try simp only [DC] at dc7
      refine cr (Z120.aj (a0:=(Z93.md (⟨s3.1,s3.2.1⟩:ak) ((a1.getD i1 aB.zero).aD)).1) (Z93.fc (a0:=(⟨s3.1,s3.2.1⟩:ak)) (a1:=(a1.getD i1 aB.zero).aD) ⟨⟨hih2.1.1,hih2.1.2⟩,(bf.getD (z:=aB.zero) H1 h2).1⟩)) ?_
      refine aP.bif (fun c8=>?_) (fun c8=>?_)
      ·refine aP.yes lm ?_
       refine aP.inl (by first | exact ⟨hih2.1,ke hih2.2⟩ | exact ⟨Z93.fc ⟨hih2.1,(bf.getD H1 h2).1⟩,ke hih2.2⟩) ?_
       rw [aF h2 Bh2]
       all_goals exact fz
      ·refine aP.yes lm ?_
       refine aP.bif (fun c9=>?_) (fun c9=>?_)
       ·refine cr (Z10.aj (bf.getD (z:=aB.zero) H1 h2).2.1) ?_
        try simp only [SS]
        refine aP.inr ?_
        all_goals exact fz
       ·refine aP.inl (by first | exact ⟨hih2.1,ke hih2.2⟩ | exact ⟨Z93.fc ⟨hih2.1,(bf.getD H1 h2).1⟩,ke hih2.2⟩) ?_
        rw [aF h2 Bh2]
        all_goals exact fz
     ·have dc7:=c7
      try simp only [DC] at dc7
      refine aP.yes lm ?_
      refine aP.bif (fun c10=>?_) (fun c10=>?_)
      ·refine cr (Z10.aj (bf.getD (z:=aB.zero) H1 h2).2.1) ?_
       try simp only [SS]
       refine aP.inr ?_
       all_goals exact fz
      ·refine aP.inl (by first | exact ⟨hih2.1,ke hih2.2⟩ | exact ⟨Z93.fc ⟨hih2.1,(bf.getD H1 h2).1⟩,ke hih2.2⟩) ?_
       rw [aF h2 Bh2]
       all_goals exact fz
    ·have dc6:=c6
     try simp only [DC] at dc6
     refine aP.bif (fun c11=>?_) (fun c11=>?_)
     ·have dc11:=c11
      try simp only [DC] at dc11
      refine aP.bif (fun c12=>?_) (fun c12=>?_)
      ·have dc12:=c12
       try simp only [DC] at dc12
       refine cr (Z120.aj (a0:=(Z93.md (⟨s3.1,s3.2.1⟩:ak) ((a1.getD i1 aB.zero).aD)).1) (Z93.fc (a0:=(⟨s3.1,s3.2.1⟩:ak)) (a1:=(a1.getD i1 aB.zero).aD) ⟨⟨hih2.1.1,hih2.1.2⟩,(bf.getD (z:=aB.zero) H1 h2).1⟩)) ?_
       refine aP.bif (fun c13=>?_) (fun c13=>?_)
       ·refine aP.yes lm ?_
        refine aP.inl (by first | exact ⟨hih2.1,ke hih2.2⟩ | exact ⟨Z93.fc ⟨hih2.1,(bf.getD H1 h2).1⟩,ke hih2.2⟩) ?_
        rw [aF h2 Bh2]
        all_goals exact fz
       ·refine aP.yes lm ?_
        refine aP.bif (fun c14=>?_) (fun c14=>?_)
        ·refine cr (Z10.aj (bf.getD (z:=aB.zero) H1 h2).2.1) ?_
         try simp only [SS]
         refine aP.inr ?_
         all_goals exact fz
        ·refine aP.inl (by first | exact ⟨hih2.1,ke hih2.2⟩ | exact ⟨Z93.fc ⟨hih2.1,(bf.getD H1 h2).1⟩,ke hih2.2⟩) ?_
         rw [aF h2 Bh2]
         all_goals exact fz
      ·have dc12:=c12
       try simp only [DC] at dc12
       refine aP.yes lm ?_
       refine aP.bif (fun c15=>?_) (fun c15=>?_)
       ·refine cr (Z10.aj (bf.getD (z:=aB.zero) H1 h2).2.1) ?_
        try simp only [SS]
        refine aP.inr ?_
        all_goals exact fz
       ·refine aP.inl (by first | exact ⟨hih2.1,ke hih2.2⟩ | exact ⟨Z93.fc ⟨hih2.1,(bf.getD H1 h2).1⟩,ke hih2.2⟩) ?_
        rw [aF h2 Bh2]
        all_goals exact fz
     ·have dc11:=c11
      try simp only [DC] at dc11
      refine aP.bif (fun c16=>?_) (fun c16=>?_)
      ·have dc16:=c16
       try simp only [DC] at dc16
       refine aP.bif (fun c17=>?_) (fun c17=>?_)
       ·have dc17:=c17
        try simp only [DC] at dc17
        refine aP.yes lm ?_
        refine aP.inl (by first | exact ⟨hih2.1,ke hih2.2⟩ | exact ⟨Z93.fc ⟨hih2.1,(bf.getD H1 h2).1⟩,ke hih2.2⟩) ?_
        rw [aF h2 Bh2]
        all_goals exact fz
       ·have dc17:=c17
        try simp only [DC] at dc17
        refine cr (Z120.aj (a0:=(Z93.md (⟨s3.1,s3.2.1⟩:ak) ((a1.getD i1 aB.zero).aD)).1) (Z93.fc (a0:=(⟨s3.1,s3.2.1⟩:ak)) (a1:=(a1.getD i1 aB.zero).aD) ⟨⟨hih2.1.1,hih2.1.2⟩,(bf.getD (z:=aB.zero) H1 h2).1⟩)) ?_
        refine aP.bif (fun c18=>?_) (fun c18=>?_)
        ·refine aP.yes lm ?_
         refine aP.inl (by first | exact ⟨hih2.1,ke hih2.2⟩ | exact ⟨Z93.fc ⟨hih2.1,(bf.getD H1 h2).1⟩,ke hih2.2⟩) ?_
         rw [aF h2 Bh2]
         all_goals exact fz
        ·refine aP.yes lm ?_
         refine aP.bif (fun c19=>?_) (fun c19=>?_)
         ·refine cr (Z10.aj (bf.getD (z:=aB.zero) H1 h2).2.1) ?_
          try simp only [SS]
          refine aP.inr ?_
          all_goals exact fz
         ·refine aP.inl (by first | exact ⟨hih2.1,ke hih2.2⟩ | exact ⟨Z93.fc ⟨hih2.1,(bf.getD H1 h2).1⟩,ke hih2.2⟩) ?_
          rw [aF h2 Bh2]
          all_goals exact fz
      ·have dc16:=c16
       try simp only [DC] at dc16
       refine aP.yes lm ?_
       refine aP.bif (fun c20=>?_) (fun c20=>?_)
       ·refine cr (Z10.aj (bf.getD (z:=aB.zero) H1 h2).2.1) ?_
        try simp only [SS]
        refine aP.inr ?_
        all_goals exact fz
       ·refine aP.inl (by first | exact ⟨hih2.1,ke hih2.2⟩ | exact ⟨Z93.fc ⟨hih2.1,(bf.getD H1 h2).1⟩,ke hih2.2⟩) ?_
        rw [aF h2 Bh2]
        all_goals exact fz
   ·have dc5:=c5
    try simp only [DC] at dc5
    refine cr (Z116.aj ⟨H3,(bf.getD (z:=aB.zero) H1 h2)⟩) ?_
    refine aP.bif (fun c21=>?_) (fun c21=>?_)
    ·have dc21:=c21
     try simp only [DC] at dc21
     refine aP.yes lm ?_
     refine aP.inl (by first | exact ⟨hih2.1,ke hih2.2⟩ | exact ⟨Z93.fc ⟨hih2.1,(bf.getD H1 h2).1⟩,ke hih2.2⟩) ?_
     rw [aF h2 Bh2]
     all_goals exact fz
    ·have dc21:=c21
     try simp only [DC] at dc21
     refine aP.yes lm ?_
     refine aP.bif (fun c22=>?_) (fun c22=>?_)
     ·refine cr (Z10.aj (bf.getD (z:=aB.zero) H1 h2).2.1) ?_
      try simp only [SS]
      refine aP.inr ?_
      all_goals exact fz
     ·refine aP.inl (by first | exact ⟨hih2.1,ke hih2.2⟩ | exact ⟨Z93.fc ⟨hih2.1,(bf.getD H1 h2).1⟩,ke hih2.2⟩) ?_
      rw [aF h2 Bh2]
      all_goals exact fz
  ·refine cr (Z116.aj ⟨H3,(bf.getD (z:=aB.zero) H1 h2)⟩) ?_
   refine aP.bif (fun c23=>?_) (fun c23=>?_)
   ·have dc23:=c23
    try simp only [DC] at dc23
    refine aP.yes lm ?_
    refine aP.inl (by first | exact ⟨hih2.1,ke hih2.2⟩ | exact ⟨Z93.fc ⟨hih2.1,(bf.getD H1 h2).1⟩,ke hih2.2⟩) ?_
    rw [aF h2 Bh2]
    all_goals exact fz
   ·have dc23:=c23
    try simp only [DC] at dc23
    refine aP.yes lm ?_
    refine aP.bif (fun c24=>?_) (fun c24=>?_)
    ·refine cr (Z10.aj (bf.getD (z:=aB.zero) H1 h2).2.1) ?_
     try simp only [SS]
     refine aP.inr ?_
     all_goals exact fz
    ·refine aP.inl (by first | exact ⟨hih2.1,ke hih2.2⟩ | exact ⟨Z93.fc ⟨hih2.1,(bf.getD H1 h2).1⟩,ke hih2.2⟩) ?_
     rw [aF h2 Bh2]
     all_goals exact fz
 ·simp only [step,SS]
  have gr_:=hih2
  try simp only [LN] at gr_
  have:=(H1).1
  refine cH (by apply decide_eq_false;omega) ?_
  refine ⟨0,?_⟩
  all_goals exact fz
def af:bZ 48 aK:=L5 99 (fun _=>3) cF dN live step start mix aA bn (vp Z87.af Z61.af Z93.af Z116.af Z120.af Z10.af) Tryz.func48
def xV (z:Int)(l:az)(now:Int)(y:aB)(k:ak):ak×Int:=
 let kn:=bif (Z61.md y.aD).2&&((Z61.md y.aD).1.aS==z) then Z93.md k y.aD else (k,6)
 (kn.1,bif (Z116.md z l y now==1)&&!((kn.2==1||(kn.2==2||kn.2==3))&&!Z120.md kn.1 z) then 3 else Z116.md z l y now)
def zu (z:Int)(l:az)(now:Int)(y:aB)(s:List (List aa)×List aM×List Int):List (List aa)×List aM×List Int⊕bG:=
 bif (xV z l now y ⟨s.1,s.2.1⟩).2==1 then .inr ⟨(xV z l now y ⟨s.1,s.2.1⟩).1,y.bO,y.aR,true,s.2.2++[(xV z l now y ⟨s.1,s.2.1⟩).2]⟩
 else .inl ((xV z l now y ⟨s.1,s.2.1⟩).1.aH,(xV z l now y ⟨s.1,s.2.1⟩).1.bg,s.2.2++[(xV z l now y ⟨s.1,s.2.1⟩).2])
def fin (s:List (List aa)×List aM×List Int):bG:=⟨⟨s.1,s.2.1⟩,false,⟨⟨#[]⟩,0,0,[]⟩,false,s.2.2⟩
def vT (a0:ak)(a1:List aB)(a2:Int)(a3:az)(a4:Int):md a0 a1 a2 a3 a4=dQ (zu a2 a3 a4) fin a1 (a0.aH,a0.bg,[]):=by
 unfold md
 refine rA (fun y _ s=>?_) (fun s=>rfl)
 have h31:((3:Int)==1)=false:=rfl
 have h61:((6:Int)==1)=false:=rfl
 have h62:((6:Int)==2)=false:=rfl
 have h63:((6:Int)==3)=false:=rfl
 unfold zu xV
 cases g1:(Z61.md y.aD).2
 ·cases g2:(Z116.md a2 a3 y a4==1)<;>simp [g2,h31,h61,h62,h63]
 cases g3:((Z61.md y.aD).1.aS==a2)
 ·cases g2:(Z116.md a2 a3 y a4==1)<;>simp [g2,h31,h61,h62,h63]
 generalize Z93.md (⟨s.1,s.2.1⟩:ak) y.aD=r
 cases g2:(Z116.md a2 a3 y a4==1)<;>cases g4:(r.2==1)<;>cases g5:(r.2==2)<;>cases g6:(r.2==3)<;>cases g7:Z120.md r.1 a2<;>simp [g2,g4,g5,g6,g7,h31]
def Dz {z:Int}{l:az}{now:Int}{y:aB}{k:ak}(hk:ak.Sm (2^21) k)(hy:aB.Sm (2^21) y):ak.Sm (2^21) (xV z l now y k).1:=by
 unfold xV
 cases (Z61.md y.aD).2&&((Z61.md y.aD).1.aS==z)
 ·exact hk
 ·exact Z93.fc ⟨hk,hy.1⟩
def xx {z:Int}{l:az}{now:Int}:∀(xs:List aB) (s:List (List aa)×List aM×List Int),ak.Sm (2^21) ⟨s.1,s.2.1⟩->(∀y∈xs,aB.Sm (2^21) y)->s.2.2.length+xs.length<=2^21->bG.Sm (2^21) (dQ (zu z l now) fin xs s)
 | [],s,hk,_,hc=>⟨hk,⟨zero_le _,bf.nil⟩,hc,fun _ _=>trivial⟩
 | y::xs,s,hk,hx,hc=>by
  have hy:=hx y (by simp)
  have he:=Dz (z:=z) (l:=l) (now:=now) hk hy
  simp only [List.length_cons] at hc
  unfold dQ
  cases hb:(xV z l now y ⟨s.1,s.2.1⟩).2==1
  ·have e:zu z l now y s=.inl ((xV z l now y ⟨s.1,s.2.1⟩).1.aH,(xV z l now y ⟨s.1,s.2.1⟩).1.bg,s.2.2++[(xV z l now y ⟨s.1,s.2.1⟩).2]):=by unfold zu;rw [hb];rfl
   rw [e]
   exact xx xs _ he (fun y hy=>hx y (by simp [hy])) (by simp only [List.length_append,List.length_cons,List.length_nil];omega)
  ·have e:zu z l now y s=.inr ⟨(xV z l now y ⟨s.1,s.2.1⟩).1,y.bO,y.aR,true,s.2.2++[(xV z l now y ⟨s.1,s.2.1⟩).2]⟩:=by unfold zu;rw [hb];rfl
   rw [e]
   exact ⟨he,hy.2.1,by simp only [List.length_append,List.length_cons,List.length_nil];omega,fun _ _=>trivial⟩
def fc {a0:ak}{a1:List aB}{a2:Int}{a3:az}{a4:Int}(hg:gd a0 a1 a2 a3 a4):bG.Sm (2^21) (md a0 a1 a2 a3 a4):=by
 unfold gd at hg
 rw [vT]
 exact xx a1 _ hg.1 hg.2.1.2 (by have:=hg.2.1.1;simp only [List.length_nil];omega)
end Z121
namespace Z122
def F (x0:cP):aC:=(cond (!x0.kZ) (ret (((⟨(⟨#[]⟩:az),0,0,[]⟩),false):bp×Bool)) (cond (!x0.bO) (ret (((⟨(⟨#[]⟩:az),0,0,[]⟩),false):bp×Bool)) (call (Z10.R x0.aR) fun v1=>ret ((v1,true):bp×Bool))))
def md (a0:bG):ah×Bool:=(cond (!a0.kZ) ((⟨((⟨#[]⟩:az)),0,0,[]⟩),false) (cond (!a0.bO) ((⟨((⟨#[]⟩:az)),0,0,[]⟩),false) (a0.aR,true)))
def gd (a0:bG):Prop:=(bG.Sm (2^21) a0)
def R:=RR gd md
def aj {a0}(h:gd a0):R (bG.r a0)=some ((ah.r (md a0).1),(md a0).2):=cO h
def aK:=CN [.agg E9] (.gS [(true,f62),(false,[fB])]) RT.dec R
def bn (a0)(H0:gd a0):F (bG.r a0)=ret ((ah.r (md a0).1),(md a0).2):=by
 refine bP (fun b:ah×Bool=>ret (((ah.r b.1),b.2):bp×Bool)) (fun c1=>fz) (fun c1=>?_)
 exact bP (fun b:ah×Bool=>ret (((ah.r b.1),b.2):bp×Bool)) (fun c2=>fz) (fun c2=>ct (Z10.aj H0.2.1) fz)
def af:bZ 186 aK:=W1 16 F mix aA bn (cM Z10.af) Tryz.func186
end Z122
namespace Z123
def F (x0:cP):aC:=(cond x0.kZ (ret ((!x0.bO))) (ret false))
def md (a0:bG):Bool:=(cond a0.kZ ((!a0.bO)) false)
def gd (a0:bG):Prop:=True
def R:=RR gd md
def aj {a0}(h:gd a0):R (bG.r a0)=some (md a0):=cO h
def aK:=CN [.agg E9] oB RT.dec R
def bn (a0)(hg:gd a0):F (bG.r a0)=ret (md a0):=by
 refine bs (fun c1=>?_) (fun _=>rfl)
 exact fz
def af:bZ 187 aK:=W1 10 F mix aA bn .nil Tryz.func187
end Z123
namespace Z124
inductive Pt where
 | p0 (a:an) (b c:Int) (d:an) (e:Int) (f:az) (g h i j:Int) (k:az) (l m n:Int) (o p q:an)
def cF:Pt->List V
 | .p0 a b c d e f g h i j k l m n o p q=>[.sl none 280 a,.int .i64 b,.bN 0 0,.bN 1 0,.int .i64 c,.sl none 9 d,.bN 1 0]
def dN:Pt->List aL
 | .p0 a b c d e f g h i j k l m n o p q=>[.box [.nil,.nil,.int .i64 e,.str f,.int .i64 g,.int .i64 h,.nil,.nil,.int .i64 i],.box [.own 2,.own 3,.int .i64 j,.str k,.int .i64 l,.int .i64 m,.nil,.own 4,.int .i64 n],.row 37 o,.row 170 p,.row 3 q]
def step (J:Pt->aC):Pt->aC
 | .p0 a b c d e f g h i j k l m n o p q=>(ck (eG (((q.length:Int)+1)*8)) (ck ((0:Int)<(d.length:Int)) (call (Z105.R (a,c,(rV d 0))) fun v1=>(ck ((0:Int)<(d.length:Int)) (call (Z121.R ((⟨o,p⟩:aW),v1,c,(rV d 0),b)) fun v2=>(call (Z122.R v2) fun v3=>(call (Z123.R v2) fun v4=>(cond v4 (ret ((⟨v2.bS,2,(⟨k,l,m,[]⟩:bp),(q++[[L.int c]]),n⟩:cw):cw)) (cond (!v3.2) (ret ((⟨v2.bS,3,(⟨k,l,m,[]⟩:bp),(q++[[L.int c]]),n⟩:cw):cw)) (cond (v3.1.bE==3) (call (Z9.R v3.1.bD) fun v5=>(ck ((1:Int)<=(d.length:Int)) (ck ((d.length:Int)<=(d.length:Int)) (ck (eG (((v5.length:Int)+((List.take (toNat ((d.length:Int) - 1)) (List.drop 1 d)).length:Int))*16)) (cond (n>=3) (ret ((⟨v2.bS,5,(⟨k,l,m,[]⟩:bp),(q++[[L.int c]]),n⟩:cw):cw)) (call (Z13.R (v5++(List.take (toNat ((d.length:Int) - 1)) (List.drop 1 d)))) fun v6=>(cond (!v6) (ret ((⟨v2.bS,5,(⟨k,l,m,[]⟩:bp),(q++[[L.int c]]),n⟩:cw):cw)) (J (.p0 a b v3.1.bY (v5++(List.take (toNat ((d.length:Int) - 1)) (List.drop 1 d))) e f g h i j k l m (i64.wrap (n+1)) v2.bS.aH v2.bS.bg (q++[[L.int c]])))))))))) (cond ((d.length:Int)==1) (ret ((⟨v2.bS,1,v3.1,(q++[[L.int c]]),n⟩:cw):cw)) (cond (v3.1.bE != 2) (ret ((⟨v2.bS,4,(⟨k,l,m,[]⟩:bp),(q++[[L.int c]]),n⟩:cw):cw)) (ck ((1:Int)<=(d.length:Int)) (ck ((d.length:Int)<=(d.length:Int)) (J (.p0 a b v3.1.bY (List.take (toNat ((d.length:Int) - 1)) (List.drop 1 d)) e f g h i j k l m n v2.bS.aH v2.bS.bg (q++[[L.int c]])))))))))))))))))
def start (J:Pt->aC)(x0:aW)(x1:an)(x2:Int)(x3:an)(x4:Int):aC:=(call (Z87.R x0) fun v1=>(call (Z13.R x3) fun v2=>(cond (!v2) (ret ((⟨v1,6,(⟨(⟨#[]⟩:az),0,0,[]⟩:bp),[],0⟩:cw):cw)) (call (Z9.R x3) fun v3=>J (.p0 x1 x4 x2 v3 0 ⟨#[]⟩ 0 0 0 6 ⟨#[]⟩ 0 0 0 v1.aH v1.bg [])))))
def live:Nat->Live:=gx [(6,[(1,none),(4,none),(10,none),(11,none),(12,none),(13,some 1099511627785),(11,some 7340035)])]
def nx (l:bG)(mv:Int)(p:List az):(Int×ah)⊕(Int×Int×List az):=
 bif !l.kZ then .inl (3,⟨⟨#[]⟩,0,0,[]⟩) else bif !l.bO then .inl (2,⟨⟨#[]⟩,0,0,[]⟩)
 else bif l.aR.bE==3 then (cond (mv>=3) (.inl (5,⟨⟨#[]⟩,0,0,[]⟩)) (bif !Z13.md (l.aR.bD++p.tail) then .inl (5,⟨⟨#[]⟩,0,0,[]⟩) else .inr (mv+1,l.aR.bY,l.aR.bD++p.tail)))
 else bif (p.tail.length:Int)==0 then .inl (1,l.aR) else bif l.aR.bE==2 then .inr (mv,l.aR.bY,p.tail) else .inl (4,⟨⟨#[]⟩,0,0,[]⟩)
def rs {σ:Type}(look:σ->ak->Int->az->bG×σ):Nat->σ->ak->List Int->Int->Int->List az->av×σ
 | 0,c,k,zs,mv,_,_=>(⟨k,0,⟨⟨#[]⟩,0,0,[]⟩,zs,mv⟩,c)
 | n+1,c,k,zs,mv,z,p=>match nx (look c k z (p.getD 0 ⟨#[]⟩)).1 mv p with
  | .inl q=>(⟨(look c k z (p.getD 0 ⟨#[]⟩)).1.bS,q.1,q.2,zs++[z],mv⟩,(look c k z (p.getD 0 ⟨#[]⟩)).2)
  | .inr q=>rs look n (look c k z (p.getD 0 ⟨#[]⟩)).2 (look c k z (p.getD 0 ⟨#[]⟩)).1.bS (zs++[z]) q.1 q.2.1 q.2.2
def lk (s:List ay)(now:Int)(_:Unit)(k:ak)(z:Int)(l:az):bG×Unit:=(Z121.md k (Z105.md s z l) z l now,())
def yg {σ:Type}{look:σ->ak->Int->az->bG×σ}{n:Nat}{c:σ}{k:ak}{zs:List Int}{mv z:Int}{p:List az}{q:Int×ah}(h:nx (look c k z (p.getD 0 ⟨#[]⟩)).1 mv p=.inl q) :
  rs look (n+1) c k zs mv z p=(⟨(look c k z (p.getD 0 ⟨#[]⟩)).1.bS,q.1,q.2,zs++[z],mv⟩,(look c k z (p.getD 0 ⟨#[]⟩)).2):=by
 show (match nx (look c k z (p.getD 0 ⟨#[]⟩)).1 mv p with | .inl q=>_ | .inr q=>_)=_
 rw [h]
def yc {σ:Type}{look:σ->ak->Int->az->bG×σ}{n:Nat}{c:σ}{k:ak}{zs:List Int}{mv z:Int}{p:List az}{q:Int×Int×List az}(h:nx (look c k z (p.getD 0 ⟨#[]⟩)).1 mv p=.inr q) :
  rs look (n+1) c k zs mv z p=rs look n (look c k z (p.getD 0 ⟨#[]⟩)).2 (look c k z (p.getD 0 ⟨#[]⟩)).1.bS (zs++[z]) q.1 q.2.1 q.2.2:=by
 show (match nx (look c k z (p.getD 0 ⟨#[]⟩)).1 mv p with | .inl q=>_ | .inr q=>_)=_
 rw [h]
def zw {Pt:Type}{step:(Pt->aC)->Pt->aC}{p:Pt}{r:aC}(h:∃m,step (iter step m) p=r):∃m,iter step m p=r:=h.elim fun m h=>⟨m+1,h⟩
def md (a0:ak)(a1:List ay)(a2:Int)(a3:List az)(a4:Int):av:=(cond (!Z13.md a3) ⟨a0,6,⟨⟨#[]⟩,0,0,[]⟩,[],0⟩ ((rs (lk a1 a4) 17 () a0 [] 0 a2 a3).1))
def gd (a0:ak)(a1:List ay)(a2:Int)(a3:List az)(a4:Int):Prop:=(ak.Sm (2^21) a0)/\(bf (2^21) (fun y:ay=>ay.Sm (2^21) y) a1)/\(bf (2^21) (fun y:az=>y.size<=(2^21)) a3)
def R:=qL gd md
def aj {a0 a1 a2 a3 a4}(h:gd a0 a1 a2 a3 a4):R ((ak.r a0),(a1.map ay.row),a2,(a3.map dO),a4)=some (av.r (md a0 a1 a2 a3 a4)):=qA h
def aK:=CN [.agg vF,pL 280,pI,pL 9,pI] (.agg f108) RT.dec R
def bn (a0)(a1)(a2)(a3)(a4)(hg:gd a0 a1 a2 a3 a4):∃n,start (iter step n) (ak.r a0) (a1.map ay.row) a2 (a3.map dO) a4=ret (av.r (md a0 a1 a2 a3 a4)):=by
 obtain ⟨H0,H1,H3⟩:=hg
 have key:∀(n:Nat) (k:ak) (zs:List Int) (mv z:Int) (p:List az),ak.Sm (2^21) k->Z13.md p=true->0<=mv->mv<=3->(3 - mv)*4+(p.length:Int)<=n->zs.length+n<=100->
   ∃m,iter step m (Pt.p0 (a1.map ay.row) a4 z (p.map dO) 0 ⟨#[]⟩ 0 0 0 6 ⟨#[]⟩ 0 0 mv (k.aH.map (eF aa.row)) (k.bg.map aM.row) (zs.map aQ))=ret (av.r (rs (lk a1 a4) n () k zs mv z p).1):=by
  intro n
  induction n with
  | zero=>intro k zs mv z p _ hp _ _ hm _;have:=(Z13.tr hp).1;omega
  | succ n ih=>
   intro k zs mv z p hk hp h0 h3 hm hz
   obtain ⟨⟨p1,p4⟩,p8⟩:=Z13.tr hp
   obtain ⟨x,xs,rfl⟩:∃x xs,p=x::xs:=by
    cases p with
    | nil=>simp at p1
    | cons x xs=>exact ⟨x,xs,rfl⟩
   have hx:x.size<=2^21:=le_trans (p8 x (by simp)) (by decide)
   have hxs:∀y∈xs,y.size<=2^22:=fun y hy=>le_trans (p8 y (by simp [hy])) (by decide)
   have hask:=Z105.fc (a0:=a1) (a1:=z) (a2:=x) ⟨H1,hx⟩
   have hlk:=Z121.fc (a0:=k) (a1:=Z105.md a1 z x) (a2:=z) (a3:=x) (a4:=a4) ⟨hk,hask,hx⟩
   have hat:rV ((x::xs).map dO) 0=x:=rfl
   have hg0:(x::xs).getD 0 ⟨#[]⟩=x:=rfl
   have ht:List.take (toNat (((xs.length+1:Nat):Int) - 1)) (List.drop 1 ((x::xs).map dO))=xs.map dO:=by
    simp only [List.map_cons,List.drop_succ_cons,List.drop_zero]
    exact List.take_of_length_le (by simp)
   have hkn:(lk a1 a4 () k z ((x::xs).getD 0 ⟨#[]⟩)).1=Z121.md k (Z105.md a1 z x) z x a4:=rfl
   simp only [List.length_cons] at p4 hm
   refine zw ?_
   simp only [step,hat,List.length_map,List.length_cons,ht]
   refine dJ lm ?_
   refine dJ dt ?_
   refine cx (Z105.aj (a0:=a1) ⟨H1,hx⟩) ?_
   refine dJ dt ?_
   refine cx (Z121.aj (a0:=k) (a1:=Z105.md a1 z x) ⟨hk,hask,hx⟩) ?_
   have hcase:∀q,nx (Z121.md k (Z105.md a1 z x) z x a4) mv (x::xs)=.inl q->rs (lk a1 a4) (n+1) () k zs mv z (x::xs)=(⟨(Z121.md k (Z105.md a1 z x) z x a4).bS,q.1,q.2,zs++[z],mv⟩,()):=fun q hq=>yg hq
   have hcase2:∀q,nx (Z121.md k (Z105.md a1 z x) z x a4) mv (x::xs)=.inr q->rs (lk a1 a4) (n+1) () k zs mv z (x::xs)=rs (lk a1 a4) n () (Z121.md k (Z105.md a1 z x) z x a4).bS (zs++[z]) q.1 q.2.1 q.2.2:=fun q hq=>yc hq
   revert hcase hcase2 hlk
   generalize Z121.md k (Z105.md a1 z x) z x a4=l
   intro hlk hcase hcase2
   refine cx (Z122.aj (a0:=l) hlk) ?_
   refine cx (Z123.aj (a0:=l) trivial) ?_
   obtain ⟨lk0,lf,le,ld,lc⟩:=l
   unfold nx at hcase hcase2
   unfold Z123.md Z122.md
   cases ld
   ·exact ⟨0,by rw [hcase _ rfl];exact fz⟩
   cases lf
   ·exact ⟨0,by rw [hcase _ rfl];exact fz⟩
   simp only [Bool.not_true,aU,aO,List.tail_cons] at hcase hcase2 ⊢
   have hpl:bf (2^21) (fun y:az=>y.size<=(2^21)) le.bD:=hlk.2.1.2
   have hpl1:le.bD.length<=2^21:=hpl.1
   have hzz:zs.map aQ++[[L.int z]]=(zs++[z]).map aQ:=by simp [aQ]
   try simp only [SS]
   cases hk3:(le.bE==3)
   ·simp only [hk3,aU] at hcase hcase2 ⊢
    by_cases hx0:xs.length=0
    ·have e0:((xs.length:Int)==0)=true:=by simp [hx0]
     rw [e0] at hcase
     exact ⟨0,by rw [hcase _ rfl];exact aG (beq_iff_eq.2 (by omega)) fz⟩
    ·have e0:((xs.length:Int)==0)=false:=by simpa using hx0
     rw [e0] at hcase hcase2
     refine cH (beq_eq_false_iff_ne.2 (by omega)) ?_
     cases hk2:(le.bE==2)
     ·simp only [hk2,aU] at hcase
      exact ⟨0,by rw [hcase _ rfl];exact aG (by simpa using hk2) fz⟩
     ·simp only [hk2,aU,aO] at hcase2
      refine cH (by simpa using hk2) (dJ dt (dJ dt ?_))
      have hip:Z13.md xs=true:=Z13.tl hp hx0
      rw [hcase2 _ rfl,hzz]
      exact ih lk0 (zs++[z]) mv le.bY xs hlk.1 hip h0 h3 (by omega) (by simp;omega)
   ·simp only [hk3,aO] at hcase hcase2 ⊢
    refine cx (Z9.aj (a0:=le.bD) hpl) ?_
    refine dJ dt (dJ dt (dJ (by have :(le.bD.map dO).length=le.bD.length:=List.length_map ..;have :(xs.map dO).length=xs.length:=List.length_map ..;exact fQ (by omega)) ?_))
    by_cases hmv:mv>=3
    ·rw [decide_eq_true hmv] at hcase ⊢
     exact ⟨0,by rw [hcase _ rfl];exact fz⟩
    ·rw [decide_eq_false hmv] at hcase hcase2 ⊢
     simp only [aU] at hcase hcase2 ⊢
     have e:le.bD.map dO++xs.map dO=(le.bD++xs).map dO:=by simp
     rw [e]
     refine cx (Z13.aj (a0:=le.bD++xs) ⟨by rw [List.length_append];omega,fun y hy=>(List.mem_append.1 hy).elim (fun h=>le_trans (hpl.2 y h) (by decide)) (hxs y)⟩) ?_
     cases hip:Z13.md (le.bD++xs)
     ·rw [hip] at hcase
      exact ⟨0,by rw [hcase _ rfl];exact fz⟩
     ·rw [hip] at hcase2
      have ht:=Z13.tr hip
      rw [hcase2 _ rfl,hzz,wi _ (by omega)]
      exact ih lk0 (zs++[z]) (mv+1) le.bY (le.bD++xs) hlk.1 hip (by omega) (by omega) (by omega) (by simp;omega)
 unfold start md
 refine cx (Z87.aj (a0:=a0) H0) ?_
 refine cx (Z13.aj (a0:=a3) (bf.mono H3 (by decide) (fun y hy=>le_trans hy (by decide)))) ?_
 cases hp:Z13.md a3
 ·exact ⟨0,rfl⟩
 ·simp only [Bool.not_true,aU]
  refine cx (Z9.aj (a0:=a3) H3) ?_
  exact key 17 a0 [] 0 a2 a3 H0 hp (by decide) (by decide) (by have:=(Z13.tr hp).1;omega) (by simp)
def af:bZ 62 aK:=L5 109 (fun _=>6) cF dN live step start mix aA bn (Ad Z87.af Z13.af Z9.af Z105.af Z121.af Z122.af Z123.af) Tryz.func62
def DY {l:bG}{mv:Int}{p:List az}{q:Int×ah}(h:nx l mv p=.inl q)(hl:ah.Sm (2^21) l.aR):ah.Sm (2^21) q.2:=by
 have ez:ah.Sm (2^21) ⟨⟨#[]⟩,0,0,[]⟩:=⟨zero_le _,bf.nil⟩
 unfold nx at h
 simp only [Bool.cond_eq_ite] at h
 revert h
 repeat' split
 all_goals (intro h;first | (cases h;done) | (injection h with h;subst h;first | exact hl | exact ez))
def B4 {l:bG}{mv:Int}{p:List az}{q:Int×Int×List az}(h:nx l mv p=.inr q)(hp:Z13.md p=true):Z13.md q.2.2=true:=by
 cases p with
 | nil=>have:=(Z13.tr hp).1;simp at this
 | cons x xs=>
  unfold nx at h
  simp only [Bool.cond_eq_ite,List.tail_cons] at h
  revert h
  repeat' split
  all_goals (intro h;first | (cases h;done) | (injection h with h;subst h;first | (rename_i h0 _;exact Z13.tl hp (by intro e;simp [e] at h0)) | simp_all))
def CZ {σ:Type}{look:σ->ak->Int->az->bG×σ}(I:σ->Prop)(hl:∀c k z s,I c->ak.Sm (2^21) k->s.size<=2^21->bG.Sm (2^21) (look c k z s).1/\I (look c k z s).2) :
  ∀(n:Nat) (c:σ) (k:ak) (zs:List Int) (mv z:Int) (p:List az),I c->ak.Sm (2^21) k->Z13.md p=true->zs.length+n<=2^21->
   av.Sm (2^21) (rs look n c k zs mv z p).1/\I (rs look n c k zs mv z p).2
 | 0,c,k,zs,mv,z,p,hi,hk,_,hz=>⟨⟨hk,⟨zero_le _,bf.nil⟩,hz,fun _ _=>trivial⟩,hi⟩
 | n+1,c,k,zs,mv,z,p,hi,hk,hp,hz=>by
  have h8:=(Z13.tr hp).2
  have hx:(p.getD 0 ⟨#[]⟩).size<=2^21:=by
   cases p with
   | nil=>exact zero_le _
   | cons x xs=>exact le_trans (h8 x (by simp)) (by decide)
  obtain ⟨h1,h2⟩:=hl c k z (p.getD 0 ⟨#[]⟩) hi hk hx
  cases hn:nx (look c k z (p.getD 0 ⟨#[]⟩)).1 mv p with
  | inl q=>
   rw [yg hn]
   exact ⟨⟨h1.1,DY hn h1.2.1,by simp only [List.length_append,List.length_cons,List.length_nil];omega,fun _ _=>trivial⟩,h2⟩
  | inr q=>
   rw [yc hn]
   exact CZ I hl n _ _ _ _ _ _ h2 h1.1 (B4 hn hp) (by simp only [List.length_append,List.length_cons,List.length_nil];omega)
def fc {a0:ak}{a1:List ay}{a2:Int}{a3:List az}{a4:Int}(hg:gd a0 a1 a2 a3 a4):av.Sm (2^21) (md a0 a1 a2 a3 a4):=by
 unfold gd at hg
 unfold md
 cases hp:Z13.md a3
 ·exact ⟨hg.1,⟨zero_le _,bf.nil⟩,zero_le _,fun _ _=>trivial⟩
 ·simp only [Bool.not_true,aU]
  exact (CZ (look:=lk a1 a4) (fun _=>True) (fun c k z s _ hk hs=>⟨Z121.fc ⟨hk,Z105.fc ⟨hg.2.1,hs⟩,hs⟩,trivial⟩) 17 () a0 [] 0 a2 a3 trivial hg.1 hp (show 0+17<=2^21 by omega)).1
end Z124
namespace Z125
inductive Pt where
 | p0 (a b c:an) (d e:Int) (f g h:an)
def cF:Pt->List V
 | .p0 a b c d e f g h=>[.sl none 280 a,.sl none 232 b,.sl none 9 c,.int .i64 d,.bN 0 0,.own 1,.bN 2 0,.int .i64 e]
def dN:Pt->List aL
 | .p0 a b c d e f g h=>[.box [.nil,.nil],.row 108 f,.box [.own 3,.own 4],.row 37 g,.row 170 h]
def step (J:Pt->aC):Pt->aC
 | .p0 a b c d e f g h=>(cond (e<(b.length:Int)) (cond (e<3) (m2 e (b.length:Int) (call (Z124.R ((⟨g,h⟩:aW),a,(aX.at b (toNat e)).aS,c,d)) fun v1=>(call (Z87.R v1.bS) fun v2=>(ck (eG (((f.length:Int)+1)*144)) (J (.p0 a b c d (i64.wrap (e+1)) (f++[(cw.enc v1)]) v2.aH v2.bg)))))) (ret ((f,(⟨g,h⟩:aW)):an×aW))) (ret ((f,(⟨g,h⟩:aW)):an×aW)))
def start (J:Pt->aC)(x0:aW)(x1 x2 x3:an)(x4:Int):aC:=(call (Z87.R x0) fun v1=>J (.p0 x1 x2 x3 x4 0 [] v1.aH v1.bg))
def live:Nat->Live:=gx [(4,[(1,none),(2,none),(3,none),(4,none),(11,none),(12,some 108),(13,none),(14,none)])]
def md (a0:ak)(a1:List ay)(a2:List aX)(a3:List az)(a4:Int):List av×ak:=(dD (S:=List av×List (List aa)×List aM) (β:=List av×ak) (fun (i1:Nat) (y1:aX) (s3:List av×List (List aa)×List aM)=>(cond ((i1:Int)<3) (.inl ((s3.1++[(Z124.md (⟨s3.2.1,s3.2.2⟩:ak) a1 (y1.aS) a3 a4)]),((Z124.md (⟨s3.2.1,s3.2.2⟩:ak) a1 (y1.aS) a3 a4).bS).aH,((Z124.md (⟨s3.2.1,s3.2.2⟩:ak) a1 (y1.aS) a3 a4).bS).bg)) (.inr (s3.1,(⟨s3.2.1,s3.2.2⟩:ak))))) (fun (s3:List av×List (List aa)×List aM)=>(s3.1,(⟨s3.2.1,s3.2.2⟩:ak))) 0 a2 ([],a0.aH,a0.bg))
def gd (a0:ak)(a1:List ay)(a2:List aX)(a3:List az)(a4:Int):Prop:=(ak.Sm (2^21) a0)/\(bf (2^21) (fun y:ay=>ay.Sm (2^21) y) a1)/\(bf (2^21) (fun y:aX=>aX.Sm (2^21) y) a2)/\(bf (2^21) (fun y:az=>y.size<=(2^21)) a3)
def R:=qL gd md
def aj {a0 a1 a2 a3 a4}(h:gd a0 a1 a2 a3 a4):R ((ak.r a0),(a1.map ay.row),(a2.map aX.row),(a3.map dO),a4)=some (((md a0 a1 a2 a3 a4).1.map av.row),(ak.r (md a0 a1 a2 a3 a4).2)):=qA h
def aK:=CN [.agg vF,pL 280,pL 232,pL 9,pI] (.gS [(false,[.fr 108]),(true,f36)]) RT.dec R
def bn (a0)(a1)(a2)(a3)(a4)(hg:gd a0 a1 a2 a3 a4):∃n,start (iter step n) (ak.r a0) (a1.map ay.row) (a2.map aX.row) (a3.map dO) a4=ret (((md a0 a1 a2 a3 a4).1.map av.row),(ak.r (md a0 a1 a2 a3 a4).2)):=by
 obtain ⟨H0,H1,H2,H3⟩:=hg
 unfold start md
 try simp only [SS]
 refine cx (Z87.aj H0) ?_
 try simp only [SS]
 have Bh2:a2.length<=maxLen:=(by
   have:=(H2).1
   try simp only [maxLen] at *
   omega)
 refine ex_eq (out:=(fun b:List av×ak=>ret (((b.1.map av.row),(ak.r b.2)):an×aW))) (cC (z:=aX.zero)) ?_
 refine dc (p:=Pt.p0 (a1.map ay.row) (a2.map aX.row) (a3.map dO) a4 0 ([].map av.row) (a0.aH.map (eF aa.row)) (a0.bg.map aM.row)) fz ?_
 refine bH (pt:=fun (i1:Nat) (s3:List av×List (List aa)×List aM)=>Pt.p0 (a1.map ay.row) (a2.map aX.row) (a3.map dO) a4 (i1:Int) (s3.1.map av.row) (s3.2.1.map (eF aa.row)) (s3.2.2.map aM.row)) (s:=(([],a0.aH,a0.bg):List av×List (List aa)×List aM)) (out:=(fun b:List av×ak=>ret (((b.1.map av.row),(ak.r b.2)):an×aW))) (fun (i1:Nat) (s3:List av×List (List aa)×List aM)=>ak.Sm (2^21) (⟨s3.2.1,s3.2.2⟩:ak)/\s3.1.length<=i1) (fun J i1 s3 h2 hih2=>?_) (fun s3 hih2=>?_) ⟨H0,zero_le _⟩
 ·simp only [step,SS]
  have gr_:=hih2
  try simp only [LN] at gr_
  have bb_:=Bh2
  simp only [maxLen] at bb_
  have:=(H2).1
  refine aP.yes (by apply decide_eq_true;omega) ?_
  refine aP.bif (fun c4=>?_) (fun c4=>?_)
  ·have dc4:=c4
   try simp only [DC] at dc4
   refine aP.yes bu ?_
   refine aP.yes (bK h2) ?_
   refine cr (Z124.aj (a0:=(⟨s3.2.1,s3.2.2⟩:ak)) ⟨⟨hih2.1.1,hih2.1.2⟩,H1,H3⟩) ?_
   try simp only [SS]
   refine cr (Z87.aj (a0:=(Z124.md (⟨s3.2.1,s3.2.2⟩:ak) a1 ((a2.getD i1 aX.zero).aS) a3 a4).bS) (Z124.fc (a0:=(⟨s3.2.1,s3.2.2⟩:ak)) (a1:=a1) (a2:=(a2.getD i1 aX.zero).aS) (a3:=a3) (a4:=a4) ⟨⟨hih2.1.1,hih2.1.2⟩,H1,H3⟩).1) ?_
   try simp only [SS]
   refine aP.yes lm ?_
   refine aP.inl (by exact ⟨(Z124.fc ⟨hih2.1,H1,H3⟩).1,ke hih2.2⟩) ?_
   rw [aF h2 Bh2]
   all_goals exact fz
  ·refine aP.inr ?_
   all_goals exact fz
 ·simp only [step,SS]
  have gr_:=hih2
  try simp only [LN] at gr_
  have:=(H2).1
  refine cH (by apply decide_eq_false;omega) ?_
  refine ⟨0,?_⟩
  all_goals exact fz
def af:bZ 70 aK:=L5 48 (fun _=>4) cF dN live step start mix aA bn (eS Z87.af Z124.af) Tryz.func70
def zu (a1:List ay)(a3:List az)(a4:Int)(i:Nat)(y:aX)(s:List av×List (List aa)×List aM):(List av×List (List aa)×List aM)⊕(List av×ak):=
 bif (decide ((i:Int)<3)) then (.inl ((s.1++[(Z124.md (⟨s.2.1,s.2.2⟩:ak) a1 (y.aS) a3 a4)]),((Z124.md (⟨s.2.1,s.2.2⟩:ak) a1 (y.aS) a3 a4).bS).aH,((Z124.md (⟨s.2.1,s.2.2⟩:ak) a1 (y.aS) a3 a4).bS).bg)) else (.inr (s.1,(⟨s.2.1,s.2.2⟩:ak)))
end Z125
namespace Z126
def F (x0:an):aC:=(cond x0.isEmpty (either (ret ([]:an)) ((ck (eG (x0.length*8)) (ret (x0:an))))) (ck (eG (x0.length*8)) (ret (x0:an))))
def md (a0:List Int):List Int:=a0
def gd (a0:List Int):Prop:=bf (2^38) (fun y:Int=>True) a0
def R:=RR gd md
def aj {a0}(h:gd a0):R (a0.map aQ)=some (a0.map aQ):=cO h
def aK:=CN [pL 3] (oL 3) RT.dec R
def bn (a0)(hg:gd a0):F (a0.map aQ)=ret ((md a0).map aQ):=by
 have H0:=hg.1
 unfold F md
 have hl:eG (((a0.map aQ).length:Int)*8)=true:=fQ (by simp only [List.length_map];omega)
 simp only [hl,aO]
 cases a0 with
 | nil=>exact ng
 | cons x xs=>rfl
def af:bZ 313 aK:=W1 8 F mix aA bn .nil Tryz.func313
end Z126
namespace Z127
def F (x0:cV):aC:=(call (Z126.R x0.bz) fun v1=>ret ((⟨v1,x0.dh⟩):cV))
def md (a0:aN):aN:=a0
def gd (a0:aN):Prop:=(aN.Sm (2^21) a0)
def R:=RR gd md
def aj {a0}(h:gd a0):R (aN.r a0)=some (aN.r a0):=cO h
def aK:=CN [.agg qR] (.agg f48) RT.dec R
def bn (a0)(H0:gd a0):F (aN.r a0)=ret (aN.r (md a0)):=ct (Z126.aj (H0.mono (by decide) (fun x hx=>trivial))) fz
def af:bZ 321 aK:=W1 9 F mix aA bn (cM Z126.af) Tryz.func321
end Z127
namespace Z128
def F (x0:bL):aC:=(call (Z127.R x0.bU) fun v1=>(call (Z127.R x0.bF) fun v2=>(call (Z127.R x0.bB) fun v3=>ret ((⟨x0.aS,x0.cy,x0.bE,x0.cg,x0.cq,x0.cj,x0.dx,x0.dX,v1,v2,x0.cT,v3,x0.bk⟩):bL))))
def md (a0:au):au:=a0
def gd (a0:au):Prop:=(au.Sm (2^21) a0)
def R:=RR gd md
def aj {a0}(h:gd a0):R (au.r a0)=some (au.r a0):=cO h
def aK:=CN [.agg lC] (.agg f50) RT.dec R
def bn (a0)(H0:gd a0):F (au.r a0)=ret (au.r (md a0)):=by
 refine ct (Z127.aj H0.1) (ct (Z127.aj H0.2.1) ?_)
 exact ct (Z127.aj H0.2.2) fz
def af:bZ 252 aK:=W1 16 F mix aA bn (cM Z127.af) Tryz.func252
end Z128
namespace Z129
def F (x0:an):aC:=(cond x0.isEmpty (either (ret ([]:an)) ((ck (eG (x0.length*16)) (ret (x0:an))))) (ck (eG (x0.length*16)) (ret (x0:an))))
def md (a0:List bC):List bC:=a0
def gd (a0:List bC):Prop:=bf (2^21) (fun y:bC=>bC.Sm (2^21) y) a0
def R:=RR gd md
def aj {a0}(h:gd a0):R (a0.map bC.row)=some (a0.map bC.row):=cO h
def aK:=CN [pL 315] (oL 315) RT.dec R
def bn (a0)(hg:gd a0):F (a0.map bC.row)=ret ((md a0).map bC.row):=by
 have H0:=hg.1
 unfold F md
 have hl:eG (((a0.map bC.row).length:Int)*16)=true:=fQ (by simp only [List.length_map];omega)
 simp only [hl,aO]
 cases a0 with
 | nil=>exact ng
 | cons x xs=>rfl
def af:bZ 290 aK:=W1 8 F mix aA bn .nil Tryz.func290
end Z129
namespace Z130
def F (x0:aY):aC:=(call (Z128.R x0.aq) fun v1=>(call (Z129.R x0.dR) fun v2=>ret ((⟨v1,v2⟩):aY)))
def md (a0:aa):aa:=a0
def gd (a0:aa):Prop:=(aa.Sm (2^21) a0)
def R:=RR gd md
def aj {a0}(h:gd a0):R (aa.r a0)=some (aa.r a0):=cO h
def aK:=CN [.agg we] (.agg f53) RT.dec R
def bn (a0)(H0:gd a0):F (aa.r a0)=ret (aa.r (md a0)):=by
 refine ct (Z128.aj H0.1) (ct (Z129.aj H0.2) ?_)
 exact fz
def af:bZ 211 aK:=W1 10 F mix aA bn (eS Z128.af Z129.af) Tryz.func211
end Z130
namespace Z131
inductive Pt where
 | p0 (a:an) (b c:Int) (d:an)
def cF:Pt->List V
 | .p0 a b c d=>[.own 0,.sl none 53 a,.int .i64 b,.int .i64 c]
def dN:Pt->List aL
 | .p0 a b c d=>[.row 53 d]
def step (J:Pt->aC):Pt->aC
 | .p0 a b c d=>(cond (c<b) (m2 c (a.length:Int) (call (Z130.R (aY.at a (toNat c))) fun v1=>(ck (eG (((d.length:Int)+1)*200)) (J (.p0 a b (i64.wrap (c+1)) (d++[(aY.enc v1)])))))) (ret (d:an)))
def start (J:Pt->aC)(x0:an):aC:=J (.p0 x0 x0.length 0 [])
def live:Nat->Live:=gx [(3,[(3,some 53),(7,none),(8,none),(9,none)])]
def md (a0:List aa):List aa:=a0
def gd (a0:List aa):Prop:=(bf (2^21) (fun y:aa=>aa.Sm (2^21) y) a0)
def R:=RR gd md
def aj {a0}(h:gd a0):R (a0.map aa.row)=some (a0.map aa.row):=cO h
def aK:=CN [pL 53] (oL 53) RT.dec R
def bn (a0)(H0:gd a0):∃n,start (iter step n) (a0.map aa.row)=ret ((md a0).map aa.row):=by
 have Bh2:=bl H0
 refine ex_eq (out:=(fun b:List aa=>ret ((b.map aa.row):an))) (gW (xs:=a0) (z:=aa.zero) (t:=fun s3:List aa=>s3)) (dc (p:=Pt.p0 (a0.map aa.row) (a0.length:Int) 0 ([].map aa.row)) fz ?_)
 refine bH (pt:=fun (i1:Nat) (s3:List aa)=>Pt.p0 (a0.map aa.row) (a0.length:Int) (i1:Int) (s3.map aa.row)) (out:=(fun b:List aa=>ret ((b.map aa.row):an))) (fun (i1:Nat) (s3:List aa)=>s3.length<=([]:List Int).length+1*i1) (fun J i1 s3 h2 hih2=>?_) (fun s3 hih2=>?_) (by simp)
 ·simp only [step,SS]
  have gr_:=hih2
  simp only [LN] at gr_
  have:=(H0).1
  refine aP.yes dt (aP.yes bu ?_)
  refine aP.yes (bK h2) (cr (Z130.aj (bf.getD H0 h2)) ?_)
  refine aP.yes lm ?_
  refine aP.inl (by
    (simp;omega)) ?_
  rw [aF h2 Bh2]
  exact fz
 ·simp only [step,SS]
  refine cH dn (⟨0,?_⟩)
  exact fz
def af:bZ 117 aK:=L1 20 (fun _=>3) cF dN live step start mix aA bn (cM Z130.af) Tryz.func117
end Z131
namespace Z132
def F (x0:cB):aC:=(call (Z130.R x0.bq) fun v1=>(call (Z130.R x0.fA) fun v2=>(call (Z130.R x0.fB) fun v3=>ret ((⟨v1,v2,v3⟩):cB))))
def md (a0:aM):aM:=a0
def gd (a0:aM):Prop:=(aM.Sm (2^21) a0)
def R:=RR gd md
def aj {a0}(h:gd a0):R (aM.r a0)=some (aM.r a0):=cO h
def aK:=CN [.agg vO] (.agg f170) RT.dec R
def bn (a0)(H0:gd a0):F (aM.r a0)=ret (aM.r (md a0)):=by
 refine ct (Z130.aj H0.1) (ct (Z130.aj H0.2.1) ?_)
 exact ct (Z130.aj H0.2.2) fz
def af:bZ 210 aK:=W1 13 F mix aA bn (cM Z130.af) Tryz.func210
end Z132
namespace Z133
inductive Pt where
 | p0 (a:an) (b c:Int) (d:aW) (e:an)
 | p1 (a:an) (b c:Int) (d e:an)
def pid:Pt->Nat
 | .p0 ..=>3
 | .p1 ..=>8
def cF:Pt->List V
 | .p0 a b c d e=>[.bN 0 0,.bN 1 0,.bN 2 0,.sl none 37 a,.int .i64 b,.int .i64 c,.bN 2 0]
 | .p1 a b c d e=>[.bN 0 0,.bN 1 0,.sl none 170 a,.int .i64 b,.int .i64 c,.bN 1 0,.bN 1 0]
def dN:Pt->List aL
 | .p0 a b c d e=>[.box [.sl none 37 d.aH,.sl none 170 d.bg],.box [.nil,.nil],.box [.own 3,.nil],.row 37 e]
 | .p1 a b c d e=>[.box [.nil,.nil],.box [.own 2,.own 3],.row 37 d,.row 170 e]
def step (J:Pt->aC):Pt->aC
 | .p0 a b c d e=>(cond (c<b) (m2 c (a.length:Int) (call (Z131.R (jo a (toNat c))) fun v1=>(ck (eG (((e.length:Int)+1)*24)) (J (.p0 a b (i64.wrap (c+1)) d (e++[[L.sl v1]])))))) (J (.p1 d.bg (d.bg.length:Int) 0 e [])))
 | .p1 a b c d e=>(cond (c<b) (m2 c (a.length:Int) (call (Z132.R (cB.at a (toNat c))) fun v1=>(ck (eG (((e.length:Int)+1)*600)) (J (.p1 a b (i64.wrap (c+1)) d (e++[(cB.enc v1)])))))) (ret ((⟨d,e⟩:aW):aW)))
def start (J:Pt->aC)(x0:aW):aC:=J (.p0 x0.aH x0.aH.length 0 x0 [])
def live:Nat->Live:=gx [(3,[(1,none),(2,none),(3,none),(10,none),(11,none),(12,none),(3,some 37)]),(8,[(2,none),(3,none),(25,none),(26,none),(27,none),(3,some 37),(3,some 1048746)])]
def md (a0:ak):ak:=a0
def gd (a0:ak):Prop:=(ak.Sm (2^21) a0)
def R:=RR gd md
def aj {a0}(h:gd a0):R (ak.r a0)=some (ak.r a0):=cO h
def aK:=CN [.agg vF] (.agg f36) RT.dec R
def bn (a0)(H0:gd a0):∃n,start (iter step n) (ak.r a0)=ret (ak.r (md a0)):=by
 have Bh2:=bl H0.1
 refine ex_eq (out:=(fun b:ak=>ret ((ak.r b):aW))) (gW (xs:=a0.aH) (z:=[]) (t:=fun s3:List (List aa)=>(⟨s3,a0.bg⟩:ak))) (dc (p:=Pt.p0 (a0.aH.map (eF aa.row)) (a0.aH.length:Int) 0 (ak.r a0) ([].map (eF aa.row))) fz ?_)
 refine bH (pt:=fun (i1:Nat) (s3:List (List aa))=>Pt.p0 (a0.aH.map (eF aa.row)) (a0.aH.length:Int) (i1:Int) (ak.r a0) (s3.map (eF aa.row))) (out:=(fun b:ak=>ret ((ak.r b):aW))) (fun (i1:Nat) (s3:List (List aa))=>s3.length<=([]:List Int).length+1*i1) (fun J i1 s3 h2 hih2=>?_) (fun s3 hih2=>?_) (by simp)
 ·simp only [step,SS]
  have gr_:=hih2
  simp only [LN] at gr_
  have:=(H0.1).1
  refine aP.yes dt (aP.yes bu ?_)
  refine aP.yes (bK h2) (cr (Z131.aj (bf.getD H0.1 h2)) ?_)
  refine aP.yes lm ?_
  refine aP.inl (by
    (simp;omega)) ?_
  rw [aF h2 Bh2]
  exact fz
 ·simp only [step,SS]
  refine cH dn ?_
  have Bh5:=bl H0.2
  refine ex_eq (out:=(fun b:ak=>ret ((ak.r b):aW))) (gW (xs:=a0.bg) (z:=aM.zero) (t:=fun s6:List aM=>(⟨s3,s6⟩:ak))) (dc fz ?_)
  refine bH (pt:=fun (i4:Nat) (s6:List aM)=>Pt.p1 (a0.bg.map aM.row) (a0.bg.length:Int) (i4:Int) (s3.map (eF aa.row)) (s6.map aM.row)) (s:=([]:List aM)) (out:=(fun b:ak=>ret ((ak.r b):aW))) (fun (i4:Nat) (s6:List aM)=>s6.length<=([]:List Int).length+1*i4) (fun J i4 s6 h5 hih5=>?_) (fun s6 hih5=>?_) (by simp)
  ·simp only [step,SS]
   have gr_:=hih5
   simp only [LN] at gr_
   have:=(H0.2).1
   refine aP.yes dt (aP.yes bu ?_)
   refine aP.yes (bK h5) (cr (Z132.aj (bf.getD H0.2 h5)) ?_)
   refine aP.yes lm ?_
   refine aP.inl (by
     (simp;omega)) ?_
   rw [aF h5 Bh5]
   exact fz
  ·simp only [step,SS]
   refine cH dn (⟨0,?_⟩)
   exact fz
def af:bZ 116 aK:=L1 40 pid cF dN live step start mix aA bn (eS Z131.af Z132.af) Tryz.func116
end Z133
namespace Z134
def F (x0 x1 x2:Int):aC:=(cond (x1<=x0) (ret ((decide (x0<=x2)))) (ret false))
def md (a0 a1 a2:Int):Bool:=(cond (a1<=a0) ((decide (a0<=a2))) false)
def gd (a0 a1 a2:Int):Prop:=True
def R:=lY gd md
def aj {a0 a1 a2}(h:gd a0 a1 a2):R (a0,a1,a2)=some (md a0 a1 a2):=lV h
def aK:=CN [pI,pI,pI] oB RT.dec R
def bn (a0)(a1)(a2)(hg:gd a0 a1 a2):F a0 a1 a2=ret (md a0 a1 a2):=by
 refine bs (fun c1=>?_) (fun _=>rfl)
 exact fz
def af:bZ 219 aK:=W3 15 F mix aA bn .nil Tryz.func219
def br (a0 a1 a2:Int):md a0 a1 a2=Z11.md a0 a1 a2:=by
 unfold md Z11.md
 rfl
end Z134
namespace Z135
inductive Pt where
 | p0 (a:az) (b c:Int)
def cF:Pt->List V
 | .p0 a b c=>[.str a,.int .i64 b,.int .i64 c]
def step (J:Pt->aC):Pt->aC
 | .p0 a b c=>(cond (c<b) (m2 c (a.size:Int) (cond ((eH a (toNat c))>=97) (cond ((eH a (toNat c))<=122) (J (.p0 a b (i64.wrap (c+1)))) (cond ((eH a (toNat c))>=48) (cond ((eH a (toNat c))<=57) (J (.p0 a b (i64.wrap (c+1)))) (cond ((eH a (toNat c))==45) (cond (c>0) (cond (!(decide (c<(i64.wrap ((a.size:Int) - 1))))) fq (J (.p0 a b (i64.wrap (c+1))))) fq) fq)) (cond ((eH a (toNat c))==45) (cond (c>0) (cond (!(decide (c<(i64.wrap ((a.size:Int) - 1))))) fq (J (.p0 a b (i64.wrap (c+1))))) fq) fq))) (cond ((eH a (toNat c))>=48) (cond ((eH a (toNat c))<=57) (J (.p0 a b (i64.wrap (c+1)))) (cond ((eH a (toNat c))==45) (cond (c>0) (cond (!(decide (c<(i64.wrap ((a.size:Int) - 1))))) fq (J (.p0 a b (i64.wrap (c+1))))) fq) fq)) (cond ((eH a (toNat c))==45) (cond (c>0) (cond (!(decide (c<(i64.wrap ((a.size:Int) - 1))))) fq (J (.p0 a b (i64.wrap (c+1))))) fq) fq)))) (call (Z134.R ((a.size:Int),1,8)) fun v1=>ret (v1:Bool)))
def start (J:Pt->aC)(x0:az):aC:=J (.p0 x0 x0.size 0)
def live:Nat->Live:=gx [(2,iR [0,6,7])]
def md (a0:az):Bool:=(eu (S:=Unit) (β:=Bool) (fun i1 s3=>(cond ((eH a0 i1)>=97) (cond ((eH a0 i1)<=122) (.inl ()) (cond ((eH a0 i1)>=48) (cond ((eH a0 i1)<=57) (.inl ()) (cond ((eH a0 i1)==45) (cond ((i1:Int)>0) (cond (!(decide (i1<(i64.wrap (a0.size - 1))))) (.inr false) (.inl ())) (.inr false)) (.inr false))) (cond ((eH a0 i1)==45) (cond ((i1:Int)>0) (cond (!(decide (i1<(i64.wrap (a0.size - 1))))) (.inr false) (.inl ())) (.inr false)) (.inr false)))) (cond ((eH a0 i1)>=48) (cond ((eH a0 i1)<=57) (.inl ()) (cond ((eH a0 i1)==45) (cond ((i1:Int)>0) (cond (!(decide (i1<(i64.wrap (a0.size - 1))))) (.inr false) (.inl ())) (.inr false)) (.inr false))) (cond ((eH a0 i1)==45) (cond ((i1:Int)>0) (cond (!(decide (i1<(i64.wrap (a0.size - 1))))) (.inr false) (.inl ())) (.inr false)) (.inr false))))) (fun s3=>((Z134.md a0.size 1 8))) a0.size 0 ())
def gd (a0:az):Prop:=(a0.size<=(2^22))
def R:=RR gd md
def aj {a0}(h:gd a0):R a0=some (md a0):=cO h
def aK:=CN [pS] oB RT.dec R
def bn (a0)(hg:gd a0):∃n,start (iter step n) a0=ret (md a0):=by
 unfold gd at hg
 have Bh2:a0.size<=maxLen:=(by
   simp only [maxLen] at *
   omega)
 refine dc fz (bH (pt:=fun (i1:Nat) (s3:Unit)=>Pt.p0 a0 (a0.size:Int) (i1:Int)) (fun _ _=>True) (fun J i1 s3 h2 hih2=>?_) (fun s3 hih2=>?_) trivial)
 ·simp only [step,SS]
  refine aP.yes dt (aP.yes bu ?_)
  refine aP.yes (bK h2) (aP.bif (fun c4=>?_) (fun c4=>?_))
  ·refine aP.bif (fun c5=>?_) (fun c5=>?_)
   ·refine aP.inl trivial ?_
    rw [aF h2 Bh2]
   ·refine aP.bif (fun c6=>?_) (fun c6=>?_)
    ·refine aP.bif (fun c7=>?_) (fun c7=>?_)
     ·refine aP.inl trivial ?_
      rw [aF h2 Bh2]
     ·refine aP.bif (fun c8=>?_) (fun _=>aP.inr rfl)
      refine aP.bif (fun c9=>?_) (fun _=>aP.inr rfl)
      refine aP.bif (fun _=>aP.inr rfl) (fun c10=>?_)
      refine aP.inl trivial ?_
      rw [aF h2 Bh2]
    ·refine aP.bif (fun c11=>?_) (fun _=>aP.inr rfl)
     refine aP.bif (fun c12=>?_) (fun _=>aP.inr rfl)
     refine aP.bif (fun _=>aP.inr rfl) (fun c13=>?_)
     refine aP.inl trivial ?_
     rw [aF h2 Bh2]
  ·refine aP.bif (fun c14=>?_) (fun c14=>?_)
   ·refine aP.bif (fun c15=>?_) (fun c15=>?_)
    ·refine aP.inl trivial ?_
     rw [aF h2 Bh2]
    ·refine aP.bif (fun c16=>?_) (fun _=>aP.inr rfl)
     refine aP.bif (fun c17=>?_) (fun _=>aP.inr rfl)
     refine aP.bif (fun _=>aP.inr rfl) (fun c18=>?_)
     refine aP.inl trivial ?_
     rw [aF h2 Bh2]
   ·refine aP.bif (fun c19=>?_) (fun _=>aP.inr rfl)
    refine aP.bif (fun c20=>?_) (fun _=>aP.inr rfl)
    refine aP.bif (fun _=>aP.inr rfl) (fun c21=>?_)
    refine aP.inl trivial ?_
    rw [aF h2 Bh2]
 ·simp only [step,SS]
  refine cH dn (cx (Z134.aj trivial) ?_)
  refine ⟨0,?_⟩
  exact fz
def af:bZ 193 aK:=L1 47 (fun _=>2) cF (fun _=>[]) live step start mix aA bn (cM Z134.af) Tryz.func193
def br (a0:az):md a0=Z12.md a0:=by
 unfold md Z12.md
 by_cases hl:1<=a0.size/\a0.size<=8
 ·have e1:Z11.md (a0.size:Int) 1 8=true:=by simp [Z11.md];omega
  simp only [Z134.br,e1]
  have ew:i64.wrap ((a0.size:Int) - 1)=((a0.size - 1:Nat):Int):=by
   rw [Go.IntWalk.i64_in _ (by omega)];omega
  simp only [ew,gm]
  rw [Bool.eq_iff_iff]
  rw [jP (fun i=>(97<=eH a0 i/\eH a0 i<=122)∨(48<=eH a0 i/\eH a0 i<=57)∨(eH a0 i=45/\0<i/\i<a0.size - 1)) (fun i hi h=>by simp;grind) (fun i hi h=>by simp;grind)]
  have e2:=jP (n:=a0.size) (f:=fun (i4:Nat) (s6:Unit)=>(cond ((eH a0 i4)<97) (cond ((eH a0 i4)<48) (cond ((eH a0 i4) != 45) (.inr (false:Bool)) (.inl ())) (cond ((eH a0 i4)>57) (cond ((eH a0 i4) != 45) (.inr (false:Bool)) (.inl ())) (.inl ()))) (cond ((eH a0 i4)>122) (cond ((eH a0 i4)<48) (cond ((eH a0 i4) != 45) (.inr (false:Bool)) (.inl ())) (cond ((eH a0 i4)>57) (cond ((eH a0 i4) != 45) (.inr (false:Bool)) (.inl ())) (.inl ()))) (.inl ())))) (t:=fun _=>true)
   (fun i=>(97<=eH a0 i/\eH a0 i<=122)∨(48<=eH a0 i/\eH a0 i<=57)∨eH a0 i=45) (fun i hi h=>by simp;grind) (fun i hi h=>by simp;grind)
  have e3:∀b c d:Bool,(cond (!true) false (bif b then false else bif c then false else d))=true↔b=false/\c=false/\d=true:=by intro b c d;cases b<;>cases c<;>simp
  rw [e3,e2]
  simp only [beq_eq_false_iff_ne,ne_eq,and_true]
  constructor
  ·intro h
   refine ⟨fun h0=>?_,fun h0=>?_,fun i hi=>?_⟩
   ·have:=h 0 (by omega);omega
   ·have:=h (a0.size - 1) (by omega);omega
   ·have:=h i hi;omega
  ·intro ⟨h1,h2,h3⟩ i hi
   have:=h3 i hi
   by_cases h0:i=0
   ·subst h0;omega
   ·by_cases h9:i=a0.size - 1
    ·subst h9;omega
    ·omega
 ·have e1:Z11.md (a0.size:Int) 1 8=false:=by simp [Z11.md];omega
  simp only [Z134.br,e1]
  refine rE ?_ _ _ _
  intro i s b h
  revert h
  simp only [Bool.cond_eq_ite]
  repeat' split
  all_goals (intro h;first | (cases h;rfl) | cases h)
end Z135
namespace Z136
def F (x0:az):aC:=(call (Z135.R x0) fun v1=>ret ((!v1)))
def md (a0:az):Bool:=((!(Z135.md a0)))
def gd (a0:az):Prop:=(a0.size<=(2^22))
def R:=RR gd md
def aj {a0}(h:gd a0):R a0=some (md a0):=cO h
def aK:=CN [pS] oB RT.dec R
def bn (a0)(H0:gd a0):F a0=ret (md a0):=ct (Z135.aj H0) fz
def af:bZ 343 aK:=W1 6 F mix aA bn (cM Z135.af) Tryz.func343
end Z136
namespace Z137
inductive Pt where
 | p0 (a:an) (b c:Int)
def pid:Pt->Nat
 | .p0 ..=>2
def cF:Pt->List V
 | .p0 a b c=>[.sl none 9 a,.fn 343 [],.int .i64 b,.int .i64 c]
def dN:Pt->List aL
 | .p0 a b c=>[]
def step (J:Pt->aC):Pt->aC
 | .p0 a b c=>(cond (c<b) (m2 c (a.length:Int) (call (Z136.R (rV a (toNat c))) fun v1=>(cond v1 (ret (c:Int)) (J (.p0 a b (i64.wrap (c+1))))))) mG)
def start (J:Pt->aC)(x0:an):aC:=J (.p0 x0 x0.length 0)
def live:Nat->Live:=gx [(2,iR [0,1,7,8])]
def pats:List fE:=[.rd (.sl 9),.fn 343 []]
def res:RP:=.one (.rd (.int .i64))
abbrev E:Env:={ T:=assoc mq,G:=cW [(343,Z136.aK)],nt:=19 }
def step_eq (I:dB)(p:Pt):dU E live I (pid p) (bJ Tryz.f402) (iN (live (pid p)) (cF p) (dN p)) (dz E Tryz.f402 res)=step (fun q=>I (pid q) (cF q) (dN q)) p:=by
 cases p<;>kernel_rfl
def start_eq (I:dB)(ls:List L):gJ E live I (bJ Tryz.f402) (dy pats ls) (dz E Tryz.f402 res)=start (fun q=>I (pid q) (cF q) (dN q)) (eM ls):=by kernel_rfl
def run_eq (n:Nat)(ls:List L):eV E live Tryz.f402 res n (dy pats ls)=start (iter step n) (eM ls):=dK (id:=pid) (vs:=cF) (hs:=dN) (step:=step) (start:=fun J=>start J (eM ls)) step_eq (fun I=>start_eq I ls) n
def md (a0:List az):Int:=(dD (S:=Unit) (β:=Int) (fun i1 y1 s3=>(cond (Z136.md y1) (.inr (i1)) (.inl ()))) (fun s3=>((-1):Int)) 0 a0 ())
def gd (a0:List az):Prop:=(bf (2^22) (fun y:az=>y.size<=(2^22)) a0)
def acc (ls:List L):an:=(eM ls)
def R:(an)->Option Int:=RR gd md
def aj {a0}(h:gd a0):R (a0.map dO)=some (md a0):=cO h
def aK:gu:=CN pats res acc R
def bn (a0:List az)(H0:gd a0):∃n,start (iter step n) (a0.map dO)=ret ((md a0):Int):=by
 have Bh2:=bl H0
 refine ex_eq (cC (z:=⟨#[]⟩)) (dc (p:=Pt.p0 (a0.map dO) (a0.length:Int) 0) fz ?_)
 refine bH (pt:=fun (i1:Nat) (s3:Unit)=>Pt.p0 (a0.map dO) (a0.length:Int) (i1:Int)) (fun _ _=>True) (fun J i1 s3 h2 hih2=>?_) (fun s3 hih2=>?_) trivial
 ·simp only [step,SS]
  refine aP.yes dt (aP.yes bu ?_)
  refine aP.yes (bK h2) (cr (Z136.aj (bf.getD H0 h2)) ?_)
  refine aP.bif (fun c4=>aP.inr fz) (fun c4=>?_)
  refine aP.inl trivial ?_
  rw [aF h2 Bh2]
 ·simp only [step,SS]
  refine cH dn (⟨0,?_⟩)
  exact fz
def af:bZ 402 aK:=VV (run:=fun n x=>start (iter step n) x) mix aA (cM Z136.af) Tryz.func402 (by kernel_rfl) run_eq (fun _ a _ _ hg=>bn a hg)
def idx_eq (a0:List az):md a0=jR (fun y=>Z136.md y) 0 a0:=iZ
end Z137
namespace Z138
def F (x0:an):aC:=(call (Z137.R x0) fun v1=>ret ((decide (v1>=0))))
def pats:List fE:=[.rd (.sl 9),.fn 343 []]
def res:RP:=.one (.rd (.bool))
def md (a0:List az):Bool:=((decide ((Z137.md a0)>=0)))
def gd (a0:List az):Prop:=(bf (2^22) (fun y:az=>y.size<=(2^22)) a0)
def acc (ls:List L):an:=(eM ls)
def R:(an)->Option Bool:=RR gd md
def aj {a0}(h:gd a0):R (a0.map dO)=some (md a0):=cO h
def aK:gu:=CN pats res acc R
def bn (a0:List az)(H0:gd a0):F (a0.map dO)=ret ((md a0):Bool):=ct (Z137.aj H0) fz
def af:bZ 342 aK:=VV (live:=fun _=>[]) (nt:=9) (run:=fun _ x=>F x) mix aA (cM Z137.af) Tryz.func342 (by kernel_rfl) (fun _ _=>by kernel_rfl) (fun _ a _ _ hg=>⟨0,bn a hg⟩)
def any_eq (a0:List az):md a0=a0.any (fun y=>Z136.md y):=by
 unfold md
 rw [Z137.idx_eq]
 exact rY
end Z138
namespace Z139
def F (x0:an):aC:=(call (Z134.R (x0.length,1,4)) fun v1=>(cond v1 (call (Z138.R x0) fun v2=>ret ((!v2))) (ret false)))
def md (a0:List az):Bool:=(cond (Z134.md a0.length 1 4) ((!(Z138.md a0))) false)
def gd (a0:List az):Prop:=(bf (2^22) (fun y:az=>y.size<=(2^22)) a0)
def R:=RR gd md
def aj {a0}(h:gd a0):R (a0.map dO)=some (md a0):=cO h
def aK:=CN [pL 9] oB RT.dec R
def bn (a0)(H0:gd a0):F (a0.map dO)=ret (md a0):=by
 unfold F md
 simp only [SS]
 refine ct (Z134.aj trivial) (bs (fun c1=>?_) (fun _=>rfl))
 exact ct (Z138.aj H0) fz
def af:bZ 278 aK:=W1 11 F mix aA bn (eS Z134.af Z138.af) Tryz.func278
def br (a0:List az):md a0=Z13.md a0:=by
 unfold md Z13.md
 rw [Z138.any_eq]
 have e:=nA (p:=fun y=>!(Z12.md y)) (b:=false) (c:=Z11.md (a0.length:Int) 1 4) (xs:=a0) (s:=())
 refine Eq.trans ?_ e.symm
 simp only [Z136.md,Z135.br,Z134.br]
 cases a0.any (fun y=>!(Z12.md y))<;>cases Z11.md (a0.length:Int) 1 4<;>rfl
end Z139
namespace Z140
def F (x0:Int):aC:=(call (Z134.R (x0,0,2147483646)) fun v1=>ret v1)
def md (a0:Int):Bool:=((Z134.md a0 0 2147483646))
def gd (a0:Int):Prop:=True
def R:=RR gd md
def aj {a0}(h:gd a0):R a0=some (md a0):=cO h
def aK:=CN [pI] oB RT.dec R
def bn (a0)(hg:gd a0):F a0=ret (md a0):=ct (Z134.aj trivial) fz
def af:bZ 194 aK:=W1 5 F mix aA bn (cM Z134.af) Tryz.func194
end Z140
namespace Z141
def F (x0:bL):aC:=(cond (x0.cg>=0) (cond (x0.cg<=x0.cq) (cond (x0.cq<=100000) (ret ((decide ((i64.wrap (x0.cq - x0.cg))<=200)))) (ret false)) (ret false)) (ret false))
def md (a0:au):Bool:=(cond (a0.cg>=0) (cond (a0.cg<=a0.cq) (cond (a0.cq<=100000) ((decide ((i64.wrap (a0.cq - a0.cg))<=200))) false) false) false)
def gd (a0:au):Prop:=True
def R:=RR gd md
def aj {a0}(h:gd a0):R (au.r a0)=some (md a0):=cO h
def aK:=CN [.agg lC] oB RT.dec R
def bn (a0)(hg:gd a0):F (au.r a0)=ret (md a0):=by
 refine bs (fun c1=>?_) (fun _=>rfl)
 refine bs (fun c2=>?_) (fun _=>rfl)
 refine bs (fun c3=>?_) (fun _=>rfl)
 exact fz
def af:bZ 354 aK:=W1 26 F mix aA bn .nil Tryz.func354
end Z141
namespace Z142
inductive Pt where
 | p0 (a:an) (b c:Int)
def cF:Pt->List V
 | .p0 a b c=>[.sl none 3 a,.int .i64 b,.int .i64 c]
def step (J:Pt->aC):Pt->aC
 | .p0 a b c=>(cond (c<b) (cond (c>0) (m2 c (a.length:Int) (ck ((0:Int)<=(i64.wrap (c - 1))) (ck ((i64.wrap (c - 1))<(a.length:Int)) (cond ((gR a (toNat c))<=(gR a (toNat (i64.wrap (c - 1))))) fq (J (.p0 a b (i64.wrap (c+1)))))))) (J (.p0 a b (i64.wrap (c+1))))) nN)
def start (J:Pt->aC)(x0:an):aC:=J (.p0 x0 x0.length 0)
def live:Nat->Live:=gx [(2,iR [0,5,6])]
def md (a0:List Int):Bool:=(dD (S:=Unit) (β:=Bool) (fun i1 y1 s3=>(cond ((i1:Int)>0) (cond (y1<=(a0.getD (toNat (i64.wrap (i1 - 1))) 0)) (.inr false) (.inl ())) (.inl ()))) (fun s3=>true) 0 a0 ())
def gd (a0:List Int):Prop:=(bf (2^38) (fun y:Int=>True) a0)
def R:=RR gd md
def aj {a0}(h:gd a0):R (a0.map aQ)=some (md a0):=cO h
def aK:=CN [pL 3] oB RT.dec R
def bn (a0)(H0:gd a0):∃n,start (iter step n) (a0.map aQ)=ret (md a0):=by
 have Bh2:=bl H0
 refine ex_eq (cC (z:=0)) (dc (p:=Pt.p0 (a0.map aQ) (a0.length:Int) 0) fz ?_)
 refine bH (pt:=fun (i1:Nat) (s3:Unit)=>Pt.p0 (a0.map aQ) (a0.length:Int) (i1:Int)) (fun _ _=>True) (fun J i1 s3 h2 hih2=>?_) (fun s3 hih2=>?_) trivial
 ·simp only [step,SS]
  have:=(H0).1
  refine aP.yes dt (aP.bif (fun c4=>?_) (fun c4=>?_))
  ·have dc4:=c4
   simp only [DC] at dc4
   refine aP.yes bu (aP.yes (bK h2) ?_)
   refine aP.yes dt (aP.yes dt ?_)
   refine aP.bif (fun _=>aP.inr rfl) (fun c5=>?_)
   refine aP.inl trivial ?_
   rw [aF h2 Bh2]
  ·refine aP.inl trivial ?_
   rw [aF h2 Bh2]
 ·simp only [step,SS]
  refine cH dn (⟨0,?_⟩)
  exact fz
def af:bZ 416 aK:=L1 24 (fun _=>2) cF (fun _=>[]) live step start mix aA bn .nil Tryz.func416
end Z142
namespace Z143
def F (x0:Int):aC:=(call (Z134.R (x0,1,99)) fun v1=>ret v1)
def md (a0:Int):Bool:=((Z134.md a0 1 99))
def gd (a0:Int):Prop:=True
def R:=RR gd md
def aj {a0}(h:gd a0):R a0=some (md a0):=cO h
def aK:=CN [pI] oB RT.dec R
def bn (a0)(hg:gd a0):F a0=ret (md a0):=ct (Z134.aj trivial) fz
def af:bZ 417 aK:=W1 5 F mix aA bn (cM Z134.af) Tryz.func417
end Z143
namespace Z144
def F (x0:cV):aC:=(call (Z134.R (x0.bz.length,1,4)) fun v1=>(cond v1 (call (Z142.R x0.bz) fun v2=>(cond v2 (ck ((0:Int)<x0.bz.length) (call (Z143.R (gR x0.bz 0)) fun v3=>(cond v3 (ck ((0:Int)<=(i64.wrap (x0.bz.length - 1))) (ck ((i64.wrap (x0.bz.length - 1))<x0.bz.length) (call (Z143.R (gR x0.bz (toNat (i64.wrap (x0.bz.length - 1))))) fun v4=>(cond v4 (call (Z134.R (x0.dh,1,x0.bz.length)) fun v5=>ret v5) (ret false))))) (ret false)))) (ret false))) (ret false)))
def md (a0:aN):Bool:=(cond (Z134.md a0.bz.length 1 4) (cond (Z142.md a0.bz) (cond (Z143.md (a0.bz.getD 0 0)) (cond (Z143.md (a0.bz.getD (toNat (i64.wrap (a0.bz.length - 1))) 0)) ((Z134.md a0.dh 1 a0.bz.length)) false) false) false) false)
def gd (a0:aN):Prop:=(aN.Sm (2^21) a0)
def R:=RR gd md
def aj {a0}(h:gd a0):R (aN.r a0)=some (md a0):=cO h
def aK:=CN [.agg qR] oB RT.dec R
def bn (a0)(H0:gd a0):F (aN.r a0)=ret (md a0):=by
 unfold F md
 simp only [SS]
 refine ct (Z134.aj trivial) (bs (fun c1=>?_) (fun _=>rfl))
 have Dc1:=c1
 simp [Z134.md] at Dc1
 refine ct (Z142.aj (H0.mono (by decide) (fun x hx=>trivial))) (bs (fun c2=>?_) (fun _=>rfl))
 refine aG dt (ct (Z143.aj trivial) ?_)
 refine bs (fun c3=>?_) (fun _=>rfl)
 refine aG dt (aG dt ?_)
 refine ct (Z143.aj trivial) (bs (fun c4=>?_) (fun _=>rfl))
 exact ct (Z134.aj trivial) fz
def af:bZ 355 aK:=W1 38 F mix aA bn (jw Z134.af Z142.af Z143.af) Tryz.func355
def Fg {l:List Int}(h:∀i:Nat,i<l.length->0<i->l.getD (i - 1) 0<l.getD i 0):∀(k i:Nat),i+k<l.length->l.getD i 0<=l.getD (i+k) 0
 | 0,i,_=>Int.le_refl _
 | k+1,i,hi=>by
  have h1:=Fg h k i (by omega)
  have h2:=h (i+(k+1)) hi (by omega)
  rw [show i+(k+1) - 1=i+k by omega] at h2
  omega
def br (a0:aN):md a0=Z34.md a0:=by
 unfold md Z34.md Z142.md
 simp only [Z134.br,Z143.md]
 by_cases hl:1<=a0.bz.length/\a0.bz.length<=4
 ·have e1:Z11.md (a0.bz.length:Int) 1 4=true:=by simp [Z11.md];omega
  rw [e1]
  have wp:∀i:Nat,0<i->i<=4->toNat (i64.wrap ((i:Int) - 1))=i - 1:=fun i h1 h2=>by
   rw [Go.IntWalk.i64_in _ (by omega)];omega
  rw [wp _ (by omega) (by omega)]
  generalize a0.dh=n
  generalize a0.bz=l at *
  have i1:∀x a b:Int,Z11.md x a b=true↔a<=x/\x<=b:=fun x a b=>by simp [Z11.md]
  have i2:∀x a b:Int,Z11.md x a b=false↔¬(a<=x/\x<=b):=fun x a b=>by rw [<-i1];simp
  have w2:∀i:Nat,i<l.length->0<i->toNat (i64.wrap ((i:Int) - 1))=i - 1:=fun i h1 h2=>wp i h2 (by omega)
  rw [Bool.eq_iff_iff,<-cC (z:=0),<-cC]
  have e3:∀a b c d:Bool,(cond true (cond a (cond b (cond c d false) false) false) false)=true↔a=true/\b=true/\c=true/\d=true:=by
   intro a b c d;cases a<;>cases b<;>cases c<;>simp
  have pos:∀i:Nat,0<i->decide ((i:Int)>0)=true:=fun i h=>by simpa using h
  have npos:∀i:Nat,¬0<i->decide ((i:Int)>0)=false:=fun i h=>by simpa using h
  rw [e3]
  rw [jP (fun i=>0<i->l.getD (i - 1) 0<l.getD i 0) (fun i hi h=>?_) (fun i hi h=>?_),jP (fun i=>(1<=l.getD i 0/\l.getD i 0<=99)/\(0<i->l.getD (i - 1) 0<l.getD i 0)) (fun i hi h=>?_) (fun i hi h=>?_)]
  ·simp only [i1,and_true,aO]
   constructor
   ·rintro ⟨h1,⟨h2,h3⟩,⟨h4,h5⟩,h6⟩
    refine ⟨fun i hi=>⟨⟨?_,?_⟩,h1 i hi⟩,h6⟩
    ·have:=Fg h1 i 0 (by omega)
     rw [Nat.zero_add] at this;omega
    ·have:=Fg h1 (l.length - 1 - i) i (by omega)
     rw [show i+(l.length - 1 - i)=l.length - 1 by omega] at this;omega
   ·rintro ⟨h1,h6⟩
    exact ⟨fun i hi=>(h1 i hi).2,(h1 0 (by omega)).1,(h1 (l.length - 1) (by omega)).1,h6⟩
  ·have e2:=(i1 (l.getD i 0) 1 99).2 h.1
   rw [e2]
   by_cases h0:0<i
   ·rw [pos i h0,w2 i hi h0,decide_eq_false (by omega)];rfl
   ·rw [npos i h0];rfl
  ·by_cases h1:1<=l.getD i 0/\l.getD i 0<=99
   ·have e2:=(i1 (l.getD i 0) 1 99).2 h1
    have h0:0<i:=Classical.byContradiction fun hc=>h ⟨h1,fun h=>(hc h).elim⟩
    rw [e2,pos i h0,w2 i hi h0,decide_eq_true (by omega)];rfl
   ·rw [(i2 _ _ _).2 h1];rfl
  ·by_cases h0:0<i
   ·rw [pos i h0,w2 i hi h0,decide_eq_false (by omega)];rfl
   ·rw [npos i h0];rfl
  ·have h0:0<i:=Classical.byContradiction fun hc=>h fun h=>(hc h).elim
   rw [pos i h0,w2 i hi h0,decide_eq_true (by omega)];rfl
 ·have e1:Z11.md (a0.bz.length:Int) 1 4=false:=by simp [Z11.md];omega
  rw [e1]
  simp only [aU]
  symm
  exact kG (by
   intro i x s b h
   revert h
   simp only [Bool.cond_eq_ite]
   repeat' split
   all_goals (intro h;first | (cases h;rfl) | cases h)) _ _ _
end Z144
namespace Z145
def F (x0:cV):aC:=(cond (x0.dh==0) (ret (((x0.bz.length:Int)==0))) (ret false))
def md (a0:aN):Bool:=(cond (a0.dh==0) (((a0.bz.length:Int)==0)) false)
def gd (a0:aN):Prop:=True
def R:=RR gd md
def aj {a0}(h:gd a0):R (aN.r a0)=some (md a0):=cO h
def aK:=CN [.agg qR] oB RT.dec R
def bn (a0)(hg:gd a0):F (aN.r a0)=ret (md a0):=by
 refine bs (fun c1=>?_) (fun _=>rfl)
 exact fz
def af:bZ 358 aK:=W1 12 F mix aA bn .nil Tryz.func358
def br (a0:aN):md a0=Z35.md a0:=by
 unfold md Z35.md
 simp only [id]
end Z145
namespace Z146
def F (x0:cV):aC:=(call (Z145.R x0) fun v1=>(cond v1 (ret true) (call (Z144.R x0) fun v2=>ret v2)))
def md (a0:aN):Bool:=(cond (Z145.md a0) true ((Z144.md a0)))
def gd (a0:aN):Prop:=(aN.Sm (2^21) a0)
def R:=RR gd md
def aj {a0}(h:gd a0):R (aN.r a0)=some (md a0):=cO h
def aK:=CN [.agg qR] oB RT.dec R
def bn (a0)(H0:gd a0):F (aN.r a0)=ret (md a0):=by
 refine ct (Z145.aj trivial) (bs (fun _=>rfl) (fun c1=>?_))
 exact ct (Z144.aj H0) fz
def af:bZ 356 aK:=W1 9 F mix aA bn (eS Z145.af Z144.af) Tryz.func356
end Z146
namespace Z147
def F (x0:Int)(x1:cV):aC:=(call (Z145.R x1) fun v1=>(cond v1 (ret ((x0==0))) (call (Z134.R (x0,1,500)) fun v2=>ret v2)))
def md (a0:Int)(a1:aN):Bool:=(cond (Z145.md a1) ((a0==0)) ((Z134.md a0 1 500)))
def gd (a0:Int)(a1:aN):Prop:=True
def R:=cL gd md
def aj {a0 a1}(h:gd a0 a1):R (a0,(aN.r a1))=some (md a0 a1):=cK h
def aK:=CN [pI,.agg qR] oB RT.dec R
def bn (a0)(a1)(hg:gd a0 a1):F a0 (aN.r a1)=ret (md a0 a1):=ct (Z145.aj trivial) (bs (fun c1=>fz) (fun c1=>ct (Z134.aj trivial) fz))
def af:bZ 357 aK:=W2 11 F mix aA bn (eS Z145.af Z134.af) Tryz.func357
end Z147
namespace Z148
def F (x0:bL):aC:=(call (Z140.R x0.aS) fun v1=>(cond v1 (call (Z140.R x0.dx) fun v2=>(cond v2 (call (Z140.R x0.dX) fun v3=>(cond v3 (call (Z134.R (x0.cy,0,200)) fun v4=>(cond v4 (call (Z134.R (x0.bE,1,3)) fun v5=>(cond v5 (call (Z141.R x0) fun v6=>(cond v6 (call (Z134.R (x0.cj,0,12)) fun v7=>(cond v7 (call (Z144.R x0.bU) fun v8=>(cond v8 (call (Z146.R x0.bF) fun v9=>(cond v9 (call (Z146.R x0.bB) fun v10=>(cond v10 (call (Z147.R (x0.cT,x0.bF)) fun v11=>(cond v11 (cond x0.bk (call (Z145.R x0.bB) fun v12=>ret ((!v12))) (ret true)) (ret false))) (ret false))) (ret false))) (ret false))) (ret false))) (ret false))) (ret false))) (ret false))) (ret false))) (ret false))) (ret false)))
def md (a0:au):Bool:=(cond (Z140.md a0.aS) (cond (Z140.md a0.dx) (cond (Z140.md a0.dX) (cond (Z134.md a0.cy 0 200) (cond (Z134.md a0.bE 1 3) (cond (Z141.md a0) (cond (Z134.md a0.cj 0 12) (cond (Z144.md a0.bU) (cond (Z146.md a0.bF) (cond (Z146.md a0.bB) (cond (Z147.md a0.cT a0.bF) (cond a0.bk ((!(Z145.md a0.bB))) true) false) false) false) false) false) false) false) false) false) false) false)
def gd (a0:au):Prop:=(au.Sm (2^21) a0)
def R:=RR gd md
def aj {a0}(h:gd a0):R (au.r a0)=some (md a0):=cO h
def aK:=CN [.agg lC] oB RT.dec R
def bn (a0)(H0:gd a0):F (au.r a0)=ret (md a0):=by
 refine ct (Z140.aj trivial) (bs (fun c1=>?_) (fun _=>rfl))
 refine ct (Z140.aj trivial) (bs (fun c2=>?_) (fun _=>rfl))
 refine ct (Z140.aj trivial) (bs (fun c3=>?_) (fun _=>rfl))
 refine ct (Z134.aj trivial) (bs (fun c4=>?_) (fun _=>rfl))
 refine ct (Z134.aj trivial) (bs (fun c5=>?_) (fun _=>rfl))
 refine ct (Z141.aj trivial) (bs (fun c6=>?_) (fun _=>rfl))
 refine ct (Z134.aj trivial) (bs (fun c7=>?_) (fun _=>rfl))
 refine ct (Z144.aj H0.1) (bs (fun c8=>?_) (fun _=>rfl))
 refine ct (Z146.aj H0.2.1) (bs (fun c9=>?_) (fun _=>rfl))
 refine ct (Z146.aj H0.2.2) (bs (fun c10=>?_) (fun _=>rfl))
 refine ct (Z147.aj trivial) (bs (fun c11=>?_) (fun _=>rfl))
 refine bs (fun c12=>?_) (fun _=>rfl)
 exact ct (Z145.aj trivial) fz
def af:bZ 294 aK:=W1 67 F mix aA bn (Ad Z140.af Z134.af Z141.af Z144.af Z146.af Z147.af Z145.af) Tryz.func294
def br (a0:au):md a0=Z36.md a0:=by
 unfold md Z36.md
 simp only [Z144.br,Z134.br,Z140.md,Z146.md,Z147.md,Z145.br]
 have hs:Z141.md a0=(Z11.md a0.cg 0 100000&&(Z11.md a0.cq a0.cg 100000&&!decide ((i64.wrap (a0.cq - a0.cg))>200))):=by
  rw [Bool.eq_iff_iff]
  simp [Z141.md,Z11.md]
  omega
 have hk:Z34.md a0.bB=true->Z35.md a0.bB=false:=fun h=>by
  have:=Z34.tr h
  have e:((a0.bB.bz.length:Int)==0)=false:=beq_eq_false_iff_ne.2 (by omega)
  unfold Z35.md
  rw [e]
  cases a0.bB.dh==0<;>rfl
 rw [hs]
 revert hk
 simp only [D4,CY,Bool.and_assoc]
 generalize Z11.md a0.aS 0 2147483646=b1
 generalize Z11.md a0.dx 0 2147483646=b2
 generalize Z11.md a0.dX 0 2147483646=b3
 generalize Z11.md a0.cy 0 200=b4
 generalize Z11.md a0.bE 1 3=b5
 generalize Z11.md a0.cg 0 100000=b6
 generalize Z11.md a0.cq a0.cg 100000=b7
 generalize decide ((i64.wrap (a0.cq - a0.cg))>200)=b8
 generalize Z11.md a0.cj 0 12=b9
 generalize Z34.md a0.bU=b10
 generalize Z34.md a0.bF=kh
 generalize Z35.md a0.bF=nh
 generalize Z34.md a0.bB=kj
 generalize Z35.md a0.bB=nj
 generalize Z11.md a0.cT 1 500=lw
 have hw:(a0.cT != 0)=!(a0.cT==0):=rfl
 rw [hw]
 generalize (a0.cT==0)=w0
 generalize a0.bk=fz
 intro hk
 cases b1;· rfl
 cases b2;· rfl
 cases b3;· rfl
 cases b4;· rfl
 cases b5;· rfl
 cases b6;· rfl
 cases b7;· rfl
 cases b8;rotate_left;· rfl
 cases b9;· rfl
 cases b10;· rfl
 revert hk
 revert kh nh kj nj lw w0 fz
 decide
end Z148
namespace Z149
def F (x0:cV):aC:=(ck (eG (((2:Int)+x0.bz.length)*8)) (ret (([[L.int x0.dh],[L.int x0.bz.length]]++x0.bz):an)))
def md (a0:aN):List Int:=([a0.dh,a0.bz.length]++a0.bz)
def gd (a0:aN):Prop:=(aN.Sm (2^21) a0)
def R:=RR gd md
def aj {a0}(h:gd a0):R (aN.r a0)=some ((md a0).map aQ):=cO h
def aK:=CN [.agg qR] (oL 3) RT.dec R
def bn (a0)(H0:gd a0):F (aN.r a0)=ret ((md a0).map aQ):=by
 unfold F md
 simp only [SS]
 exact aG (have:=(H0).1;lm) fz
def af:bZ 303 aK:=W1 12 F mix aA bn .nil Tryz.func303
def len (a0:aN):(md a0).length=2+a0.bz.length:=by simp [md];omega
def br (a0:aN):md a0=Z19.md a0:=by
 unfold md Z19.md
 simp only [id]
end Z149
namespace Z150
def F (x0 x1:Int):aC:=(call (Z134.R (x1,1,1000000000000)) fun v1=>(cond (!v1) (ret (0:Int)) (cond (x1=0) none (cond (x1=0) none (ret ((Int.tmod (i64.wrap ((Int.tmod x0 x1)+x1)) x1)))))))
def md (a0 a1:Int):Int:=(cond (!(Z134.md a1 1 1000000000000)) (0:Int) ((Int.tmod (i64.wrap ((Int.tmod a0 a1)+a1)) a1)))
def gd (a0 a1:Int):Prop:=True
def R:=cL gd md
def aj {a0 a1}(h:gd a0 a1):R (a0,a1)=some (md a0 a1):=cK h
def aK:=CN [pI,pI] oI RT.dec R
def bn (a0)(a1)(hg:gd a0 a1):F a0 a1=ret (md a0 a1):=by
 refine ct (Z134.aj trivial) (bs (fun _=>rfl) (fun c1=>?_))
 have Dc1:=c1
 simp [Z134.md] at Dc1
 refine dZ df (dZ df ?_)
 exact fz
def af:bZ 418 aK:=W2 15 F mix aA bn (cM Z134.af) Tryz.func418
def br (a0 a1:Int):md a0 a1=Z20.md a0 a1:=by
 unfold md Z20.md
 simp only [Z134.br]
end Z150
namespace Z151
inductive Pt where
 | p0 (a:Int) (b:an) (c d:Int)
def cF:Pt->List V
 | .p0 a b c d=>[.int .i64 a,.sl none 3 b,.int .i64 c,.int .i64 d]
def step (J:Pt->aC):Pt->aC
 | .p0 a b c d=>(cond (d<c) (m2 d (b.length:Int) (call (Z150.R ((gR b (toNat d)),2147483647)) fun v1=>J (.p0 (Int.tmod (i64.wrap ((i64.wrap ((i64.wrap (a*1000003))+v1))+13)) 2147483647) b c (i64.wrap (d+1))))) (ret (a:Int)))
def start (J:Pt->aC)(x0:an):aC:=J (.p0 11 x0 x0.length 0)
def live:Nat->Live:=gx [(3,iR [3,6,7,8])]
def md (a0:List Int):Int:=(dQ (S:=Int) (β:=Int) (fun y1 s3=>(.inl (Int.tmod (i64.wrap ((i64.wrap ((i64.wrap (s3*1000003))+(Z150.md y1 2147483647)))+13)) 2147483647))) (fun s3=>s3) a0 11)
def gd (a0:List Int):Prop:=(bf (2^43) (fun y:Int=>True) a0)
def R:=RR gd md
def aj {a0}(h:gd a0):R (a0.map aQ)=some (md a0):=cO h
def aK:=CN [pL 3] oI RT.dec R
def bn (a0)(H0:gd a0):∃n,start (iter step n) (a0.map aQ)=ret (md a0):=by
 have Bh2:=bl H0
 refine ex_eq (dV (z:=0)) (dc (p:=Pt.p0 11 (a0.map aQ) (a0.length:Int) 0) fz ?_)
 refine bH (pt:=fun (i1:Nat) (s3:Int)=>Pt.p0 s3 (a0.map aQ) (a0.length:Int) (i1:Int)) (fun _ _=>True) (fun J i1 s3 h2 hih2=>?_) (fun s3 hih2=>?_) trivial
 ·simp only [step,SS]
  refine aP.yes dt (aP.yes bu ?_)
  refine aP.yes (bK h2) (cr (Z150.aj trivial) ?_)
  refine aP.inl trivial ?_
  rw [aF h2 Bh2]
 ·simp only [step,SS]
  refine cH dn (⟨0,?_⟩)
  exact fz
def af:bZ 359 aK:=L1 21 (fun _=>3) cF (fun _=>[]) live step start mix aA bn (cM Z150.af) Tryz.func359
def br (a0:List Int):md a0=Z21.md a0:=by
 unfold md Z21.md
 simp only [Z150.br]
end Z151
namespace Z152
def F (x0:cV)(x1:Int):aC:=(call (Z149.R x0) fun v1=>(ck (eG (((2:Int)+v1.length)*8)) (call (Z151.R ([[L.int 239],[L.int x1]]++v1)) fun v2=>ret v2)))
def md (a0:aN)(a1:Int):Int:=((Z151.md ([239,a1]++(Z149.md a0))))
def gd (a0:aN)(a1:Int):Prop:=(aN.Sm (2^21) a0)
def R:=cL gd md
def aj {a0 a1}(h:gd a0 a1):R ((aN.r a0),a1)=some (md a0 a1):=cK h
def aK:=CN [.agg qR,pI] oI RT.dec R
def bn (a0)(a1)(H0:gd a0 a1):F (aN.r a0) a1=ret (md a0 a1):=by
 refine ct (Z149.aj H0) (aG (have:=Z149.len a0;have:=(H0).1;lm) ?_)
 exact cG _ (rq (Z151.aj (a0:=([239,a1]++(Z149.md a0))) ⟨(have:=Z149.len a0;have:=(H0).1;om),fun _ _=>trivial⟩)) fz
def af:bZ 295 aK:=W2 11 F mix aA bn (eS Z149.af Z151.af) Tryz.func295
def br (a0:aN)(a1:Int):md a0 a1=Z22.md a0 a1:=by
 unfold md Z22.md
 simp only [Z149.br,Z151.br]
end Z152
namespace Z153
def F (x0:Bool):aC:=(cond x0 (ret (1:Int)) (ret (0:Int)))
def md (a0:Bool):Int:=(cond a0 (1:Int) (0:Int))
def gd (a0:Bool):Prop:=True
def R:=RR gd md
def aj {a0}(h:gd a0):R a0=some (md a0):=cO h
def aK:=CN [pB] oI RT.dec R
def bn (a0)(hg:gd a0):F a0=ret (md a0):=by
 refine bs (fun _=>rfl) (fun _=>rfl)
def af:bZ 169 aK:=W1 4 F mix aA bn .nil Tryz.func169
end Z153
namespace Z154
set_option maxHeartbeats 1000000 in
set_option maxRecDepth 100000 in
open Go.RowKit in
def Ds (b:Option Addr)(w:World):Calls Tryz.prog 373 #[.slice b 0 0,.int .i64 0] w fun e w'=>e=.returned (.slice b 0 0)/\w'=w:=by
 go_enter Tryz.func373,Tryz.ntmps373
 go_wp2
 go_ret
 exact ⟨rfl,rfl⟩
def DX:Tryz.t3.size=1:=by kernel_rfl
def AM:Tryz.t3.bytes=8:=by kernel_rfl
set_option maxHeartbeats 1000000 in
set_option maxRecDepth 100000 in
open Go.RowKit in
def Dr (b:Option Addr)(n:Nat)(w:World)(h0:0<n)(h1:n*8<=140737488355328):Calls Tryz.prog 373 #[.slice b 0 0,.int .i64 n] w fun e w'=>e=.returned (.slice (some ⟨w.heap.size,0,none⟩) 0 (grownCap w n 0 3))/\w'=(w.drew.alloc (.cells (Builtin.zeroCells #[.int .i64 0] n++Builtin.zeroCells #[.int .i64 0] (grownCap w n 0 3 - n)) 3)):=by
 have hp:(0:Int)<n:=by omega
 have hnn:¬((n:Int)<0):=by omega
 have hold:(Builtin.firstCells Tryz.t3.size 0 (.slice b 0 0)).run Tryz.prog w.drew=.ok ([]:List Value).toArray w.drew:=by
  cases b with
  | none=>exact run_firstCells_none _ _ _ _ _
  | some b=>exact run_firstCells_some _ _ _ _ _ _ [] (by simp) (fun j v hj=>by simp at hj)
 have H:=fun ty=>Lib.run_append_grow_zeros (P:=Tryz.prog) w 46 3 ty 3 Tryz.t3 (.int .i64 0) .i64 .i64 (by kernel_rfl) (by kernel_rfl) (by kernel_rfl) (by kernel_rfl) b 0 0 [] hold n h0 (by rw [DX];omega) (by omega) (by omega) (by rw [AM];omega) (by
  rw [Nat.zero_add,nextslicecap_zero h0,AM];omega)
 simp only [Nat.zero_add,Array.empty_append] at H
 have H2:=Lib.hid H
 clear H hold
 go_enter Tryz.func373,Tryz.ntmps373
 go_wp2_with (at_builtin;refine Lib.wpList_append_run _ rfl _ _ _ _ rfl _ _ rfl rfl _ _ (H2.out _) ?_)
 go_ret
 exact ⟨rfl,rfl⟩
def R (x0:Int):Option (an):=bif decide (0<=x0)&&decide (x0*8<=140737488355328) then some [] else none
def aj {a0:Int}(h:0<=a0/\a0*8<=140737488355328):R a0=some []:=by simp [R,h.1,h.2]
def sem:List L->Option (List L)
 | [y0]=>(R y0.toInt).map RT.enc
 | _=>none
def aK:gu:=⟨[.nil,.rd (.int .i64)],.one (.fr 3),sem⟩
def De:Ev.cells 3=[aE]:=by kernel_rfl
def af:bZ 373 aK:=by
 refine An ⟨Tryz.f373,Tryz.func373,by kernel_rfl,by kernel_rfl⟩ rfl fun ls r w vs Z hs hf=>?_
 simp only [aK] at hs
 unfold sem at hs
 split at hs
 ·rename_i y
  obtain ⟨v,hv,hq⟩:=map_some hs
  unfold R at hv
  cases hc:(decide (0<=y.toInt)&&decide (y.toInt*8<=140737488355328))<;>simp only [hc,aO,aU] at hv
  ·cases hv
  injection hv with hv
  subst hv
  subst hq
  simp only [Bool.and_eq_true,decide_eq_true_eq] at hc
  cases hf with
  | cons h1 ht=>
   cases ht with
   | cons h2 ht=>
    cases ht
    obtain ⟨b,rfl⟩:=(show V0 Ev.cells w (A0 Z w) .nil _ from h1)
    have e2:_=Value.int .i64 y.toInt:=h2
    subst e2
    obtain ⟨n,hn⟩:∃n:Nat,y.toInt=n:=⟨y.toInt.toNat,by omega⟩
    rw [hn] at hc ⊢
    rcases Nat.eq_zero_or_pos n with h0 | h0
    ·subst h0
     exact (Ds b w).mono fun e w' ⟨h3,h4⟩=>⟨_,fun _=>False,h3,by rw [h4];exact Fr.refl _ _,fun b hb=>hb.elim,.nil _ _ _ _ rfl⟩
    ·refine (Dr b n w h0 (by omega)).mono fun e w' ⟨h3,h4⟩=>⟨_,fun b=>b=w.heap.size,h3,?_,fun b hb=>?_,?_⟩
     ·rw [h4];exact ((Fr.refl w _).drew).alloc _
     ·subst hb;rw [h4];simp
     ·have hge:=grownCap_ge w n 0 3
      have hle:grownCap w n 0 3<=maxLen:=grownCap_le_maxLen w n 0 3 (by simp only [maxLen];omega)
      rw [h4]
      refine .sl _ 3 0 _ w.heap.size 3 _ _ (fun _ _=>Go.undef) (fun _ _ _=>False) rfl (zero_le _) hle (heap_alloc_new w.drew _) ?_ rfl (fun _ _ _ h=>h.elim) (fun _ _ _ _ _ h=>h.elim) (fun i j k hi=>by omega) (fun i j k hi=>by omega)
      rw [De]
      simp only [Array.size_append,size_zeroCells,List.length_singleton]
      simp
      omega
 ·cases hs
end Z154
namespace Z155
inductive Pt where
 | p0 (a:an) (b:Int) (c:an) (d e:Int)
 | p1 (a:an) (b c:Int) (d:an)
def pid:Pt->Nat
 | .p0 ..=>3
 | .p1 ..=>11
def cF:Pt->List V
 | .p0 a b c d e=>[.sl none 46 a,.int .i64 b,.sl none 46 c,.int .i64 d,.int .i64 e]
 | .p1 a b c d=>[.own 0,.sl none 46 a,.int .i64 b,.int .i64 c]
def dN:Pt->List aL
 | .p0 a b c d e=>[]
 | .p1 a b c d=>[.row 3 d]
def step (J:Pt->aC):Pt->aC
 | .p0 a b c d e=>(cond (e<d) (m2 e (c.length:Int) (cond ((i64.wrap (b+((jo c (toNat e)).length:Int)))<0) none (J (.p0 a (i64.wrap (b+((jo c (toNat e)).length:Int))) c d (i64.wrap (e+1)))))) (call (Z154.R b) fun v1=>J (.p1 a (a.length:Int) 0 v1)))
 | .p1 a b c d=>(cond (c<b) (m2 c (a.length:Int) (ck (eG (((d.length:Int)+((jo a (toNat c)).length:Int))*8)) (J (.p1 a b (i64.wrap (c+1)) (d++(jo a (toNat c))))))) (ret (d:an)))
def start (J:Pt->aC)(x0:an):aC:=J (.p0 x0 0 x0 x0.length 0)
def live:Nat->Live:=gx [(3,iR [0,3,9,10,11]),(11,iR [6,25,26,27])]
def md (a0:List (List Int)):List Int:=a0.flatten
def gd (a0:List (List Int)):Prop:=a0.length<=8/\∀x∈a0,x.length<=2^40
def R:=RR gd md
def aj {a0}(h:gd a0):R (a0.map (eF aQ))=some ((md a0).map aQ):=cO h
def aK:=CN [pL 46] (oL 3) RT.dec R
def bn (a0)(hg:gd a0):∃n,start (iter step n) (a0.map (eF aQ))=ret ((md a0).map aQ):=by
 obtain ⟨hl,hx⟩:=hg
 have hs:∀i,i<=a0.length->((a0.take i).map List.length).sum<=i*2^40:=by
  intro i
  induction i with
  | zero=>intro _;simp
  | succ i ih=>
   intro hi
   rw [List.take_succ_eq_append_getElem (by omega)]
   have h1:=hx a0[i] (List.getElem_mem _)
   simp only [List.map_append,List.map_cons,List.map_nil,List.sum_append,List.sum_cons,List.sum_nil]
   omega
 have hstep:∀i (h:i<a0.length),((a0.take (i+1)).map List.length).sum=((a0.take i).map List.length).sum+a0[i].length:=by
  intro i hi
  rw [List.take_succ_eq_append_getElem (by omega)]
  simp only [List.map_append,List.map_cons,List.map_nil,List.sum_append,List.sum_cons,List.sum_nil]
  omega
 have hf:∀i,(a0.take i).flatten.length=((a0.take i).map List.length).sum:=fun i=>List.length_flatten
 have second:∀k i,i+k=a0.length->∃n,iter step n (Pt.p1 (a0.map (eF aQ)) (a0.length:Int) (i:Int) ((a0.take i).flatten.map aQ))=ret (a0.flatten.map aQ:an):=by
  intro k
  induction k with
  | zero=>
   intro i hi
   obtain rfl:i=a0.length:=by omega
   refine ⟨1,?_⟩
   show step (iter step 0) (Pt.p1 _ _ _ _)=_
   simp only [step]
   refine dZ (by simp) ?_
   rw [List.take_length]
  | succ k ih=>
   intro i hi
   obtain ⟨n,hn⟩:=ih (i+1) (by omega)
   refine ⟨n+1,?_⟩
   show step (iter step n) (Pt.p1 _ _ _ _)=_
   have hlt:i<a0.length:=by omega
   have b1:=hs (i+1) (by omega)
   have b2:=hstep i hlt
   simp only [step,List.length_map,gm,sK]
   refine aG (by simp;omega) (aG (by simp) (aG (by simp;omega) (aG (fQ ?_) ?_)))
   ·rw [eD hlt,hf];omega
   ·rw [aF hlt (by simp only [maxLen];omega),eD hlt,<-List.map_append]
    have e:(a0.take i).flatten++a0[i]=(a0.take (i+1)).flatten:=by
     rw [List.take_succ_eq_append_getElem (by omega)]
     simp only [List.flatten_append,List.flatten_cons,List.flatten_nil,List.append_nil]
    rw [e];exact hn
 have first:∀k i,i+k=a0.length->∃n,iter step n (Pt.p0 (a0.map (eF aQ)) ((((a0.take i).map List.length).sum:Nat):Int) (a0.map (eF aQ)) (a0.length:Int) (i:Int))=ret (a0.flatten.map aQ:an):=by
  intro k
  induction k with
  | zero=>
   intro i hi
   obtain rfl:i=a0.length:=by omega
   obtain ⟨n,hn⟩:=second a0.length 0 (by omega)
   refine ⟨n+1,?_⟩
   show step (iter step n) (Pt.p0 _ _ _ _ _)=_
   have b1:=hs a0.length (by omega)
   simp only [step]
   refine dZ (by simp) (cG [] (Z154.aj ⟨by omega,by omega⟩) ?_)
   simpa using hn
  | succ k ih=>
   intro i hi
   obtain ⟨n,hn⟩:=ih (i+1) (by omega)
   refine ⟨n+1,?_⟩
   show step (iter step n) (Pt.p0 _ _ _ _ _)=_
   have hlt:i<a0.length:=by omega
   have b1:=hs (i+1) (by omega)
   have b2:=hstep i hlt
   simp only [step,List.length_map,gm,sK,eD hlt]
   have e:i64.wrap (((((a0.take i).map List.length).sum:Nat):Int)+(a0[i].length:Int))=((((a0.take (i+1)).map List.length).sum:Nat):Int):=by
    rw [Go.IntWalk.i64_in _ (by omega)];omega
   rw [e]
   refine aG (by simp;omega) (aG (by simp) (aG (by simp;omega) (dZ (by simp) ?_)))
   rw [aF hlt (by simp only [maxLen];omega)]
   exact hn
 unfold md
 obtain ⟨n,hn⟩:=first a0.length 0 (by omega)
 refine ⟨n,?_⟩
 unfold start
 simpa using hn
def af:bZ 302 aK:=L1 36 pid cF dN live step start mix aA bn (cM Z154.af) Tryz.func302
def len (a0:List (List Int)):(md a0).length=(a0.map List.length).sum:=by simp [md]
end Z155
namespace Z156
def F (x0:bL):aC:=(call (Z149.R x0.bU) fun v1=>(call (Z149.R x0.bF) fun v2=>(call (Z149.R x0.bB) fun v3=>(call (Z153.R x0.bk) fun v4=>(call (Z155.R [[L.sl [[L.int x0.aS],[L.int x0.cy],[L.int x0.bE],[L.int x0.cg],[L.int x0.cq],[L.int x0.cj],[L.int x0.dx],[L.int x0.dX]]],[L.sl v1],[L.sl v2],[L.sl [[L.int x0.cT]]],[L.sl v3],[L.sl [[L.int v4]]]]) fun v5=>ret (v5:an))))))
def md (a0:au):List Int:=(Z155.md [[a0.aS,a0.cy,a0.bE,a0.cg,a0.cq,a0.cj,a0.dx,a0.dX],(Z149.md a0.bU),(Z149.md a0.bF),[a0.cT],(Z149.md a0.bB),[(Z153.md a0.bk)]])
def gd (a0:au):Prop:=(au.Sm (2^21) a0)
def R:=RR gd md
def aj {a0}(h:gd a0):R (au.r a0)=some ((md a0).map aQ):=cO h
def aK:=CN [.agg lC] (oL 3) RT.dec R
def bn (a0)(H0:gd a0):F (au.r a0)=ret ((md a0).map aQ):=by
 refine ct (Z149.aj H0.1) (ct (Z149.aj H0.2.1) ?_)
 refine ct (Z149.aj H0.2.2) (ct (Z153.aj trivial) ?_)
 refine cG _ (rq (Z155.aj (a0:=[[a0.aS,a0.cy,a0.bE,a0.cg,a0.cq,a0.cj,a0.dx,a0.dX],(Z149.md a0.bU),(Z149.md a0.bF),[a0.cT],(Z149.md a0.bB),[(Z153.md a0.bk)]]) ⟨(by simp),(by
   have:=Z149.len a0.bU
   have:=(H0.1).1
   have:=Z149.len a0.bF
   have:=(H0.2.1).1
   have:=Z149.len a0.bB
   have:=(H0.2.2).1
   intro x_ hx_
   simp only [List.mem_cons,List.not_mem_nil,or_false] at hx_
   rcases hx_ with hx_ | hx_ | hx_ | hx_ | hx_ | hx_
   all_goals (subst hx_;first | omega | (simp only [LN];omega)))⟩)) ?_
 exact fz
def af:bZ 229 aK:=W1 38 F mix aA bn (jw Z149.af Z153.af Z155.af) Tryz.func229
def len (a0:au):(md a0).length=16+a0.bU.bz.length+a0.bF.bz.length+a0.bB.bz.length:=by unfold md;simp [Z155.md,Z149.len];omega
def br (a0:au):md a0=Z39.md a0:=by
 rw [Z39.vC]
 unfold md Z155.md
 simp only [Z149.br,Z153.md,List.flatten_cons,List.flatten_nil,List.cons_append,List.nil_append,List.append_nil]
end Z156
namespace Z157
def F (x0:Int)(x1:an):aC:=(call (Z155.R [[L.sl [[L.int x0]]],[L.sl x1],[L.sl [[L.int x0]]]]) fun v1=>(call (Z151.R v1) fun v2=>ret v2))
def md (a0:Int)(a1:List Int):Int:=((Z151.md (Z155.md [[a0],a1,[a0]])))
def gd (a0:Int)(a1:List Int):Prop:=(bf (2^40) (fun y:Int=>True) a1)
def R:=cL gd md
def aj {a0 a1}(h:gd a0 a1):R (a0,(a1.map aQ))=some (md a0 a1):=cK h
def aK:=CN [pI,pL 3] oI RT.dec R
def bn (a0)(a1)(H1:gd a0 a1):F a0 (a1.map aQ)=ret (md a0 a1):=by
 refine cG _ (rq (Z155.aj (a0:=[[a0],a1,[a0]]) ⟨(by simp),(by
   have:=(H1).1
   intro x_ hx_
   simp only [List.mem_cons,List.not_mem_nil,or_false] at hx_
   rcases hx_ with hx_ | hx_ | hx_
   all_goals (subst hx_;first | omega | (simp only [LN];omega)))⟩)) ?_
 refine ct (Z151.aj ⟨(by
   have:=Z155.len [[a0],a1,[a0]]
   simp only [LN] at this
   have:=(H1).1
   exact om),fun _ _=>trivial⟩) ?_
 exact fz
def af:bZ 495 aK:=W2 13 F mix aA bn (eS Z155.af Z151.af) Tryz.func495
def br (a0:Int)(a1:List Int):md a0 a1=Z41.md a0 a1:=by
 unfold md Z41.md
 (simp only [Z151.br];rfl)
end Z157
namespace Z158
def F (x0:Int)(x1:an):aC:=(ck (eG (((1:Int)+x1.length)*8)) (call (Z157.R (x0,([[L.int 223]]++x1))) fun v1=>ret v1))
def md (a0:Int)(a1:List Int):Int:=((Z157.md a0 ([223]++a1)))
def gd (a0:Int)(a1:List Int):Prop:=(bf (2^39) (fun y:Int=>True) a1)
def R:=cL gd md
def aj {a0 a1}(h:gd a0 a1):R (a0,(a1.map aQ))=some (md a0 a1):=cK h
def aK:=CN [pI,pL 3] oI RT.dec R
def bn (a0)(a1)(H1:gd a0 a1):F a0 (a1.map aQ)=ret (md a0 a1):=by
 refine aG (have:=(H1).1;lm) (cG _ (rq (Z157.aj (a1:=([223]++a1)) ⟨(have:=(H1).1;om),fun _ _=>trivial⟩)) ?_)
 exact fz
def af:bZ 478 aK:=W2 10 F mix aA bn (cM Z157.af) Tryz.func478
def br (a0:Int)(a1:List Int):md a0 a1=Z42.md a0 a1:=by
 unfold md Z42.md
 simp only [Z157.br]
end Z158
namespace Z159
def F (x0:bC)(x1:an):aC:=(call (Z143.R x0.jI) fun v1=>(cond v1 (call (Z158.R (x0.jI,x1)) fun v2=>ret ((x0.ox==v2))) (ret false)))
def md (a0:bC)(a1:List Int):Bool:=(cond (Z143.md a0.jI) ((a0.ox==(Z158.md a0.jI a1))) false)
def gd (a0:bC)(a1:List Int):Prop:=(bf (2^38) (fun y:Int=>True) a1)
def R:=cL gd md
def aj {a0 a1}(h:gd a0 a1):R (a0,(a1.map aQ))=some (md a0 a1):=cK h
def aK:=CN [.agg Dk,pL 3] oB RT.dec R
def bn (a0)(a1)(H1:gd a0 a1):F a0 (a1.map aQ)=ret (md a0 a1):=by
 refine ct (Z143.aj trivial) (bs (fun c1=>?_) (fun _=>rfl))
 exact ct (Z158.aj (H1.mono (by decide) (fun x hx=>trivial))) fz
def af:bZ 460 aK:=W2 17 F mix aA bn (eS Z143.af Z158.af) Tryz.func460
def br (a0:bC)(a1:List Int):md a0 a1=Z46.md a0 a1:=by
 unfold md Z46.md
 (simp only [Z158.br];rfl)
end Z159
namespace Z160
def F (x0:bC)(x1 x2:List L):aC:=(cond (x0.jI==(gP x1)) (call (Z159.R (x0,(nO x2))) fun v1=>ret v1) (ret false))
def pats:List fE:=[.agg [aE,aE],.ptr [aE],.ptr [.sl 3]]
def res:RP:=.one (.rd (.bool))
def md (a0:bC)(a1:Int)(a2:List Int):Bool:=(cond (a0.jI==a1) ((Z159.md a0 a2)) false)
def gd (a0:bC)(a1:Int)(a2:List Int):Prop:=(bf (2^38) (fun y:Int=>True) a2)
def acc (ls:List L):bC×Int×an:=((bC.dec ls),(gP (cm 1 (bA 2 ls))),(nO (cm 1 (bA 3 ls))))
def R:(bC×Int×an)->Option Bool:=lY gd md
def aj {a0 a1 a2}(h:gd a0 a1 a2):R (a0,a1,(a2.map aQ))=some (md a0 a1 a2):=lV h
def aK:gu:=CN pats res acc R
def bn (a0:bC)(a1:Int)(a2:List Int)(p1 p2:List L)(e1:a1=(gP p1))(e2:(a2.map aQ)=(nO p2))(H2:gd a0 a1 a2):F a0 p1 p2=ret ((md a0 a1 a2):Bool):=by
 unfold F md
 simp only [SS,<-e1,<-e2]
 refine bs (fun c1=>?_) (fun _=>rfl)
 exact ct (Z159.aj H2) fz
def qK (ls:List L)(a:bC×Int×List Int)(e:acc ls=Im.im a)(hg:(p3 gd) a):∃n:Nat,F (bC.dec ls) (cm 1 (bA 2 ls)) (cm 1 (bA 3 ls))=ret (Im.im ((u3 md) a)):=by
 have e0:a.1=(bC.dec ls):=(congrArg (fun x=>x.1) e.symm)
 have hn:=bn a.1 a.2.1 a.2.2 (cm 1 (bA 2 ls)) (cm 1 (bA 3 ls)) (congrArg (fun x=>x.2.1) e.symm) (congrArg (fun x=>x.2.2) e.symm) hg
 refine ⟨0,?_⟩
 rw [<-e0]
 exact hn
def af:bZ 459 aK:=VP (live:=fun _=>[]) (nt:=14) (accr:=fun ls=>((bC.dec ls),(cm 1 (bA 2 ls)),(cm 1 (bA 3 ls)))) (run:=fun _ x=>F x.1 x.2.1 x.2.2) mix aA (cM Z159.af) Tryz.func459 (by kernel_rfl) (fun _ _=>by kernel_rfl) (fun ls a _ e hg=>qK ls a e hg)
end Z160
namespace Z161
inductive Pt where
 | p0 (a:an) (b c:List L) (d e:Int)
def pid:Pt->Nat
 | .p0 ..=>2
def cF:Pt->List V
 | .p0 a b c d e=>[.sl none 315 a,.fn 459 [.cQ none [aE] b 0,.cQ none [.sl 3] c 0],.int .i64 d,.int .i64 e]
def dN:Pt->List aL
 | .p0 a b c d e=>[]
def step (J:Pt->aC):Pt->aC
 | .p0 a b c d e=>(cond (e<d) (m2 e (a.length:Int) (call (Z160.R ((bC.at a (toNat e)),(gP b),(nO c))) fun v1=>(cond v1 (ret (e:Int)) (J (.p0 a b c d (i64.wrap (e+1))))))) mG)
def start (J:Pt->aC)(x0:an)(x1 x2:List L):aC:=J (.p0 x0 x1 x2 x0.length 0)
def live:Nat->Live:=gx [(2,iR [0,1,7,8])]
def pats:List fE:=[.rd (.sl 315),.fn 459 [[aE],[.sl 3]]]
def res:RP:=.one (.rd (.int .i64))
abbrev E:Env:={ T:=assoc mq,G:=cW [(459,Z160.aK)],nt:=19 }
def step_eq (I:dB)(p:Pt):dU E live I (pid p) (bJ Tryz.f477) (iN (live (pid p)) (cF p) (dN p)) (dz E Tryz.f477 res)=step (fun q=>I (pid q) (cF q) (dN q)) p:=by
 cases p<;>kernel_rfl
def start_eq (I:dB)(ls:List L):gJ E live I (bJ Tryz.f477) (dy pats ls) (dz E Tryz.f477 res)=start (fun q=>I (pid q) (cF q) (dN q)) (eM ls) (cm 1 (bA 1 ls)) (cm 1 (bA 2 ls)):=by kernel_rfl
def run_eq (n:Nat)(ls:List L):eV E live Tryz.f477 res n (dy pats ls)=start (iter step n) (eM ls) (cm 1 (bA 1 ls)) (cm 1 (bA 2 ls)):=dK (id:=pid) (vs:=cF) (hs:=dN) (step:=step) (start:=fun J=>start J (eM ls) (cm 1 (bA 1 ls)) (cm 1 (bA 2 ls))) step_eq (fun I=>start_eq I ls) n
def md (a0:List bC)(a1:Int)(a2:List Int):Int:=(dD (S:=Unit) (β:=Int) (fun i1 y1 s3=>(cond (Z160.md y1 a1 a2) (.inr (i1)) (.inl ()))) (fun s3=>((-1):Int)) 0 a0 ())
def gd (a0:List bC)(a1:Int)(a2:List Int):Prop:=(bf (2^21) (fun y:bC=>bC.Sm (2^21) y) a0)/\(bf (2^38) (fun y:Int=>True) a2)
def acc (ls:List L):an×Int×an:=((eM ls),(gP (cm 1 (bA 1 ls))),(nO (cm 1 (bA 2 ls))))
def R:(an×Int×an)->Option Int:=lY gd md
def aj {a0 a1 a2}(h:gd a0 a1 a2):R ((a0.map bC.row),a1,(a2.map aQ))=some (md a0 a1 a2):=lV h
def aK:gu:=CN pats res acc R
def bn (a0:List bC)(a1:Int)(a2:List Int)(p1 p2:List L)(e1:a1=(gP p1))(e2:(a2.map aQ)=(nO p2))(hg:gd a0 a1 a2):∃n,start (iter step n) (a0.map bC.row) p1 p2=ret ((md a0 a1 a2):Int):=by
 obtain ⟨H0,H2⟩:=hg
 have Bh2:=bl H0
 refine ex_eq (cC (z:=bC.zero)) (dc (p:=Pt.p0 (a0.map bC.row) p1 p2 (a0.length:Int) 0) fz ?_)
 refine bH (pt:=fun (i1:Nat) (s3:Unit)=>Pt.p0 (a0.map bC.row) p1 p2 (a0.length:Int) (i1:Int)) (fun _ _=>True) (fun J i1 s3 h2 hih2=>?_) (fun s3 hih2=>?_) trivial
 ·simp only [step,SS,<-e1,<-e2]
  refine aP.yes dt (aP.yes bu ?_)
  refine aP.yes (bK h2) (cr (Z160.aj H2) ?_)
  refine aP.bif (fun c4=>aP.inr fz) (fun c4=>?_)
  refine aP.inl trivial ?_
  rw [aF h2 Bh2]
 ·simp only [step,SS,<-e1,<-e2]
  refine cH dn (⟨0,?_⟩)
  exact fz
def qK (ls:List L)(a:List bC×Int×List Int)(e:acc ls=Im.im a)(hg:(p3 gd) a):∃n:Nat,start (iter step n) ((eM ls)) (cm 1 (bA 1 ls)) (cm 1 (bA 2 ls))=ret (Im.im ((u3 md) a)):=by
 have e0:(a.1.map bC.row)=(eM ls):=(congrArg (fun x=>x.1) e.symm)
 obtain ⟨n,hn⟩:=bn a.1 a.2.1 a.2.2 (cm 1 (bA 1 ls)) (cm 1 (bA 2 ls)) (congrArg (fun x=>x.2.1) e.symm) (congrArg (fun x=>x.2.2) e.symm) hg
 refine ⟨n,?_⟩
 rw [<-e0]
 exact hn
def af:bZ 477 aK:=VP (accr:=fun ls=>((eM ls),(cm 1 (bA 1 ls)),(cm 1 (bA 2 ls)))) (run:=fun n x=>start (iter step n) x.1 x.2.1 x.2.2) mix aA (cM Z160.af) Tryz.func477 (by kernel_rfl) run_eq (fun ls a _ e hg=>qK ls a e hg)
def idx_eq (a0:List bC)(a1:Int)(a2:List Int):md a0 a1 a2=jR (fun y=>Z160.md y a1 a2) 0 a0:=iZ
end Z161
namespace Z162
def F (x0:an)(x1 x2:List L):aC:=(call (Z161.R (x0,(gP x1),(nO x2))) fun v1=>ret ((decide (v1>=0))))
def pats:List fE:=[.rd (.sl 315),.fn 459 [[aE],[.sl 3]]]
def res:RP:=.one (.rd (.bool))
def md (a0:List bC)(a1:Int)(a2:List Int):Bool:=((decide ((Z161.md a0 a1 a2)>=0)))
def gd (a0:List bC)(a1:Int)(a2:List Int):Prop:=(bf (2^21) (fun y:bC=>bC.Sm (2^21) y) a0)/\(bf (2^38) (fun y:Int=>True) a2)
def acc (ls:List L):an×Int×an:=((eM ls),(gP (cm 1 (bA 1 ls))),(nO (cm 1 (bA 2 ls))))
def R:(an×Int×an)->Option Bool:=lY gd md
def aj {a0 a1 a2}(h:gd a0 a1 a2):R ((a0.map bC.row),a1,(a2.map aQ))=some (md a0 a1 a2):=lV h
def aK:gu:=CN pats res acc R
def bn (a0:List bC)(a1:Int)(a2:List Int)(p1 p2:List L)(e1:a1=(gP p1))(e2:(a2.map aQ)=(nO p2))(hg:gd a0 a1 a2):F (a0.map bC.row) p1 p2=ret ((md a0 a1 a2):Bool):=by
 obtain ⟨H0,H2⟩:=hg
 unfold F md
 simp only [SS,<-e1,<-e2]
 exact ct (Z161.aj ⟨H0,H2⟩) fz
def qK (ls:List L)(a:List bC×Int×List Int)(e:acc ls=Im.im a)(hg:(p3 gd) a):∃n:Nat,F ((eM ls)) (cm 1 (bA 1 ls)) (cm 1 (bA 2 ls))=ret (Im.im ((u3 md) a)):=by
 have e0:(a.1.map bC.row)=(eM ls):=(congrArg (fun x=>x.1) e.symm)
 have hn:=bn a.1 a.2.1 a.2.2 (cm 1 (bA 1 ls)) (cm 1 (bA 2 ls)) (congrArg (fun x=>x.2.1) e.symm) (congrArg (fun x=>x.2.2) e.symm) hg
 refine ⟨0,?_⟩
 rw [<-e0]
 exact hn
def af:bZ 458 aK:=VP (live:=fun _=>[]) (nt:=9) (accr:=fun ls=>((eM ls),(cm 1 (bA 1 ls)),(cm 1 (bA 2 ls)))) (run:=fun _ x=>F x.1 x.2.1 x.2.2) mix aA (cM Z161.af) Tryz.func458 (by kernel_rfl) (fun _ _=>by kernel_rfl) (fun ls a _ e hg=>qK ls a e hg)
def any_eq (a0:List bC)(a1:Int)(a2:List Int):md a0 a1 a2=a0.any (fun y=>Z160.md y a1 a2):=by
 unfold md
 rw [Z161.idx_eq]
 exact rY
end Z162
namespace Z163
inductive Pt where
 | p0 (a:an) (b:Int) (c:an) (d e:Int) (f:an)
def cF:Pt->List V
 | .p0 a b c d e f=>[.sl none 315 a,.bN 0 0,.int .i64 b,.sl none 3 c,.int .i64 d,.int .i64 e]
def dN:Pt->List aL
 | .p0 a b c d e f=>[.box [.sl none 3 f]]
def step (J:Pt->aC):Pt->aC
 | .p0 a b c d e f=>(cond (e<d) (m2 e (c.length:Int) (call (Z162.R (a,(gR c (toNat e)),f)) fun v1=>(cond v1 (J (.p0 a (i64.wrap (b+1)) c d (i64.wrap (e+1)) f)) (J (.p0 a b c d (i64.wrap (e+1)) f))))) (ret (b:Int)))
def start (J:Pt->aC)(x0:cV)(x1 x2:an):aC:=J (.p0 x2 0 x0.bz x0.bz.length 0 x1)
def live:Nat->Live:=gx [(3,iR [2,4,7,11,12,13])]
def md (a0:aN)(a1:List Int)(a2:List bC):Int:=(dQ (S:=Int) (β:=Int) (fun y1 s3=>(cond (Z162.md a2 y1 a1) (.inl (i64.wrap (s3+1))) (.inl s3))) (fun s3=>s3) a0.bz 0)
def gd (a0:aN)(a1:List Int)(a2:List bC):Prop:=(aN.Sm (2^21) a0)/\(bf (2^38) (fun y:Int=>True) a1)/\(bf (2^21) (fun y:bC=>bC.Sm (2^21) y) a2)
def R:=lY gd md
def aj {a0 a1 a2}(h:gd a0 a1 a2):R ((aN.r a0),(a1.map aQ),(a2.map bC.row))=some (md a0 a1 a2):=lV h
def aK:=CN [.agg qR,pL 3,pL 315] oI RT.dec R
def bn (a0)(a1)(a2)(hg:gd a0 a1 a2):∃n,start (iter step n) (aN.r a0) (a1.map aQ) (a2.map bC.row)=ret (md a0 a1 a2):=by
 obtain ⟨H0,H1,H2⟩:=hg
 have Bh2:=bl H0
 refine ex_eq (dV (z:=0)) (dc (p:=Pt.p0 (a2.map bC.row) 0 (a0.bz.map aQ) (a0.bz.length:Int) 0 (a1.map aQ)) fz ?_)
 refine bH (pt:=fun (i1:Nat) (s3:Int)=>Pt.p0 (a2.map bC.row) s3 (a0.bz.map aQ) (a0.bz.length:Int) (i1:Int) (a1.map aQ)) (fun _ _=>True) (fun J i1 s3 h2 hih2=>?_) (fun s3 hih2=>?_) trivial
 ·simp only [step,SS]
  refine aP.yes dt (aP.yes bu ?_)
  refine aP.yes (bK h2) (cr (Z162.aj ⟨H2,H1⟩) ?_)
  refine aP.bif (fun c4=>?_) (fun c4=>?_)
  ·refine aP.inl trivial ?_
   rw [aF h2 Bh2]
  ·refine aP.inl trivial ?_
   rw [aF h2 Bh2]
 ·simp only [step,SS]
  refine cH dn (⟨0,?_⟩)
  exact fz
def af:bZ 419 aK:=L3 24 (fun _=>3) cF dN live step start mix aA bn (cM Z162.af) Tryz.func419
def br (a0:aN)(a1:List Int)(a2:List bC):md a0 a1 a2=Z47.md a0 a1 a2:=by
 unfold md Z47.md
 refine rA (fun x _ s=>?_) (fun s=>rfl)
 rw [Z162.any_eq]
 refine Eq.trans ?_ (oC (p:=fun y=>Z160.md y x a1) (b:=Sum.inl (i64.wrap (s+1))) (c:=Sum.inl s) (fun y s'=>?_) a2 ()).symm
 ·cases a2.any (fun y=>Z160.md y x a1)<;>rfl
 ·unfold Z160.md
  simp only [Z159.br]
  cases y.jI==x<;>cases Z46.md y a1<;>rfl
end Z163
namespace Z164
def F (x0:cV)(x1 x2:an):aC:=(call (Z144.R x0) fun v1=>(cond v1 (call (Z163.R (x0,x1,x2)) fun v2=>ret ((decide (v2>=x0.dh)))) (ret false)))
def md (a0:aN)(a1:List Int)(a2:List bC):Bool:=(cond (Z144.md a0) ((decide ((Z163.md a0 a1 a2)>=a0.dh))) false)
def gd (a0:aN)(a1:List Int)(a2:List bC):Prop:=(aN.Sm (2^21) a0)/\(bf (2^38) (fun y:Int=>True) a1)/\(bf (2^21) (fun y:bC=>bC.Sm (2^21) y) a2)
def R:=lY gd md
def aj {a0 a1 a2}(h:gd a0 a1 a2):R ((aN.r a0),(a1.map aQ),(a2.map bC.row))=some (md a0 a1 a2):=lV h
def aK:=CN [.agg qR,pL 3,pL 315] oB RT.dec R
def bn (a0)(a1)(a2)(hg:gd a0 a1 a2):F (aN.r a0) (a1.map aQ) (a2.map bC.row)=ret (md a0 a1 a2):=by
 obtain ⟨H0,H1,H2⟩:=hg
 refine ct (Z144.aj H0) (bs (fun c1=>?_) (fun _=>rfl))
 exact ct (Z163.aj ⟨H0,H1,H2⟩) fz
def af:bZ 360 aK:=W3 18 F mix aA bn (eS Z144.af Z163.af) Tryz.func360
def br (a0:aN)(a1:List Int)(a2:List bC):md a0 a1 a2=Z48.md a0 a1 a2:=by
 unfold md Z48.md
 simp only [Z144.br,Z163.br]
end Z164
namespace Z165
def F (x0:aY)(x1:cV):aC:=(call (Z156.R x0.aq) fun v1=>(call (Z164.R (x1,v1,x0.dR)) fun v2=>ret v2))
def md (a0:aa)(a1:aN):Bool:=((Z164.md a1 (Z156.md a0.aq) a0.dR))
def gd (a0:aa)(a1:aN):Prop:=(aa.Sm (2^21) a0)/\(aN.Sm (2^21) a1)
def R:=cL gd md
def aj {a0 a1}(h:gd a0 a1):R ((aa.r a0),(aN.r a1))=some (md a0 a1):=cK h
def aK:=CN [.agg we,.agg qR] oB RT.dec R
def bn (a0)(a1)(hg:gd a0 a1):F (aa.r a0) (aN.r a1)=ret (md a0 a1):=by
 obtain ⟨H0,H1⟩:=hg
 refine ct (Z156.aj H0.1) (ct (Z164.aj ⟨H1,⟨(have:=Z156.len a0.aq;have:=(H0.1.1).1;have:=(H0.1.2.1).1;have:=(H0.1.2.2).1;om),fun _ _=>trivial⟩,H0.2⟩) ?_)
 exact fz
def af:bZ 296 aK:=W2 12 F mix aA bn (eS Z156.af Z164.af) Tryz.func296
end Z165
namespace Z166
def F (x0:aY):aC:=(call (Z148.R x0.aq) fun v1=>(cond v1 (cond (x0.aq.cy==0) (cond (x0.aq.bE==1) (cond (!x0.aq.bk) (call (Z152.R (x0.aq.bU,x0.aq.dX)) fun v2=>(cond (x0.aq.aS==v2) (call (Z165.R (x0,x0.aq.bU)) fun v3=>ret v3) (ret false))) (ret false)) (ret false)) (ret false)) (ret false)))
def md (a0:aa):Bool:=(cond (Z148.md a0.aq) (cond (a0.aq.cy==0) (cond (a0.aq.bE==1) (cond (!a0.aq.bk) (cond (a0.aq.aS==(Z152.md a0.aq.bU a0.aq.dX)) ((Z165.md a0 a0.aq.bU)) false) false) false) false) false)
def gd (a0:aa):Prop:=(aa.Sm (2^21) a0)
def R:=RR gd md
def aj {a0}(h:gd a0):R (aa.r a0)=some (md a0):=cO h
def aK:=CN [.agg we] oB RT.dec R
def bn (a0)(H0:gd a0):F (aa.r a0)=ret (md a0):=by
 refine ct (Z148.aj H0.1) (bs (fun c1=>?_) (fun _=>rfl))
 refine bs (fun c2=>?_) (fun _=>rfl)
 refine bs (fun c3=>?_) (fun _=>rfl)
 refine bs (fun c4=>?_) (fun _=>rfl)
 refine ct (Z152.aj H0.1.1) (bs (fun c5=>?_) (fun _=>rfl))
 exact ct (Z165.aj ⟨H0,H0.1.1⟩) fz
def af:bZ 222 aK:=W1 39 F mix aA bn (jw Z148.af Z152.af Z165.af) Tryz.func222
def br (a0:aa):md a0=Z49.md a0:=by
 unfold md Z49.md
 simp only [Z165.md,Z164.br,Z156.br,Z148.br,Z152.br]
end Z166
namespace Z167
def F (x0:bL):aC:=(call (Z156.R x0) fun v1=>(ck (eG (((1:Int)+v1.length)*8)) (call (Z151.R ([[L.int 233]]++v1)) fun v2=>ret v2)))
def md (a0:au):Int:=((Z151.md ([233]++(Z156.md a0))))
def gd (a0:au):Prop:=(au.Sm (2^21) a0)
def R:=RR gd md
def aj {a0}(h:gd a0):R (au.r a0)=some (md a0):=cO h
def aK:=CN [.agg lC] oI RT.dec R
def bn (a0)(H0:gd a0):F (au.r a0)=ret (md a0):=by
 refine ct (Z156.aj H0) (aG (have:=Z156.len a0;have:=(H0.1).1;have:=(H0.2.1).1;have:=(H0.2.2).1;lm) ?_)
 exact cG _ (rq (Z151.aj (a0:=([233]++(Z156.md a0))) ⟨(have:=Z156.len a0;have:=(H0.1).1;have:=(H0.2.1).1;have:=(H0.2.2).1;om),fun _ _=>trivial⟩)) fz
def af:bZ 420 aK:=W1 8 F mix aA bn (eS Z156.af Z151.af) Tryz.func420
def br (a0:au):md a0=Z50.md a0:=by
 unfold md Z50.md
 simp only [Z156.br,Z151.br]
end Z167
namespace Z168
def F (x0 x1:bL):aC:=(cond (x1.aS==x0.aS) (cond (x1.cy==(i64.wrap (x0.cy+1))) (call (Z167.R x0) fun v1=>(cond (x1.dX==v1) (ret ((decide (x1.cg>=x0.cg)))) (ret false))) (ret false)) (ret false))
def md (a0 a1:au):Bool:=(cond (a1.aS==a0.aS) (cond (a1.cy==(i64.wrap (a0.cy+1))) (cond (a1.dX==(Z167.md a0)) ((decide (a1.cg>=a0.cg))) false) false) false)
def gd (a0 a1:au):Prop:=(au.Sm (2^21) a0)
def R:=cL gd md
def aj {a0 a1}(h:gd a0 a1):R ((au.r a0),(au.r a1))=some (md a0 a1):=cK h
def aK:=CN [.agg lC,.agg lC] oB RT.dec R
def bn (a0)(a1)(H0:gd a0 a1):F (au.r a0) (au.r a1)=ret (md a0 a1):=by
 refine bs (fun c1=>?_) (fun _=>rfl)
 refine bs (fun c2=>?_) (fun _=>rfl)
 refine ct (Z167.aj H0) (bs (fun c3=>?_) (fun _=>rfl))
 exact fz
def af:bZ 361 aK:=W2 32 F mix aA bn (cM Z167.af) Tryz.func361
end Z168
namespace Z169
def F (x0:bL)(x1:aY):aC:=(cond x0.bk (ret (4:Int)) (cond x1.aq.bk (ret (6:Int)) (call (Z165.R (x1,x0.bU)) fun v1=>(cond (!v1) (ret (7:Int)) (ret (1:Int))))))
def md (a0:au)(a1:aa):Int:=(cond a0.bk (4:Int) (cond a1.aq.bk (6:Int) (cond (!(Z165.md a1 a0.bU)) (7:Int) (1:Int))))
def gd (a0:au)(a1:aa):Prop:=(au.Sm (2^21) a0)/\(aa.Sm (2^21) a1)
def R:=cL gd md
def aj {a0 a1}(h:gd a0 a1):R ((au.r a0),(aa.r a1))=some (md a0 a1):=cK h
def aK:=CN [.agg lC,.agg we] oI RT.dec R
def bn (a0)(a1)(hg:gd a0 a1):F (au.r a0) (aa.r a1)=ret (md a0 a1):=by
 obtain ⟨H0,H1⟩:=hg
 refine bs (fun _=>rfl) (fun c1=>?_)
 refine bs (fun _=>rfl) (fun c2=>?_)
 refine ct (Z165.aj ⟨H1,H0.1⟩) (bs (fun _=>rfl) (fun _=>rfl))
def af:bZ 362 aK:=W2 18 F mix aA bn (cM Z165.af) Tryz.func362
end Z169
namespace Z170
inductive Pt where
 | p0 (a b:an) (c d:Int)
def cF:Pt->List V
 | .p0 a b c d=>[.sl none 3 a,.sl none 3 b,.int .i64 c,.int .i64 d]
def step (J:Pt->aC):Pt->aC
 | .p0 a b c d=>(cond (d<c) (m2 d (a.length:Int) (m2 d (b.length:Int) (cond ((gR a (toNat d)) != (gR b (toNat d))) fq (J (.p0 a b c (i64.wrap (d+1))))))) nN)
def start (J:Pt->aC)(x0 x1:an):aC:=(cond (x0.length != (x1.length:Int)) (ret false) (J (.p0 x0 x1 x0.length 0)))
def live:Nat->Live:=gx [(4,iR [0,1,12,13])]
def md (a0 a1:List Int):Bool:=(bif (a0.length != (a1.length:Int)) then false else (eu (S:=Unit) (β:=Bool) (fun i2 s4=>(cond ((a0.getD i2 0) != (a1.getD i2 0)) (.inr false) (.inl ()))) (fun s4=>true) a0.length 0 ()))
def gd (a0 a1:List Int):Prop:=(bf (2^38) (fun y:Int=>True) a0)/\(bf (2^38) (fun y:Int=>True) a1)
def R:=cL gd md
def aj {a0 a1}(h:gd a0 a1):R ((a0.map aQ),(a1.map aQ))=some (md a0 a1):=cK h
def aK:=CN [pL 3,pL 3] oB RT.dec R
def bn (a0)(a1)(hg:gd a0 a1):∃n,start (iter step n) (a0.map aQ) (a1.map aQ)=ret (md a0 a1):=by
 obtain ⟨H0,H1⟩:=hg
 unfold start md
 simp only [SS]
 refine gB ret (fun _=>⟨0,rfl⟩) (fun c1=>?_)
 have dc1:=c1
 simp only [DC] at dc1
 have Bh3:=bl H0
 refine dc fz (bH (pt:=fun (i2:Nat) (s4:Unit)=>Pt.p0 (a0.map aQ) (a1.map aQ) (a0.length:Int) (i2:Int)) (fun _ _=>True) (fun J i2 s4 h3 hih3=>?_) (fun s4 hih3=>?_) trivial)
 ·simp only [step,SS]
  refine aP.yes dt (aP.yes bu ?_)
  refine aP.yes (bK h3) (aP.yes bu ?_)
  refine aP.yes dt (aP.bif (fun _=>aP.inr rfl) (fun c5=>?_))
  refine aP.inl trivial ?_
  rw [aF h3 Bh3]
 ·simp only [step,SS]
  refine cH dn (⟨0,?_⟩)
  exact fz
def af:bZ 166 aK:=L2 26 (fun _=>4) cF (fun _=>[]) live step start mix aA bn .nil Tryz.func166
def md_eq (a0 a1:List Int):md a0 a1=iM a0 a1:=by
 refine iL (0) (fun i s h h2=>?_) (fun s=>rfl)
 simp only [bne,jC,bool_beq,fY]
 cases iM _ _<;>rfl
end Z170
namespace Z171
def F (x0 x1:cV):aC:=(call (Z170.R (x0.bz,x1.bz)) fun v1=>(cond v1 (ret ((x0.dh==x1.dh))) (ret false)))
def md (a0 a1:aN):Bool:=(cond (Z170.md a0.bz a1.bz) ((a0.dh==a1.dh)) false)
def gd (a0 a1:aN):Prop:=(aN.Sm (2^21) a0)/\(aN.Sm (2^21) a1)
def R:=cL gd md
def aj {a0 a1}(h:gd a0 a1):R ((aN.r a0),(aN.r a1))=some (md a0 a1):=cK h
def aK:=CN [.agg qR,.agg qR] oB RT.dec R
def bn (a0)(a1)(hg:gd a0 a1):F (aN.r a0) (aN.r a1)=ret (md a0 a1):=by
 obtain ⟨H0,H1⟩:=hg
 refine ct (Z170.aj ⟨(H0.mono (by decide) (fun x hx=>trivial)),(H1.mono (by decide) (fun x hx=>trivial))⟩) (bs (fun c1=>?_) (fun _=>rfl))
 exact fz
def af:bZ 228 aK:=W2 17 F mix aA bn (cM Z170.af) Tryz.func228
def md_eq (a0 a1:aN):md a0 a1=iM a0 a1:=by
 unfold md
 cases a0;cases a1
 rw [Bool.eq_iff_iff]
 simp [dM,fY,aN.mk.injEq,Z170.md_eq]
end Z171
namespace Z172
def F (x0 x1:bL):aC:=(cond (x0.cj==x1.cj) (ret ((x0.dx==x1.dx))) (ret false))
def md (a0 a1:au):Bool:=(cond (a0.cj==a1.cj) ((a0.dx==a1.dx)) false)
def gd (a0 a1:au):Prop:=True
def R:=cL gd md
def aj {a0 a1}(h:gd a0 a1):R ((au.r a0),(au.r a1))=some (md a0 a1):=cK h
def aK:=CN [.agg lC,.agg lC] oB RT.dec R
def bn (a0)(a1)(hg:gd a0 a1):F (au.r a0) (au.r a1)=ret (md a0 a1):=by
 refine bs (fun c1=>?_) (fun _=>rfl)
 exact fz
def af:bZ 421 aK:=W2 17 F mix aA bn .nil Tryz.func421
def br (a0 a1:au):md a0 a1=Z54.md a0 a1:=by
 unfold md Z54.md
 simp only [id]
end Z172
namespace Z173
def F (x0:bL)(x1:aY):aC:=(cond x0.bk (ret (4:Int)) (call (Z145.R x0.bF) fun v1=>(cond v1 (ret (5:Int)) (cond (x1.aq.cg<(i64.wrap (x0.cq+x0.cT))) (ret (5:Int)) (cond x1.aq.bk (ret (6:Int)) (call (Z171.R (x1.aq.bU,x0.bF)) fun v2=>(cond (!v2) (ret (6:Int)) (call (Z172.R (x1.aq,x0)) fun v3=>(cond (!v3) (ret (6:Int)) (call (Z165.R (x1,x0.bF)) fun v4=>(cond (!v4) (ret (7:Int)) (ret (1:Int)))))))))))))
def md (a0:au)(a1:aa):Int:=(cond a0.bk (4:Int) (cond (Z145.md a0.bF) (5:Int) (cond (a1.aq.cg<(i64.wrap (a0.cq+a0.cT))) (5:Int) (cond a1.aq.bk (6:Int) (cond (!(Z171.md a1.aq.bU a0.bF)) (6:Int) (cond (!(Z172.md a1.aq a0)) (6:Int) (cond (!(Z165.md a1 a0.bF)) (7:Int) (1:Int))))))))
def gd (a0:au)(a1:aa):Prop:=(au.Sm (2^21) a0)/\(aa.Sm (2^21) a1)
def R:=cL gd md
def aj {a0 a1}(h:gd a0 a1):R ((au.r a0),(aa.r a1))=some (md a0 a1):=cK h
def aK:=CN [.agg lC,.agg we] oI RT.dec R
def bn (a0)(a1)(hg:gd a0 a1):F (au.r a0) (aa.r a1)=ret (md a0 a1):=by
 obtain ⟨H0,H1⟩:=hg
 refine bs (fun _=>rfl) (fun c1=>?_)
 refine ct (Z145.aj trivial) (bs (fun _=>rfl) (fun c2=>?_))
 refine bs (fun _=>rfl) (fun c3=>?_)
 refine bs (fun _=>rfl) (fun c4=>?_)
 refine ct (Z171.aj ⟨H1.1.1,H0.2.1⟩) (bs (fun _=>rfl) (fun c5=>?_))
 refine ct (Z172.aj trivial) (bs (fun _=>rfl) (fun c6=>?_))
 refine ct (Z165.aj ⟨H1,H0.2.1⟩) (bs (fun _=>rfl) (fun _=>rfl))
def af:bZ 363 aK:=W2 48 F mix aA bn (nQ Z145.af Z171.af Z172.af Z165.af) Tryz.func363
end Z173
namespace Z174
def F (x0:bL)(x1:aY):aC:=(call (Z172.R (x1.aq,x0)) fun v1=>(cond v1 (call (Z171.R (x1.aq.bB,x0.bB)) fun v2=>(cond v2 (call (Z171.R (x1.aq.bF,x0.bF)) fun v3=>(cond v3 (call (Z145.R x0.bB) fun v4=>(cond v4 (ret (5:Int)) (cond (x1.aq.bk==x0.bk) (ret (6:Int)) (cond (!(x1.aq.cT==x0.cT)) (ret (6:Int)) (cond x1.aq.bk (call (Z171.R (x1.aq.bU,x0.bU)) fun v5=>(cond (!v5) (ret (6:Int)) (call (Z165.R (x1,x0.bB)) fun v6=>(cond (!v6) (ret (7:Int)) (ret (1:Int)))))) (call (Z165.R (x1,x0.bB)) fun v7=>(cond (!v7) (ret (7:Int)) (ret (1:Int))))))))) (call (Z145.R x0.bB) fun v8=>(cond v8 (ret (5:Int)) (cond (x1.aq.bk==x0.bk) (ret (6:Int)) (ret (6:Int))))))) (call (Z145.R x0.bB) fun v9=>(cond v9 (ret (5:Int)) (cond (x1.aq.bk==x0.bk) (ret (6:Int)) (ret (6:Int))))))) (call (Z145.R x0.bB) fun v10=>(cond v10 (ret (5:Int)) (cond (x1.aq.bk==x0.bk) (ret (6:Int)) (ret (6:Int)))))))
def md (a0:au)(a1:aa):Int:=(cond (Z172.md a1.aq a0) (cond (Z171.md a1.aq.bB a0.bB) (cond (Z171.md a1.aq.bF a0.bF) (cond (Z145.md a0.bB) (5:Int) (cond (a1.aq.bk==a0.bk) (6:Int) (cond (!(a1.aq.cT==a0.cT)) (6:Int) (cond a1.aq.bk (cond (!(Z171.md a1.aq.bU a0.bU)) (6:Int) (cond (!(Z165.md a1 a0.bB)) (7:Int) (1:Int))) (cond (!(Z165.md a1 a0.bB)) (7:Int) (1:Int)))))) (cond (Z145.md a0.bB) (5:Int) (cond (a1.aq.bk==a0.bk) (6:Int) (6:Int)))) (cond (Z145.md a0.bB) (5:Int) (cond (a1.aq.bk==a0.bk) (6:Int) (6:Int)))) (cond (Z145.md a0.bB) (5:Int) (cond (a1.aq.bk==a0.bk) (6:Int) (6:Int))))
def gd (a0:au)(a1:aa):Prop:=(au.Sm (2^21) a0)/\(aa.Sm (2^21) a1)
def R:=cL gd md
def aj {a0 a1}(h:gd a0 a1):R ((au.r a0),(aa.r a1))=some (md a0 a1):=cK h
def aK:=CN [.agg lC,.agg we] oI RT.dec R
def bn (a0)(a1)(hg:gd a0 a1):F (au.r a0) (aa.r a1)=ret (md a0 a1):=by
 obtain ⟨H0,H1⟩:=hg
 refine ct (Z172.aj trivial) (bs (fun c1=>?_) (fun c1=>?_))
 ·refine ct (Z171.aj ⟨H1.1.2.2,H0.2.2⟩) (bs (fun c2=>?_) (fun c2=>?_))
  ·refine ct (Z171.aj ⟨H1.1.2.1,H0.2.1⟩) (bs (fun c3=>?_) (fun c3=>?_))
   ·refine ct (Z145.aj trivial) (bs (fun _=>rfl) (fun c4=>?_))
    refine bs (fun _=>rfl) (fun c5=>?_)
    refine bs (fun _=>rfl) (fun c6=>?_)
    refine bs (fun c7=>?_) (fun c7=>?_)
    ·refine ct (Z171.aj ⟨H1.1.1,H0.1⟩) (bs (fun _=>rfl) (fun c8=>?_))
     refine ct (Z165.aj ⟨H1,H0.2.2⟩) (bs (fun _=>rfl) (fun _=>rfl))
    ·refine ct (Z165.aj ⟨H1,H0.2.2⟩) (bs (fun _=>rfl) (fun _=>rfl))
   ·refine ct (Z145.aj trivial) (bs (fun _=>rfl) (fun c11=>?_))
    refine bs (fun _=>rfl) (fun _=>rfl)
  ·refine ct (Z145.aj trivial) (bs (fun _=>rfl) (fun c13=>?_))
   refine bs (fun _=>rfl) (fun _=>rfl)
 ·refine ct (Z145.aj trivial) (bs (fun _=>rfl) (fun c15=>?_))
  refine bs (fun _=>rfl) (fun _=>rfl)
def af:bZ 364 aK:=W2 65 F mix aA bn (nQ Z172.af Z171.af Z145.af Z165.af) Tryz.func364
end Z174
namespace Z175
def F (x0:bL)(x1:aY):aC:=(call (Z148.R x0) fun v1=>(cond (!v1) (ret (2:Int)) (call (Z148.R x1.aq) fun v2=>(cond (!v2) (ret (2:Int)) (call (Z168.R (x0,x1.aq)) fun v3=>(cond (!v3) (ret (3:Int)) (cond (x1.aq.bE==1) (call (Z169.R (x0,x1)) fun v4=>ret v4) (cond (x1.aq.bE==2) (call (Z173.R (x0,x1)) fun v5=>ret v5) (call (Z174.R (x0,x1)) fun v6=>ret v6)))))))))
def md (a0:au)(a1:aa):Int:=(cond (!(Z148.md a0)) (2:Int) (cond (!(Z148.md a1.aq)) (2:Int) (cond (!(Z168.md a0 a1.aq)) (3:Int) (cond (a1.aq.bE==1) ((Z169.md a0 a1)) (cond (a1.aq.bE==2) ((Z173.md a0 a1)) ((Z174.md a0 a1)))))))
def gd (a0:au)(a1:aa):Prop:=(au.Sm (2^21) a0)/\(aa.Sm (2^21) a1)
def R:=cL gd md
def aj {a0 a1}(h:gd a0 a1):R ((au.r a0),(aa.r a1))=some (md a0 a1):=cK h
def aK:=CN [.agg lC,.agg we] oI RT.dec R
def bn (a0)(a1)(hg:gd a0 a1):F (au.r a0) (aa.r a1)=ret (md a0 a1):=by
 obtain ⟨H0,H1⟩:=hg
 refine ct (Z148.aj H0) (bs (fun _=>rfl) (fun c1=>?_))
 refine ct (Z148.aj H1.1) (bs (fun _=>rfl) (fun c2=>?_))
 refine ct (Z168.aj H0) (bs (fun _=>rfl) (fun c3=>?_))
 refine bs (fun c4=>ct (Z169.aj ⟨H0,H1⟩) fz) (fun c4=>?_)
 exact bs (fun c5=>ct (Z173.aj ⟨H0,H1⟩) fz) (fun c5=>ct (Z174.aj ⟨H0,H1⟩) fz)
def af:bZ 297 aK:=W2 40 F mix aA bn (wP Z148.af Z168.af Z169.af Z173.af Z174.af) Tryz.func297
def br (a0:au)(a1:aa):md a0 a1=Z57.md a0 a1:=by
 unfold md Z57.md Z168.md Z169.md Z173.md Z174.md Z165.md Z51.md Z55.md Z56.md
 simp only [Z148.br,Z167.br,Z164.br,Z156.br,Z145.br,Z171.md_eq,Z53.md_eq,Z172.br,bne]
 cases Z36.md a0
 ·rfl
 cases h2:Z36.md a1.aq
 ·rfl
 obtain ⟨⟨k1,k2⟩,_⟩:=Z36.tr h2
 have ht:decide (a1.aq.cg<a0.cg)=!decide (a1.aq.cg>=a0.cg):=by
  rw [Bool.eq_iff_iff];simp
 rw [ht]
 cases a1.aq.aS==a0.aS
 ·rfl
 cases a1.aq.cy==i64.wrap (a0.cy+1)
 ·rfl
 cases a1.aq.dX==Z50.md a0
 ·rfl
 cases decide (a1.aq.cg>=a0.cg)
 ·rfl
 have hk:a1.aq.bE=1∨a1.aq.bE=2∨a1.aq.bE=3:=by omega
 generalize Z48.md a0.bU (Z39.md a1.aq) a1.dR=s1
 generalize Z48.md a0.bF (Z39.md a1.aq) a1.dR=s2
 generalize Z48.md a0.bB (Z39.md a1.aq) a1.dR=s3
 generalize Z35.md a0.bF=n1
 generalize Z35.md a0.bB=n2
 generalize decide (a1.aq.cg<i64.wrap (a0.cq+a0.cT))=d1
 generalize iM a1.aq.bU a0.bF=e1
 generalize iM a1.aq.bB a0.bB=e2
 generalize iM a1.aq.bF a0.bF=e3
 generalize iM a1.aq.bU a0.bU=e4
 generalize Z54.md a1.aq a0=c1
 generalize (a1.aq.cT==a0.cT)=w1
 generalize a1.aq.bk=f1
 generalize a0.bk=f0
 rcases hk with hk | hk | hk<;>rw [hk]
 ·cases f0<;>cases f1<;>cases s1<;>rfl
 ·cases f0<;>cases n1<;>cases d1<;>cases f1<;>cases e1<;>cases c1<;>cases s2<;>rfl
 ·cases n2
  ·cases f1<;>cases f0<;>cases c1<;>cases e2<;>cases e3<;>cases w1<;>cases e4<;>cases s3<;>rfl
  ·cases c1<;>cases e2<;>cases e3<;>rfl
end Z175
namespace Z176
def F (x0:bL)(x1:aY):aC:=(call (Z175.R (x0,x1)) fun v1=>ret ((v1==1)))
def md (a0:au)(a1:aa):Bool:=(((Z175.md a0 a1)==1))
def gd (a0:au)(a1:aa):Prop:=(au.Sm (2^21) a0)/\(aa.Sm (2^21) a1)
def R:=cL gd md
def aj {a0 a1}(h:gd a0 a1):R ((au.r a0),(aa.r a1))=some (md a0 a1):=cK h
def aK:=CN [.agg lC,.agg we] oB RT.dec R
def bn (a0)(a1)(hg:gd a0 a1):F (au.r a0) (aa.r a1)=ret (md a0 a1):=by
 obtain ⟨H0,H1⟩:=hg
 exact ct (Z175.aj ⟨H0,H1⟩) fz
def af:bZ 223 aK:=W2 9 F mix aA bn (cM Z175.af) Tryz.func223
def br (a0:au)(a1:aa):md a0 a1=Z58.md a0 a1:=by
 unfold md Z58.md
 simp only [Z175.br]
end Z176
namespace Z177
inductive Pt where
 | p0 (a b:an) (c d:Int)
def cF:Pt->List V
 | .p0 a b c d=>[.sl none 53 a,.sl none 53 b,.int .i64 c,.int .i64 d]
def step (J:Pt->aC):Pt->aC
 | .p0 a b c d=>(cond (d<c) (m2 d (b.length:Int) (cond (d==0) (call (Z166.R (aY.at b (toNat d))) fun v1=>(cond (!v1) (ret (d:Int)) (cond (d>0) (ck ((0:Int)<=(i64.wrap (d - 1))) (ck ((i64.wrap (d - 1))<(a.length:Int)) (call (Z176.R ((aY.at a (toNat (i64.wrap (d - 1)))).aq,(aY.at b (toNat d)))) fun v2=>(cond (!v2) (ret (d:Int)) (J (.p0 a b c (i64.wrap (d+1)))))))) (J (.p0 a b c (i64.wrap (d+1))))))) (cond (d>0) (ck ((0:Int)<=(i64.wrap (d - 1))) (ck ((i64.wrap (d - 1))<(a.length:Int)) (call (Z176.R ((aY.at a (toNat (i64.wrap (d - 1)))).aq,(aY.at b (toNat d)))) fun v3=>(cond (!v3) (ret (d:Int)) (J (.p0 a b c (i64.wrap (d+1)))))))) (J (.p0 a b c (i64.wrap (d+1))))))) mG)
def start (J:Pt->aC)(x0:an):aC:=J (.p0 x0 x0 x0.length 0)
def live:Nat->Live:=gx [(2,iR [0,5,6,7])]
def md (a0:List aa):Int:=(dD (S:=Unit) (β:=Int) (fun i1 y1 s3=>(cond ((i1:Int)==0) (cond (!(Z166.md y1)) (.inr (i1)) (cond ((i1:Int)>0) (cond (!(Z176.md ((a0.getD (toNat (i64.wrap (i1 - 1))) aa.zero).aq) y1)) (.inr (i1)) (.inl ())) (.inl ()))) (cond ((i1:Int)>0) (cond (!(Z176.md ((a0.getD (toNat (i64.wrap (i1 - 1))) aa.zero).aq) y1)) (.inr (i1)) (.inl ())) (.inl ())))) (fun s3=>((-1):Int)) 0 a0 ())
def gd (a0:List aa):Prop:=(bf (2^21) (fun y:aa=>aa.Sm (2^21) y) a0)
def R:=RR gd md
def aj {a0}(h:gd a0):R (a0.map aa.row)=some (md a0):=cO h
def aK:=CN [pL 53] oI RT.dec R
def bn (a0)(H0:gd a0):∃n,start (iter step n) (a0.map aa.row)=ret (md a0):=by
 have Bh2:=bl H0
 refine ex_eq (cC (z:=aa.zero)) (dc (p:=Pt.p0 (a0.map aa.row) (a0.map aa.row) (a0.length:Int) 0) fz ?_)
 refine bH (pt:=fun (i1:Nat) (s3:Unit)=>Pt.p0 (a0.map aa.row) (a0.map aa.row) (a0.length:Int) (i1:Int)) (fun _ _=>True) (fun J i1 s3 h2 hih2=>?_) (fun s3 hih2=>?_) trivial
 ·simp only [step,SS]
  have:=(H0).1
  refine aP.yes dt (aP.yes bu ?_)
  refine aP.yes (bK h2) (aP.bif (fun c4=>?_) (fun c4=>?_))
  ·refine cr (Z166.aj (bf.getD H0 h2)) (aP.bif (fun c5=>aP.inr fz) (fun c5=>?_))
   refine aP.bif (fun c6=>?_) (fun c6=>?_)
   ·have dc6:=c6
    simp only [DC] at dc6
    refine aP.yes dt (aP.yes dt ?_)
    refine cr (Z176.aj ⟨(bf.getD H0 (by (simp (disch:=omega) only [wi];omega))).1,(bf.getD H0 h2)⟩) (aP.bif (fun c7=>aP.inr fz) (fun c7=>?_))
    refine aP.inl trivial ?_
    rw [aF h2 Bh2]
   ·refine aP.inl trivial ?_
    rw [aF h2 Bh2]
  ·refine aP.bif (fun c8=>?_) (fun c8=>?_)
   ·have dc8:=c8
    simp only [DC] at dc8
    refine aP.yes dt (aP.yes dt ?_)
    refine cr (Z176.aj ⟨(bf.getD H0 (by (simp (disch:=omega) only [wi];omega))).1,(bf.getD H0 h2)⟩) (aP.bif (fun c9=>aP.inr fz) (fun c9=>?_))
    refine aP.inl trivial ?_
    rw [aF h2 Bh2]
   ·refine aP.inl trivial ?_
    rw [aF h2 Bh2]
 ·simp only [step,SS]
  refine cH dn (⟨0,?_⟩)
  exact fz
def af:bZ 220 aK:=L1 36 (fun _=>2) cF (fun _=>[]) live step start mix aA bn (eS Z166.af Z176.af) Tryz.func220
def br (a0:List aa):md a0=Z59.md a0:=by
 unfold md Z59.md
 rw [<-cC,<-cC]
 refine xR (fun _ _=>True) (fun i s hi _=>⟨?_,fun _ _=>trivial⟩) (fun _ _=>rfl) trivial
 simp only [Z166.br,Z176.br]
 by_cases h0:i=0
 ·subst h0;rfl
 ·have e:((i:Int)==0)=false:=beq_eq_false_iff_ne.2 (by omega)
  simp only [e,aU]
end Z177
namespace Z178
def F (x0:an):aC:=(call (Z134.R (x0.length,1,12)) fun v1=>(cond v1 (call (Z177.R x0) fun v2=>ret ((decide (v2<0)))) (ret false)))
def md (a0:List aa):Bool:=(cond (Z134.md a0.length 1 12) ((decide ((Z177.md a0)<0))) false)
def gd (a0:List aa):Prop:=(bf (2^21) (fun y:aa=>aa.Sm (2^21) y) a0)
def R:=RR gd md
def aj {a0}(h:gd a0):R (a0.map aa.row)=some (md a0):=cO h
def aK:=CN [pL 53] oB RT.dec R
def bn (a0)(H0:gd a0):F (a0.map aa.row)=ret (md a0):=by
 unfold F md
 simp only [SS]
 refine ct (Z134.aj trivial) (bs (fun c1=>?_) (fun _=>rfl))
 exact ct (Z177.aj H0) fz
def af:bZ 128 aK:=W1 11 F mix aA bn (eS Z134.af Z177.af) Tryz.func128
def tr {a0:List aa}(h:md a0=true):1<=a0.length/\a0.length<=12:=by simp [md,Z134.md] at h;omega
def br (a0:List aa):md a0=Z60.md a0:=by
 unfold md Z60.md
 simp only [Z134.br,Z177.br]
end Z178
namespace Z179
def F (x0:an):aC:=(ck ((0:Int)<=(i64.wrap (x0.length - 1))) (ck ((i64.wrap (x0.length - 1))<x0.length) (ret ((aY.at x0 (toNat (i64.wrap (x0.length - 1)))).aq))))
def md (a0:List aa):au:=(a0.getD (toNat (i64.wrap (a0.length - 1))) aa.zero).aq
def gd (a0:List aa):Prop:=(bf (2^21) (fun y:aa=>aa.Sm (2^21) y) a0)/\(1<=a0.length)
def R:=RR gd md
def aj {a0}(h:gd a0):R (a0.map aa.row)=some (au.r (md a0)):=cO h
def aK:=CN [pL 53] (.agg [.rd (.int .i64),.rd (.int .i64),.rd (.int .i64),.rd (.int .i64),.rd (.int .i64),.rd (.int .i64),.rd (.int .i64),.rd (.int .i64),.rd (.sl 3),.rd (.int .i64),.rd (.sl 3),.rd (.int .i64),.rd (.int .i64),.rd (.sl 3),.rd (.int .i64),.rd (.bool)]) RT.dec R
def bn (a0)(hg:gd a0):F (a0.map aa.row)=ret (au.r (md a0)):=by
 obtain ⟨H0,HX⟩:=hg
 refine aG (have:=(H0).1;dt) (aG (have:=(H0).1;dt) ?_)
 exact fz
def af:bZ 253 aK:=W1 10 F mix aA bn .nil Tryz.func253
def fc {a0:List aa}(hg:gd a0):au.Sm (2^21) (md a0):=by
 unfold gd at hg;unfold md
 have h1:=hg.1.1
 exact (bf.getD hg.1 (by simp (disch:=omega) only [Go.IntWalk.i64_in];omega)).1
end Z179
namespace Z180
def F (x0:bp):aC:=(call (Z135.R x0.aZ) fun v1=>(cond (!v1) (ret false) (cond (x0.bE==1) (call (Z134.R (x0.bY,0,999999)) fun v2=>(cond v2 (ret (((x0.bD.length:Int)==0))) (ret false))) (cond (x0.bE==2) (call (Z140.R x0.bY) fun v3=>(cond v3 (ret (((x0.bD.length:Int)==0))) (ret false))) (cond (x0.bE==3) (call (Z140.R x0.bY) fun v4=>(cond v4 (call (Z139.R x0.bD) fun v5=>ret v5) (ret false))) (ret false))))))
def md (a0:ah):Bool:=(cond (!(Z135.md a0.aZ)) false (cond (a0.bE==1) (cond (Z134.md a0.bY 0 999999) (((a0.bD.length:Int)==0)) false) (cond (a0.bE==2) (cond (Z140.md a0.bY) (((a0.bD.length:Int)==0)) false) (cond (a0.bE==3) (cond (Z140.md a0.bY) ((Z139.md a0.bD)) false) false))))
def gd (a0:ah):Prop:=(ah.Sm (2^21) a0)
def R:=RR gd md
def aj {a0}(h:gd a0):R (ah.r a0)=some (md a0):=cO h
def aK:=CN [.agg vY] oB RT.dec R
def bn (a0)(H0:gd a0):F (ah.r a0)=ret (md a0):=by
 refine ct (Z135.aj (le_trans H0.1 (by decide))) (bs (fun _=>rfl) (fun c1=>?_))
 refine bs (fun c2=>?_) (fun c2=>?_)
 ·refine ct (Z134.aj trivial) (bs (fun c3=>?_) (fun _=>rfl))
  exact fz
 ·refine bs (fun c4=>?_) (fun c4=>?_)
  ·refine ct (Z140.aj trivial) (bs (fun c5=>?_) (fun _=>rfl))
   exact fz
  ·refine bs (fun c6=>?_) (fun _=>rfl)
   refine ct (Z140.aj trivial) (bs (fun c7=>?_) (fun _=>rfl))
   exact ct (Z139.aj (H0.2.mono (by decide) (fun x hx=>(le_trans hx (by decide))))) fz
def af:bZ 377 aK:=W1 41 F mix aA bn (nQ Z135.af Z134.af Z140.af Z139.af) Tryz.func377
def br (a0:ah):md a0=Z14.md a0:=by
 unfold md Z14.md
 simp only [Z135.br,Z134.br,Z140.md,Z139.br]
 cases Z12.md a0.aZ<;>simp
end Z180
namespace Z181
set_option maxHeartbeats 1000000 in
set_option maxRecDepth 100000 in
open Go.RowKit in
def calls (a b:az)(w:World):Calls Tryz.prog 285 #[.string a,.string b] w fun e w'=>e=.returned (.int .i64 (Lib.compareBytes a.data.toList b.data.toList))/\w'=w:=by
 go_enter Tryz.func285,Tryz.ntmps170
 go_wp2
 rw [run_callFunc_extern Tryz.func348 (by kernel_rfl) (by kernel_rfl) (by kernel_rfl) (e:=Extern.BytealgCompare.compare) (by kernel_rfl),Lib.run_compareString]
 simp only [Result.andThen]
 rw [Oper.upon_value]
 go_wp2
 go_ret
 exact ⟨rfl,rfl⟩
def md (a0 a1:az):Int:=Lib.compareBytes a0.data.toList a1.data.toList
def R (x:az×az):Option Int:=some (md x.1 x.2)
def aj {a0 a1:az}(_:True):R (a0,a1)=some (md a0 a1):=rfl
def sem:List L->Option (List L)
 | [y0,y1]=>(R (y0.toStr,y1.toStr)).map RT.enc
 | _=>none
def aK:gu:=⟨[.rd .str,.rd .str],.one (.rd (.int .i64)),sem⟩
def af:bZ 285 aK:=by
 refine xJ ⟨Tryz.f285,Tryz.func285,by kernel_rfl,by kernel_rfl⟩ rfl (fun _=>rfl) fun ls r w vs Z hs hf=>?_
 simp only [aK] at hs
 unfold sem at hs
 split at hs
 ·rename_i a b
  cases hf with
  | cons h1 ht=>
   cases ht with
   | cons h2 ht=>
    cases ht
    have e1:_=Value.string a.toStr:=h1
    have e2:_=Value.string b.toStr:=h2
    subst e1;subst e2
    refine (calls a.toStr b.toStr w).mono fun e w' ⟨h3,h4⟩=>⟨_,h3,h4,?_⟩
    injection hs with hs
    subst hs
    rfl
 ·cases hs
end Z181
namespace Z182
def F (x0 x1:az):aC:=(call (Z181.R (x0,x1)) fun v1=>ret v1)
def md (a0 a1:az):Int:=((Z181.md a0 a1))
def gd (a0 a1:az):Prop:=True
def R:=cL gd md
def aj {a0 a1}(h:gd a0 a1):R (a0,a1)=some (md a0 a1):=cK h
def aK:=CN [pS,pS] oI RT.dec R
def bn (a0)(a1)(hg:gd a0 a1):F a0 a1=ret (md a0 a1):=ct (Z181.aj trivial) fz
def af:bZ 206 aK:=W2 8 F mix aA bn (cM Z181.af) Tryz.func206
end Z182
namespace Z183
def F (x0 x1:az):aC:=(call (Z182.R (x0,x1)) fun v1=>ret v1)
def md (a0 a1:az):Int:=((Z182.md a0 a1))
def gd (a0 a1:az):Prop:=True
def R:=cL gd md
def aj {a0 a1}(h:gd a0 a1):R (a0,a1)=some (md a0 a1):=cK h
def aK:=CN [pS,pS] oI RT.dec R
def bn (a0)(a1)(hg:gd a0 a1):F a0 a1=ret (md a0 a1):=ct (Z182.aj trivial) fz
def af:bZ 111 aK:=W2 8 F mix aA bn (cM Z182.af) Tryz.func111
def cmp:∀a b:List UInt8,Lib.compareBytes a b=(cond (Op.bytesLess a b) ((-1):Int) (cond (!((Op.bytesLess a b)||(a==b))) (1:Int) (0:Int)))
 | [],[]=>by simp [Lib.compareBytes,Op.bytesLess]
 | [],_::_=>by simp [Lib.compareBytes,Op.bytesLess]
 | _::_,[]=>by simp [Lib.compareBytes,Op.bytesLess]
 | a::xs,b::ys=>by
  simp only [Lib.compareBytes,Op.bytesLess]
  rw [cmp xs ys]
  by_cases h1:a<b
  ·simp [h1]
  ·by_cases h2:b<a
   ·have hne:a≠b:=fun e=>by subst e;exact h1 h2
    have hb:(a==b)=false:=beq_eq_false_iff_ne.2 hne
    simp [h1,h2,hb,hne]
   ·have he:a=b:=by
     have:=UInt8.lt_or_eq_of_le (UInt8.not_lt.1 h1)
     rcases this with h | h
     ·exact (h2 h).elim
     ·exact h.symm
    subst he
    simp [h1]
def br (a0 a1:az):md a0 a1=Z8.md a0 a1:=by
 unfold md Z8.md Z182.md Z181.md
 rw [cmp,ByteArray.toList_eq,ByteArray.toList_eq]
end Z183
namespace Z184
inductive Pt where
 | p0 (a b:an) (c d:Int)
def cF:Pt->List V
 | .p0 a b c d=>[.sl none 62 a,.sl none 62 b,.int .i64 c,.int .i64 d]
def step (J:Pt->aC):Pt->aC
 | .p0 a b c d=>(cond (d<c) (m2 d (b.length:Int) (call (Z180.R (bp.at b (toNat d))) fun v1=>(cond (!v1) fq (cond (d>0) (ck ((0:Int)<=(i64.wrap (d - 1))) (ck ((i64.wrap (d - 1))<(a.length:Int)) (call (Z183.R ((bp.at b (toNat d)).aZ,(bp.at a (toNat (i64.wrap (d - 1)))).aZ)) fun v2=>(cond (v2<=0) fq (J (.p0 a b c (i64.wrap (d+1)))))))) (J (.p0 a b c (i64.wrap (d+1)))))))) (ret ((decide ((a.length:Int)<=12)):Bool)))
def start (J:Pt->aC)(x0:an):aC:=J (.p0 x0 x0 x0.length 0)
def live:Nat->Live:=gx [(2,iR [0,5,6,7])]
def md (a0:List ah):Bool:=(dD (S:=Unit) (β:=Bool) (fun i1 y1 s3=>(cond (!(Z180.md y1)) (.inr false) (cond ((i1:Int)>0) (cond ((Z183.md (y1.aZ) ((a0.getD (toNat (i64.wrap (i1 - 1))) ah.zero).aZ))<=0) (.inr false) (.inl ())) (.inl ())))) (fun s3=>((decide ((a0.length:Int)<=12)))) 0 a0 ())
def gd (a0:List ah):Prop:=(bf (2^21) (fun y:ah=>ah.Sm (2^21) y) a0)
def R:=RR gd md
def aj {a0}(h:gd a0):R (a0.map ah.row)=some (md a0):=cO h
def aK:=CN [pL 62] oB RT.dec R
def bn (a0)(H0:gd a0):∃n,start (iter step n) (a0.map ah.row)=ret (md a0):=by
 have Bh2:=bl H0
 refine ex_eq (cC (z:=ah.zero)) (dc (p:=Pt.p0 (a0.map ah.row) (a0.map ah.row) (a0.length:Int) 0) fz ?_)
 refine bH (pt:=fun (i1:Nat) (s3:Unit)=>Pt.p0 (a0.map ah.row) (a0.map ah.row) (a0.length:Int) (i1:Int)) (fun _ _=>True) (fun J i1 s3 h2 hih2=>?_) (fun s3 hih2=>?_) trivial
 ·simp only [step,SS]
  have:=(H0).1
  refine aP.yes dt (aP.yes bu ?_)
  refine aP.yes (bK h2) (cr (Z180.aj (bf.getD H0 h2)) ?_)
  refine aP.bif (fun _=>aP.inr rfl) (fun c4=>?_)
  refine aP.bif (fun c5=>?_) (fun c5=>?_)
  ·have dc5:=c5
   simp only [DC] at dc5
   refine aP.yes dt (aP.yes dt ?_)
   refine cr (Z183.aj trivial) (aP.bif (fun _=>aP.inr rfl) (fun c6=>?_))
   refine aP.inl trivial ?_
   rw [aF h2 Bh2]
  ·refine aP.inl trivial ?_
   rw [aF h2 Bh2]
 ·simp only [step,SS]
  refine cH dn (⟨0,?_⟩)
  exact fz
def af:bZ 447 aK:=L1 35 (fun _=>2) cF (fun _=>[]) live step start mix aA bn (eS Z180.af Z183.af) Tryz.func447
def br (a0:List ah):md a0=Z15.md a0:=by
 unfold md Z15.md
 refine mD (fun i x _ s=>?_) (fun s=>rfl)
 simp only [Z180.br,Z183.br,Z8.swap]
end Z184
namespace Z185
inductive Pt where
 | p0 (a:an) (b c:Int) (d:an)
def cF:Pt->List V
 | .p0 a b c d=>[.own 0,.sl none 5 a,.int .i64 b,.int .i64 c]
def dN:Pt->List aL
 | .p0 a b c d=>[.row 3 d]
def step (J:Pt->aC):Pt->aC
 | .p0 a b c d=>(cond (c<b) (m2 c (a.length:Int) (ck (eG (((d.length:Int)+1)*8)) (J (.p0 a b (i64.wrap (c+1)) (d++[[L.int (i64.wrap (gR a (toNat c)))]]))))) (ret (d:an)))
def start (J:Pt->aC)(x0:an):aC:=J (.p0 x0 x0.length 0 [[L.int x0.length]])
def live:Nat->Live:=gx [(3,iR [3,9,10,11])]
def md (a0:List Int):List Int:=([(a0.length:Int)]++a0.map (fun y1=>(i64.wrap y1)))
def gd (a0:List Int):Prop:=(bf (2^38) (fun y:Int=>True) a0)
def R:=RR gd md
def aj {a0}(h:gd a0):R (a0.map aQ)=some ((md a0).map aQ):=cO h
def aK:=CN [pL 5] (oL 3) RT.dec R
def bn (a0)(H0:gd a0):∃n,start (iter step n) (a0.map aQ)=ret ((md a0).map aQ):=by
 have Bh2:=bl H0
 refine ex_eq (out:=(fun b:List Int=>ret ((b.map aQ):an))) (nL (g:=fun (y1:Int)=>(i64.wrap y1)) (z:=0) (t:=fun (s3:List Int)=>s3)) (dc (p:=Pt.p0 (a0.map aQ) (a0.length:Int) 0 ([(a0.length:Int)].map aQ)) fz ?_)
 refine bH (pt:=fun (i1:Nat) (s3:List Int)=>Pt.p0 (a0.map aQ) (a0.length:Int) (i1:Int) (s3.map aQ)) (out:=(fun b:List Int=>ret ((b.map aQ):an))) (fun (i1:Nat) (s3:List Int)=>s3.length<=[(a0.length:Int)].length+1*i1) (fun J i1 s3 h2 hih2=>?_) (fun s3 hih2=>?_) (by simp)
 ·simp only [step,SS]
  have gr_:=hih2
  simp only [LN] at gr_
  have:=(H0).1
  refine aP.yes dt (aP.yes bu ?_)
  refine aP.yes (bK h2) (aP.yes lm ?_)
  refine aP.inl (by
    (simp;omega)) ?_
  rw [aF h2 Bh2]
  exact fz
 ·simp only [step,SS]
  refine cH dn (⟨0,?_⟩)
  exact fz
def af:bZ 479 aK:=L1 22 (fun _=>3) cF dN live step start mix aA bn .nil Tryz.func479
def len (a0:List Int):(md a0).length=1+a0.length:=by simp [md];omega
def br (a0:List Int):md a0=Z23.md a0:=by
 unfold md Z23.md
 simp only [id]
end Z185
namespace Z186
def F (x0:az):aC:=(ck ((x0.size:Int)<=140737488355328) (call (Z185.R (iY x0)) fun v1=>ret (v1:an)))
def md (a0:az):List Int:=(Z185.md (kQ a0))
def gd (a0:az):Prop:=(a0.size<=(2^21))
def R:=RR gd md
def aj {a0}(h:gd a0):R a0=some ((md a0).map aQ):=cO h
def aK:=CN [pS] (oL 3) RT.dec R
def bn (a0)(hg:gd a0):F a0=ret ((md a0).map aQ):=by
 unfold gd at hg
 have H0:=hg
 refine aG (have:=H0;dt) (cG _ (rq (Z185.aj (a0:=(kQ a0)) ⟨(have:=ir a0;have:=H0;om),fun _ _=>trivial⟩)) ?_)
 exact fz
def af:bZ 461 aK:=W1 6 F mix aA bn (cM Z185.af) Tryz.func461
def len (a0:az):(md a0).length=1+a0.size:=by simp [md,Z185.len,ir]
def br (a0:az):md a0=Z24.md a0:=by
 unfold md Z24.md
 simp only [Z185.br]
end Z186
namespace Z187
inductive Pt where
 | p0 (a:an) (b c:Int) (d:an)
def cF:Pt->List V
 | .p0 a b c d=>[.own 0,.sl none 9 a,.int .i64 b,.int .i64 c]
def dN:Pt->List aL
 | .p0 a b c d=>[.row 3 d]
def step (J:Pt->aC):Pt->aC
 | .p0 a b c d=>(cond (c<b) (m2 c (a.length:Int) (call (Z186.R (rV a (toNat c))) fun v1=>(ck (eG (((d.length:Int)+(v1.length:Int))*8)) (J (.p0 a b (i64.wrap (c+1)) (d++v1)))))) (ret (d:an)))
def start (J:Pt->aC)(x0:bp):aC:=(call (Z186.R x0.aZ) fun v1=>(ck (eG ((v1.length+3)*8)) (J (.p0 x0.bD x0.bD.length 0 (v1++[[L.int x0.bE],[L.int x0.bY],[L.int x0.bD.length]])))))
def live:Nat->Live:=gx [(3,iR [3,19,20,21])]
def md (a0:ah):List Int:=(((Z186.md a0.aZ)++[a0.bE,a0.bY,a0.bD.length])++a0.bD.flatMap (fun y1=>(Z186.md y1)))
def gd (a0:ah):Prop:=(ah.Sm (2^21) a0)
def R:=RR gd md
def aj {a0}(h:gd a0):R (ah.r a0)=some ((md a0).map aQ):=cO h
def aK:=CN [.agg vY] (oL 3) RT.dec R
def bn (a0)(H0:gd a0):∃n,start (iter step n) (ah.r a0)=ret ((md a0).map aQ):=by
 refine cx (Z186.aj H0.1) ?_
 simp only [SS]
 refine dJ (have:=Z186.len a0.aZ;have:=H0.1;lm) ?_
 have Bh2:=bl H0.2
 refine ex_eq (out:=(fun b:List Int=>ret ((b.map aQ):an))) (sV (g:=fun (y1:az)=>(Z186.md y1)) (z:=⟨#[]⟩) (t:=fun (s3:List Int)=>s3)) (dc (p:=Pt.p0 (a0.bD.map dO) (a0.bD.length:Int) 0 (((Z186.md a0.aZ)++[a0.bE,a0.bY,(a0.bD.length:Int)]).map aQ)) fz ?_)
 refine bH (pt:=fun (i1:Nat) (s3:List Int)=>Pt.p0 (a0.bD.map dO) (a0.bD.length:Int) (i1:Int) (s3.map aQ)) (out:=(fun b:List Int=>ret ((b.map aQ):an))) (fun (i1:Nat) (s3:List Int)=>s3.length<=4+a0.aZ.size+i1*(2^21+1)) (fun J i1 s3 h2 hih2=>?_) (fun s3 hih2=>?_) (by
   have:=Z186.len a0.aZ
   simp
   try omega)
 ·simp only [step,SS]
  have:=H0.1
  have:=(H0.2).1
  refine aP.yes dt (aP.yes bu ?_)
  refine aP.yes (bK h2) (cr (Z186.aj (bf.getD H0.2 h2)) ?_)
  refine aP.yes (have:=Z186.len (a0.bD.getD i1 ⟨#[]⟩);have:=(bf.getD (z:=⟨#[]⟩) H0.2 h2);lm) ?_
  refine aP.inl (by
    have:=Z186.len (a0.bD.getD i1 ⟨#[]⟩)
    have:=(bf.getD (z:=⟨#[]⟩) H0.2 h2)
    have g_:=hih2
    simp only [LN] at g_ ⊢
    first | omega | (simp;done) | (simp;omega)) ?_
  rw [aF h2 Bh2]
  exact fz
 ·simp only [step,SS]
  refine cH dn (⟨0,?_⟩)
  exact fz
def af:bZ 427 aK:=L1 31 (fun _=>3) cF dN live step start mix aA bn (cM Z186.af) Tryz.func427
def fc {a0:ah}(hg:gd a0):bf (2^43 - 1) (fun y:Int=>True) (md a0):=by
 refine ⟨?_,fun _ _=>trivial⟩
 unfold md
 have h1:=mF (xs:=a0.bD) (g:=fun y=>Z186.md y) (n:=2^21+1) (fun x hx=>by rw [Z186.len];have:=hg.2.2 x hx;omega)
 have h2:=hg.1
 have h3:=hg.2.1
 have h4:=Z186.len a0.aZ
 simp only [List.length_append,List.length_cons,List.length_nil]
 omega
def br (a0:ah):md a0=Z25.md a0:=by
 unfold md Z25.md
 simp only [Z186.br]
end Z187
namespace Z188
def F (x0:bp):aC:=(call (Z187.R x0) fun v1=>(ck (eG (((1:Int)+v1.length)*8)) (call (Z151.R ([[L.int 227]]++v1)) fun v2=>ret v2)))
def md (a0:ah):Int:=((Z151.md ([227]++(Z187.md a0))))
def gd (a0:ah):Prop:=(ah.Sm (2^21) a0)
def R:=RR gd md
def aj {a0}(h:gd a0):R (ah.r a0)=some (md a0):=cO h
def aK:=CN [.agg vY] oI RT.dec R
def bn (a0)(H0:gd a0):F (ah.r a0)=ret (md a0):=by
 refine ct (Z187.aj H0) (aG (have:=((Z187.fc H0)).1;lm) ?_)
 exact cG _ (rq (Z151.aj (a0:=([227]++(Z187.md a0))) ⟨(have:=((Z187.fc H0)).1;om),fun _ _=>trivial⟩)) fz
def af:bZ 376 aK:=W1 8 F mix aA bn (eS Z187.af Z151.af) Tryz.func376
def br (a0:ah):md a0=Z26.md a0:=by
 unfold md Z26.md
 simp only [Z187.br,Z151.br]
end Z188
namespace Z189
inductive Pt where
 | p0 (a:an) (b c:Int) (d:an)
def cF:Pt->List V
 | .p0 a b c d=>[.own 0,.sl none 62 a,.int .i64 b,.int .i64 c]
def dN:Pt->List aL
 | .p0 a b c d=>[.row 3 d]
def step (J:Pt->aC):Pt->aC
 | .p0 a b c d=>(cond (c<b) (m2 c (a.length:Int) (call (Z188.R (bp.at a (toNat c))) fun v1=>(ck (eG (((d.length:Int)+1)*8)) (J (.p0 a b (i64.wrap (c+1)) (d++[[L.int v1]])))))) (ret (d:an)))
def start (J:Pt->aC)(x0:an):aC:=J (.p0 x0 x0.length 0 [])
def live:Nat->Live:=gx [(3,[(3,some 3),(7,none),(8,none),(9,none)])]
def md (a0:List ah):List Int:=(a0.map (fun y1=>(Z188.md y1)))
def gd (a0:List ah):Prop:=(bf (2^21) (fun y:ah=>ah.Sm (2^21) y) a0)
def R:=RR gd md
def aj {a0}(h:gd a0):R (a0.map ah.row)=some ((md a0).map aQ):=cO h
def aK:=CN [pL 62] (oL 3) RT.dec R
def bn (a0)(H0:gd a0):∃n,start (iter step n) (a0.map ah.row)=ret ((md a0).map aQ):=by
 have Bh2:=bl H0
 refine ex_eq (out:=(fun b:List Int=>ret ((b.map aQ):an))) (oW (g:=fun (y1:ah)=>(Z188.md y1)) (z:=ah.zero) (t:=fun (s3:List Int)=>s3)) (dc (p:=Pt.p0 (a0.map ah.row) (a0.length:Int) 0 ([].map aQ)) fz ?_)
 refine bH (pt:=fun (i1:Nat) (s3:List Int)=>Pt.p0 (a0.map ah.row) (a0.length:Int) (i1:Int) (s3.map aQ)) (out:=(fun b:List Int=>ret ((b.map aQ):an))) (fun (i1:Nat) (s3:List Int)=>s3.length<=([]:List Int).length+1*i1) (fun J i1 s3 h2 hih2=>?_) (fun s3 hih2=>?_) (by simp)
 ·simp only [step,SS]
  have gr_:=hih2
  simp only [LN] at gr_
  have:=(H0).1
  refine aP.yes dt (aP.yes bu ?_)
  refine aP.yes (bK h2) (cr (Z188.aj (bf.getD H0 h2)) ?_)
  refine aP.yes lm ?_
  refine aP.inl (by
    (simp;omega)) ?_
  rw [aF h2 Bh2]
  exact fz
 ·simp only [step,SS]
  refine cH dn (⟨0,?_⟩)
  exact fz
def af:bZ 430 aK:=L1 20 (fun _=>3) cF dN live step start mix aA bn (cM Z188.af) Tryz.func430
def len (a0:List ah):(md a0).length=a0.length:=by simp [md]
def br (a0:List ah):md a0=Z27.md a0:=by
 unfold md Z27.md
 simp only [Z188.br]
end Z189
namespace Z190
def F (x0:an):aC:=(call (Z151.R x0) fun v1=>ret v1)
def md (a0:List Int):Int:=((Z151.md a0))
def gd (a0:List Int):Prop:=(bf (2^42) (fun y:Int=>True) a0)
def R:=RR gd md
def aj {a0}(h:gd a0):R (a0.map aQ)=some (md a0):=cO h
def aK:=CN [pL 3] oI RT.dec R
def bn (a0)(H0:gd a0):F (a0.map aQ)=ret (md a0):=ct (Z151.aj (H0.mono (by decide) (fun x hx=>trivial))) fz
def af:bZ 428 aK:=W1 5 F mix aA bn (cM Z151.af) Tryz.func428
def br (a0:List Int):md a0=Z21.md a0:=Z151.br a0
end Z190
namespace Z191
def F (x0 x1:Int):aC:=(call (Z190.R [[L.int 229],[L.int x0],[L.int x1]]) fun v1=>ret v1)
def md (a0 a1:Int):Int:=((Z190.md [229,a0,a1]))
def gd (a0 a1:Int):Prop:=True
def R:=cL gd md
def aj {a0 a1}(h:gd a0 a1):R (a0,a1)=some (md a0 a1):=cK h
def aK:=CN [pI,pI] oI RT.dec R
def bn (a0)(a1)(hg:gd a0 a1):F a0 a1=ret (md a0 a1):=cG _ (rq (Z190.aj (a0:=[229,a0,a1]) ⟨(om),fun _ _=>trivial⟩)) fz
def af:bZ 426 aK:=W2 9 F mix aA bn (cM Z190.af) Tryz.func426
def br (a0 a1:Int):md a0 a1=Z28.md a0 a1:=by
 unfold md Z28.md
 simp only [Z190.br]
end Z191
namespace Z192
inductive Pt where
 | p0 (a:an) (b:Int) (c:an)
def cF:Pt->List V
 | .p0 a b c=>[.sl none 3 a,.own 0,.int .i64 b]
def dN:Pt->List aL
 | .p0 a b c=>[.row 3 c]
def step (J:Pt->aC):Pt->aC
 | .p0 a b c=>(cond (b<(a.length:Int)) (cond ((i64.wrap (b+1))<(a.length:Int)) (m2 b (a.length:Int) (ck ((0:Int)<=(i64.wrap (b+1))) (ck ((i64.wrap (b+1))<(a.length:Int)) (call (Z191.R ((gR a (toNat b)),(gR a (toNat (i64.wrap (b+1)))))) fun v1=>(ck (eG (((c.length:Int)+1)*8)) (J (.p0 a (i64.wrap (b+2)) (c++[[L.int v1]])))))))) (m2 b (a.length:Int) (ck (eG (((c.length:Int)+1)*8)) (J (.p0 a (i64.wrap (b+2)) (c++[[L.int (gR a (toNat b))]])))))) (ret (c:an)))
def start (J:Pt->aC)(x0:an):aC:=J (.p0 x0 0 [])
def live:Nat->Live:=gx [(3,[(0,none),(3,some 3),(4,none)])]
def md (a0:List Int):List Int:=Z29.md a0
def gd (a0:List Int):Prop:=bf (2^38) (fun y:Int=>True) a0
def R:=RR gd md
def aj {a0}(h:gd a0):R (a0.map aQ)=some ((md a0).map aQ):=cO h
def aK:=CN [pL 3] (oL 3) RT.dec R
def bn (a0)(hg:gd a0):∃n,start (iter step n) (a0.map aQ)=ret ((md a0).map aQ):=by
 obtain ⟨H1,_⟩:=hg
 have key:∀(k i:Nat) (c:List Int),i+k=a0.length->c.length<=i->∃n,iter step n (Pt.p0 (a0.map aQ) (i:Int) (c.map aQ))=ret ((c++Z29.up (a0.drop i)).map aQ:an):=by
  intro k
  induction k using Nat.strongRecOn with
  | _ k ih=>
  intro i c hi hc
  match k,hi,ih with
  | 0,hi,_=>
   refine ⟨1,?_⟩
   show step (iter step 0) (Pt.p0 _ _ _)=_
   simp only [step,List.length_map]
   refine dZ (decide_eq_false (by omega)) ?_
   rw [List.drop_eq_nil_of_le (by omega)]
   simp only [Z29.up,List.append_nil]
  | 1,hi,ih=>
   obtain ⟨n,hn⟩:=ih 0 (by omega) (i+1) (c++[a0.getD i 0]) (by omega) (by simp;omega)
   have h2:∃n,iter step n (Pt.p0 (a0.map aQ) (i64.wrap ((i:Int)+2)) ((c++[a0.getD i 0]).map aQ))=ret ((c++[a0.getD i 0]).map aQ:an):=by
    refine ⟨1,?_⟩
    show step (iter step 0) (Pt.p0 _ _ _)=_
    simp only [step,List.length_map]
    refine dZ (decide_eq_false ?_) rfl
    rw [Go.IntWalk.i64_in _ (by omega)];omega
   obtain ⟨n,hn⟩:=h2
   refine ⟨n+1,?_⟩
   show step (iter step n) (Pt.p0 _ _ _)=_
   simp only [step,List.length_map,gm,ig]
   refine aG (decide_eq_true (by omega)) (dZ (decide_eq_false ?_) (aG (decide_eq_true (by omega)) (aG (decide_eq_true (by omega)) (aG (fQ (by omega)) ?_))))
   ·rw [Go.IntWalk.i64_in _ (by omega)];omega
   ·rw [List.map_append] at hn
    refine Eq.trans hn ?_
    rw [List.drop_eq_getElem_cons (by omega),List.drop_eq_nil_of_le (by omega),eD (by omega:i<a0.length)]
    simp only [Z29.up,List.map_append]
  | k+2,hi,ih=>
   obtain ⟨n,hn⟩:=ih k (by omega) (i+2) (c++[Z28.md (a0.getD i 0) (a0.getD (i+1) 0)]) (by omega) (by simp;omega)
   refine ⟨n+1,?_⟩
   show step (iter step n) (Pt.p0 _ _ _)=_
   have w1:i64.wrap ((i:Int)+1)=((i+1:Nat):Int):=by rw [Go.IntWalk.i64_in _ (by omega)];omega
   have w2:i64.wrap ((i:Int)+2)=((i+2:Nat):Int):=by rw [Go.IntWalk.i64_in _ (by omega)];omega
   simp only [step,List.length_map,w1,w2,gm,ig]
   refine aG (decide_eq_true (by omega)) (aG (decide_eq_true (by omega)) (aG (decide_eq_true (by omega)) (aG (decide_eq_true (by omega)) (aG (decide_eq_true (by omega)) (aG (decide_eq_true (by omega)) ?_)))))
   refine cG _ (by have:=Z191.aj (a0:=a0.getD i 0) (a1:=a0.getD (i+1) 0) trivial;rw [Z191.br] at this;exact this) (aG (fQ (by omega)) ?_)
   rw [List.map_append] at hn
   refine Eq.trans hn ?_
   rw [List.drop_eq_getElem_cons (by omega:i<a0.length),List.drop_eq_getElem_cons (by omega:i+1<a0.length),eD (by omega:i<a0.length),eD (by omega:i+1<a0.length)]
   simp only [Z29.up,List.append_assoc,List.cons_append,List.nil_append]
 have:=key a0.length 0 [] (by omega) (by simp)
 unfold start md Z29.md
 simpa using this
def af:bZ 462 aK:=L1 38 (fun _=>3) cF dN live step start mix aA bn (cM Z191.af) Tryz.func462
def br (a0:List Int):md a0=Z29.md a0:=by
 unfold md Z29.md
 simp only [Z191.br]
end Z192
namespace Z193
inductive Pt where
 | p0 (a:an)
 | p1 (a:an)
def cF:Pt->List V
 | .p0 a=>[.sl none 3 a]
 | .p1 a=>[.own 0]
def dN:Pt->List aL
 | .p0 a=>[]
 | .p1 a=>[.row 3 a]
def step (J:Pt->aC):Pt->aC
 | .p0 a=>(cond ((a.length:Int)>1) (call (Z192.R a) fun v1=>J (.p1 v1)) (ck ((0:Int)<(a.length:Int)) (ret ((gR a 0):Int))))
 | .p1 a=>(cond ((a.length:Int)>1) (call (Z192.R a) fun v1=>J (.p1 v1)) (ck ((0:Int)<(a.length:Int)) (ret ((gR a 0):Int))))
def start (J:Pt->aC)(x0:an):aC:=(cond ((x0.length:Int)==0) (call (Z190.R [[L.int 229]]) fun v1=>ret v1) (J (.p0 x0)))
def live:Nat->Live:=gx [(3,[(0,none)])]
def md (a0:List Int):Int:=Z30.md a0
def gd (a0:List Int):Prop:=bf (2^38) (fun y:Int=>True) a0
def R:=RR gd md
def aj {a0}(h:gd a0):R (a0.map aQ)=some (md a0):=cO h
def aK:=CN [pL 3] oI RT.dec R
def bn (a0)(hg:gd a0):∃n,start (iter step n) (a0.map aQ)=ret (md a0):=by
 have one:∀(l:List Int) (r:Int) (n:Nat),bf (2^38) (fun y:Int=>True) l->0<l.length->(if l.length>1 then iter step n (Pt.p1 ((Z29.up l).map aQ))=ret r else ret (l.getD 0 0:Int)=ret r)->step (iter step n) (Pt.p0 (l.map aQ))=ret r/\step (iter step n) (Pt.p1 (l.map aQ))=ret r:=by
  intro l r n hl hp h
  simp only [step,List.length_map,ig]
  by_cases h1:l.length>1
  ·rw [if_pos h1] at h
   have hx:∀y:aC,(cond ((l.length:Int)>1) (call (Z192.R (l.map aQ)) (fun v1=>iter step n (Pt.p1 v1))) y)=ret r:=fun y=>
    aG (decide_eq_true (by omega)) (cG _ (Z192.aj hl) h)
   exact ⟨hx _,hx _⟩
  ·rw [if_neg h1] at h
   have hx:∀y:aC,(cond ((l.length:Int)>1) y (cond ((0:Int)<(l.length:Int)) (ret (l.getD 0 0:Int)) none))=ret r:=fun y=>
    dZ (decide_eq_false (by omega)) (aG (decide_eq_true (by omega)) h)
   exact ⟨hx _,hx _⟩
 have key:∀(k:Nat) (l:List Int),bf (2^38) (fun y:Int=>True) l->0<l.length->l.length<=k+1->∃n,step (iter step n) (Pt.p0 (l.map aQ))=ret (Z30.top k l)/\step (iter step n) (Pt.p1 (l.map aQ))=ret (Z30.top k l):=by
  intro k
  induction k with
  | zero=>
   intro l hl hp hk
   exact ⟨0,one l _ 0 hl hp (by rw [if_neg (by omega)];rfl)⟩
  | succ k ih=>
   intro l hl hp hk
   by_cases h1:l.length>1
   ·have hu:=Z29.lB l
    have hl1:=hl.1
    obtain ⟨n,_,hn⟩:=ih (Z29.up l) ⟨by omega,fun _ _=>trivial⟩ (by omega) (by omega)
    refine ⟨n+1,one l _ (n+1) hl hp ?_⟩
    rw [if_pos h1]
    refine Eq.trans hn ?_
    unfold Z30.top
    rw [if_pos h1]
    cases k<;>rfl
   ·refine ⟨0,one l _ 0 hl hp ?_⟩
    rw [if_neg h1]
    unfold Z30.top
    rw [if_neg h1]
 unfold md Z30.md
 unfold start
 simp only [List.length_map]
 by_cases h0:a0.length=0
 ·have e:((a0.length:Int)==0)=true:=by simpa using List.length_eq_zero_iff.1 h0
  refine ⟨0,?_⟩
  rw [e]
  refine cG _ (by have:=Z190.aj (a0:=[229]) ⟨by decide,fun _ _=>trivial⟩;rw [Z190.br] at this;exact this) ?_
  rw [if_pos h0]
 ·have e:((a0.length:Int)==0)=false:=beq_eq_false_iff_ne.2 (by omega)
  obtain ⟨n,hn,_⟩:=key a0.length a0 hg (by omega) (by omega)
  refine ⟨n+1,?_⟩
  rw [e,if_neg h0]
  exact hn
def af:bZ 429 aK:=L1 16 (fun _=>3) cF dN live step start mix aA bn (eS Z190.af Z192.af) Tryz.func429
def br (a0:List Int):md a0=Z30.md a0:=by
 unfold md Z30.md
 simp only [Z190.br,Z192.br]
end Z193
namespace Z194
def F (x0 x1:Int):aC:=(call (Z190.R [[L.int 231],[L.int x0],[L.int x1]]) fun v1=>ret v1)
def md (a0 a1:Int):Int:=((Z190.md [231,a0,a1]))
def gd (a0 a1:Int):Prop:=True
def R:=cL gd md
def aj {a0 a1}(h:gd a0 a1):R (a0,a1)=some (md a0 a1):=cK h
def aK:=CN [pI,pI] oI RT.dec R
def bn (a0)(a1)(hg:gd a0 a1):F a0 a1=ret (md a0 a1):=cG _ (rq (Z190.aj (a0:=[231,a0,a1]) ⟨(om),fun _ _=>trivial⟩)) fz
def af:bZ 378 aK:=W2 9 F mix aA bn (cM Z190.af) Tryz.func378
def br (a0 a1:Int):md a0 a1=Z31.md a0 a1:=by
 unfold md Z31.md
 simp only [Z190.br]
end Z194
namespace Z195
def F (x0:an):aC:=(call (Z189.R x0) fun v1=>(call (Z193.R v1) fun v2=>(call (Z194.R (x0.length,v2)) fun v3=>ret v3)))
def md (a0:List ah):Int:=((Z194.md a0.length (Z193.md (Z189.md a0))))
def gd (a0:List ah):Prop:=(bf (2^21) (fun y:ah=>ah.Sm (2^21) y) a0)
def R:=RR gd md
def aj {a0}(h:gd a0):R (a0.map ah.row)=some (md a0):=cO h
def aK:=CN [pL 62] oI RT.dec R
def bn (a0)(H0:gd a0):F (a0.map ah.row)=ret (md a0):=by
 refine ct (Z189.aj H0) ?_
 simp only [SS]
 refine ct (Z193.aj ⟨(have:=Z189.len a0;have:=(H0).1;om),fun _ _=>trivial⟩) (ct (Z194.aj trivial) ?_)
 exact fz
def af:bZ 379 aK:=W1 9 F mix aA bn (jw Z189.af Z193.af Z194.af) Tryz.func379
def br (a0:List ah):md a0=Z32.md a0:=by
 unfold md Z32.md
 simp only [Z189.br,Z193.br,Z194.br]
end Z195
namespace Z196
def F (x0:Int)(x1:an):aC:=(call (Z184.R x1) fun v1=>(cond v1 (call (Z195.R x1) fun v2=>ret ((v2==x0))) (ret false)))
def md (a0:Int)(a1:List ah):Bool:=(cond (Z184.md a1) (((Z195.md a1)==a0)) false)
def gd (a0:Int)(a1:List ah):Prop:=(bf (2^21) (fun y:ah=>ah.Sm (2^21) y) a1)
def R:=cL gd md
def aj {a0 a1}(h:gd a0 a1):R (a0,(a1.map ah.row))=some (md a0 a1):=cK h
def aK:=CN [pI,pL 62] oB RT.dec R
def bn (a0)(a1)(H1:gd a0 a1):F a0 (a1.map ah.row)=ret (md a0 a1):=by
 refine ct (Z184.aj H1) (bs (fun c1=>?_) (fun _=>rfl))
 exact ct (Z195.aj H1) fz
def af:bZ 443 aK:=W2 13 F mix aA bn (eS Z184.af Z195.af) Tryz.func443
def br (a0:Int)(a1:List ah):md a0 a1=Z62.md a0 a1:=by
 unfold md Z62.md
 simp only [Z184.br,Z195.br]
end Z196
namespace Z197
def F (x0:bT):aC:=(call (Z178.R x0.aD) fun v1=>(cond (!v1) (ret false) (call (Z179.R x0.aD) fun v2=>(cond (v2.cj==x0.bI.length) (call (Z196.R (v2.dx,x0.bI)) fun v3=>ret v3) (ret false)))))
def md (a0:aI):Bool:=(cond (!(Z178.md a0.aD)) false (cond ((Z179.md a0.aD).cj==a0.bI.length) ((Z196.md ((Z179.md a0.aD).dx) a0.bI)) false))
def gd (a0:aI):Prop:=(aI.Sm (2^21) a0)
def R:=RR gd md
def aj {a0}(h:gd a0):R (aI.r a0)=some (md a0):=cO h
def aK:=CN [.agg sj] oB RT.dec R
def bn (a0)(H0:gd a0):F (aI.r a0)=ret (md a0):=by
 refine ct (Z178.aj H0.1) (bs (fun _=>rfl) (fun c1=>?_))
 have tc1:=Z178.tr (by simpa using c1)
 refine ct (Z179.aj ⟨H0.1,om⟩) ?_
 simp only [SS]
 refine bs (fun c2=>?_) (fun _=>rfl)
 exact ct (Z196.aj H0.2) fz
def af:bZ 406 aK:=W1 24 F mix aA bn (jw Z178.af Z179.af Z196.af) Tryz.func406
def tr {a0:aI}(h:md a0=true):1<=a0.aD.length:=by
 unfold md at h
 cases hc:Z178.md a0.aD
 ·rw [hc] at h;cases h
 ·exact (Z178.tr hc).1
def br (a0:aI):md a0=Z63.md a0:=by
 unfold md Z63.md
 rw [Z178.br,Z196.br]
 unfold Z179.md Z61.md
 cases h:Z60.md a0.aD
 ·rfl
 ·rfl
end Z197
namespace Z198
def F (x0:bT):aC:=(call (Z197.R x0) fun v1=>(cond (!v1) mG (call (Z179.R x0.aD) fun v2=>ret v2.aS)))
def md (a0:aI):Int:=(cond (!(Z197.md a0)) ((-1):Int) ((Z179.md a0.aD).aS))
def gd (a0:aI):Prop:=(aI.Sm (2^21) a0)
def R:=RR gd md
def aj {a0}(h:gd a0):R (aI.r a0)=some (md a0):=cO h
def aK:=CN [.agg sj] oI RT.dec R
def bn (a0)(H0:gd a0):F (aI.r a0)=ret (md a0):=by
 refine ct (Z197.aj H0) (bs (fun _=>rfl) (fun c1=>?_))
 have tc1:=Z197.tr (by simpa using c1)
 exact ct (Z179.aj ⟨H0.1,om⟩) fz
def af:bZ 405 aK:=W1 10 F mix aA bn (eS Z197.af Z179.af) Tryz.func405
def br (a0:aI):md a0=Z64.md a0:=by
 unfold md Z64.md
 rw [Z197.br]
 cases h:Z63.md a0
 ·rfl
 ·have h2:Z60.md a0.aD=true:=by
   unfold Z63.md Z61.md at h
   cases hc:Z60.md a0.aD
   ·rw [hc] at h;cases h
   ·rfl
  unfold Z179.md Z61.md
  rw [h2]
  rfl
end Z198
namespace Z199
def F (x0:bT)(x1:List L):aC:=(call (Z198.R x0) fun v1=>ret ((v1==(gP x1))))
def pats:List fE:=[.agg [.sl 53,.sl 62],.ptr [aE]]
def res:RP:=.one (.rd (.bool))
def md (a0:aI)(a1:Int):Bool:=(((Z198.md a0)==a1))
def gd (a0:aI)(a1:Int):Prop:=(aI.Sm (2^21) a0)
def acc (ls:List L):bT×Int:=((bT.dec ls),(gP (cm 1 (bA 2 ls))))
def R:(bT×Int)->Option Bool:=cL gd md
def aj {a0 a1}(h:gd a0 a1):R ((aI.r a0),a1)=some (md a0 a1):=cK h
def aK:gu:=CN pats res acc R
def bn (a0:aI)(a1:Int)(p1:List L)(e1:a1=(gP p1))(H0:gd a0 a1):F (aI.r a0) p1=ret ((md a0 a1):Bool):=by
 unfold F md
 simp only [SS,<-e1]
 exact ct (Z198.aj H0) fz
def qK (ls:List L)(a:aI×Int)(e:acc ls=Im.im a)(hg:(p2 gd) a):∃n:Nat,F (bT.dec ls) (cm 1 (bA 2 ls))=ret (Im.im ((u2 md) a)):=by
 have e0:(aI.r a.1)=(bT.dec ls):=(congrArg (fun x=>x.1) e.symm)
 have hn:=bn a.1 a.2 (cm 1 (bA 2 ls)) (congrArg (fun x=>x.2) e.symm) hg
 refine ⟨0,?_⟩
 rw [<-e0]
 exact hn
def af:bZ 404 aK:=VP (live:=fun _=>[]) (nt:=8) (accr:=fun ls=>((bT.dec ls),(cm 1 (bA 2 ls)))) (run:=fun _ x=>F x.1 x.2) mix aA (cM Z198.af) Tryz.func404 (by kernel_rfl) (fun _ _=>by kernel_rfl) (fun ls a _ e hg=>qK ls a e hg)
end Z199
namespace Z200
inductive Pt where
 | p0 (a:an) (b:List L) (c d:Int)
def pid:Pt->Nat
 | .p0 ..=>2
def cF:Pt->List V
 | .p0 a b c d=>[.sl none 188 a,.fn 404 [.cQ none [aE] b 0],.int .i64 c,.int .i64 d]
def dN:Pt->List aL
 | .p0 a b c d=>[]
def step (J:Pt->aC):Pt->aC
 | .p0 a b c d=>(cond (d<c) (m2 d (a.length:Int) (call (Z199.R ((bT.at a (toNat d)),(gP b))) fun v1=>(cond v1 (ret (d:Int)) (J (.p0 a b c (i64.wrap (d+1))))))) mG)
def start (J:Pt->aC)(x0:an)(x1:List L):aC:=J (.p0 x0 x1 x0.length 0)
def live:Nat->Live:=gx [(2,iR [0,1,7,8])]
def pats:List fE:=[.rd (.sl 188),.fn 404 [[aE]]]
def res:RP:=.one (.rd (.int .i64))
abbrev E:Env:={ T:=assoc mq,G:=cW [(404,Z199.aK)],nt:=19 }
def step_eq (I:dB)(p:Pt):dU E live I (pid p) (bJ Tryz.f403) (iN (live (pid p)) (cF p) (dN p)) (dz E Tryz.f403 res)=step (fun q=>I (pid q) (cF q) (dN q)) p:=by
 cases p<;>kernel_rfl
def start_eq (I:dB)(ls:List L):gJ E live I (bJ Tryz.f403) (dy pats ls) (dz E Tryz.f403 res)=start (fun q=>I (pid q) (cF q) (dN q)) (eM ls) (cm 1 (bA 1 ls)):=by kernel_rfl
def run_eq (n:Nat)(ls:List L):eV E live Tryz.f403 res n (dy pats ls)=start (iter step n) (eM ls) (cm 1 (bA 1 ls)):=dK (id:=pid) (vs:=cF) (hs:=dN) (step:=step) (start:=fun J=>start J (eM ls) (cm 1 (bA 1 ls))) step_eq (fun I=>start_eq I ls) n
def md (a0:List aI)(a1:Int):Int:=(dD (S:=Unit) (β:=Int) (fun i1 y1 s3=>(cond (Z199.md y1 a1) (.inr (i1)) (.inl ()))) (fun s3=>((-1):Int)) 0 a0 ())
def gd (a0:List aI)(a1:Int):Prop:=(bf (2^21) (fun y:aI=>aI.Sm (2^21) y) a0)
def acc (ls:List L):an×Int:=((eM ls),(gP (cm 1 (bA 1 ls))))
def R:(an×Int)->Option Int:=cL gd md
def aj {a0 a1}(h:gd a0 a1):R ((a0.map aI.row),a1)=some (md a0 a1):=cK h
def aK:gu:=CN pats res acc R
def bn (a0:List aI)(a1:Int)(p1:List L)(e1:a1=(gP p1))(H0:gd a0 a1):∃n,start (iter step n) (a0.map aI.row) p1=ret ((md a0 a1):Int):=by
 have Bh2:=bl H0
 refine ex_eq (cC (z:=aI.zero)) (dc (p:=Pt.p0 (a0.map aI.row) p1 (a0.length:Int) 0) fz ?_)
 refine bH (pt:=fun (i1:Nat) (s3:Unit)=>Pt.p0 (a0.map aI.row) p1 (a0.length:Int) (i1:Int)) (fun _ _=>True) (fun J i1 s3 h2 hih2=>?_) (fun s3 hih2=>?_) trivial
 ·simp only [step,SS,<-e1]
  refine aP.yes dt (aP.yes bu ?_)
  refine aP.yes (bK h2) (cr (Z199.aj (bf.getD H0 h2)) ?_)
  refine aP.bif (fun c4=>aP.inr fz) (fun c4=>?_)
  refine aP.inl trivial ?_
  rw [aF h2 Bh2]
 ·simp only [step,SS,<-e1]
  refine cH dn (⟨0,?_⟩)
  exact fz
def qK (ls:List L)(a:List aI×Int)(e:acc ls=Im.im a)(hg:(p2 gd) a):∃n:Nat,start (iter step n) ((eM ls)) (cm 1 (bA 1 ls))=ret (Im.im ((u2 md) a)):=by
 have e0:(a.1.map aI.row)=(eM ls):=(congrArg (fun x=>x.1) e.symm)
 obtain ⟨n,hn⟩:=bn a.1 a.2 (cm 1 (bA 1 ls)) (congrArg (fun x=>x.2) e.symm) hg
 refine ⟨n,?_⟩
 rw [<-e0]
 exact hn
def af:bZ 403 aK:=VP (accr:=fun ls=>((eM ls),(cm 1 (bA 1 ls)))) (run:=fun n x=>start (iter step n) x.1 x.2) mix aA (cM Z199.af) Tryz.func403 (by kernel_rfl) run_eq (fun ls a _ e hg=>qK ls a e hg)
def fa (a0:List aI)(a1:Int):-1<=md a0 a1/\md a0 a1<(a0.length:Int):=by
 refine jN ?_ _ _
 all_goals
  intro i x s b h
  revert h
  simp only [Bool.cond_eq_ite]
  repeat' split
  all_goals (intro h;first | (cases h;rfl) | cases h)
def idx_eq (a0:List aI)(a1:Int):md a0 a1=jR (fun y=>Z199.md y a1) 0 a0:=iZ
end Z200
namespace Z201
def F (x0:bV)(x1:Int):aC:=(cond (x1<0) mG (call (Z200.R (x0.bw,x1)) fun v1=>ret v1))
def md (a0:ay)(a1:Int):Int:=(cond (a1<0) ((-1):Int) ((Z200.md a0.bw a1)))
def gd (a0:ay)(a1:Int):Prop:=(ay.Sm (2^21) a0)
def R:=cL gd md
def aj {a0 a1}(h:gd a0 a1):R ((ay.r a0),a1)=some (md a0 a1):=cK h
def aK:=CN [.agg Af,pI] oI RT.dec R
def bn (a0)(a1)(H0:gd a0 a1):F (ay.r a0) a1=ret (md a0 a1):=by
 refine bs (fun _=>rfl) (fun c1=>?_)
 exact ct (Z200.aj H0) fz
def af:bZ 344 aK:=W2 11 F mix aA bn (cM Z200.af) Tryz.func344
def fa (a0:ay)(a1:Int):-1<=md a0 a1/\md a0 a1<(a0.bw.length:Int):=by
 unfold md
 have:=Z200.fa a0.bw a1
 cases decide (a1<0)
 ·exact this
 ·simp only [aO];omega
def br (a0:ay)(a1:Int):md a0 a1=Z82.md a0 a1:=by
 unfold md Z82.md
 rw [Z200.idx_eq]
 rw [mM (p:=fun y=>(Z64.md y==a1)&&decide (a1>=0)) (fun i x s=>by cases (Z64.md x==a1)<;>cases decide (a1>=0)<;>rfl)]
 have e:(fun y=>Z199.md y a1)=fun y=>Z64.md y==a1:=by
  funext y
  unfold Z199.md
  rw [Z198.br]
 have key:∀(xs:List aI) (i:Nat),jR (fun _=>false) i xs=-1:=by
  intro xs
  induction xs with
  | nil=>intro i;rfl
  | cons x xs ih=>intro i;unfold jR;exact ih _
 rw [e]
 by_cases h:a1<0
 ·rw [decide_eq_true h,decide_eq_false (show ¬a1>=0 by omega)]
  simp only [aO,Bool.and_false,key]
 ·rw [decide_eq_false h,decide_eq_true (show a1>=0 by omega)]
  simp only [aU,Bool.and_true]
end Z201
namespace Z202
def F (x0:bp)(x1:List L):aC:=ret ((x0.aZ==(sDec x1)))
def pats:List fE:=[.agg [.str,aE,aE,.sl 9],.ptr [.str]]
def res:RP:=.one (.rd (.bool))
def md (a0:ah)(a1:az):Bool:=((a0.aZ==a1))
def gd (a0:ah)(a1:az):Prop:=True
def acc (ls:List L):bp×az:=((bp.dec ls),(sDec (cm 1 (bA 4 ls))))
def R:(bp×az)->Option Bool:=cL gd md
def aj {a0 a1}(h:gd a0 a1):R ((ah.r a0),a1)=some (md a0 a1):=cK h
def aK:gu:=CN pats res acc R
def bn (a0:ah)(a1:az)(p1:List L)(e1:a1=(sDec p1))(hg:gd a0 a1):F (ah.r a0) p1=ret ((md a0 a1):Bool):=by
 unfold F md
 simp only [SS,<-e1]
def qK (ls:List L)(a:ah×az)(e:acc ls=Im.im a)(hg:(p2 gd) a):∃n:Nat,F (bp.dec ls) (cm 1 (bA 4 ls))=ret (Im.im ((u2 md) a)):=by
 have e0:(ah.r a.1)=(bp.dec ls):=(congrArg (fun x=>x.1) e.symm)
 have hn:=bn a.1 a.2 (cm 1 (bA 4 ls)) (congrArg (fun x=>x.2) e.symm) hg
 refine ⟨0,?_⟩
 rw [<-e0]
 exact hn
def af:bZ 445 aK:=VP (live:=fun _=>[]) (nt:=8) (accr:=fun ls=>((bp.dec ls),(cm 1 (bA 4 ls)))) (run:=fun _ x=>F x.1 x.2) mix aA .nil Tryz.func445 (by kernel_rfl) (fun _ _=>by kernel_rfl) (fun ls a _ e hg=>qK ls a e hg)
end Z202
namespace Z203
inductive Pt where
 | p0 (a:an) (b:List L) (c d:Int)
def pid:Pt->Nat
 | .p0 ..=>2
def cF:Pt->List V
 | .p0 a b c d=>[.sl none 62 a,.fn 445 [.cQ none [.str] b 0],.int .i64 c,.int .i64 d]
def dN:Pt->List aL
 | .p0 a b c d=>[]
def step (J:Pt->aC):Pt->aC
 | .p0 a b c d=>(cond (d<c) (m2 d (a.length:Int) (call (Z202.R ((bp.at a (toNat d)),(sDec b))) fun v1=>(cond v1 (ret (d:Int)) (J (.p0 a b c (i64.wrap (d+1))))))) mG)
def start (J:Pt->aC)(x0:an)(x1:List L):aC:=J (.p0 x0 x1 x0.length 0)
def live:Nat->Live:=gx [(2,iR [0,1,7,8])]
def pats:List fE:=[.rd (.sl 62),.fn 445 [[.str]]]
def res:RP:=.one (.rd (.int .i64))
abbrev E:Env:={ T:=assoc mq,G:=cW [(445,Z202.aK)],nt:=19 }
def step_eq (I:dB)(p:Pt):dU E live I (pid p) (bJ Tryz.f444) (iN (live (pid p)) (cF p) (dN p)) (dz E Tryz.f444 res)=step (fun q=>I (pid q) (cF q) (dN q)) p:=by
 cases p<;>kernel_rfl
def start_eq (I:dB)(ls:List L):gJ E live I (bJ Tryz.f444) (dy pats ls) (dz E Tryz.f444 res)=start (fun q=>I (pid q) (cF q) (dN q)) (eM ls) (cm 1 (bA 1 ls)):=by kernel_rfl
def run_eq (n:Nat)(ls:List L):eV E live Tryz.f444 res n (dy pats ls)=start (iter step n) (eM ls) (cm 1 (bA 1 ls)):=dK (id:=pid) (vs:=cF) (hs:=dN) (step:=step) (start:=fun J=>start J (eM ls) (cm 1 (bA 1 ls))) step_eq (fun I=>start_eq I ls) n
def md (a0:List ah)(a1:az):Int:=(dD (S:=Unit) (β:=Int) (fun i1 y1 s3=>(cond (Z202.md y1 a1) (.inr (i1)) (.inl ()))) (fun s3=>((-1):Int)) 0 a0 ())
def gd (a0:List ah)(a1:az):Prop:=(bf (2^21) (fun y:ah=>ah.Sm (2^21) y) a0)
def acc (ls:List L):an×az:=((eM ls),(sDec (cm 1 (bA 1 ls))))
def R:(an×az)->Option Int:=cL gd md
def aj {a0 a1}(h:gd a0 a1):R ((a0.map ah.row),a1)=some (md a0 a1):=cK h
def aK:gu:=CN pats res acc R
def bn (a0:List ah)(a1:az)(p1:List L)(e1:a1=(sDec p1))(H0:gd a0 a1):∃n,start (iter step n) (a0.map ah.row) p1=ret ((md a0 a1):Int):=by
 have Bh2:=bl H0
 refine ex_eq (cC (z:=ah.zero)) (dc (p:=Pt.p0 (a0.map ah.row) p1 (a0.length:Int) 0) fz ?_)
 refine bH (pt:=fun (i1:Nat) (s3:Unit)=>Pt.p0 (a0.map ah.row) p1 (a0.length:Int) (i1:Int)) (fun _ _=>True) (fun J i1 s3 h2 hih2=>?_) (fun s3 hih2=>?_) trivial
 ·simp only [step,SS,<-e1]
  refine aP.yes dt (aP.yes bu ?_)
  refine aP.yes (bK h2) (cr (Z202.aj trivial) ?_)
  refine aP.bif (fun c4=>aP.inr fz) (fun c4=>?_)
  refine aP.inl trivial ?_
  rw [aF h2 Bh2]
 ·simp only [step,SS,<-e1]
  refine cH dn (⟨0,?_⟩)
  exact fz
def qK (ls:List L)(a:List ah×az)(e:acc ls=Im.im a)(hg:(p2 gd) a):∃n:Nat,start (iter step n) ((eM ls)) (cm 1 (bA 1 ls))=ret (Im.im ((u2 md) a)):=by
 have e0:(a.1.map ah.row)=(eM ls):=(congrArg (fun x=>x.1) e.symm)
 obtain ⟨n,hn⟩:=bn a.1 a.2 (cm 1 (bA 1 ls)) (congrArg (fun x=>x.2) e.symm) hg
 refine ⟨n,?_⟩
 rw [<-e0]
 exact hn
def af:bZ 444 aK:=VP (accr:=fun ls=>((eM ls),(cm 1 (bA 1 ls)))) (run:=fun n x=>start (iter step n) x.1 x.2) mix aA (cM Z202.af) Tryz.func444 (by kernel_rfl) run_eq (fun ls a _ e hg=>qK ls a e hg)
end Z203
namespace Z204
def F (x0:an)(x1:az):aC:=(call (Z203.R (x0,x1)) fun v1=>ret v1)
def md (a0:List ah)(a1:az):Int:=((Z203.md a0 a1))
def gd (a0:List ah)(a1:az):Prop:=(bf (2^21) (fun y:ah=>ah.Sm (2^21) y) a0)
def R:=cL gd md
def aj {a0 a1}(h:gd a0 a1):R ((a0.map ah.row),a1)=some (md a0 a1):=cK h
def aK:=CN [pL 62,pS] oI RT.dec R
def bn (a0)(a1)(H0:gd a0 a1):F (a0.map ah.row) a1=ret (md a0 a1):=ct (Z203.aj H0) fz
def af:bZ 407 aK:=W2 8 F mix aA bn (cM Z203.af) Tryz.func407
def fa (a0:List ah)(a1:az):-1<=md a0 a1/\md a0 a1<(a0.length:Int):=by
 refine jN ?_ _ _
 all_goals
  intro i x s b h
  revert h
  simp only [Bool.cond_eq_ite]
  repeat' split
  all_goals (intro h;first | (cases h;rfl) | cases h)
def br (a0:List ah)(a1:az):md a0 a1=Z98.md a0 a1:=by
 unfold md Z98.md
 rfl
end Z204
namespace Z205
def F (x0:an):aC:=(cond x0.isEmpty (either (ret ([]:an)) ((ck (eG (x0.length*16)) (ret (x0:an))))) (ck (eG (x0.length*16)) (ret (x0:an))))
def md (a0:List az):List az:=a0
def gd (a0:List az):Prop:=bf (2^21) (fun y:az=>y.size<=(2^21)) a0
def R:=RR gd md
def aj {a0}(h:gd a0):R (a0.map dO)=some (a0.map dO):=cO h
def aK:=CN [pL 9] (oL 9) RT.dec R
def bn (a0)(hg:gd a0):F (a0.map dO)=ret ((md a0).map dO):=by
 have H0:=hg.1
 unfold F md
 have hl:eG (((a0.map dO).length:Int)*16)=true:=fQ (by simp only [List.length_map];omega)
 simp only [hl,aO]
 cases a0 with
 | nil=>exact ng
 | cons x xs=>rfl
def af:bZ 262 aK:=W1 8 F mix aA bn .nil Tryz.func262
end Z205
namespace Z206
def F (x0:bp):aC:=(call (Z205.R x0.bD) fun v1=>ret ((⟨x0.aZ,x0.bE,x0.bY,v1⟩):bp))
def md (a0:ah):ah:=a0
def gd (a0:ah):Prop:=(ah.Sm (2^21) a0)
def R:=RR gd md
def aj {a0}(h:gd a0):R (ah.r a0)=some (ah.r a0):=cO h
def aK:=CN [.agg vY] (.agg f62) RT.dec R
def bn (a0)(H0:gd a0):F (ah.r a0)=ret (ah.r (md a0)):=ct (Z205.aj H0.2) fz
def af:bZ 170 aK:=W1 8 F mix aA bn (cM Z205.af) Tryz.func170
end Z206
end Go.DM
end
