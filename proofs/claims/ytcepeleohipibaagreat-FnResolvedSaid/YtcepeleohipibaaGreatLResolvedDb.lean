/- A small machine over the translated code, and the proof that what it computes the code does. Conditions: none. -/
import Derived.Test.YtcepeleohipibaaGreatLResolvedDa
import Derived.Laws.Cover3
set_option linter.all false
noncomputable section
set_option linter.unusedSectionVars false
namespace Go.DM
def Sub (hp hp0:Nat->aK):Prop:=∀q,hp q=hp0 q∨hp q=.dead
structure fC (hp hp':Nat->aK)(C:Nat->Prop):Prop where
 was:∀q,C q->hp q≠.dead
 now:∀q,C q->hp' q=.dead
 rest:∀q,¬C q->hp' q=hp q
def fC.refl (hp:Nat->aK):fC hp hp (fun _=>False):=⟨fun _ h=>h.elim,fun _ h=>h.elim,fun _ _=>rfl⟩
def fC.trans {a b c:Nat->aK}{C D:Nat->Prop}(h:fC a b C)(k:fC b c D):fC a c (fun q=>C q∨D q):=by
 refine ⟨fun q hq=>?_,fun q hq=>?_,fun q hq=>?_⟩
 ·by_cases hc:C q
  ·exact h.was q hc
  ·rcases hq with hq | hq
   ·exact h.was q hq
   ·rw [<-h.rest q hc];exact k.was q hq
 ·rcases hq with hq | hq
  ·by_cases hd:D q
   ·exact k.now q hd
   ·rw [k.rest q hd];exact h.now q hq
  ·exact k.now q hq
 ·rw [k.rest q fun hd=>hq (.inr hd),h.rest q fun hc=>hq (.inl hc)]
def fC.sub {hp hp' hp0:Nat->aK}{C:Nat->Prop}(h:fC hp hp' C)(hs:Sub hp hp0):Sub hp' hp0:=fun q=>by
 by_cases hc:C q
 ·exact .inr (h.now q hc)
 ·rw [h.rest q hc];exact hs q
def fC.one {hp:Nat->aK}{r:Nat}(h:hp r≠.dead):fC hp (upd hp r .dead) (fun q=>q=r):=
 ⟨fun q hq=>by subst hq;exact h,fun q hq=>by subst hq;exact aQ _ _ _,fun q hq=>aI _ _ hq⟩
def fC.yQ {a b c:Nat->aK}{C D:Nat->Prop}(h:fC a b C)(k:fC b c D){q:Nat}(hc:C q)(hd:D q):False:=k.was q hd (h.now q hc)
def Sub.row {hp hp0:Nat->aK}(h:Sub hp hp0){q:Nat}{o:aK}(hq:hp q=o)(hn:o≠.dead):hp0 q=o:=by
 rcases h q with h | h
 ·rw [<-h,hq]
 ·rw [hq] at h;exact (hn h).elim
def fC.congr {hp hp':Nat->aK}{C D:Nat->Prop}(h:fC hp hp' C)(hcd:∀q,C q↔D q):fC hp hp' D:=
 ⟨fun q hq=>h.was q ((hcd q).2 hq),fun q hq=>h.now q ((hcd q).2 hq),fun q hq=>h.rest q fun hc=>hq ((hcd q).1 hc)⟩
def rH (A:cD)(c:Option Nat):Nat->Prop:=fun b=>∃q,c=some q/\A.N q b
def sH {hp:Nat->aK}{kk:K}{v:V}{k:L->Option Nat->aD}{ans:List L}(h:qj hp kk v k=some ans) :
  ∃l r,k l r=some ans/\(∀q,r=some q->hp q≠.dead)/\∀{T:Nat->List K} {w0 w:World} {np:Nat} {M:Mem np} {A:cD} {hp0:Nat->aK} {x:Value},Hp T w0 M A hp0 w->Sub hp hp0->V0 T w A v x->fQ T w (rH A r) kk x l:=by
 cases kk with
 | int ik=>
  simp only [qj] at h
  split at h
  ·rename_i jk n
   cases hk:iW ik jk<;>simp only [hk,aO,aR] at h
   ·cases h
   obtain rfl:=gu hk
   refine ⟨_,_,h,fun q hq=>(nomatch hq),fun {T w0 w np M A hp0 x} _ _ hv=>?_⟩
   cases hv;exact fQ.int _ ik (.int n)
  ·cases h
 | bool=>
  simp only [qj] at h
  split at h
  ·refine ⟨_,_,h,fun q hq=>(nomatch hq),fun {T w0 w np M A hp0 x} _ _ hv=>?_⟩
   cases hv;exact fQ.bool _ (.bool _)
  ·cases h
 | str=>
  simp only [qj] at h
  split at h
  ·refine ⟨_,_,h,fun q hq=>(nomatch hq),fun {T w0 w np M A hp0 x} _ _ hv=>?_⟩
   cases hv;exact fQ.str _ (.str _)
  ·cases h
 | sl e=>
  simp only [qj] at h
  split at h
  ·refine ⟨_,_,h,fun q hq=>(nomatch hq),fun {T w0 w np M A hp0 x} _ _ hv=>?_⟩
   obtain ⟨a,rfl⟩:=hv
   exact fQ.nil _ e a (.sl []) rfl
  ·rename_i r
   split at h
   ·rename_i e' xs hr
    cases hk:Nat.beq e e'<;>simp only [hk,aO,aR] at h
    ·cases h
    obtain rfl:=Nat.eq_of_beq_eq_true hk
    refine ⟨_,_,h,fun q hq=>(by injection hq with hq;subst hq;rw [hr];simp),fun {T w0 w np M A hp0 x} hh hs hv=>?_⟩
    have hroot:=hh.rt r
    rw [hs.row hr (by simp)] at hroot
    rw [hv.2.1]
    exact hroot.2.mono fun b hb=>⟨r,rfl,hb⟩
   ·cases h
  ·cases h
def sk {hp:Nat->aK}{r:Option Nat}(h:∀q,r=some q->hp q≠.dead):fC hp (yY hp r) (fun q=>r=some q):=by
 cases r with
 | none=>exact ⟨fun q hq=>(nomatch hq),fun q hq=>(nomatch hq),fun _ _=>rfl⟩
 | some r=>exact (fC.one (h r rfl)).congr fun q=>⟨fun h=>by rw [h],fun h=>by injection h with h;exact h.symm⟩
def rA:∀{ks:List K} {hp:Nat->aK} {vs:List V} {k:List L->(Nat->aK)->aD} {ans:List L},mH hp ks vs k=some ans->
  ∃ls hp',∃c:Nat->Option Nat,k ls hp'=some ans/\ls.length=ks.length/\vs.length=ks.length/\fC hp hp' (fun q=>∃j,j<ks.length/\c j=some q)/\(∀j j' q,c j=some q->c j'=some q->j=j')/\
   ∀{T:Nat->List K} {w0 w:World} {np:Nat} {M:Mem np} {A:cD} {hp0:Nat->aK} {xs:List Value},Hp T w0 M A hp0 w->Sub hp hp0->F2 (Vc T w A) vs xs->∀j kk,ks[j]?=some kk->∃x,xs[j]?=some x/\x.oneCell'=true/\fQ T w (rH A (c j)) kk x (ls.getD j .hole):=by
 intro ks
 induction ks with
 | nil=>
  intro hp vs k ans h
  cases vs with
  | nil=>exact ⟨[],hp,fun _=>none,h,rfl,rfl,(fC.refl hp).congr fun q=>⟨fun h=>h.elim,fun ⟨j,hj,_⟩=>by simp at hj⟩,fun _ _ _ h=>(nomatch h),fun {_ _ _ _ _ _ _ _} _ _ _ j kk hj=>by simp at hj⟩
  | cons=>cases h
 | cons kk ks ih=>
  intro hp vs k ans h
  cases vs with
  | nil=>cases h
  | cons v vs=>
   simp only [mH] at h
   obtain ⟨l,r,h1,h2,h3⟩:=sH h
   obtain ⟨ls,hp',c,g1,g2,g3,g4,g5,g6⟩:=ih h1
   have t1:=sk h2
   have tt:=t1.trans g4
   refine ⟨l::ls,hp',fun j=>match j with | 0=>r | j+1=>bif decide (j<ks.length) then c j else none,g1,by simp [g2],by simp [g3],tt.congr fun q=>?_,?_,?_⟩
   ·constructor
    ·rintro (hq | ⟨j,hj,hq⟩)
     ·exact ⟨0,by simp,hq⟩
     ·exact ⟨j+1,by simp;exact hj,by simp [hj,hq]⟩
    ·rintro ⟨j,hj,hq⟩
     cases j with
     | zero=>exact .inl hq
     | succ j=>
      have hj':j<ks.length:=by simpa using hj
      simp [hj'] at hq
      exact .inr ⟨j,hj',hq⟩
   ·intro j j' q hq hq'
    cases j with
    | zero=>
     cases j' with
     | zero=>rfl
     | succ j'=>
      by_cases hj':j'<ks.length
      ·simp [hj'] at hq'
       exact (t1.yQ g4 (q:=q) hq ⟨j',hj',hq'⟩).elim
      ·simp [hj'] at hq'
    | succ j=>
     by_cases hj:j<ks.length
     ·simp [hj] at hq
      cases j' with
      | zero=>exact (t1.yQ g4 (q:=q) hq' ⟨j,hj,hq⟩).elim
      | succ j'=>
       by_cases hj':j'<ks.length
       ·simp [hj'] at hq'
        rw [g5 j j' q hq hq']
       ·simp [hj'] at hq'
     ·simp [hj] at hq
   ·intro T w0 w np M A hp0 xs hh hs hf j q hj
    cases hf with
    | cons hv ht=>
     cases j with
     | zero=>
      simp at hj
      subst hj
      exact ⟨_,rfl,hv.2,h3 hh hs hv.1⟩
     | succ j=>
      simp at hj
      have hjl:j<ks.length:=(List.getElem?_eq_some_iff.1 hj).1
      obtain ⟨x,e1,e2,e3⟩:=g6 hh (t1.sub hs) ht j q hj
      exact ⟨x,by simpa using e1,e2,by simpa [hjl] using e3⟩
def jP {ks:List K}:∀{n:Nat} {hp:Nat->aK} {vs:List V} {k:aq->(Nat->aK)->aD} {ans:List L},kN ks n hp vs k=some ans->
  ∃ls hp',∃c:Nat->Nat->Option Nat,k ls hp'=some ans/\ls.length=n/\vs.length=n*ks.length/\fC hp hp' (fun q=>∃i j,i<n/\j<ks.length/\c i j=some q)/\(∀i j i' j' q,c i j=some q->c i' j'=some q->i=i'/\j=j')/\
   ∀{T:Nat->List K} {w0 w:World} {np:Nat} {M:Mem np} {A:cD} {hp0:Nat->aK} {xs:List Value},Hp T w0 M A hp0 w->Sub hp hp0->F2 (Vc T w A) vs xs->∀i j kk,i<n->ks[j]?=some kk->∃x,xs[i*ks.length+j]?=some x/\x.oneCell'=true/\fQ T w (rH A (c i j)) kk x ((ls.getD i []).getD j .hole):=by
 intro n
 induction n with
 | zero=>
  intro hp vs k ans h
  simp only [kN] at h
  cases hv:vs.isEmpty<;>simp only [hv,aO,aR] at h
  ·cases h
  exact ⟨[],hp,fun _ _=>none,h,rfl,by simp at hv;subst hv;simp,(fC.refl hp).congr fun q=>⟨fun h=>h.elim,fun ⟨i,j,hi,_⟩=>by omega⟩,fun _ _ _ _ _ h=>(nomatch h),fun {_ _ _ _ _ _ _ _} _ _ _ i j kk hi=>by omega⟩
 | succ n ih=>
  intro hp vs k ans h
  simp only [kN] at h
  obtain ⟨l,hp1,c0,h1,h2,h3,h4,h5,h6⟩:=rA h
  obtain ⟨ls,hp',c,g1,g2,gl,g4,g5,g6⟩:=ih h1
  have tt:=h4.trans g4
  refine ⟨l::ls,hp',fun i j=>match i with | 0=>(cond (decide (j<ks.length)) (c0 j) none) | i+1=>bif decide (i<n/\j<ks.length) then c i j else none,g1,by simp [g2],by rw [List.length_take] at h3;rw [List.length_drop] at gl;rw [Nat.succ_mul];omega,tt.congr fun q=>?_,?_,?_⟩
  ·constructor
   ·rintro (⟨j,hj,hq⟩ | ⟨i,j,hi,hj,hq⟩)
    ·exact ⟨0,j,by omega,hj,by simp [hj,hq]⟩
    ·exact ⟨i+1,j,by omega,hj,by simp [hi,hj,hq]⟩
   ·rintro ⟨i,j,hi,hj,hq⟩
    cases i with
    | zero=>simp [hj] at hq;exact .inl ⟨j,hj,hq⟩
    | succ i=>
     have hi':i<n:=by omega
     simp [hi',hj] at hq
     exact .inr ⟨i,j,hi',hj,hq⟩
  ·intro i j i' j' q hq hq'
   cases i with
   | zero=>
    by_cases hj:j<ks.length
    ·simp [hj] at hq
     cases i' with
     | zero=>
      by_cases hj':j'<ks.length
      ·simp [hj'] at hq'
       exact ⟨rfl,h5 j j' q hq hq'⟩
      ·simp [hj'] at hq'
     | succ i'=>
      by_cases hc:i'<n/\j'<ks.length
      ·simp [hc] at hq'
       exact (h4.yQ g4 (q:=q) ⟨j,hj,hq⟩ ⟨i',j',hc.1,hc.2,hq'⟩).elim
      ·simp [hc] at hq'
    ·simp [hj] at hq
   | succ i=>
    by_cases hc:i<n/\j<ks.length
    ·simp [hc] at hq
     cases i' with
     | zero=>
      by_cases hj':j'<ks.length
      ·simp [hj'] at hq'
       exact (h4.yQ g4 (q:=q) ⟨j',hj',hq'⟩ ⟨i,j,hc.1,hc.2,hq⟩).elim
      ·simp [hj'] at hq'
     | succ i'=>
      by_cases hc':i'<n/\j'<ks.length
      ·simp [hc'] at hq'
       have:=g5 i j i' j' q hq hq'
       exact ⟨by rw [this.1],this.2⟩
      ·simp [hc'] at hq'
    ·simp [hc] at hq
  ·intro T w0 w np M A hp0 xs hh hs hf i j kk hi hj
   have hjl:j<ks.length:=(List.getElem?_eq_some_iff.1 hj).1
   cases i with
   | zero=>
    obtain ⟨x,e1,e2,e3⟩:=h6 hh hs (hf.take ks.length) j kk hj
    refine ⟨x,?_,e2,by simpa [hjl] using e3⟩
    simp only [List.getElem?_take,hjl,if_true] at e1
    simpa using e1
   | succ i=>
    have hi':i<n:=by omega
    obtain ⟨x,e1,e2,e3⟩:=g6 hh (h4.sub hs) (hf.drop ks.length) i j kk hi' hj
    refine ⟨x,?_,e2,by simpa [hjl,hi'] using e3⟩
    rw [List.getElem?_drop] at e1
    rw [<-e1]
    congr 1
    rw [Nat.succ_mul];omega
end Go.DM
set_option linter.unusedSectionVars false
namespace Go.DM
def cD.dh (A:cD)(m:Nat)(x:Value)(C S:Nat->Prop):cD:=
  { v:=upd A.v m x,N:=fun q b=>(q=m/\(S b∨∃p,C p/\A.N p b))∨(q≠m/\¬C q/\A.N q b),al:=fun q=>A.al q∨q=m,Z:=A.Z }
section
variable {E:Env} {w0 w w':World} {np:Nat} {M:Mem np} {A:cD} {s:St} {a:Act} {hp':Nat->aK} {r:Option Nat} {m nx':Nat} {x:Value} {C S:Nat->Prop}
theorem fL.dh (sm:fL E w0 M A s a w)(hC:∀q,C q↔(r=some q∨zT s.hp hp' q))(hr:∀q,r=some q->A.al q)(hm:C m∨m=s.nx)(hx:A.al m->x=A.v m)
  (hmn:m<nx') (hn:s.nx<=nx') (hd:∀q,q≠m->C q->hp' q=.dead) (hsm:∀q,q≠m->¬C q->hp' q=s.hp q)
  (hos:w'.os=w.os) (htp:w'.tape=w.tape) (hout:w'.output=w.output) (hsz:w.heap.size<=w'.heap.size)
  (hb:∀b,b<w.heap.size->(∀q,r=some q->¬A.N q b)->w'.heap[b]?=w.heap[b]?) (hS:∀b,S b->w.heap.size<=b/\b<w'.heap.size)
  (own:∀q e xs,r=some q->s.hp q=.row e xs->hp' q=.dead->Rd E.cells w' (fG w' (A.dh m x C S) (some m)) (.sl e) (A.v q) (.sl xs))
  (root:Mv E.cells A (A.dh m x C S) w w' s.hp hp' r m->dB E.cells w' (A.dh m x C S) m (uk s.hp hp' r m (hp' m))) :
  fL E w0 M (A.dh m x C S) (s.iX hp' r m nx') a w':=by
 have hh:=sm.hp
 have hmC:A.al m->C m:=fun h=>hm.elim id fun e=>(sm.nx m (by omega) h).elim
 have st:Step A (A.dh m x C S) w w' (fun q=>r=some q∨zT s.hp hp' q):=by
  refine ⟨rfl,fun q h=>.inl h,fun q h=>?_,hsz,fun b h1 h2=>hb b h1 fun q hq=>h2 q (.inl hq),fun q h1 h2 b=>?_,fun q b h1 h2=>?_⟩
  ·by_cases hq:q=m
   ·subst hq;simp only [cD.dh,aQ];exact hx h
   ·simp only [cD.dh,aI _ _ hq]
  ·have hc:¬C q:=fun hc=>h2 ((hC q).1 hc)
   have hq:q≠m:=by rintro rfl;exact hc (hmC h1)
   simp [cD.dh,hq,hc]
  ·rcases h2 with ⟨rfl,h2 | ⟨p,hp,h2⟩⟩ | ⟨h3,h4,h5⟩
   ·exact .inr (hS b h2).1
   ·exact .inl ⟨p,(hC p).1 hp,h2⟩
   ·rcases h1 with h1 | h1
    ·exact (h4 ((hC q).2 h1)).elim
    ·exact (h1 (hh.xd h5)).elim
 have mv:Mv E.cells A (A.dh m x C S) w w' s.hp hp' r m:=by
  refine ⟨st,.inr rfl,fun q b h1 h2 h3=>⟨.inl ⟨rfl,.inr ⟨q,(hC q).2 (.inr h1),h3⟩⟩,?_⟩,own⟩
  exact hb b (hh.lt q b h3) fun p hp hn=>h2 (by rw [hp,hh.dj p q b hn h3])
 have hroots:∀q,dB E.cells w' (A.dh m x C S) q (uk s.hp hp' r m (hp' q)):=by
  intro q
  by_cases hq:q=m
  ·subst hq;exact root mv
  ·by_cases hc:C q
   ·rw [hd q hq hc]
    intro b hn
    rcases hn with ⟨h,_⟩ | ⟨_,h,_⟩
    ·exact hq h
    ·exact h hc
   ·refine dB.move mv hh (fun h=>hc ((hC q).2 (.inl h))) (hsm q hq hc) fun hdd b hn=>?_
    rcases hn with ⟨h,_⟩ | ⟨_,_,h⟩
    ·exact hq h
    ·have:=hh.rt q;rw [hdd] at this;exact this b h
 refine ⟨⟨fun q b h=>?_,fun q p b h h'=>?_,fun q h=>?_,hroots,?_,fun q b h=>?_,hh.zf,fun j hj=>⟨.inl (hh.pn j hj).1,(st.v j (hh.pn j hj).1).trans (hh.pn j hj).2⟩⟩,fun i y hy=>(sm.tm i y hy).move mv hh,fun q h1 h2=>?_,sm.df,sm.sz,sm.fr.map' fun _ _ h=>h.move mv hh⟩
 ·rcases h with ⟨_,h | ⟨p,_,h⟩⟩ | ⟨_,_,h⟩
  ·exact (hS b h).2
  ·exact Nat.lt_of_lt_of_le (hh.lt p b h) hsz
  ·exact Nat.lt_of_lt_of_le (hh.lt q b h) hsz
 ·have key:∀{q p},q=m->(S b∨∃p,C p/\A.N p b)->¬C p->A.N p b->False:=by
   intro q p _ h1 h2 h3
   rcases h1 with h1 | ⟨p',h1,h4⟩
   ·have:=(hS b h1).1;have:=hh.lt p b h3;omega
   ·rw [hh.dj p' p b h4 h3] at h1;exact h2 h1
  rcases h with ⟨h1,h2⟩ | ⟨h1,h2,h3⟩<;>rcases h' with ⟨k1,k2⟩ | ⟨k1,k2,k3⟩
  ·rw [h1,k1]
  ·exact (key h1 h2 k2 k3).elim
  ·exact (key k1 k2 h2 h3).elim
  ·exact hh.dj q p b h3 k3
 ·have hq:q≠m:=fun e=>h (.inr e)
  have hal:¬A.al q:=fun e=>h (.inl e)
  have hc:¬C q:=fun hc=>by
   rcases (hC q).1 hc with h1 | h1
   ·exact hal (hr q h1)
   ·exact h1.1 (hh.al q hal)
  show uk s.hp hp' r m (hp' q)=.dead
  rw [hsm q hq hc,hh.al q hal];rfl
 ·refine ⟨hos.trans hh.fr.os,htp.trans hh.fr.tape,hout.trans hh.fr.output,Nat.le_trans hh.fr.size hsz,fun b h1 h2=>?_⟩
  rw [hb b (Nat.lt_of_lt_of_le h1 hh.fr.size) fun q hq hn=>?_]
  ·exact hh.fr.block b h1 h2
  ·rcases hh.nm q b hn with h | h
   ·exact h2 h
   ·omega
 ·rcases h with ⟨_,h | ⟨p,_,h⟩⟩ | ⟨_,_,h⟩
  ·exact .inr (Nat.le_trans hh.fr.size (hS b h).1)
  ·exact hh.nm p b h
  ·exact hh.nm q b h
 ·rcases h2 with h2 | h2
  ·exact sm.nx q (by have :nx'<=q:=h1;omega) h2
  ·have :nx'<=q:=h1;omega
end
def rM (P:Program)(E:Env){np:Nat}(w0:World)(M:Mem np)(A:cD)(o:Oper)(a:Act)(w:World)(v:V)(s':St):Prop:=
 ∀(K:Act->World->Prop) (Q:Exit->Act->World->Prop),
  (∀cv w' A',fL E w0 M A' s' a w'->V2 E.cells w' A' v cv->A'.Z=A.Z->K (a.put o.dst cv) w')->o.wp P a w K Q
section
variable {P:Program} {E:Env} {w0 w:World} {np:Nat} {M:Mem np} {A:cD} {s:St} {o:Oper} {a:Act} {k:V->St->aD} {ans:List L}
theorem uD {T:Nat->List K}{w:World}{A:cD}(c:Value):V0 T w A (mX c) c:=by
 unfold mX
 split
 ·rfl
 ·rfl
 ·rfl
 ·exact ⟨_,rfl⟩
 ·exact trivial
theorem yy (c:Value):(mX c).leaf=true->c.oneCell'=true:=by
 unfold mX
 split<;>first | exact fun _=>rfl | (intro h;cases h)
theorem Af {T:Nat->List K}{w:World}{A:cD}(c:Value):V2 T w A (yx c) c:=by
 unfold yx
 split
 ·rename_i cs
  cases h:cs.toList.all (fun c=>(mX c).leaf) with
  | false=>exact trivial
  | true=>
   refine V1.v2 (v:=.agg _) ⟨cs.toList,by simp,?_⟩
   rw [List.all_eq_true] at h
   revert h
   generalize cs.toList=l
   intro h
   induction l with
   | nil=>exact .nil
   | cons c l ih=>exact .cons ⟨uD c,yy c (h c (by simp))⟩ (ih fun x hx=>h x (by simp [hx]))
 ·exact (uD _).v2
theorem xU {sl:Nat->V}(tm:∀i x,a.tmps[i]?=some x->V2 E.cells w A (sl i) x)(sz:a.tmps.size=E.nt)(x:Operand):V2 E.cells w A (cV E.nt sl x) (a.eval x):=by
 cases x with
 | tmp t=>
  simp only [cV,look,Act.eval]
  cases hb:Nat.blt t E.nt with
  | true=>
   have hlt:t<a.tmps.size:=by rw [sz];exact Nat.blt_eq.mp hb
   have:=tm t a.tmps[t] (Array.getElem?_eq_getElem hlt)
   simpa [Array.getD,hlt] using this
  | false=>
   have hge:a.tmps.size<=t:=by rw [sz];exact Nat.le_of_not_lt fun h=>by rw [Nat.blt_eq.mpr h] at hb;cases hb
   have :a.tmps.getD t Go.undef=Go.undef:=by simp [Array.getD,Nat.not_lt.2 hge]
   exact this
 | const v=>exact Af v
 | global g=>exact trivial
 | func f=>exact V1.v2 (v:=.fn f []) ⟨[],rfl,.nil⟩
theorem fL.ev (sm:fL E w0 M A s a w)(x:Operand):V2 E.cells w A (cV E.nt s.sl x) (a.eval x):=xU sm.tm sm.sz x
theorem jD {w:World}{t g q te:Nat}{ii:TypeInfo}{v:Value}{cur:Array Value}(hi:P.info? t=some ii)(hv:v.cells.size=ii.size)(h1:∀u∈v.cells.toList,u.oneCell'=true)
  (hg:w.heap[g]?=some (.cells cur te (0,0))) (hl:q+ii.size<=cur.size) :
  (Instr.storeAt t (.pointer (some ⟨g,q,none⟩)) v).run P w=.ok () (w.setRow g (splice cur.toList q v.cells.toList).toArray):=by
 have:=run_storeCells_at P g q te v.cells.toList 0 cur w hg (by simp;omega) h1
 simp only [Nat.add_zero] at this
 simp [Instr.storeAt,Instr.sureAddr,storeVar,gk hi,hv,this,splice,List.append_assoc]
end
end Go.DM
set_option linter.unusedSectionVars false
namespace Go.DM
def oD {α:Type}{cs new:List α}{o p:Nat}(h:o+new.length<=cs.length) :
  (splice cs o new)[p]?=if o<=p/\p<o+new.length then new[p - o]? else cs[p]?:=by
 unfold splice
 have hl:(cs.take o).length=o:=by simp;omega
 by_cases h1:p<o
 ·rw [List.getElem?_append_left (by omega),List.getElem?_take,if_pos h1,if_neg (by omega)]
 ·rw [List.getElem?_append_right (by omega),hl]
  by_cases h2:p<o+new.length
  ·rw [List.getElem?_append_left (by omega),if_pos (by omega)]
  ·rw [List.getElem?_append_right (by omega),if_neg (by omega),List.getElem?_drop]
   congr 1;omega
def ru {cs new:List L}{o p:Nat}(h:o+new.length<=cs.length) :
  (splice cs o new).getD p .hole=if o<=p/\p<o+new.length then new.getD (p - o) .hole else cs.getD p .hole:=by
 simp only [List.getD_eq_getElem?_getD]
 rw [oD h]
 split<;>rfl
def uL {i i' sz off len j:Nat}(hj:j<sz)(h:off+len<=sz):(i*sz+off<=i'*sz+j/\i'*sz+j<i*sz+off+len)↔(i'=i/\off<=j/\j<off+len):=by
 rcases Nat.lt_trichotomy i i' with h1 | h1 | h1
 ·have :(i+1)*sz<=i'*sz:=Nat.mul_le_mul_right _ h1
  rw [Nat.succ_mul] at this
  omega
 ·subst h1;omega
 ·have :(i'+1)*sz<=i*sz:=Nat.mul_le_mul_right _ h1
  rw [Nat.succ_mul] at this
  omega
def jr:∀(ks:List K) (l:List L),(ke ks l).length=ks.length
 | [],_=>rfl
 | k::ks,l=>by simp [ke,jr ks]
def qB:∀{ks:List K} {l:List L} {j:Nat} {k:K},ks[j]?=some k->(ke ks l).getD j .hole=DA k (l.getD j .hole)
 | [],_,_,_,h=>by simp at h
 | k::ks,l,0,_,h=>by simp at h;subst h;simp only [ke];rw [gY];rfl
 | k::ks,l,j+1,k',h=>by
  have:=qB (ks:=ks) (l:=l.tail) (j:=j) (k:=k') (by simpa using h)
  rw [jU] at this
  simpa [ke] using this
def fQ.canon {T:Nat->List K}{w:World}{S:Nat->Prop}{k:K}{v:Value}{l:L}(h:fQ T w S k v l):fQ T w S k v (DA k l):=by
 cases k with
 | int ik=>cases h;exact fQ.int S ik (.int l.toInt)
 | bool=>cases h;exact fQ.bool S (.bool l.toBool)
 | str=>cases h;exact fQ.str S (.str l.toStr)
 | sl e=>exact h.uc
section
variable {P:Program} {E:Env} {w0 w:World} {np:Nat} {M:Mem np} {A:cD} {s:St} {o:Oper} {a:Act} {k:V->St->aD} {ans:List L}
theorem fL.xd (sm:fL E w0 M A s a w){r:Nat}(h:A.al r):r<s.nx:=Nat.lt_of_not_le fun h'=>sm.nx r h' h
theorem Cs (hT:∀t i,E.T t=some i->fX P E t i)(sm:fL E w0 M A s a w){t:TypeId}{x y:Operand}(ho:o.op=.store t x y)(h:jG E (.store t x y) s k=some ans) :
  ∃v s',k v s'=some ans/\rM P E w0 M A o a w v s':=by
 have hh:=sm.hp
 have hx:=sm.ev x
 simp only [jG] at h
 split at h
 ·cases h
 rename_i i ht
 obtain ⟨ii,d,z,h1,h2,h3,h4,h5,h6,hby,h7,h8,h9,h10,hpl,h11,h12,h13,h14,h15⟩:=hT t i ht
 obtain ⟨new,g1,g2⟩:=jt h
 have hy:=g2 (sm.ev y)
 cases hl:Nat.beq new.length i.cells.length<;>simp only [hl,aO,aR] at g1
 ·cases g1
 have hl':=Nat.eq_of_beq_eq_true hl
 have hsz:(a.eval y).cells.size=ii.size:=by rw [<-Array.length_toList,<-hy.length,hl',h4]
 have hone:∀u∈(a.eval y).cells.toList,u.oneCell'=true:=by
  intro u hu
  obtain ⟨j,hj⟩:=List.getElem?_of_mem hu
  have:=hy.length
  have hjl:j<new.length:=by rw [this];exact (List.getElem?_eq_some_iff.1 hj).1
  obtain ⟨b,hb,hv⟩:=hy.get (List.getElem?_eq_getElem hjl)
  rw [hj] at hb;injection hb with hb;subst hb
  exact hv.2
 split at g1
 ·
  rename_i r q hr
  rw [hr] at hx
  split at g1
  ·rename_i cs hcs
   cases hle:Nat.ble (q+new.length) cs.length<;>simp only [hle,aO,aR] at g1
   ·cases g1
   have hle':=Nat.le_of_ble_eq_true hle
   obtain ⟨hal,g,e1,e2⟩:=(show V0 E.cells w A (.bP r q) (a.eval x) from hx)
   have hroot:=hh.rt r
   rw [hcs] at hroot
   obtain ⟨_,g',te,cur,m1,m2,m3,m4⟩:=hroot
   obtain rfl:g=g':=by rw [e1] at m1;injection m1 with m1;injection m1 with m1;injection m1
   refine ⟨_,_,g1,fun Kn Q hK=>?_⟩
   have hcl:cs.length=cur.size:=by rw [m4.length,Array.length_toList]
   have hrun:(execOp a.eval o).run P w=.ok .skip (w.setRow g (splice cur.toList q (a.eval y).cells.toList).toArray):=by
    have:=jD (P:=P) (t:=t) (g:=g) (q:=q) h1 hsz hone m3 (by omega)
    simp [execOp,ho,e2,this]
   unfold Oper.wp
   rw [hrun]
   refine hK Go.undef _ _ (fL.dh (x:=A.v r) (C:=fun q=>q=r) (S:=fun _=>False) sm (fun p=>?_) (fun p hp=>by injection hp with hp;subst hp;exact hal) (.inl rfl) (fun _=>rfl) (sm.xd hal) (Nat.le_refl _)
    (fun p h h'=>(h h').elim) (fun p hp _=>aI _ _ hp) rfl rfl rfl (by simp) (fun b hb hn=>setRow_other _ _ _ _ fun e=>hn r rfl ((m2 b).2 e)) (fun b hb=>hb.elim) (fun p e xs hp h1 h2=>?_) (fun mv=>?_)) rfl rfl
   ·constructor
    ·rintro rfl;exact .inl rfl
    ·rintro (hp | hp)
     ·injection hp with hp;exact hp.symm
     ·by_cases hpr:p=r
      ·exact hpr
      ·have:=hp.2;rw [aI _ _ hpr] at this;exact (hp.1 this).elim
   ·injection hp with hp;subst hp;rw [aQ] at h2;cases h2
   ·rw [aQ]
    refine ⟨.inl hal,g,te,_,by simp [cD.dh,aQ,e1],fun b=>?_,setRow_heap _ _ _ _ _ _ m3,?_⟩
    ·simp only [cD.dh]
     constructor
     ·rintro (⟨_,h | ⟨p,rfl,h⟩⟩ | ⟨h,_⟩)
      ·exact h.elim
      ·exact (m2 b).1 h
      ·exact (h rfl).elim
     ·intro h;exact .inl ⟨trivial,.inr ⟨r,rfl,(m2 b).2 h⟩⟩
    ·have:=(m4.splice hy q)
     exact oE mv hh (by simpa using this)
  ·cases g1
 ·
  rename_i r sz j q hr
  rw [hr] at hx
  have part:∀{e:Nat} {xs:aq},fQ E.cells w (A.N r) (.sl e) (A.v r) (.sl xs)->kY E.cells w (A.N r) e (A.v r) xs (fun i' j'=>i'=j/\q<=j'/\j'<q+new.length):=by
   clear g1
   intro e xs hown
   obtain ⟨hal,g,n,c,e1,ej,e2⟩:=(show V0 E.cells w A (.fM r _ j q) (a.eval x) from hx)
   rw [e1] at hown ⊢
   exact hown.part (by omega) _
  have elem:∀{e:Nat} {xs:aq} {mk:List L->aK},kY E.cells w (A.N r) e (A.v r) xs (fun i' j'=>i'=j/\q<=j'/\j'<q+new.length)->(∀ls,mk ls≠.dead)->
    (∀(hp hp':Nat->aK) (r0:Option Nat) (m:Nat) (w':World) (A':cD) (ls:List L),j<xs.length->A'.al r->fQ E.cells w' (A'.N r) (.sl e) (A'.v r) (.sl (xs.set j (splice (ke (E.cells e) (xs.getD j [])) q ls)))->dB E.cells w' A' r (uk hp hp' r0 m (mk ls)))->
    (Nat.beq sz (E.cells e).length&&Nat.ble (q+new.length) sz)=true->mH (upd s.hp r .dead) (cut (E.cells e) q new.length) new (fun ls hp=>k .undef (s.iX (upd hp r (mk ls)) (some r) r s.nx))=some ans->
    ∃v s',k v s'=some ans/\rM P E w0 M A o a w v s':=by
   clear g1
   intro e xs mk hown hmk0 hmk hle g1
   simp only [Bool.and_eq_true] at hle
   have hsz2:=Nat.eq_of_beq_eq_true hle.1
   have hle':=Nat.le_of_ble_eq_true hle.2
   subst hsz2
   obtain ⟨hal,g,n,c,e1,ej,e2⟩:=(show V0 E.cells w A (.fM r _ j q) (a.eval x) from hx)
   obtain ⟨g',n',c',te,cur,vv,Sf,k0,k1,k2,k3,k4,k5,k6,k7,k8,k9,k10⟩:=hown
   rw [e1] at k0
   injection k0 with k0 k0' k0''
   injection k0 with k0
   injection k0 with k0
   subst k0 k0' k0''
   obtain ⟨ls,hp2,cc,q1,q2,q3,q4,q5,q6⟩:=rA g1
   have hsub:Sub (upd s.hp r .dead) s.hp:=fun p=>by
    by_cases hp:p=r
    ·subst hp;exact .inr (aQ _ _ _)
    ·exact .inl (aI _ _ hp)
   have hcut:(cut (E.cells e) q new.length).length=new.length:=eX hle'
   have q6':=q6 hh hsub hy
   have hcons:∀p jj,cc jj=some p->jj<new.length->p≠r/\s.hp p≠.dead/\hp2 p=.dead:=by
    intro p jj hp hjj
    have hw:=q4.was p ⟨jj,by rw [hcut];exact hjj,hp⟩
    have hpr:p≠r:=by rintro rfl;rw [aQ] at hw;exact hw rfl
    rw [aI _ _ hpr] at hw
    exact ⟨hpr,hw,q4.now p ⟨jj,by rw [hcut];exact hjj,hp⟩⟩
   refine ⟨_,_,q1,fun Kn Q hK=>?_⟩
   have hvl:(a.eval y).cells.toList.length=new.length:=hy.length.symm
   have hfit:j*(E.cells e).length+q+new.length<=cur.size:=by
    rw [k5]
    calc j*(E.cells e).length+q+new.length<=j*(E.cells e).length+(E.cells e).length:=by omega
     _=(j+1)*(E.cells e).length:=by rw [Nat.succ_mul]
     _<=c*(E.cells e).length:=Nat.mul_le_mul_right _ (by omega)
   have hrun:(execOp a.eval o).run P w=.ok .skip (w.setRow g (splice cur.toList (j*(E.cells e).length+q) (a.eval y).cells.toList).toArray):=by
    have:=jD (P:=P) (t:=t) (g:=g) (q:=j*(E.cells e).length+q) h1 hsz hone k4 (by omega)
    simp [execOp,ho,e2,this]
   unfold Oper.wp
   rw [hrun]
   have hgN:A.N r g:=k6
   refine hK Go.undef _ _ (fL.dh (x:=A.v r) (C:=fun p=>p=r∨∃jj,jj<new.length/\cc jj=some p) (S:=fun _=>False) sm (fun p=>?_) (fun p hp=>by injection hp with hp;subst hp;exact hal) (.inl (.inl rfl)) (fun _=>rfl) (sm.xd hal) (Nat.le_refl _)
    (fun p h h'=>?_) (fun p hp hn=>?_) rfl rfl rfl (by simp) (fun b hb hn=>setRow_other _ _ _ _ fun e=>hn r rfl (e ▸ hgN)) (fun b hb=>hb.elim) (fun p e xs hp h1 h2=>?_) (fun mv=>?_)) rfl rfl
   ·constructor
    ·rintro (rfl | ⟨jj,hjj,hp⟩)
     ·exact .inl rfl
     ·obtain ⟨a1,a2,a3⟩:=hcons p jj hp hjj
      exact .inr ⟨a2,by rw [aI _ _ a1];exact a3⟩
    ·rintro (hp | hp)
     ·injection hp with hp;exact .inl hp.symm
     ·by_cases hpr:p=r
      ·exact .inl hpr
      ·refine .inr (Classical.byContradiction fun hc=>?_)
       have h2:=hp.2
       rw [aI _ _ hpr,q4.rest p (fun ⟨jj,hjj,hc'⟩=>hc ⟨jj,by rw [<-hcut];exact hjj,hc'⟩),aI _ _ hpr] at h2
       exact hp.1 h2
   ·rcases h' with h' | ⟨jj,hjj,hp⟩
    ·exact (h h').elim
    ·rw [aI _ _ h];exact (hcons p jj hp hjj).2.2
   ·rw [aI _ _ hp,q4.rest p (fun ⟨jj,hjj,hc'⟩=>hn (.inr ⟨jj,by rw [<-hcut];exact hjj,hc'⟩)),aI _ _ hp]
   ·injection hp with hp;subst hp;rw [aQ] at h2;exact (hmk0 _ h2).elim
   ·rw [aQ]
    refine hmk _ _ _ _ _ _ _ (by rw [show xs.length=n from k1];exact ej) (.inl hal) ?_
    have hlen:new.length=(a.eval y).cells.toList.length:=hy.length
    have hfoot:∀jj b,jj<new.length->rH A (cc jj) b->b≠g/\(A.dh r (A.v r) (fun p=>p=r∨∃jj,jj<new.length/\cc jj=some p) (fun _=>False)).N r b/\¬A.N r b:=by
     intro jj b hjj ⟨p,hp,hb⟩
     have hpr:=(hcons p jj hp hjj).1
     exact ⟨fun e=>hpr (hh.dj p r b hb (e ▸ hgN)),.inl ⟨rfl,.inr ⟨p,.inr ⟨jj,hjj,hp⟩,hb⟩⟩,fun hn=>hpr (hh.dj p r b hb hn)⟩
    have hfr:∀{S:Nat->Prop} {kk:K} {v:Value} {l:L},fQ E.cells w S kk v l->(∀b,S b->b≠g)->fQ E.cells (w.setRow g (splice cur.toList (j*(E.cells e).length+q) (a.eval y).cells.toList).toArray) S kk v l:=by
     intro S kk v l ho hs
     exact ho.frame fun b hb=>setRow_other _ _ _ _ (hs b hb)
    have hval:(A.dh r (A.v r) (fun p=>p=r∨∃jj,jj<new.length/\cc jj=some p) (fun _=>False)).v r=.slice (some ⟨g,0,none⟩) n c:=by simp [cD.dh,aQ,e1]
    show fQ E.cells _ _ (.sl e) ((A.dh r (A.v r) (fun p=>p=r∨∃jj,jj<new.length/\cc jj=some p) (fun _=>False)).v r) _
    rw [hval]
    refine .sl _ e n c g te _ _ (fun i' j'=>if i'=j/\q<=j'/\j'<q+new.length then (a.eval y).cells.toList.getD (j' - q) Go.undef else vv i' j')
     (fun i' j' b=>if i'=j/\q<=j'/\j'<q+new.length then rH A (cc (j' - q)) b else Sf i' j' b) ?_ k2 k3 (setRow_heap _ _ _ _ _ _ k4) ?_ (.inl ⟨rfl,.inr ⟨r,.inl rfl,hgN⟩⟩) (fun i' j' b hb=>?_) (fun i1 j1 i2 j2 b hb hb'=>?_) (fun i' j' kk hi hj=>?_) (fun i' j' kk hi hj=>?_)
    ·simp only [L.dz,List.length_set];exact k1
    ·rw [<-k5,List.size_toArray,lp (by rw [<-hlen,Array.length_toList];exact hfit),Array.length_toList]
    ·by_cases hc:i'=j/\q<=j'/\j'<q+new.length
     ·simp only [hc,and_self,if_true] at hb
      have:=hfoot (j' - q) b (by omega) hb
      exact ⟨this.2.1,this.1⟩
     ·rw [if_neg hc] at hb
      exact ⟨.inl ⟨rfl,.inr ⟨r,.inl rfl,(k7 i' j' b hb).1⟩⟩,(k7 i' j' b hb).2⟩
    ·by_cases hc:i1=j/\q<=j1/\j1<q+new.length<;>by_cases hc':i2=j/\q<=j2/\j2<q+new.length
     ·rw [if_pos hc] at hb;rw [if_pos hc'] at hb'
      obtain ⟨p,hp,hn⟩:=hb
      obtain ⟨p',hp',hn'⟩:=hb'
      rw [hh.dj p p' b hn hn'] at hp
      have:=q5 _ _ _ hp hp'
      omega
     ·rw [if_pos hc] at hb;rw [if_neg hc'] at hb'
      exact ((hfoot (j1 - q) b (by omega) hb).2.2 (k7 _ _ _ hb').1).elim
     ·rw [if_neg hc] at hb;rw [if_pos hc'] at hb'
      exact ((hfoot (j2 - q) b (by omega) hb').2.2 (k7 _ _ _ hb).1).elim
     ·rw [if_neg hc] at hb;rw [if_neg hc'] at hb'
      exact k8 _ _ _ _ _ hb hb'
    ·have hjl:j'<(E.cells e).length:=(List.getElem?_eq_some_iff.1 hj).1
     rw [<-Array.getElem?_toList]
     simp only
     rw [oD (by rw [<-hlen,Array.length_toList];exact hfit),<-hlen]
     by_cases hc:i'=j/\q<=j'/\j'<q+new.length
     ·rw [if_pos ((uL hjl hle').2 hc),if_pos hc]
      have :i'*(E.cells e).length+j' - (j*(E.cells e).length+q)=j' - q:=by rw [hc.1];omega
      rw [this,List.getD_eq_getElem?_getD,List.getElem?_eq_getElem (show j' - q<(a.eval y).cells.toList.length by omega)]
      rfl
     ·rw [if_neg (fun h=>hc ((uL hjl hle').1 h)),if_neg hc,Array.getElem?_toList]
      exact k9 i' j' kk hi hj
    ·have hjl:j'<(E.cells e).length:=(List.getElem?_eq_some_iff.1 hj).1
     have hset:(xs.set j (splice (ke (E.cells e) (xs.getD j [])) q ls)).getD i' []=if i'=j then splice (ke (E.cells e) (xs.getD j [])) q ls else xs.getD i' []:=by
      have hjx:j<xs.length:=by rw [show xs.length=n from k1];exact ej
      simp only [List.getD_eq_getElem?_getD,List.getElem?_set]
      by_cases hij:j=i'
      ·subst hij;simp [hjx]
      ·simp [hij,Ne.symm hij]
     simp only [L.dz]
     rw [hset]
     by_cases hc:i'=j/\q<=j'/\j'<q+new.length
     ·have hif:(fun b=>if i'=j/\q<=j'/\j'<q+new.length then rH A (cc (j' - q)) b else Sf i' j' b)=rH A (cc (j' - q)):=by funext b;rw [if_pos hc]
      rw [hif,if_pos hc,if_pos hc.1,ru (by rw [jr,q2,hcut];exact hle'),q2,hcut,if_pos hc.2]
      obtain ⟨x',f1,f2,f3⟩:=q6' (j' - q) kk (by
       simp only [cut,List.getElem?_take,List.getElem?_drop]
       rw [if_pos (by omega),show q+(j' - q)=j' by omega];exact hj)
      rw [List.getD_eq_getElem?_getD,f1]
      exact hfr f3 fun b hb=>(hfoot (j' - q) b (by omega) hb).1
     ·have hif:(fun b=>if i'=j/\q<=j'/\j'<q+new.length then rH A (cc (j' - q)) b else Sf i' j' b)=Sf i' j':=by funext b;rw [if_neg hc]
      rw [hif,if_neg hc]
      have:=hfr (k10 i' j' kk hi hj hc) fun b hb=>(k7 i' j' b hb).2
      by_cases hij:i'=j
      ·subst hij
       rw [if_pos rfl,ru (by rw [jr,q2,hcut];exact hle'),q2,hcut,if_neg (fun h=>hc ⟨rfl,h⟩),qB hj]
       exact this.canon
      ·rw [if_neg hij];exact this
  split at g1
  ·rename_i e xs hrow
   cases hle:(Nat.beq sz (E.cells e).length&&Nat.ble (q+new.length) sz)<;>simp only [hle,aO,aR] at g1
   ·cases g1
   have hroot:=hh.rt r
   rw [hrow] at hroot
   cases hmt:E.mt<;>simp only [hmt,aO,aR] at g1
   ·exact elem (mk:=fun ls=>.row e (xs.set j (splice (ke (E.cells e) (xs.getD j [])) q ls))) (part hroot.2) (fun _ h=>by cases h) (fun _ _ _ _ _ _ _ _ h1 h2=>⟨h1,h2⟩) hle g1
   ·exact elem (mk:=fun ls=>.qt e xs j (splice (ke (E.cells e) (xs.getD j [])) q ls)) (part hroot.2) (fun _ h=>by cases h) (fun _ _ _ _ _ _ _ h0 h1 h2=>⟨h1,h0,h2⟩) hle g1
  ·rename_i e xs j0 cs hrow
   cases hle:(Nat.beq j j0&&(Nat.beq sz (E.cells e).length&&Nat.ble (q+new.length) sz))<;>simp only [hle,aO,aR] at g1
   ·cases g1
   rw [Bool.and_eq_true] at hle
   obtain rfl:=Nat.eq_of_beq_eq_true hle.1
   have hroot:=hh.rt r
   rw [hrow] at hroot
   refine elem (mk:=fun ls=>.qt e xs j (splice (ke (E.cells e) cs) q ls)) (part hroot.2.2) (fun _ h=>by cases h) (fun _ _ _ _ _ _ ls h0 h1 h2=>⟨h1,hroot.2.1,?_⟩) hle.2 g1
   rw [ji hroot.2.1,List.set_set] at h2
   exact h2
  ·rename_i e xs i0 o0 hrow
   cases hle:(Nat.beq j i0&&(Nat.beq q o0&&(Nat.beq new.length 1&&(Nat.beq sz (E.cells e).length&&Nat.ble (q+new.length) sz))))<;>simp only [hle,aO,aR] at g1
   ·cases g1
   simp only [Bool.and_eq_true] at hle
   obtain rfl:=Nat.eq_of_beq_eq_true hle.1
   obtain rfl:=Nat.eq_of_beq_eq_true hle.2.1
   have hn1:=Nat.eq_of_beq_eq_true hle.2.2.1
   have hroot:=hh.rt r
   rw [hrow] at hroot
   exact elem (mk:=fun ls=>.row e (xs.set j (splice (ke (E.cells e) (xs.getD j [])) q ls))) (hroot.2.2.imp fun i' j' ⟨h1,h2⟩=>⟨h1,by omega,by omega⟩) (fun _ h=>by cases h) (fun _ _ _ _ _ _ _ _ h1 h2=>⟨h1,h2⟩) (by rw [hle.2.2.2.1,hle.2.2.2.2];rfl) g1
  ·cases g1
 ·cases g1
end
end Go.DM
set_option linter.unusedSectionVars false
namespace Go.DM
def FB (E:Env)(w:World)(A:cD)(r:Option Nat)(C:Nat->Prop)(e:Nat)(x:Value)(xs:aq):Prop:=
 ∃base n c,x=.slice base n c/\xs.length=n/\n<=c/\c<=maxLen/\(c=0∨∃(g te:Nat) (cur:Array Value) (vv:Nat->Nat->Value) (Sf:Nat->Nat->Nat->Prop),
  base=some ⟨g,0,none⟩/\w.heap[g]?=some (.cells cur te (0,0))/\cur.size=c*(E.cells e).length/\(∃q,r=some q/\A.N q g)/\
  (∀i j b,Sf i j b->(∃q,C q/\A.N q b)/\b≠g)/\(∀i j i' j' b,Sf i j b->Sf i' j' b->i=i'/\j=j')/\
  (∀i j k,i<n->(E.cells e)[j]?=some k->cur[i*(E.cells e).length+j]?=some (vv i j))/\
  (∀i j k,i<n->(E.cells e)[j]?=some k->fQ E.cells w (Sf i j) k (vv i j) ((xs.getD i []).getD j .hole)))
def Dy (E:Env)(w:World)(A:cD)(C:Nat->Prop)(e:Nat)(x:Value)(ys:aq):Prop:=
 ∃base m c,x=.slice base m c/\ys.length=m/\(m=0∨∃(b o:Nat) (vv:Nat->Nat->Value) (Sf:Nat->Nat->Nat->Prop),
  base=some ⟨b,o,none⟩/\
  (∀i j p,Sf i j p->∃q,C q/\A.N q p)/\(∀i j i' j' p,Sf i j p->Sf i' j' p->i=i'/\j=j')/\
  (∀i j k,i<m->(E.cells e)[j]?=some k->w.cell? ⟨b,o+(i*(E.cells e).length+j),none⟩=some (vv i j))/\
  (∀i j k,i<m->(E.cells e)[j]?=some k->fQ E.cells w (Sf i j) k (vv i j) ((ys.getD i []).getD j .hole)))
def fQ.parts {T:Nat->List K}{w:World}{S:Nat->Prop}{e:Nat}{x:Value}{l:L}(h:fQ T w S (.sl e) x l) :
  ∃base n c,x=.slice base n c/\l.dz.length=n/\n<=c/\c<=maxLen/\(c=0∨∃(g te:Nat) (cur:Array Value) (vv:Nat->Nat->Value) (Sf:Nat->Nat->Nat->Prop),
   base=some ⟨g,0,none⟩/\w.heap[g]?=some (.cells cur te (0,0))/\cur.size=c*(T e).length/\S g/\
   (∀i j b,Sf i j b->S b/\b≠g)/\(∀i j i' j' b,Sf i j b->Sf i' j' b->i=i'/\j=j')/\
   (∀i j k,i<n->(T e)[j]?=some k->cur[i*(T e).length+j]?=some (vv i j))/\
   (∀i j k,i<n->(T e)[j]?=some k->fQ T w (Sf i j) k (vv i j) ((l.dz.getD i []).getD j .hole))):=by
 cases h
 ·rename_i hz;exact ⟨_,0,0,rfl,by rw [hz];rfl,Nat.le_refl _,Nat.zero_le _,.inl rfl⟩
 ·exact ⟨_,_,_,rfl,‹_›,‹_›,‹_›,.inr ⟨_,_,_,_,_,rfl,‹_›,‹_›,‹_›,‹_›,‹_›,‹_›,‹_›⟩⟩
def Rd.srcs {E:Env}{w:World}{A:cD}{C Z:Nat->Prop}{e:Nat}{x:Value}{ys:aq}(h:Rd E.cells w Z (.sl e) x (.sl ys))(hp:dS (E.cells e)=true):Dy E w A C e x ys:=by
 obtain ⟨a,n,c,rfl,h1,h2,h3⟩:=h.inv
 refine ⟨_,_,_,rfl,h1,?_⟩
 rcases Nat.eq_zero_or_pos n with hn | hn
 ·exact .inl hn
 ·obtain ⟨b,o,vv,h4,h5,h6,h7⟩:=h3 hn
  refine .inr ⟨b,o,vv,fun _ _ _=>False,h4,fun _ _ _ h=>h.elim,fun _ _ _ _ _ h=>h.elim,h6,fun i j k hi hj=>(h7 i j k hi hj).plain fun e' he=>?_⟩
  subst he;exact jR hp hj
section
variable {E:Env} {ans:List L}
theorem kG {hp:Nat->aK}{e:Nat}{v:V}{k:aq->(Nat->aK)->aD}(h:lS E hp e v k=some ans) :
  ∃ys hp',∃C:Nat->Prop,k ys hp'=some ans/\fC hp hp' C/\∀{w0 w:World} {np:Nat} {M:Mem np} {A:cD} {hp0:Nat->aK} {x:Value},Hp E.cells w0 M A hp0 w->Sub hp hp0->V2 E.cells w A v x->Dy E w A C e x ys:=by
 cases v<;>first | (simp only [lS] at h;cases h;done) | skip
 case nil=>
  refine ⟨_,_,_,h,fC.refl _,fun {w0 w np M A hp0 x} _ _ hv=>?_⟩
  obtain ⟨a,rfl⟩:=hv
  exact ⟨a,0,0,rfl,rfl,.inl rfl⟩
 case sl d e' ys=>
  simp only [lS] at h
  cases hb:(Nat.beq e e'&&dS (E.cells e))<;>simp only [hb,aO,aR] at h
  ·cases h
  simp only [Bool.and_eq_true] at hb
  obtain rfl:=Nat.eq_of_beq_eq_true hb.1
  exact ⟨_,_,_,h,fC.refl _,fun {w0 w np M A hp0 x} _ _ hv=>Rd.srcs (show V0 E.cells w A (.sl d e ys) x from hv).2 hb.2⟩
 case own r=>
  simp only [lS] at h
  split at h
  ·rename_i e' ys hr
   cases hb:Nat.beq e e'<;>simp only [hb,aO,aR] at h
   ·cases h
   obtain rfl:=Nat.eq_of_beq_eq_true hb
   cases hp':dS (E.cells e)<;>simp only [hp',aO,aR] at h
   ·refine ⟨_,_,_,h,fC.one (by rw [hr];simp),fun {w0 w np M A hp0 x} hh hs hv=>?_⟩
    have hroot:=hh.rt r
    rw [hs.row hr (by simp)] at hroot
    rw [(show V0 E.cells w A (.own r) x from hv).2.1]
    obtain ⟨base,n,c,h1,h2,h3,h4,h5⟩:=hroot.2.parts
    refine ⟨base,n,c,h1,h2,?_⟩
    rcases h5 with rfl | ⟨g,te,cur,vv,Sf,k1,k2,k3,k4,k5,k6,k7,k8⟩
    ·exact .inl (by omega)
    ·refine .inr ⟨g,0,vv,Sf,k1,fun i j p hp=>⟨r,rfl,(k5 i j p hp).1⟩,k6,fun i j kk hi hj=>?_,k8⟩
     rw [gi k2,Nat.zero_add];exact k7 i j kk hi hj
   ·refine ⟨_,_,_,h,fC.refl _,fun {w0 w np M A hp0 x} hh hs hv=>?_⟩
    have hroot:=hh.rt r
    rw [hs.row hr (by simp)] at hroot
    rw [(show V0 E.cells w A (.own r) x from hv).2.1]
    exact Rd.srcs hroot.2.rd hp'
  ·cases h
 case lit r n e'=>
  simp only [lS] at h
  cases hb:Nat.beq e e'<;>simp only [hb,aO,aR] at h
  ·cases h
  obtain rfl:=Nat.eq_of_beq_eq_true hb
  split at h
  ·rename_i cs hr
   obtain ⟨ys,hp',c,g1,g2,_,g3,g4,g5⟩:=jP h
   have t1:fC hp (upd hp r .dead) (fun q=>q=r):=fC.one (by rw [hr];simp)
   refine ⟨_,_,_,g1,t1.trans g3,fun {w0 w np M A hp0 x} hh hs hv=>?_⟩
   obtain ⟨hal,g,e1,rfl⟩:=(show V0 E.cells w A (.lit r n e) x from hv)
   have hroot:=hh.rt r
   rw [hs.row hr (by simp)] at hroot
   obtain ⟨_,g',te,cur,m1,m2,m3,m4⟩:=hroot
   obtain rfl:g=g':=by rw [e1] at m1;injection m1 with m1;injection m1 with m1;injection m1
   have g5':=g5 hh (t1.sub hs) m4
   refine ⟨_,n,n,rfl,g2,.inr ⟨g,0,fun i j=>cur.toList.getD (i*(E.cells e).length+j) Go.undef,fun i j p=>i<n/\j<(E.cells e).length/\rH A (c i j) p,rfl,fun i j p hp=>?_,fun i j i' j' p hp hp'=>?_,fun i j kk hi hj=>?_,fun i j kk hi hj=>?_⟩⟩
   ·obtain ⟨hi,hj,q,hq,hn⟩:=hp
    exact ⟨q,.inr ⟨i,j,hi,hj,hq⟩,hn⟩
   ·obtain ⟨_,_,q,hq,hn⟩:=hp
    obtain ⟨_,_,q',hq',hn'⟩:=hp'
    rw [hh.dj q q' p hn hn'] at hq
    exact g4 _ _ _ _ _ hq hq'
   ·obtain ⟨y,f1,_,_⟩:=g5' i j kk hi hj
    rw [gi m3,Nat.zero_add,<-Array.getElem?_toList,f1]
    simp only [List.getD_eq_getElem?_getD,f1];rfl
   ·obtain ⟨y,f1,_,f3⟩:=g5' i j kk hi hj
    have hy:cur.toList.getD (i*(E.cells e).length+j) Go.undef=y:=by simp only [List.getD_eq_getElem?_getD,f1];rfl
    show fQ E.cells w _ kk (cur.toList.getD (i*(E.cells e).length+j) Go.undef) _
    rw [hy]
    exact f3.mono fun b hb=>⟨hi,(List.getElem?_eq_some_iff.1 hj).1,hb⟩
  ·cases h
theorem wo {sz n i j:Nat}{v:Nat->Nat->Value}(hi:i<n)(hj:j<sz):((List.range (n*sz)).map fun p=>v (p / sz) (p % sz))[i*sz+j]?=some (v i j):=by
 have hlt:i*sz+j<n*sz:=by
  calc i*sz+j<i*sz+sz:=by omega
   _=(i+1)*sz:=by rw [Nat.succ_mul]
   _<=n*sz:=Nat.mul_le_mul_right _ hi
 have hpos:0<sz:=by omega
 have h1:(i*sz+j) / sz=i:=by rw [Nat.mul_comm,Nat.mul_add_div hpos,Nat.div_eq_of_lt hj,Nat.add_zero]
 have h2:(i*sz+j) % sz=j:=by rw [Nat.mul_comm,Nat.mul_add_mod,Nat.mod_eq_of_lt hj]
 rw [List.getElem?_map,List.getElem?_range hlt]
 simp [h1,h2]
theorem xF {sz n p:Nat}{v:Nat->Nat->Value}{u:Value}(hs:0<sz)(h:((List.range (n*sz)).map fun p=>v (p / sz) (p % sz))[p]?=some u):p / sz<n/\p % sz<sz/\u=v (p / sz) (p % sz)/\p=p / sz*sz+p % sz:=by
 rw [List.getElem?_map] at h
 have hlt:p<n*sz:=by
  rcases Nat.lt_or_ge p (n*sz) with h' | h'
  ·exact h'
  ·rw [List.getElem?_eq_none (by simpa using h')] at h;cases h
 rw [List.getElem?_range hlt] at h
 simp at h
 exact ⟨Nat.div_lt_of_lt_mul (by rw [Nat.mul_comm];exact hlt),Nat.mod_lt _ hs,h.symm,by rw [Nat.mul_comm];exact (Nat.div_add_mod p sz).symm⟩
end
end Go.DM
set_option linter.unusedSectionVars false
namespace Go.DM
def both {α:Type}(n:Nat)(f g:Nat->α)(i:Nat):α:=if i<n then f i else g (i - n)
def Ax {xs ys:aq}{n i:Nat}(h:xs.length=n):(xs++ys).getD i []=both n (fun i=>xs.getD i []) (fun i=>ys.getD i []) i:=by
 unfold both
 simp only [List.getD_eq_getElem?_getD]
 by_cases hi:i<n
 ·rw [if_pos hi,List.getElem?_append_left (by omega)]
 ·rw [if_neg hi,List.getElem?_append_right (by omega),h]
section
variable {P:Program} {E:Env} {w0 w:World} {np:Nat} {M:Mem np} {A:cD} {s:St} {o:Oper} {a:Act} {k:V->St->aD} {ans:List L}
theorem qS (hT:∀t i,E.T t=some i->fX P E t i)(sm:fL E w0 M A s a w){el:Nat}{t:TypeId}{ii:TypeInfo}{z:Value}{ie:TI}(hu:P.underlying t=some (.slice el))(hie:E.T el=some ie)
    (hi:P.info? el=some ii) (hz:ii.zero=some z) (hsz:ii.size=(E.cells el).length) (hzc:z.cells.size=ii.size) (hpos:0<ii.size) (hbp:0<ii.bytes)
    {x y:Operand} (ho:o.op=.call { callee:=.builtin .append,args:=#[x,y],argTypes:=#[t,t] })
    {r:Option Nat} {Cx Cy:Nat->Prop} {xs ys:aq} {hp2:Nat->aK} (hx:FB E w A r Cx el (a.eval x) xs) (hy:Dy E w A Cy el (a.eval y) ys)
    (hr:∀q,r=some q->A.al q/\Cx q/\s.hp q≠.dead) (hrow:∀q e' xs',r=some q->s.hp q=.row e' xs'->e'=el/\A.v q=a.eval x/\xs'=xs) (ht:fC s.hp hp2 (fun q=>Cx q∨Cy q)) (hxy:∀q,Cx q->Cy q->False)
    (hb:((xs.length:Int)+ys.length)*ii.bytes<=140737488355328) :
    rM P E w0 M A o a w (.own s.nx) (s.iX (upd hp2 s.nx (.row el (xs++ys))) r s.nx (s.nx+1)):=by
  have hh:=sm.hp
  obtain ⟨base,n,c,hxe,hxl,hnc,hcm,htg⟩:=hx
  obtain ⟨base',m,c',hye,hyl,hsr⟩:=hy
  have hnal:¬A.al s.nx:=sm.nx _ (Nat.le_refl _)
  have hnx:s.hp s.nx=.dead:=hh.al _ hnal
  have hnC:¬(Cx s.nx∨Cy s.nx):=fun h=>ht.was _ h hnx
  have fin:∀(v:Value) (w':World) (S:Nat->Prop),(execOp a.eval o).run P w=.ok (.value v) w'->(∃a n c,v=.slice a n c)->
      w'.os=w.os->w'.tape=w.tape->w'.output=w.output->w.heap.size<=w'.heap.size->(∀b,b<w.heap.size->(∀q,r=some q->¬A.N q b)->w'.heap[b]?=w.heap[b]?)->
      (∀b,S b->w.heap.size<=b/\b<w'.heap.size)->
      (∀q,r=some q->(∃b,A.N q b/\w'.heap[b]?≠w.heap[b]?)->Rd E.cells w' (fun b=>∃p,(Cx p∨Cy p)/\A.N p b) (.sl el) (a.eval x) (.sl xs))->
      fQ E.cells w' (fun b=>S b∨∃p,(Cx p∨Cy p)/\A.N p b) (.sl el) v (.sl (xs++ys))->
      rM P E w0 M A o a w (.own s.nx) (s.iX (upd hp2 s.nx (.row el (xs++ys))) r s.nx (s.nx+1)):=by
    intro v w' S hrun hv h1 h2 h3 h4 h5 h6 h7 h8 Kn Q hK
    unfold Oper.wp
    rw [hrun]
    have hN:∀b,(A.dh s.nx v (fun q=>Cx q∨Cy q) S).N s.nx b↔(S b∨∃p,(Cx p∨Cy p)/\A.N p b):=fun b=>by simp [cD.dh]
    refine hK v w' (A.dh s.nx v (fun q=>Cx q∨Cy q) S) (fL.dh sm (fun q=>?_) (fun q hq=>(hr q hq).1) (.inr rfl) (fun h=>(hnal h).elim) (Nat.lt_succ_self _) (Nat.le_succ _) (fun q hq hc=>?_) (fun q hq hc=>?_) h1 h2 h3 h4 h5 h6 (fun q e' xs' hq hrw hd=>?_) (fun mv=>?_)) ?_ rfl
    · constructor
      · intro hc
        by_cases hq:q=s.nx
        · subst hq;exact (hnC hc).elim
        · exact .inr ⟨ht.was q hc,by rw [aI _ _ hq];exact ht.now q hc⟩
      · rintro (hq | hq)
        · exact .inl (hr q hq).2.1
        · refine Classical.byContradiction fun hc=>?_
          by_cases hqn:q=s.nx
          · subst hqn;exact hq.1 hnx
          · have:=hq.2;rw [aI _ _ hqn,ht.rest q hc] at this;exact hq.1 this
    · rw [aI _ _ hq];exact ht.now q hc
    · rw [aI _ _ hq];exact ht.rest q hc
    · obtain ⟨rfl,hv',rfl⟩:=hrow q e' xs' hq hrw
      have hroot:=hh.rt q
      rw [hrw] at hroot
      by_cases hch:∃b,A.N q b/\w'.heap[b]?≠w.heap[b]?
      · rw [hv']
        exact (h7 q hq hch).mono fun b hb=>.inl ((hN b).2 (.inr hb))
      · refine (hroot.2.rd.frame (w':=w') fun b hb=>?_).mono fun b hb=>.inl ((hN b).2 (.inr ⟨q,.inl (hr q hq).2.1,hb⟩))
        exact Classical.byContradiction fun hne=>hch ⟨b,hb,hne⟩
    · rw [aQ]
      refine ⟨.inr rfl,?_⟩
      have :(A.dh s.nx v (fun q=>Cx q∨Cy q) S).v s.nx=v:=by simp [cD.dh,aQ]
      rw [this]
      exact h8.mono fun b hb=>(hN b).2 hb
    · exact V0.v2 (v:=.own s.nx) ⟨.inr rfl,by simp [cD.dh,aQ],hv⟩
  have hcall:∀{v:Value} {w':World},(Builtin.append_ #[t,t] o.type #[a.eval x,a.eval y]).run P w=.ok v w'->(execOp a.eval o).run P w=.ok (.value v) w':=by
    intro v w' h
    simp [execOp,ho,resolve,invoke,builtin,h]
  have hszp:0<(E.cells el).length:=by omega
  have hsrc:∃(news:List Value) (v2:Nat->Nat->Value) (S2:Nat->Nat->Nat->Prop),Src P ii.size t (a.eval y) m news w/\(m=0->news=[])/\news=(List.range (m*(E.cells el).length)).map (fun p=>v2 (p / (E.cells el).length) (p % (E.cells el).length))/\
      (∀i j p,S2 i j p->∃q,Cy q/\A.N q p)/\(∀i j i' j' p,S2 i j p->S2 i' j' p->i=i'/\j=j')/\
      (∀i j kk,i<m->(E.cells el)[j]?=some kk->fQ E.cells w (S2 i j) kk (v2 i j) ((ys.getD i []).getD j .hole)):=by
    rcases hsr with rfl | ⟨b,q,vv,Sf,k1,k2,k3,k4,k5⟩
    · refine ⟨[],fun _ _=>Go.undef,fun _ _ _=>False,?_,fun _=>rfl,by simp,fun _ _ _ h=>h.elim,fun _ _ _ _ _ h=>h.elim,fun i j kk hi=>by omega⟩
      rw [hye]
      cases base' with
      | none=>exact Src.ofNil w hu c'
      | some b=>exact Src.ofSlice w hu b 0 c' [] (by simp) (fun j u hj=>by simp at hj) (fun u hu=>by cases hu)
    · have hget:∀p u,((List.range (m*(E.cells el).length)).map (fun p=>vv (p / (E.cells el).length) (p % (E.cells el).length)))[p]?=some u->w.cell? ⟨b,q+p,none⟩=some u/\u.oneCell'=true:=by
        intro p u hp
        obtain ⟨g1,g2,g3,g4⟩:=xF hszp hp
        have hkk:(E.cells el)[p % (E.cells el).length]?=some (E.cells el)[p % (E.cells el).length]:=List.getElem?_eq_getElem g2
        refine ⟨?_,?_⟩
        · have:=k4 _ _ _ g1 hkk
          rw [g3];rw [<-g4] at this;exact this
        · rw [g3];exact (k5 _ _ _ g1 hkk).one
      refine ⟨_,vv,Sf,?_,fun h=>by subst h;simp,rfl,k2,k3,k5⟩
      rw [hye,k1]
      exact Src.ofSlice w hu ⟨b,q,none⟩ m c' _ (by simp [hsz]) (fun j u hj=>by rw [Addr.add_lit];exact (hget j u hj).1) (fun u hu=>by
        obtain ⟨p,hp⟩:=List.getElem?_of_mem hu
        exact (hget p u hp).2)
  obtain ⟨news,v2,S2,hS,hm0,hnews,hS2,hS2d,hO2⟩:=hsrc
  have hnl:news.length=m*(E.cells el).length:=by rw [hS.newsLen,hsz]
  have hn2:∀i j kk,i<m->(E.cells el)[j]?=some kk->news[i*(E.cells el).length+j]?=some (v2 i j):=by
    intro i j kk hi hj
    rw [hnews];exact wo hi (List.getElem?_eq_some_iff.1 hj).1
  have hbn:(n+m)*ii.bytes<=140737488355328:=by
    have h2:(((n+m)*ii.bytes:Nat):Int)<=140737488355328:=by rw [Int.natCast_mul,Int.natCast_add,<-hxl,<-hyl];exact hb
    exact Int.ofNat_le.mp h2
  have hnm:n+m<=140737488355328:=Nat.le_trans (Nat.le_mul_of_pos_right _ hbp) hbn
  have made:∀(w':World) (S:Nat->Prop) (g te cap:Nat) (cur:Array Value) (v1:Nat->Nat->Value) (S1:Nat->Nat->Nat->Prop),w'.heap[g]?=some (.cells cur te (0,0))->n+m<=cap->cap<=maxLen->cur.size=cap*(E.cells el).length->
      (S g∨∃q,r=some q/\A.N q g)->(∀b,S b->∀q,¬A.N q b)->
      (∀i j b,S1 i j b->(∃q,Cx q/\A.N q b)/\b≠g)->(∀i j i' j' b,S1 i j b->S1 i' j' b->i=i'/\j=j')->
      (∀b,b≠g->(∃q,A.N q b)->w'.heap[b]?=w.heap[b]?)->
      (∀i j kk,i<n->(E.cells el)[j]?=some kk->cur[i*(E.cells el).length+j]?=some (v1 i j))->
      (∀i j kk,i<m->(E.cells el)[j]?=some kk->cur[(n+i)*(E.cells el).length+j]?=some (v2 i j))->
      (∀i j kk,i<n->(E.cells el)[j]?=some kk->fQ E.cells w (S1 i j) kk (v1 i j) ((xs.getD i []).getD j .hole))->
      fQ E.cells w' (fun b=>S b∨∃p,(Cx p∨Cy p)/\A.N p b) (.sl el) (.slice (some ⟨g,0,none⟩) (n+m) cap) (.sl (xs++ys)):=by
    intro w' S g te cap cur v1 S1 h1 h2 h3 h4 h5 h6 h7 h8 h9 h10 h11 h12
    have hg2:∀i j b,S2 i j b->b≠g:=by
      intro i j b hb e
      subst e
      obtain ⟨q,hq,hqn⟩:=hS2 i j b hb
      rcases h5 with h5 | ⟨p,hp,hpn⟩
      · exact h6 b h5 q hqn
      · rw [hh.dj p q b hpn hqn] at hp
        exact hxy q (hr q hp).2.1 hq
    refine .sl _ el (n+m) cap g te cur _ (both n v1 v2) (both n S1 S2) (by simp [L.dz,hxl,hyl]) h2 h3 h1 h4 ?_ (fun i j b hb=>?_) (fun i j i' j' b hb hb'=>?_) (fun i j kk hi hj=>?_) (fun i j kk hi hj=>?_)
    · rcases h5 with h5 | ⟨q,hq,hn⟩
      · exact .inl h5
      · exact .inr ⟨q,.inl (hr q hq).2.1,hn⟩
    · unfold both at hb
      by_cases hc:i<n
      · rw [if_pos hc] at hb
        obtain ⟨⟨q,hq,hn⟩,hne⟩:=h7 i j b hb
        exact ⟨.inr ⟨q,.inl hq,hn⟩,hne⟩
      · rw [if_neg hc] at hb
        obtain ⟨q,hq,hn⟩:=hS2 _ _ b hb
        exact ⟨.inr ⟨q,.inr hq,hn⟩,hg2 _ _ b hb⟩
    · unfold both at hb hb'
      by_cases hc:i<n<;>by_cases hc':i'<n
      · rw [if_pos hc] at hb;rw [if_pos hc'] at hb';exact h8 _ _ _ _ b hb hb'
      · rw [if_pos hc] at hb;rw [if_neg hc'] at hb'
        obtain ⟨⟨q,hq,hn⟩,_⟩:=h7 i j b hb
        obtain ⟨q',hq',hn'⟩:=hS2 _ _ b hb'
        rw [hh.dj q q' b hn hn'] at hq
        exact (hxy q' hq hq').elim
      · rw [if_neg hc] at hb;rw [if_pos hc'] at hb'
        obtain ⟨⟨q,hq,hn⟩,_⟩:=h7 i' j' b hb'
        obtain ⟨q',hq',hn'⟩:=hS2 _ _ b hb
        rw [hh.dj q q' b hn hn'] at hq
        exact (hxy q' hq hq').elim
      · rw [if_neg hc] at hb;rw [if_neg hc'] at hb'
        have:=hS2d _ _ _ _ b hb hb'
        omega
    · unfold both
      by_cases hc:i<n
      · rw [if_pos hc];exact h10 i j kk hc hj
      · rw [if_neg hc]
        have:=h11 (i - n) j kk (by omega) hj
        rwa [show n+(i - n)=i by omega] at this
    · show fQ E.cells w' (both n S1 S2 i j) kk (both n v1 v2 i j) (((xs++ys).getD i []).getD j .hole)
      rw [Ax hxl]
      unfold both
      by_cases hc:i<n
      · simp only [if_pos hc]
        refine (h12 i j kk hc hj).frame fun b hb=>?_
        obtain ⟨⟨q,_,hn⟩,hne⟩:=h7 i j b hb
        exact h9 b hne ⟨q,hn⟩
      · simp only [if_neg hc]
        refine (hO2 (i - n) j kk (by omega) hj).frame fun b hb=>?_
        obtain ⟨q,_,hn⟩:=hS2 _ _ b hb
        exact h9 b (hg2 _ _ b hb) ⟨q,hn⟩
  by_cases hm:m=0
  ·
    have hyn:ys=[]:=List.eq_nil_of_length_eq_zero (by rw [hyl,hm])
    have hnn:=hm0 hm
    have hrun:(execOp a.eval o).run P w=.ok (.value (a.eval x)) w:=by
      refine hcall ?_
      rw [hxe]
      subst hm
      rw [hnn] at hS
      exact run_append_nothing w t t o.type el ii hu hi base n c hnc (a.eval y) hS
    refine fin (a.eval x) w (fun _=>False) hrun ⟨_,_,_,hxe⟩ rfl rfl rfl (Nat.le_refl _) (fun _ _ _=>rfl) (fun _ h=>h.elim) (fun q _ ⟨b,_,hne⟩=>(hne rfl).elim) ?_
    rcases htg with hc0 | ⟨g,te,cur,vv,Sf,k1,k2,k3,k4,k5,k6,k7,k8⟩
    · have hn0:n=0:=by omega
      have hxn:xs=[]:=List.eq_nil_of_length_eq_zero (by rw [hxl,hn0])
      rw [hxe,hn0,hc0,hxn,hyn]
      exact .nil _ el base _ rfl
    · have:=made w (fun _=>False) g te c cur vv Sf k2 (by omega) hcm k3 (.inr k4) (fun _ h=>h.elim) k5 k6 (fun _ _ _=>rfl) k7 (fun i j kk hi=>by omega) k8
      rw [hxe,k1]
      rw [hm,Nat.add_zero] at this
      exact this
  · by_cases hroom:n+m<=c
    ·
      rcases htg with hc0 | ⟨g,te,cur,vv,Sf,k1,k2,k3,k4,k5,k6,k7,k8⟩
      · omega
      · have hfit:n*(E.cells el).length+news.length<=cur.size:=by
          rw [k3,hnl,<-Nat.add_mul];exact Nat.mul_le_mul_right _ hroom
        have hst:=run_storeCells_at P g (n*(E.cells el).length) te news 0 cur w k2 (by simpa using hfit) hS.one
        simp only [Nat.add_zero] at hst
        have hrun:(execOp a.eval o).run P w=.ok (.value (.slice (some ⟨g,0,none⟩) (n+m) c)) (w.setRow g (splice cur.toList (n*(E.cells el).length) news).toArray):=by
          refine hcall ?_
          rw [hxe,k1]
          have hlen:=hS.len
          have hcel:=hS.cells
          simp [Builtin.append_,run_underlying hu,sizeOf,typeInfo,hi,hlen,hroom,hcel,Addr.add_lit,hsz] at hst ⊢
          rw [hsz] at hcel
          simp [hcel,hst,splice]
        obtain ⟨q,hq,hqn⟩:=k4
        have hother:∀b,b≠g->(w.setRow g (splice cur.toList (n*(E.cells el).length) news).toArray).heap[b]?=w.heap[b]?:=fun b hb=>setRow_other _ _ _ _ hb
        have hget:∀p,(splice cur.toList (n*(E.cells el).length) news)[p]?=if n*(E.cells el).length<=p/\p<n*(E.cells el).length+news.length then news[p - n*(E.cells el).length]? else cur[p]?:=by
          intro p
          rw [oD (by rw [Array.length_toList];exact hfit)]
          split
          · rfl
          · simp
        have hfirst:∀i j kk,i<n->(E.cells el)[j]?=some kk->(splice cur.toList (n*(E.cells el).length) news)[i*(E.cells el).length+j]?=some (vv i j):=by
          intro i j kk hi hj
          have hjl:=(List.getElem?_eq_some_iff.1 hj).1
          have :i*(E.cells el).length+j<n*(E.cells el).length:=by
            calc i*(E.cells el).length+j<i*(E.cells el).length+(E.cells el).length:=by omega
              _=(i+1)*(E.cells el).length:=by rw [Nat.succ_mul]
              _<=n*(E.cells el).length:=Nat.mul_le_mul_right _ hi
          rw [hget,if_neg (by omega)];exact k7 i j kk hi hj
        refine fin _ _ (fun _=>False) hrun ⟨_,_,_,rfl⟩ rfl rfl rfl (by simp) (fun b _ hn=>hother b fun e=>hn q hq (e ▸ hqn)) (fun _ h=>h.elim) (fun p hp _=>?_) ?_
        ·
          rw [hxe,k1]
          rcases Nat.eq_zero_or_pos n with hn0 | hn0
          · rw [hn0]
            exact .nil _ _ _ _ (by simp only [L.dz];exact List.eq_nil_of_length_eq_zero (by rw [hxl,hn0]))
          · refine .sl el n c g 0 (.sl xs) vv hxl hnc (Nat.le_trans hnc hcm) ⟨q,.inl (hr q hq).2.1,hqn⟩ (fun i j kk hi hj=>?_) (fun i j kk hi hj=>?_)
            · rw [gi (setRow_heap _ _ _ _ _ _ k2),Nat.zero_add]
              simpa using hfirst i j kk hi hj
            · refine ((k8 i j kk hi hj).rd.frame fun b hb=>hother b (k5 i j b hb).2).mono fun b hb=>?_
              obtain ⟨⟨p,hp,hn⟩,_⟩:=k5 i j b hb
              exact ⟨p,.inl hp,hn⟩
        · refine made _ (fun _=>False) g te c _ vv Sf (setRow_heap _ _ _ _ _ _ k2) hroom hcm ?_ (.inr ⟨q,hq,hqn⟩) (fun _ h=>h.elim) k5 k6 (fun b hb _=>hother b hb) (fun i j kk hi hj=>by simpa using hfirst i j kk hi hj) (fun i j kk hi hj=>?_) k8
          · rw [<-k3,List.size_toArray,lp (by rw [Array.length_toList];exact hfit),Array.length_toList]
          · have hjl:=(List.getElem?_eq_some_iff.1 hj).1
            have h1:=hn2 i j kk hi hj
            have h2:i*(E.cells el).length+j<news.length:=(List.getElem?_eq_some_iff.1 h1).1
            have h3:(n+i)*(E.cells el).length+j=n*(E.cells el).length+(i*(E.cells el).length+j):=by rw [Nat.add_mul];omega
            rw [List.getElem?_toArray,hget,h3,if_pos (by omega),Nat.add_sub_cancel_left]
            exact h1
    ·
      have htg':∃(olds:List Value) (v1:Nat->Nat->Value) (S1:Nat->Nat->Nat->Prop),olds.length=n*(E.cells el).length/\(Builtin.firstCells ii.size n (.slice base n c)).run P w.drew=.ok olds.toArray w.drew/\
          (∀i j kk,i<n->(E.cells el)[j]?=some kk->olds[i*(E.cells el).length+j]?=some (v1 i j))/\
          (∀i j b,S1 i j b->(∃q,Cx q/\A.N q b))/\(∀i j i' j' b,S1 i j b->S1 i' j' b->i=i'/\j=j')/\
          (∀i j k,i<n->(E.cells el)[j]?=some k->fQ E.cells w (S1 i j) k (v1 i j) ((xs.getD i []).getD j .hole)):=by
        rcases htg with hc0 | ⟨g,te,cur,vv,Sf,k1,k2,k3,k4,k5,k6,k7,k8⟩
        · have hn0:n=0:=by omega
          refine ⟨[],fun _ _=>Go.undef,fun _ _ _=>False,by simp [hn0],?_,fun i j kk hi=>by omega,fun _ _ _ h=>h.elim,fun _ _ _ _ _ h=>h.elim,fun i j kk hi=>by omega⟩
          cases base with
          | none=>exact run_firstCells_none _ _ _ _ _
          | some b=>exact run_firstCells_some _ _ _ _ _ _ [] (by simp [hn0]) (fun j v hj=>by simp at hj)
        · refine ⟨(List.range (n*(E.cells el).length)).map fun p=>vv (p / (E.cells el).length) (p % (E.cells el).length),vv,Sf,by simp,?_,fun i j kk hi hj=>wo hi (List.getElem?_eq_some_iff.1 hj).1,fun i j b hb=>(k5 i j b hb).1,k6,k8⟩
          rw [k1]
          refine run_firstCells_some _ _ _ _ _ _ _ (by simp [hsz]) (fun p u hp=>?_)
          obtain ⟨g1,g2,g3,g4⟩:=xF hszp hp
          have hkk:(E.cells el)[p % (E.cells el).length]?=some (E.cells el)[p % (E.cells el).length]:=List.getElem?_eq_getElem g2
          have:=k7 _ _ _ g1 hkk
          rw [<-g4] at this
          rw [Addr.add_lit,Nat.zero_add,g3]
          rw [gi (w:=w.drew) k2];exact this
      obtain ⟨olds,v1,S1,xW,hof,ho1,hS1,hS1d,hO1⟩:=htg'
      have hrun:(execOp a.eval o).run P w=.ok (.value (.slice (some ⟨w.heap.size,0,none⟩) (n+m) (grownCap w (n+m) c el)))
          (w.drew.alloc (.cells ((olds++news).toArray++Builtin.zeroCells z.cells (grownCap w (n+m) c el - (n+m))) el)):=by
        refine hcall ?_
        rw [hxe]
        exact run_append_grow_src w t t o.type el ii z hu hi hz base n c olds hof (a.eval y) m news hS (by omega) (by omega) (growslice_fits (by omega) hbn)
      have hge:=grownCap_ge w (n+m) c el
      have hle:grownCap w (n+m) c el<=maxLen:=grownCap_le_maxLen w (n+m) c el (by simp only [maxLen];omega)
      have hold:∀b,b<w.heap.size->(w.drew.alloc (.cells ((olds++news).toArray++Builtin.zeroCells z.cells (grownCap w (n+m) c el - (n+m))) el)).heap[b]?=w.heap[b]?:=fun b hb=>lJ w.drew _ b hb
      refine fin _ _ (fun b=>b=w.heap.size) hrun ⟨_,_,_,rfl⟩ rfl rfl rfl (by simp) (fun b hb _=>hold b hb) (fun b hb=>by subst hb;simp) (fun p hp ⟨b,hb,hne⟩=>(hne (hold b (hh.lt p b hb))).elim) ?_
      refine made _ (fun b=>b=w.heap.size) w.heap.size el _ _ v1 S1 (heap_alloc_new w.drew _) hge hle ?_ (.inl rfl) (fun b hb q hq=>by subst hb;exact Nat.lt_irrefl _ (hh.lt q _ hq)) (fun i j b hb=>⟨hS1 i j b hb,fun e=>by
          obtain ⟨q,_,hn⟩:=hS1 i j b hb
          subst e;exact Nat.lt_irrefl _ (hh.lt q _ hn)⟩) hS1d (fun b _ ⟨q,hq⟩=>hold b (hh.lt q b hq)) (fun i j kk hi hj=>?_) (fun i j kk hi hj=>?_) hO1
      · simp only [Array.size_append,List.size_toArray,List.length_append,size_zeroCells,hzc,xW,hnl,hsz,<-Nat.add_mul]
        congr 1
        omega
      · have h1:=ho1 i j kk hi hj
        have h2:i*(E.cells el).length+j<olds.length:=(List.getElem?_eq_some_iff.1 h1).1
        rw [<-Array.getElem?_toList]
        simp only [Array.toList_append,List.append_assoc]
        rw [List.getElem?_append_left h2];exact h1
      · have h1:=hn2 i j kk hi hj
        have h2:i*(E.cells el).length+j<news.length:=(List.getElem?_eq_some_iff.1 h1).1
        have h3:(n+i)*(E.cells el).length+j=olds.length+(i*(E.cells el).length+j):=by rw [xW,Nat.add_mul];omega
        rw [<-Array.getElem?_toList,h3]
        simp only [Array.toList_append,List.append_assoc]
        rw [List.getElem?_append_right (by omega),Nat.add_sub_cancel_left,List.getElem?_append_left h2];exact h1
end
end Go.DM
set_option linter.unusedSectionVars false
namespace Go.DM
section
variable {P:Program} {E:Env} {w0 w:World} {np:Nat} {M:Mem np} {A:cD} {s:St} {o:Oper} {a:Act} {k:V->St->aD} {ans:List L}
theorem Sub.one (hp:Nat->aK)(r:Nat):Sub (upd hp r .dead) hp:=fun p=>by
 by_cases hp:p=r
 ·subst hp;exact .inr (aQ _ _ _)
 ·exact .inl (aI _ _ hp)
theorem iO {q:Nat}:∀{rs:List Nat},kA rs q=true↔q∈rs
 | []=>by simp [kA]
 | r::rs=>by
  have :Nat.beq q r=true↔q=r:=⟨Nat.eq_of_beq_eq_true,fun h=>by subst h;exact Nat.beq_refl _⟩
  simp only [kA,Bool.or_eq_true,List.mem_cons,iO (rs:=rs),this]
section
variable {T:Nat->List K} {w':World} {A':cD} {hp:Nat->aK}
theorem wH (rs:List Nat)(q e:Nat)(xs:aq):iU rs (.sl (some q) e xs)=bif kA rs q then .dead else .sl (some q) e xs:=rfl
theorem tE (rs:List Nat)(q:Nat)(a:List K)(b:List L)(c:Nat):iU rs (.cS (some q) a b c)=bif kA rs q then .dead else .cS (some q) a b c:=rfl
theorem uP (rs:List Nat)(q a b c d:Nat):iU rs (.gm q a b c d)=bif kA rs q then .dead else .gm q a b c d:=rfl
theorem V0.kill {rs:List Nat}(st:Step A A' w w' (fun r=>r∈rs))(hh:Hp T w0 M A hp w){v:V}{x:Value}(hv:V0 T w A v x):V0 T w' A' (iU rs v) x:=by
 cases v with
 | sl d e xs=>
  cases d with
  | none=>exact V0.step (v:=.sl none e xs) st hh hv trivial
  | some q=>
   rw [wH]
   cases hq:kA rs q with
   | true=>exact trivial
   | false=>exact V0.step (v:=.sl (some q) e xs) st hh hv (fun h=>by rw [iO.2 h] at hq;cases hq)
 | cS d es cs o=>
  cases d with
  | none=>exact V0.step (v:=.cS none es cs o) st hh hv trivial
  | some q=>
   rw [tE]
   cases hq:kA rs q with
   | true=>exact trivial
   | false=>exact V0.step (v:=.cS (some q) es cs o) st hh hv (fun h=>by rw [iO.2 h] at hq;cases hq)
 | gm q a b c d=>
  rw [uP]
  cases hq:kA rs q with
  | true=>exact trivial
  | false=>exact V0.step (v:=.gm q a b c d) st hh hv (fun h=>by rw [iO.2 h] at hq;cases hq)
 | own q=>exact V0.step (v:=.own q) st hh hv trivial
 | lit q n e=>exact V0.step (v:=.lit q n e) st hh hv trivial
 | bP q o=>exact V0.step (v:=.bP q o) st hh hv trivial
 | fM q sz i o=>exact V0.step (v:=.fM q sz i o) st hh hv trivial
 | undef=>exact hv
 | dead=>exact hv
 | int=>exact hv
 | bool=>exact hv
 | str=>exact hv
 | nil=>exact hv
 | fn=>exact hv.elim
 | agg=>exact hv.elim
 | gW=>exact hv.elim
theorem lQ {rs:List Nat}(st:Step A A' w w' (fun r=>r∈rs))(hh:Hp T w0 M A hp w){cs:List V}{xs:List Value}(hf:F2 (Vc T w A) cs xs):F2 (Vc T w' A') (cs.map (iU rs)) xs:=by
 induction hf with
 | nil=>exact .nil
 | cons h _ ih=>exact .cons ⟨h.1.kill st hh,h.2⟩ ih
theorem V2.kill {rs:List Nat}(st:Step A A' w w' (fun r=>r∈rs))(hh:Hp T w0 M A hp w){v:V}{x:Value}(hv:V2 T w A v x):V2 T w' A' (eN rs v) x:=by
 cases v with
 | gW vs=>exact trivial
 | fn f cs=>
  obtain ⟨l,rfl,hl⟩:=(show V1 T w A (.fn f cs) x from hv)
  refine V1.v2 (v:=.fn f _) ⟨l,rfl,?_⟩
  clear hv
  induction hl with
  | nil=>exact .nil
  | cons hc _ ih=>exact .cons (V0.kill st hh hc) ih
 | agg cs=>obtain ⟨l,rfl,hl⟩:=hv;exact V1.v2 (v:=.agg _) ⟨l,rfl,lQ st hh hl⟩
 | undef=>exact V0.v2 (V0.kill (v:=.undef) st hh hv)
 | dead=>exact trivial
 | int k n=>exact V0.v2 (V0.kill (v:=.int k n) st hh hv)
 | bool b=>exact V0.v2 (V0.kill (v:=.bool b) st hh hv)
 | str s=>exact V0.v2 (V0.kill (v:=.str s) st hh hv)
 | nil=>exact V0.v2 (V0.kill (v:=.nil) st hh hv)
 | sl d e xs=>exact V0.v2 (V0.kill (v:=.sl d e xs) st hh hv)
 | own q=>exact V0.v2 (V0.kill (v:=.own q) st hh hv)
 | lit q n e=>exact V0.v2 (V0.kill (v:=.lit q n e) st hh hv)
 | bP q o=>exact V0.v2 (V0.kill (v:=.bP q o) st hh hv)
 | fM q sz i o=>exact V0.v2 (V0.kill (v:=.fM q sz i o) st hh hv)
 | gm q a b c d=>exact V0.v2 (V0.kill (v:=.gm q a b c d) st hh hv)
 | cS d es cs o=>exact V0.v2 (V0.kill (v:=.cS d es cs o) st hh hv)
end
theorem fL.split (sm:fL E w0 M A s a w){r sz er i q e:Nat}{xs:aq}(hr:s.hp r=.row er xs)(hsz:sz=(E.cells er).length)(hk:(E.cells er)[q]?=some (.sl e)){x:Value}(hv:V0 E.cells w A (.gm r sz i q e) x) :
  ∃A',fL E w0 M A' (s.split r er xs i q e ((xs.getD i []).getD q .hole).dz) a w/\V2 E.cells w A' (.own s.nx) x/\A'.Z=A.Z:=by
 have hh:=sm.hp
 obtain ⟨hal,g,n,c,e1,ei,hg,hc⟩:=hv
 have hroot:=hh.rt r
 rw [hr] at hroot
 have hown:=hroot.2
 rw [e1] at hown
 obtain ⟨te,cur,vv,Sf,k1,k2,k3,k4,k5,k6,k7,k8,k9,k10⟩:=hown.inv (by omega)
 have hx:x=vv i q:=by
  have:=k9 i q _ ei hk
  rw [gi k4,hsz,this] at hc
  injection hc with hc;exact hc.symm
 subst hx
 have ho:=k10 i q _ ei hk
 have hnal:¬A.al s.nx:=sm.nx _ (Nat.le_refl _)
 have hrn:r≠s.nx:=fun h=>hnal (h ▸ hal)
 have hF:∀b,Sf i q b->A.N r b:=fun b hb=>(k7 i q b hb).1
 have hFq:∀{p b},A.N p b->Sf i q b->p=r:=fun h1 h2=>hh.dj _ r _ h1 (hF _ h2)
 let A':cD:={ v:=upd A.v s.nx (vv i q),N:=fun p b=>(p=s.nx/\Sf i q b)∨(A.N p b/\¬Sf i q b),al:=fun p=>A.al p∨p=s.nx,Z:=A.Z }
 have hv':∀p,A.al p->A'.v p=A.v p:=fun p hp=>aI _ _ (by rintro rfl;exact hnal hp)
 have st:Step A A' w w (fun p=>p∈[r]):=by
  refine ⟨rfl,fun _ h=>.inl h,hv',Nat.le_refl _,fun _ _ _=>rfl,fun p h1 h2 b=>⟨fun h=>?_,fun h=>.inr ⟨h,fun h'=>h2 (by rw [hFq h h'];exact .head _)⟩⟩,fun p b h1 h2=>?_⟩
  ·rcases h with ⟨rfl,_⟩ | h
   ·exact (hnal h1).elim
   ·exact h.1
  ·rcases h2 with ⟨_,h2⟩ | h2
   ·exact .inl ⟨r,.head _,hF b h2⟩
   ·rcases h1 with h1 | h1
    ·exact .inl ⟨p,h1,h2.1⟩
    ·exact (h1 (hh.xd h2.1)).elim
 obtain ⟨a0,n0,c0,h0,_⟩:=ho.Aa
 refine ⟨A',⟨⟨fun p b h=>?_,fun p p' b h h'=>?_,fun p h=>?_,fun p=>?_,hh.fr,fun p b h=>?_,hh.zf,fun j hj=>⟨.inl (hh.pn j hj).1,(hv' j (hh.pn j hj).1).trans (hh.pn j hj).2⟩⟩,fun j y hy=>(sm.tm j y hy).kill st hh,fun p h1 h2=>?_,sm.df,sm.sz,sm.fr.map' fun _ _ h=>h.kill st hh⟩,V0.v2 (v:=.own s.nx) ⟨.inr rfl,(aQ ..).symm,a0,n0,c0,h0⟩,rfl⟩
 ·rcases h with ⟨_,h⟩ | h
  ·exact hh.lt r b (hF b h)
  ·exact hh.lt p b h.1
 ·rcases h with ⟨h1,h2⟩ | h<;>rcases h' with ⟨h3,h4⟩ | h'
  ·rw [h1,h3]
  ·exact (h'.2 h2).elim
  ·exact (h.2 h4).elim
  ·exact hh.dj p p' b h.1 h'.1
 ·have hp:p≠s.nx:=fun e=>h (.inr e)
  have hp2:p≠r:=fun e=>h (.inl (e ▸ hal))
  show jF [r] (upd (upd s.hp r _) s.nx _ p)=.dead
  rw [aI _ _ hp,aI _ _ hp2,hh.al p fun e=>h (.inl e)];rfl
 ·show dB E.cells w A' p (jF [r] (upd (upd s.hp r _) s.nx _ p))
  by_cases hp:p=s.nx
  ·subst hp
   rw [aQ]
   refine ⟨.inr rfl,?_⟩
   rw [show A'.v s.nx=vv i q from aQ ..]
   exact ho.uc.mono fun b hb=>.inl ⟨rfl,hb⟩
  ·rw [aI _ _ hp]
   by_cases hp2:p=r
   ·subst hp2
    rw [aQ]
    refine ⟨.inl hal,by rw [show xs.length=n from k1];exact ei,?_⟩
    rw [hv' p hal,e1]
    refine ⟨g,n,c,te,cur,vv,fun i' j' b=>Sf i' j' b/\¬(i'=i/\j'=q),rfl,k1,k2,k3,k4,k5,.inr ⟨k6,fun h=>(k7 i q g h).2 rfl⟩,fun i' j' b hb=>⟨.inr ⟨(k7 i' j' b hb.1).1,fun h=>hb.2 (k8 _ _ _ _ _ hb.1 h)⟩,(k7 i' j' b hb.1).2⟩,fun i1 j1 i2 j2 b hb hb'=>k8 _ _ _ _ _ hb.1 hb'.1,k9,fun i' j' kk hi hj hx=>(k10 i' j' kk hi hj).mono fun b hb=>⟨hb,hx⟩⟩
   ·rw [aI _ _ hp2]
    have hnr:¬p∈[r]:=by simpa using hp2
    have ho:=hh.rt p
    cases hq:s.hp p with
    | dead=>
     rw [hq] at ho
     intro b hb
     rcases hb with ⟨h,_⟩ | h
     ·exact hp h
     ·exact ho b h.1
    | box cs=>
     rw [hq] at ho
     obtain ⟨ha,g',te',cur',h1,h2,h3,h4⟩:=ho
     exact ⟨st.al p ha,g',te',cur',by rw [hv' p ha];exact h1,fun b=>(st.N p ha hnr b).trans (h2 b),h3,lQ st hh h4⟩
    | row e xs=>
     rw [hq] at ho
     refine ⟨st.al p ho.1,?_⟩
     rw [hv' p ho.1]
     exact ho.2.mono fun b hb=>(st.root hh hnr hb).1
    | qt e xs j cs=>
     rw [hq] at ho
     refine ⟨st.al p ho.1,ho.2.1,?_⟩
     rw [hv' p ho.1]
     exact ho.2.2.mono fun b hb=>(st.root hh hnr hb).1
    | xW e xs j cs=>
     rw [hq] at ho
     refine ⟨st.al p ho.1,ho.2.1,?_⟩
     rw [hv' p ho.1]
     exact ho.2.2.move (fun _ _=>rfl) fun b hb=>(st.root hh hnr hb).1
    | vw e xs=>
     rw [hq] at ho
     exact ho.vw st hh hnr
 ·rcases h with ⟨_,h⟩ | h
  ·exact hh.nm r b (hF b h)
  ·exact hh.nm p b h.1
 ·have h1':s.nx+1<=p:=h1
  rcases h2 with h2 | h2
  ·exact sm.nx p (by omega) h2
  ·omega
theorem B5 (hT:∀t i,E.T t=some i->fX P E t i)(sm:fL E w0 M A s a w){x y:Operand}{t:TypeId}{el:Nat}
  (ho:o.op=.call { callee:=.builtin .append,args:=#[x,y],argTypes:=#[t,t] }) (hel:(E.T t).bind TI.el=some el) {r:Nat} {xs:aq} (hx:V2 E.cells w A (.own r) (a.eval x)) (hrow:s.hp r=.row el xs)
  (h:Df E s r el xs y k=some ans):∃v s',k v s'=some ans/\rM P E w0 M A o a w v s':=by
 have hh:=sm.hp
 have hy:=sm.ev y
 have :P.underlying t=some (.slice el)/\∃ie,E.T el=some ie:=by
  cases ht:E.T t with
  | none=>rw [ht] at hel;cases hel
  | some i=>
   rw [ht] at hel
   obtain ⟨ii,d,z,h1,h2,h3,h4,h5,h6,hby,h7,h8,h9,h10,hpl,h11,h12,h13,h14,h15⟩:=hT t i ht
   obtain ⟨rfl,hie⟩:=h11 el hel
   exact ⟨h2,hie⟩
 obtain ⟨hu,ie,hie⟩:=this
 obtain ⟨ii,d',z,k1,k2,k3,k4,k5,k6,kby,k7,k8,k9,k10,kpl,k11,k12,tX,tU,k15⟩:=hT el ie hie
 have hcl:ii.size=(E.cells el).length:=by simp [Env.cells,hie,k4]
 have hbt:E.bytes el=ii.bytes:=by simp [Env.bytes,hie,k5]
 have hzc:z.cells.size=ii.size:=by rw [<-Array.length_toList,k7];simp [k4]
 have core:=@qS P E w0 w np M A s o a hT sm el t ii z ie hu hie k1 k3 hcl hzc (by omega) (by omega) x y ho
 unfold Df at h
 obtain ⟨hal,hxv,_⟩:=(show V0 E.cells w A (.own r) (a.eval x) from hx)
 obtain ⟨ys,hp',C,g1,g2,g3⟩:=kG h
 by_cases hb:((xs.length:Int)+ys.length)*E.bytes el<=140737488355328
 ·simp only [gC hb,aO] at g1
  have hroot:=hh.rt r
  rw [hrow] at hroot
  have hne:s.hp r≠.dead:=by rw [hrow];simp
  refine ⟨_,_,g1,core (r:=some r) (Cx:=fun q=>q=r) (Cy:=C) (xs:=xs) ?_ (g3 hh (Sub.one _ _) hy) (fun q hq=>by injection hq with hq;subst hq;exact ⟨hal,rfl,hne⟩) (fun q e' xs' hq hq'=>?_) ((fC.one hne).trans g2) (fun q hq hc=>?_) ?_⟩
  ·rw [hxv]
   obtain ⟨base,n,c,p1,p2,p3,p4,p5⟩:=hroot.2.parts
   refine ⟨base,n,c,p1,p2,p3,p4,p5.imp id fun ⟨g,te,cur,vv,Sf,q1,q2,q3,q4,q5,q6,q7,q8⟩=>⟨g,te,cur,vv,Sf,q1,q2,q3,⟨r,rfl,q4⟩,fun i j b hb=>⟨⟨r,rfl,(q5 i j b hb).1⟩,(q5 i j b hb).2⟩,q6,q7,q8⟩⟩
  ·injection hq with hq
   subst hq
   rw [hrow] at hq'
   injection hq' with e1 e2
   exact ⟨e1.symm,hxv.symm,e2.symm⟩
  ·subst hq;have:=g2.was _ hc;rw [aQ] at this;exact this rfl
  ·rw [hbt] at hb;exact hb
 ·simp [wM hb] at g1
theorem Bv (hT:∀t i,E.T t=some i->fX P E t i)(sm:fL E w0 M A s a w){x y:Operand}{t u:TypeId}
  (ho:o.op=.call { callee:=.builtin .append,args:=#[x,y],argTypes:=#[t,u] }) (h:jG E (.call { callee:=.builtin .append,args:=#[x,y],argTypes:=#[t,u] }) s k=some ans) :
  ∃v s',k v s'=some ans/\rM P E w0 M A o a w v s':=by
 have hh:=sm.hp
 have hx:=sm.ev x
 have hy:=sm.ev y
 simp only [jG] at h
 cases htu:Nat.beq t u<;>simp only [htu,aO,aR] at h
 ·cases h
 obtain rfl:=Nat.eq_of_beq_eq_true htu
 split at h
 case h_2=>cases h
 rename_i el hel
 have :P.underlying t=some (.slice el)/\∃ie,E.T el=some ie:=by
  cases ht:E.T t with
  | none=>rw [ht] at hel;cases hel
  | some i=>
   rw [ht] at hel
   obtain ⟨ii,d,z,h1,h2,h3,h4,h5,h6,hby,h7,h8,h9,h10,hpl,h11,h12,h13,h14,h15⟩:=hT t i ht
   obtain ⟨rfl,hie⟩:=h11 el hel
   exact ⟨h2,hie⟩
 obtain ⟨hu,ie,hie⟩:=this
 obtain ⟨ii,d',z,k1,k2,k3,k4,k5,k6,kby,k7,k8,k9,k10,kpl,k11,k12,tX,tU,k15⟩:=hT el ie hie
 have hcl:ii.size=(E.cells el).length:=by simp [Env.cells,hie,k4]
 have hbt:E.bytes el=ii.bytes:=by simp [Env.bytes,hie,k5]
 have hzc:z.cells.size=ii.size:=by rw [<-Array.length_toList,k7];simp [k4]
 have core:=@qS P E w0 w np M A s o a hT sm el t ii z ie hu hie k1 k3 hcl hzc (by omega) (by omega) x y ho
 split at h
 ·
  rename_i hxn
  rw [hxn] at hx
  obtain ⟨b,hxe⟩:=(show V0 E.cells w A .nil (a.eval x) from hx)
  obtain ⟨ys,hp',C,g1,g2,g3⟩:=kG h
  by_cases hb:(ys.length:Int)*E.bytes el<=140737488355328
  ·simp only [gC hb,aO] at g1
   refine ⟨_,_,g1,core (r:=none) (Cx:=fun _=>False) (Cy:=C) (xs:=[]) ⟨b,0,0,hxe,rfl,Nat.le_refl _,Nat.zero_le _,.inl rfl⟩ (g3 hh (fun _=>.inl rfl) hy) (fun q hq=>(nomatch hq)) (fun q _ _ hq=>(nomatch hq)) (g2.congr fun q=>by simp) (fun q hq=>hq.elim) ?_⟩
   rw [hbt] at hb;simpa using hb
  ·simp [wM hb] at g1
 ·
  rename_i r hxo
  rw [hxo] at hx
  split at h
  ·rename_i e xs hrow
   cases he:Nat.beq e el<;>simp only [he,aO,aR] at h
   ·cases h
   obtain rfl:=Nat.eq_of_beq_eq_true he
   obtain ⟨hal,hxv,_⟩:=(show V0 E.cells w A (.own r) (a.eval x) from hx)
   cases hself:(Br (cV E.nt s.sl y) r&&dS (E.cells e))<;>simp only [hself,aO,aR] at h
   case true=>
    rw [Bool.and_eq_true] at hself
    by_cases hb:((xs.length:Int)+xs.length)*E.bytes e<=140737488355328
    ·simp only [gC hb,aO] at h
     have hroot:=hh.rt r
     rw [hrow] at hroot
     have hne:s.hp r≠.dead:=by rw [hrow];simp
     have hyv:A.v r=a.eval y:=by
      have h1:=hself.1
      unfold Br at h1
      split at h1
      ·rename_i q hq
       have:=Nat.eq_of_beq_eq_true h1
       subst this
       rw [hq] at hy
       exact (show V0 E.cells w A (.own q) (a.eval y) from hy).2.1.symm
      ·cases h1
     refine ⟨_,_,h,core (r:=some r) (Cx:=fun q=>q=r) (Cy:=fun _=>False) (xs:=xs) (ys:=xs) ?_ (Rd.srcs (by rw [<-hyv];exact hroot.2.rd) hself.2) (fun q hq=>by injection hq with hq;subst hq;exact ⟨hal,rfl,hne⟩) (fun q e' xs' hq hq'=>?_) ((fC.one hne).trans (fC.refl _)) (fun q hq hc=>hc) ?_⟩
     ·rw [hxv]
      obtain ⟨base,n,c,p1,p2,p3,p4,p5⟩:=hroot.2.parts
      refine ⟨base,n,c,p1,p2,p3,p4,p5.imp id fun ⟨g,te,cur,vv,Sf,q1,q2,q3,q4,q5,q6,q7,q8⟩=>⟨g,te,cur,vv,Sf,q1,q2,q3,⟨r,rfl,q4⟩,fun i j b hb=>⟨⟨r,rfl,(q5 i j b hb).1⟩,(q5 i j b hb).2⟩,q6,q7,q8⟩⟩
     ·injection hq with hq
      subst hq
      rw [hrow] at hq'
      injection hq' with e1 e2
      exact ⟨e1.symm,hxv.symm,e2.symm⟩
     ·rw [hbt] at hb;exact hb
    ·simp [wM hb] at h
   obtain ⟨ys,hp',C,g1,g2,g3⟩:=kG h
   by_cases hb:((xs.length:Int)+ys.length)*E.bytes e<=140737488355328
   ·simp only [gC hb,aO] at g1
    have hroot:=hh.rt r
    rw [hrow] at hroot
    have hne:s.hp r≠.dead:=by rw [hrow];simp
    refine ⟨_,_,g1,core (r:=some r) (Cx:=fun q=>q=r) (Cy:=C) (xs:=xs) ?_ (g3 hh (Sub.one _ _) hy) (fun q hq=>by injection hq with hq;subst hq;exact ⟨hal,rfl,hne⟩) (fun q e' xs' hq hq'=>?_) ((fC.one hne).trans g2) (fun q hq hc=>?_) ?_⟩
    ·rw [hxv]
     obtain ⟨base,n,c,p1,p2,p3,p4,p5⟩:=hroot.2.parts
     refine ⟨base,n,c,p1,p2,p3,p4,p5.imp id fun ⟨g,te,cur,vv,Sf,q1,q2,q3,q4,q5,q6,q7,q8⟩=>⟨g,te,cur,vv,Sf,q1,q2,q3,⟨r,rfl,q4⟩,fun i j b hb=>⟨⟨r,rfl,(q5 i j b hb).1⟩,(q5 i j b hb).2⟩,q6,q7,q8⟩⟩
    ·injection hq with hq
     subst hq
     rw [hrow] at hq'
     injection hq' with e1 e2
     exact ⟨e1.symm,hxv.symm,e2.symm⟩
    ·subst hq;have:=g2.was _ hc;rw [aQ] at this;exact this rfl
    ·rw [hbt] at hb;exact hb
   ·simp [wM hb] at g1
  ·cases h
 ·
  rename_i r n e hxo
  rw [hxo] at hx
  split at h
  ·rename_i cs hbox
   cases he:Nat.beq e el<;>simp only [he,aO,aR] at h
   ·cases h
   obtain rfl:=Nat.eq_of_beq_eq_true he
   obtain ⟨hal,g,e1,e2⟩:=(show V0 E.cells w A (.lit r n e) (a.eval x) from hx)
   obtain ⟨xs,hp1,c,f1,f2,fl,f3,f4,f5⟩:=jP h
   obtain ⟨ys,hp',C,g1,g2,g3⟩:=kG f1
   by_cases hb:((xs.length:Int)+ys.length)*E.bytes e<=140737488355328
   ·simp only [gC hb,aO] at g1
    have hroot:=hh.rt r
    rw [hbox] at hroot
    obtain ⟨_,g',te,cur,m1,m2,m3,m4⟩:=hroot
    obtain rfl:g=g':=by rw [e1] at m1;injection m1 with m1;injection m1 with m1;injection m1
    have hne:s.hp r≠.dead:=by rw [hbox];simp
    have hall:=f5 hh (Sub.one _ _) m4
    have t1:=(fC.one hne).trans f3
    refine ⟨_,_,g1,core (r:=some r) (xs:=xs) ?_ (g3 hh (t1.sub fun _=>.inl rfl) hy) (fun q hq=>by injection hq with hq;subst hq;exact ⟨hal,.inl rfl,hne⟩) (fun q e' xs' hq hq'=>?_) (t1.trans g2) (fun q hq hc=>t1.yQ g2 hq hc) ?_⟩
    ·refine ⟨some ⟨g,0,none⟩,n,n,e2,f2,Nat.le_refl _,?_,?_⟩
     ·have h1:((xs.length:Int)+ys.length)*1<=((xs.length:Int)+ys.length)*E.bytes e:=Int.mul_le_mul_of_nonneg_left (by rw [hbt];omega) (by omega)
      have h2:((xs.length:Int)+ys.length)*1=(xs.length:Int)+ys.length:=Int.mul_one _
      simp only [maxLen];omega
     ·rcases Nat.eq_zero_or_pos n with hn | hn
      ·exact .inl hn
      ·refine .inr ⟨g,te,cur,fun i j=>cur.toList.getD (i*(E.cells e).length+j) Go.undef,fun i j p=>i<n/\j<(E.cells e).length/\rH A (c i j) p,rfl,m3,?_,⟨r,rfl,(m2 g).2 rfl⟩,fun i j b hb=>?_,fun i j i' j' b hb hb'=>?_,fun i j kk hi hj=>?_,fun i j kk hi hj=>?_⟩
       ·rw [<-fl,m4.length,Array.length_toList]
       ·obtain ⟨hi,hj,q,hq,hn⟩:=hb
        refine ⟨⟨q,.inr ⟨i,j,hi,hj,hq⟩,hn⟩,fun eb=>?_⟩
        have hw:=f3.was q ⟨i,j,hi,hj,hq⟩
        have :q=r:=hh.dj q r b hn ((m2 b).2 eb)
        rw [this,aQ] at hw;exact hw rfl
       ·obtain ⟨_,_,q,hq,hn⟩:=hb
        obtain ⟨_,_,q',hq',hn'⟩:=hb'
        rw [hh.dj q q' b hn hn'] at hq
        exact f4 _ _ _ _ _ hq hq'
       ·obtain ⟨y',y1,_,_⟩:=hall i j kk hi hj
        rw [<-Array.getElem?_toList,y1]
        simp only [List.getD_eq_getElem?_getD,y1];rfl
       ·obtain ⟨y',y1,_,y3⟩:=hall i j kk hi hj
        have hy':cur.toList.getD (i*(E.cells e).length+j) Go.undef=y':=by simp only [List.getD_eq_getElem?_getD,y1];rfl
        show fQ E.cells w _ kk (cur.toList.getD (i*(E.cells e).length+j) Go.undef) _
        rw [hy']
        exact y3.mono fun b hb=>⟨hi,(List.getElem?_eq_some_iff.1 hj).1,hb⟩
    ·injection hq with hq;subst hq;rw [hbox] at hq';cases hq'
    ·rw [hbt] at hb;exact hb
   ·simp [wM hb] at g1
  ·cases h
 ·
  rename_i r sz i q e hxi
  rw [hxi] at hx
  split at h
  ·rename_i er rs hrow
   cases he:(Nat.beq e el&&Nat.beq sz (E.cells er).length)<;>simp only [he,aO,aR] at h
   ·cases h
   simp only [Bool.and_eq_true] at he
   obtain rfl:=Nat.eq_of_beq_eq_true he.1
   split at h
   ·rename_i e2 he2
    cases hk:Nat.beq e e2<;>simp only [hk,aO,aR] at h
    ·cases h
    obtain rfl:=Nat.eq_of_beq_eq_true hk
    rw [jZ] at h
    obtain ⟨A',sm',hx',hZ⟩:=sm.split hrow (Nat.eq_of_beq_eq_true he.2) (nO he2) (show V0 E.cells w A (.gm r sz i q e) (a.eval x) from hx)
    obtain ⟨v,s',g1,g2⟩:=B5 hT sm' ho hel hx' (by show jF [r] (upd (upd s.hp r _) s.nx _ s.nx)=_;rw [aQ];rfl) h
    exact ⟨v,s',g1,fun Kn Q hK=>g2 Kn Q fun cv w' A2 h1 h2 h3=>hK cv w' A2 h1 h2 (h3.trans hZ)⟩
   ·cases h
  ·cases h
 ·cases h
end
end Go.DM
namespace Go.DM
structure QT where
 e:Nat
 l:L
 y:Value
 F:Nat->Prop
def nu (E:Env)(hp:Nat->aK)(t:eT)(l:L):aK:=
 match t with
 | .none=>.dead
 | .own r=>match hp r with
  | .row e _=>.row e l.dz
  | o=>o
 | .gm r i p=>match hp r with
  | .row e xs=>.qt e xs i (setAt (ke (E.cells e) (xs.getD i [])) p (.sl l.dz))
  | .qt e xs j cs=>.qt e xs j (setAt (ke (E.cells e) cs) p (.sl l.dz))
  | o=>o
def uY:aK->Bool
 | .row ..=>true
 | .qt ..=>true
 | _=>false
def xm (T:Nat->List K)(w:World)(S:Nat->Prop)(v:Value):aK->Prop
 | .row e xs=>fQ T w S (.sl e) v (.sl xs)
 | .qt e xs j cs=>j<xs.length/\fQ T w S (.sl e) v (.sl (xs.set j cs))
 | _=>False
def TG (E:Env)(w:World)(A:cD)(hp:Nat->aK)(t:eT)(q:QT):Prop:=
 (∃a n c,q.y=.slice a n c)/\fQ E.cells w q.F (.sl q.e) q.y q.l/\
 match t with
 | .none=>∀b,¬q.F b
 | .own r=>A.al r/\q.y=A.v r/\(∀b,q.F b↔A.N r b)/\∃xs,hp r=.row q.e xs
 | .gm r i p=>A.al r/\(∀b,q.F b->A.N r b)/\uY (hp r)=true/\∀(w':World) (N:Nat->Prop) (l:L),(∀b,A.N r b->¬q.F b->w'.heap[b]?=w.heap[b]?)->(∀b,N b->A.N r b->q.F b)->
   fQ E.cells w' N (.sl q.e) q.y l->xm E.cells w' (fun b=>(A.N r b/\¬q.F b)∨N b) (A.v r) (nu E hp (.gm r i p) l)
def ou {y:L}:∀{xs:List L} {p j:Nat},p<xs.length->(setAt xs p y).getD j .hole=if j=p then y else xs.getD j .hole
 | [],p,j,h=>by simp at h
 | x::xs,0,j,_=>by cases j<;>simp [setAt]
 | x::xs,p+1,0,_=>by simp [setAt]
 | x::xs,p+1,j+1,h=>by
  have:=ou (y:=y) (xs:=xs) (p:=p) (j:=j) (by simpa using h)
  simpa [setAt] using this
section
variable {E:Env} {w0 w w':World} {np:Nat} {M:Mem np} {A:cD} {hp:Nat->aK} {ans:List L}
theorem Dx {r sz i p er e:Nat}{xs:aq}{x:Value}(hown:fQ E.cells w (A.N r) (.sl er) (A.v r) (.sl xs))(hsz:sz=(E.cells er).length)(hp2:(E.cells er)[p]?=some (.sl e))
  (hv:V0 E.cells w A (.gm r sz i p e) x):∃F:Nat->Prop,(∃a n c,x=.slice a n c)/\fQ E.cells w F (.sl e) x (.sl ((xs.getD i []).getD p .hole).dz)/\A.al r/\(∀b,F b->A.N r b)/\i<xs.length/\
   ∀(w':World) (N:Nat->Prop) (l:L),(∀b,A.N r b->¬F b->w'.heap[b]?=w.heap[b]?)->(∀b,N b->A.N r b->F b)->
   fQ E.cells w' N (.sl e) x l->fQ E.cells w' (fun b=>(A.N r b/\¬F b)∨N b) (.sl er) (A.v r) (.sl (xs.set i (setAt (ke (E.cells er) (xs.getD i [])) p (.sl l.dz)))):=by
 obtain ⟨hal,g,n,c,e1,ei,hg,hc⟩:=hv
 rw [e1] at hown
 obtain ⟨te,cur,vv,Sf,k1,k2,k3,k4,k5,k6,k7,k8,k9,k10⟩:=hown.inv (by omega)
 have hx:x=vv i p:=by
  have:=k9 i p _ ei hp2
  rw [gi k4,hsz,this] at hc
  injection hc with hc;exact hc.symm
 subst hx
 have ho:=k10 i p _ ei hp2
 refine ⟨Sf i p,?_,?_,hal,fun b hb=>(k7 i p b hb).1,by rw [show xs.length=n from k1];exact ei,fun w' N l hfr hN hl=>?_⟩
 ·obtain ⟨a,n,c,h1,_⟩:=ho.Aa
  exact ⟨a,n,c,h1⟩
 ·exact ho.uc
 ·have hgF:¬Sf i p g:=fun h=>(k7 i p g h).2 rfl
  have hpl:p<(E.cells er).length:=(List.getElem?_eq_some_iff.1 hp2).1
  have hix:i<xs.length:=by rw [show xs.length=n from k1];exact ei
  rw [e1]
  refine .sl _ er n c g te cur _ vv (fun i' j' b=>if i'=i/\j'=p then N b else Sf i' j' b) (by simp only [L.dz,List.length_set];exact k1) k2 k3 ((hfr g k6 hgF).trans k4) k5 (.inl ⟨k6,hgF⟩) (fun i' j' b hb=>?_) (fun i1 j1 i2 j2 b hb hb'=>?_) k9 (fun i' j' kk hi hj=>?_)
  ·by_cases hc:i'=i/\j'=p
   ·rw [if_pos hc] at hb
    refine ⟨.inr hb,fun e=>hgF ?_⟩
    subst e;exact hN _ hb k6
   ·rw [if_neg hc] at hb
    refine ⟨.inl ⟨(k7 _ _ _ hb).1,fun h=>hc (k8 _ _ _ _ _ hb h)⟩,(k7 _ _ _ hb).2⟩
  ·by_cases hc:i1=i/\j1=p<;>by_cases hc':i2=i/\j2=p
   ·rw [hc.1,hc.2,hc'.1,hc'.2];exact ⟨rfl,rfl⟩
   ·rw [if_pos hc] at hb;rw [if_neg hc'] at hb'
    exact (hc' (k8 _ _ _ _ _ hb' (hN _ hb (k7 _ _ _ hb').1))).elim
   ·rw [if_neg hc] at hb;rw [if_pos hc'] at hb'
    exact (hc (k8 _ _ _ _ _ hb (hN _ hb' (k7 _ _ _ hb).1))).elim
   ·rw [if_neg hc] at hb;rw [if_neg hc'] at hb'
    exact k8 _ _ _ _ _ hb hb'
  ·have hset:∀{zs:List L},(xs.set i zs).getD i' []=if i'=i then zs else xs.getD i' []:=by
    intro zs
    simp only [List.getD_eq_getElem?_getD,List.getElem?_set]
    by_cases hij:i=i'
    ·subst hij;simp [hix]
    ·simp [hij,Ne.symm hij]
   simp only [L.dz]
   rw [hset]
   by_cases hc:i'=i/\j'=p
   ·obtain ⟨rfl,rfl⟩:=hc
    simp only [and_self,if_true]
    rw [hp2] at hj;injection hj with hj;subst hj
    rw [ou (by rw [jr];exact hpl),if_pos rfl]
    exact hl.uc
   ·simp only [hc,if_false]
    have hold:=(k10 i' j' kk hi hj).frame (w':=w') fun b hb=>hfr b (k7 _ _ _ hb).1 fun h=>hc (k8 _ _ _ _ _ hb h)
    by_cases hii:i'=i
    ·subst hii
     rw [if_pos rfl,ou (by rw [jr];exact hpl),if_neg (fun h=>hc ⟨rfl,h⟩),qB hj]
     exact hold.canon
    ·rw [if_neg hii];exact hold
theorem yj (hh:Hp E.cells w0 M A hp w){k:K}{v:V}{kk:L->List eT->aD}(h:rj E hp k v kk=some ans) :
  ∃l ts,kk l ts=some ans/\∀{x},V0 E.cells w A v x->∃qs:List QT,F2 (TG E w A hp) ts qs/\(∀ks ls,jL (k::ks) (l::ls)=qs.map (fun q=>aK.row q.e q.l.dz)++jL ks ls)/\(∀ks,mz (k::ks)=qs.map QT.e++mz ks)/\
   ∀(B:cD) (j:Nat),(∀i q,qs[i]?=some q->B.al (j+i)/\B.v (j+i)=q.y)->∃u,(∀ks ls,gf (k::ks) (l::ls) j=u::gf ks ls (j+qs.length))/\V0 E.cells w B u x:=by
 cases k with
 | int ik=>
  simp only [rj] at h
  split at h
  ·rename_i jk n
   cases hk:iW ik jk<;>simp only [hk,aO,aR] at h
   ·cases h
   obtain rfl:=gu hk
   exact ⟨_,_,h,fun {x} hv=>⟨[],.nil,fun _ _=>rfl,fun _=>rfl,fun B j _=>⟨.int ik n,fun _ _=>rfl,hv⟩⟩⟩
  ·cases h
 | bool=>
  simp only [rj] at h
  split at h
  ·rename_i b
   exact ⟨_,_,h,fun {x} hv=>⟨[],.nil,fun _ _=>rfl,fun _=>rfl,fun B j _=>⟨.bool b,fun _ _=>rfl,hv⟩⟩⟩
  ·cases h
 | str=>
  simp only [rj] at h
  split at h
  ·rename_i b
   exact ⟨_,_,h,fun {x} hv=>⟨[],.nil,fun _ _=>rfl,fun _=>rfl,fun B j _=>⟨.str b,fun _ _=>rfl,hv⟩⟩⟩
  ·cases h
 | sl e=>
  have fin:∀{t:eT} {q:QT} {x:Value},q.e=e->q.y=x->TG E w A hp t q->∃qs:List QT,F2 (TG E w A hp) [t] qs/\(∀ks ls,jL (.sl e::ks) (q.l::ls)=qs.map (fun q=>aK.row q.e q.l.dz)++jL ks ls)/\(∀ks,mz (.sl e::ks)=qs.map QT.e++mz ks)/\
    ∀(B:cD) (j:Nat),(∀i q,qs[i]?=some q->B.al (j+i)/\B.v (j+i)=q.y)->∃u,(∀ks ls,gf (.sl e::ks) (q.l::ls) j=u::gf ks ls (j+qs.length))/\V0 E.cells w B u x:=by
   intro t q x he hy ht
   refine ⟨[q],.cons ht .nil,fun ks ls=>by simp [jL,he],fun ks=>by simp [mz,he],fun B j hB=>⟨.own j,fun ks ls=>rfl,?_⟩⟩
   obtain ⟨h1,h2⟩:=hB 0 q rfl
   obtain ⟨a,n,c,h3⟩:=ht.1
   exact ⟨h1,by rw [<-hy,<-h2];rfl,a,n,c,by rw [<-hy];exact h3⟩
  simp only [rj] at h
  split at h
  ·refine ⟨_,_,h,fun {x} hv=>?_⟩
   obtain ⟨a,rfl⟩:=hv
   exact fin (q:=⟨e,.sl [],_,fun _=>False⟩) rfl rfl ⟨⟨a,0,0,rfl⟩,.nil _ e a _ rfl,fun _ h=>h⟩
  ·rename_i r
   split at h
   ·rename_i e' xs hr
    cases hk:Nat.beq e e'<;>simp only [hk,aO,aR] at h
    ·cases h
    obtain rfl:=Nat.eq_of_beq_eq_true hk
    refine ⟨_,_,h,fun {x} hv=>?_⟩
    obtain ⟨hal,h2,a,n,c,h3⟩:=hv
    have hroot:=hh.rt r
    rw [hr] at hroot
    exact fin (q:=⟨e,.sl xs,x,A.N r⟩) rfl rfl ⟨⟨a,n,c,h3⟩,by rw [h2];exact hroot.2,hal,h2,fun _=>Iff.rfl,xs,hr⟩
   ·cases h
  ·rename_i r sz i o e'
   have gm:∀{er:Nat} {xs:aq} {e2:Nat} {x:Value},uY (hp r)=true->fQ E.cells w (A.N r) (.sl er) (A.v r) (.sl xs)->e=e'->sz=(E.cells er).length->xh (E.cells er) o=some e->(∀l:L,nu E hp (.gm r i o) l=nu E hp (.gm r i o) l)->
     (∀(w':World) (S:Nat->Prop) (l:L),i<xs.length->fQ E.cells w' S (.sl er) (A.v r) (.sl (xs.set i (setAt (ke (E.cells er) (xs.getD i [])) o (.sl l.dz))))->xm E.cells w' S (A.v r) (nu E hp (.gm r i o) l))->
     V0 E.cells w A (.gm r sz i o e') x->∃F,TG E w A hp (.gm r i o) ⟨e,.sl ((xs.getD i []).getD o .hole).dz,x,F⟩:=by
    intro er xs e2 x hrow hown he hsz hsl _ hmk hv
    subst he
    obtain ⟨F,f1,f2,f3,f4,f5,f6⟩:=Dx hown hsz (nO hsl) hv
    exact ⟨F,f1,f2,f3,f4,hrow,fun w' N l a1 a2 a3=>hmk _ _ _ f5 (f6 w' N l a1 a2 a3)⟩
   split at h
   ·rename_i er xs hr
    have hroot:=hh.rt r
    rw [hr] at hroot
    cases hk:(Nat.beq e e'&&Nat.beq sz (E.cells er).length)<;>simp only [hk,aO,aR] at h
    ·cases h
    simp only [Bool.and_eq_true] at hk
    split at h
    ·rename_i e2 he2
     cases hk2:Nat.beq e e2<;>simp only [hk2,aO,aR] at h
     ·cases h
     obtain rfl:=Nat.eq_of_beq_eq_true hk2
     refine ⟨_,_,h,fun {x} hv=>?_⟩
     obtain ⟨F,hF⟩:=gm (e2:=0) (by rw [hr];rfl) hroot.2 (Nat.eq_of_beq_eq_true hk.1) (Nat.eq_of_beq_eq_true hk.2) he2 (fun _=>rfl) (fun w' S l h1 h2=>by simp only [nu,hr];exact ⟨h1,h2⟩) hv
     rw [jZ]
     exact fin rfl rfl hF
    ·cases h
   ·rename_i er xs j0 cs hr
    have hroot:=hh.rt r
    rw [hr] at hroot
    cases hk:(Nat.beq i j0&&(Nat.beq e e'&&Nat.beq sz (E.cells er).length))<;>simp only [hk,aO,aR] at h
    ·cases h
    simp only [Bool.and_eq_true] at hk
    obtain rfl:=Nat.eq_of_beq_eq_true hk.1
    split at h
    ·rename_i e2 he2
     cases hk2:Nat.beq e e2<;>simp only [hk2,aO,aR] at h
     ·cases h
     obtain rfl:=Nat.eq_of_beq_eq_true hk2
     refine ⟨_,_,h,fun {x} hv=>?_⟩
     obtain ⟨F,hF⟩:=gm (e2:=0) (by rw [hr];rfl) hroot.2.2 (Nat.eq_of_beq_eq_true hk.2.1) (Nat.eq_of_beq_eq_true hk.2.2) he2 (fun _=>rfl) (fun w' S l h1 h2=>by
      simp only [nu,hr]
      rw [ji hroot.2.1,List.set_set] at h2
      exact ⟨hroot.2.1,h2⟩) hv
     rw [ji hroot.2.1] at hF
     rw [jZ]
     exact fin rfl rfl hF
    ·cases h
   ·cases h
  ·cases h
theorem qm (hh:Hp E.cells w0 M A hp w):∀{ks:List K} {vs:List V} {kk:List L->List eT->aD},lV E hp ks vs kk=some ans->
  ∃ls ts,kk ls ts=some ans/\ls.length=ks.length/\∀{xs},F2 (V0 E.cells w A) vs xs->∃qs:List QT,F2 (TG E w A hp) ts qs/\(∀rest,jL ks (ls++rest)=qs.map (fun q=>aK.row q.e q.l.dz))/\mz ks=qs.map QT.e/\
   ∀(B:cD) (j:Nat),(∀i q,qs[i]?=some q->B.al (j+i)/\B.v (j+i)=q.y)->∀rest,F2 (V0 E.cells w B) (gf ks (ls++rest) j) xs
 | [],[],kk,h=>⟨[],[],h,rfl,fun {xs} hf=>⟨[],.nil,fun _=>rfl,rfl,fun B j _ _=>by cases hf;exact .nil⟩⟩
 | [],_::_,kk,h=>by cases h
 | _::_,[],kk,h=>by cases h
 | k::ks,v::vs,kk,h=>by
  simp only [lV] at h
  obtain ⟨l,t,h1,h2⟩:=yj hh h
  obtain ⟨ls,ts,g1,gl,g2⟩:=qm hh h1
  refine ⟨_,_,g1,by simp [gl],fun {xs} hf=>?_⟩
  cases hf with
  | cons hv ht=>
   obtain ⟨q1,a1,a2,a3,a4⟩:=h2 hv
   obtain ⟨q2,b1,b2,b3,b4⟩:=g2 ht
   refine ⟨q1++q2,a1.append b1,fun rest=>?_,?_,fun B j hB rest=>?_⟩
   ·rw [List.cons_append,a2,b2,List.map_append]
   ·rw [a3,b3,List.map_append]
   ·obtain ⟨u,u1,u2⟩:=a4 B j fun i q hq=>hB i q (by rw [List.getElem?_append_left (List.getElem?_eq_some_iff.1 hq).1];exact hq)
    rw [List.cons_append,u1]
    refine .cons u2 (b4 B _ (fun i q hq=>?_) rest)
    have:=hB (q1.length+i) q (by rw [List.getElem?_append_right (by omega),Nat.add_sub_cancel_left];exact hq)
    rwa [<-Nat.add_assoc] at this
theorem F2.right {α β:Type}{R:α->β->Prop}{Q:β->Prop}{as cs:List α}{bs:List β}{R':α->β->Prop}(h:F2 R as bs)(hq:∀a b,R a b->Q b)(h':F2 R' cs bs):F2 (fun a b=>R' a b/\Q b) cs bs:=by
 induction h generalizing cs with
 | nil=>cases h';exact .nil
 | cons h _ ih=>cases h' with
  | cons h1 h2=>exact .cons ⟨h1,hq _ _ h⟩ (ih h2)
theorem sD (hh:Hp E.cells w0 M A hp w):∀{ps:List (Bool×List K)} {vs:List V} {kk:List L->List eT->aD},ur E hp ps vs kk=some ans->
  ∃ls ts,kk ls ts=some ans/\∀{xs},F2 (V2 E.cells w A) vs xs->∃qs:List QT,F2 (TG E w A hp) ts qs/\qy ps ls=qs.map (fun q=>aK.row q.e q.l.dz)/\tZ ps=qs.map QT.e/\
   ∀(B:cD) (j:Nat),(∀i q,qs[i]?=some q->B.al (j+i)/\B.v (j+i)=q.y)->F2 (V2 E.cells w B) (sM ps ls j) xs
 | [],[],kk,h=>⟨[],[],h,fun {xs} hf=>⟨[],.nil,rfl,rfl,fun B j _=>by cases hf;exact .nil⟩⟩
 | [],_::_,kk,h=>by cases h
 | _::_,[],kk,h=>by cases h
 | p::ps,v::vs,kk,h=>by
  obtain ⟨ag,ks⟩:=p
  simp only [ur] at h
  have fin:∀{cs:List V} {k1:List L->List eT->aD},lV E hp ks cs k1=some ans->(∀a t,k1 a t=ur E hp ps vs fun b u=>kk (a++b) (t++u))->
    (∀{x},V2 E.cells w A v x->∃l,F2 (V0 E.cells w A) cs l/\∀{B:cD} {us:List V},F2 (V0 E.cells w B) us l->V2 E.cells w B (mkVar ag us) x)->
    ∃ls ts,kk ls ts=some ans/\∀{xs},F2 (V2 E.cells w A) (v::vs) xs->∃qs:List QT,F2 (TG E w A hp) ts qs/\qy ((ag,ks)::ps) ls=qs.map (fun q=>aK.row q.e q.l.dz)/\tZ ((ag,ks)::ps)=qs.map QT.e/\
     ∀(B:cD) (j:Nat),(∀i q,qs[i]?=some q->B.al (j+i)/\B.v (j+i)=q.y)->F2 (V2 E.cells w B) (sM ((ag,ks)::ps) ls j) xs:=by
   intro cs k1 h hk hV
   obtain ⟨a,t,h1,hl,h2⟩:=qm hh h
   rw [hk] at h1
   obtain ⟨b,u,g1,g2⟩:=sD hh h1
   refine ⟨_,_,g1,fun {xs} hf=>?_⟩
   cases hf with
   | cons hv ht=>
    obtain ⟨l,l1,l2⟩:=hV hv
    obtain ⟨q1,a1,a2,a3,a4⟩:=h2 l1
    obtain ⟨q2,b1,b2,b3,b4⟩:=g2 ht
    have hd:bA ks.length (a++b)=b:=by rw [iw,<-hl,List.drop_left]
    refine ⟨q1++q2,a1.append b1,?_,?_,fun B j hB=>?_⟩
    ·simp only [qy,a2,hd,b2,List.map_append]
    ·simp only [tZ,a3,b3,List.map_append]
    ·simp only [sM,hd]
     refine .cons (l2 (a4 B j (fun i q hq=>hB i q (by rw [List.getElem?_append_left (List.getElem?_eq_some_iff.1 hq).1];exact hq)) b)) (b4 B _ fun i q hq=>?_)
     have:=hB (q1.length+i) q (by rw [List.getElem?_append_right (by omega),Nat.add_sub_cancel_left];exact hq)
     rw [a3,List.length_map,Nat.add_assoc];exact this
  cases ag with
  | true=>
   simp only [aO] at h
   split at h
   ·rename_i cs
    refine fin h (fun _ _=>rfl) fun {x} hv=>?_
    obtain ⟨l,rfl,hl⟩:=(show V1 E.cells w A (.agg cs) x from hv)
    exact ⟨l,hl.mono fun _ _ h=>h.1,fun {B us} hus=>V1.v2 (v:=.agg us) ⟨l,rfl,F2.right hl (fun _ _ h=>h.2) hus⟩⟩
   ·cases h
  | false=>
   simp only [aR] at h
   refine fin h (fun _ _=>rfl) fun {x} hv=>⟨[x],.cons ?_ .nil,fun {B us} hus=>?_⟩
   ·have :∀{k:K} {kk:L->List eT->aD},rj E hp k v kk=some ans->V0 E.cells w A v x:=by
     intro k kk h
     cases k<;>simp only [rj] at h<;>split at h<;>first | exact hv | cases h
    cases ks with
    | nil=>cases h
    | cons k ks=>simp only [lV] at h;exact this h
   ·cases hus with
    | cons h1 h2=>
     cases h2
     exact V0.v2 h1
end
end Go.DM
namespace Go.DM
def ig {r:Nat}:∀{ts:List eT},r∈roots ts↔∃(j:Nat) (t:eT),ts[j]?=some t/\r∈t.root
 | []=>by simp [roots]
 | t::ts=>by
  simp only [roots,List.mem_append,ig (ts:=ts)]
  constructor
  ·rintro (h | ⟨j,t',h1,h2⟩)
   ·exact ⟨0,t,rfl,h⟩
   ·exact ⟨j+1,t',by simpa using h1,h2⟩
  ·rintro ⟨j,t',h1,h2⟩
   cases j with
   | zero=>simp at h1;subst h1;exact .inl h2
   | succ j=>exact .inr ⟨j,t',by simpa using h1,h2⟩
def AH {t:eT}{r q:Nat}(h:r∈t.root)(h':q∈t.root):r=q:=by
 cases t<;>simp [eT.root] at h h'
 ·rw [h,h']
 ·rw [h,h']
def kB {r:Nat}:∀{ts:List eT} {j j':Nat} {t t':eT},distinct (roots ts)=true->ts[j]?=some t->ts[j']?=some t'->r∈t.root->r∈t'.root->j=j'
 | [],j,j',t,t',_,h,_,_,_=>by simp at h
 | t0::ts,j,j',t,t',hd,h,h',hr,hr'=>by
  have hd2:distinct (roots ts)=true:=by
   simp only [roots] at hd
   cases t0 with
   | none=>exact hd
   | own q=>simp only [eT.root,List.singleton_append,distinct,Bool.and_eq_true] at hd;exact hd.2
   | gm q i p=>simp only [eT.root,List.singleton_append,distinct,Bool.and_eq_true] at hd;exact hd.2
  have hd1:∀q,q∈t0.root->q∉roots ts:=by
   intro q hq hm
   simp only [roots] at hd
   cases t0 with
   | none=>simp [eT.root] at hq
   | own p=>
    simp [eT.root] at hq
    subst hq
    simp only [eT.root,List.singleton_append,distinct,Bool.and_eq_true,Bool.not_eq_true'] at hd
    rw [iO.2 hm] at hd;cases hd.1
   | gm p i o=>
    simp [eT.root] at hq
    subst hq
    simp only [eT.root,List.singleton_append,distinct,Bool.and_eq_true,Bool.not_eq_true'] at hd
    rw [iO.2 hm] at hd;cases hd.1
  cases j with
  | zero=>
   cases j' with
   | zero=>rfl
   | succ j'=>
    simp at h;subst h
    exact (hd1 r hr (ig.2 ⟨j',t',by simpa using h',hr'⟩)).elim
  | succ j=>
   cases j' with
   | zero=>
    simp at h';subst h'
    exact (hd1 r hr' (ig.2 ⟨j,t,by simpa using h,hr⟩)).elim
   | succ j'=>
    have h1:ts[j]?=some t:=by simpa using h
    have h2:ts[j']?=some t':=by simpa using h'
    rw [kB hd2 h1 h2 hr hr']
def xD {E:Env}{hp o:Nat->aK}{t:eT}{l:L}{q:Nat}(h:q∉t.root):sx E hp t l o q=o q:=by
 cases t with
 | none=>rfl
 | own r=>
  have hq:q≠r:=fun e=>h (by simp [eT.root,e])
  cases hr:hp r<;>simp only [sx,hr]<;>exact aI _ _ hq
 | gm r i p=>
  have hq:q≠r:=fun e=>h (by simp [eT.root,e])
  cases hr:hp r<;>simp only [sx,hr]<;>exact aI _ _ hq
def AW {E:Env}{hp o:Nat->aK}{t:eT}{l:L}{q:Nat}(h:q∈t.root)(hq:uY (hp q)=true)(ho:∀r,t=.own r->∃e xs,hp r=.row e xs):sx E hp t l o q=nu E hp t l:=by
 cases t with
 | none=>simp [eT.root] at h
 | own r=>
  simp [eT.root] at h
  subst h
  obtain ⟨e,xs,hr⟩:=ho _ rfl
  simp only [sx,nu,hr,aQ]
 | gm r i p=>
  simp [eT.root] at h
  subst h
  cases hr:hp q<;>rw [hr] at hq<;>first | (cases hq;done) | simp only [sx,nu,hr,aQ]
def kF {E:Env}{hp:Nat->aK}{q:Nat}:∀{ts:List eT} {ls:List L} {o:Nat->aK},q∉roots ts->pM E hp ts ls o q=o q
 | [],_,_,_=>rfl
 | t::ts,ls,o,h=>by
  simp only [roots,List.mem_append,not_or] at h
  simp only [pM]
  rw [kF h.2,xD h.1]
def xg {E:Env}{hp:Nat->aK}{q:Nat}(hq:uY (hp q)=true):∀{ts:List eT} {ls:List L} {o:Nat->aK} {j:Nat} {t:eT},distinct (roots ts)=true->ts[j]?=some t->q∈t.root->(∀r,t=.own r->∃e xs,hp r=.row e xs)->
  pM E hp ts ls o q=nu E hp t (ls.getD j .hole)
 | [],_,_,j,t,_,h,_,_=>by simp at h
 | t0::ts,ls,o,0,t,hd,h,hr,ht=>by
  simp at h
  subst h
  simp only [pM]
  rw [kF,AW hr hq ht,gY]
  intro hm
  obtain ⟨j,t',h1,h2⟩:=ig.1 hm
  have:=kB (ts:=t0::ts) (j:=0) (j':=j+1) hd rfl (by simpa using h1) hr h2
  omega
 | t0::ts,ls,o,j+1,t,hd,h,hr,ht=>by
  have hd2:distinct (roots ts)=true:=by
   simp only [roots] at hd
   cases t0 with
   | none=>exact hd
   | own q=>simp only [eT.root,List.singleton_append,distinct,Bool.and_eq_true] at hd;exact hd.2
   | gm q i p=>simp only [eT.root,List.singleton_append,distinct,Bool.and_eq_true] at hd;exact hd.2
  simp only [pM]
  rw [xg hq hd2 (by simpa using h) hr ht,jU]
section
variable {P:Program} {E:Env} {w0 w w':World} {np:Nat} {M:Mem np} {A A':cD} {s:St} {o:Oper} {a:Act} {ans:List L} {hp:Nat->aK} {T:Nat->List K}
def cD.mark (A:cD)(ts:List eT)(G:Nat->Prop)(N:Nat->Nat->Prop):cD:=
  { A with N:=fun r b=>(A.N r b/\¬G b)∨∃(j:Nat) (t:eT),ts[j]?=some t/\r∈t.root/\N j b }
theorem TG.root {t:eT}{q:QT}(h:TG E w A hp t q){b:Nat}(hb:q.F b):∃r,r∈t.root/\A.N r b:=by
 obtain ⟨_,_,h⟩:=h
 cases t with
 | none=>exact (h b hb).elim
 | own r=>exact ⟨r,by simp [eT.root],(h.2.2.1 b).1 hb⟩
 | gm r i p=>exact ⟨r,by simp [eT.root],h.2.1 b hb⟩
theorem TG.al {t:eT}{q:QT}(h:TG E w A hp t q){r:Nat}(hr:r∈t.root):A.al r/\uY (hp r)=true:=by
 obtain ⟨_,_,h⟩:=h
 cases t with
 | none=>simp [eT.root] at hr
 | own q=>simp [eT.root] at hr;subst hr;obtain ⟨h1,_,_,xs,h2⟩:=h;exact ⟨h1,by rw [h2];rfl⟩
 | gm q i p=>simp [eT.root] at hr;subst hr;exact ⟨h.1,h.2.2.1⟩
theorem F2.get' {α β:Type}{R:α->β->Prop}{as:List α}{bs:List β}(h:F2 R as bs):∀{i:Nat} {b:β},bs[i]?=some b->∃a,as[i]?=some a/\R a b:=by
 induction h with
 | nil=>intro i a h;simp at h
 | cons h _ ih=>
  intro i a hi
  cases i with
  | zero=>simp at hi;subst hi;exact ⟨_,by simp,h⟩
  | succ i=>simp at hi;obtain ⟨b,hb,hr⟩:=ih hi;exact ⟨b,by simpa using hb,hr⟩
theorem xm.root {S:Nat->Prop}{r:Nat}{o:aK}{rs:List Nat}(ha:A.al r)(h:xm T w S (A.v r) o)(hs:∀b,S b->A.N r b):dB T w A r (jF rs o):=by
 cases o with
 | dead=>exact h.elim
 | box cs=>exact h.elim
 | xW=>exact h.elim
 | vw=>exact h.elim
 | row e xs=>exact ⟨ha,fQ.mono h hs⟩
 | qt e xs j cs=>exact ⟨ha,h.1,fQ.mono h.2 hs⟩
theorem fL.mark (sm:fL E w0 M A s a w){ts:List eT}{qs:List QT}(hq:F2 (TG E w A s.hp) ts qs)(hd:distinct (roots ts)=true){rows:List L}{N:Nat->Nat->Prop}{G:Nat->Prop}(hG:∀b,G b↔∃(j:Nat) (q:QT),qs[j]?=some q/\q.F b)
  (hfr:Fr w w' G) (hdj:∀j q b,N j b->N q b->j=q) (hN:∀j b,N j b->b<w'.heap.size/\(G b∨w.heap.size<=b)) (hown:∀(j:Nat) (q:QT),qs[j]?=some q->fQ E.cells w' (N j) (.sl q.e) q.y (rows.getD j .hole)) :
  fL E w0 M (A.mark ts G N) (s.marked E ts rows) a w':=by
 have hh:=sm.hp
 have hGr:∀b,G b->∃(j:Nat) (t:eT) (r:Nat),ts[j]?=some t/\r∈t.root/\A.N r b/\∃q:QT,qs[j]?=some q/\q.F b:=by
  intro b hb
  obtain ⟨j,q,h1,h2⟩:=(hG b).1 hb
  obtain ⟨t,h3,h4⟩:=hq.get' h1
  obtain ⟨r,h5,h6⟩:=h4.root h2
  exact ⟨j,t,r,h3,h5,h6,q,h1,h2⟩
 have halr:∀r,r∈roots ts->A.al r/\uY (s.hp r)=true:=by
  intro r hr
  obtain ⟨j,t,h1,h2⟩:=ig.1 hr
  obtain ⟨q,_,h4⟩:=hq.get h1
  exact h4.al h2
 have hGch:∀b,G b->∃r,r∈roots ts/\A.N r b:=by
  intro b hb
  obtain ⟨j,t,r,h1,h2,h3,_⟩:=hGr b hb
  exact ⟨r,ig.2 ⟨j,t,h1,h2⟩,h3⟩
 have hN2:∀j b,N j b->(∃r,r∈roots ts/\A.N r b)∨w.heap.size<=b:=fun j b h=>(hN j b h).2.imp (hGch b) id
 have st:Step A (A.mark ts G N) w w' (fun r=>r∈roots ts):=by
  refine ⟨rfl,fun _ h=>h,fun _ _=>rfl,hfr.size,fun b h1 h2=>hfr.block b h1 fun hg=>?_,fun r h1 h2 b=>⟨fun h=>?_,fun h=>.inl ⟨h,fun hg=>?_⟩⟩,fun r b h1 h2=>?_⟩
  ·obtain ⟨r,h3,h4⟩:=hGch b hg
   exact h2 r h3 h4
  ·rcases h with h | ⟨j,t,h3,h4,_⟩
   ·exact h.1
   ·exact (h2 (ig.2 ⟨j,t,h3,h4⟩)).elim
  ·obtain ⟨q,h3,h4⟩:=hGch b hg
   rw [hh.dj r q b h h4] at h2
   exact h2 h3
  ·rcases h2 with h2 | ⟨j,t,h3,h4,h5⟩
   ·rcases h1 with h1 | h1
    ·exact .inl ⟨r,h1,h2.1⟩
    ·exact (h1 (hh.xd h2.1)).elim
   ·exact hN2 j b h5
 have hrt:∀r,dB E.cells w' (A.mark ts G N) r (jF (roots ts) (pM E s.hp ts rows s.hp r)):=by
  intro r
  by_cases hr:r∈roots ts
  ·obtain ⟨j,t,h1,h2⟩:=ig.1 hr
   obtain ⟨hal,hrow⟩:=halr r hr
   obtain ⟨q,h3,h4⟩:=hq.get h1
   rw [xg hrow hd h1 h2 (fun r e=>by subst e;obtain ⟨_,_,_,_,_,xs,h⟩:=h4;exact ⟨_,xs,h⟩)]
   have ho:=hown j q h3
   have hin:∀b,N j b->(A.mark ts G N).N r b:=fun b hb=>.inr ⟨j,t,h1,h2,hb⟩
   obtain ⟨_,_,h5⟩:=h4
   cases t with
   | none=>simp [eT.root] at h2
   | own p=>
    simp [eT.root] at h2
    subst h2
    obtain ⟨_,h6,_,xs',h7⟩:=h5
    simp only [nu,h7,jF]
    refine ⟨hal,?_⟩
    show fQ E.cells w' _ (.sl q.e) (A.v r) _
    rw [<-h6]
    exact ho.uc.mono hin
   | gm p i c=>
    simp [eT.root] at h2
    subst h2
    obtain ⟨_,h6,h7,h8⟩:=h5
    have hnG:∀b,A.N r b->¬q.F b->¬G b:=by
     intro b hb hnf hg
     obtain ⟨j',t',r',g1,g2,g3,q',g4,g5⟩:=hGr b hg
     rw [hh.dj r' r b g3 hb] at g2
     have :j=j':=kB hd h1 g1 (by simp [eT.root]) g2
     subst this
     rw [h3] at g4;injection g4 with g4;subst g4
     exact hnf g5
    refine (xm.root hal (h8 w' (N j) (rows.getD j .hole) (fun b hb hnf=>hfr.block b (hh.lt r b hb) (hnG b hb hnf)) (fun b hb hbn=>?_) ho) fun b hb=>?_)
    ·refine Classical.byContradiction fun hnf=>?_
     rcases (hN j b hb).2 with hg | hg
     ·exact hnG b hbn hnf hg
     ·have:=hh.lt r b hbn;omega
    ·rcases hb with hb | hb
     ·exact .inl ⟨hb.1,hnG b hb.1 hb.2⟩
     ·exact hin b hb
  ·rw [kF hr]
   have ho:=hh.rt r
   cases hp:s.hp r with
   | dead=>
    rw [hp] at ho
    intro b hb
    rcases hb with hb | ⟨j,t,h1,h2,_⟩
    ·exact ho b hb.1
    ·exact hr (ig.2 ⟨j,t,h1,h2⟩)
   | box cs=>
    rw [hp] at ho
    obtain ⟨ha,g,te,cur,h1,h2,h3,h4⟩:=ho
    refine ⟨ha,g,te,cur,h1,fun b=>(st.N r ha hr b).trans (h2 b),?_,lQ st hh h4⟩
    rw [(st.root hh hr ((h2 g).2 rfl)).2];exact h3
   | row e xs=>
    rw [hp] at ho
    refine ⟨ho.1,?_⟩
    exact (ho.2.frame (w':=w') fun b hb=>(st.root hh hr hb).2).mono fun b hb=>(st.root hh hr hb).1
   | qt e xs j cs=>
    rw [hp] at ho
    refine ⟨ho.1,ho.2.1,?_⟩
    exact (ho.2.2.frame (w':=w') fun b hb=>(st.root hh hr hb).2).mono fun b hb=>(st.root hh hr hb).1
   | xW e xs j p=>
    rw [hp] at ho
    refine ⟨ho.1,ho.2.1,?_⟩
    exact ho.2.2.move (fun b hb=>(st.root hh hr hb).2) fun b hb=>(st.root hh hr hb).1
   | vw e xs=>
    rw [hp] at ho
    exact ho.vw st hh hr
 refine ⟨⟨fun r b h=>?_,fun r q b h h'=>?_,fun r h=>?_,hrt,hh.fr.trans hfr fun b hb=>?_,fun r b h=>?_,hh.zf,hh.pn⟩,fun i y hy=>(sm.tm i y hy).kill st hh,sm.nx,sm.df,sm.sz,sm.fr.map' fun _ _ h=>h.kill st hh⟩
 ·rcases h with h | ⟨j,t,_,_,h⟩
  ·exact Nat.lt_of_lt_of_le (hh.lt r b h.1) hfr.size
  ·exact (hN j b h).1
 ·have key:∀{r q:Nat},A.N r b->¬G b->∀j,N j b->False:=by
   intro r q h1 h2 j h3
   rcases (hN j b h3).2 with h4 | h4
   ·exact h2 h4
   ·have:=hh.lt r b h1;omega
  rcases h with h | ⟨j,t,h1,h2,h3⟩<;>rcases h' with h' | ⟨j',t',k1,k2,k3⟩
  ·exact hh.dj r q b h.1 h'.1
  ·exact (key (q:=q) h.1 h.2 j' k3).elim
  ·exact (key (q:=q) h'.1 h'.2 j h3).elim
  ·obtain rfl:=hdj j j' b h3 k3
   rw [h1] at k1;injection k1 with k1;subst k1
   exact AH h2 k2
 ·have hr:r∉roots ts:=fun hr=>h (halr r hr).1
  show jF (roots ts) (pM E s.hp ts rows s.hp r)=.dead
  rw [kF hr,hh.al r h];rfl
 ·obtain ⟨r,_,h⟩:=hGch b hb
  exact hh.nm r b h
 ·rcases h with h | ⟨j,t,_,_,h⟩
  ·exact hh.nm r b h.1
  ·rcases hN2 j b h with ⟨q,_,h'⟩ | h'
   ·exact hh.nm q b h'
   ·exact .inr (Nat.le_trans hh.fr.size h')
theorem An {qs:List QT}{i:Nat}{q:QT}(h:qs[i]?=some q):iq (qs.map fun q=>aK.row q.e q.l.dz) i=.row q.e q.l.dz:=by
 induction qs generalizing i with
 | nil=>simp at h
 | cons x qs ih=>
  cases i with
  | zero=>simp at h;subst h;rfl
  | succ i=>exact ih (by simpa using h)
theorem nk {qs:List QT}{i:Nat}(h:qs.length<=i):iq (qs.map fun q=>aK.row q.e q.l.dz) i=.dead:=by
 induction qs generalizing i with
 | nil=>rfl
 | cons x qs ih=>
  cases i with
  | zero=>simp at h
  | succ i=>exact ih (by simpa using h)
theorem xP (hM:∀g c,c∈E.M g->lW P E g c)(sm:fL E w0 M A s a w){k:V->St->aD}(h:tv E o.op s k=some ans):∃v s',k v s'=some ans/\rM P E w0 M A o a w v s':=by
 have hh:=sm.hp
 cases hop:o.op<;>rw [hop] at h<;>first | (simp only [tv] at h;cases h;done) | skip
 case call cc=>
  obtain ⟨callee,args,argTypes⟩:=cc
  cases callee with
  | builtin b=>simp only [tv] at h;cases h
  | invoke r n=>simp only [tv] at h;cases h
  | value f=>
   cases f<;>first | (simp only [tv] at h;cases h;done) | skip
   rename_i g
   simp only [tv] at h
   split at h
   ·rename_i c cs hcs
    obtain ⟨hent,hcall⟩:=hM g c (by rw [hcs];simp)
    obtain ⟨ls,ts,h1,h2⟩:=sD hh h
    cases hdi:distinct (roots ts)<;>simp only [hdi,aO,aR] at h1
    ·cases h1
    cases hs:c.sem ls with
    | none=>rw [hs] at h1;cases h1
    | some r=>
     rw [hs] at h1
     simp only [Option.bind_some] at h1
     next=>
      refine ⟨_,_,h1,fun Kn Q hK=>?_⟩
      obtain ⟨qs,e1,e2,e3,e4⟩:=h2 (F2.Dk (g:=a.eval) (l:=args.toList) fun x _=>sm.ev x)
      have hql:(tZ c.args).length=qs.length:=by rw [e3,List.length_map]
      let B:cD:={ v:=fun j=>match qs[j]? with | some q=>q.y | none=>Go.undef,N:=fun j b=>∃q,qs[j]?=some q/\q.F b,al:=fun j=>j<qs.length,Z:=fun b=>(∃(j:Nat) (q:QT),qs[j]?=some q/\q.F b)∨w.heap.size<=b }
      have hrun:(execOp a.eval o).run P w=.ok (.enter g (args.toList.map a.eval).toArray) w:=by
       obtain ⟨fn,g1,g2,g3⟩:=hent
       have :(args.map a.eval)=(args.toList.map a.eval).toArray:=by cases args;simp
       have g2' : fn.name ≠ "runtime.NumGoroutine" := by simpa using g2
       have g3':fn.body≠none:=fun h=>by simp [h] at g3
       simp [execOp,hop,resolve,Act.eval,Deferred.ofValue,invoke,callFunc,g1,g2',g3',this]
      unfold Oper.wp
      rw [hrun]
      have hB:Hp (np:=(tZ c.args).length) E.cells w ⟨fun b=>∃j,B.N j b,B.v,[]⟩ B (iq (qy c.args ls)) w:=by
       refine ⟨fun r b ⟨q,q1,q2⟩=>?_,fun r q b ⟨q1,k1,k2⟩ ⟨q2,k3,k4⟩=>?_,fun r hr=>?_,fun r=>?_,Fr.refl _ _,fun r b hb=>.inl ⟨r,hb⟩,fun b hb=>hb,fun j hj=>⟨by show j<qs.length;omega,rfl⟩⟩
       ·obtain ⟨t,h3,h4⟩:=e1.get' q1
        obtain ⟨p,_,h6⟩:=h4.root q2
        exact hh.lt p b h6
       ·obtain ⟨t1,a1,a2⟩:=e1.get' k1
        obtain ⟨t2,b1,b2⟩:=e1.get' k3
        obtain ⟨p1,a3,a4⟩:=a2.root k2
        obtain ⟨p2,b3,b4⟩:=b2.root k4
        rw [hh.dj p1 p2 b a4 b4] at a3
        exact kB hdi a1 b1 a3 b3
       ·have hr':¬r<qs.length:=hr
        rw [e2];exact nk (by omega)
       ·rw [e2]
        by_cases hr:r<qs.length
        ·have hg:=List.getElem?_eq_getElem hr
         rw [An hg]
         obtain ⟨t,_,h4⟩:=e1.get' hg
         refine ⟨hr,?_⟩
         have hv:B.v r=qs[r].y:=by show (match qs[r]? with | some q=>q.y | none=>Go.undef)=_;rw [hg]
         rw [hv]
         exact h4.2.1.uc.mono fun b hb=>⟨_,hg,hb⟩
        ·rw [nk (by omega)]
         rintro b ⟨q,hq,_⟩
         rw [List.getElem?_eq_none (by omega)] at hq;cases hq
      have hargs:=e4 B 0 fun i q hq=>⟨by rw [Nat.zero_add];exact (List.getElem?_eq_some_iff.1 hq).1,by show (match qs[0+i]? with | some q=>q.y | none=>Go.undef)=_;rw [Nat.zero_add,hq]⟩
      refine (hcall ls _ w _ B hs hB (fun q hq h=>?_) hargs).mono fun e w' hpost=>?_
      ·have :q<qs.length:=h
       omega
      ·obtain ⟨n',rows',N,rfl,rfl,hfr,p1,p2,p3⟩:=hpost
       refine hK _ w' _ (fL.mark (G:=fun b=>∃j,B.N j b) (N:=N) sm e1 hdi (fun b=>Iff.rfl) hfr p1 p2 fun j q hq=>?_) rfl rfl
       have hsl:(tZ c.args)[j]?=some q.e:=by rw [e3,List.getElem?_map,hq];rfl
       have:=p3 j q.e hsl
       have hv:B.v j=q.y:=by show (match qs[j]? with | some q=>q.y | none=>Go.undef)=_;rw [hq]
       rwa [hv] at this
   ·cases h
end
end Go.DM
set_option linter.unusedSectionVars false
namespace Go.DM
section
variable {P:Program} {E:Env} {w0 w w':World} {np:Nat} {M:Mem np} {A A':cD} {s:St} {o:Oper} {a:Act} {ans:List L}
theorem uy {a b:aD}{r:List L}(h:either a b=some r):a=some r/\b=some r:=by
 unfold either at h
 split at h
 ·rename_i e;exact ⟨h,e ▸ h⟩
 ·cases h
theorem rm (sm:fL E w0 M A s a w){v:V}{x:Value}{yes no:aD}(hv:V2 E.cells w A v x)(h:vD s.hp v yes no=some ans) :
  ∃A0 n c,x=.slice A0 n c/\(cond A0.isNone yes no)=some ans:=by
 have hh:=sm.hp
 have emp:∀{e:Nat} {xs:aq} {Z:Nat->Prop},Rd E.cells w Z (.sl e) x (.sl xs)->(cond xs.isEmpty (either yes no) no)=some ans->∃A0 n c,x=.slice A0 n c/\(cond A0.isNone yes no)=some ans:=by
  intro e xs Z hr h
  obtain ⟨A0,n,c,rfl,h1,h2,h3⟩:=hr.inv
  refine ⟨A0,n,c,rfl,?_⟩
  cases xs with
  | nil=>
   obtain ⟨g1,g2⟩:=uy (show either yes no=some ans from h)
   cases A0.isNone
   ·exact g2
   ·exact g1
  | cons y ys=>
   have h1':(y::ys).length=n:=h1
   obtain ⟨b,o,vv,rfl,_⟩:=h3 (by rw [<-h1'];simp)
   exact h
 cases v<;>first | (cases h;done) | skip
 case nil=>
  obtain ⟨A0,rfl⟩:=(show V0 E.cells w A .nil x from hv)
  obtain ⟨g1,g2⟩:=uy (show either yes no=some ans from h)
  refine ⟨A0,0,0,rfl,?_⟩
  cases A0.isNone
  ·exact g2
  ·exact g1
 case sl d e xs=>exact emp (show V0 E.cells w A (.sl d e xs) x from hv).2 h
 case own r=>
  simp only [vD] at h
  split at h
  ·rename_i e xs hr
   have hroot:=hh.rt r
   rw [hr] at hroot
   obtain ⟨_,h2,_⟩:=(show V0 E.cells w A (.own r) x from hv)
   obtain ⟨_,hown⟩:=hroot
   rw [<-h2] at hown
   exact emp hown.rd h
  ·cases h
theorem AX (hT:∀t i,E.T t=some i->fX P E t i)(sm:fL E w0 M A s a w){op:BinOp}{t ty:TypeId}{x y:Operand}{k:V->St->aD}(ho:o.op=.binOp op t x y ty)(h:jG E (.binOp op t x y ty) s k=some ans) :
  ∃v s',k v s'=some ans/\rM P E w0 M A o a w v s':=by
 simp only [jG] at h
 cases hn:qA y<;>simp only [hn,aO,aR] at h
 ·cases h
 have hy:a.eval y=.slice none 0 0:=by
  unfold qA at hn
  split at hn
  ·rfl
  ·cases hn
 split at h
 case h_2=>cases h
 rename_i el hel
 obtain ⟨hu,ie,hie⟩:=iS (E:=E) hT sm.hp sm.ev hel
 have fin:∀(b:Bool) (p:BinOp),op=p->(p=.eql∨p=.neq)->(∀A0 n c,a.eval x=.slice A0 n c->(cond A0.isNone (k (.bool (p == .eql)) s) (k (.bool (p == .neq)) s))=some ans->∃v s',k v s'=some ans/\rM P E w0 M A o a w v s'):=by
  intro _ p hp hpp A0 n c hx hk
  have hrun:∀r,(Go.binOp p t (.slice A0 n c) (.slice none 0 0)).run P w=.ok (.bool r) w->(execOp a.eval o).run P w=.ok (.value (.bool r)) w:=by
   intro r hr
   have hg:(eqGuard p t x y (.slice A0 n c) (.slice none 0 0)).run P w=.ok () w:=by rcases hpp with rfl | rfl<;>simp [eqGuard]
   simp only [execOp,ho,hp,hx,hy,map_eq_pure_bind,Sem.run_bind,hg,hr,Result.andThen_ok,Sem.run_pure]
  have out:∀r,(Go.binOp p t (.slice A0 n c) (.slice none 0 0)).run P w=.ok (.bool r) w->rM P E w0 M A o a w (.bool r) s:=by
   intro r hr K Q hK
   unfold Oper.wp
   rw [hrun r hr]
   exact hK (.bool r) w A sm rfl rfl
  have heql:(Go.binOp .eql t (.slice A0 n c) (.slice none 0 0)).run P w=.ok (.bool A0.isNone) w:=by
   have:=run_equal_slice_nil (P:=P) w t el A0 n c hu
   simp [Go.binOp,this]
  have hneq:(Go.binOp .neq t (.slice A0 n c) (.slice none 0 0)).run P w=.ok (.bool (!A0.isNone)) w:=by
   have:=run_equal_slice_nil (P:=P) w t el A0 n c hu
   simp [Go.binOp,this]
  rcases hpp with rfl | rfl
  ·cases hA:A0.isNone<;>rw [hA] at hk heql
   ·exact ⟨_,_,hk,out _ heql⟩
   ·exact ⟨_,_,hk,out _ heql⟩
  ·cases hA:A0.isNone<;>rw [hA] at hk hneq
   ·exact ⟨_,_,hk,out _ hneq⟩
   ·exact ⟨_,_,hk,out _ hneq⟩
 split at h
 ·obtain ⟨A0,n,c,h1,h2⟩:=rm sm (sm.ev x) h
  exact fin true .eql rfl (.inl rfl) A0 n c h1 h2
 ·obtain ⟨A0,n,c,h1,h2⟩:=rm sm (sm.ev x) h
  exact fin true .neq rfl (.inr rfl) A0 n c h1 h2
 ·cases h
theorem xp (hT:∀t i,E.T t=some i->fX P E t i)(sm:fL E w0 M A s a w){k:V->St->aD}(h:jG E o.op s k=some ans):∃v s',k v s'=some ans/\rM P E w0 M A o a w v s':=by
 cases hop:o.op<;>rw [hop] at h<;>first | (simp only [jG] at h;cases h;done) | skip
 case store t x y=>exact Cs hT sm hop h
 case binOp op t x y ty=>exact AX hT sm hop h
 case call c=>
  obtain ⟨callee,args,argTypes⟩:=c
  cases callee with
  | builtin b=>
   cases b<;>first | (simp only [jG] at h;cases h;done) | skip
   simp only [jG] at h
   split at h
   ·rename_i x y hxy
    split at h
    ·rename_i t u htu
     have h1:args=#[x,y]:=by cases args;simp at hxy;subst hxy;rfl
     have h2:argTypes=#[t,u]:=by cases argTypes;simp at htu;subst htu;rfl
     subst h1;subst h2
     refine Bv hT sm hop ?_
     simp only [jG];exact h
    ·cases h
   ·cases h
  | value f=>simp only [jG] at h;cases h
  | invoke r n=>simp only [jG] at h;cases h
theorem fL.put (sm:fL E w0 M A s a w){d:Option Nat}{v:V}{cv:Value}(hv:V2 E.cells w A v cv):fL E w0 M A (s.put d v) (a.put d cv) w:=by
 cases d with
 | none=>exact sm
 | some d=>
  refine ⟨sm.hp,fun i x hx=>?_,sm.nx,sm.df,by simpa [Act.put] using sm.sz,sm.fr⟩
  simp only [Act.put,St.put] at *
  rw [Array.getElem?_setIfInBounds] at hx
  by_cases hi:d=i
  ·subst hi
   rw [aQ]
   split at hx
   ·split at hx
    ·injection hx with hx;subst hx;exact hv
    ·cases hx
   ·rename_i hn;exact (hn rfl).elim
  ·rw [aI _ _ (Ne.symm hi)]
   rw [if_neg hi] at hx
   exact sm.tm i x hx
end
section
variable {P:Program} {E:Env} {w0 w w':World} {M:Mem E.np} {A A':cD} {s:St} {o:Oper} {a:Act} {ans:List L}
def oH (P:Program)(E:Env)(n:Nat)(g:FuncId)(c:gA)(X:cD->cD->Nat->Nat->Prop):Prop:=
 ∀(w0:World) (M:Mem n) (A:cD) (s:St) (w:World) (vs:List V) (xs:List Value) (k:V->St->aD) (ans:List L),
  c.run vs s k=some ans->Hp E.cells w0 M A s.hp w->(∀r,s.nx<=r->¬A.al r)->F2 (V2 E.cells w A) s.fr M.sv->F2 (V2 E.cells w A) vs xs->
  ∀(K:Value->World->Prop),(∀v s' cv w' A',k v s'=some ans->Hp E.cells w0 M A' s'.hp w'->(∀r,s'.nx<=r->¬A'.al r)->F2 (V2 E.cells w' A') s'.fr M.sv->V2 E.cells w' A' v cv->A'.Z=A.Z->X A A' s.nx s'.nx->K cv w')->
   Calls P g xs.toArray w fun e w'=>∃cv,e=.returned cv/\K cv w'
def Du (_ _:cD)(_ _:Nat):Prop:=True
def zQ (A A':cD)(n n':Nat):Prop:=n<=n'/\∀r,A'.al r->A.al r∨n<=r
def CX (c:gA):Prop:=∀(vs:List V) (s:St) (k:V->St->aD) (ans:List L),c.run vs s k=some ans->
 ∃(rs:List Nat) (v:V) (hp2:Nat->aK) (nx2:Nat),k v ⟨fun i=>eN rs (s.sl i),hp2,nx2,s.fr.map (eN rs)⟩=some ans/\s.nx<=nx2/\
  ∀(R:Nat) (o:aK),s.hp R=.dead->R<s.nx->(∀rs,jF rs o=o)->hp2 R=.dead/\∀sl' fr' (k':V->St->aD),
   c.run vs ⟨sl',upd s.hp R o,s.nx,fr'⟩ k'=k' v ⟨fun i=>eN rs (sl' i),upd hp2 R o,nx2,fr'.map (eN rs)⟩
def D9 (c:gA):Prop:=∀(vs:List V) (s:St) (k:V->St->aD) (ans:List L),c.run vs s k=some ans->
 ∃(rs:List Nat) (v:V) (s2:St),k v s2=some ans/\(∀k':V->St->aD,c.run vs s k'=k' v s2)/\s2.fr=s.fr.map (eN rs)/\
  ∀(r:Nat) (cs:List V),s.hp r=.box cs->r<s.nx->(∀x∈vs,sA r x=true)->s2.hp r=.box (cs.map (iU rs))
def dX (P:Program)(E:Env)(n:Nat)(g:FuncId)(c:gA):Prop:=
 kR P g/\oH P E n g c Du/\(c.late=true->CX c/\oH P E n g c zQ)/\(c.keep=true->D9 c)
def mG (P:Program)(E:Env):Prop:=(∀g c,c∈E.M g->lW P E g c)/\∀g c,c∈E.I g->dX P E E.np g c
theorem zy {R:V->Value->Prop}{vs:List V}{xs:List Value}(h:F2 R vs xs):∀{i:Nat} {x:Value},xs[i]?=some x->R (iQ vs i) x:=by
 induction h with
 | nil=>intro i x hx;simp at hx
 | cons h _ ih=>
  intro i x hx
  cases i with
  | zero=>simp at hx;subst hx;exact h
  | succ i=>exact ih (by simpa using hx)
theorem pF {R:V->Value->Prop}{sl:Nat->V}:∀{xs:List Value} {i:Nat},(∀j x,xs[j]?=some x->R (sl (i+j)) x)->F2 R (dK sl i xs.length) xs
 | [],_,_=>.nil
 | x::xs,i,h=>.cons (by simpa using h 0 x (by simp)) (pF fun j y hy=>by
   have:=h (j+1) y (by simpa using hy)
   rwa [show i+(j+1)=i+1+j by omega] at this)
theorem yf (hT : ∀ t i, E.T t = some i -> fX P E t i) (sm : fL E w0 M A s a w) {t el : TypeId} {x h0 : Operand} (ho : o.op = .slice t x none (some h0) none) (hel : (E.T t).bind TI.el = some el) {k : V -> St -> aD}
    (h : C5 E s el x h0 k = some ans) : ∃ v s', k v s' = some ans /\ rM P E w0 M A o a w v s' := by
  have hh := sm.hp
  unfold C5 at h
  have hx := sm.ev x
  split at h
  · rename_i r hr
    rw [hr] at hx
    split at h
    · rename_i e xs hrow
      cases he : Nat.beq e el <;> simp only [he, aO, aR] at h
      · cases h
      obtain rfl := Nat.eq_of_beq_eq_true he
      split at h
      · rename_i ik n hn
        have hh0 : a.eval h0 = .int ik n := by have := sm.ev h0; rw [hn] at this; exact this
        by_cases h1 : 0 <= n
        · by_cases h2 : n <= (xs.length : Int)
          · simp only [h1, h2, decide_true, aO] at h
            refine ⟨_, _, h, ?_⟩
            obtain ⟨q1, q2, A1, n0, c, q3⟩ := (show V0 E.cells w A (.own r) (a.eval x) from hx)
            have hroot := hh.rt r
            rw [hrow] at hroot
            obtain ⟨_, hown⟩ := hroot
            rw [<- q2, q3] at hown
            obtain ⟨hu, ie, hie⟩ := iS hT hh sm.ev hel
            obtain ⟨ii', d', z', k1, k2, k3, k4, k5, k6, kby, k7, k8, k9, k10, kpl, k11, k12, tX, tU, k15⟩ := hT e ie hie
            have hcl : (E.cells e).length = ii'.size := by rw [iy hie, k4]
            have hlen : xs.length = n0 /\ n0 <= c := by
              obtain ⟨_, _, _, g1, g2, g3, _⟩ := hown.Aa
              cases g1; exact ⟨g2, g3⟩
            have hb := kf (P := P) (w := w) (b := true) (lo := none) (hi := some (a.eval h0)) (l := 0) (h := n) (len := n0) (cap := c) (.inl ⟨rfl, rfl⟩) (.inr ⟨ik, by rw [hh0]⟩) (Int.le_refl _) h1 (by omega) hlen.2
            have hrun : (execOp a.eval o).run P w = .ok (.value (.slice (if c = 0 then A1 else A1.map (·.add 0)) n.toNat c)) w := by
              simp [execOp, ho, q3, Instr.sliceAt, Instr.slice, run_underlying hu, hb, gk k1]
            have hA : (if c = 0 then A1 else A1.map (·.add 0)) = A1 := by
              split
              · rfl
              · cases A1 with
                | none => rfl
                | some A1 => cases hown <;> first | (simp [Addr.add]; done) | skip
                             all_goals simp [ow]
            rw [hA] at hrun
            have hown2 : fQ E.cells w (A.N r) (.sl e) (.slice A1 n.toNat c) (.sl (xs.take n.toNat)) := by
              cases hown
              · rename_i hz
                have : xs = [] := hz
                subst this
                have : n.toNat = 0 := by simp at h2; omega
                rw [this]
                exact .nil _ _ _ _ rfl
              · rename_i cur vv Sf _ _ _ _ _ _ _ _ _ _
                have e1 : xs.length = n0 := hlen.1
                refine .sl _ e n.toNat c _ _ _ _ _ _ (by simp [L.dz]; omega) (by omega) ‹c <= maxLen› ‹_› ‹_› ‹_› ‹_› ‹_› (fun i j k hi hj => (‹∀ i j k, i < n0 -> _ -> _› : ∀ i j k, i < n0 -> (E.cells e)[j]? = some k -> cur[i * (E.cells e).length + j]? = some (vv i j)) i j k (by omega) hj) (fun i j k hi hj => ?_)
                have := (‹_› : ∀ i j k, i < n0 -> (E.cells e)[j]? = some k -> fQ E.cells w (Sf i j) k (vv i j) (((L.sl xs).dz.getD i []).getD j .hole)) i j k (by omega) hj
                have e2 : (xs.take n.toNat).getD i [] = xs.getD i [] := by
                  simp only [List.getD_eq_getElem?_getD, List.getElem?_take, hi, if_true]
                simp only [L.dz] at this ⊢
                rw [e2]; exact this
            have hnal : ¬ A.al s.nx := sm.nx _ (Nat.le_refl _)
            have hrx : r ≠ s.nx := by rintro rfl; exact hnal q1
            intro Kn Q hK
            unfold Oper.wp
            rw [hrun]
            have hN : ∀ b, (A.dh s.nx (.slice A1 n.toNat c) (fun q => q = r) (fun _ => False)).N s.nx b ↔ A.N r b := fun b => by simp [cD.dh]
            refine hK (.slice A1 n.toNat c) w (A.dh s.nx (.slice A1 n.toNat c) (fun q => q = r) (fun _ => False)) (fL.dh sm (r := none) (fun q => ?_) (fun q hq => by cases hq) (.inr rfl) (fun h => (hnal h).elim) (Nat.lt_succ_self _) (Nat.le_succ _) (fun q hq hc => ?_) (fun q hq hc => ?_) rfl rfl rfl (Nat.le_refl _) (fun b _ _ => rfl) (fun _ h => h.elim) (fun q e' xs' hq => by cases hq) (fun mv => ?_)) ?_ rfl
            · constructor
              · rintro rfl
                refine .inr ⟨by rw [hrow]; simp, ?_⟩
                rw [aI _ _ hrx, aQ]
              · rintro (hq | hq)
                · cases hq
                · refine Classical.byContradiction fun hc => ?_
                  by_cases hqn : q = s.nx
                  · subst hqn; exact hq.1 (hh.al _ hnal)
                  · have := hq.2; rw [aI _ _ hqn, aI _ _ hc] at this; exact hq.1 this
            · obtain rfl : q = r := hc
              rw [aI _ _ hq, aQ]
            · rw [aI _ _ hq, aI _ _ hc]
            · rw [aQ]
              refine ⟨.inr rfl, ?_⟩
              have : (A.dh s.nx (.slice A1 n.toNat c) (fun q => q = r) (fun _ => False)).v s.nx = .slice A1 n.toNat c := by simp [cD.dh, aQ]
              rw [this]
              exact hown2.mono fun b hb => (hN b).2 hb
            · exact V0.v2 (v := .own s.nx) ⟨.inr rfl, by simp [cD.dh, aQ], A1, _, _, rfl⟩
          · simp [h1, h2] at h
        · simp [h1] at h
      · cases h
    · cases h
  · cases h
def Dr (v:V)(g:FuncId):Prop:=∃caps,v=.fn g caps
theorem qT (sm:fL E w0 M A s a w){X:cD->cD->Nat->Nat->Prop}{k:V->St->aD}{f:Operand}{args:Array Operand}{argTypes:Array TypeId}(hop:o.op=.call ⟨.value f,args,argTypes⟩)(h:lK E o.op s k=some ans)
  (hI:∀g c,c∈E.I g->Dr (cV E.nt s.sl f) g->kR P g/\∀cs,E.I g=c::cs->oH P E E.np g c X) :
  ∀(K:Act->World->Prop) (Q:Exit->Act->World->Prop),(∀v s' cv w' A',k v s'=some ans->fL E w0 M A' s' a w'->V2 E.cells w' A' v cv->A'.Z=A.Z->X A A' s.nx s'.nx->K (a.put o.dst cv) w')->o.wp P a w K Q:=by
 intro K Q hK
 rw [hop] at h
 have hh:=sm.hp
 have key:∀(g:FuncId) (c:gA) (caps:List V) (cl:List Value),oH P E E.np g c X->F2 (V2 E.cells w A) caps cl->(execOp a.eval o).run P w=.ok (.enter g (args.toList.map a.eval++cl).toArray) w->
   c.run (args.toList.map (cV E.nt s.sl)++caps) { s with fr:=dK s.sl 0 E.nt++s.fr } (fun v s'=>k v { s' with sl:=iQ s'.fr,fr:=s'.fr.drop E.nt })=some ans->o.wp P a w K Q:=by
  intro g c caps cl hcall hcl hrun h
  unfold Oper.wp
  rw [hrun]
  have hl:a.tmps.toList.length=E.nt:=by rw [Array.length_toList,sm.sz]
  have hfr:F2 (V2 E.cells w A) (dK s.sl 0 E.nt++s.fr) (a.tmps.toList++M.sv):=by
   refine F2.append ?_ sm.fr
   rw [<-hl]
   exact pF fun j x hx=>by rw [Nat.zero_add];exact sm.tm j x (by simpa using hx)
  refine (hcall w0 ⟨M.p,M.v,a.tmps.toList++M.sv⟩ A { s with fr:=dK s.sl 0 E.nt++s.fr } w _ (args.toList.map a.eval++cl) _ ans h ⟨hh.lt,hh.dj,hh.al,hh.rt,hh.fr,hh.nm,hh.zf,hh.pn⟩ sm.nx hfr ((F2.Dk fun x _=>sm.ev x).append hcl) (fun cv w'=>K (a.put o.dst cv) w') ?_).mono fun e w' hpost=>?_
  ·intro v s' cv w' A' e1 e2 e3 e4 e5 e6 e7
   have hd:=e4.drop E.nt
   refine hK v _ cv w' A' e1 ⟨⟨e2.lt,e2.dj,e2.al,e2.rt,e2.fr,e2.nm,e2.zf,e2.pn⟩,fun i x hx=>?_,e3,sm.df,sm.sz,?_⟩ e5 e6 e7
   ·refine zy e4 ?_
    have hi:=(Array.getElem?_eq_some_iff.1 hx).1
    rw [List.getElem?_append_left (by rw [Array.length_toList];exact hi)]
    simpa using hx
   ·rw [<-hl] at hd
    rw [show (a.tmps.toList++M.sv).drop a.tmps.toList.length=M.sv from List.drop_left ..] at hd
    rw [<-hl]
    exact hd
  ·obtain ⟨cv,rfl,hk⟩:=hpost
   exact hk
 cases f<;>first | (simp only [lK] at h;cases h;done) | skip
 case tmp t=>
  simp only [lK] at h
  split at h
  ·rename_i g caps hf
   split at h
   ·rename_i c cs hcs
    have hI':=hI g c (by rw [hcs];simp) ⟨caps,hf⟩
    have hfv:=sm.ev (.tmp t)
    rw [hf] at hfv
    obtain ⟨cl,e1,e2⟩:=(show V1 E.cells w A (.fn g caps) (a.eval (.tmp t)) from hfv)
    refine key g c caps cl (hI'.2 cs hcs) (e2.mono fun v x hv=>V0.v2 hv) ?_ h
    obtain ⟨fn,g1,g2,g3⟩:=hI'.1
    have :(args.map a.eval++cl.toArray)=(args.toList.map a.eval++cl).toArray:=by cases args;simp
    have g2' : fn.name ≠ "runtime.NumGoroutine" := by simpa using g2
    have g3':fn.body≠none:=fun h=>by simp [h] at g3
    simp [execOp,hop,resolve,e1,Deferred.ofValue,invoke,callFunc,g1,g2',g3',this]
   ·cases h
  ·cases h
 case func g=>
  simp only [lK] at h
  split at h
  ·rename_i c cs hcs
   have hI':=hI g c (by rw [hcs];simp) ⟨[],rfl⟩
   refine key g c [] [] (hI'.2 cs hcs) .nil ?_ (by rw [List.append_nil];exact h)
   obtain ⟨fn,g1,g2,g3⟩:=hI'.1
   have :(args.map a.eval)=(args.toList.map a.eval).toArray:=by cases args;simp
   have g2' : fn.name ≠ "runtime.NumGoroutine" := by simpa using g2
   have g3':fn.body≠none:=fun h=>by simp [h] at g3
   simp [execOp,hop,resolve,Act.eval,Deferred.ofValue,invoke,callFunc,g1,g2',g3',this]
  ·cases h
theorem xq (hT:∀t i,E.T t=some i->fX P E t i)(hI:∀g c,c∈E.I g->dX P E E.np g c)(sm:fL E w0 M A s a w){k:V->St->aD}(h:lK E o.op s k=some ans) :
  ∀(K:Act->World->Prop) (Q:Exit->Act->World->Prop),(∀v s' cv w' A',k v s'=some ans->fL E w0 M A' s' a w'->V2 E.cells w' A' v cv->A'.Z=A.Z->K (a.put o.dst cv) w')->o.wp P a w K Q:=by
 intro K Q hK
 cases hop:o.op<;>rw [hop] at h<;>first | (simp only [lK] at h;cases h;done) | skip
 case slice t x lo hi mx=>
  cases lo<;>cases hi<;>cases mx<;>first | (simp only [lK] at h;cases h;done) | skip
  rename_i h0
  simp only [lK] at h
  split at h
  ·rename_i el hel
   obtain ⟨v,s',h1,h2⟩:=yf hT sm hop hel h
   exact h2 K Q fun cv w' A' g1 g2 g3=>hK v s' cv w' A' h1 g1 g2 g3
  ·cases h
 case call cc=>
  obtain ⟨callee,args,argTypes⟩:=cc
  cases callee with
  | builtin b=>simp only [lK] at h;cases h
  | invoke r n=>simp only [lK] at h;cases h
  | value f=>
   exact qT (X:=Du) sm hop (by rw [hop];exact h) (fun g c hc _=>⟨(hI g c hc).1,fun _ _=>(hI g c hc).2.1⟩) K Q fun v s' cv w' A' h1 h2 h3 h4 _=>hK v s' cv w' A' h1 h2 h3 h4
theorem kO (hT:∀t i,E.T t=some i->fX P E t i)(hG:∀g c,c∈E.G g->Valid P E g c)(hM:mG P E)(sm:fL E w0 M A s a w){k:V->St->aD}(h:gH E o.op s k=some ans) :
  ∀(K:Act->World->Prop) (Q:Exit->Act->World->Prop),(∀v s' cv w' A',k v s'=some ans->fL E w0 M A' s' a w'->V2 E.cells w' A' v cv->A'.Z=A.Z->K (a.put o.dst cv) w')->o.wp P a w K Q:=by
 intro Kn Q hK
 unfold gH at h
 cases ht:AT o.op<;>simp only [ht,aO,aR] at h
 ·cases hm:BR E o.op<;>simp only [hm,aO,aR] at h
  case true=>
   obtain ⟨v,s',h1,h2⟩:=xP hM.1 sm h
   exact h2 Kn Q fun cv w' A' g1 g2 g3=>hK v s' cv w' A' h1 g1 g2 g3
  cases hi:xX E o.op<;>simp only [hi,aO,aR] at h
  case true=>exact xq hT hM.2 sm h Kn Q hK
  obtain ⟨v,rs,h1,h2⟩:=kT hT hG sm.hp sm.ev h
  refine h2 (fun r h _=>sm.nx r h) Kn Q fun cv w' A' g1 g2 g3 g4=>?_
  exact hK v _ cv w' A' h1 ⟨g1,fun i x hx=>(sm.tm i x hx).step g2 sm.hp (fun _ h=>h),fun r hr hal=>by
   have hr':s.nx+rs.length<=r:=hr
   rcases g4 r hal with h | h
   ·exact sm.nx r (by omega) h
   ·omega,sm.df,sm.sz,sm.fr.mono fun _ _ h=>h.step g2 sm.hp (fun _ h=>h)⟩ g3 g2.Z
 ·obtain ⟨v,s',h1,h2⟩:=xp hT sm h
  exact h2 Kn Q fun cv w' A' g1 g2 g3=>hK v s' cv w' A' h1 g1 g2 g3
theorem tg {α:Type}{f:Nat->α}{d:Nat}{v:α}(h:f d=v):upd f d v=f:=by
 funext i
 by_cases hi:i=d
 ·subst hi;rw [aQ,h]
 ·rw [aI _ _ hi]
def zp (all:List Oper)(sl:Nat->V)(kn:Option (Nat×Nat×Bool)):Prop:=∀(j d:Nat) (t:Bool),kn=some (j,d,t)->sl d=.bool t/\∃o,all[j]?=some o/\o.dst=some d
theorem zp.st {all:List Oper}{s:St}{kn:Option (Nat×Nat×Bool)}(h:zp all s.sl kn):s.nV kn=s:=by
 match kn with
 | none=>rfl
 | some (j,d,t)=>simp only [St.nV];rw [tg (h j d t rfl).1]
theorem uA {nt d:Nat}{sl:Nat->V}{t:Bool}(h:look nt sl d=.bool t):sl d=.bool t:=by
 unfold look at h
 cases hb:Nat.blt d nt<;>simp only [hb,aO,aR] at h
 ·cases h
 ·exact h
theorem mS {nt:Nat}{all:List Oper}{sl:Nat->V}{g:Option (Nat×Bool)}{k:Bool->Option (Nat×Nat×Bool)->aD}(h:guarded nt all sl g k=some ans) :
  ∃go kn,k go kn=some ans/\zp all sl kn/\∀k':Bool->Option (Nat×Nat×Bool)->aD,guarded nt all sl g k'=k' go kn:=by
 unfold guarded at h
 split at h
 ·exact ⟨true,none,h,fun _ _ _ e=>(by cases e),fun _=>rfl⟩
 ·rename_i j b
  split at h
  ·cases h
  ·rename_i o ho
   split at h
   ·cases h
   ·rename_i d hd
    split at h
    ·rename_i t ht
     have hk:=uA ht
     cases t<;>simp only [aO,aR] at h
     ·exact ⟨_,_,h,fun _ _ _ e=>(by cases e;exact ⟨hk,o,ho,hd⟩),fun _=>by simp [guarded,ho,hd,ht]⟩
     ·exact ⟨_,_,h,fun _ _ _ e=>(by cases e;exact ⟨hk,o,ho,hd⟩),fun _=>by simp [guarded,ho,hd,ht]⟩
    ·rename_i ht
     exact ⟨_,_,h,fun _ _ _ e=>(by cases e),fun _=>by simp [guarded,ho,hd,ht]⟩
    ·cases h
theorem mm {sl:Nat->V}(tm:∀i x,a.tmps[i]?=some x->V2 E.cells w A (sl i) x)(sz:a.tmps.size=E.nt){ops:Array Oper}{go:Bool}{kn:Option (Nat×Nat×Bool)}
  (h:∀k':Bool->Option (Nat×Nat×Bool)->aD,guarded E.nt ops.toList sl o.guard k'=k' go kn):Region.wanted o (yielded ops a.tmps)=go:=by
 have h:=h (fun go _=>some [.bool go])
 unfold guarded at h
 unfold Region.wanted
 split at h
 ·rename_i hg;rw [hg];injection h with h;injection h with h;injection h
 ·rename_i j b hg
  rw [hg]
  simp only
  split at h
  ·cases h
  ·rename_i oj hj
   rw [Array.getElem?_toList] at hj
   split at h
   ·cases h
   ·rename_i d hd
    have hy:yielded ops a.tmps j=match a.tmps[d]? with | some (.bool b)=>some b | _=>none:=by
     simp only [yielded,hj,Option.bind_some,hd]
     cases a.tmps[d]? with
     | none=>rfl
     | some x=>cases x<;>rfl
    split at h
    ·rename_i t ht
     have hlt:Nat.blt d E.nt=true:=by
      cases hb:Nat.blt d E.nt with
      | true=>rfl
      | false=>simp [look,hb] at ht
     have hd':d<a.tmps.size:=by rw [sz];exact Nat.blt_eq.mp hlt
     have hx:=tm d _ (Array.getElem?_eq_getElem hd')
     simp only [look,hlt,aO] at ht
     rw [ht] at hx
     have hx':a.tmps[d]=.bool t:=hx
     rw [Array.getElem?_eq_getElem hd',hx'] at hy
     simp only at hy
     rw [hy]
     cases t<;>simp only [aO,aR] at h<;>injection h with h<;>injection h with h<;>injection h with h<;>subst h<;>cases b<;>rfl
    ·rename_i ht
     injection h with h;injection h with h;injection h with h
     subst h
     have :yielded ops a.tmps j=none:=by
      rw [hy]
      by_cases hd':d<a.tmps.size
      ·have hx:=tm d _ (Array.getElem?_eq_getElem hd')
       have hlt:Nat.blt d E.nt=true:=Nat.blt_eq.mpr (by rw [<-sz];exact hd')
       simp only [look,hlt,aO] at ht
       rw [ht] at hx
       have hx':a.tmps[d]=Go.undef:=hx
       rw [Array.getElem?_eq_getElem hd',hx'];rfl
      ·rw [Array.getElem?_eq_none (Nat.le_of_not_lt hd')]
     rw [this];rfl
    ·cases h
theorem pJ (sm:fL E w0 M A s a w){ops:Array Oper}{k:Bool->Option (Nat×Nat×Bool)->aD}(h:guarded E.nt ops.toList s.sl o.guard k=some ans) :
  ∃go kn,k go kn=some ans/\s.nV kn=s/\Region.wanted o (yielded ops a.tmps)=go:=by
 obtain ⟨go,kn,h1,h2,h3⟩:=mS h
 exact ⟨go,kn,h1,h2.st,mm sm.tm sm.sz h3⟩
theorem vU (hT:∀t i,E.T t=some i->fX P E t i)(hG:∀g c,c∈E.G g->Valid P E g c)(hM:mG P E){ops:Array Oper}{Q:Exit->Act->World->Prop}:∀{os:List Oper} {A:cD} {s:St} {a:Act} {w:World} {k:St->aD},
  fL E w0 M A s a w->iz E ops.toList os s k=some ans->(∀s' a' w' A',k s'=some ans->fL E w0 M A' s' a' w'->A'.Z=A.Z->Q .normal a' w')->wpList P ops Q os a w:=by
 intro os
 induction os with
 | nil=>intro A s a w k sm h hQ;exact hQ s a w A h sm rfl
 | cons o os ih=>
  intro A s a w k sm h hQ
  simp only [iz] at h
  refine wpList_step fun Kn hK=>?_
  obtain ⟨go,kn,h2,hkn,h1⟩:=pJ sm h
  rw [hkn] at h2
  cases go<;>simp only [aO,aR] at h2
  case true=>
   rw [if_pos h1]
   refine kO hT hG hM sm h2 Kn Q fun v s' cv w' A' g1 q1 q2 q3=>hK _ _ (ih (q1.put q2) g1 fun s'' a'' w'' A'' e1 e2 e3=>hQ s'' a'' w'' A'' e1 e2 (e3.trans q3))
  case false=>
   rw [if_neg (by simp [h1])]
   exact hK _ _ (ih (sm.put (v:=.undef) (cv:=undef) rfl) h2 hQ)
end
end Go.DM
set_option linter.unusedSectionVars false
namespace Go.DM
def cD.we (A:cD)(m:List Nat):cD:=
  { v:=fun j=>A.v (m.getD j 0),N:=fun j b=>∃r,m[j]?=some r/\A.N r b,al:=fun j=>∃r,m[j]?=some r/\A.al r,Z:=A.Z }
def wE {r:Nat}:∀{m:List Nat} {i j:Nat},idx r m i=some j->i<=j/\m[j - i]?=some r
 | [],i,j,h=>by cases h
 | a::m,i,j,h=>by
  simp only [idx] at h
  cases hb:Nat.beq a r<;>simp only [hb,aO,aR] at h
  ·obtain ⟨h1,h2⟩:=wE h
   refine ⟨by omega,?_⟩
   rw [show j - i=(j - (i+1))+1 by omega];simpa using h2
  ·injection h with h
   subst h
   exact ⟨Nat.le_refl _,by simp [Nat.eq_of_beq_eq_true hb]⟩
def xM {r:Nat}:∀{m:List Nat} {i:Nat},idx r m i=none->r∉m
 | [],i,h=>by simp
 | a::m,i,h=>by
  simp only [idx] at h
  cases hb:Nat.beq a r<;>simp only [hb,aO,aR] at h
  ·have:=xM h
   simp only [List.mem_cons,not_or]
   exact ⟨fun e=>by subst e;simp at hb,this⟩
  ·cases h
def Pre (m m':List Nat):Prop:=(∀(j r:Nat),m[j]?=some r->m'[j]?=some r)/\(m.Nodup->m'.Nodup)/\m.length<=m'.length
def Pre.refl (m:List Nat):Pre m m:=⟨fun _ _ h=>h,id,Nat.le_refl _⟩
def Pre.trans {a b c:List Nat}(h:Pre a b)(k:Pre b c):Pre a c:=⟨fun j r e=>k.1 j r (h.1 j r e),fun n=>k.2.1 (h.2.1 n),Nat.le_trans h.2.2 k.2.2⟩
section
variable {ans:List L}
theorem hU {r:Nat}{m:List Nat}{k:Nat->List Nat->aD}(h:lY r m k=some ans):∃j m',k j m'=some ans/\Pre m m'/\m'[j]?=some r:=by
 unfold lY at h
 split at h
 ·rename_i j hj
  have:=(wE hj).2
  exact ⟨j,m,h,Pre.refl m,by simpa using this⟩
 ·rename_i hj
  have hn:=xM hj
  refine ⟨_,_,h,⟨fun j r' e=>?_,fun hd=>?_,by simp⟩,by simp⟩
  ·rw [List.getElem?_append_left (List.getElem?_eq_some_iff.1 e).1];exact e
  ·rw [List.nodup_append]
   refine ⟨hd,by simp,fun a ha b hb=>?_⟩
   simp at hb;subst hb
   rintro rfl;exact hn ha
variable {T:Nat->List K} {w w0:World} {np:Nat} {M:Mem np} {A:cD}
theorem xu {m:List Nat}{j r b:Nat}(h:m[j]?=some r)(hb:A.N r b):(A.we m).N j b:=⟨r,h,hb⟩
theorem mF {m:List Nat}{b:Nat}(h:eo w A b):eo w (A.we m) b:=⟨h.1,h.2.1,fun _ ⟨r,_,hn⟩=>h.2.2 r hn⟩
theorem oN {m:List Nat}{j r b:Nat}(hj:m[j]?=some r)(h:fG w A (some r) b):fG w (A.we m) (some j) b:=h.imp (xu hj) mF
theorem mw {m:List Nat}{j r:Nat}(h:m[j]?=some r):(A.we m).v j=A.v r:=by simp [cD.we,List.getD_eq_getElem?_getD,h]
theorem je {m:List Nat}{j r:Nat}(h:m[j]?=some r)(ha:A.al r):(A.we m).al j:=⟨r,h,ha⟩
theorem qQ {v:V}{m:List Nat}{k:V->List Nat->aD}(h:vG v m k=some ans) :
  ∃v' m',k v' m'=some ans/\Pre m m'/\∀{mf:List Nat},Pre m' mf->∀{T:Nat->List K} {w:World} {A:cD} {x:Value},V0 T w A v x->V0 T w (A.we mf) v' x:=by
 cases v with
 | own r=>
  obtain ⟨j,m',h1,h2,h3⟩:=hU h
  exact ⟨_,_,h1,h2,fun {mf} hp {T w A x} hv=>⟨je (hp.1 _ _ h3) hv.1,by rw [mw (hp.1 _ _ h3)];exact hv.2.1,hv.2.2⟩⟩
 | sl d e xs=>
  cases d with
  | none=>exact ⟨_,_,h,Pre.refl m,fun {mf} hp {T w A x} hv=>⟨fun r hr=>(nomatch hr),hv.2.mono fun b hb=>mF hb⟩⟩
  | some r=>
   obtain ⟨j,m',h1,h2,h3⟩:=hU h
   exact ⟨_,_,h1,h2,fun {mf} hp {T w A x} hv=>⟨fun q hq=>by injection hq with hq;subst hq;exact je (hp.1 _ _ h3) (hv.1 r rfl),hv.2.mono fun b hb=>oN (hp.1 _ _ h3) hb⟩⟩
 | lit r a b=>
  obtain ⟨j,m',h1,h2,h3⟩:=hU h
  exact ⟨_,_,h1,h2,fun {mf} hp {T w A x} hv=>by
   obtain ⟨ha,g,e1,e2⟩:=hv
   exact ⟨je (hp.1 _ _ h3) ha,g,by rw [mw (hp.1 _ _ h3)];exact e1,e2⟩⟩
 | bP r o=>
  obtain ⟨j,m',h1,h2,h3⟩:=hU h
  exact ⟨_,_,h1,h2,fun {mf} hp {T w A x} hv=>by
   obtain ⟨ha,g,e1,e2⟩:=hv
   exact ⟨je (hp.1 _ _ h3) ha,g,by rw [mw (hp.1 _ _ h3)];exact e1,e2⟩⟩
 | fM r a i o=>
  obtain ⟨j,m',h1,h2,h3⟩:=hU h
  exact ⟨_,_,h1,h2,fun {mf} hp {T w A x} hv=>by
   obtain ⟨ha,g,n,c,e1,e2⟩:=hv
   exact ⟨je (hp.1 _ _ h3) ha,g,n,c,by rw [mw (hp.1 _ _ h3)];exact e1,e2⟩⟩
 | cS d a b c=>
  cases d with
  | none=>exact ⟨_,_,h,Pre.refl m,fun {mf} hp {T w A x} hv=>by
    obtain ⟨ha,b,p,vv,h1,h2,h3⟩:=hv
    exact ⟨fun r hr=>(nomatch hr),b,p,vv,h1,mF h2,fun j k hj=>⟨(h3 j k hj).1,(h3 j k hj).2.mono fun b hb=>mF hb⟩⟩⟩
  | some r=>
   obtain ⟨j,m',h1,h2,h3⟩:=hU h
   exact ⟨_,_,h1,h2,fun {mf} hp {T w A x} hv=>by
    obtain ⟨ha,b,p,vv,e1,e2,e3⟩:=hv
    exact ⟨fun q hq=>by injection hq with hq;subst hq;exact je (hp.1 _ _ h3) (ha r rfl),b,p,vv,e1,oN (hp.1 _ _ h3) e2,fun j k hj=>⟨(e3 j k hj).1,(e3 j k hj).2.mono fun b hb=>oN (hp.1 _ _ h3) hb⟩⟩⟩
 | gm r a i o e=>
  obtain ⟨j,m',h1,h2,h3⟩:=hU h
  exact ⟨_,_,h1,h2,fun {mf} hp {T w A x} hv=>by
   obtain ⟨ha,g,n,c,e1,e2,e3,e4⟩:=hv
   exact ⟨je (hp.1 _ _ h3) ha,g,n,c,by rw [mw (hp.1 _ _ h3)];exact e1,e2,xu (hp.1 _ _ h3) e3,e4⟩⟩
 | undef=>exact ⟨_,_,h,Pre.refl m,fun {mf} hp {T w A x} hv=>hv⟩
 | dead=>exact ⟨_,_,h,Pre.refl m,fun {mf} hp {T w A x} hv=>hv⟩
 | int=>exact ⟨_,_,h,Pre.refl m,fun {mf} hp {T w A x} hv=>hv⟩
 | bool=>exact ⟨_,_,h,Pre.refl m,fun {mf} hp {T w A x} hv=>hv⟩
 | str=>exact ⟨_,_,h,Pre.refl m,fun {mf} hp {T w A x} hv=>hv⟩
 | nil=>exact ⟨_,_,h,Pre.refl m,fun {mf} hp {T w A x} hv=>hv⟩
 | fn=>exact ⟨_,_,h,Pre.refl m,fun {mf} hp {T w A x} hv=>hv.elim⟩
 | agg=>exact ⟨_,_,h,Pre.refl m,fun {mf} hp {T w A x} hv=>hv.elim⟩
 | gW=>exact ⟨_,_,h,Pre.refl m,fun {mf} hp {T w A x} hv=>hv.elim⟩
theorem jM:∀{vs:List V} {m:List Nat} {k:List V->List Nat->aD},nK vs m k=some ans->
  ∃vs' m',k vs' m'=some ans/\Pre m m'/\∀{mf:List Nat},Pre m' mf->∀{T:Nat->List K} {w:World} {A:cD} {xs:List Value},(F2 (V0 T w A) vs xs->F2 (V0 T w (A.we mf)) vs' xs)/\(F2 (Vc T w A) vs xs->F2 (Vc T w (A.we mf)) vs' xs)
 | [],m,k,h=>⟨_,_,h,Pre.refl m,fun {mf} _ {T w A xs}=>⟨fun hf=>by cases hf;exact .nil,fun hf=>by cases hf;exact .nil⟩⟩
 | v::vs,m,k,h=>by
  simp only [nK] at h
  obtain ⟨v',m1,h1,h2,h3⟩:=qQ h
  obtain ⟨vs',m2,g1,g2,g3⟩:=jM h1
  refine ⟨_,_,g1,h2.trans g2,fun {mf} hp {T w A xs}=>⟨fun hf=>?_,fun hf=>?_⟩⟩
  ·cases hf with
   | cons ha ht=>exact .cons (h3 (g2.trans hp) ha) ((g3 hp).1 ht)
  ·cases hf with
   | cons ha ht=>exact .cons ⟨h3 (g2.trans hp) ha.1,ha.2⟩ ((g3 hp).2 ht)
theorem wu {v:V}{m:List Nat}{k:V->List Nat->aD}(h:AM v m k=some ans) :
  ∃v' m',k v' m'=some ans/\Pre m m'/\∀{mf:List Nat},Pre m' mf->∀{T:Nat->List K} {w:World} {A:cD} {x:Value},V2 T w A v x->V2 T w (A.we mf) v' x:=by
 have leaf:∀{v:V},(∀{T:Nat->List K} {w:World} {A:cD} {x:Value},V2 T w A v x->V0 T w A v x)->vG v m k=some ans->
   ∃v' m',k v' m'=some ans/\Pre m m'/\∀{mf:List Nat},Pre m' mf->∀{T:Nat->List K} {w:World} {A:cD} {x:Value},V2 T w A v x->V2 T w (A.we mf) v' x:=by
  intro v hv h
  obtain ⟨v',m',h1,h2,h3⟩:=qQ h
  exact ⟨v',m',h1,h2,fun {mf} hp {T w A x} hx=>V0.v2 (h3 hp (hv hx))⟩
 cases v with
 | gW vs=>exact ⟨_,_,h,Pre.refl m,fun {mf} hp {T w A x} _=>trivial⟩
 | agg cs=>
  obtain ⟨vs',m',h1,h2,h3⟩:=jM (k:=fun cs m=>k (.agg cs) m) h
  refine ⟨_,_,h1,h2,fun {mf} hp {T w A x} hx=>?_⟩
  obtain ⟨l,e1,e2⟩:=(show V1 T w A (.agg cs) x from hx)
  exact V1.v2 (v:=.agg _) ⟨l,e1,(h3 hp).2 e2⟩
 | fn f cs=>
  obtain ⟨vs',m',h1,h2,h3⟩:=jM (k:=fun cs m=>k (.fn f cs) m) h
  refine ⟨_,_,h1,h2,fun {mf} hp {T w A x} hx=>?_⟩
  obtain ⟨l,e1,e2⟩:=(show V1 T w A (.fn f cs) x from hx)
  exact V1.v2 (v:=.fn _ _) ⟨l,e1,(h3 hp).1 e2⟩
 | undef=>exact leaf (fun h=>h) h
 | dead=>exact leaf (fun h=>h) h
 | int=>exact leaf (fun h=>h) h
 | bool=>exact leaf (fun h=>h) h
 | str=>exact leaf (fun h=>h) h
 | nil=>exact leaf (fun h=>h) h
 | sl=>exact leaf (fun h=>h) h
 | own=>exact leaf (fun h=>h) h
 | lit=>exact leaf (fun h=>h) h
 | bP=>exact leaf (fun h=>h) h
 | gm=>exact leaf (fun h=>h) h
 | fM=>exact leaf (fun h=>h) h
 | cS=>exact leaf (fun h=>h) h
theorem pX:∀{vs:List V} {m:List Nat} {k:List V->List Nat->aD},rV vs m k=some ans->
  ∃vs' m',k vs' m'=some ans/\Pre m m'/\vs'.length=vs.length/\∀{mf:List Nat},Pre m' mf->∀{T:Nat->List K} {w:World} {A:cD} {j:Nat} {v:V} {x:Value},vs[j]?=some v->V2 T w A v x->∃v',vs'[j]?=some v'/\V2 T w (A.we mf) v' x
 | [],m,k,h=>⟨_,_,h,Pre.refl m,rfl,fun {mf} _ {T w A j v x} hj=>by simp at hj⟩
 | v::vs,m,k,h=>by
  simp only [rV] at h
  obtain ⟨v',m1,h1,h2,h3⟩:=wu h
  obtain ⟨vs',m2,g1,g2,gl,g3⟩:=pX h1
  refine ⟨_,_,g1,h2.trans g2,by simp [gl],fun {mf} hp {T w A j u x} hj hx=>?_⟩
  cases j with
  | zero=>
   simp at hj
   subst hj
   exact ⟨v',rfl,h3 (g2.trans hp) hx⟩
  | succ j=>exact g3 hp (by simpa using hj) hx
theorem mL {hp:Nat->aK}:∀{n j:Nat} {m:List Nat} {k:List aK->aD},j<=m.length->qw hp n j m k=some ans->
  ∃h mf,k h=some ans/\Pre m mf/\h.length+j=mf.length/\∀{i r:Nat},mf[j+i]?=some r->∃o',h[i]?=some o'/\(hp r=.dead->o'=.dead)/\∀{T:Nat->List K} {w:World} {A:cD},mf.Nodup->dB T w A r (hp r)->dB T w (A.we mf) (j+i) o'
 | 0,j,m,k,_,h=>by cases h
 | n+1,j,m,k,hjm,h=>by
  simp only [qw] at h
  split at h
  ·rename_i hj
   have :m.length<=j:=List.getElem?_eq_none_iff.1 hj
   refine ⟨_,m,h,Pre.refl m,by simp;omega,fun {i r} hi=>?_⟩
   rw [List.getElem?_eq_none (by omega)] at hi;cases hi
  ·rename_i r hr
   have hjl:j<m.length:=(List.getElem?_eq_some_iff.1 hr).1
   have other:∀{o:aK},hp r=o->(∀cs,o≠.box cs)->(qw hp n (j+1) m fun h=>k (yN o::h))=some ans->
     ∃h mf,k h=some ans/\Pre m mf/\h.length+j=mf.length/\∀{i r:Nat},mf[j+i]?=some r->∃o',h[i]?=some o'/\(hp r=.dead->o'=.dead)/\∀{T:Nat->List K} {w:World} {A:cD},mf.Nodup->dB T w A r (hp r)->dB T w (A.we mf) (j+i) o':=by
    intro o ho hnb h
    obtain ⟨hh,mf,g1,g2,g3,g4⟩:=mL (j:=j+1) (by omega) h
    refine ⟨_,mf,g1,g2,by simp;omega,fun {i q} hi=>?_⟩
    cases i with
    | zero=>
     have hq:q=r:=by
      have:=g2.1 j r hr
      rw [Nat.add_zero] at hi;rw [this] at hi;injection hi with hi;exact hi.symm
     subst hq
     refine ⟨yN o,rfl,fun e=>by rw [<-ho,e];rfl,fun {T w A} _ hok=>?_⟩
     rw [ho] at hok
     have hjq:mf[j]?=some q:=g2.1 j q hr
     cases o with
     | box cs=>exact (hnb cs rfl).elim
     | dead=>
      rintro b ⟨p,hp1,hp2⟩
      rw [Nat.add_zero,hjq] at hp1;injection hp1 with hp1;subst hp1
      exact hok b hp2
     | row e xs=>
      refine ⟨je hjq hok.1,?_⟩
      rw [Nat.add_zero,mw hjq]
      exact hok.2.mono fun b hb=>xu hjq hb
     | qt e xs i cs=>
      refine ⟨je hjq hok.1,?_⟩
      rw [Nat.add_zero,mw hjq]
      exact hok.2.2.mono fun b hb=>xu hjq hb
     | xW e xs i p=>
      refine ⟨je hjq hok.1,hok.2.1,?_⟩
      rw [Nat.add_zero,mw hjq]
      exact hok.2.2.move (fun _ _=>rfl) fun b hb=>xu hjq hb
     | vw e xs=>
      obtain ⟨k1,k2,k3,k4⟩:=hok
      refine ⟨je hjq k1,?_,?_,?_⟩
      ·rintro b ⟨p,hp1,hp2⟩
       rw [Nat.add_zero,hjq] at hp1;injection hp1 with hp1;subst hp1
       exact k2 b hp2
      ·rw [Nat.add_zero,mw hjq];exact k3
      ·rw [Nat.add_zero,mw hjq];exact k4.mono fun b hb=>mF hb
    | succ i=>
     have:=g4 (i:=i) (r:=q) (by rw [show j+1+i=j+(i+1) by omega];exact hi)
     rw [show j+1+i=j+(i+1) by omega] at this
     exact this
   split at h
   ·rename_i cs hcs
    obtain ⟨cs',m1,h1,h2,h3⟩:=jM h
    have hr1:=h2.1 j r hr
    obtain ⟨hh,mf,g1,g2,g3,g4⟩:=mL (j:=j+1) (by have:=h2.2.2;omega) h1
    refine ⟨_,mf,g1,h2.trans g2,by simp;omega,fun {i q} hi=>?_⟩
    cases i with
    | zero=>
     have hjr:=g2.1 j r hr1
     have hq:q=r:=by rw [Nat.add_zero,hjr] at hi;injection hi with hi;exact hi.symm
     subst hq
     refine ⟨_,rfl,fun e=>(by rw [e] at hcs;cases hcs),fun {T w A} hnd hok=>?_⟩
     rw [hcs] at hok
     obtain ⟨ha,g,te,cur,e1,e2,e3,e4⟩:=hok
     refine ⟨je hjr ha,g,te,cur,by rw [Nat.add_zero,mw hjr];exact e1,fun b=>?_,e3,(h3 g2).2 e4⟩
     constructor
     ·rintro ⟨p,hp1,hp2⟩
      rw [Nat.add_zero,hjr] at hp1;injection hp1 with hp1;subst hp1
      exact (e2 b).1 hp2
     ·intro hb;exact ⟨q,hjr,(e2 b).2 hb⟩
    | succ i=>
     have:=g4 (i:=i) (r:=q) (by rw [show j+1+i=j+(i+1) by omega];exact hi)
     rw [show j+1+i=j+(i+1) by omega] at this
     exact this
   ·rename_i hnb
    exact other rfl (fun cs he=>hnb cs he) h
theorem lD:∀{h:List aK} {i:Nat} {o:aK},h[i]?=some o->iq h i=o
 | [],i,o,h=>by simp at h
 | r::rs,0,o,h=>by simp at h;exact h
 | r::rs,i+1,o,h=>lD (h:=rs) (i:=i) (by simpa using h)
theorem oA:∀{h:List aK} {i:Nat},h.length<=i->iq h i=.dead
 | [],i,h=>rfl
 | r::rs,0,h=>by simp at h
 | r::rs,i+1,h=>oA (h:=rs) (i:=i) (by simpa using h)
theorem kC:∀n,(upTo n).length=n
 | 0=>rfl
 | n+1=>by simp [upTo,kC n]
theorem xK:∀{n j:Nat},j<n->(upTo n)[j]?=some j
 | 0,j,h=>by omega
 | n+1,j,h=>by
  simp only [upTo]
  by_cases hj:j<n
  ·rw [List.getElem?_append_left (by rw [kC];exact hj)];exact xK hj
  ·have :j=n:=by omega
   subst this
   rw [List.getElem?_append_right (by rw [kC];exact Nat.le_refl _),kC];simp
theorem zu:∀{n x:Nat},x∈upTo n->x<n
 | 0,x,h=>by simp [upTo] at h
 | n+1,x,h=>by
  simp only [upTo,List.mem_append,List.mem_singleton] at h
  rcases h with h | h
  ·have:=zu h;omega
  ·omega
theorem su:∀n,(upTo n).Nodup
 | 0=>by simp [upTo]
 | n+1=>by
  simp only [upTo]
  rw [List.nodup_append]
  exact ⟨su n,by simp,fun a ha b hb=>by simp at hb;have:=zu ha;omega⟩
theorem ve:∀{live:Live} {vs:List V} {i:Nat},uQ live vs i=.dead∨∃(j:Nat) (e:Option Nat) (v:V),live[j]?=some (i,e)/\vs[j]?=some v/\uQ live vs i=v
 | [],vs,i=>.inl (by cases vs<;>rfl)
 | (a,e)::as,[],i=>.inl rfl
 | (a,e)::as,v::vs,i=>by
  simp only [uQ]
  cases hb:Nat.beq i a with
  | true=>
   obtain rfl:=Nat.eq_of_beq_eq_true hb
   exact .inr ⟨0,e,v,rfl,rfl,rfl⟩
  | false=>
   rcases ve (live:=as) (vs:=vs) (i:=i) with h | ⟨j,e',v',h1,h2,h3⟩
   ·exact .inl h
   ·exact .inr ⟨j+1,e',v',by simpa using h1,by simpa using h2,h3⟩
end
def wQ:∀{vs:List V} {i:Nat},iQ vs i=.nil->vs[i]?=some .nil
 | [],_,h=>by cases h
 | v::vs,0,h=>by simpa [iQ] using h
 | v::vs,i+1,h=>by simpa using wQ (vs:=vs) (i:=i) h
def qL {b:Bool}{x:aD}{ans:List L}(h:(cond b x none)=some ans):b=true/\x=some ans:=by cases b<;>simp at h;exact ⟨rfl,h⟩
def qK {v:V}(hv:v≠.undef):∀{vs:List V} {i:Nat},iQ vs i=v->vs[i]?=some v
 | [],i,h=>(hv h.symm).elim
 | x::vs,0,h=>by simpa [iQ] using h
 | x::vs,i+1,h=>by simpa using qK hv (vs:=vs) (i:=i) h
def F2.setAt {α β:Type}{R:α->β->Prop}{as:List α}{bs:List β}(h:F2 R as bs):∀{i:Nat} {a:α} {b:β},bs[i]?=some b->R a b->F2 R (setAt as i a) bs:=by
 induction h with
 | nil=>intro i a b hb;simp at hb
 | cons h ht ih=>
  intro i a b hb hr
  cases i with
  | zero=>simp at hb;subst hb;exact .cons hr ht
  | succ i=>exact .cons h (ih (by simpa using hb) hr)
section
variable {E:Env} {w0 w:World} {M:Mem E.np} {A:cD} {s:St} {a:Act} {ans:List L}
section
variable {T:Nat->List K} {np:Nat} {M:Mem np} {hp:Nat->aK}
def cD.free (A:cD)(r:Nat):cD:={ A with N:=fun q b=>q≠r/\A.N q b }
theorem jc {r b:Nat}(h:eo w A b):eo w (A.free r) b:=⟨h.1,h.2.1,fun q hq=>h.2.2 q hq.2⟩
theorem oP (hh:Hp T w0 M A hp w){r b:Nat}(h:A.N r b):eo w (A.free r) b:=
 ⟨hh.zf b (hh.nm r b h),hh.lt r b h,fun q hq=>hq.1 (hh.dj q r b hq.2 h)⟩
theorem rE {r : Nat} {d : Option Nat} (hd : d ≠ some r) {b : Nat} (h : fG w A d b) : fG w (A.free r) d b := by
  cases d with
  | none => exact jc h
  | some q => rcases h with h | h
              · exact .inl ⟨fun e => hd (by rw [e]), h⟩
              · exact .inr (jc h)
theorem uh (r q:Nat):mM hp r (.own q)=bif Nat.beq q r then (match hp r with | .row e xs=>.sl none e xs | _=>.own q) else .own q:=rfl
theorem Az (r q e:Nat)(xs:aq):mM hp r (.sl (some q) e xs)=bif Nat.beq q r then .sl none e xs else .sl (some q) e xs:=rfl
theorem yh (r q:Nat)(a:List K)(b:List L)(c:Nat):mM hp r (.cS (some q) a b c)=bif Nat.beq q r then .cS none a b c else .cS (some q) a b c:=rfl
theorem Aw (r q a b c d:Nat):mM hp r (.gm q a b c d)=bif Nat.beq q r then .dead else .gm q a b c d:=rfl
theorem V0.free (hh:Hp T w0 M A hp w){r e0:Nat}{xs0:aq}(hr:hp r=.row e0 xs0){v:V}{x:Value}(hv:V0 T w A v x):V0 T w (A.free r) (mM hp r v) x:=by
 have ne:∀{q:Nat},Nat.beq q r=false->q≠r:=fun h e=>by rw [e,Nat.beq_refl] at h;cases h
 cases v with
 | own q=>
  rw [uh]
  cases hq:Nat.beq q r with
  | true=>
   obtain rfl:=Nat.eq_of_beq_eq_true hq
   rw [hr]
   have hroot:=hh.rt q
   rw [hr] at hroot
   refine ⟨(fun r hr=>nomatch hr),?_⟩
   rw [hv.2.1]
   exact hroot.2.rd.mono fun b hb=>oP hh hb
  | false=>exact hv
 | sl d e xs=>
  cases d with
  | none=>exact ⟨(fun r hr=>nomatch hr),hv.2.mono fun b hb=>jc hb⟩
  | some q=>
   rw [Az]
   cases hq:Nat.beq q r with
   | true=>
    obtain rfl:=Nat.eq_of_beq_eq_true hq
    exact ⟨(fun r hr=>nomatch hr),hv.2.mono fun b hb=>hb.elim (fun h=>oP hh h) fun h=>jc h⟩
   | false=>exact ⟨hv.1,hv.2.mono fun b hb=>rE (fun h=>by injection h with h;exact ne hq h) hb⟩
 | cS d es cs o=>
  have go:∀d d':Option Nat,(∀r,d'=some r->A.al r)->(∀b,fG w A d b->fG w (A.free r) d' b)->V0 T w A (.cS d es cs o) x->V0 T w (A.free r) (.cS d' es cs o) x:=by
   intro d d' ha hd ⟨_,b,q,v,h1,h2,h3⟩
   exact ⟨ha,b,q,v,h1,hd b h2,fun j k hj=>⟨(h3 j k hj).1,(h3 j k hj).2.mono hd⟩⟩
  cases d with
  | none=>exact go none none (fun r hr=>nomatch hr) (fun b hb=>jc hb) hv
  | some q=>
   rw [yh]
   cases hq:Nat.beq q r with
   | true=>
    obtain rfl:=Nat.eq_of_beq_eq_true hq
    exact go (some q) none (fun r hr=>nomatch hr) (fun b hb=>hb.elim (fun h=>oP hh h) fun h=>jc h) hv
   | false=>exact go (some q) (some q) hv.1 (fun b hb=>rE (fun h=>by injection h with h;exact ne hq h) hb) hv
 | gm q a b c d=>
  rw [Aw]
  cases hq:Nat.beq q r with
  | true=>exact trivial
  | false=>
   obtain ⟨ha,g,n,c',h1,h2,h3,h4⟩:=hv
   exact ⟨ha,g,n,c',h1,h2,⟨ne hq,h3⟩,h4⟩
 | lit q n e=>exact hv
 | bP q o=>exact hv
 | fM q sz i o=>exact hv
 | undef=>exact hv
 | dead=>exact hv
 | int=>exact hv
 | bool=>exact hv
 | str=>exact hv
 | nil=>exact hv
 | fn=>exact hv.elim
 | agg=>exact hv.elim
 | gW=>exact hv.elim
theorem tM (hh:Hp T w0 M A hp w){r e0:Nat}{xs0:aq}(hr:hp r=.row e0 xs0){cs:List V}{xs:List Value}(hf:F2 (Vc T w A) cs xs):F2 (Vc T w (A.free r)) (cs.map (mM hp r)) xs:=by
 induction hf with
 | nil=>exact .nil
 | cons h _ ih=>exact .cons ⟨h.1.free hh hr,h.2⟩ ih
theorem V2.free (hh:Hp T w0 M A hp w){r e0:Nat}{xs0:aq}(hr:hp r=.row e0 xs0){v:V}{x:Value}(hv:V2 T w A v x):V2 T w (A.free r) (Bx hp r v) x:=by
 cases v with
 | gW vs=>exact trivial
 | fn f cs=>
  obtain ⟨l,rfl,hl⟩:=(show V1 T w A (.fn f cs) x from hv)
  refine V1.v2 (v:=.fn f _) ⟨l,rfl,?_⟩
  clear hv
  induction hl with
  | nil=>exact .nil
  | cons hc _ ih=>exact .cons (V0.free hh hr hc) ih
 | agg cs=>obtain ⟨l,rfl,hl⟩:=hv;exact V1.v2 (v:=.agg _) ⟨l,rfl,tM hh hr hl⟩
 | undef=>exact V0.v2 (V0.free (v:=.undef) hh hr hv)
 | dead=>exact trivial
 | int k n=>exact V0.v2 (V0.free (v:=.int k n) hh hr hv)
 | bool b=>exact V0.v2 (V0.free (v:=.bool b) hh hr hv)
 | str s=>exact V0.v2 (V0.free (v:=.str s) hh hr hv)
 | nil=>exact V0.v2 (V0.free (v:=.nil) hh hr hv)
 | sl d e xs=>exact V0.v2 (V0.free (v:=.sl d e xs) hh hr hv)
 | own q=>
  have h:=V0.free (v:=.own q) hh hr hv
  show V2 T w (A.free r) (mM hp r (.own q)) x
  rw [uh] at h ⊢
  cases hq:Nat.beq q r<;>simp only [hq,aO,aR] at h ⊢
  ·exact V0.v2 h
  ·rw [hr] at h ⊢;exact V0.v2 h
 | lit q n e=>exact V0.v2 (V0.free (v:=.lit q n e) hh hr hv)
 | bP q o=>exact V0.v2 (V0.free (v:=.bP q o) hh hr hv)
 | fM q sz i o=>exact V0.v2 (V0.free (v:=.fM q sz i o) hh hr hv)
 | gm q a b c d=>exact V0.v2 (V0.free (v:=.gm q a b c d) hh hr hv)
 | cS d es cs o=>exact V0.v2 (V0.free (v:=.cS d es cs o) hh hr hv)
theorem dB.free (hh:Hp T w0 M A hp w){r e0 q:Nat}{xs0:aq}(hr:hp r=.row e0 xs0)(hq:q≠r){o:aK}(h:dB T w A q o):dB T w (A.free r) q (zm hp r o):=by
 cases o with
 | dead=>exact fun b hb=>h b hb.2
 | box cs=>
  obtain ⟨ha,g,te,cur,h1,h2,h3,h4⟩:=h
  exact ⟨ha,g,te,cur,h1,fun b=>⟨fun hb=>(h2 b).1 hb.2,fun hb=>⟨hq,(h2 b).2 hb⟩⟩,h3,tM hh hr h4⟩
 | row e xs=>exact ⟨h.1,h.2.mono fun b hb=>⟨hq,hb⟩⟩
 | qt e xs j cs=>exact ⟨h.1,h.2.1,h.2.2.mono fun b hb=>⟨hq,hb⟩⟩
 | xW e xs i o=>exact ⟨h.1,h.2.1,h.2.2.move (fun _ _=>rfl) fun b hb=>⟨hq,hb⟩⟩
 | vw e xs=>exact ⟨h.1,fun b hb=>h.2.1 b hb.2,h.2.2.1,h.2.2.2.mono fun b hb=>jc hb⟩
end
theorem fL.nZ (sm:fL E w0 M A s a w){r e0:Nat}{xs0:aq}(hr:s.hp r=.row e0 xs0):fL E w0 M (A.free r) (s.nZ r) a w:=by
 have hh:=sm.hp
 refine ⟨⟨fun q b h=>hh.lt q b h.2,fun q p b h h'=>hh.dj q p b h.2 h'.2,fun q h=>?_,fun q=>?_,hh.fr,fun q b h=>hh.nm q b h.2,hh.zf,hh.pn⟩,fun i x hx=>(sm.tm i x hx).free hh hr,sm.nx,sm.df,sm.sz,sm.fr.map' fun _ _ h=>h.free hh hr⟩
 ·show (cond (Nat.beq q r) aK.dead (zm s.hp r (s.hp q)))=.dead
  rw [hh.al q h]
  cases Nat.beq q r<;>rfl
 ·show dB E.cells w (A.free r) q (cond (Nat.beq q r) aK.dead (zm s.hp r (s.hp q)))
  cases hq:Nat.beq q r with
  | true=>
   obtain rfl:=Nat.eq_of_beq_eq_true hq
   exact fun b hb=>hb.1 rfl
  | false=>exact (hh.rt q).free hh hr fun e=>by rw [e,Nat.beq_refl] at hq;cases hq
theorem fL.oJ (sm:fL E w0 M A s a w){r n e:Nat}{k:St->aD}(h:oJ E s r n e k=some ans) :
  ∃s' A',k s'=some ans/\fL E w0 M A' s' a w/\A'.Z=A.Z/\(∀x,V0 E.cells w A (.lit r n e) x->V0 E.cells w A' (.own s.nx) x)/\∀p,A.al p->A'.v p=A.v p:=by
 have hh:=sm.hp
 have hnal:¬A.al s.nx:=sm.nx _ (Nat.le_refl _)
 unfold DM.oJ at h
 obtain ⟨hb,h⟩:=qL h
 have hn16:=Nat.le_of_ble_eq_true hb
 split at h
 case h_2=>cases h
 rename_i cs hbox
 obtain ⟨xs,hp1,c,f1,f2,fl,f3,f4,f5⟩:=jP h
 have hroot:=hh.rt r
 rw [hbox] at hroot
 obtain ⟨hal,g,te,cur,m1,m2,m3,m4⟩:=hroot
 have hne:s.hp r≠.dead:=by rw [hbox];simp
 have hall:=f5 hh (Sub.one _ _) m4
 have t1:=(fC.one hne).trans f3
 have hnx:s.hp s.nx=.dead:=hh.al _ hnal
 have hrn:r≠s.nx:=fun e=>hnal (e ▸ hal)
 let C:Nat->Prop:=fun q=>q=r∨∃i j,i<n/\j<(E.cells e).length/\c i j=some q
 have hC:∀q,C q->s.hp q≠.dead:=fun q hq=>t1.was q hq
 have hCn:∀q,C q->q≠s.nx:=fun q hq en=>hC q hq (en ▸ hnx)
 have Ay:fL E w0 M (A.dh s.nx (.slice (some ⟨g,0,none⟩) n n) C (fun _=>False)) (s.iX (upd hp1 s.nx (.row e xs)) (some r) s.nx (s.nx+1)) a w:=by
  refine fL.dh sm (fun q=>?_) (fun q hq=>by injection hq with hq;subst hq;exact hal) (.inr rfl) (fun h=>(hnal h).elim) (Nat.lt_succ_self _) (Nat.le_succ _) (fun q hq hc=>?_) (fun q hq hc=>?_) rfl rfl rfl (Nat.le_refl _) (fun _ _ _=>rfl) (fun _ h=>h.elim) (fun q e' xs' hq hrw hd=>?_) (fun mv=>?_)
  ·constructor
   ·intro hc
    refine .inr ⟨hC q hc,?_⟩
    rw [aI _ _ (hCn q hc)];exact t1.now q hc
   ·rintro (hq | hq)
    ·injection hq with hq;exact .inl hq.symm
    ·refine Classical.byContradiction fun hc=>?_
     by_cases hqn:q=s.nx
     ·subst hqn;exact hq.1 hnx
     ·have:=hq.2;rw [aI _ _ hqn,t1.rest q hc] at this;exact hq.1 this
  ·rw [aI _ _ hq];exact t1.now q hc
  ·rw [aI _ _ hq];exact t1.rest q hc
  ·injection hq with hq;subst hq;rw [hbox] at hrw;cases hrw
  ·rw [aQ]
   refine ⟨.inr rfl,?_⟩
   have hv:(A.dh s.nx (.slice (some ⟨g,0,none⟩) n n) C (fun _=>False)).v s.nx=.slice (some ⟨g,0,none⟩) n n:=by simp [cD.dh,aQ]
   have hN:∀q b,C q->A.N q b->(A.dh s.nx (.slice (some ⟨g,0,none⟩) n n) C (fun _=>False)).N s.nx b:=fun q b hq hb=>.inl ⟨rfl,.inr ⟨q,hq,hb⟩⟩
   rw [hv]
   refine .sl _ e n n g te cur _ (fun i j=>cur.toList.getD (i*(E.cells e).length+j) Go.undef) (fun i j p=>i<n/\j<(E.cells e).length/\rH A (c i j) p) f2 (Nat.le_refl _) (by simp only [maxLen];omega) m3 (by rw [<-fl,m4.length,Array.length_toList]) (hN r g (.inl rfl) ((m2 g).2 rfl)) (fun i j b hb=>?_) (fun i j i' j' b hb hb'=>?_) (fun i j kk hi hj=>?_) (fun i j kk hi hj=>?_)
   ·obtain ⟨hi,hj,q,hq,hn⟩:=hb
    refine ⟨hN q b (.inr ⟨i,j,hi,hj,hq⟩) hn,fun eb=>?_⟩
    have hw:=f3.was q ⟨i,j,hi,hj,hq⟩
    have :q=r:=hh.dj q r b hn ((m2 b).2 eb)
    rw [this,aQ] at hw;exact hw rfl
   ·obtain ⟨_,_,q,hq,hn⟩:=hb
    obtain ⟨_,_,q',hq',hn'⟩:=hb'
    rw [hh.dj q q' b hn hn'] at hq
    exact f4 _ _ _ _ _ hq hq'
   ·obtain ⟨y',y1,_,_⟩:=hall i j kk hi hj
    rw [<-Array.getElem?_toList,y1]
    simp only [List.getD_eq_getElem?_getD,y1];rfl
   ·obtain ⟨y',y1,_,y3⟩:=hall i j kk hi hj
    have hy':cur.toList.getD (i*(E.cells e).length+j) Go.undef=y':=by simp only [List.getD_eq_getElem?_getD,y1];rfl
    show fQ E.cells w _ kk (cur.toList.getD (i*(E.cells e).length+j) Go.undef) _
    rw [hy']
    exact y3.mono fun b hb=>⟨hi,(List.getElem?_eq_some_iff.1 hj).1,hb⟩
 refine ⟨_,_,f1,Ay,rfl,fun x hx=>?_,fun p hp=>?_⟩
 case refine_2=>
  have :p≠s.nx:=fun e=>hnal (e ▸ hp)
  show upd A.v s.nx _ p=_
  exact aI _ _ this
 obtain ⟨_,g',e1,rfl⟩:=hx
 obtain rfl:g=g':=by rw [e1] at m1;injection m1 with m1;injection m1 with m1;injection m1 with m1;exact m1.symm
 exact ⟨.inr rfl,by simp [cD.dh,aQ],_,_,_,rfl⟩
theorem fL.fV:∀{cs:List V} {A:cD} {s:St},fL E w0 M A s a w->∃A',fL E w0 M A' (fV s cs) a w/\A'.Z=A.Z
 | [],A,s,sm=>⟨A,sm,rfl⟩
 | v::cs,A,s,sm=>by
  have next:∀{r e:Nat} {xs:aq},s.hp r=.row e xs->∃A',fL E w0 M A' (DM.fV (s.nZ r) cs) a w/\A'.Z=A.Z:=fun hr=>by
   obtain ⟨A',h1,h2⟩:=fL.fV (cs:=cs) (sm.nZ hr)
   exact ⟨A',h1,h2⟩
  have same:∃A',fL E w0 M A' (DM.fV s cs) a w/\A'.Z=A.Z:=fL.fV sm
  cases v<;>first | exact same | skip
  case sl d e xs=>
   cases d with
   | none=>exact same
   | some r=>
    simp only [DM.fV]
    split
    ·rename_i hr;exact next hr
    ·exact same
  case own r=>
   simp only [DM.fV]
   split
   ·rename_i hr;exact next hr
   ·exact same
theorem fL.Bk (sm:fL E w0 M A s a w){t e:Nat}{k:St->aD}(h:Bk s t e k=some ans):∃s' A',k s'=some ans/\fL E w0 M A' s' a w/\A'.Z=A.Z:=by
 unfold DM.Bk at h
 split at h
 ·rename_i hnil
  refine ⟨_,A,h,⟨sm.hp,fun i x hx=>?_,sm.nx,sm.df,sm.sz,sm.fr⟩,rfl⟩
  show V2 E.cells w A (upd s.sl t (.sl none e []) i) x
  by_cases hi:i=t
  ·subst hi
   rw [aQ]
   have:=sm.tm i x hx
   rw [hnil] at this
   obtain ⟨b,rfl⟩:=(show V0 E.cells w A .nil x from this)
   exact V0.v2 (v:=.sl none e []) ⟨(fun r hr=>nomatch hr),.nil _ _ _ _ rfl⟩
  ·rw [aI _ _ hi];exact sm.tm i x hx
 ·split at h
  ·rename_i hr;exact ⟨_,_,h,sm.nZ hr,rfl⟩
  ·cases h
 ·split at h
  ·rename_i hr;exact ⟨_,_,h,sm.nZ hr,rfl⟩
  ·exact ⟨s,A,h,sm,rfl⟩
 ·obtain ⟨A',h1,h2⟩:=sm.fV
  exact ⟨_,A',h,h1,h2⟩
 ·split at h
  ·obtain ⟨A',h1,h2⟩:=sm.fV
   exact ⟨_,A',h,h1,h2⟩
  ·exact ⟨s,A,h,sm,rfl⟩
 ·exact ⟨s,A,h,sm,rfl⟩
theorem fL.coerce (sm:fL E w0 M A s a w){t:Nat}{e:Option Nat}{k:St->aD}(h:coerce E s t e k=some ans) :
  ∃s' A',k s'=some ans/\fL E w0 M A' s' a w/\A'.Z=A.Z:=by
 have hh:=sm.hp
 unfold DM.coerce at h
 split at h
 ·exact ⟨s,A,h,sm,rfl⟩
 rename_i e
 have hnal:¬A.al s.nx:=sm.nx _ (Nat.le_refl _)
 cases hlend:Nat.ble 1099511627776 e<;>simp only [hlend,aO,aR] at h
 case true=>exact sm.Bk h
 split at h
 ·
  rename_i hnil
  refine ⟨_,A.new s.nx (match a.tmps[t]? with | some x=>x | none=>.slice none 0 0) (fun _=>False),h,?_,rfl⟩
  have hx:∃b,(match a.tmps[t]? with | some x=>x | none=>.slice none 0 0)=Value.slice b 0 0:=by
   cases ht:a.tmps[t]? with
   | none=>exact ⟨_,rfl⟩
   | some x=>
    have:=sm.tm t x ht
    rw [hnil] at this
    exact (show V0 E.cells w A .nil x from this)
  obtain ⟨b,hb⟩:=hx
  have st:=Step.nY (w':=w) hh hnal (match a.tmps[t]? with | some x=>x | none=>.slice none 0 0) (fun _=>False) (fun _ h=>h.elim) (Nat.le_refl _) (fun _ _=>rfl)
  refine ⟨Hp.nY hh hnal _ _ (fun _ h=>h.elim) (Nat.le_refl _) (fun _ _=>rfl) hh.fr ⟨.inr rfl,?_⟩,fun i x hx=>?_,fun r hr hal=>?_,sm.df,sm.sz,sm.fr.mono fun _ _ h=>h.step st hh (fun _ h=>h)⟩
  ·simp only [cD.new,aQ,hb]
   exact .nil _ e b _ rfl
  ·by_cases hi:i=t
   ·subst hi
    simp only [aQ]
    refine V0.v2 (v:=.own s.nx) ⟨.inr rfl,by simp only [cD.new,aQ,hx],?_⟩
    rw [hx] at hb
    exact ⟨b,0,0,hb⟩
   ·simp only [aI _ _ hi]
    exact (sm.tm i x hx).step st hh (fun _ h=>h)
  ·rcases hal with hal | hal
   ·exact sm.nx r (by have :s.nx+1<=r:=hr;omega) hal
   ·have :s.nx+1<=r:=hr;omega
 ·
  rename_i r n e' hlit
  cases hb:(Nat.beq e e'&&Nat.ble n 16777216)<;>simp only [hb,aO,aR] at h
  ·cases h
  simp only [Bool.and_eq_true] at hb
  obtain rfl:=Nat.eq_of_beq_eq_true hb.1
  have hn16:=Nat.le_of_ble_eq_true hb.2
  split at h
  ·rename_i cs hbox
   obtain ⟨xs,hp1,c,f1,f2,fl,f3,f4,f5⟩:=jP h
   have hroot:=hh.rt r
   rw [hbox] at hroot
   obtain ⟨hal,g,te,cur,m1,m2,m3,m4⟩:=hroot
   have hne:s.hp r≠.dead:=by rw [hbox];simp
   have hall:=f5 hh (Sub.one _ _) m4
   have t1:=(fC.one hne).trans f3
   have hnx:s.hp s.nx=.dead:=hh.al _ hnal
   have hrn:r≠s.nx:=fun e=>hnal (e ▸ hal)
   let C:Nat->Prop:=fun q=>q=r∨∃i j,i<n/\j<(E.cells e).length/\c i j=some q
   have hC:∀q,C q->s.hp q≠.dead:=fun q hq=>t1.was q hq
   have hCn:∀q,C q->q≠s.nx:=fun q hq en=>hC q hq (en ▸ hnx)
   have Ay:fL E w0 M (A.dh s.nx (.slice (some ⟨g,0,none⟩) n n) C (fun _=>False)) (s.iX (upd hp1 s.nx (.row e xs)) (some r) s.nx (s.nx+1)) a w:=by
    refine fL.dh sm (fun q=>?_) (fun q hq=>by injection hq with hq;subst hq;exact hal) (.inr rfl) (fun h=>(hnal h).elim) (Nat.lt_succ_self _) (Nat.le_succ _) (fun q hq hc=>?_) (fun q hq hc=>?_) rfl rfl rfl (Nat.le_refl _) (fun _ _ _=>rfl) (fun _ h=>h.elim) (fun q e' xs' hq hrw hd=>?_) (fun mv=>?_)
    ·constructor
     ·intro hc
      refine .inr ⟨hC q hc,?_⟩
      rw [aI _ _ (hCn q hc)];exact t1.now q hc
     ·rintro (hq | hq)
      ·injection hq with hq;exact .inl hq.symm
      ·refine Classical.byContradiction fun hc=>?_
       by_cases hqn:q=s.nx
       ·subst hqn;exact hq.1 hnx
       ·have:=hq.2;rw [aI _ _ hqn,t1.rest q hc] at this;exact hq.1 this
    ·rw [aI _ _ hq];exact t1.now q hc
    ·rw [aI _ _ hq];exact t1.rest q hc
    ·injection hq with hq;subst hq;rw [hbox] at hrw;cases hrw
    ·rw [aQ]
     refine ⟨.inr rfl,?_⟩
     have hv:(A.dh s.nx (.slice (some ⟨g,0,none⟩) n n) C (fun _=>False)).v s.nx=.slice (some ⟨g,0,none⟩) n n:=by simp [cD.dh,aQ]
     have hN:∀q b,C q->A.N q b->(A.dh s.nx (.slice (some ⟨g,0,none⟩) n n) C (fun _=>False)).N s.nx b:=fun q b hq hb=>.inl ⟨rfl,.inr ⟨q,hq,hb⟩⟩
     rw [hv]
     refine .sl _ e n n g te cur _ (fun i j=>cur.toList.getD (i*(E.cells e).length+j) Go.undef) (fun i j p=>i<n/\j<(E.cells e).length/\rH A (c i j) p) f2 (Nat.le_refl _) (by simp only [maxLen];omega) m3 (by rw [<-fl,m4.length,Array.length_toList]) (hN r g (.inl rfl) ((m2 g).2 rfl)) (fun i j b hb=>?_) (fun i j i' j' b hb hb'=>?_) (fun i j kk hi hj=>?_) (fun i j kk hi hj=>?_)
     ·obtain ⟨hi,hj,q,hq,hn⟩:=hb
      refine ⟨hN q b (.inr ⟨i,j,hi,hj,hq⟩) hn,fun eb=>?_⟩
      have hw:=f3.was q ⟨i,j,hi,hj,hq⟩
      have :q=r:=hh.dj q r b hn ((m2 b).2 eb)
      rw [this,aQ] at hw;exact hw rfl
     ·obtain ⟨_,_,q,hq,hn⟩:=hb
      obtain ⟨_,_,q',hq',hn'⟩:=hb'
      rw [hh.dj q q' b hn hn'] at hq
      exact f4 _ _ _ _ _ hq hq'
     ·obtain ⟨y',y1,_,_⟩:=hall i j kk hi hj
      rw [<-Array.getElem?_toList,y1]
      simp only [List.getD_eq_getElem?_getD,y1];rfl
     ·obtain ⟨y',y1,_,y3⟩:=hall i j kk hi hj
      have hy':cur.toList.getD (i*(E.cells e).length+j) Go.undef=y':=by simp only [List.getD_eq_getElem?_getD,y1];rfl
      show fQ E.cells w _ kk (cur.toList.getD (i*(E.cells e).length+j) Go.undef) _
      rw [hy']
      exact y3.mono fun b hb=>⟨hi,(List.getElem?_eq_some_iff.1 hj).1,hb⟩
   refine ⟨_,_,f1,⟨Ay.hp,fun i x hx=>?_,Ay.nx,Ay.df,Ay.sz,Ay.fr⟩,rfl⟩
   by_cases hi:i=t
   ·subst hi
    simp only [aQ]
    have:=sm.tm i x hx
    rw [hlit] at this
    obtain ⟨_,g',e1,rfl⟩:=(show V0 E.cells w A (.lit r n e) x from this)
    obtain rfl:g=g':=by rw [e1] at m1;injection m1 with m1;injection m1 with m1;injection m1 with m1;exact m1.symm
    exact V0.v2 (v:=.own s.nx) ⟨.inr rfl,by simp [cD.dh,aQ],_,_,_,rfl⟩
   ·simp only [aI _ _ hi]
    exact Ay.tm i x hx
  ·cases h
 ·
  rename_i r q hbp
  split at h
  ·rename_i cs hcs
   split at h
   ·rename_i hnil
    have hget:=wQ hnil
    have hroot:=hh.rt r
    rw [hcs] at hroot
    obtain ⟨ha,g,te,cur,m1,m2,m3,m4⟩:=hroot
    obtain ⟨x,hx,⟨b,rfl⟩,hone⟩:=m4.get hget
    have hrn:r≠s.nx:=fun e=>hnal (e ▸ ha)
    have st:=Step.nY (w':=w) hh hnal (Value.slice b 0 0) (fun _=>False) (fun _ h=>h.elim) (Nat.le_refl _) (fun _ _=>rfl)
    have h1:Hp E.cells w0 M (A.new s.nx (Value.slice b 0 0) (fun _=>False)) (upd s.hp s.nx (.row (e % 1048576) [])) w:=Hp.nY hh hnal _ _ (fun _ h=>h.elim) (Nat.le_refl _) (fun _ _=>rfl) hh.fr ⟨.inr rfl,by simp only [cD.new,aQ];exact .nil _ _ b _ rfl⟩
    refine ⟨_,A.new s.nx (.slice b 0 0) (fun _=>False),h,⟨⟨h1.lt,h1.dj,fun p hp=>?_,fun p=>?_,h1.fr,h1.nm,h1.zf,h1.pn⟩,fun i x hx=>(sm.tm i x hx).step st hh (fun _ h=>h),fun p hp hal=>?_,sm.df,sm.sz,sm.fr.mono fun _ _ h=>h.step st hh (fun _ h=>h)⟩,rfl⟩
    ·have h2:=h1.al p hp
     have hp1:p≠s.nx:=fun e=>hp (.inr e)
     have hp2:p≠r:=fun e=>hp (.inl (e ▸ ha))
     simp only [aI _ _ hp1] at h2 ⊢
     rw [aI _ _ hp2];exact h2
    ·have h2:=h1.rt p
     by_cases hp1:p=s.nx
     ·subst hp1
      simp only [aQ] at h2 ⊢
      exact h2
     ·simp only [aI _ _ hp1] at h2 ⊢
      by_cases hp2:p=r
      ·subst hp2
       rw [hcs] at h2
       rw [aQ]
       obtain ⟨ha',g',te',cur',n1,n2,n3,n4⟩:=h2
       have hg:g=g':=by
        have :(A.new s.nx (Value.slice b 0 0) (fun _=>False)).v p=A.v p:=aI _ _ hrn
        rw [this,m1] at n1;injection n1 with n1;injection n1 with n1;injection n1
       subst hg
       rw [m3] at n3
       injection n3 with n3
       injection n3 with n3
       subst n3
       refine ⟨ha',g,te,cur,n1,n2,m3,n4.setAt hx ⟨⟨.inr rfl,by simp only [cD.new,aQ],b,0,0,rfl⟩,hone⟩⟩
      ·rw [aI _ _ hp2];exact h2
    ·rcases hal with hal | hal
     ·exact sm.nx p (by have :s.nx+1<=p:=hp;omega) hal
     ·have :s.nx+1<=p:=hp;omega
   ·
    rename_i q' n e' hlit
    obtain ⟨_,h⟩:=qL h
    have hroot:=hh.rt r
    rw [hcs] at hroot
    obtain ⟨s',A',g1,g2,g3,g4,g5⟩:=sm.oJ h
    split at g1
    case h_2=>cases g1
    rename_i cs' hcs'
    have hroot':=g2.hp.rt r
    rw [hcs'] at hroot'
    obtain ⟨ha,g,te,cur,m1,m2,m3,m4⟩:=hroot'
    have hget:=qK (by simp) hlit
    obtain ⟨ha0,g0,te0,cur0,n1,n2,n3,n4⟩:=hroot
    obtain ⟨x,hx,hv⟩:=n4.get hget
    have hsame:cur0=cur:=by
     rw [g5 r ha0,n1] at m1
     injection m1 with m1;injection m1 with m1;injection m1 with m1
     subst m1
     rw [n3] at m3
     injection m3 with m3;injection m3 with m3
    subst hsame
    refine ⟨_,A',g1,⟨⟨g2.hp.lt,g2.hp.dj,fun p hp=>?_,fun p=>?_,g2.hp.fr,g2.hp.nm,g2.hp.zf,g2.hp.pn⟩,g2.tm,g2.nx,g2.df,g2.sz,g2.fr⟩,g3⟩
    ·have hpr:p≠r:=fun e=>hp (e ▸ ha)
     show upd s'.hp r _ p=_
     rw [aI _ _ hpr];exact g2.hp.al p hp
    ·show dB E.cells w A' p (upd s'.hp r _ p)
     by_cases hpr:p=r
     ·subst hpr
      rw [aQ]
      exact ⟨ha,g,te,cur0,m1,m2,m3,m4.setAt hx ⟨g4 x hv.1,hv.2⟩⟩
     ·rw [aI _ _ hpr];exact g2.hp.rt p
   ·exact ⟨s,A,h,sm,rfl⟩
  ·exact ⟨s,A,h,sm,rfl⟩
 ·
  rename_i cs hagg
  split at h
  ·rename_i q' n e' hlit
   obtain ⟨_,h⟩:=qL h
   obtain ⟨s',A',g1,g2,g3,g4,g5⟩:=sm.oJ h
   split at g1
   case h_2=>cases g1
   rename_i cs' hcs'
   have hget:=qK (by simp) hlit
   refine ⟨_,A',g1,⟨g2.hp,fun i x hx=>?_,g2.nx,g2.df,g2.sz,g2.fr⟩,g3⟩
   show V2 E.cells w A' (upd s'.sl t _ i) x
   by_cases hi:i=t
   ·subst hi
    rw [aQ]
    have h0:=sm.tm i x hx
    rw [hagg] at h0
    have h1:=g2.tm i x hx
    rw [hcs'] at h1
    obtain ⟨arr,q1,q2⟩:=(show V1 E.cells w A (.agg cs) x from h0)
    obtain ⟨arr',q3,q4⟩:=(show V1 E.cells w A' (.agg cs') x from h1)
    rw [q1] at q3
    injection q3 with q3
    have q3:=List.toArray_inj q3
    subst q3
    obtain ⟨y,hy,hv⟩:=q2.get hget
    exact (show V1 E.cells w A' (.agg (setAt cs' _ (.own s.nx))) x from ⟨arr,q1,q4.setAt hy ⟨g4 y hv.1,hv.2⟩⟩)
   ·rw [aI _ _ hi];exact g2.tm i x hx
  ·exact ⟨s,A,h,sm,rfl⟩
 ·exact ⟨s,A,h,sm,rfl⟩
theorem fL.gU:∀{l:Live} {A:cD} {s:St} {k:St->aD},fL E w0 M A s a w->gU E l s k=some ans->∃s' A',k s'=some ans/\fL E w0 M A' s' a w/\A'.Z=A.Z
 | [],A,s,k,sm,h=>⟨s,A,h,sm,rfl⟩
 | (t,e)::l,A,s,k,sm,h=>by
  simp only [DM.gU] at h
  obtain ⟨s1,A1,h1,h2,h3⟩:=sm.coerce h
  obtain ⟨s2,A2,g1,g2,g3⟩:=fL.gU h2 h1
  exact ⟨s2,A2,g1,g2,g3.trans h3⟩
theorem wI (sm:fL E w0 M A s a w){live:Live}{k:List V->List aK->aD}(h:canon E live s k=some ans) :
  ∃vs hs A',k vs hs=some ans/\fL E w0 M A' (iT live vs hs) a w/\A'.Z=A.Z:=by
 unfold canon at h
 cases hfe:s.fr.isEmpty<;>simp only [hfe,aO,aR] at h
 ·cases h
 have hsv:M.sv=[]:=by
  have:=sm.fr.length
  rw [List.isEmpty_iff.1 hfe] at this
  exact List.eq_nil_of_length_eq_zero this.symm
 obtain ⟨s1,A1,h1,h2,h3⟩:=sm.gU h
 obtain ⟨vs,m,g1,g2,gl,g3⟩:=pX h1
 obtain ⟨hs,mf,f1,f2,f3,f4⟩:=mL (Nat.zero_le _) g1
 have hnd:mf.Nodup:=f2.2.1 (g2.2.1 (su _))
 have hh:=h2.hp
 have hget:∀j r,mf[j]?=some r->iq hs j=.dead∨dB E.cells w (A1.we mf) j (iq hs j):=by
  intro j r hj
  obtain ⟨o',e1,_,e2⟩:=f4 (i:=j) (r:=r) (by rw [Nat.zero_add];exact hj)
  rw [lD e1]
  have:=e2 hnd (hh.rt r)
  rw [Nat.zero_add] at this
  exact .inr this
 refine ⟨vs,hs,A1.we mf,f1,⟨⟨fun r b hb=>?_,fun r q b hb hb'=>?_,fun r hr=>?_,fun r=>?_,hh.fr,fun r b hb=>?_,hh.zf,fun j hj=>?_⟩,fun i x hx=>?_,fun r hr hal=>?_,h2.df,h2.sz,by rw [hsv];exact .nil⟩,h3⟩
 ·obtain ⟨q,_,hn⟩:=hb;exact hh.lt q b hn
 ·obtain ⟨p,hp,hn⟩:=hb
  obtain ⟨p',hp',hn'⟩:=hb'
  have:=hh.dj p p' b hn hn'
  subst this
  have h1:=(List.getElem?_eq_some_iff.1 hp).1
  exact (List.getElem?_inj h1 hnd).1 (hp.trans hp'.symm)
 ·by_cases hl:r<mf.length
  ·have hr':mf[r]?=some mf[r]:=List.getElem?_eq_getElem hl
   obtain ⟨o',e1,e3,e2⟩:=f4 (i:=r) (r:=mf[r]) (by rw [Nat.zero_add];exact hr')
   show iq hs r=.dead
   rw [lD e1]
   exact e3 (hh.al _ fun ha=>hr ⟨_,hr',ha⟩)
  ·exact oA (by omega)
 ·show dB E.cells w (A1.we mf) r (iq hs r)
  by_cases hl:r<mf.length
  ·have hr':mf[r]?=some mf[r]:=List.getElem?_eq_getElem hl
   obtain ⟨o',e1,e3,e2⟩:=f4 (i:=r) (r:=mf[r]) (by rw [Nat.zero_add];exact hr')
   rw [lD e1]
   have:=e2 hnd (hh.rt mf[r])
   rwa [Nat.zero_add] at this
  ·rw [oA (by omega)]
   rintro b ⟨q,hq,_⟩
   rw [List.getElem?_eq_none (by omega)] at hq;cases hq
 ·obtain ⟨q,_,hn⟩:=hb;exact hh.nm q b hn
 ·have hj':=f2.1 _ _ (g2.1 _ _ (xK hj))
  exact ⟨je hj' (hh.pn j hj).1,(mw hj').trans (hh.pn j hj).2⟩
 ·show V2 E.cells w (A1.we mf) (uQ live vs i) x
  rcases ve (live:=live) (vs:=vs) (i:=i) with hd | ⟨j,e,v,e1,e2,e3⟩
  ·rw [hd];exact trivial
  ·rw [e3]
   have hj:(live.map fun x=>s1.sl x.1)[j]?=some (s1.sl i):=by rw [List.getElem?_map,e1];rfl
   obtain ⟨v',q1,q2⟩:=g3 f2 hj (h2.tm i x hx)
   rw [e2] at q1;injection q1 with q1;subst q1
   exact q2
 ·obtain ⟨q,hq,_⟩:=hal
  have :hs.length<=r:=hr
  rw [List.getElem?_eq_none (by omega)] at hq;cases hq
end
end Go.DM

end
