/- A small machine over the translated code, and the proof that what it computes the code does. Conditions: none. -/
import Derived.Test.YtgagkddebgbdmaaGreatResolveFromDb
import Derived.Laws.Cover3
import Derived.Scope
import Derived.Laws.Sem
import Derived.Orders
set_option linter.all false
noncomputable section
set_option linter.unusedSectionVars false
namespace Go.DM
section
variable {P:Program} {E:Env} {w0 w:World} {np:Nat} {M:Mem np} {A:dS} {s:St} {o:Oper} {a:Act} {k:V->St->aI} {bQ:List L}
theorem Sub.one (hp:Nat->aW)(r:Nat):Sub (upd hp r .dead) hp:=fun p=>by
 by_cases hp:p=r
 ·subst hp;exact .inr (bG _ _ _)
 ·exact .inl (bB _ _ hp)
theorem iW {q:Nat}:∀{rs:List Nat},lu rs q=true↔q∈rs
 | []=>by simp [lu]
 | r::rs=>by
  have :Nat.beq q r=true↔q=r:=⟨Nat.eq_of_beq_eq_true,fun h=>by subst h;exact Nat.beq_refl _⟩
  simp only [lu,Bool.or_eq_true,List.mem_cons,iW (rs:=rs),this]
section
variable {T:Nat->List K} {w':World} {A':dS} {hp:Nat->aW}
theorem vD (rs:List Nat)(q e:Nat)(xs:aB):kg rs (.sl (some q) e xs)=bif lu rs q then .dead else .sl (some q) e xs:=rfl
theorem sH (rs:List Nat)(q:Nat)(a:List K)(b:List L)(c:Nat):kg rs (.dQ (some q) a b c)=bif lu rs q then .dead else .dQ (some q) a b c:=rfl
theorem uy (rs:List Nat)(q a b c d:Nat):kg rs (.gG q a b c d)=bif lu rs q then .dead else .gG q a b c d:=rfl
theorem V0.kill {rs:List Nat}(st:Step A A' w w' (fun r=>r∈rs))(hh:Hp T w0 M A hp w){v:V}{x:Value}(hv:V0 T w A v x):V0 T w' A' (kg rs v) x:=by
 cases v with
 | sl d e xs=>
  cases d with
  | none=>exact V0.step (v:=.sl none e xs) st hh hv trivial
  | some q=>
   rw [vD]
   cases hq:lu rs q with
   | true=>exact trivial
   | false=>exact V0.step (v:=.sl (some q) e xs) st hh hv (fun h=>by rw [iW.2 h] at hq;cases hq)
 | dQ d es cs o=>
  cases d with
  | none=>exact V0.step (v:=.dQ none es cs o) st hh hv trivial
  | some q=>
   rw [sH]
   cases hq:lu rs q with
   | true=>exact trivial
   | false=>exact V0.step (v:=.dQ (some q) es cs o) st hh hv (fun h=>by rw [iW.2 h] at hq;cases hq)
 | gG q a b c d=>
  rw [uy]
  cases hq:lu rs q with
  | true=>exact trivial
  | false=>exact V0.step (v:=.gG q a b c d) st hh hv (fun h=>by rw [iW.2 h] at hq;cases hq)
 | own q=>exact V0.step (v:=.own q) st hh hv trivial
 | lit q n e=>exact V0.step (v:=.lit q n e) st hh hv trivial
 | cC q o=>exact V0.step (v:=.cC q o) st hh hv trivial
 | gi q sz i o=>exact V0.step (v:=.gi q sz i o) st hh hv trivial
 | undef=>exact hv
 | dead=>exact hv
 | int=>exact hv
 | bool=>exact hv
 | str=>exact hv
 | nil=>exact hv
 | fn=>exact hv.elim
 | agg=>exact hv.elim
 | iS=>exact hv.elim
theorem lY {rs:List Nat}(st:Step A A' w w' (fun r=>r∈rs))(hh:Hp T w0 M A hp w){cs:List V}{xs:List Value}(hf:F2 (Vc T w A) cs xs):F2 (Vc T w' A') (cs.map (kg rs)) xs:=by
 induction hf with
 | nil=>exact .nil
 | cons h _ ih=>exact .cons ⟨h.1.kill st hh,h.2⟩ ih
theorem V2.kill {rs:List Nat}(st:Step A A' w w' (fun r=>r∈rs))(hh:Hp T w0 M A hp w){v:V}{x:Value}(hv:V2 T w A v x):V2 T w' A' (iI rs v) x:=by
 cases v with
 | iS vs=>exact trivial
 | fn f cs=>
  obtain ⟨l,rfl,hl⟩:=(show V1 T w A (.fn f cs) x from hv)
  refine V1.v2 (v:=.fn f _) ⟨l,rfl,?_⟩
  clear hv
  induction hl with
  | nil=>exact .nil
  | cons hc _ ih=>exact .cons (V0.kill st hh hc) ih
 | agg cs=>obtain ⟨l,rfl,hl⟩:=hv;exact V1.v2 (v:=.agg _) ⟨l,rfl,lY st hh hl⟩
 | undef=>exact V0.v2 (V0.kill (v:=.undef) st hh hv)
 | dead=>exact trivial
 | int k n=>exact V0.v2 (V0.kill (v:=.int k n) st hh hv)
 | bool b=>exact V0.v2 (V0.kill (v:=.bool b) st hh hv)
 | str s=>exact V0.v2 (V0.kill (v:=.str s) st hh hv)
 | nil=>exact V0.v2 (V0.kill (v:=.nil) st hh hv)
 | sl d e xs=>exact V0.v2 (V0.kill (v:=.sl d e xs) st hh hv)
 | own q=>exact V0.v2 (V0.kill (v:=.own q) st hh hv)
 | lit q n e=>exact V0.v2 (V0.kill (v:=.lit q n e) st hh hv)
 | cC q o=>exact V0.v2 (V0.kill (v:=.cC q o) st hh hv)
 | gi q sz i o=>exact V0.v2 (V0.kill (v:=.gi q sz i o) st hh hv)
 | gG q a b c d=>exact V0.v2 (V0.kill (v:=.gG q a b c d) st hh hv)
 | dQ d es cs o=>exact V0.v2 (V0.kill (v:=.dQ d es cs o) st hh hv)
end
theorem gU.split (sm:gU E w0 M A s a w){r sz er i q e:Nat}{xs:aB}(hr:s.hp r=.row er xs)(hsz:sz=(E.cells er).length)(hk:(E.cells er)[q]?=some (.sl e)){x:Value}(hv:V0 E.cells w A (.gG r sz i q e) x) :
  ∃A',gU E w0 M A' (s.split r er xs i q e ((xs.getD i []).getD q .hole).dP) a w/\V2 E.cells w A' (.own s.nx) x/\A'.Z=A.Z:=by
 have hh:=sm.hp
 obtain ⟨hal,g,n,c,e1,ei,hg,hc⟩:=hv
 have hroot:=hh.rt r
 rw [hr] at hroot
 have hown:=hroot.2
 rw [e1] at hown
 obtain ⟨te,cur,vv,Sf,k1,k2,k3,k4,k5,k6,k7,k8,k9,k10⟩:=hown.inv (by omega)
 have hx:x=vv i q:=by
  have:=k9 i q _ ei hk
  rw [gB k4,hsz,this] at hc
  injection hc with hc;exact hc.symm
 subst hx
 have ho:=k10 i q _ ei hk
 have hnal:¬A.al s.nx:=sm.nx _ (Nat.le_refl _)
 have hrn:r≠s.nx:=fun h=>hnal (h ▸ hal)
 have hF:∀b,Sf i q b->A.N r b:=fun b hb=>(k7 i q b hb).1
 have hFq:∀{p b},A.N p b->Sf i q b->p=r:=fun h1 h2=>hh.dj _ r _ h1 (hF _ h2)
 let A':dS:={ v:=upd A.v s.nx (vv i q),N:=fun p b=>(p=s.nx/\Sf i q b)∨(A.N p b/\¬Sf i q b),al:=fun p=>A.al p∨p=s.nx,Z:=A.Z }
 have hv':∀p,A.al p->A'.v p=A.v p:=fun p hp=>bB _ _ (by rintro rfl;exact hnal hp)
 have st:Step A A' w w (fun p=>p∈[r]):=by
  refine ⟨rfl,fun _ h=>.inl h,hv',Nat.le_refl _,fun _ _ _=>rfl,fun p h1 h2 b=>⟨fun h=>?_,fun h=>.inr ⟨h,fun h'=>h2 (by rw [hFq h h'];exact .head _)⟩⟩,fun p b h1 h2=>?_⟩
  ·rcases h with ⟨rfl,_⟩ | h
   ·exact (hnal h1).elim
   ·exact h.1
  ·rcases h2 with ⟨_,h2⟩ | h2
   ·exact .inl ⟨r,.head _,hF b h2⟩
   ·rcases h1 with h1 | h1
    ·exact .inl ⟨p,h1,h2.1⟩
    ·exact (h1 (hh.xV h2.1)).elim
 obtain ⟨a0,n0,c0,h0,_⟩:=ho.wP
 refine ⟨A',⟨⟨fun p b h=>?_,fun p p' b h h'=>?_,fun p h=>?_,fun p=>?_,hh.fr,fun p b h=>?_,hh.zf,fun j hj=>⟨.inl (hh.pn j hj).1,(hv' j (hh.pn j hj).1).trans (hh.pn j hj).2⟩⟩,fun j y hy=>(sm.tm j y hy).kill st hh,fun p h1 h2=>?_,sm.df,sm.sz,sm.fr.map' fun _ _ h=>h.kill st hh⟩,V0.v2 (v:=.own s.nx) ⟨.inr rfl,(bG ..).symm,a0,n0,c0,h0⟩,rfl⟩
 ·rcases h with ⟨_,h⟩ | h
  ·exact hh.lt r b (hF b h)
  ·exact hh.lt p b h.1
 ·rcases h with ⟨h1,h2⟩ | h<;>rcases h' with ⟨h3,h4⟩ | h'
  ·rw [h1,h3]
  ·exact (h'.2 h2).elim
  ·exact (h.2 h4).elim
  ·exact hh.dj p p' b h.1 h'.1
 ·have hp:p≠s.nx:=fun e=>h (.inr e)
  have hp2:p≠r:=fun e=>h (.inl (e ▸ hal))
  show lD [r] (upd (upd s.hp r _) s.nx _ p)=.dead
  rw [bB _ _ hp,bB _ _ hp2,hh.al p fun e=>h (.inl e)];rfl
 ·show eU E.cells w A' p (lD [r] (upd (upd s.hp r _) s.nx _ p))
  by_cases hp:p=s.nx
  ·subst hp
   rw [bG]
   refine ⟨.inr rfl,?_⟩
   rw [show A'.v s.nx=vv i q from bG ..]
   exact ho.sO.mono fun b hb=>.inl ⟨rfl,hb⟩
  ·rw [bB _ _ hp]
   by_cases hp2:p=r
   ·subst hp2
    rw [bG]
    refine ⟨.inl hal,by rw [show xs.length=n from k1];exact ei,?_⟩
    rw [hv' p hal,e1]
    refine ⟨g,n,c,te,cur,vv,fun i' j' b=>Sf i' j' b/\¬(i'=i/\j'=q),rfl,k1,k2,k3,k4,k5,.inr ⟨k6,fun h=>(k7 i q g h).2 rfl⟩,fun i' j' b hb=>⟨.inr ⟨(k7 i' j' b hb.1).1,fun h=>hb.2 (k8 _ _ _ _ _ hb.1 h)⟩,(k7 i' j' b hb.1).2⟩,fun i1 j1 i2 j2 b hb hb'=>k8 _ _ _ _ _ hb.1 hb'.1,k9,fun i' j' kk hi hj hx=>(k10 i' j' kk hi hj).mono fun b hb=>⟨hb,hx⟩⟩
   ·rw [bB _ _ hp2]
    have hnr:¬p∈[r]:=by simpa using hp2
    have ho:=hh.rt p
    cases hq:s.hp p with
    | dead=>
     rw [hq] at ho
     intro b hb
     rcases hb with ⟨h,_⟩ | h
     ·exact hp h
     ·exact ho b h.1
    | box cs=>
     rw [hq] at ho
     obtain ⟨ha,g',te',cur',h1,h2,h3,h4⟩:=ho
     exact ⟨st.al p ha,g',te',cur',by rw [hv' p ha];exact h1,fun b=>(st.N p ha hnr b).trans (h2 b),h3,lY st hh h4⟩
    | row e xs=>
     rw [hq] at ho
     refine ⟨st.al p ho.1,?_⟩
     rw [hv' p ho.1]
     exact ho.2.mono fun b hb=>(st.root hh hnr hb).1
    | ql e xs j cs=>
     rw [hq] at ho
     refine ⟨st.al p ho.1,ho.2.1,?_⟩
     rw [hv' p ho.1]
     exact ho.2.2.mono fun b hb=>(st.root hh hnr hb).1
    | xj e xs j cs=>
     rw [hq] at ho
     refine ⟨st.al p ho.1,ho.2.1,?_⟩
     rw [hv' p ho.1]
     exact ho.2.2.move (fun _ _=>rfl) fun b hb=>(st.root hh hnr hb).1
 ·rcases h with ⟨_,h⟩ | h
  ·exact hh.nm r b (hF b h)
  ·exact hh.nm p b h.1
 ·have h1':s.nx+1<=p:=h1
  rcases h2 with h2 | h2
  ·exact sm.nx p (by omega) h2
  ·omega
theorem A8 (hT:∀t i,E.T t=some i->gJ P E t i)(sm:gU E w0 M A s a w){x y:Operand}{t:TypeId}{el:Nat}
  (ho:o.op=.call { callee:=.builtin .append,args:=#[x,y],argTypes:=#[t,t] }) (hel:(E.T t).bind TI.el=some el) {r:Nat} {xs:aB} (hx:V2 E.cells w A (.own r) (a.eval x)) (hrow:s.hp r=.row el xs)
  (h:B5 E s r el xs y k=some bQ):∃v s',k v s'=some bQ/\qY P E w0 M A o a w v s':=by
 have hh:=sm.hp
 have hy:=sm.ev y
 have :P.underlying t=some (.slice el)/\∃ie,E.T el=some ie:=by
  cases ht:E.T t with
  | none=>rw [ht] at hel;cases hel
  | some i=>
   rw [ht] at hel
   obtain ⟨ii,d,z,h1,h2,h3,h4,h5,h6,hby,h7,h8,h9,h10,hpl,h11,h12,h13,h14,h15⟩:=hT t i ht
   obtain ⟨rfl,hie⟩:=h11 el hel
   exact ⟨h2,hie⟩
 obtain ⟨hu,ie,hie⟩:=this
 obtain ⟨ii,d',z,k1,k2,k3,k4,k5,k6,kby,k7,k8,k9,k10,kpl,k11,k12,th,tj,k15⟩:=hT el ie hie
 have hcl:ii.size=(E.cells el).length:=by simp [Env.cells,hie,k4]
 have hbt:E.bytes el=ii.bytes:=by simp [Env.bytes,hie,k5]
 have hzc:z.cells.size=ii.size:=by rw [<-Array.length_toList,k7];simp [k4]
 have core:=@qE P E w0 w np M A s o a hT sm el t ii z ie hu hie k1 k3 hcl hzc (by omega) (by omega) x y ho
 unfold B5 at h
 obtain ⟨hal,hxv,_⟩:=(show V0 E.cells w A (.own r) (a.eval x) from hx)
 obtain ⟨ys,hp',C,g1,g2,g3⟩:=kR h
 by_cases hb:((xs.length:Int)+ys.length)*E.bytes el<=140737488355328
 ·simp only [iV hb,aZ] at g1
  have hroot:=hh.rt r
  rw [hrow] at hroot
  have hne:s.hp r≠.dead:=by rw [hrow];simp
  refine ⟨_,_,g1,core (r:=some r) (Cx:=fun q=>q=r) (Cy:=C) (xs:=xs) ?_ (g3 hh (Sub.one _ _) hy) (fun q hq=>by injection hq with hq;subst hq;exact ⟨hal,rfl,hne⟩) (fun q e' xs' hq hq'=>?_) ((fX.one hne).trans g2) (fun q hq hc=>?_) ?_⟩
  ·rw [hxv]
   obtain ⟨base,n,c,p1,p2,p3,p4,p5⟩:=hroot.2.parts
   refine ⟨base,n,c,p1,p2,p3,p4,p5.imp id fun ⟨g,te,cur,vv,Sf,q1,q2,q3,q4,q5,q6,q7,q8⟩=>⟨g,te,cur,vv,Sf,q1,q2,q3,⟨r,rfl,q4⟩,fun i j b hb=>⟨⟨r,rfl,(q5 i j b hb).1⟩,(q5 i j b hb).2⟩,q6,q7,q8⟩⟩
  ·injection hq with hq
   subst hq
   rw [hrow] at hq'
   injection hq' with e1 e2
   exact ⟨e1.symm,hxv.symm,e2.symm⟩
  ·subst hq;have:=g2.was _ hc;rw [bG] at this;exact this rfl
  ·rw [hbt] at hb;exact hb
 ·simp [yt hb] at g1
theorem AA (hT:∀t i,E.T t=some i->gJ P E t i)(sm:gU E w0 M A s a w){x y:Operand}{t u:TypeId}
  (ho:o.op=.call { callee:=.builtin .append,args:=#[x,y],argTypes:=#[t,u] }) (h:jD E (.call { callee:=.builtin .append,args:=#[x,y],argTypes:=#[t,u] }) s k=some bQ) :
  ∃v s',k v s'=some bQ/\qY P E w0 M A o a w v s':=by
 have hh:=sm.hp
 have hx:=sm.ev x
 have hy:=sm.ev y
 simp only [jD] at h
 cases htu:Nat.beq t u<;>simp only [htu,aZ,aX] at h
 ·cases h
 obtain rfl:=Nat.eq_of_beq_eq_true htu
 split at h
 case h_2=>cases h
 rename_i el hel
 have :P.underlying t=some (.slice el)/\∃ie,E.T el=some ie:=by
  cases ht:E.T t with
  | none=>rw [ht] at hel;cases hel
  | some i=>
   rw [ht] at hel
   obtain ⟨ii,d,z,h1,h2,h3,h4,h5,h6,hby,h7,h8,h9,h10,hpl,h11,h12,h13,h14,h15⟩:=hT t i ht
   obtain ⟨rfl,hie⟩:=h11 el hel
   exact ⟨h2,hie⟩
 obtain ⟨hu,ie,hie⟩:=this
 obtain ⟨ii,d',z,k1,k2,k3,k4,k5,k6,kby,k7,k8,k9,k10,kpl,k11,k12,th,tj,k15⟩:=hT el ie hie
 have hcl:ii.size=(E.cells el).length:=by simp [Env.cells,hie,k4]
 have hbt:E.bytes el=ii.bytes:=by simp [Env.bytes,hie,k5]
 have hzc:z.cells.size=ii.size:=by rw [<-Array.length_toList,k7];simp [k4]
 have core:=@qE P E w0 w np M A s o a hT sm el t ii z ie hu hie k1 k3 hcl hzc (by omega) (by omega) x y ho
 split at h
 ·
  rename_i hxn
  rw [hxn] at hx
  obtain ⟨b,hxe⟩:=(show V0 E.cells w A .nil (a.eval x) from hx)
  obtain ⟨ys,hp',C,g1,g2,g3⟩:=kR h
  by_cases hb:(ys.length:Int)*E.bytes el<=140737488355328
  ·simp only [iV hb,aZ] at g1
   refine ⟨_,_,g1,core (r:=none) (Cx:=fun _=>False) (Cy:=C) (xs:=[]) ⟨b,0,0,hxe,rfl,Nat.le_refl _,Nat.zero_le _,.inl rfl⟩ (g3 hh (fun _=>.inl rfl) hy) (fun q hq=>(nomatch hq)) (fun q _ _ hq=>(nomatch hq)) (g2.congr fun q=>by simp) (fun q hq=>hq.elim) ?_⟩
   rw [hbt] at hb;simpa using hb
  ·simp [yt hb] at g1
 ·
  rename_i r hxo
  rw [hxo] at hx
  split at h
  ·rename_i e xs hrow
   cases he:Nat.beq e el<;>simp only [he,aZ,aX] at h
   ·cases h
   obtain rfl:=Nat.eq_of_beq_eq_true he
   obtain ⟨hal,hxv,_⟩:=(show V0 E.cells w A (.own r) (a.eval x) from hx)
   obtain ⟨ys,hp',C,g1,g2,g3⟩:=kR h
   by_cases hb:((xs.length:Int)+ys.length)*E.bytes e<=140737488355328
   ·simp only [iV hb,aZ] at g1
    have hroot:=hh.rt r
    rw [hrow] at hroot
    have hne:s.hp r≠.dead:=by rw [hrow];simp
    refine ⟨_,_,g1,core (r:=some r) (Cx:=fun q=>q=r) (Cy:=C) (xs:=xs) ?_ (g3 hh (Sub.one _ _) hy) (fun q hq=>by injection hq with hq;subst hq;exact ⟨hal,rfl,hne⟩) (fun q e' xs' hq hq'=>?_) ((fX.one hne).trans g2) (fun q hq hc=>?_) ?_⟩
    ·rw [hxv]
     obtain ⟨base,n,c,p1,p2,p3,p4,p5⟩:=hroot.2.parts
     refine ⟨base,n,c,p1,p2,p3,p4,p5.imp id fun ⟨g,te,cur,vv,Sf,q1,q2,q3,q4,q5,q6,q7,q8⟩=>⟨g,te,cur,vv,Sf,q1,q2,q3,⟨r,rfl,q4⟩,fun i j b hb=>⟨⟨r,rfl,(q5 i j b hb).1⟩,(q5 i j b hb).2⟩,q6,q7,q8⟩⟩
    ·injection hq with hq
     subst hq
     rw [hrow] at hq'
     injection hq' with e1 e2
     exact ⟨e1.symm,hxv.symm,e2.symm⟩
    ·subst hq;have:=g2.was _ hc;rw [bG] at this;exact this rfl
    ·rw [hbt] at hb;exact hb
   ·simp [yt hb] at g1
  ·cases h
 ·
  rename_i r n e hxo
  rw [hxo] at hx
  split at h
  ·rename_i cs hbox
   cases he:Nat.beq e el<;>simp only [he,aZ,aX] at h
   ·cases h
   obtain rfl:=Nat.eq_of_beq_eq_true he
   obtain ⟨hal,g,e1,e2⟩:=(show V0 E.cells w A (.lit r n e) (a.eval x) from hx)
   obtain ⟨xs,hp1,c,f1,f2,fl,f3,f4,f5⟩:=mj h
   obtain ⟨ys,hp',C,g1,g2,g3⟩:=kR f1
   by_cases hb:((xs.length:Int)+ys.length)*E.bytes e<=140737488355328
   ·simp only [iV hb,aZ] at g1
    have hroot:=hh.rt r
    rw [hbox] at hroot
    obtain ⟨_,g',te,cur,m1,m2,m3,m4⟩:=hroot
    obtain rfl:g=g':=by rw [e1] at m1;injection m1 with m1;injection m1 with m1;injection m1
    have hne:s.hp r≠.dead:=by rw [hbox];simp
    have hall:=f5 hh (Sub.one _ _) m4
    have t1:=(fX.one hne).trans f3
    refine ⟨_,_,g1,core (r:=some r) (xs:=xs) ?_ (g3 hh (t1.sub fun _=>.inl rfl) hy) (fun q hq=>by injection hq with hq;subst hq;exact ⟨hal,.inl rfl,hne⟩) (fun q e' xs' hq hq'=>?_) (t1.trans g2) (fun q hq hc=>t1.xA g2 hq hc) ?_⟩
    ·refine ⟨some ⟨g,0,none⟩,n,n,e2,f2,Nat.le_refl _,?_,?_⟩
     ·have h1:((xs.length:Int)+ys.length)*1<=((xs.length:Int)+ys.length)*E.bytes e:=Int.mul_le_mul_of_nonneg_left (by rw [hbt];omega) (by omega)
      have h2:((xs.length:Int)+ys.length)*1=(xs.length:Int)+ys.length:=Int.mul_one _
      simp only [maxLen];omega
     ·rcases Nat.eq_zero_or_pos n with hn | hn
      ·exact .inl hn
      ·refine .inr ⟨g,te,cur,fun i j=>cur.toList.getD (i*(E.cells e).length+j) Go.undef,fun i j p=>i<n/\j<(E.cells e).length/\sS A (c i j) p,rfl,m3,?_,⟨r,rfl,(m2 g).2 rfl⟩,fun i j b hb=>?_,fun i j i' j' b hb hb'=>?_,fun i j kk hi hj=>?_,fun i j kk hi hj=>?_⟩
       ·rw [<-fl,m4.length,Array.length_toList]
       ·obtain ⟨hi,hj,q,hq,hn⟩:=hb
        refine ⟨⟨q,.inr ⟨i,j,hi,hj,hq⟩,hn⟩,fun eb=>?_⟩
        have hw:=f3.was q ⟨i,j,hi,hj,hq⟩
        have :q=r:=hh.dj q r b hn ((m2 b).2 eb)
        rw [this,bG] at hw;exact hw rfl
       ·obtain ⟨_,_,q,hq,hn⟩:=hb
        obtain ⟨_,_,q',hq',hn'⟩:=hb'
        rw [hh.dj q q' b hn hn'] at hq
        exact f4 _ _ _ _ _ hq hq'
       ·obtain ⟨y',y1,_,_⟩:=hall i j kk hi hj
        rw [<-Array.getElem?_toList,y1]
        simp only [List.getD_eq_getElem?_getD,y1];rfl
       ·obtain ⟨y',y1,_,y3⟩:=hall i j kk hi hj
        have hy':cur.toList.getD (i*(E.cells e).length+j) Go.undef=y':=by simp only [List.getD_eq_getElem?_getD,y1];rfl
        show gk E.cells w _ kk (cur.toList.getD (i*(E.cells e).length+j) Go.undef) _
        rw [hy']
        exact y3.mono fun b hb=>⟨hi,(List.getElem?_eq_some_iff.1 hj).1,hb⟩
    ·injection hq with hq;subst hq;rw [hbox] at hq';cases hq'
    ·rw [hbt] at hb;exact hb
   ·simp [yt hb] at g1
  ·cases h
 ·
  rename_i r sz i q e hxi
  rw [hxi] at hx
  split at h
  ·rename_i er rs hrow
   cases he:(Nat.beq e el&&Nat.beq sz (E.cells er).length)<;>simp only [he,aZ,aX] at h
   ·cases h
   simp only [Bool.and_eq_true] at he
   obtain rfl:=Nat.eq_of_beq_eq_true he.1
   split at h
   ·rename_i e2 he2
    cases hk:Nat.beq e e2<;>simp only [hk,aZ,aX] at h
    ·cases h
    obtain rfl:=Nat.eq_of_beq_eq_true hk
    rw [jX] at h
    obtain ⟨A',sm',hx',hZ⟩:=sm.split hrow (Nat.eq_of_beq_eq_true he.2) (nG he2) (show V0 E.cells w A (.gG r sz i q e) (a.eval x) from hx)
    obtain ⟨v,s',g1,g2⟩:=A8 hT sm' ho hel hx' (by show lD [r] (upd (upd s.hp r _) s.nx _ s.nx)=_;rw [bG];rfl) h
    exact ⟨v,s',g1,fun Kn Q hK=>g2 Kn Q fun cv w' A2 h1 h2 h3=>hK cv w' A2 h1 h2 (h3.trans hZ)⟩
   ·cases h
  ·cases h
 ·cases h
end
end Go.DM
namespace Go.DM
structure QT where
 e:Nat
 l:L
 y:Value
 F:Nat->Prop
def mT (E:Env)(hp:Nat->aW)(t:fE)(l:L):aW:=
 match t with
 | .none=>.dead
 | .own r=>match hp r with
  | .row e _=>.row e l.dP
  | o=>o
 | .gG r i p=>match hp r with
  | .row e xs=>.ql e xs i (setAt (jW (E.cells e) (xs.getD i [])) p (.sl l.dP))
  | .ql e xs j cs=>.ql e xs j (setAt (jW (E.cells e) cs) p (.sl l.dP))
  | o=>o
def tP:aW->Bool
 | .row ..=>true
 | .ql ..=>true
 | _=>false
def wX (T:Nat->List K)(w:World)(S:Nat->Prop)(v:Value):aW->Prop
 | .row e xs=>gk T w S (.sl e) v (.sl xs)
 | .ql e xs j cs=>j<xs.length/\gk T w S (.sl e) v (.sl (xs.set j cs))
 | _=>False
def TG (E:Env)(w:World)(A:dS)(hp:Nat->aW)(t:fE)(q:QT):Prop:=
 (∃a n c,q.y=.slice a n c)/\gk E.cells w q.F (.sl q.e) q.y q.l/\
 match t with
 | .none=>∀b,¬q.F b
 | .own r=>A.al r/\q.y=A.v r/\(∀b,q.F b↔A.N r b)/\∃xs,hp r=.row q.e xs
 | .gG r i p=>A.al r/\(∀b,q.F b->A.N r b)/\tP (hp r)=true/\∀(w':World) (N:Nat->Prop) (l:L),(∀b,A.N r b->¬q.F b->w'.heap[b]?=w.heap[b]?)->(∀b,N b->A.N r b->q.F b)->
   gk E.cells w' N (.sl q.e) q.y l->wX E.cells w' (fun b=>(A.N r b/\¬q.F b)∨N b) (A.v r) (mT E hp (.gG r i p) l)
def ot {y:L}:∀{xs:List L} {p j:Nat},p<xs.length->(setAt xs p y).getD j .hole=if j=p then y else xs.getD j .hole
 | [],p,j,h=>by simp at h
 | x::xs,0,j,_=>by cases j<;>simp [setAt]
 | x::xs,p+1,0,_=>by simp [setAt]
 | x::xs,p+1,j+1,h=>by
  have:=ot (y:=y) (xs:=xs) (p:=p) (j:=j) (by simpa using h)
  simpa [setAt] using this
section
variable {E:Env} {w0 w w':World} {np:Nat} {M:Mem np} {A:dS} {hp:Nat->aW} {bQ:List L}
theorem Ci {r sz i p er e:Nat}{xs:aB}{x:Value}(hown:gk E.cells w (A.N r) (.sl er) (A.v r) (.sl xs))(hsz:sz=(E.cells er).length)(hp2:(E.cells er)[p]?=some (.sl e))
  (hv:V0 E.cells w A (.gG r sz i p e) x):∃F:Nat->Prop,(∃a n c,x=.slice a n c)/\gk E.cells w F (.sl e) x (.sl ((xs.getD i []).getD p .hole).dP)/\A.al r/\(∀b,F b->A.N r b)/\i<xs.length/\
   ∀(w':World) (N:Nat->Prop) (l:L),(∀b,A.N r b->¬F b->w'.heap[b]?=w.heap[b]?)->(∀b,N b->A.N r b->F b)->
   gk E.cells w' N (.sl e) x l->gk E.cells w' (fun b=>(A.N r b/\¬F b)∨N b) (.sl er) (A.v r) (.sl (xs.set i (setAt (jW (E.cells er) (xs.getD i [])) p (.sl l.dP)))):=by
 obtain ⟨hal,g,n,c,e1,ei,hg,hc⟩:=hv
 rw [e1] at hown
 obtain ⟨te,cur,vv,Sf,k1,k2,k3,k4,k5,k6,k7,k8,k9,k10⟩:=hown.inv (by omega)
 have hx:x=vv i p:=by
  have:=k9 i p _ ei hp2
  rw [gB k4,hsz,this] at hc
  injection hc with hc;exact hc.symm
 subst hx
 have ho:=k10 i p _ ei hp2
 refine ⟨Sf i p,?_,?_,hal,fun b hb=>(k7 i p b hb).1,by rw [show xs.length=n from k1];exact ei,fun w' N l hfr hN hl=>?_⟩
 ·obtain ⟨a,n,c,h1,_⟩:=ho.wP
  exact ⟨a,n,c,h1⟩
 ·exact ho.sO
 ·have hgF:¬Sf i p g:=fun h=>(k7 i p g h).2 rfl
  have hpl:p<(E.cells er).length:=(List.getElem?_eq_some_iff.1 hp2).1
  have hix:i<xs.length:=by rw [show xs.length=n from k1];exact ei
  rw [e1]
  refine .sl _ er n c g te cur _ vv (fun i' j' b=>if i'=i/\j'=p then N b else Sf i' j' b) (by simp only [L.dP,List.length_set];exact k1) k2 k3 ((hfr g k6 hgF).trans k4) k5 (.inl ⟨k6,hgF⟩) (fun i' j' b hb=>?_) (fun i1 j1 i2 j2 b hb hb'=>?_) k9 (fun i' j' kk hi hj=>?_)
  ·by_cases hc:i'=i/\j'=p
   ·rw [if_pos hc] at hb
    refine ⟨.inr hb,fun e=>hgF ?_⟩
    subst e;exact hN _ hb k6
   ·rw [if_neg hc] at hb
    refine ⟨.inl ⟨(k7 _ _ _ hb).1,fun h=>hc (k8 _ _ _ _ _ hb h)⟩,(k7 _ _ _ hb).2⟩
  ·by_cases hc:i1=i/\j1=p<;>by_cases hc':i2=i/\j2=p
   ·rw [hc.1,hc.2,hc'.1,hc'.2];exact ⟨rfl,rfl⟩
   ·rw [if_pos hc] at hb;rw [if_neg hc'] at hb'
    exact (hc' (k8 _ _ _ _ _ hb' (hN _ hb (k7 _ _ _ hb').1))).elim
   ·rw [if_neg hc] at hb;rw [if_pos hc'] at hb'
    exact (hc (k8 _ _ _ _ _ hb (hN _ hb' (k7 _ _ _ hb).1))).elim
   ·rw [if_neg hc] at hb;rw [if_neg hc'] at hb'
    exact k8 _ _ _ _ _ hb hb'
  ·have hset:∀{zs:List L},(xs.set i zs).getD i' []=if i'=i then zs else xs.getD i' []:=by
    intro zs
    simp only [List.getD_eq_getElem?_getD,List.getElem?_set]
    by_cases hij:i=i'
    ·subst hij;simp [hix]
    ·simp [hij,Ne.symm hij]
   simp only [L.dP]
   rw [hset]
   by_cases hc:i'=i/\j'=p
   ·obtain ⟨rfl,rfl⟩:=hc
    simp only [and_self,if_true]
    rw [hp2] at hj;injection hj with hj;subst hj
    rw [ot (by rw [jt];exact hpl),if_pos rfl]
    exact hl.sO
   ·simp only [hc,if_false]
    have hold:=(k10 i' j' kk hi hj).frame (w':=w') fun b hb=>hfr b (k7 _ _ _ hb).1 fun h=>hc (k8 _ _ _ _ _ hb h)
    by_cases hii:i'=i
    ·subst hii
     rw [if_pos rfl,ot (by rw [jt];exact hpl),if_neg (fun h=>hc ⟨rfl,h⟩),qy hj]
     exact hold.canon
    ·rw [if_neg hii];exact hold
theorem xG (hh:Hp E.cells w0 M A hp w){k:K}{v:V}{kk:L->List fE->aI}(h:qD E hp k v kk=some bQ) :
  ∃l ts,kk l ts=some bQ/\∀{x},V0 E.cells w A v x->∃qs:List QT,F2 (TG E w A hp) ts qs/\(∀ks ls,jM (k::ks) (l::ls)=qs.map (fun q=>aW.row q.e q.l.dP)++jM ks ls)/\(∀ks,tg (k::ks)=qs.map QT.e++tg ks)/\
   ∀(B:dS) (j:Nat),(∀i q,qs[i]?=some q->B.al (j+i)/\B.v (j+i)=q.y)->∃u,(∀ks ls,kH (k::ks) (l::ls) j=u::kH ks ls (j+qs.length))/\V0 E.cells w B u x:=by
 cases k with
 | int ik=>
  simp only [qD] at h
  split at h
  ·rename_i jk n
   cases hk:jw ik jk<;>simp only [hk,aZ,aX] at h
   ·cases h
   obtain rfl:=iE hk
   exact ⟨_,_,h,fun {x} hv=>⟨[],.nil,fun _ _=>rfl,fun _=>rfl,fun B j _=>⟨.int ik n,fun _ _=>rfl,hv⟩⟩⟩
  ·cases h
 | bool=>
  simp only [qD] at h
  split at h
  ·rename_i b
   exact ⟨_,_,h,fun {x} hv=>⟨[],.nil,fun _ _=>rfl,fun _=>rfl,fun B j _=>⟨.bool b,fun _ _=>rfl,hv⟩⟩⟩
  ·cases h
 | str=>
  simp only [qD] at h
  split at h
  ·rename_i b
   exact ⟨_,_,h,fun {x} hv=>⟨[],.nil,fun _ _=>rfl,fun _=>rfl,fun B j _=>⟨.str b,fun _ _=>rfl,hv⟩⟩⟩
  ·cases h
 | sl e=>
  have fin:∀{t:fE} {q:QT} {x:Value},q.e=e->q.y=x->TG E w A hp t q->∃qs:List QT,F2 (TG E w A hp) [t] qs/\(∀ks ls,jM (.sl e::ks) (q.l::ls)=qs.map (fun q=>aW.row q.e q.l.dP)++jM ks ls)/\(∀ks,tg (.sl e::ks)=qs.map QT.e++tg ks)/\
    ∀(B:dS) (j:Nat),(∀i q,qs[i]?=some q->B.al (j+i)/\B.v (j+i)=q.y)->∃u,(∀ks ls,kH (.sl e::ks) (q.l::ls) j=u::kH ks ls (j+qs.length))/\V0 E.cells w B u x:=by
   intro t q x he hy ht
   refine ⟨[q],.cons ht .nil,fun ks ls=>by simp [jM,he],fun ks=>by simp [tg,he],fun B j hB=>⟨.own j,fun ks ls=>rfl,?_⟩⟩
   obtain ⟨h1,h2⟩:=hB 0 q rfl
   obtain ⟨a,n,c,h3⟩:=ht.1
   exact ⟨h1,by rw [<-hy,<-h2];rfl,a,n,c,by rw [<-hy];exact h3⟩
  simp only [qD] at h
  split at h
  ·refine ⟨_,_,h,fun {x} hv=>?_⟩
   obtain ⟨a,rfl⟩:=hv
   exact fin (q:=⟨e,.sl [],_,fun _=>False⟩) rfl rfl ⟨⟨a,0,0,rfl⟩,.nil _ e a _ rfl,fun _ h=>h⟩
  ·rename_i r
   split at h
   ·rename_i e' xs hr
    cases hk:Nat.beq e e'<;>simp only [hk,aZ,aX] at h
    ·cases h
    obtain rfl:=Nat.eq_of_beq_eq_true hk
    refine ⟨_,_,h,fun {x} hv=>?_⟩
    obtain ⟨hal,h2,a,n,c,h3⟩:=hv
    have hroot:=hh.rt r
    rw [hr] at hroot
    exact fin (q:=⟨e,.sl xs,x,A.N r⟩) rfl rfl ⟨⟨a,n,c,h3⟩,by rw [h2];exact hroot.2,hal,h2,fun _=>Iff.rfl,xs,hr⟩
   ·cases h
  ·rename_i r sz i o e'
   have gG:∀{er:Nat} {xs:aB} {e2:Nat} {x:Value},tP (hp r)=true->gk E.cells w (A.N r) (.sl er) (A.v r) (.sl xs)->e=e'->sz=(E.cells er).length->vH (E.cells er) o=some e->(∀l:L,mT E hp (.gG r i o) l=mT E hp (.gG r i o) l)->
     (∀(w':World) (S:Nat->Prop) (l:L),i<xs.length->gk E.cells w' S (.sl er) (A.v r) (.sl (xs.set i (setAt (jW (E.cells er) (xs.getD i [])) o (.sl l.dP))))->wX E.cells w' S (A.v r) (mT E hp (.gG r i o) l))->
     V0 E.cells w A (.gG r sz i o e') x->∃F,TG E w A hp (.gG r i o) ⟨e,.sl ((xs.getD i []).getD o .hole).dP,x,F⟩:=by
    intro er xs e2 x hrow hown he hsz hsl _ hmk hv
    subst he
    obtain ⟨F,f1,f2,f3,f4,f5,f6⟩:=Ci hown hsz (nG hsl) hv
    exact ⟨F,f1,f2,f3,f4,hrow,fun w' N l a1 a2 a3=>hmk _ _ _ f5 (f6 w' N l a1 a2 a3)⟩
   split at h
   ·rename_i er xs hr
    have hroot:=hh.rt r
    rw [hr] at hroot
    cases hk:(Nat.beq e e'&&Nat.beq sz (E.cells er).length)<;>simp only [hk,aZ,aX] at h
    ·cases h
    simp only [Bool.and_eq_true] at hk
    split at h
    ·rename_i e2 he2
     cases hk2:Nat.beq e e2<;>simp only [hk2,aZ,aX] at h
     ·cases h
     obtain rfl:=Nat.eq_of_beq_eq_true hk2
     refine ⟨_,_,h,fun {x} hv=>?_⟩
     obtain ⟨F,hF⟩:=gG (e2:=0) (by rw [hr];rfl) hroot.2 (Nat.eq_of_beq_eq_true hk.1) (Nat.eq_of_beq_eq_true hk.2) he2 (fun _=>rfl) (fun w' S l h1 h2=>by simp only [mT,hr];exact ⟨h1,h2⟩) hv
     rw [jX]
     exact fin rfl rfl hF
    ·cases h
   ·rename_i er xs j0 cs hr
    have hroot:=hh.rt r
    rw [hr] at hroot
    cases hk:(Nat.beq i j0&&(Nat.beq e e'&&Nat.beq sz (E.cells er).length))<;>simp only [hk,aZ,aX] at h
    ·cases h
    simp only [Bool.and_eq_true] at hk
    obtain rfl:=Nat.eq_of_beq_eq_true hk.1
    split at h
    ·rename_i e2 he2
     cases hk2:Nat.beq e e2<;>simp only [hk2,aZ,aX] at h
     ·cases h
     obtain rfl:=Nat.eq_of_beq_eq_true hk2
     refine ⟨_,_,h,fun {x} hv=>?_⟩
     obtain ⟨F,hF⟩:=gG (e2:=0) (by rw [hr];rfl) hroot.2.2 (Nat.eq_of_beq_eq_true hk.2.1) (Nat.eq_of_beq_eq_true hk.2.2) he2 (fun _=>rfl) (fun w' S l h1 h2=>by
      simp only [mT,hr]
      rw [jm hroot.2.1,List.set_set] at h2
      exact ⟨hroot.2.1,h2⟩) hv
     rw [jm hroot.2.1] at hF
     rw [jX]
     exact fin rfl rfl hF
    ·cases h
   ·cases h
  ·cases h
theorem pe (hh:Hp E.cells w0 M A hp w):∀{ks:List K} {vs:List V} {kk:List L->List fE->aI},lZ E hp ks vs kk=some bQ->
  ∃ls ts,kk ls ts=some bQ/\ls.length=ks.length/\∀{xs},F2 (V0 E.cells w A) vs xs->∃qs:List QT,F2 (TG E w A hp) ts qs/\(∀rest,jM ks (ls++rest)=qs.map (fun q=>aW.row q.e q.l.dP))/\tg ks=qs.map QT.e/\
   ∀(B:dS) (j:Nat),(∀i q,qs[i]?=some q->B.al (j+i)/\B.v (j+i)=q.y)->∀rest,F2 (V0 E.cells w B) (kH ks (ls++rest) j) xs
 | [],[],kk,h=>⟨[],[],h,rfl,fun {xs} hf=>⟨[],.nil,fun _=>rfl,rfl,fun B j _ _=>by cases hf;exact .nil⟩⟩
 | [],_::_,kk,h=>by cases h
 | _::_,[],kk,h=>by cases h
 | k::ks,v::vs,kk,h=>by
  simp only [lZ] at h
  obtain ⟨l,t,h1,h2⟩:=xG hh h
  obtain ⟨ls,ts,g1,gl,g2⟩:=pe hh h1
  refine ⟨_,_,g1,by simp [gl],fun {xs} hf=>?_⟩
  cases hf with
  | cons hv ht=>
   obtain ⟨q1,a1,a2,a3,a4⟩:=h2 hv
   obtain ⟨q2,b1,b2,b3,b4⟩:=g2 ht
   refine ⟨q1++q2,a1.append b1,fun rest=>?_,?_,fun B j hB rest=>?_⟩
   ·rw [List.cons_append,a2,b2,List.map_append]
   ·rw [a3,b3,List.map_append]
   ·obtain ⟨u,u1,u2⟩:=a4 B j fun i q hq=>hB i q (by rw [List.getElem?_append_left (List.getElem?_eq_some_iff.1 hq).1];exact hq)
    rw [List.cons_append,u1]
    refine .cons u2 (b4 B _ (fun i q hq=>?_) rest)
    have:=hB (q1.length+i) q (by rw [List.getElem?_append_right (by omega),Nat.add_sub_cancel_left];exact hq)
    rwa [<-Nat.add_assoc] at this
theorem F2.right {α β:Type}{R:α->β->Prop}{Q:β->Prop}{as cs:List α}{bs:List β}{R':α->β->Prop}(h:F2 R as bs)(hq:∀a b,R a b->Q b)(h':F2 R' cs bs):F2 (fun a b=>R' a b/\Q b) cs bs:=by
 induction h generalizing cs with
 | nil=>cases h';exact .nil
 | cons h _ ih=>cases h' with
  | cons h1 h2=>exact .cons ⟨h1,hq _ _ h⟩ (ih h2)
theorem sj (hh:Hp E.cells w0 M A hp w):∀{ps:List (Bool×List K)} {vs:List V} {kk:List L->List fE->aI},tR E hp ps vs kk=some bQ->
  ∃ls ts,kk ls ts=some bQ/\∀{xs},F2 (V2 E.cells w A) vs xs->∃qs:List QT,F2 (TG E w A hp) ts qs/\mN ps ls=qs.map (fun q=>aW.row q.e q.l.dP)/\lW ps=qs.map QT.e/\
   ∀(B:dS) (j:Nat),(∀i q,qs[i]?=some q->B.al (j+i)/\B.v (j+i)=q.y)->F2 (V2 E.cells w B) (lz ps ls j) xs
 | [],[],kk,h=>⟨[],[],h,fun {xs} hf=>⟨[],.nil,rfl,rfl,fun B j _=>by cases hf;exact .nil⟩⟩
 | [],_::_,kk,h=>by cases h
 | _::_,[],kk,h=>by cases h
 | p::ps,v::vs,kk,h=>by
  obtain ⟨ag,ks⟩:=p
  simp only [tR] at h
  have fin:∀{cs:List V} {k1:List L->List fE->aI},lZ E hp ks cs k1=some bQ->(∀a t,k1 a t=tR E hp ps vs fun b u=>kk (a++b) (t++u))->
    (∀{x},V2 E.cells w A v x->∃l,F2 (V0 E.cells w A) cs l/\∀{B:dS} {us:List V},F2 (V0 E.cells w B) us l->V2 E.cells w B (mkVar ag us) x)->
    ∃ls ts,kk ls ts=some bQ/\∀{xs},F2 (V2 E.cells w A) (v::vs) xs->∃qs:List QT,F2 (TG E w A hp) ts qs/\mN ((ag,ks)::ps) ls=qs.map (fun q=>aW.row q.e q.l.dP)/\lW ((ag,ks)::ps)=qs.map QT.e/\
     ∀(B:dS) (j:Nat),(∀i q,qs[i]?=some q->B.al (j+i)/\B.v (j+i)=q.y)->F2 (V2 E.cells w B) (lz ((ag,ks)::ps) ls j) xs:=by
   intro cs k1 h hk hV
   obtain ⟨a,t,h1,hl,h2⟩:=pe hh h
   rw [hk] at h1
   obtain ⟨b,u,g1,g2⟩:=sj hh h1
   refine ⟨_,_,g1,fun {xs} hf=>?_⟩
   cases hf with
   | cons hv ht=>
    obtain ⟨l,l1,l2⟩:=hV hv
    obtain ⟨q1,a1,a2,a3,a4⟩:=h2 l1
    obtain ⟨q2,b1,b2,b3,b4⟩:=g2 ht
    have hd:bE ks.length (a++b)=b:=by rw [iU,<-hl,List.drop_left]
    refine ⟨q1++q2,a1.append b1,?_,?_,fun B j hB=>?_⟩
    ·simp only [mN,a2,hd,b2,List.map_append]
    ·simp only [lW,a3,b3,List.map_append]
    ·simp only [lz,hd]
     refine .cons (l2 (a4 B j (fun i q hq=>hB i q (by rw [List.getElem?_append_left (List.getElem?_eq_some_iff.1 hq).1];exact hq)) b)) (b4 B _ fun i q hq=>?_)
     have:=hB (q1.length+i) q (by rw [List.getElem?_append_right (by omega),Nat.add_sub_cancel_left];exact hq)
     rw [a3,List.length_map,Nat.add_assoc];exact this
  cases ag with
  | true=>
   simp only [aZ] at h
   split at h
   ·rename_i cs
    refine fin h (fun _ _=>rfl) fun {x} hv=>?_
    obtain ⟨l,rfl,hl⟩:=(show V1 E.cells w A (.agg cs) x from hv)
    exact ⟨l,hl.mono fun _ _ h=>h.1,fun {B us} hus=>V1.v2 (v:=.agg us) ⟨l,rfl,F2.right hl (fun _ _ h=>h.2) hus⟩⟩
   ·cases h
  | false=>
   simp only [aX] at h
   refine fin h (fun _ _=>rfl) fun {x} hv=>⟨[x],.cons ?_ .nil,fun {B us} hus=>?_⟩
   ·have :∀{k:K} {kk:L->List fE->aI},qD E hp k v kk=some bQ->V0 E.cells w A v x:=by
     intro k kk h
     cases k<;>simp only [qD] at h<;>split at h<;>first | exact hv | cases h
    cases ks with
    | nil=>cases h
    | cons k ks=>simp only [lZ] at h;exact this h
   ·cases hus with
    | cons h1 h2=>
     cases h2
     exact V0.v2 h1
end
end Go.DM
namespace Go.DM
def iA {r:Nat}:∀{ts:List fE},r∈roots ts↔∃(j:Nat) (t:fE),ts[j]?=some t/\r∈t.root
 | []=>by simp [roots]
 | t::ts=>by
  simp only [roots,List.mem_append,iA (ts:=ts)]
  constructor
  ·rintro (h | ⟨j,t',h1,h2⟩)
   ·exact ⟨0,t,rfl,h⟩
   ·exact ⟨j+1,t',by simpa using h1,h2⟩
  ·rintro ⟨j,t',h1,h2⟩
   cases j with
   | zero=>simp at h1;subst h1;exact .inl h2
   | succ j=>exact .inr ⟨j,t',by simpa using h1,h2⟩
def Af {t:fE}{r q:Nat}(h:r∈t.root)(h':q∈t.root):r=q:=by
 cases t<;>simp [fE.root] at h h'
 ·rw [h,h']
 ·rw [h,h']
def kG {r:Nat}:∀{ts:List fE} {j j':Nat} {t t':fE},distinct (roots ts)=true->ts[j]?=some t->ts[j']?=some t'->r∈t.root->r∈t'.root->j=j'
 | [],j,j',t,t',_,h,_,_,_=>by simp at h
 | t0::ts,j,j',t,t',hd,h,h',hr,hr'=>by
  have hd2:distinct (roots ts)=true:=by
   simp only [roots] at hd
   cases t0 with
   | none=>exact hd
   | own q=>simp only [fE.root,List.singleton_append,distinct,Bool.and_eq_true] at hd;exact hd.2
   | gG q i p=>simp only [fE.root,List.singleton_append,distinct,Bool.and_eq_true] at hd;exact hd.2
  have hd1:∀q,q∈t0.root->q∉roots ts:=by
   intro q hq hm
   simp only [roots] at hd
   cases t0 with
   | none=>simp [fE.root] at hq
   | own p=>
    simp [fE.root] at hq
    subst hq
    simp only [fE.root,List.singleton_append,distinct,Bool.and_eq_true,Bool.not_eq_true'] at hd
    rw [iW.2 hm] at hd;cases hd.1
   | gG p i o=>
    simp [fE.root] at hq
    subst hq
    simp only [fE.root,List.singleton_append,distinct,Bool.and_eq_true,Bool.not_eq_true'] at hd
    rw [iW.2 hm] at hd;cases hd.1
  cases j with
  | zero=>
   cases j' with
   | zero=>rfl
   | succ j'=>
    simp at h;subst h
    exact (hd1 r hr (iA.2 ⟨j',t',by simpa using h',hr'⟩)).elim
  | succ j=>
   cases j' with
   | zero=>
    simp at h';subst h'
    exact (hd1 r hr' (iA.2 ⟨j,t,by simpa using h,hr⟩)).elim
   | succ j'=>
    have h1:ts[j]?=some t:=by simpa using h
    have h2:ts[j']?=some t':=by simpa using h'
    rw [kG hd2 h1 h2 hr hr']
def wV {E:Env}{hp o:Nat->aW}{t:fE}{l:L}{q:Nat}(h:q∉t.root):rV E hp t l o q=o q:=by
 cases t with
 | none=>rfl
 | own r=>
  have hq:q≠r:=fun e=>h (by simp [fE.root,e])
  cases hr:hp r<;>simp only [rV,hr]<;>exact bB _ _ hq
 | gG r i p=>
  have hq:q≠r:=fun e=>h (by simp [fE.root,e])
  cases hr:hp r<;>simp only [rV,hr]<;>exact bB _ _ hq
def zO {E:Env}{hp o:Nat->aW}{t:fE}{l:L}{q:Nat}(h:q∈t.root)(hq:tP (hp q)=true)(ho:∀r,t=.own r->∃e xs,hp r=.row e xs):rV E hp t l o q=mT E hp t l:=by
 cases t with
 | none=>simp [fE.root] at h
 | own r=>
  simp [fE.root] at h
  subst h
  obtain ⟨e,xs,hr⟩:=ho _ rfl
  simp only [rV,mT,hr,bG]
 | gG r i p=>
  simp [fE.root] at h
  subst h
  cases hr:hp q<;>rw [hr] at hq<;>first | (cases hq;done) | simp only [rV,mT,hr,bG]
def kI {E:Env}{hp:Nat->aW}{q:Nat}:∀{ts:List fE} {ls:List L} {o:Nat->aW},q∉roots ts->qa E hp ts ls o q=o q
 | [],_,_,_=>rfl
 | t::ts,ls,o,h=>by
  simp only [roots,List.mem_append,not_or] at h
  simp only [qa]
  rw [kI h.2,wV h.1]
def vU {E:Env}{hp:Nat->aW}{q:Nat}(hq:tP (hp q)=true):∀{ts:List fE} {ls:List L} {o:Nat->aW} {j:Nat} {t:fE},distinct (roots ts)=true->ts[j]?=some t->q∈t.root->(∀r,t=.own r->∃e xs,hp r=.row e xs)->
  qa E hp ts ls o q=mT E hp t (ls.getD j .hole)
 | [],_,_,j,t,_,h,_,_=>by simp at h
 | t0::ts,ls,o,0,t,hd,h,hr,ht=>by
  simp at h
  subst h
  simp only [qa]
  rw [kI,zO hr hq ht,hU]
  intro hm
  obtain ⟨j,t',h1,h2⟩:=iA.1 hm
  have:=kG (ts:=t0::ts) (j:=0) (j':=j+1) hd rfl (by simpa using h1) hr h2
  omega
 | t0::ts,ls,o,j+1,t,hd,h,hr,ht=>by
  have hd2:distinct (roots ts)=true:=by
   simp only [roots] at hd
   cases t0 with
   | none=>exact hd
   | own q=>simp only [fE.root,List.singleton_append,distinct,Bool.and_eq_true] at hd;exact hd.2
   | gG q i p=>simp only [fE.root,List.singleton_append,distinct,Bool.and_eq_true] at hd;exact hd.2
  simp only [qa]
  rw [vU hq hd2 (by simpa using h) hr ht,jR]
section
variable {P:Program} {E:Env} {w0 w w':World} {np:Nat} {M:Mem np} {A A':dS} {s:St} {o:Oper} {a:Act} {bQ:List L} {hp:Nat->aW} {T:Nat->List K}
def dS.mark (A:dS)(ts:List fE)(G:Nat->Prop)(N:Nat->Nat->Prop):dS:=
  { A with N:=fun r b=>(A.N r b/\¬G b)∨∃(j:Nat) (t:fE),ts[j]?=some t/\r∈t.root/\N j b }
theorem TG.root {t:fE}{q:QT}(h:TG E w A hp t q){b:Nat}(hb:q.F b):∃r,r∈t.root/\A.N r b:=by
 obtain ⟨_,_,h⟩:=h
 cases t with
 | none=>exact (h b hb).elim
 | own r=>exact ⟨r,by simp [fE.root],(h.2.2.1 b).1 hb⟩
 | gG r i p=>exact ⟨r,by simp [fE.root],h.2.1 b hb⟩
theorem TG.al {t:fE}{q:QT}(h:TG E w A hp t q){r:Nat}(hr:r∈t.root):A.al r/\tP (hp r)=true:=by
 obtain ⟨_,_,h⟩:=h
 cases t with
 | none=>simp [fE.root] at hr
 | own q=>simp [fE.root] at hr;subst hr;obtain ⟨h1,_,_,xs,h2⟩:=h;exact ⟨h1,by rw [h2];rfl⟩
 | gG q i p=>simp [fE.root] at hr;subst hr;exact ⟨h.1,h.2.2.1⟩
theorem F2.get' {α β:Type}{R:α->β->Prop}{as:List α}{bs:List β}(h:F2 R as bs):∀{i:Nat} {b:β},bs[i]?=some b->∃a,as[i]?=some a/\R a b:=by
 induction h with
 | nil=>intro i a h;simp at h
 | cons h _ ih=>
  intro i a hi
  cases i with
  | zero=>simp at hi;subst hi;exact ⟨_,by simp,h⟩
  | succ i=>simp at hi;obtain ⟨b,hb,hr⟩:=ih hi;exact ⟨b,by simpa using hb,hr⟩
theorem wX.root {S:Nat->Prop}{r:Nat}{o:aW}{rs:List Nat}(ha:A.al r)(h:wX T w S (A.v r) o)(hs:∀b,S b->A.N r b):eU T w A r (lD rs o):=by
 cases o with
 | dead=>exact h.elim
 | box cs=>exact h.elim
 | xj=>exact h.elim
 | row e xs=>exact ⟨ha,gk.mono h hs⟩
 | ql e xs j cs=>exact ⟨ha,h.1,gk.mono h.2 hs⟩
theorem gU.mark (sm:gU E w0 M A s a w){ts:List fE}{qs:List QT}(hq:F2 (TG E w A s.hp) ts qs)(hd:distinct (roots ts)=true){rows:List L}{N:Nat->Nat->Prop}{G:Nat->Prop}(hG:∀b,G b↔∃(j:Nat) (q:QT),qs[j]?=some q/\q.F b)
  (hfr:Fr w w' G) (hdj:∀j q b,N j b->N q b->j=q) (hN:∀j b,N j b->b<w'.heap.size/\(G b∨w.heap.size<=b)) (hown:∀(j:Nat) (q:QT),qs[j]?=some q->gk E.cells w' (N j) (.sl q.e) q.y (rows.getD j .hole)) :
  gU E w0 M (A.mark ts G N) (s.marked E ts rows) a w':=by
 have hh:=sm.hp
 have hGr:∀b,G b->∃(j:Nat) (t:fE) (r:Nat),ts[j]?=some t/\r∈t.root/\A.N r b/\∃q:QT,qs[j]?=some q/\q.F b:=by
  intro b hb
  obtain ⟨j,q,h1,h2⟩:=(hG b).1 hb
  obtain ⟨t,h3,h4⟩:=hq.get' h1
  obtain ⟨r,h5,h6⟩:=h4.root h2
  exact ⟨j,t,r,h3,h5,h6,q,h1,h2⟩
 have halr:∀r,r∈roots ts->A.al r/\tP (s.hp r)=true:=by
  intro r hr
  obtain ⟨j,t,h1,h2⟩:=iA.1 hr
  obtain ⟨q,_,h4⟩:=hq.get h1
  exact h4.al h2
 have hGch:∀b,G b->∃r,r∈roots ts/\A.N r b:=by
  intro b hb
  obtain ⟨j,t,r,h1,h2,h3,_⟩:=hGr b hb
  exact ⟨r,iA.2 ⟨j,t,h1,h2⟩,h3⟩
 have hN2:∀j b,N j b->(∃r,r∈roots ts/\A.N r b)∨w.heap.size<=b:=fun j b h=>(hN j b h).2.imp (hGch b) id
 have st:Step A (A.mark ts G N) w w' (fun r=>r∈roots ts):=by
  refine ⟨rfl,fun _ h=>h,fun _ _=>rfl,hfr.size,fun b h1 h2=>hfr.block b h1 fun hg=>?_,fun r h1 h2 b=>⟨fun h=>?_,fun h=>.inl ⟨h,fun hg=>?_⟩⟩,fun r b h1 h2=>?_⟩
  ·obtain ⟨r,h3,h4⟩:=hGch b hg
   exact h2 r h3 h4
  ·rcases h with h | ⟨j,t,h3,h4,_⟩
   ·exact h.1
   ·exact (h2 (iA.2 ⟨j,t,h3,h4⟩)).elim
  ·obtain ⟨q,h3,h4⟩:=hGch b hg
   rw [hh.dj r q b h h4] at h2
   exact h2 h3
  ·rcases h2 with h2 | ⟨j,t,h3,h4,h5⟩
   ·rcases h1 with h1 | h1
    ·exact .inl ⟨r,h1,h2.1⟩
    ·exact (h1 (hh.xV h2.1)).elim
   ·exact hN2 j b h5
 have hrt:∀r,eU E.cells w' (A.mark ts G N) r (lD (roots ts) (qa E s.hp ts rows s.hp r)):=by
  intro r
  by_cases hr:r∈roots ts
  ·obtain ⟨j,t,h1,h2⟩:=iA.1 hr
   obtain ⟨hal,hrow⟩:=halr r hr
   obtain ⟨q,h3,h4⟩:=hq.get h1
   rw [vU hrow hd h1 h2 (fun r e=>by subst e;obtain ⟨_,_,_,_,_,xs,h⟩:=h4;exact ⟨_,xs,h⟩)]
   have ho:=hown j q h3
   have hin:∀b,N j b->(A.mark ts G N).N r b:=fun b hb=>.inr ⟨j,t,h1,h2,hb⟩
   obtain ⟨_,_,h5⟩:=h4
   cases t with
   | none=>simp [fE.root] at h2
   | own p=>
    simp [fE.root] at h2
    subst h2
    obtain ⟨_,h6,_,xs',h7⟩:=h5
    simp only [mT,h7,lD]
    refine ⟨hal,?_⟩
    show gk E.cells w' _ (.sl q.e) (A.v r) _
    rw [<-h6]
    exact ho.sO.mono hin
   | gG p i c=>
    simp [fE.root] at h2
    subst h2
    obtain ⟨_,h6,h7,h8⟩:=h5
    have hnG:∀b,A.N r b->¬q.F b->¬G b:=by
     intro b hb hnf hg
     obtain ⟨j',t',r',g1,g2,g3,q',g4,g5⟩:=hGr b hg
     rw [hh.dj r' r b g3 hb] at g2
     have :j=j':=kG hd h1 g1 (by simp [fE.root]) g2
     subst this
     rw [h3] at g4;injection g4 with g4;subst g4
     exact hnf g5
    refine (wX.root hal (h8 w' (N j) (rows.getD j .hole) (fun b hb hnf=>hfr.block b (hh.lt r b hb) (hnG b hb hnf)) (fun b hb hbn=>?_) ho) fun b hb=>?_)
    ·refine Classical.byContradiction fun hnf=>?_
     rcases (hN j b hb).2 with hg | hg
     ·exact hnG b hbn hnf hg
     ·have:=hh.lt r b hbn;omega
    ·rcases hb with hb | hb
     ·exact .inl ⟨hb.1,hnG b hb.1 hb.2⟩
     ·exact hin b hb
  ·rw [kI hr]
   have ho:=hh.rt r
   cases hp:s.hp r with
   | dead=>
    rw [hp] at ho
    intro b hb
    rcases hb with hb | ⟨j,t,h1,h2,_⟩
    ·exact ho b hb.1
    ·exact hr (iA.2 ⟨j,t,h1,h2⟩)
   | box cs=>
    rw [hp] at ho
    obtain ⟨ha,g,te,cur,h1,h2,h3,h4⟩:=ho
    refine ⟨ha,g,te,cur,h1,fun b=>(st.N r ha hr b).trans (h2 b),?_,lY st hh h4⟩
    rw [(st.root hh hr ((h2 g).2 rfl)).2];exact h3
   | row e xs=>
    rw [hp] at ho
    refine ⟨ho.1,?_⟩
    exact (ho.2.frame (w':=w') fun b hb=>(st.root hh hr hb).2).mono fun b hb=>(st.root hh hr hb).1
   | ql e xs j cs=>
    rw [hp] at ho
    refine ⟨ho.1,ho.2.1,?_⟩
    exact (ho.2.2.frame (w':=w') fun b hb=>(st.root hh hr hb).2).mono fun b hb=>(st.root hh hr hb).1
   | xj e xs j p=>
    rw [hp] at ho
    refine ⟨ho.1,ho.2.1,?_⟩
    exact ho.2.2.move (fun b hb=>(st.root hh hr hb).2) fun b hb=>(st.root hh hr hb).1
 refine ⟨⟨fun r b h=>?_,fun r q b h h'=>?_,fun r h=>?_,hrt,hh.fr.trans hfr fun b hb=>?_,fun r b h=>?_,hh.zf,hh.pn⟩,fun i y hy=>(sm.tm i y hy).kill st hh,sm.nx,sm.df,sm.sz,sm.fr.map' fun _ _ h=>h.kill st hh⟩
 ·rcases h with h | ⟨j,t,_,_,h⟩
  ·exact Nat.lt_of_lt_of_le (hh.lt r b h.1) hfr.size
  ·exact (hN j b h).1
 ·have key:∀{r q:Nat},A.N r b->¬G b->∀j,N j b->False:=by
   intro r q h1 h2 j h3
   rcases (hN j b h3).2 with h4 | h4
   ·exact h2 h4
   ·have:=hh.lt r b h1;omega
  rcases h with h | ⟨j,t,h1,h2,h3⟩<;>rcases h' with h' | ⟨j',t',k1,k2,k3⟩
  ·exact hh.dj r q b h.1 h'.1
  ·exact (key (q:=q) h.1 h.2 j' k3).elim
  ·exact (key (q:=q) h'.1 h'.2 j h3).elim
  ·obtain rfl:=hdj j j' b h3 k3
   rw [h1] at k1;injection k1 with k1;subst k1
   exact Af h2 k2
 ·have hr:r∉roots ts:=fun hr=>h (halr r hr).1
  show lD (roots ts) (qa E s.hp ts rows s.hp r)=.dead
  rw [kI hr,hh.al r h];rfl
 ·obtain ⟨r,_,h⟩:=hGch b hb
  exact hh.nm r b h
 ·rcases h with h | ⟨j,t,_,_,h⟩
  ·exact hh.nm r b h.1
  ·rcases hN2 j b h with ⟨q,_,h'⟩ | h'
   ·exact hh.nm q b h'
   ·exact .inr (Nat.le_trans hh.fr.size h')
theorem yT {qs:List QT}{i:Nat}{q:QT}(h:qs[i]?=some q):jy (qs.map fun q=>aW.row q.e q.l.dP) i=.row q.e q.l.dP:=by
 induction qs generalizing i with
 | nil=>simp at h
 | cons x qs ih=>
  cases i with
  | zero=>simp at h;subst h;rfl
  | succ i=>exact ih (by simpa using h)
theorem mz {qs:List QT}{i:Nat}(h:qs.length<=i):jy (qs.map fun q=>aW.row q.e q.l.dP) i=.dead:=by
 induction qs generalizing i with
 | nil=>rfl
 | cons x qs ih=>
  cases i with
  | zero=>simp at h
  | succ i=>exact ih (by simpa using h)
theorem vO (hM:∀g c,c∈E.M g->fD P E g c)(sm:gU E w0 M A s a w){k:V->St->aI}(h:rP E o.op s k=some bQ):∃v s',k v s'=some bQ/\qY P E w0 M A o a w v s':=by
 have hh:=sm.hp
 cases hop:o.op<;>rw [hop] at h<;>first | (simp only [rP] at h;cases h;done) | skip
 case call cc=>
  obtain ⟨callee,args,argTypes⟩:=cc
  cases callee with
  | builtin b=>simp only [rP] at h;cases h
  | invoke r n=>simp only [rP] at h;cases h
  | value f=>
   cases f<;>first | (simp only [rP] at h;cases h;done) | skip
   rename_i g
   simp only [rP] at h
   split at h
   ·rename_i c cs hcs
    obtain ⟨hent,hcall⟩:=hM g c (by rw [hcs];simp)
    obtain ⟨ls,ts,h1,h2⟩:=sj hh h
    cases hdi:distinct (roots ts)<;>simp only [hdi,aZ,aX] at h1
    ·cases h1
    cases hs:c.sem ls with
    | none=>rw [hs] at h1;cases h1
    | some r=>
     rw [hs] at h1
     simp only [Option.bind_some] at h1
     next=>
      refine ⟨_,_,h1,fun Kn Q hK=>?_⟩
      obtain ⟨qs,e1,e2,e3,e4⟩:=h2 (F2.Cq (g:=a.eval) (l:=args.toList) fun x _=>sm.ev x)
      have hql:(lW c.args).length=qs.length:=by rw [e3,List.length_map]
      let B:dS:={ v:=fun j=>match qs[j]? with | some q=>q.y | none=>Go.undef,N:=fun j b=>∃q,qs[j]?=some q/\q.F b,al:=fun j=>j<qs.length,Z:=fun b=>(∃(j:Nat) (q:QT),qs[j]?=some q/\q.F b)∨w.heap.size<=b }
      have hrun:(execOp a.eval o).run P w=.ok (.enter g (args.toList.map a.eval).toArray) w:=by
       obtain ⟨fn,g1,g2,g3⟩:=hent
       have :(args.map a.eval)=(args.toList.map a.eval).toArray:=by cases args;simp
       have g2' : fn.name ≠ "runtime.NumGoroutine" := by simpa using g2
       have g3':fn.body≠none:=fun h=>by simp [h] at g3
       simp [execOp,hop,resolve,Act.eval,Deferred.ofValue,invoke,callFunc,g1,g2',g3',this]
      unfold Oper.wp
      rw [hrun]
      have hB:Hp (np:=(lW c.args).length) E.cells w ⟨fun b=>∃j,B.N j b,B.v,[]⟩ B (jy (mN c.args ls)) w:=by
       refine ⟨fun r b ⟨q,q1,q2⟩=>?_,fun r q b ⟨q1,k1,k2⟩ ⟨q2,k3,k4⟩=>?_,fun r hr=>?_,fun r=>?_,Fr.refl _ _,fun r b hb=>.inl ⟨r,hb⟩,fun b hb=>hb,fun j hj=>⟨by show j<qs.length;omega,rfl⟩⟩
       ·obtain ⟨t,h3,h4⟩:=e1.get' q1
        obtain ⟨p,_,h6⟩:=h4.root q2
        exact hh.lt p b h6
       ·obtain ⟨t1,a1,a2⟩:=e1.get' k1
        obtain ⟨t2,b1,b2⟩:=e1.get' k3
        obtain ⟨p1,a3,a4⟩:=a2.root k2
        obtain ⟨p2,b3,b4⟩:=b2.root k4
        rw [hh.dj p1 p2 b a4 b4] at a3
        exact kG hdi a1 b1 a3 b3
       ·have hr':¬r<qs.length:=hr
        rw [e2];exact mz (by omega)
       ·rw [e2]
        by_cases hr:r<qs.length
        ·have hg:=List.getElem?_eq_getElem hr
         rw [yT hg]
         obtain ⟨t,_,h4⟩:=e1.get' hg
         refine ⟨hr,?_⟩
         have hv:B.v r=qs[r].y:=by show (match qs[r]? with | some q=>q.y | none=>Go.undef)=_;rw [hg]
         rw [hv]
         exact h4.2.1.sO.mono fun b hb=>⟨_,hg,hb⟩
        ·rw [mz (by omega)]
         rintro b ⟨q,hq,_⟩
         rw [List.getElem?_eq_none (by omega)] at hq;cases hq
      have hargs:=e4 B 0 fun i q hq=>⟨by rw [Nat.zero_add];exact (List.getElem?_eq_some_iff.1 hq).1,by show (match qs[0+i]? with | some q=>q.y | none=>Go.undef)=_;rw [Nat.zero_add,hq]⟩
      refine (hcall ls _ w _ B hs hB (fun q hq h=>?_) hargs).mono fun e w' hpost=>?_
      ·have :q<qs.length:=h
       omega
      ·obtain ⟨n',rows',N,rfl,rfl,hfr,p1,p2,p3⟩:=hpost
       refine hK _ w' _ (gU.mark (G:=fun b=>∃j,B.N j b) (N:=N) sm e1 hdi (fun b=>Iff.rfl) hfr p1 p2 fun j q hq=>?_) rfl rfl
       have hsl:(lW c.args)[j]?=some q.e:=by rw [e3,List.getElem?_map,hq];rfl
       have:=p3 j q.e hsl
       have hv:B.v j=q.y:=by show (match qs[j]? with | some q=>q.y | none=>Go.undef)=_;rw [hq]
       rwa [hv] at this
   ·cases h
end
end Go.DM
set_option linter.unusedSectionVars false
namespace Go.DM
section
variable {P:Program} {E:Env} {w0 w w':World} {np:Nat} {M:Mem np} {A A':dS} {s:St} {o:Oper} {a:Act} {bQ:List L}
theorem um {a b:aI}{r:List L}(h:either a b=some r):a=some r/\b=some r:=by
 unfold either at h
 split at h
 ·rename_i e;exact ⟨h,e ▸ h⟩
 ·cases h
theorem qU (sm:gU E w0 M A s a w){v:V}{x:Value}{yes no:aI}(hv:V2 E.cells w A v x)(h:uC s.hp v yes no=some bQ) :
  ∃A0 n c,x=.slice A0 n c/\(cond A0.isNone yes no)=some bQ:=by
 have hh:=sm.hp
 have emp:∀{e:Nat} {xs:aB} {Z:Nat->Prop},Rd E.cells w Z (.sl e) x (.sl xs)->(cond xs.isEmpty (either yes no) no)=some bQ->∃A0 n c,x=.slice A0 n c/\(cond A0.isNone yes no)=some bQ:=by
  intro e xs Z hr h
  obtain ⟨A0,n,c,rfl,h1,h2,h3⟩:=hr.inv
  refine ⟨A0,n,c,rfl,?_⟩
  cases xs with
  | nil=>
   obtain ⟨g1,g2⟩:=um (show either yes no=some bQ from h)
   cases A0.isNone
   ·exact g2
   ·exact g1
  | cons y ys=>
   have h1':(y::ys).length=n:=h1
   obtain ⟨b,o,vv,rfl,_⟩:=h3 (by rw [<-h1'];simp)
   exact h
 cases v<;>first | (cases h;done) | skip
 case nil=>
  obtain ⟨A0,rfl⟩:=(show V0 E.cells w A .nil x from hv)
  obtain ⟨g1,g2⟩:=um (show either yes no=some bQ from h)
  refine ⟨A0,0,0,rfl,?_⟩
  cases A0.isNone
  ·exact g2
  ·exact g1
 case sl d e xs=>exact emp (show V0 E.cells w A (.sl d e xs) x from hv).2 h
 case own r=>
  simp only [uC] at h
  split at h
  ·rename_i e xs hr
   have hroot:=hh.rt r
   rw [hr] at hroot
   obtain ⟨_,h2,_⟩:=(show V0 E.cells w A (.own r) x from hv)
   obtain ⟨_,hown⟩:=hroot
   rw [<-h2] at hown
   exact emp hown.rd h
  ·cases h
theorem Ay (hT:∀t i,E.T t=some i->gJ P E t i)(sm:gU E w0 M A s a w){op:BinOp}{t ty:TypeId}{x y:Operand}{k:V->St->aI}(ho:o.op=.binOp op t x y ty)(h:jD E (.binOp op t x y ty) s k=some bQ) :
  ∃v s',k v s'=some bQ/\qY P E w0 M A o a w v s':=by
 simp only [jD] at h
 cases hn:uP y<;>simp only [hn,aZ,aX] at h
 ·cases h
 have hy:a.eval y=.slice none 0 0:=by
  unfold uP at hn
  split at hn
  ·rfl
  ·cases hn
 split at h
 case h_2=>cases h
 rename_i el hel
 obtain ⟨hu,ie,hie⟩:=iT (E:=E) hT sm.hp sm.ev hel
 have fin:∀(b:Bool) (p:BinOp),op=p->(p=.eql∨p=.neq)->(∀A0 n c,a.eval x=.slice A0 n c->(cond A0.isNone (k (.bool (p == .eql)) s) (k (.bool (p == .neq)) s))=some bQ->∃v s',k v s'=some bQ/\qY P E w0 M A o a w v s'):=by
  intro _ p hp hpp A0 n c hx hk
  have hrun:∀r,(Go.binOp p t (.slice A0 n c) (.slice none 0 0)).run P w=.ok (.bool r) w->(execOp a.eval o).run P w=.ok (.value (.bool r)) w:=by
   intro r hr
   have hg:(eqGuard p t x y (.slice A0 n c) (.slice none 0 0)).run P w=.ok () w:=by rcases hpp with rfl | rfl<;>simp [eqGuard]
   simp only [execOp,ho,hp,hx,hy,map_eq_pure_bind,Sem.run_bind,hg,hr,Result.andThen_ok,Sem.run_pure]
  have out:∀r,(Go.binOp p t (.slice A0 n c) (.slice none 0 0)).run P w=.ok (.bool r) w->qY P E w0 M A o a w (.bool r) s:=by
   intro r hr K Q hK
   unfold Oper.wp
   rw [hrun r hr]
   exact hK (.bool r) w A sm rfl rfl
  have heql:(Go.binOp .eql t (.slice A0 n c) (.slice none 0 0)).run P w=.ok (.bool A0.isNone) w:=by
   have:=run_equal_slice_nil (P:=P) w t el A0 n c hu
   simp [Go.binOp,this]
  have hneq:(Go.binOp .neq t (.slice A0 n c) (.slice none 0 0)).run P w=.ok (.bool (!A0.isNone)) w:=by
   have:=run_equal_slice_nil (P:=P) w t el A0 n c hu
   simp [Go.binOp,this]
  rcases hpp with rfl | rfl
  ·cases hA:A0.isNone<;>rw [hA] at hk heql
   ·exact ⟨_,_,hk,out _ heql⟩
   ·exact ⟨_,_,hk,out _ heql⟩
  ·cases hA:A0.isNone<;>rw [hA] at hk hneq
   ·exact ⟨_,_,hk,out _ hneq⟩
   ·exact ⟨_,_,hk,out _ hneq⟩
 split at h
 ·obtain ⟨A0,n,c,h1,h2⟩:=qU sm (sm.ev x) h
  exact fin true .eql rfl (.inl rfl) A0 n c h1 h2
 ·obtain ⟨A0,n,c,h1,h2⟩:=qU sm (sm.ev x) h
  exact fin true .neq rfl (.inr rfl) A0 n c h1 h2
 ·cases h
theorem vG (hT:∀t i,E.T t=some i->gJ P E t i)(sm:gU E w0 M A s a w){k:V->St->aI}(h:jD E o.op s k=some bQ):∃v s',k v s'=some bQ/\qY P E w0 M A o a w v s':=by
 cases hop:o.op<;>rw [hop] at h<;>first | (simp only [jD] at h;cases h;done) | skip
 case store t x y=>exact AT hT sm hop h
 case binOp op t x y ty=>exact Ay hT sm hop h
 case call c=>
  obtain ⟨callee,args,argTypes⟩:=c
  cases callee with
  | builtin b=>
   cases b<;>first | (simp only [jD] at h;cases h;done) | skip
   simp only [jD] at h
   split at h
   ·rename_i x y hxy
    split at h
    ·rename_i t u htu
     have h1:args=#[x,y]:=by cases args;simp at hxy;subst hxy;rfl
     have h2:argTypes=#[t,u]:=by cases argTypes;simp at htu;subst htu;rfl
     subst h1;subst h2
     refine AA hT sm hop ?_
     simp only [jD];exact h
    ·cases h
   ·cases h
  | value f=>simp only [jD] at h;cases h
  | invoke r n=>simp only [jD] at h;cases h
theorem gU.put (sm:gU E w0 M A s a w){d:Option Nat}{v:V}{cv:Value}(hv:V2 E.cells w A v cv):gU E w0 M A (s.put d v) (a.put d cv) w:=by
 cases d with
 | none=>exact sm
 | some d=>
  refine ⟨sm.hp,fun i x hx=>?_,sm.nx,sm.df,by simpa [Act.put] using sm.sz,sm.fr⟩
  simp only [Act.put,St.put] at *
  rw [Array.getElem?_setIfInBounds] at hx
  by_cases hi:d=i
  ·subst hi
   rw [bG]
   split at hx
   ·split at hx
    ·injection hx with hx;subst hx;exact hv
    ·cases hx
   ·rename_i hn;exact (hn rfl).elim
  ·rw [bB _ _ (Ne.symm hi)]
   rw [if_neg hi] at hx
   exact sm.tm i x hx
end
section
variable {P:Program} {E:Env} {w0 w w':World} {M:Mem E.np} {A A':dS} {s:St} {o:Oper} {a:Act} {bQ:List L}
def qA (P:Program)(E:Env)(n:Nat)(g:FuncId)(c:kD)(X:dS->dS->Nat->Nat->Prop):Prop:=
 ∀(w0:World) (M:Mem n) (A:dS) (s:St) (w:World) (vs:List V) (xs:List Value) (k:V->St->aI) (bQ:List L),
  c.run vs s k=some bQ->Hp E.cells w0 M A s.hp w->(∀r,s.nx<=r->¬A.al r)->F2 (V2 E.cells w A) s.fr M.sv->F2 (V2 E.cells w A) vs xs->
  ∀(K:Value->World->Prop),(∀v s' cv w' A',k v s'=some bQ->Hp E.cells w0 M A' s'.hp w'->(∀r,s'.nx<=r->¬A'.al r)->F2 (V2 E.cells w' A') s'.fr M.sv->V2 E.cells w' A' v cv->A'.Z=A.Z->X A A' s.nx s'.nx->K cv w')->
   Calls P g xs.toArray w fun e w'=>∃cv,e=.returned cv/\K cv w'
def CR (_ _:dS)(_ _:Nat):Prop:=True
def AP (A A':dS)(n n':Nat):Prop:=n<=n'/\∀r,A'.al r->A.al r∨n<=r
def zM (c:kD):Prop:=∀(vs:List V) (s:St) (k:V->St->aI) (bQ:List L),c.run vs s k=some bQ->
 ∃(rs:List Nat) (v:V) (hp2:Nat->aW) (nx2:Nat),k v ⟨fun i=>iI rs (s.sl i),hp2,nx2,s.fr.map (iI rs)⟩=some bQ/\
  ∀(R:Nat) (zs:List V),s.hp R=.dead->R<s.nx->(∀z∈zs,∀rs,kg rs z=z)->∀sl' fr' (k':V->St->aI),
   c.run vs ⟨sl',upd s.hp R (.box zs),s.nx,fr'⟩ k'=k' v ⟨fun i=>iI rs (sl' i),upd hp2 R (.box zs),nx2,fr'.map (iI rs)⟩
def gI (P:Program)(E:Env)(n:Nat)(g:FuncId)(c:kD):Prop:=
 me P g/\qA P E n g c CR/\(c.late=true->zM c/\qA P E n g c AP)
def oD (P:Program)(E:Env):Prop:=(∀g c,c∈E.M g->fD P E g c)/\∀g c,c∈E.I g->gI P E E.np g c
theorem yj {R:V->Value->Prop}{vs:List V}{xs:List Value}(h:F2 R vs xs):∀{i:Nat} {x:Value},xs[i]?=some x->R (jO vs i) x:=by
 induction h with
 | nil=>intro i x hx;simp at hx
 | cons h _ ih=>
  intro i x hx
  cases i with
  | zero=>simp at hx;subst hx;exact h
  | succ i=>exact ih (by simpa using hx)
theorem pO {R:V->Value->Prop}{sl:Nat->V}:∀{xs:List Value} {i:Nat},(∀j x,xs[j]?=some x->R (sl (i+j)) x)->F2 R (eF sl i xs.length) xs
 | [],_,_=>.nil
 | x::xs,i,h=>.cons (by simpa using h 0 x (by simp)) (pO fun j y hy=>by
   have:=h (j+1) y (by simpa using hy)
   rwa [show i+(j+1)=i+1+j by omega] at this)
theorem xL (hT : ∀ t i, E.T t = some i -> gJ P E t i) (sm : gU E w0 M A s a w) {t el : TypeId} {x h0 : Operand} (ho : o.op = .slice t x none (some h0) none) (hel : (E.T t).bind TI.el = some el) {k : V -> St -> aI}
    (h : Cl E s el x h0 k = some bQ) : ∃ v s', k v s' = some bQ /\ qY P E w0 M A o a w v s' := by
  have hh := sm.hp
  unfold Cl at h
  have hx := sm.ev x
  split at h
  · rename_i r hr
    rw [hr] at hx
    split at h
    · rename_i e xs hrow
      cases he : Nat.beq e el <;> simp only [he, aZ, aX] at h
      · cases h
      obtain rfl := Nat.eq_of_beq_eq_true he
      split at h
      · rename_i ik n hn
        have hh0 : a.eval h0 = .int ik n := by have := sm.ev h0; rw [hn] at this; exact this
        by_cases h1 : 0 <= n
        · by_cases h2 : n <= (xs.length : Int)
          · simp only [h1, h2, decide_true, aZ] at h
            refine ⟨_, _, h, ?_⟩
            obtain ⟨q1, q2, A1, n0, c, q3⟩ := (show V0 E.cells w A (.own r) (a.eval x) from hx)
            have hroot := hh.rt r
            rw [hrow] at hroot
            obtain ⟨_, hown⟩ := hroot
            rw [<- q2, q3] at hown
            obtain ⟨hu, ie, hie⟩ := iT hT hh sm.ev hel
            obtain ⟨ii', d', z', k1, k2, k3, k4, k5, k6, kby, k7, k8, k9, k10, kpl, k11, k12, th, tj, k15⟩ := hT e ie hie
            have hcl : (E.cells e).length = ii'.size := by rw [iF hie, k4]
            have hlen : xs.length = n0 /\ n0 <= c := by
              obtain ⟨_, _, _, g1, g2, g3, _⟩ := hown.wP
              cases g1; exact ⟨g2, g3⟩
            have hb := kf (P := P) (w := w) (b := true) (lo := none) (hi := some (a.eval h0)) (l := 0) (h := n) (len := n0) (cap := c) (.inl ⟨rfl, rfl⟩) (.inr ⟨ik, by rw [hh0]⟩) (Int.le_refl _) h1 (by omega) hlen.2
            have hrun : (execOp a.eval o).run P w = .ok (.value (.slice (if c = 0 then A1 else A1.map (·.add 0)) n.toNat c)) w := by
              simp [execOp, ho, q3, Instr.sliceAt, Instr.slice, run_underlying hu, hb, gE k1]
            have hA : (if c = 0 then A1 else A1.map (·.add 0)) = A1 := by
              split
              · rfl
              · cases A1 with
                | none => rfl
                | some A1 => cases hown <;> first | (simp [Addr.add]; done) | skip
                             all_goals simp [oK]
            rw [hA] at hrun
            have hown2 : gk E.cells w (A.N r) (.sl e) (.slice A1 n.toNat c) (.sl (xs.take n.toNat)) := by
              cases hown
              · rename_i hz
                have : xs = [] := hz
                subst this
                have : n.toNat = 0 := by simp at h2; omega
                rw [this]
                exact .nil _ _ _ _ rfl
              · rename_i cur vv Sf _ _ _ _ _ _ _ _ _ _
                have e1 : xs.length = n0 := hlen.1
                refine .sl _ e n.toNat c _ _ _ _ _ _ (by simp [L.dP]; omega) (by omega) ‹c <= maxLen› ‹_› ‹_› ‹_› ‹_› ‹_› (fun i j k hi hj => (‹∀ i j k, i < n0 -> _ -> _› : ∀ i j k, i < n0 -> (E.cells e)[j]? = some k -> cur[i * (E.cells e).length + j]? = some (vv i j)) i j k (by omega) hj) (fun i j k hi hj => ?_)
                have := (‹_› : ∀ i j k, i < n0 -> (E.cells e)[j]? = some k -> gk E.cells w (Sf i j) k (vv i j) (((L.sl xs).dP.getD i []).getD j .hole)) i j k (by omega) hj
                have e2 : (xs.take n.toNat).getD i [] = xs.getD i [] := by
                  simp only [List.getD_eq_getElem?_getD, List.getElem?_take, hi, if_true]
                simp only [L.dP] at this ⊢
                rw [e2]; exact this
            have hnal : ¬ A.al s.nx := sm.nx _ (Nat.le_refl _)
            have hrx : r ≠ s.nx := by rintro rfl; exact hnal q1
            intro Kn Q hK
            unfold Oper.wp
            rw [hrun]
            have hN : ∀ b, (A.eD s.nx (.slice A1 n.toNat c) (fun q => q = r) (fun _ => False)).N s.nx b ↔ A.N r b := fun b => by simp [dS.eD]
            refine hK (.slice A1 n.toNat c) w (A.eD s.nx (.slice A1 n.toNat c) (fun q => q = r) (fun _ => False)) (gU.eD sm (r := none) (fun q => ?_) (fun q hq => by cases hq) (.inr rfl) (fun h => (hnal h).elim) (Nat.lt_succ_self _) (Nat.le_succ _) (fun q hq hc => ?_) (fun q hq hc => ?_) rfl rfl rfl (Nat.le_refl _) (fun b _ _ => rfl) (fun _ h => h.elim) (fun q e' xs' hq => by cases hq) (fun mv => ?_)) ?_ rfl
            · constructor
              · rintro rfl
                refine .inr ⟨by rw [hrow]; simp, ?_⟩
                rw [bB _ _ hrx, bG]
              · rintro (hq | hq)
                · cases hq
                · refine Classical.byContradiction fun hc => ?_
                  by_cases hqn : q = s.nx
                  · subst hqn; exact hq.1 (hh.al _ hnal)
                  · have := hq.2; rw [bB _ _ hqn, bB _ _ hc] at this; exact hq.1 this
            · obtain rfl : q = r := hc
              rw [bB _ _ hq, bG]
            · rw [bB _ _ hq, bB _ _ hc]
            · rw [bG]
              refine ⟨.inr rfl, ?_⟩
              have : (A.eD s.nx (.slice A1 n.toNat c) (fun q => q = r) (fun _ => False)).v s.nx = .slice A1 n.toNat c := by simp [dS.eD, bG]
              rw [this]
              exact hown2.mono fun b hb => (hN b).2 hb
            · exact V0.v2 (v := .own s.nx) ⟨.inr rfl, by simp [dS.eD, bG], A1, _, _, rfl⟩
          · simp [h1, h2] at h
        · simp [h1] at h
      · cases h
    · cases h
  · cases h
def B1 (v:V)(g:FuncId):Prop:=∃caps,v=.fn g caps
theorem qH (sm:gU E w0 M A s a w){X:dS->dS->Nat->Nat->Prop}{k:V->St->aI}{f:Operand}{args:Array Operand}{argTypes:Array TypeId}(hop:o.op=.call ⟨.value f,args,argTypes⟩)(h:jv E o.op s k=some bQ)
  (hI:∀g c,c∈E.I g->B1 (fQ E.nt s.sl f) g->me P g/\∀cs,E.I g=c::cs->qA P E E.np g c X) :
  ∀(K:Act->World->Prop) (Q:Exit->Act->World->Prop),(∀v s' cv w' A',k v s'=some bQ->gU E w0 M A' s' a w'->V2 E.cells w' A' v cv->A'.Z=A.Z->X A A' s.nx s'.nx->K (a.put o.dst cv) w')->o.wp P a w K Q:=by
 intro K Q hK
 rw [hop] at h
 have hh:=sm.hp
 have key:∀(g:FuncId) (c:kD) (caps:List V) (cl:List Value),qA P E E.np g c X->F2 (V2 E.cells w A) caps cl->(execOp a.eval o).run P w=.ok (.enter g (args.toList.map a.eval++cl).toArray) w->
   c.run (args.toList.map (fQ E.nt s.sl)++caps) { s with fr:=eF s.sl 0 E.nt++s.fr } (fun v s'=>k v { s' with sl:=jO s'.fr,fr:=s'.fr.drop E.nt })=some bQ->o.wp P a w K Q:=by
  intro g c caps cl hcall hcl hrun h
  unfold Oper.wp
  rw [hrun]
  have hl:a.tmps.toList.length=E.nt:=by rw [Array.length_toList,sm.sz]
  have hfr:F2 (V2 E.cells w A) (eF s.sl 0 E.nt++s.fr) (a.tmps.toList++M.sv):=by
   refine F2.append ?_ sm.fr
   rw [<-hl]
   exact pO fun j x hx=>by rw [Nat.zero_add];exact sm.tm j x (by simpa using hx)
  refine (hcall w0 ⟨M.p,M.v,a.tmps.toList++M.sv⟩ A { s with fr:=eF s.sl 0 E.nt++s.fr } w _ (args.toList.map a.eval++cl) _ bQ h ⟨hh.lt,hh.dj,hh.al,hh.rt,hh.fr,hh.nm,hh.zf,hh.pn⟩ sm.nx hfr ((F2.Cq fun x _=>sm.ev x).append hcl) (fun cv w'=>K (a.put o.dst cv) w') ?_).mono fun e w' hpost=>?_
  ·intro v s' cv w' A' e1 e2 e3 e4 e5 e6 e7
   have hd:=e4.drop E.nt
   refine hK v _ cv w' A' e1 ⟨⟨e2.lt,e2.dj,e2.al,e2.rt,e2.fr,e2.nm,e2.zf,e2.pn⟩,fun i x hx=>?_,e3,sm.df,sm.sz,?_⟩ e5 e6 e7
   ·refine yj e4 ?_
    have hi:=(Array.getElem?_eq_some_iff.1 hx).1
    rw [List.getElem?_append_left (by rw [Array.length_toList];exact hi)]
    simpa using hx
   ·rw [<-hl] at hd
    rw [show (a.tmps.toList++M.sv).drop a.tmps.toList.length=M.sv from List.drop_left ..] at hd
    rw [<-hl]
    exact hd
  ·obtain ⟨cv,rfl,hk⟩:=hpost
   exact hk
 cases f<;>first | (simp only [jv] at h;cases h;done) | skip
 case tmp t=>
  simp only [jv] at h
  split at h
  ·rename_i g caps hf
   split at h
   ·rename_i c cs hcs
    have hI':=hI g c (by rw [hcs];simp) ⟨caps,hf⟩
    have hfv:=sm.ev (.tmp t)
    rw [hf] at hfv
    obtain ⟨cl,e1,e2⟩:=(show V1 E.cells w A (.fn g caps) (a.eval (.tmp t)) from hfv)
    refine key g c caps cl (hI'.2 cs hcs) (e2.mono fun v x hv=>V0.v2 hv) ?_ h
    obtain ⟨fn,g1,g2,g3⟩:=hI'.1
    have :(args.map a.eval++cl.toArray)=(args.toList.map a.eval++cl).toArray:=by cases args;simp
    have g2' : fn.name ≠ "runtime.NumGoroutine" := by simpa using g2
    have g3':fn.body≠none:=fun h=>by simp [h] at g3
    simp [execOp,hop,resolve,e1,Deferred.ofValue,invoke,callFunc,g1,g2',g3',this]
   ·cases h
  ·cases h
 case func g=>
  simp only [jv] at h
  split at h
  ·rename_i c cs hcs
   have hI':=hI g c (by rw [hcs];simp) ⟨[],rfl⟩
   refine key g c [] [] (hI'.2 cs hcs) .nil ?_ (by rw [List.append_nil];exact h)
   obtain ⟨fn,g1,g2,g3⟩:=hI'.1
   have :(args.map a.eval)=(args.toList.map a.eval).toArray:=by cases args;simp
   have g2' : fn.name ≠ "runtime.NumGoroutine" := by simpa using g2
   have g3':fn.body≠none:=fun h=>by simp [h] at g3
   simp [execOp,hop,resolve,Act.eval,Deferred.ofValue,invoke,callFunc,g1,g2',g3',this]
  ·cases h
theorem vR (hT:∀t i,E.T t=some i->gJ P E t i)(hI:∀g c,c∈E.I g->gI P E E.np g c)(sm:gU E w0 M A s a w){k:V->St->aI}(h:jv E o.op s k=some bQ) :
  ∀(K:Act->World->Prop) (Q:Exit->Act->World->Prop),(∀v s' cv w' A',k v s'=some bQ->gU E w0 M A' s' a w'->V2 E.cells w' A' v cv->A'.Z=A.Z->K (a.put o.dst cv) w')->o.wp P a w K Q:=by
 intro K Q hK
 cases hop:o.op<;>rw [hop] at h<;>first | (simp only [jv] at h;cases h;done) | skip
 case slice t x lo hi mx=>
  cases lo<;>cases hi<;>cases mx<;>first | (simp only [jv] at h;cases h;done) | skip
  rename_i h0
  simp only [jv] at h
  split at h
  ·rename_i el hel
   obtain ⟨v,s',h1,h2⟩:=xL hT sm hop hel h
   exact h2 K Q fun cv w' A' g1 g2 g3=>hK v s' cv w' A' h1 g1 g2 g3
  ·cases h
 case call cc=>
  obtain ⟨callee,args,argTypes⟩:=cc
  cases callee with
  | builtin b=>simp only [jv] at h;cases h
  | invoke r n=>simp only [jv] at h;cases h
  | value f=>
   exact qH (X:=CR) sm hop (by rw [hop];exact h) (fun g c hc _=>⟨(hI g c hc).1,fun _ _=>(hI g c hc).2.1⟩) K Q fun v s' cv w' A' h1 h2 h3 h4 _=>hK v s' cv w' A' h1 h2 h3 h4
theorem mF (hT:∀t i,E.T t=some i->gJ P E t i)(hG:∀g c,c∈E.G g->Valid P E g c)(hM:oD P E)(sm:gU E w0 M A s a w){k:V->St->aI}(h:wj E o.op s k=some bQ) :
  ∀(K:Act->World->Prop) (Q:Exit->Act->World->Prop),(∀v s' cv w' A',k v s'=some bQ->gU E w0 M A' s' a w'->V2 E.cells w' A' v cv->A'.Z=A.Z->K (a.put o.dst cv) w')->o.wp P a w K Q:=by
 intro Kn Q hK
 unfold wj at h
 cases ht:Cw o.op<;>simp only [ht,aZ,aX] at h
 ·cases hm:CT E o.op<;>simp only [hm,aZ,aX] at h
  case true=>
   obtain ⟨v,s',h1,h2⟩:=vO hM.1 sm h
   exact h2 Kn Q fun cv w' A' g1 g2 g3=>hK v s' cv w' A' h1 g1 g2 g3
  cases hi:CE E o.op<;>simp only [hi,aZ,aX] at h
  case true=>exact vR hT hM.2 sm h Kn Q hK
  obtain ⟨v,rs,h1,h2⟩:=mE hT hG sm.hp sm.ev h
  refine h2 (fun r h _=>sm.nx r h) Kn Q fun cv w' A' g1 g2 g3 g4=>?_
  exact hK v _ cv w' A' h1 ⟨g1,fun i x hx=>(sm.tm i x hx).step g2 sm.hp (fun _ h=>h),fun r hr hal=>by
   have hr':s.nx+rs.length<=r:=hr
   rcases g4 r hal with h | h
   ·exact sm.nx r (by omega) h
   ·omega,sm.df,sm.sz,sm.fr.mono fun _ _ h=>h.step g2 sm.hp (fun _ h=>h)⟩ g3 g2.Z
 ·obtain ⟨v,s',h1,h2⟩:=vG hT sm h
  exact h2 Kn Q fun cv w' A' g1 g2 g3=>hK v s' cv w' A' h1 g1 g2 g3
theorem vL {α:Type}{f:Nat->α}{d:Nat}{v:α}(h:f d=v):upd f d v=f:=by
 funext i
 by_cases hi:i=d
 ·subst hi;rw [bG,h]
 ·rw [bB _ _ hi]
def yl (all:List Oper)(sl:Nat->V)(kn:Option (Nat×Nat×Bool)):Prop:=∀(j d:Nat) (t:Bool),kn=some (j,d,t)->sl d=.bool t/\∃o,all[j]?=some o/\o.dst=some d
theorem yl.st {all:List Oper}{s:St}{kn:Option (Nat×Nat×Bool)}(h:yl all s.sl kn):s.qO kn=s:=by
 match kn with
 | none=>rfl
 | some (j,d,t)=>simp only [St.qO];rw [vL (h j d t rfl).1]
theorem tF {nt d:Nat}{sl:Nat->V}{t:Bool}(h:look nt sl d=.bool t):sl d=.bool t:=by
 unfold look at h
 cases hb:Nat.blt d nt<;>simp only [hb,aZ,aX] at h
 ·cases h
 ·exact h
theorem qF {nt:Nat}{all:List Oper}{sl:Nat->V}{g:Option (Nat×Bool)}{k:Bool->Option (Nat×Nat×Bool)->aI}(h:guarded nt all sl g k=some bQ) :
  ∃go kn,k go kn=some bQ/\yl all sl kn/\∀k':Bool->Option (Nat×Nat×Bool)->aI,guarded nt all sl g k'=k' go kn:=by
 unfold guarded at h
 split at h
 ·exact ⟨true,none,h,fun _ _ _ e=>(by cases e),fun _=>rfl⟩
 ·rename_i j b
  split at h
  ·cases h
  ·rename_i o ho
   split at h
   ·cases h
   ·rename_i d hd
    split at h
    ·rename_i t ht
     have hk:=tF ht
     cases t<;>simp only [aZ,aX] at h
     ·exact ⟨_,_,h,fun _ _ _ e=>(by cases e;exact ⟨hk,o,ho,hd⟩),fun _=>by simp [guarded,ho,hd,ht]⟩
     ·exact ⟨_,_,h,fun _ _ _ e=>(by cases e;exact ⟨hk,o,ho,hd⟩),fun _=>by simp [guarded,ho,hd,ht]⟩
    ·rename_i ht
     exact ⟨_,_,h,fun _ _ _ e=>(by cases e),fun _=>by simp [guarded,ho,hd,ht]⟩
    ·cases h
theorem oJ {sl:Nat->V}(tm:∀i x,a.tmps[i]?=some x->V2 E.cells w A (sl i) x)(sz:a.tmps.size=E.nt){ops:Array Oper}{go:Bool}{kn:Option (Nat×Nat×Bool)}
  (h:∀k':Bool->Option (Nat×Nat×Bool)->aI,guarded E.nt ops.toList sl o.guard k'=k' go kn):Region.wanted o (yielded ops a.tmps)=go:=by
 have h:=h (fun go _=>some [.bool go])
 unfold guarded at h
 unfold Region.wanted
 split at h
 ·rename_i hg;rw [hg];injection h with h;injection h with h;injection h
 ·rename_i j b hg
  rw [hg]
  simp only
  split at h
  ·cases h
  ·rename_i oj hj
   rw [Array.getElem?_toList] at hj
   split at h
   ·cases h
   ·rename_i d hd
    have hy:yielded ops a.tmps j=match a.tmps[d]? with | some (.bool b)=>some b | _=>none:=by
     simp only [yielded,hj,Option.bind_some,hd]
     cases a.tmps[d]? with
     | none=>rfl
     | some x=>cases x<;>rfl
    split at h
    ·rename_i t ht
     have hlt:Nat.blt d E.nt=true:=by
      cases hb:Nat.blt d E.nt with
      | true=>rfl
      | false=>simp [look,hb] at ht
     have hd':d<a.tmps.size:=by rw [sz];exact Nat.blt_eq.mp hlt
     have hx:=tm d _ (Array.getElem?_eq_getElem hd')
     simp only [look,hlt,aZ] at ht
     rw [ht] at hx
     have hx':a.tmps[d]=.bool t:=hx
     rw [Array.getElem?_eq_getElem hd',hx'] at hy
     simp only at hy
     rw [hy]
     cases t<;>simp only [aZ,aX] at h<;>injection h with h<;>injection h with h<;>injection h with h<;>subst h<;>cases b<;>rfl
    ·rename_i ht
     injection h with h;injection h with h;injection h with h
     subst h
     have :yielded ops a.tmps j=none:=by
      rw [hy]
      by_cases hd':d<a.tmps.size
      ·have hx:=tm d _ (Array.getElem?_eq_getElem hd')
       have hlt:Nat.blt d E.nt=true:=Nat.blt_eq.mpr (by rw [<-sz];exact hd')
       simp only [look,hlt,aZ] at ht
       rw [ht] at hx
       have hx':a.tmps[d]=Go.undef:=hx
       rw [Array.getElem?_eq_getElem hd',hx'];rfl
      ·rw [Array.getElem?_eq_none (Nat.le_of_not_lt hd')]
     rw [this];rfl
    ·cases h
theorem pH (sm:gU E w0 M A s a w){ops:Array Oper}{k:Bool->Option (Nat×Nat×Bool)->aI}(h:guarded E.nt ops.toList s.sl o.guard k=some bQ) :
  ∃go kn,k go kn=some bQ/\s.qO kn=s/\Region.wanted o (yielded ops a.tmps)=go:=by
 obtain ⟨go,kn,h1,h2,h3⟩:=qF h
 exact ⟨go,kn,h1,h2.st,oJ sm.tm sm.sz h3⟩
theorem vc (hT:∀t i,E.T t=some i->gJ P E t i)(hG:∀g c,c∈E.G g->Valid P E g c)(hM:oD P E){ops:Array Oper}{Q:Exit->Act->World->Prop}:∀{os:List Oper} {A:dS} {s:St} {a:Act} {w:World} {k:St->aI},
  gU E w0 M A s a w->gT E ops.toList os s k=some bQ->(∀s' a' w' A',k s'=some bQ->gU E w0 M A' s' a' w'->A'.Z=A.Z->Q .normal a' w')->wpList P ops Q os a w:=by
 intro os
 induction os with
 | nil=>intro A s a w k sm h hQ;exact hQ s a w A h sm rfl
 | cons o os ih=>
  intro A s a w k sm h hQ
  simp only [gT] at h
  refine wpList_step fun Kn hK=>?_
  obtain ⟨go,kn,h2,hkn,h1⟩:=pH sm h
  rw [hkn] at h2
  cases go<;>simp only [aZ,aX] at h2
  case true=>
   rw [if_pos h1]
   refine mF hT hG hM sm h2 Kn Q fun v s' cv w' A' g1 q1 q2 q3=>hK _ _ (ih (q1.put q2) g1 fun s'' a'' w'' A'' e1 e2 e3=>hQ s'' a'' w'' A'' e1 e2 (e3.trans q3))
  case false=>
   rw [if_neg (by simp [h1])]
   exact hK _ _ (ih (sm.put (v:=.undef) (cv:=undef) rfl) h2 hQ)
end
end Go.DM
set_option linter.unusedSectionVars false
namespace Go.DM
def dS.vk (A:dS)(m:List Nat):dS:=
  { v:=fun j=>A.v (m.getD j 0),N:=fun j b=>∃r,m[j]?=some r/\A.N r b,al:=fun j=>∃r,m[j]?=some r/\A.al r,Z:=A.Z }
def vQ {r:Nat}:∀{m:List Nat} {i j:Nat},idx r m i=some j->i<=j/\m[j - i]?=some r
 | [],i,j,h=>by cases h
 | a::m,i,j,h=>by
  simp only [idx] at h
  cases hb:Nat.beq a r<;>simp only [hb,aZ,aX] at h
  ·obtain ⟨h1,h2⟩:=vQ h
   refine ⟨by omega,?_⟩
   rw [show j - i=(j - (i+1))+1 by omega];simpa using h2
  ·injection h with h
   subst h
   exact ⟨Nat.le_refl _,by simp [Nat.eq_of_beq_eq_true hb]⟩
def vp {r:Nat}:∀{m:List Nat} {i:Nat},idx r m i=none->r∉m
 | [],i,h=>by simp
 | a::m,i,h=>by
  simp only [idx] at h
  cases hb:Nat.beq a r<;>simp only [hb,aZ,aX] at h
  ·have:=vp h
   simp only [List.mem_cons,not_or]
   exact ⟨fun e=>by subst e;simp at hb,this⟩
  ·cases h
def Pre (m m':List Nat):Prop:=(∀(j r:Nat),m[j]?=some r->m'[j]?=some r)/\(m.Nodup->m'.Nodup)/\m.length<=m'.length
def Pre.refl (m:List Nat):Pre m m:=⟨fun _ _ h=>h,id,Nat.le_refl _⟩
def Pre.trans {a b c:List Nat}(h:Pre a b)(k:Pre b c):Pre a c:=⟨fun j r e=>k.1 j r (h.1 j r e),fun n=>k.2.1 (h.2.1 n),Nat.le_trans h.2.2 k.2.2⟩
section
variable {bQ:List L}
theorem ir {r:Nat}{m:List Nat}{k:Nat->List Nat->aI}(h:lO r m k=some bQ):∃j m',k j m'=some bQ/\Pre m m'/\m'[j]?=some r:=by
 unfold lO at h
 split at h
 ·rename_i j hj
  have:=(vQ hj).2
  exact ⟨j,m,h,Pre.refl m,by simpa using this⟩
 ·rename_i hj
  have hn:=vp hj
  refine ⟨_,_,h,⟨fun j r' e=>?_,fun hd=>?_,by simp⟩,by simp⟩
  ·rw [List.getElem?_append_left (List.getElem?_eq_some_iff.1 e).1];exact e
  ·rw [List.nodup_append]
   refine ⟨hd,by simp,fun a ha b hb=>?_⟩
   simp at hb;subst hb
   rintro rfl;exact hn ha
variable {T:Nat->List K} {w w0:World} {np:Nat} {M:Mem np} {A:dS}
theorem wh {m:List Nat}{j r b:Nat}(h:m[j]?=some r)(hb:A.N r b):(A.vk m).N j b:=⟨r,h,hb⟩
theorem pG {m:List Nat}{b:Nat}(h:fq w A b):fq w (A.vk m) b:=⟨h.1,h.2.1,fun _ ⟨r,_,hn⟩=>h.2.2 r hn⟩
theorem oA {m:List Nat}{j r b:Nat}(hj:m[j]?=some r)(h:fW w A (some r) b):fW w (A.vk m) (some j) b:=h.imp (wh hj) pG
theorem nU {m:List Nat}{j r:Nat}(h:m[j]?=some r):(A.vk m).v j=A.v r:=by simp [dS.vk,List.getD_eq_getElem?_getD,h]
theorem jA {m:List Nat}{j r:Nat}(h:m[j]?=some r)(ha:A.al r):(A.vk m).al j:=⟨r,h,ha⟩
theorem qI {v:V}{m:List Nat}{k:V->List Nat->aI}(h:uR v m k=some bQ) :
  ∃v' m',k v' m'=some bQ/\Pre m m'/\∀{mf:List Nat},Pre m' mf->∀{T:Nat->List K} {w:World} {A:dS} {x:Value},V0 T w A v x->V0 T w (A.vk mf) v' x:=by
 cases v with
 | own r=>
  obtain ⟨j,m',h1,h2,h3⟩:=ir h
  exact ⟨_,_,h1,h2,fun {mf} hp {T w A x} hv=>⟨jA (hp.1 _ _ h3) hv.1,by rw [nU (hp.1 _ _ h3)];exact hv.2.1,hv.2.2⟩⟩
 | sl d e xs=>
  cases d with
  | none=>exact ⟨_,_,h,Pre.refl m,fun {mf} hp {T w A x} hv=>⟨fun r hr=>(nomatch hr),hv.2.mono fun b hb=>pG hb⟩⟩
  | some r=>
   obtain ⟨j,m',h1,h2,h3⟩:=ir h
   exact ⟨_,_,h1,h2,fun {mf} hp {T w A x} hv=>⟨fun q hq=>by injection hq with hq;subst hq;exact jA (hp.1 _ _ h3) (hv.1 r rfl),hv.2.mono fun b hb=>oA (hp.1 _ _ h3) hb⟩⟩
 | lit r a b=>
  obtain ⟨j,m',h1,h2,h3⟩:=ir h
  exact ⟨_,_,h1,h2,fun {mf} hp {T w A x} hv=>by
   obtain ⟨ha,g,e1,e2⟩:=hv
   exact ⟨jA (hp.1 _ _ h3) ha,g,by rw [nU (hp.1 _ _ h3)];exact e1,e2⟩⟩
 | cC r o=>
  obtain ⟨j,m',h1,h2,h3⟩:=ir h
  exact ⟨_,_,h1,h2,fun {mf} hp {T w A x} hv=>by
   obtain ⟨ha,g,e1,e2⟩:=hv
   exact ⟨jA (hp.1 _ _ h3) ha,g,by rw [nU (hp.1 _ _ h3)];exact e1,e2⟩⟩
 | gi r a i o=>
  obtain ⟨j,m',h1,h2,h3⟩:=ir h
  exact ⟨_,_,h1,h2,fun {mf} hp {T w A x} hv=>by
   obtain ⟨ha,g,n,c,e1,e2⟩:=hv
   exact ⟨jA (hp.1 _ _ h3) ha,g,n,c,by rw [nU (hp.1 _ _ h3)];exact e1,e2⟩⟩
 | dQ d a b c=>
  cases d with
  | none=>exact ⟨_,_,h,Pre.refl m,fun {mf} hp {T w A x} hv=>by
    obtain ⟨ha,b,p,vv,h1,h2,h3⟩:=hv
    exact ⟨fun r hr=>(nomatch hr),b,p,vv,h1,pG h2,fun j k hj=>⟨(h3 j k hj).1,(h3 j k hj).2.mono fun b hb=>pG hb⟩⟩⟩
  | some r=>
   obtain ⟨j,m',h1,h2,h3⟩:=ir h
   exact ⟨_,_,h1,h2,fun {mf} hp {T w A x} hv=>by
    obtain ⟨ha,b,p,vv,e1,e2,e3⟩:=hv
    exact ⟨fun q hq=>by injection hq with hq;subst hq;exact jA (hp.1 _ _ h3) (ha r rfl),b,p,vv,e1,oA (hp.1 _ _ h3) e2,fun j k hj=>⟨(e3 j k hj).1,(e3 j k hj).2.mono fun b hb=>oA (hp.1 _ _ h3) hb⟩⟩⟩
 | gG r a i o e=>
  obtain ⟨j,m',h1,h2,h3⟩:=ir h
  exact ⟨_,_,h1,h2,fun {mf} hp {T w A x} hv=>by
   obtain ⟨ha,g,n,c,e1,e2,e3,e4⟩:=hv
   exact ⟨jA (hp.1 _ _ h3) ha,g,n,c,by rw [nU (hp.1 _ _ h3)];exact e1,e2,wh (hp.1 _ _ h3) e3,e4⟩⟩
 | undef=>exact ⟨_,_,h,Pre.refl m,fun {mf} hp {T w A x} hv=>hv⟩
 | dead=>exact ⟨_,_,h,Pre.refl m,fun {mf} hp {T w A x} hv=>hv⟩
 | int=>exact ⟨_,_,h,Pre.refl m,fun {mf} hp {T w A x} hv=>hv⟩
 | bool=>exact ⟨_,_,h,Pre.refl m,fun {mf} hp {T w A x} hv=>hv⟩
 | str=>exact ⟨_,_,h,Pre.refl m,fun {mf} hp {T w A x} hv=>hv⟩
 | nil=>exact ⟨_,_,h,Pre.refl m,fun {mf} hp {T w A x} hv=>hv⟩
 | fn=>exact ⟨_,_,h,Pre.refl m,fun {mf} hp {T w A x} hv=>hv.elim⟩
 | agg=>exact ⟨_,_,h,Pre.refl m,fun {mf} hp {T w A x} hv=>hv.elim⟩
 | iS=>exact ⟨_,_,h,Pre.refl m,fun {mf} hp {T w A x} hv=>hv.elim⟩
theorem jL:∀{vs:List V} {m:List Nat} {k:List V->List Nat->aI},nC vs m k=some bQ->
  ∃vs' m',k vs' m'=some bQ/\Pre m m'/\∀{mf:List Nat},Pre m' mf->∀{T:Nat->List K} {w:World} {A:dS} {xs:List Value},(F2 (V0 T w A) vs xs->F2 (V0 T w (A.vk mf)) vs' xs)/\(F2 (Vc T w A) vs xs->F2 (Vc T w (A.vk mf)) vs' xs)
 | [],m,k,h=>⟨_,_,h,Pre.refl m,fun {mf} _ {T w A xs}=>⟨fun hf=>by cases hf;exact .nil,fun hf=>by cases hf;exact .nil⟩⟩
 | v::vs,m,k,h=>by
  simp only [nC] at h
  obtain ⟨v',m1,h1,h2,h3⟩:=qI h
  obtain ⟨vs',m2,g1,g2,g3⟩:=jL h1
  refine ⟨_,_,g1,h2.trans g2,fun {mf} hp {T w A xs}=>⟨fun hf=>?_,fun hf=>?_⟩⟩
  ·cases hf with
   | cons ha ht=>exact .cons (h3 (g2.trans hp) ha) ((g3 hp).1 ht)
  ·cases hf with
   | cons ha ht=>exact .cons ⟨h3 (g2.trans hp) ha.1,ha.2⟩ ((g3 hp).2 ht)
theorem wo {v:V}{m:List Nat}{k:V->List Nat->aI}(h:Ar v m k=some bQ) :
  ∃v' m',k v' m'=some bQ/\Pre m m'/\∀{mf:List Nat},Pre m' mf->∀{T:Nat->List K} {w:World} {A:dS} {x:Value},V2 T w A v x->V2 T w (A.vk mf) v' x:=by
 have leaf:∀{v:V},(∀{T:Nat->List K} {w:World} {A:dS} {x:Value},V2 T w A v x->V0 T w A v x)->uR v m k=some bQ->
   ∃v' m',k v' m'=some bQ/\Pre m m'/\∀{mf:List Nat},Pre m' mf->∀{T:Nat->List K} {w:World} {A:dS} {x:Value},V2 T w A v x->V2 T w (A.vk mf) v' x:=by
  intro v hv h
  obtain ⟨v',m',h1,h2,h3⟩:=qI h
  exact ⟨v',m',h1,h2,fun {mf} hp {T w A x} hx=>V0.v2 (h3 hp (hv hx))⟩
 cases v with
 | iS vs=>exact ⟨_,_,h,Pre.refl m,fun {mf} hp {T w A x} _=>trivial⟩
 | agg cs=>
  obtain ⟨vs',m',h1,h2,h3⟩:=jL (k:=fun cs m=>k (.agg cs) m) h
  refine ⟨_,_,h1,h2,fun {mf} hp {T w A x} hx=>?_⟩
  obtain ⟨l,e1,e2⟩:=(show V1 T w A (.agg cs) x from hx)
  exact V1.v2 (v:=.agg _) ⟨l,e1,(h3 hp).2 e2⟩
 | fn f cs=>
  obtain ⟨vs',m',h1,h2,h3⟩:=jL (k:=fun cs m=>k (.fn f cs) m) h
  refine ⟨_,_,h1,h2,fun {mf} hp {T w A x} hx=>?_⟩
  obtain ⟨l,e1,e2⟩:=(show V1 T w A (.fn f cs) x from hx)
  exact V1.v2 (v:=.fn _ _) ⟨l,e1,(h3 hp).1 e2⟩
 | undef=>exact leaf (fun h=>h) h
 | dead=>exact leaf (fun h=>h) h
 | int=>exact leaf (fun h=>h) h
 | bool=>exact leaf (fun h=>h) h
 | str=>exact leaf (fun h=>h) h
 | nil=>exact leaf (fun h=>h) h
 | sl=>exact leaf (fun h=>h) h
 | own=>exact leaf (fun h=>h) h
 | lit=>exact leaf (fun h=>h) h
 | cC=>exact leaf (fun h=>h) h
 | gG=>exact leaf (fun h=>h) h
 | gi=>exact leaf (fun h=>h) h
 | dQ=>exact leaf (fun h=>h) h
theorem pJ:∀{vs:List V} {m:List Nat} {k:List V->List Nat->aI},qZ vs m k=some bQ->
  ∃vs' m',k vs' m'=some bQ/\Pre m m'/\vs'.length=vs.length/\∀{mf:List Nat},Pre m' mf->∀{T:Nat->List K} {w:World} {A:dS} {j:Nat} {v:V} {x:Value},vs[j]?=some v->V2 T w A v x->∃v',vs'[j]?=some v'/\V2 T w (A.vk mf) v' x
 | [],m,k,h=>⟨_,_,h,Pre.refl m,rfl,fun {mf} _ {T w A j v x} hj=>by simp at hj⟩
 | v::vs,m,k,h=>by
  simp only [qZ] at h
  obtain ⟨v',m1,h1,h2,h3⟩:=wo h
  obtain ⟨vs',m2,g1,g2,gl,g3⟩:=pJ h1
  refine ⟨_,_,g1,h2.trans g2,by simp [gl],fun {mf} hp {T w A j u x} hj hx=>?_⟩
  cases j with
  | zero=>
   simp at hj
   subst hj
   exact ⟨v',rfl,h3 (g2.trans hp) hx⟩
  | succ j=>exact g3 hp (by simpa using hj) hx
theorem mA {hp:Nat->aW}:∀{n j:Nat} {m:List Nat} {k:List aW->aI},j<=m.length->qz hp n j m k=some bQ->
  ∃h mf,k h=some bQ/\Pre m mf/\h.length+j=mf.length/\∀{i r:Nat},mf[j+i]?=some r->∃o',h[i]?=some o'/\(hp r=.dead->o'=.dead)/\∀{T:Nat->List K} {w:World} {A:dS},mf.Nodup->eU T w A r (hp r)->eU T w (A.vk mf) (j+i) o'
 | 0,j,m,k,_,h=>by cases h
 | n+1,j,m,k,hjm,h=>by
  simp only [qz] at h
  split at h
  ·rename_i hj
   have :m.length<=j:=List.getElem?_eq_none_iff.1 hj
   refine ⟨_,m,h,Pre.refl m,by simp;omega,fun {i r} hi=>?_⟩
   rw [List.getElem?_eq_none (by omega)] at hi;cases hi
  ·rename_i r hr
   have hjl:j<m.length:=(List.getElem?_eq_some_iff.1 hr).1
   have other:∀{o:aW},hp r=o->(∀cs,o≠.box cs)->(qz hp n (j+1) m fun h=>k (xu o::h))=some bQ->
     ∃h mf,k h=some bQ/\Pre m mf/\h.length+j=mf.length/\∀{i r:Nat},mf[j+i]?=some r->∃o',h[i]?=some o'/\(hp r=.dead->o'=.dead)/\∀{T:Nat->List K} {w:World} {A:dS},mf.Nodup->eU T w A r (hp r)->eU T w (A.vk mf) (j+i) o':=by
    intro o ho hnb h
    obtain ⟨hh,mf,g1,g2,g3,g4⟩:=mA (j:=j+1) (by omega) h
    refine ⟨_,mf,g1,g2,by simp;omega,fun {i q} hi=>?_⟩
    cases i with
    | zero=>
     have hq:q=r:=by
      have:=g2.1 j r hr
      rw [Nat.add_zero] at hi;rw [this] at hi;injection hi with hi;exact hi.symm
     subst hq
     refine ⟨xu o,rfl,fun e=>by rw [<-ho,e];rfl,fun {T w A} _ hok=>?_⟩
     rw [ho] at hok
     have hjq:mf[j]?=some q:=g2.1 j q hr
     cases o with
     | box cs=>exact (hnb cs rfl).elim
     | dead=>
      rintro b ⟨p,hp1,hp2⟩
      rw [Nat.add_zero,hjq] at hp1;injection hp1 with hp1;subst hp1
      exact hok b hp2
     | row e xs=>
      refine ⟨jA hjq hok.1,?_⟩
      rw [Nat.add_zero,nU hjq]
      exact hok.2.mono fun b hb=>wh hjq hb
     | ql e xs i cs=>
      refine ⟨jA hjq hok.1,?_⟩
      rw [Nat.add_zero,nU hjq]
      exact hok.2.2.mono fun b hb=>wh hjq hb
     | xj e xs i p=>
      refine ⟨jA hjq hok.1,hok.2.1,?_⟩
      rw [Nat.add_zero,nU hjq]
      exact hok.2.2.move (fun _ _=>rfl) fun b hb=>wh hjq hb
    | succ i=>
     have:=g4 (i:=i) (r:=q) (by rw [show j+1+i=j+(i+1) by omega];exact hi)
     rw [show j+1+i=j+(i+1) by omega] at this
     exact this
   split at h
   ·rename_i cs hcs
    obtain ⟨cs',m1,h1,h2,h3⟩:=jL h
    have hr1:=h2.1 j r hr
    obtain ⟨hh,mf,g1,g2,g3,g4⟩:=mA (j:=j+1) (by have:=h2.2.2;omega) h1
    refine ⟨_,mf,g1,h2.trans g2,by simp;omega,fun {i q} hi=>?_⟩
    cases i with
    | zero=>
     have hjr:=g2.1 j r hr1
     have hq:q=r:=by rw [Nat.add_zero,hjr] at hi;injection hi with hi;exact hi.symm
     subst hq
     refine ⟨_,rfl,fun e=>(by rw [e] at hcs;cases hcs),fun {T w A} hnd hok=>?_⟩
     rw [hcs] at hok
     obtain ⟨ha,g,te,cur,e1,e2,e3,e4⟩:=hok
     refine ⟨jA hjr ha,g,te,cur,by rw [Nat.add_zero,nU hjr];exact e1,fun b=>?_,e3,(h3 g2).2 e4⟩
     constructor
     ·rintro ⟨p,hp1,hp2⟩
      rw [Nat.add_zero,hjr] at hp1;injection hp1 with hp1;subst hp1
      exact (e2 b).1 hp2
     ·intro hb;exact ⟨q,hjr,(e2 b).2 hb⟩
    | succ i=>
     have:=g4 (i:=i) (r:=q) (by rw [show j+1+i=j+(i+1) by omega];exact hi)
     rw [show j+1+i=j+(i+1) by omega] at this
     exact this
   ·rename_i hnb
    exact other rfl (fun cs he=>hnb cs he) h
theorem nJ:∀{h:List aW} {i:Nat} {o:aW},h[i]?=some o->jy h i=o
 | [],i,o,h=>by simp at h
 | r::rs,0,o,h=>by simp at h;exact h
 | r::rs,i+1,o,h=>nJ (h:=rs) (i:=i) (by simpa using h)
theorem oH:∀{h:List aW} {i:Nat},h.length<=i->jy h i=.dead
 | [],i,h=>rfl
 | r::rs,0,h=>by simp at h
 | r::rs,i+1,h=>oH (h:=rs) (i:=i) (by simpa using h)
theorem kS:∀n,(upTo n).length=n
 | 0=>rfl
 | n+1=>by simp [upTo,kS n]
theorem wL:∀{n j:Nat},j<n->(upTo n)[j]?=some j
 | 0,j,h=>by omega
 | n+1,j,h=>by
  simp only [upTo]
  by_cases hj:j<n
  ·rw [List.getElem?_append_left (by rw [kS];exact hj)];exact wL hj
  ·have :j=n:=by omega
   subst this
   rw [List.getElem?_append_right (by rw [kS];exact Nat.le_refl _),kS];simp
theorem xX:∀{n x:Nat},x∈upTo n->x<n
 | 0,x,h=>by simp [upTo] at h
 | n+1,x,h=>by
  simp only [upTo,List.mem_append,List.mem_singleton] at h
  rcases h with h | h
  ·have:=xX h;omega
  ·omega
theorem sM:∀n,(upTo n).Nodup
 | 0=>by simp [upTo]
 | n+1=>by
  simp only [upTo]
  rw [List.nodup_append]
  exact ⟨sM n,by simp,fun a ha b hb=>by simp at hb;have:=xX ha;omega⟩
theorem tH:∀{live:Live} {vs:List V} {i:Nat},tI live vs i=.dead∨∃(j:Nat) (e:Option Nat) (v:V),live[j]?=some (i,e)/\vs[j]?=some v/\tI live vs i=v
 | [],vs,i=>.inl (by cases vs<;>rfl)
 | (a,e)::as,[],i=>.inl rfl
 | (a,e)::as,v::vs,i=>by
  simp only [tI]
  cases hb:Nat.beq i a with
  | true=>
   obtain rfl:=Nat.eq_of_beq_eq_true hb
   exact .inr ⟨0,e,v,rfl,rfl,rfl⟩
  | false=>
   rcases tH (live:=as) (vs:=vs) (i:=i) with h | ⟨j,e',v',h1,h2,h3⟩
   ·exact .inl h
   ·exact .inr ⟨j+1,e',v',by simpa using h1,by simpa using h2,h3⟩
end
def wD:∀{vs:List V} {i:Nat},jO vs i=.nil->vs[i]?=some .nil
 | [],_,h=>by cases h
 | v::vs,0,h=>by simpa [jO] using h
 | v::vs,i+1,h=>by simpa using wD (vs:=vs) (i:=i) h
def F2.setAt {α β:Type}{R:α->β->Prop}{as:List α}{bs:List β}(h:F2 R as bs):∀{i:Nat} {a:α} {b:β},bs[i]?=some b->R a b->F2 R (setAt as i a) bs:=by
 induction h with
 | nil=>intro i a b hb;simp at hb
 | cons h ht ih=>
  intro i a b hb hr
  cases i with
  | zero=>simp at hb;subst hb;exact .cons hr ht
  | succ i=>exact .cons h (ih (by simpa using hb) hr)
section
variable {E:Env} {w0 w:World} {M:Mem E.np} {A:dS} {s:St} {a:Act} {bQ:List L}
section
variable {T:Nat->List K} {np:Nat} {M:Mem np} {hp:Nat->aW}
def dS.free (A:dS)(r:Nat):dS:={ A with N:=fun q b=>q≠r/\A.N q b }
theorem jP {r b:Nat}(h:fq w A b):fq w (A.free r) b:=⟨h.1,h.2.1,fun q hq=>h.2.2 q hq.2⟩
theorem ow (hh:Hp T w0 M A hp w){r b:Nat}(h:A.N r b):fq w (A.free r) b:=
 ⟨hh.zf b (hh.nm r b h),hh.lt r b h,fun q hq=>hq.1 (hh.dj q r b hq.2 h)⟩
theorem qV {r : Nat} {d : Option Nat} (hd : d ≠ some r) {b : Nat} (h : fW w A d b) : fW w (A.free r) d b := by
  cases d with
  | none => exact jP h
  | some q => rcases h with h | h
              · exact .inl ⟨fun e => hd (by rw [e]), h⟩
              · exact .inr (jP h)
theorem tO (r q:Nat):mJ hp r (.own q)=bif Nat.beq q r then (match hp r with | .row e xs=>.sl none e xs | _=>.own q) else .own q:=rfl
theorem zu (r q e:Nat)(xs:aB):mJ hp r (.sl (some q) e xs)=bif Nat.beq q r then .sl none e xs else .sl (some q) e xs:=rfl
theorem xS (r q:Nat)(a:List K)(b:List L)(c:Nat):mJ hp r (.dQ (some q) a b c)=bif Nat.beq q r then .dQ none a b c else .dQ (some q) a b c:=rfl
theorem yJ (r q a b c d:Nat):mJ hp r (.gG q a b c d)=bif Nat.beq q r then .dead else .gG q a b c d:=rfl
theorem V0.free (hh:Hp T w0 M A hp w){r e0:Nat}{xs0:aB}(hr:hp r=.row e0 xs0){v:V}{x:Value}(hv:V0 T w A v x):V0 T w (A.free r) (mJ hp r v) x:=by
 have ne:∀{q:Nat},Nat.beq q r=false->q≠r:=fun h e=>by rw [e,Nat.beq_refl] at h;cases h
 cases v with
 | own q=>
  rw [tO]
  cases hq:Nat.beq q r with
  | true=>
   obtain rfl:=Nat.eq_of_beq_eq_true hq
   rw [hr]
   have hroot:=hh.rt q
   rw [hr] at hroot
   refine ⟨(fun r hr=>nomatch hr),?_⟩
   rw [hv.2.1]
   exact hroot.2.rd.mono fun b hb=>ow hh hb
  | false=>exact hv
 | sl d e xs=>
  cases d with
  | none=>exact ⟨(fun r hr=>nomatch hr),hv.2.mono fun b hb=>jP hb⟩
  | some q=>
   rw [zu]
   cases hq:Nat.beq q r with
   | true=>
    obtain rfl:=Nat.eq_of_beq_eq_true hq
    exact ⟨(fun r hr=>nomatch hr),hv.2.mono fun b hb=>hb.elim (fun h=>ow hh h) fun h=>jP h⟩
   | false=>exact ⟨hv.1,hv.2.mono fun b hb=>qV (fun h=>by injection h with h;exact ne hq h) hb⟩
 | dQ d es cs o=>
  have go:∀d d':Option Nat,(∀r,d'=some r->A.al r)->(∀b,fW w A d b->fW w (A.free r) d' b)->V0 T w A (.dQ d es cs o) x->V0 T w (A.free r) (.dQ d' es cs o) x:=by
   intro d d' ha hd ⟨_,b,q,v,h1,h2,h3⟩
   exact ⟨ha,b,q,v,h1,hd b h2,fun j k hj=>⟨(h3 j k hj).1,(h3 j k hj).2.mono hd⟩⟩
  cases d with
  | none=>exact go none none (fun r hr=>nomatch hr) (fun b hb=>jP hb) hv
  | some q=>
   rw [xS]
   cases hq:Nat.beq q r with
   | true=>
    obtain rfl:=Nat.eq_of_beq_eq_true hq
    exact go (some q) none (fun r hr=>nomatch hr) (fun b hb=>hb.elim (fun h=>ow hh h) fun h=>jP h) hv
   | false=>exact go (some q) (some q) hv.1 (fun b hb=>qV (fun h=>by injection h with h;exact ne hq h) hb) hv
 | gG q a b c d=>
  rw [yJ]
  cases hq:Nat.beq q r with
  | true=>exact trivial
  | false=>
   obtain ⟨ha,g,n,c',h1,h2,h3,h4⟩:=hv
   exact ⟨ha,g,n,c',h1,h2,⟨ne hq,h3⟩,h4⟩
 | lit q n e=>exact hv
 | cC q o=>exact hv
 | gi q sz i o=>exact hv
 | undef=>exact hv
 | dead=>exact hv
 | int=>exact hv
 | bool=>exact hv
 | str=>exact hv
 | nil=>exact hv
 | fn=>exact hv.elim
 | agg=>exact hv.elim
 | iS=>exact hv.elim
theorem sB (hh:Hp T w0 M A hp w){r e0:Nat}{xs0:aB}(hr:hp r=.row e0 xs0){cs:List V}{xs:List Value}(hf:F2 (Vc T w A) cs xs):F2 (Vc T w (A.free r)) (cs.map (mJ hp r)) xs:=by
 induction hf with
 | nil=>exact .nil
 | cons h _ ih=>exact .cons ⟨h.1.free hh hr,h.2⟩ ih
theorem V2.free (hh:Hp T w0 M A hp w){r e0:Nat}{xs0:aB}(hr:hp r=.row e0 xs0){v:V}{x:Value}(hv:V2 T w A v x):V2 T w (A.free r) (zD hp r v) x:=by
 cases v with
 | iS vs=>exact trivial
 | fn f cs=>
  obtain ⟨l,rfl,hl⟩:=(show V1 T w A (.fn f cs) x from hv)
  refine V1.v2 (v:=.fn f _) ⟨l,rfl,?_⟩
  clear hv
  induction hl with
  | nil=>exact .nil
  | cons hc _ ih=>exact .cons (V0.free hh hr hc) ih
 | agg cs=>obtain ⟨l,rfl,hl⟩:=hv;exact V1.v2 (v:=.agg _) ⟨l,rfl,sB hh hr hl⟩
 | undef=>exact V0.v2 (V0.free (v:=.undef) hh hr hv)
 | dead=>exact trivial
 | int k n=>exact V0.v2 (V0.free (v:=.int k n) hh hr hv)
 | bool b=>exact V0.v2 (V0.free (v:=.bool b) hh hr hv)
 | str s=>exact V0.v2 (V0.free (v:=.str s) hh hr hv)
 | nil=>exact V0.v2 (V0.free (v:=.nil) hh hr hv)
 | sl d e xs=>exact V0.v2 (V0.free (v:=.sl d e xs) hh hr hv)
 | own q=>
  have h:=V0.free (v:=.own q) hh hr hv
  show V2 T w (A.free r) (mJ hp r (.own q)) x
  rw [tO] at h ⊢
  cases hq:Nat.beq q r<;>simp only [hq,aZ,aX] at h ⊢
  ·exact V0.v2 h
  ·rw [hr] at h ⊢;exact V0.v2 h
 | lit q n e=>exact V0.v2 (V0.free (v:=.lit q n e) hh hr hv)
 | cC q o=>exact V0.v2 (V0.free (v:=.cC q o) hh hr hv)
 | gi q sz i o=>exact V0.v2 (V0.free (v:=.gi q sz i o) hh hr hv)
 | gG q a b c d=>exact V0.v2 (V0.free (v:=.gG q a b c d) hh hr hv)
 | dQ d es cs o=>exact V0.v2 (V0.free (v:=.dQ d es cs o) hh hr hv)
theorem eU.free (hh:Hp T w0 M A hp w){r e0 q:Nat}{xs0:aB}(hr:hp r=.row e0 xs0)(hq:q≠r){o:aW}(h:eU T w A q o):eU T w (A.free r) q (xZ hp r o):=by
 cases o with
 | dead=>exact fun b hb=>h b hb.2
 | box cs=>
  obtain ⟨ha,g,te,cur,h1,h2,h3,h4⟩:=h
  exact ⟨ha,g,te,cur,h1,fun b=>⟨fun hb=>(h2 b).1 hb.2,fun hb=>⟨hq,(h2 b).2 hb⟩⟩,h3,sB hh hr h4⟩
 | row e xs=>exact ⟨h.1,h.2.mono fun b hb=>⟨hq,hb⟩⟩
 | ql e xs j cs=>exact ⟨h.1,h.2.1,h.2.2.mono fun b hb=>⟨hq,hb⟩⟩
 | xj e xs i o=>exact ⟨h.1,h.2.1,h.2.2.move (fun _ _=>rfl) fun b hb=>⟨hq,hb⟩⟩
end
theorem gU.tE (sm:gU E w0 M A s a w){r e0:Nat}{xs0:aB}(hr:s.hp r=.row e0 xs0):gU E w0 M (A.free r) (s.tE r) a w:=by
 have hh:=sm.hp
 refine ⟨⟨fun q b h=>hh.lt q b h.2,fun q p b h h'=>hh.dj q p b h.2 h'.2,fun q h=>?_,fun q=>?_,hh.fr,fun q b h=>hh.nm q b h.2,hh.zf,hh.pn⟩,fun i x hx=>(sm.tm i x hx).free hh hr,sm.nx,sm.df,sm.sz,sm.fr.map' fun _ _ h=>h.free hh hr⟩
 ·show (cond (Nat.beq q r) aW.dead (xZ s.hp r (s.hp q)))=.dead
  rw [hh.al q h]
  cases Nat.beq q r<;>rfl
 ·show eU E.cells w (A.free r) q (cond (Nat.beq q r) aW.dead (xZ s.hp r (s.hp q)))
  cases hq:Nat.beq q r with
  | true=>
   obtain rfl:=Nat.eq_of_beq_eq_true hq
   exact fun b hb=>hb.1 rfl
  | false=>exact (hh.rt q).free hh hr fun e=>by rw [e,Nat.beq_refl] at hq;cases hq
theorem gU.Ag (sm:gU E w0 M A s a w){t e:Nat}{k:St->aI}(h:Ag s t e k=some bQ):∃s' A',k s'=some bQ/\gU E w0 M A' s' a w/\A'.Z=A.Z:=by
 unfold DM.Ag at h
 split at h
 ·rename_i hnil
  refine ⟨_,A,h,⟨sm.hp,fun i x hx=>?_,sm.nx,sm.df,sm.sz,sm.fr⟩,rfl⟩
  show V2 E.cells w A (upd s.sl t (.sl none e []) i) x
  by_cases hi:i=t
  ·subst hi
   rw [bG]
   have:=sm.tm i x hx
   rw [hnil] at this
   obtain ⟨b,rfl⟩:=(show V0 E.cells w A .nil x from this)
   exact V0.v2 (v:=.sl none e []) ⟨(fun r hr=>nomatch hr),.nil _ _ _ _ rfl⟩
  ·rw [bB _ _ hi];exact sm.tm i x hx
 ·split at h
  ·rename_i hr;exact ⟨_,_,h,sm.tE hr,rfl⟩
  ·cases h
 ·split at h
  ·rename_i hr;exact ⟨_,_,h,sm.tE hr,rfl⟩
  ·exact ⟨s,A,h,sm,rfl⟩
 ·exact ⟨s,A,h,sm,rfl⟩
theorem gU.coerce (sm:gU E w0 M A s a w){t:Nat}{e:Option Nat}{k:St->aI}(h:coerce E s t e k=some bQ) :
  ∃s' A',k s'=some bQ/\gU E w0 M A' s' a w/\A'.Z=A.Z:=by
 have hh:=sm.hp
 unfold DM.coerce at h
 split at h
 ·exact ⟨s,A,h,sm,rfl⟩
 rename_i e
 have hnal:¬A.al s.nx:=sm.nx _ (Nat.le_refl _)
 cases hlend:Nat.ble 1099511627776 e<;>simp only [hlend,aZ,aX] at h
 case true=>exact sm.Ag h
 split at h
 ·
  rename_i hnil
  refine ⟨_,A.new s.nx (match a.tmps[t]? with | some x=>x | none=>.slice none 0 0) (fun _=>False),h,?_,rfl⟩
  have hx:∃b,(match a.tmps[t]? with | some x=>x | none=>.slice none 0 0)=Value.slice b 0 0:=by
   cases ht:a.tmps[t]? with
   | none=>exact ⟨_,rfl⟩
   | some x=>
    have:=sm.tm t x ht
    rw [hnil] at this
    exact (show V0 E.cells w A .nil x from this)
  obtain ⟨b,hb⟩:=hx
  have st:=Step.nW (w':=w) hh hnal (match a.tmps[t]? with | some x=>x | none=>.slice none 0 0) (fun _=>False) (fun _ h=>h.elim) (Nat.le_refl _) (fun _ _=>rfl)
  refine ⟨Hp.nW hh hnal _ _ (fun _ h=>h.elim) (Nat.le_refl _) (fun _ _=>rfl) hh.fr ⟨.inr rfl,?_⟩,fun i x hx=>?_,fun r hr hal=>?_,sm.df,sm.sz,sm.fr.mono fun _ _ h=>h.step st hh (fun _ h=>h)⟩
  ·simp only [dS.new,bG,hb]
   exact .nil _ e b _ rfl
  ·by_cases hi:i=t
   ·subst hi
    simp only [bG]
    refine V0.v2 (v:=.own s.nx) ⟨.inr rfl,by simp only [dS.new,bG,hx],?_⟩
    rw [hx] at hb
    exact ⟨b,0,0,hb⟩
   ·simp only [bB _ _ hi]
    exact (sm.tm i x hx).step st hh (fun _ h=>h)
  ·rcases hal with hal | hal
   ·exact sm.nx r (by have :s.nx+1<=r:=hr;omega) hal
   ·have :s.nx+1<=r:=hr;omega
 ·
  rename_i r n e' hlit
  cases hb:(Nat.beq e e'&&Nat.ble n 16777216)<;>simp only [hb,aZ,aX] at h
  ·cases h
  simp only [Bool.and_eq_true] at hb
  obtain rfl:=Nat.eq_of_beq_eq_true hb.1
  have hn16:=Nat.le_of_ble_eq_true hb.2
  split at h
  ·rename_i cs hbox
   obtain ⟨xs,hp1,c,f1,f2,fl,f3,f4,f5⟩:=mj h
   have hroot:=hh.rt r
   rw [hbox] at hroot
   obtain ⟨hal,g,te,cur,m1,m2,m3,m4⟩:=hroot
   have hne:s.hp r≠.dead:=by rw [hbox];simp
   have hall:=f5 hh (Sub.one _ _) m4
   have t1:=(fX.one hne).trans f3
   have hnx:s.hp s.nx=.dead:=hh.al _ hnal
   have hrn:r≠s.nx:=fun e=>hnal (e ▸ hal)
   let C:Nat->Prop:=fun q=>q=r∨∃i j,i<n/\j<(E.cells e).length/\c i j=some q
   have hC:∀q,C q->s.hp q≠.dead:=fun q hq=>t1.was q hq
   have hCn:∀q,C q->q≠s.nx:=fun q hq en=>hC q hq (en ▸ hnx)
   have AG:gU E w0 M (A.eD s.nx (.slice (some ⟨g,0,none⟩) n n) C (fun _=>False)) (s.jU (upd hp1 s.nx (.row e xs)) (some r) s.nx (s.nx+1)) a w:=by
    refine gU.eD sm (fun q=>?_) (fun q hq=>by injection hq with hq;subst hq;exact hal) (.inr rfl) (fun h=>(hnal h).elim) (Nat.lt_succ_self _) (Nat.le_succ _) (fun q hq hc=>?_) (fun q hq hc=>?_) rfl rfl rfl (Nat.le_refl _) (fun _ _ _=>rfl) (fun _ h=>h.elim) (fun q e' xs' hq hrw hd=>?_) (fun mv=>?_)
    ·constructor
     ·intro hc
      refine .inr ⟨hC q hc,?_⟩
      rw [bB _ _ (hCn q hc)];exact t1.now q hc
     ·rintro (hq | hq)
      ·injection hq with hq;exact .inl hq.symm
      ·refine Classical.byContradiction fun hc=>?_
       by_cases hqn:q=s.nx
       ·subst hqn;exact hq.1 hnx
       ·have:=hq.2;rw [bB _ _ hqn,t1.rest q hc] at this;exact hq.1 this
    ·rw [bB _ _ hq];exact t1.now q hc
    ·rw [bB _ _ hq];exact t1.rest q hc
    ·injection hq with hq;subst hq;rw [hbox] at hrw;cases hrw
    ·rw [bG]
     refine ⟨.inr rfl,?_⟩
     have hv:(A.eD s.nx (.slice (some ⟨g,0,none⟩) n n) C (fun _=>False)).v s.nx=.slice (some ⟨g,0,none⟩) n n:=by simp [dS.eD,bG]
     have hN:∀q b,C q->A.N q b->(A.eD s.nx (.slice (some ⟨g,0,none⟩) n n) C (fun _=>False)).N s.nx b:=fun q b hq hb=>.inl ⟨rfl,.inr ⟨q,hq,hb⟩⟩
     rw [hv]
     refine .sl _ e n n g te cur _ (fun i j=>cur.toList.getD (i*(E.cells e).length+j) Go.undef) (fun i j p=>i<n/\j<(E.cells e).length/\sS A (c i j) p) f2 (Nat.le_refl _) (by simp only [maxLen];omega) m3 (by rw [<-fl,m4.length,Array.length_toList]) (hN r g (.inl rfl) ((m2 g).2 rfl)) (fun i j b hb=>?_) (fun i j i' j' b hb hb'=>?_) (fun i j kk hi hj=>?_) (fun i j kk hi hj=>?_)
     ·obtain ⟨hi,hj,q,hq,hn⟩:=hb
      refine ⟨hN q b (.inr ⟨i,j,hi,hj,hq⟩) hn,fun eb=>?_⟩
      have hw:=f3.was q ⟨i,j,hi,hj,hq⟩
      have :q=r:=hh.dj q r b hn ((m2 b).2 eb)
      rw [this,bG] at hw;exact hw rfl
     ·obtain ⟨_,_,q,hq,hn⟩:=hb
      obtain ⟨_,_,q',hq',hn'⟩:=hb'
      rw [hh.dj q q' b hn hn'] at hq
      exact f4 _ _ _ _ _ hq hq'
     ·obtain ⟨y',y1,_,_⟩:=hall i j kk hi hj
      rw [<-Array.getElem?_toList,y1]
      simp only [List.getD_eq_getElem?_getD,y1];rfl
     ·obtain ⟨y',y1,_,y3⟩:=hall i j kk hi hj
      have hy':cur.toList.getD (i*(E.cells e).length+j) Go.undef=y':=by simp only [List.getD_eq_getElem?_getD,y1];rfl
      show gk E.cells w _ kk (cur.toList.getD (i*(E.cells e).length+j) Go.undef) _
      rw [hy']
      exact y3.mono fun b hb=>⟨hi,(List.getElem?_eq_some_iff.1 hj).1,hb⟩
   refine ⟨_,_,f1,⟨AG.hp,fun i x hx=>?_,AG.nx,AG.df,AG.sz,AG.fr⟩,rfl⟩
   by_cases hi:i=t
   ·subst hi
    simp only [bG]
    have:=sm.tm i x hx
    rw [hlit] at this
    obtain ⟨_,g',e1,rfl⟩:=(show V0 E.cells w A (.lit r n e) x from this)
    obtain rfl:g=g':=by rw [e1] at m1;injection m1 with m1;injection m1 with m1;injection m1 with m1;exact m1.symm
    exact V0.v2 (v:=.own s.nx) ⟨.inr rfl,by simp [dS.eD,bG],_,_,_,rfl⟩
   ·simp only [bB _ _ hi]
    exact AG.tm i x hx
  ·cases h
 ·
  rename_i r q hbp
  split at h
  ·rename_i cs hcs
   split at h
   ·rename_i hnil
    have hget:=wD hnil
    have hroot:=hh.rt r
    rw [hcs] at hroot
    obtain ⟨ha,g,te,cur,m1,m2,m3,m4⟩:=hroot
    obtain ⟨x,hx,⟨b,rfl⟩,hone⟩:=m4.get hget
    have hrn:r≠s.nx:=fun e=>hnal (e ▸ ha)
    have st:=Step.nW (w':=w) hh hnal (Value.slice b 0 0) (fun _=>False) (fun _ h=>h.elim) (Nat.le_refl _) (fun _ _=>rfl)
    have h1:Hp E.cells w0 M (A.new s.nx (Value.slice b 0 0) (fun _=>False)) (upd s.hp s.nx (.row (e % 1048576) [])) w:=Hp.nW hh hnal _ _ (fun _ h=>h.elim) (Nat.le_refl _) (fun _ _=>rfl) hh.fr ⟨.inr rfl,by simp only [dS.new,bG];exact .nil _ _ b _ rfl⟩
    refine ⟨_,A.new s.nx (.slice b 0 0) (fun _=>False),h,⟨⟨h1.lt,h1.dj,fun p hp=>?_,fun p=>?_,h1.fr,h1.nm,h1.zf,h1.pn⟩,fun i x hx=>(sm.tm i x hx).step st hh (fun _ h=>h),fun p hp hal=>?_,sm.df,sm.sz,sm.fr.mono fun _ _ h=>h.step st hh (fun _ h=>h)⟩,rfl⟩
    ·have h2:=h1.al p hp
     have hp1:p≠s.nx:=fun e=>hp (.inr e)
     have hp2:p≠r:=fun e=>hp (.inl (e ▸ ha))
     simp only [bB _ _ hp1] at h2 ⊢
     rw [bB _ _ hp2];exact h2
    ·have h2:=h1.rt p
     by_cases hp1:p=s.nx
     ·subst hp1
      simp only [bG] at h2 ⊢
      exact h2
     ·simp only [bB _ _ hp1] at h2 ⊢
      by_cases hp2:p=r
      ·subst hp2
       rw [hcs] at h2
       rw [bG]
       obtain ⟨ha',g',te',cur',n1,n2,n3,n4⟩:=h2
       have hg:g=g':=by
        have :(A.new s.nx (Value.slice b 0 0) (fun _=>False)).v p=A.v p:=bB _ _ hrn
        rw [this,m1] at n1;injection n1 with n1;injection n1 with n1;injection n1
       subst hg
       rw [m3] at n3
       injection n3 with n3
       injection n3 with n3
       subst n3
       refine ⟨ha',g,te,cur,n1,n2,m3,n4.setAt hx ⟨⟨.inr rfl,by simp only [dS.new,bG],b,0,0,rfl⟩,hone⟩⟩
      ·rw [bB _ _ hp2];exact h2
    ·rcases hal with hal | hal
     ·exact sm.nx p (by have :s.nx+1<=p:=hp;omega) hal
     ·have :s.nx+1<=p:=hp;omega
   ·exact ⟨s,A,h,sm,rfl⟩
  ·exact ⟨s,A,h,sm,rfl⟩
 ·exact ⟨s,A,h,sm,rfl⟩
theorem gU.iz:∀{l:Live} {A:dS} {s:St} {k:St->aI},gU E w0 M A s a w->iz E l s k=some bQ->∃s' A',k s'=some bQ/\gU E w0 M A' s' a w/\A'.Z=A.Z
 | [],A,s,k,sm,h=>⟨s,A,h,sm,rfl⟩
 | (t,e)::l,A,s,k,sm,h=>by
  simp only [DM.iz] at h
  obtain ⟨s1,A1,h1,h2,h3⟩:=sm.coerce h
  obtain ⟨s2,A2,g1,g2,g3⟩:=gU.iz h2 h1
  exact ⟨s2,A2,g1,g2,g3.trans h3⟩
theorem wG (sm:gU E w0 M A s a w){live:Live}{k:List V->List aW->aI}(h:canon E live s k=some bQ) :
  ∃vs hs A',k vs hs=some bQ/\gU E w0 M A' (fU live vs hs) a w/\A'.Z=A.Z:=by
 unfold canon at h
 cases hfe:s.fr.isEmpty<;>simp only [hfe,aZ,aX] at h
 ·cases h
 have hsv:M.sv=[]:=by
  have:=sm.fr.length
  rw [List.isEmpty_iff.1 hfe] at this
  exact List.eq_nil_of_length_eq_zero this.symm
 obtain ⟨s1,A1,h1,h2,h3⟩:=sm.iz h
 obtain ⟨vs,m,g1,g2,gl,g3⟩:=pJ h1
 obtain ⟨hs,mf,f1,f2,f3,f4⟩:=mA (Nat.zero_le _) g1
 have hnd:mf.Nodup:=f2.2.1 (g2.2.1 (sM _))
 have hh:=h2.hp
 have hget:∀j r,mf[j]?=some r->jy hs j=.dead∨eU E.cells w (A1.vk mf) j (jy hs j):=by
  intro j r hj
  obtain ⟨o',e1,_,e2⟩:=f4 (i:=j) (r:=r) (by rw [Nat.zero_add];exact hj)
  rw [nJ e1]
  have:=e2 hnd (hh.rt r)
  rw [Nat.zero_add] at this
  exact .inr this
 refine ⟨vs,hs,A1.vk mf,f1,⟨⟨fun r b hb=>?_,fun r q b hb hb'=>?_,fun r hr=>?_,fun r=>?_,hh.fr,fun r b hb=>?_,hh.zf,fun j hj=>?_⟩,fun i x hx=>?_,fun r hr hal=>?_,h2.df,h2.sz,by rw [hsv];exact .nil⟩,h3⟩
 ·obtain ⟨q,_,hn⟩:=hb;exact hh.lt q b hn
 ·obtain ⟨p,hp,hn⟩:=hb
  obtain ⟨p',hp',hn'⟩:=hb'
  have:=hh.dj p p' b hn hn'
  subst this
  have h1:=(List.getElem?_eq_some_iff.1 hp).1
  exact (List.getElem?_inj h1 hnd).1 (hp.trans hp'.symm)
 ·by_cases hl:r<mf.length
  ·have hr':mf[r]?=some mf[r]:=List.getElem?_eq_getElem hl
   obtain ⟨o',e1,e3,e2⟩:=f4 (i:=r) (r:=mf[r]) (by rw [Nat.zero_add];exact hr')
   show jy hs r=.dead
   rw [nJ e1]
   exact e3 (hh.al _ fun ha=>hr ⟨_,hr',ha⟩)
  ·exact oH (by omega)
 ·show eU E.cells w (A1.vk mf) r (jy hs r)
  by_cases hl:r<mf.length
  ·have hr':mf[r]?=some mf[r]:=List.getElem?_eq_getElem hl
   obtain ⟨o',e1,e3,e2⟩:=f4 (i:=r) (r:=mf[r]) (by rw [Nat.zero_add];exact hr')
   rw [nJ e1]
   have:=e2 hnd (hh.rt mf[r])
   rwa [Nat.zero_add] at this
  ·rw [oH (by omega)]
   rintro b ⟨q,hq,_⟩
   rw [List.getElem?_eq_none (by omega)] at hq;cases hq
 ·obtain ⟨q,_,hn⟩:=hb;exact hh.nm q b hn
 ·have hj':=f2.1 _ _ (g2.1 _ _ (wL hj))
  exact ⟨jA hj' (hh.pn j hj).1,(nU hj').trans (hh.pn j hj).2⟩
 ·show V2 E.cells w (A1.vk mf) (tI live vs i) x
  rcases tH (live:=live) (vs:=vs) (i:=i) with hd | ⟨j,e,v,e1,e2,e3⟩
  ·rw [hd];exact trivial
  ·rw [e3]
   have hj:(live.map fun x=>s1.sl x.1)[j]?=some (s1.sl i):=by rw [List.getElem?_map,e1];rfl
   obtain ⟨v',q1,q2⟩:=g3 f2 hj (h2.tm i x hx)
   rw [e2] at q1;injection q1 with q1;subst q1
   exact q2
 ·obtain ⟨q,hq,_⟩:=hal
  have :hs.length<=r:=hr
  rw [List.getElem?_eq_none (by omega)] at hq;cases hq
end
end Go.DM
set_option linter.unusedSectionVars false
namespace Go.DM
def oG (P:Program)(c:Code)(Q:Exit->Act->World->Prop)(a:Act)(w:World):Prop:=
 ∀(b:Frame) (k:List Item) (cs:List Frame),∃e a' w',Q e a' w'/\Arrives P (lone (b.at a (.code c::.inLoop c::k)) cs w) b k cs e a' w'
section
variable {P:Program} {Q:Exit->Act->World->Prop} {a:Act} {w:World} {c:Code}
theorem Bl (h:oG P c Q a w):(Code.loop c).wp P Q a w:=fun b k cs=>
 let ⟨e,a',w',hq,harr⟩:=h b k cs
 ⟨e,a',w',hq,.of_steps (.one step_loop) harr⟩
theorem xQ (h:c.wp P (Exit.then (oG P c Q) Q) a w):oG P c Q a w:=by
 intro b k cs
 obtain ⟨e,a₁,w₁,hq,harr⟩:=h b (.inLoop c::k) cs
 cases e with
 | normal=>
  obtain ⟨e₂,a₂,w₂,hq₂,harr₂⟩:=hq b k cs
  exact ⟨e₂,a₂,w₂,hq₂,.of_steps (Steps.trans harr (.one step_inLoop)) harr₂⟩
 | exit id=>exact ⟨_,a₁,w₁,hq,.pass (x:=.inLoop c) rfl (fun _ _=>.inl (by simp)) harr⟩
 | goto l=>exact ⟨_,a₁,w₁,hq,.pass (x:=.inLoop c) rfl (fun _ _=>.inl (by simp)) harr⟩
 | ret=>exact ⟨_,a₁,w₁,hq,.pass (x:=.inLoop c) rfl (fun _ _=>.inl (by simp)) harr⟩
 | panic ch=>exact ⟨_,a₁,w₁,hq,.pass (x:=.inLoop c) rfl (fun _ _=>.inl (by simp)) harr⟩
 | outgrown=>exact ⟨_,a₁,w₁,hq,.pass (x:=.inLoop c) rfl (fun _ _=>.inl (by simp)) harr⟩
end
def Ex.ex:Ex->Exit
 | .normal=>.normal
 | .ret=>.ret
 | .exit id=>.exit id
def cY:Code->List Nat
 | .seq a b=>cY a++cY b
 | .cond _ a b=>cY a++cY b
 | .block _ b=>cY b
 | .loop b=>dZ b::cY b
 | .scope a=>cY a
 | _=>[]
def fN {id:Nat}:∀{c:Code},eI id c=true↔id∈cY c
 | .seq a b=>by simp [eI,cY,fN (c:=a),fN (c:=b)]
 | .cond _ a b=>by simp [eI,cY,fN (c:=a),fN (c:=b)]
 | .block _ b=>by simp [eI,cY,fN (c:=b)]
 | .loop b=>by
  have :Nat.beq (dZ b) id=true↔id=dZ b:=⟨fun h=>(Nat.eq_of_beq_eq_true h).symm,fun h=>by subst h;exact Nat.beq_refl _⟩
  simp only [eI,cY,Bool.or_eq_true,List.mem_cons,fN (c:=b),this]
 | .skip=>by simp [eI,cY]
 | .region ..=>by simp [eI,cY]
 | .exit _=>by simp [eI,cY]
 | .ret=>by simp [eI,cY]
 | .rangeFunc ..=>by simp [eI,cY]
 | .scope a=>by simp [eI,cY,fN (c:=a)]
 | .label _=>by simp [eI,cY]
 | .goto _=>by simp [eI,cY]
 | .refuse _=>by simp [eI,cY]
section
variable (P:Program) (E:Env) (w0:World) (M:Mem E.np) (Z0:Nat->Prop) (bQ:List L)
def Deep (R:Nat->(Act->World->Prop)->Prop):Code->(Exit->Act->World->Prop)->Prop
 | .seq x y,Q=>Deep R x (Exit.then (y.wp P Q) Q)/\Deep R y Q
 | .cond _ x y,Q=>Deep R x Q/\Deep R y Q
 | .block id b,Q=>Deep R b (Exit.inBlock id Q)
 | .loop b,Q=>R (dZ b) (oG P b Q)/\Deep R b (Exit.then (oG P b Q) Q)
 | .scope b,Q=>Deep R b (Exit.noGoto Q)
 | _,_=>True
def gS (id:Nat):Code->(Exit->Act->World->Prop)->Act->World->Prop
 | .seq x y,Q,a,w=>if eI id x=true then gS id x (Exit.then (y.wp P Q) Q) a w else gS id y Q a w
 | .cond _ x y,Q,a,w=>if eI id x=true then gS id x Q a w else gS id y Q a w
 | .block j b,Q,a,w=>gS id b (Exit.inBlock j Q) a w
 | .loop b,Q,a,w=>if Nat.beq (dZ b) id=true then oG P b Q a w else gS id b (Exit.then (oG P b Q) Q) a w
 | .scope b,Q,a,w=>gS id b (Exit.noGoto Q) a w
 | _,_,_,_=>False
theorem Deep.mono {R R':Nat->(Act->World->Prop)->Prop}:∀{c:Code} {Q:Exit->Act->World->Prop},(∀id∈cY c,∀H,R id H->R' id H)->Deep P R c Q->Deep P R' c Q
 | .seq x y,Q,h,hd=>⟨Deep.mono (fun id hi=>h id (by simp [cY,hi])) hd.1,Deep.mono (fun id hi=>h id (by simp [cY,hi])) hd.2⟩
 | .cond _ x y,Q,h,hd=>⟨Deep.mono (fun id hi=>h id (by simp [cY,hi])) hd.1,Deep.mono (fun id hi=>h id (by simp [cY,hi])) hd.2⟩
 | .block id b,Q,h,hd=>Deep.mono (c:=b) (Q:=Exit.inBlock id Q) (fun id hi=>h id (by simpa [cY] using hi)) hd
 | .loop b,Q,h,hd=>⟨h _ (by simp [cY]) _ hd.1,Deep.mono (fun id hi=>h id (by simp [cY,hi])) hd.2⟩
 | .skip,_,_,_=>trivial
 | .region ..,_,_,_=>trivial
 | .exit _,_,_,_=>trivial
 | .ret,_,_,_=>trivial
 | .rangeFunc ..,_,_,_=>trivial
 | .scope b,Q,h,hd=>Deep.mono (c:=b) (Q:=Exit.noGoto Q) (fun id hi=>h id (by simpa [cY] using hi)) hd
 | .label _,_,_,_=>trivial
 | .goto _,_,_,_=>trivial
 | .refuse _,_,_,_=>trivial
theorem gN:∀{c:Code} {Q:Exit->Act->World->Prop},(cY c).Nodup->Deep P (fun id H=>∀a w,gS P id c Q a w->H a w) c Q
 | .seq x y,Q,h=>by
  simp only [cY,List.nodup_append] at h
  refine ⟨Deep.mono P (fun id hi H hH a w hA=>hH a w ?_) (gN h.1),Deep.mono P (fun id hi H hH a w hA=>hH a w ?_) (gN h.2.1)⟩
  ·simp only [gS,fN.2 hi,if_true] at hA;exact hA
  ·have :¬eI id x=true:=fun hx=>h.2.2 id (fN.1 hx) id hi rfl
   simp only [gS,this,if_false] at hA;exact hA
 | .cond _ x y,Q,h=>by
  simp only [cY,List.nodup_append] at h
  refine ⟨Deep.mono P (fun id hi H hH a w hA=>hH a w ?_) (gN h.1),Deep.mono P (fun id hi H hH a w hA=>hH a w ?_) (gN h.2.1)⟩
  ·simp only [gS,fN.2 hi,if_true] at hA;exact hA
  ·have :¬eI id x=true:=fun hx=>h.2.2 id (fN.1 hx) id hi rfl
   simp only [gS,this,if_false] at hA;exact hA
 | .block j b,Q,h=>Deep.mono P (c:=b) (Q:=Exit.inBlock j Q) (fun id hi H hH a w hA=>hH a w hA) (gN (c:=b) (by simpa [cY] using h))
 | .loop b,Q,h=>by
  simp only [cY,List.nodup_cons] at h
  refine ⟨fun a w hA=>?_,Deep.mono P (fun id hi H hH a w hA=>hH a w ?_) (gN h.2)⟩
  ·simp only [gS,Nat.beq_refl,if_true] at hA;exact hA
  ·have :¬Nat.beq (dZ b) id=true:=fun e=>h.1 (by rw [Nat.eq_of_beq_eq_true e];exact hi)
   simp only [gS,this,if_false] at hA;exact hA
 | .skip,_,_=>trivial
 | .region ..,_,_=>trivial
 | .exit _,_,_=>trivial
 | .ret,_,_=>trivial
 | .rangeFunc ..,_,_=>trivial
 | .scope b,Q,h=>Deep.mono P (c:=b) (Q:=Exit.noGoto Q) (fun id hi H hH a w hA=>hH a w hA) (gN (c:=b) (by simpa [cY] using h))
 | .label _,_,_=>trivial
 | .goto _,_,_=>trivial
 | .refuse _,_,_=>trivial
def At (s:St)(a:Act)(w:World):Prop:=∃A,gU E w0 M A s a w/\A.Z=Z0
def Fits (k:Cont)(Q:Exit->Act->World->Prop):Prop:=∀e s a w,k e s=some bQ->At E w0 M Z0 s a w->Q e.ex a w
def pR (live:Nat->Live)(I:cJ):Nat->(Act->World->Prop)->Prop:=fun id H=>∀vs h a w,I id vs h=some bQ->At E w0 M Z0 (fU (live id) vs h) a w->H a w
def ny:Prop:=∀(id:Nat) (ops:Array Oper) (s:St) (k:St->aI) (Q:Exit->Act->World->Prop) (a:Act) (w:World),
 uZ E ops s k=some bQ->At E w0 M Z0 s a w->(∀s' a' w',k s'=some bQ->At E w0 M Z0 s' a' w'->Q .normal a' w')->(Code.region id ops true).wp P Q a w
variable {P E w0 M Z0 bQ}
theorem Fits.seq {k:Cont}{Q:Exit->Act->World->Prop}{f:St->aI}{H:Act->World->Prop}(hk:Fits E w0 M Z0 bQ k Q)(hf:∀s a w,f s=some bQ->At E w0 M Z0 s a w->H a w):Fits E w0 M Z0 bQ (Ab f k) (Exit.then H Q):=by
 intro e s a w h hs
 cases e with
 | normal=>exact hf s a w h hs
 | ret=>exact hk .ret s a w h hs
 | exit j=>exact hk (.exit j) s a w h hs
theorem Fits.block {k:Cont}{Q:Exit->Act->World->Prop}{id:Nat}(hk:Fits E w0 M Z0 bQ k Q):Fits E w0 M Z0 bQ (uO id k) (Exit.inBlock id Q):=by
 intro e s a w h hs
 cases e with
 | normal=>exact hk .normal s a w h hs
 | ret=>exact hk .ret s a w h hs
 | exit j=>
  simp only [uO] at h
  show (if j=id then Q .normal a w else Q (.exit j) a w)
  cases hb:Nat.beq j id<;>simp only [hb,aZ,aX] at h
  ·rw [if_neg (fun e=>by subst e;simp at hb)]
   exact hk (.exit j) s a w h hs
  ·rw [if_pos (Nat.eq_of_beq_eq_true hb)]
   exact hk .normal s a w h hs
theorem Fits.scope {k:Cont}{Q:Exit->Act->World->Prop}(hk:Fits E w0 M Z0 bQ k Q):Fits E w0 M Z0 bQ k (Exit.noGoto Q):=by
 intro e s a w h hs
 cases e with
 | normal=>exact hk .normal s a w h hs
 | ret=>exact hk .ret s a w h hs
 | exit j=>exact hk (.exit j) s a w h hs
theorem At.canon {s:St}{a:Act}{w:World}(h:At E w0 M Z0 s a w){live:Nat->Live}{I:cJ}{id:Nat}{H:Act->World->Prop}(hI:pR E w0 M Z0 bQ live I id H)
  (hc:canon E (live id) s (fun vs h=>I id vs h)=some bQ):H a w:=by
 obtain ⟨A,sm,hz⟩:=h
 obtain ⟨vs,hs,A',h1,h2,h3⟩:=wG sm hc
 exact hI vs hs a w h1 ⟨A',h2,h3.trans hz⟩
variable (hT:∀t i,E.T t=some i->gJ P E t i) (hG:∀g c,c∈E.G g->Valid P E g c) (hM:oD P E) (hD:ny P E w0 M Z0 bQ)
include hT hG hM hD
theorem gx {live:Nat->Live}{I:cJ}:∀{c:Code} {Q:Exit->Act->World->Prop} {s:St} {k:Cont} {a:Act} {w:World},Deep P (pR E w0 M Z0 bQ live I) c Q->Fits E w0 M Z0 bQ k Q->
  fH E live I c s k=some bQ->At E w0 M Z0 s a w->c.wp P Q a w
 | .skip,Q,s,k,a,w,_,hk,h,hs=>wp_skip (hk .normal s a w h hs)
 | .region id ops d,Q,s,k,a,w,_,hk,h,hs=>by
  simp only [fH] at h
  cases d with
  | true=>exact hD id ops s _ Q a w h hs fun s' a' w' h' hs'=>hk .normal s' a' w' h' hs'
  | false=>
   obtain ⟨A,sm,hz⟩:=hs
   exact wp_region_list (vc hT hG hM sm h fun s' a' w' A' h1 h2 h3=>hk .normal s' a' w' h1 ⟨A',h2,h3.trans hz⟩)
 | .seq x y,Q,s,k,a,w,hd,hk,h,hs=>
  wp_seq (gx hd.1 (hk.seq fun s a w h hs=>gx hd.2 hk h hs) h hs)
 | .cond c x y,Q,s,k,a,w,hd,hk,h,hs=>by
  simp only [fH] at h
  split at h
  ·rename_i t ht
   obtain ⟨A,sm,hz⟩:=hs
   have hc:=sm.ev c
   rw [ht] at hc
   have hc':a.eval c=.bool t:=hc
   have hkn:∀b,t=b->s.uA c b=s:=by
    rintro b rfl
    cases c with
    | tmp d=>simp only [St.uA];rw [vL (tF ht)]
    | _=>rfl
   cases t with
   | true=>rw [hkn true rfl] at h;exact wp_cond_true hc' (gx hd.1 hk h ⟨A,sm,hz⟩)
   | false=>rw [hkn false rfl] at h;exact wp_cond_false hc' (gx hd.2 hk h ⟨A,sm,hz⟩)
  ·cases h
 | .block id b,Q,s,k,a,w,hd,hk,h,hs=>wp_block (gx (c:=b) (Q:=Exit.inBlock id Q) hd hk.block h hs)
 | .loop b,Q,s,k,a,w,hd,hk,h,hs=>Bl (hs.canon hd.1 h)
 | .exit id,Q,s,k,a,w,_,hk,h,hs=>wp_exit (hk (.exit id) s a w h hs)
 | .ret,Q,s,k,a,w,_,hk,h,hs=>wp_ret (hk .ret s a w h hs)
 | .rangeFunc ..,_,_,_,_,_,_,_,h,_=>by cases h
 | .scope b,Q,s,k,a,w,hd,hk,h,hs=>wp_scope_straight (gx (c:=b) (Q:=Exit.noGoto Q) hd hk.scope h hs)
 | .label _,Q,s,k,a,w,_,hk,h,hs=>wp_label (hk .normal s a w h hs)
 | .goto _,_,_,_,_,_,_,_,h,_=>by cases h
 | .refuse _,_,_,_,_,_,_,_,h,_=>by cases h
theorem gr {live:Nat->Live}{I:cJ}{id:Nat}:∀{c:Code} {Q:Exit->Act->World->Prop} {s:St} {k:Cont} {a:Act} {w:World},Deep P (pR E w0 M Z0 bQ live I) c Q->Fits E w0 M Z0 bQ k Q->
  dh E live I id c s k=some bQ->At E w0 M Z0 s a w->gS P id c Q a w
 | .seq x y,Q,s,k,a,w,hd,hk,h,hs=>by
  simp only [dh] at h
  simp only [gS]
  cases hx:eI id x<;>simp only [hx,aZ,aX] at h
  ·rw [if_neg (by simp)];exact gr hd.2 hk h hs
  ·rw [if_pos rfl];exact gr hd.1 (hk.seq fun s a w h hs=>gx hT hG hM hD hd.2 hk h hs) h hs
 | .cond _ x y,Q,s,k,a,w,hd,hk,h,hs=>by
  simp only [dh] at h
  simp only [gS]
  cases hx:eI id x<;>simp only [hx,aZ,aX] at h
  ·rw [if_neg (by simp)];exact gr hd.2 hk h hs
  ·rw [if_pos rfl];exact gr hd.1 hk h hs
 | .block j b,Q,s,k,a,w,hd,hk,h,hs=>gr (c:=b) (Q:=Exit.inBlock j Q) hd hk.block h hs
 | .loop b,Q,s,k,a,w,hd,hk,h,hs=>by
  simp only [dh] at h
  simp only [gS]
  cases hb:Nat.beq (dZ b) id<;>simp only [hb,aZ,aX] at h
  ·rw [if_neg (by simp)]
   exact gr hd.2 (hk.seq fun s a w h hs=>hs.canon hd.1 h) h hs
  ·rw [if_pos rfl]
   obtain rfl:=Nat.eq_of_beq_eq_true hb
   exact xQ (gx hT hG hM hD hd.2 (hk.seq fun s a w h hs=>hs.canon hd.1 h) h hs)
 | .skip,_,_,_,_,_,_,_,h,_=>by cases h
 | .region ..,_,_,_,_,_,_,_,h,_=>by cases h
 | .exit _,_,_,_,_,_,_,_,h,_=>by cases h
 | .ret,_,_,_,_,_,_,_,h,_=>by cases h
 | .rangeFunc ..,_,_,_,_,_,_,_,h,_=>by cases h
 | .scope b,Q,s,k,a,w,hd,hk,h,hs=>gr (c:=b) (Q:=Exit.noGoto Q) hd hk.scope h hs
 | .label _,_,_,_,_,_,_,_,h,_=>by cases h
 | .goto _,_,_,_,_,_,_,_,h,_=>by cases h
 | .refuse _,_,_,_,_,_,_,_,h,_=>by cases h
theorem qQ {live:Nat->Live}{f:Func}{p:RP}{Q:Exit->Act->World->Prop}(hn:(cY (bI f)).Nodup)(hk:Fits E w0 M Z0 bQ (cG E f p) Q):∀n,Deep P (pR E w0 M Z0 bQ live (rS E live f p n)) (bI f) Q
 | 0=>Deep.mono P (fun id _ H _ vs h a w e _=>by cases e) (gN P hn)
 | n+1=>Deep.mono P (fun id _ H hH vs h a w e hs=>hH a w (gr hT hG hM hD (qQ hn hk n) hk e hs)) (gN P hn)
theorem oo {live:Nat->Live}{f:Func}{p:RP}{Q:Exit->Act->World->Prop}(hn:(cY (bI f)).Nodup)(hk:Fits E w0 M Z0 bQ (cG E f p) Q){n:Nat}{s:St}{a:Act}{w:World}
  (h:eY E live f p n s=some bQ) (hs:At E w0 M Z0 s a w):(bI f).wp P Q a w:=
 gx hT hG hM hD (qQ hT hG hM hD hn hk n) hk h hs
end
end Go.DM
set_option linter.unusedSectionVars false
namespace Go.DM
def dS.out (A:dS)(rs:List (Option Nat))(vs:List Value):dS:=
  { v:=fun i=>vs.getD i Go.undef,N:=fun i b=>∃q,rs[i]?=some (some q)/\A.N q b,al:=fun i=>i<rs.length,Z:=A.Z }
def BG (rs:List (Option Nat)):Prop:=∀(i j q:Nat),rs[i]?=some (some q)->rs[j]?=some (some q)->i=j
def oY {α:Type}(big small:List α)(n:Nat):Prop:=∀(i:Nat) (x:α),small[i]?=some x->big[n+i]?=some x
def oY.left {α:Type}{big a b:List α}{n:Nat}(h:oY big (a++b) n):oY big a n:=fun i x hx=>h i x (by rw [List.getElem?_append_left (List.getElem?_eq_some_iff.1 hx).1];exact hx)
def oY.right {α:Type}{big a b:List α}{n:Nat}(h:oY big (a++b) n):oY big b (n+a.length):=fun i x hx=>by
 have:=h (a.length+i) x (by rw [List.getElem?_append_right (by omega),Nat.add_sub_cancel_left];exact hx)
 rwa [Nat.add_assoc]
def BG.append {hp hp1 hp2:Nat->aW}{a b:List (Option Nat)}(ha:BG a)(hb:BG b)(ta:fX hp hp1 (fun q=>some q∈a))(tb:fX hp1 hp2 (fun q=>some q∈b)):BG (a++b):=by
 intro i j q hi hj
 by_cases h1:i<a.length<;>by_cases h2:j<a.length
 ·rw [List.getElem?_append_left h1] at hi;rw [List.getElem?_append_left h2] at hj;exact ha i j q hi hj
 ·rw [List.getElem?_append_left h1] at hi;rw [List.getElem?_append_right (by omega)] at hj
  exact (ta.xA tb (q:=q) (List.mem_of_getElem? hi) (List.mem_of_getElem? hj)).elim
 ·rw [List.getElem?_append_right (by omega)] at hi;rw [List.getElem?_append_left h2] at hj
  exact (ta.xA tb (q:=q) (List.mem_of_getElem? hj) (List.mem_of_getElem? hi)).elim
 ·rw [List.getElem?_append_right (by omega)] at hi;rw [List.getElem?_append_right (by omega)] at hj
  have:=hb _ _ q hi hj
  omega
def fX.app {hp hp1 hp2:Nat->aW}{a b:List (Option Nat)}(ta:fX hp hp1 (fun q=>some q∈a))(tb:fX hp1 hp2 (fun q=>some q∈b)):fX hp hp2 (fun q=>some q∈a++b):=
 (ta.trans tb).congr fun q=>by simp
section
variable {T:Nat->List K} {w0 w:World} {np:Nat} {M:Mem np} {A:dS} {hp0:Nat->aW} {bQ:List L}
def yN (nf:Bool)(w:World)(A A':dS):Prop:=(nf=true->∀b,mH w A b->fq w A' b)/\∀b,fq w A b->fq w A' b
theorem uw {hp:Nat->aW}{v:V}{k:L->aI}(h:nM hp v k=some bQ):∃l,k l=some bQ/\∀hp0,Sub hp hp0->∀k':L->aI,nM hp0 v k'=k' l:=by
 cases v<;>first | exact ⟨_,h,fun _ _ _=>rfl⟩ | skip
 case own r=>
  simp only [nM] at h
  split at h
  ·rename_i e xs hr
   refine ⟨_,h,fun hp0 hs k'=>?_⟩
   simp only [nM,hs.row hr (by simp)]
  ·cases h
 all_goals cases h
theorem vV {hp hp0:Nat->aW}{kk:K}{v:V}{k:L->aI}(hf:fits hp kk v=true)(h:nM hp v k=some bQ)(hs:Sub hp hp0):fits hp0 kk v=true:=by
 cases v<;>first | exact hf | skip
 case own r=>
  simp only [nM] at h
  split at h
  ·rename_i e xs hr
   cases kk<;>first | cases hf | skip
   simp only [fits,hr] at hf
   simp only [fits,hs.row hr (by simp)]
   exact hf
  ·cases h
theorem wm {nf:Bool}{l:Lf}{hp:Nat->aW}{v:V}{k:L->(Nat->aW)->aI}(h:rL nf l hp v k=some bQ) :
  ∃x hp',∃rs:List (Option Nat),k x hp'=some bQ/\rs.length=(vm l x).length/\fX hp hp' (fun q=>some q∈rs)/\BG rs/\
   ∀{T:Nat->List K} {w0 w:World} {np:Nat} {M:Mem np} {A:dS} {hp0:Nat->aW} {y:Value},Hp T w0 M A hp0 w->Sub hp hp0->V0 T w A v y->
    ∃vals:List Value,vals.length=rs.length/\∀(RS:List (Option Nat)) (VS:List Value) (nx:Nat),oY RS rs nx->oY VS vals nx->yN nf w A (A.out RS VS)->
     Vc T w (A.out RS VS) (yu l x nx) y/\∀i o,(vm l x)[i]?=some o->eU T w (A.out RS VS) (nx+i) o:=by
 cases l with
 | fr e=>
  obtain ⟨x,r,h1,h2,h3⟩:=rR (show pM hp (.sl e) v (fun x r=>k x (yq hp r))=some bQ from h)
  have hd:=sw h2
  refine ⟨x,_,[r],h1,rfl,hd.congr fun q=>by simp [eq_comm],fun i j q hi hj=>?_,fun {T w0 w np M A hp0 y} hh hs hv=>⟨[y],rfl,fun RS VS nx hR hV hz=>?_⟩⟩
  ·have:=(List.getElem?_eq_some_iff.1 hi).1
   have:=(List.getElem?_eq_some_iff.1 hj).1
   simp at *;omega
  ·have hown:=h3 hh hs hv
   have hr0:RS[nx]?=some r:=by simpa using hR 0 r rfl
   have hv0:VS.getD nx Go.undef=y:=by rw [List.getD_eq_getElem?_getD,show VS[nx]?=some y by simpa using hV 0 y rfl];rfl
   have hal:(A.out RS VS).al nx:=(List.getElem?_eq_some_iff.1 hr0).1
   obtain ⟨a,n,c,he,_⟩:=hown.wP
   refine ⟨⟨⟨hal,hv0.symm,a,n,c,he⟩,hown.one⟩,fun i o ho=>?_⟩
   have hi:i=0:=by
    have:=(List.getElem?_eq_some_iff.1 ho).1
    simp [vm] at this;exact this
   subst hi
   simp [vm] at ho
   subst ho
   refine ⟨hal,?_⟩
   show gk T w ((A.out RS VS).N (nx+0)) (.sl e) (VS.getD (nx+0) Go.undef) _
   rw [Nat.add_zero,hv0]
   exact hown.sO.mono fun b ⟨q,hq,hn⟩=>⟨q,by rw [hr0,hq],hn⟩
 | rd kk=>
  simp only [rL] at h
  cases hf:(fits hp kk v&&(nf||fo v))<;>simp only [hf,aZ,aX] at h
  ·cases h
  simp only [Bool.and_eq_true,Bool.or_eq_true] at hf
  obtain ⟨x,h1,h2⟩:=uw h
  refine ⟨x,hp,[],h1,rfl,(fX.refl hp).congr fun q=>by simp,fun i j q hi=>by simp at hi,fun {T w0 w np M A hp0 y} hh hs hv=>⟨[],rfl,fun RS VS nx hR hV hz=>?_⟩⟩
  obtain ⟨l',e1,e2⟩:=uc hh (vV hf.1 h hs) (k:=fun x=>some [x]) (h2 hp0 hs _)
  injection e1 with e1;injection e1 with e1
  subst e1
  obtain ⟨r1,r2⟩:=e2 hv
  have r3:Rd T w (fq w (A.out RS VS)) kk y l':=by
   rcases hf.2 with hn | hp
   ·exact r1.mono (hz.1 hn)
   ·exact (r2 hp).mono hz.2
  exact ⟨⟨uG (fun r hr=>(nomatch hr)) r3,r3.one⟩,fun i o ho=>by simp [vm] at ho⟩
theorem lT {nf:Bool}:∀{q:List Lf} {hp:Nat->aW} {vs:List V} {k:List L->(Nat->aW)->aI},nw nf q hp vs k=some bQ->
  ∃ls hp',∃rs:List (Option Nat),k ls hp'=some bQ/\ls.length=q.length/\vs.length=q.length/\(∀rest,iZ q (ls++rest)=iZ q ls/\∀nx,kY q (ls++rest) nx=kY q ls nx)/\rs.length=(iZ q ls).length/\fX hp hp' (fun q=>some q∈rs)/\BG rs/\
   ∀{T:Nat->List K} {w0 w:World} {np:Nat} {M:Mem np} {A:dS} {hp0:Nat->aW} {R:V->Value->Prop} {ys:List Value},(∀v x,R v x->V0 T w A v x)->Hp T w0 M A hp0 w->Sub hp hp0->F2 R vs ys->
    ∃vals:List Value,vals.length=rs.length/\∀(RS:List (Option Nat)) (VS:List Value) (nx:Nat),oY RS rs nx->oY VS vals nx->yN nf w A (A.out RS VS)->
     F2 (Vc T w (A.out RS VS)) (kY q ls nx) ys/\∀i o,(iZ q ls)[i]?=some o->eU T w (A.out RS VS) (nx+i) o
 | [],hp,[],k,h=>⟨[],hp,[],h,rfl,rfl,fun _=>⟨rfl,fun _=>rfl⟩,rfl,(fX.refl hp).congr fun q=>by simp,fun i j q hi=>(by simp at hi),fun {T w0 w np M A hp0 R ys} _ _ _ hf=>⟨[],rfl,fun RS VS nx _ _ _=>⟨(by cases hf;exact .nil),fun i o ho=>(by simp [iZ] at ho)⟩⟩⟩
 | [],hp,_::_,k,h=>by cases h
 | _::_,hp,[],k,h=>by cases h
 | l::q,hp,v::vs,k,h=>by
  simp only [nw] at h
  obtain ⟨x,hp1,rs1,h1,h2,h3,h4,h5⟩:=wm h
  obtain ⟨ls,hp2,rs2,g1,g2,g2',g3,g4,g5,g6,g7⟩:=lT h1
  refine ⟨x::ls,hp2,rs1++rs2,g1,by simp [g2],by simp [g2'],fun rest=>⟨?_,fun nx=>?_⟩,?_,h3.app g5,h4.append g6 h3 g5,fun {T w0 w np M A hp0 R ys} hR hh hs hf=>?_⟩
  ·simp [iZ,(g3 rest).1]
  ·simp [kY,(g3 rest).2]
  ·simp [iZ,h2,g4]
  ·cases hf with
   | cons hv ht=>
    obtain ⟨va,va1,va2⟩:=h5 hh hs (hR _ _ hv)
    obtain ⟨vb,vb1,vb2⟩:=g7 hR hh (h3.sub hs) ht
    refine ⟨va++vb,by simp [va1,vb1],fun RS VS nx hRS hVS hz=>?_⟩
    obtain ⟨c1,c2⟩:=va2 RS VS nx hRS.left hVS.left hz
    obtain ⟨d1,d2⟩:=vb2 RS VS (nx+rs1.length) hRS.right (by rw [<-va1];exact hVS.right) hz
    refine ⟨?_,fun i o ho=>?_⟩
    ·simp only [kY,List.headD_cons,List.tail_cons,<-h2]
     exact .cons c1 d1
    ·simp only [iZ,List.headD_cons,List.tail_cons] at ho
     by_cases hi:i<(vm l x).length
     ·rw [List.getElem?_append_left hi] at ho;exact c2 i o ho
     ·rw [List.getElem?_append_right (by omega)] at ho
      have:=d2 _ o ho
      rw [h2,show nx+(vm l x).length+(i - (vm l x).length)=nx+i by omega] at this
      exact this
theorem xl {nf a:Bool}{q:List Lf}{hp:Nat->aW}{v:V}{k:List L->(Nat->aW)->aI}(h:Aa nf a q hp v k=some bQ) :
  ∃ls hp',∃rs:List (Option Nat),k ls hp'=some bQ/\ls.length=q.length/\(∀rest,iZ q (ls++rest)=iZ q ls/\∀nx,kY q (ls++rest) nx=kY q ls nx)/\rs.length=(iZ q ls).length/\fX hp hp' (fun q=>some q∈rs)/\BG rs/\
   ∀{T:Nat->List K} {w0 w:World} {np:Nat} {M:Mem np} {A:dS} {hp0:Nat->aW} {y:Value},Hp T w0 M A hp0 w->Sub hp hp0->V2 T w A v y->
    ∃vals:List Value,vals.length=rs.length/\∀(RS:List (Option Nat)) (VS:List Value) (nx:Nat),oY RS rs nx->oY VS vals nx->yN nf w A (A.out RS VS)->
     V1 T w (A.out RS VS) (mkVar a (kY q ls nx)) y/\∀i o,(iZ q ls)[i]?=some o->eU T w (A.out RS VS) (nx+i) o:=by
 unfold Aa at h
 cases a<;>simp only [aZ,aX] at h
 ·obtain ⟨ls,hp',rs,h1,h2,h2',h3,h4,h5,h6,h7⟩:=lT h
  have hleaf:∀{T:Nat->List K} {w:World} {A:dS} {y:Value},V2 T w A v y->V0 T w A v y:=by
   intro T w A y hv
   match q,h2' with
   | [l],_=>
    simp only [nw] at h
    cases l with
    | fr e=>cases v<;>first | exact hv | (simp only [rL,pM] at h;cases h)
    | rd kk=>cases v<;>first | exact hv | (cases kk<;>simp [rL,fits] at h)
  refine ⟨ls,hp',rs,h1,h2,h3,h4,h5,h6,fun {T w0 w np M A hp0 y} hh hs hv=>?_⟩
  obtain ⟨vals,e1,e2⟩:=h7 (R:=V0 T w A) (fun _ _ h=>h) hh hs (.cons (hleaf hv) .nil)
  refine ⟨vals,e1,fun RS VS nx hR hV hz=>?_⟩
  obtain ⟨c1,c2⟩:=e2 RS VS nx hR hV hz
  refine ⟨?_,c2⟩
  have:=pE (agg:=false) c1 (fun _=>by rw [c1.length];rfl)
  exact this
 ·split at h
  ·rename_i cs
   obtain ⟨ls,hp',rs,h1,h2,h2',h3,h4,h5,h6,h7⟩:=lT h
   refine ⟨ls,hp',rs,h1,h2,h3,h4,h5,h6,fun {T w0 w np M A hp0 y} hh hs hv=>?_⟩
   obtain ⟨l,rfl,hl⟩:=(show V1 T w A (.agg cs) y from hv)
   obtain ⟨vals,e1,e2⟩:=h7 (R:=Vc T w A) (fun _ _ h=>h.1) hh hs hl
   refine ⟨vals,e1,fun RS VS nx hR hV hz=>?_⟩
   obtain ⟨c1,c2⟩:=e2 RS VS nx hR hV hz
   exact ⟨⟨l,rfl,c1⟩,c2⟩
  ·cases h
theorem mR {nf:Bool}:∀{ps:List (Bool×List Lf)} {hp:Nat->aW} {vs:List V} {k:List L->(Nat->aW)->aI},lS nf ps hp vs k=some bQ->
  ∃ls hp',∃rs:List (Option Nat),k ls hp'=some bQ/\vs.length=ps.length/\rs.length=(lq ps ls).length/\fX hp hp' (fun q=>some q∈rs)/\BG rs/\
   ∀{T:Nat->List K} {w0 w:World} {np:Nat} {M:Mem np} {A:dS} {hp0:Nat->aW} {ys:List Value},Hp T w0 M A hp0 w->Sub hp hp0->F2 (V2 T w A) vs ys->
    ∃vals:List Value,vals.length=rs.length/\∀(RS:List (Option Nat)) (VS:List Value) (nx:Nat),oY RS rs nx->oY VS vals nx->yN nf w A (A.out RS VS)->
     F2 (V1 T w (A.out RS VS)) (kB ps ls nx) ys/\∀i o,(lq ps ls)[i]?=some o->eU T w (A.out RS VS) (nx+i) o
 | [],hp,[],k,h=>⟨[],hp,[],h,rfl,rfl,(fX.refl hp).congr fun q=>by simp,fun i j q hi=>(by simp at hi),fun {T w0 w np M A hp0 ys} _ _ hf=>⟨[],rfl,fun RS VS nx _ _ _=>⟨(by cases hf;exact .nil),fun i o ho=>(by simp [lq] at ho)⟩⟩⟩
 | [],hp,_::_,k,h=>by cases h
 | _::_,hp,[],k,h=>by cases h
 | (a,q)::ps,hp,v::vs,k,h=>by
  simp only [lS] at h
  obtain ⟨x,hp1,rs1,h1,h1',hrest,h2,h3,h4,h5⟩:=xl h
  obtain ⟨ls,hp2,rs2,g1,g2',g4,g5,g6,g7⟩:=mR h1
  have hdrop:(x++ls).drop q.length=ls:=by rw [<-h1',List.drop_left]
  refine ⟨x++ls,hp2,rs1++rs2,g1,by simp [g2'],?_,h3.app g5,h4.append g6 h3 g5,fun {T w0 w np M A hp0 ys} hh hs hf=>?_⟩
  ·simp [lq,hdrop,(hrest ls).1,h2,g4]
  ·cases hf with
   | cons hv ht=>
    obtain ⟨va,va1,va2⟩:=h5 hh hs hv
    obtain ⟨vb,vb1,vb2⟩:=g7 hh (h3.sub hs) ht
    refine ⟨va++vb,by simp [va1,vb1],fun RS VS nx hRS hVS hz=>?_⟩
    obtain ⟨c1,c2⟩:=va2 RS VS nx hRS.left hVS.left hz
    obtain ⟨d1,d2⟩:=vb2 RS VS (nx+rs1.length) hRS.right (by rw [<-va1];exact hVS.right) hz
    refine ⟨?_,fun i o ho=>?_⟩
    ·simp only [kB,hdrop,(hrest ls).1,(hrest ls).2,<-h2]
     exact .cons c1 d1
    ·simp only [lq,hdrop,(hrest ls).1] at ho
     by_cases hi:i<(iZ q x).length
     ·rw [List.getElem?_append_left hi] at ho;exact c2 i o ho
     ·rw [List.getElem?_append_right (by omega)] at ho
      have:=d2 _ o ho
      rw [h2,show nx+(iZ q x).length+(i - (iZ q x).length)=nx+i by omega] at this
      exact this
end
end Go.DM
set_option linter.unusedSectionVars false
namespace Go.DM
def rY (tmps:Array Value)(r:ResultVar):Sem Value:=match r with
 | .tmp t=>pure (tmps.getD t undef)
 | .cell a t=>do loadVar t (<-asAddr (tmps.getD a undef))
def results_eq (fn:Func)(tmps:Array Value):results fn tmps=(do
  let vs <-fn.results.mapM (rY tmps)
  pure (if h:vs.size=1 then vs[0] else .tuple vs)):=by
 unfold results
 congr 1
def pV (ys:List Value):Value:=match ys with
 | [y]=>y
 | ys=>.tuple ys.toArray
def kQ {P:Program}{fn:Func}{tmps:Array Value}{w:World}{ys:List Value}(h:(fn.results.toList.mapM (rY tmps)).run P w=.ok ys w) :
  (results fn tmps).run P w=.ok (pV ys) w:=by
 rw [results_eq,Array.mapM_eq_mapM_toList]
 simp only [Sem.run_bind,map_eq_pure_bind,h,Result.andThen_ok,Sem.run_pure]
 congr 1
 match ys with
 | []=>rfl
 | [y]=>rfl
 | a::b::c=>simp [pV]
def oT {P:Program}{w:World}{t b o:Nat}{ii:TypeInfo}{d:TypeDesc}{cs:List Value}(hi:P.info? t=some ii)(hu:P.underlying t=some d)(hl:cs.length=ii.size)
  (h1:jg d=false->cs.length=1) (hc:∀j v,cs[j]?=some v->w.cell? ⟨b,o+j,none⟩=some v) :
  (loadVar t ⟨b,o,none⟩).run P w=.ok (mkValue (jg d) cs) w:=by
 have:=gF (P:=P) hi hu hl h1 hc
 simpa [Instr.loadAt,Instr.sureAddr] using this
section
variable {P:Program} {E:Env} {w0 w:World} {M:Mem E.np} {A:dS} {s:St} {a:Act} {bQ:List L}
theorem gO (hT:∀t i,E.T t=some i->gJ P E t i)(sm:gU E w0 M A s a w):∀{rs:List ResultVar} {k:List V->aI},slotsOf E s rs k=some bQ->
  ∃vs xs,k vs=some bQ/\F2 (V2 E.cells w A) vs xs/\(rs.mapM (rY a.tmps)).run P w=.ok xs w
 | [],k,h=>⟨[],[],h,.nil,by simp⟩
 | .tmp t::rs,k,h=>by
  simp only [slotsOf] at h
  obtain ⟨vs,xs,h1,h2,h3⟩:=gO hT sm h
  exact ⟨_,a.eval (.tmp t)::xs,h1,.cons (sm.ev (.tmp t)) h2,by simp [rY,h3,Act.eval]⟩
 | .cell t ty::rs,k,h=>by
  simp only [slotsOf] at h
  split at h
  ·cases h
  rename_i i ht
  obtain ⟨ii,d,z,g1,g2,g3,g4,g5,g6,gby,g7,g8,g9,g10,gpl,g11,g12,g13,g14⟩:=hT ty i ht
  have hx:=sm.ev (.tmp t)
  simp only [fQ] at hx
  split at h
  ·rename_i r q hr
   rw [hr] at hx
   split at h
   ·rename_i cs hcs
    cases hle:Nat.ble (q+i.cells.length) cs.length<;>simp only [hle,aZ,aX] at h
    ·cases h
    have hle':=Nat.le_of_ble_eq_true hle
    obtain ⟨vs,xs,h1,h2,h3⟩:=gO hT sm h
    obtain ⟨hal,g,e1,e2⟩:=(show V0 E.cells w A (.cC r q) (a.eval (.tmp t)) from hx)
    have hroot:=sm.hp.rt r
    rw [hcs] at hroot
    obtain ⟨_,g',te,cur,m1,m2,m3,m4⟩:=hroot
    obtain rfl:g=g':=by rw [e1] at m1;injection m1 with m1;injection m1 with m1;injection m1
    have hcl:cs.length=cur.size:=by rw [m4.length,Array.length_toList]
    have hcut:(cut cur.toList q i.cells.length).length=i.cells.length:=fL (by rw [Array.length_toList];omega)
    have hload:=oT (P:=P) (w:=w) (b:=g) (o:=q) (cs:=cut cur.toList q i.cells.length) g1 g2 (by rw [hcut,g4]) (fun hd=>by rw [hcut];exact (g9 (by rw [<-g8];exact hd)).1) (fun j v hj=>by
     rw [gB m3,<-Array.getElem?_toList];exact (nF hj).1)
    refine ⟨_,_::xs,h1,.cons (V1.v2 (pE (agg:=i.agg) (m4.cut q i.cells.length) (fun ha=>by rw [fL hle'];exact (g9 ha).1))) h2,?_⟩
    have hv:a.tmps.getD t undef=.pointer (some ⟨g,q,none⟩):=e2
    rw [g8] at hload
    simp [rY,hv,asAddr,hload,h3]
   ·cases h
  ·cases h
def RP.pX (p:RP):Bool:=p.ok&&(match p with | .iS ps=>!Nat.beq ps.length 1 | _=>true)
theorem pT (p:RP)(ls:List L):lq p.parts ls=p.R ls:=by
 cases p with
 | one l=>simp [RP.parts,RP.R,lq,iZ]
 | agg q=>simp [RP.parts,RP.R,lq]
 | iS ps=>rfl
 | nR _=>rfl
 | tc _ _=>rfl
theorem ym {p:RP}{ls:List L}{ys:List Value}{nx:Nat}(hf:p.pX=true)(h:F2 (V1 E.cells w A) (kB p.parts ls nx) ys):V2 E.cells w A (p.V ls nx) (pV ys):=by
 cases p with
 | one l=>
  simp only [RP.parts,kB,kY] at h
  cases h with
  | cons hv ht=>
   cases ht
   exact V1.v2 hv
 | agg q=>
  simp only [RP.parts,kB] at h
  cases h with
  | cons hv ht=>
   cases ht
   exact V1.v2 hv
 | iS ps=>
  simp only [RP.pX,Bool.and_eq_true,Bool.not_eq_true'] at hf
  have hl:=h.length
  have hne:ys.length≠1:=by
   rw [<-hl]
   have :(kB ps ls nx).length=ps.length:=by
    clear h hl hf
    have :∀(ps:List (Bool×List Lf)) (ls:List L) (n:Nat),(kB ps ls n).length=ps.length:=by
     intro ps
     induction ps with
     | nil=>intro ls n;rfl
     | cons p ps ih=>intro ls n;obtain ⟨a,q⟩:=p;simp [kB,ih]
    exact this _ _ _
   show (kB ps ls nx).length≠1
   rw [this]
   intro e
   have:=hf.2
   rw [e] at this;cases this
  refine ⟨ys,?_,h⟩
  match ys,hne with
  | [],_=>rfl
  | [y],h=>exact (h rfl).elim
  | _::_::_,_=>rfl
 | nR _=>simp [RP.pX,RP.ok] at hf
 | tc _ _=>simp [RP.pX,RP.ok] at hf
theorem tG:∀{q:List Lf} {ls:List L},q.any Lf.yD=false->iZ q ls=[]
 | [],_,_=>rfl
 | .fr _::q,ls,h=>by cases h
 | .rd _::q,ls,h=>by simp only [List.any_cons,Bool.or_eq_false_iff] at h;simp [iZ,vm,tG h.2]
theorem uk:∀{ps:List (Bool×List Lf)} {ls:List L},(ps.all fun q=>!q.2.any Lf.yD)=true->lq ps ls=[]
 | [],_,_=>rfl
 | (a,q)::ps,ls,h=>by
  simp only [List.all_cons,Bool.and_eq_true,Bool.not_eq_true'] at h
  simp [lq,tG h.1,uk (ps:=ps) h.2]
def Left (E:Env)(w0:World)(Z0:Nat->Prop)(p:RP)(r:List L)(e:Ending)(w':World):Prop:=
 ∃rv A',e=.returned rv/\Fr w0 w' (fun _=>False)/\A'.Z=Z0/\(∀i,A'.al i↔i<(p.R r).length)/\
  Hp E.cells w0 C4 A' (eA (fun _=>.dead) 0 (p.R r)) w'/\V2 E.cells w' A' (p.V r 0) rv
theorem yZ (hT:∀t i,E.T t=some i->gJ P E t i){f:Func}{p:RP}{Z0:Nat->Prop}(hf:p.pX=true) :
  Fits E w0 (BP E.np) Z0 bQ (cG E f p) (bodyPost P f (Left E w0 Z0 p bQ)):=by
 intro e s a w h ⟨A,sm,hz⟩
 have h:BB E f p e s=some bQ:=by
  cases p<;>first | exact h | (simp [RP.pX,RP.ok] at hf)
 have key0:∀{A:dS} {s:St},gU E w0 (BP E.np) A s a w->A.Z=Z0->slotsOf E s f.results.toList (fun vs=>lS (p.parts.all fun q=>!q.2.any Lf.yD) p.parts s.hp vs fun ls _=>some ls)=some bQ->
   a.defers=[]/\∃v,(results f a.tmps).run P w=.ok v w/\Left E w0 Z0 p bQ (.returned v) w:=by
  intro A s sm hz h
  refine ⟨sm.df,?_⟩
  have hh:=sm.hp
  obtain ⟨vs,xs,h1,h2,h3⟩:=gO hT sm h
  obtain ⟨ls,hp',rs,g1,g2,g3,g4,g5,g6⟩:=mR h1
  injection g1 with g1
  subst g1
  obtain ⟨vals,e1,e2⟩:=g6 hh (fun _=>.inl rfl) h2
  have hN:∀{i b:Nat},(A.out rs vals).N i b->∃q,A.N q b:=fun ⟨q,_,hn⟩=>⟨q,hn⟩
  have hZ:yN (p.parts.all fun q=>!q.2.any Lf.yD) w A (A.out rs vals):=by
   refine ⟨fun hnf b hb=>?_,fun b hb=>⟨hb.1,hb.2.1,fun i ⟨q,_,hn⟩=>hb.2.2 q hn⟩⟩
   have hrs:rs=[]:=List.eq_nil_of_length_eq_zero (by rw [g3,uk hnf];rfl)
   subst hrs
   have :∀i,¬(A.out [] vals).N i b:=fun i ⟨q,hq,_⟩=>by simp at hq
   rcases hb with ⟨r,hr⟩ | hb
   ·refine ⟨?_,hh.lt r b hr,this⟩
    rcases hh.nm r b hr with h | h
    ·exact h.elim
    ·exact hh.zf b (.inr h)
   ·exact ⟨hb.1,hb.2.1,this⟩
  obtain ⟨c1,c2⟩:=e2 rs vals 0 (fun i x h=>by simpa using h) (fun i x h=>by simpa using h) hZ
  refine ⟨_,kQ h3,_,A.out rs vals,rfl,hh.fr,hz,fun i=>?_,⟨fun r b hb=>?_,fun r q b hb hb'=>?_,fun r hr=>?_,fun r=>?_,hh.fr,fun r b hb=>?_,hh.zf,fun j hj=>absurd hj (Nat.not_lt_zero j)⟩,ym hf c1⟩
  ·show i<rs.length↔_
   rw [g3,pT]
  ·obtain ⟨q,_,hn⟩:=hb;exact hh.lt q b hn
  ·obtain ⟨p1,hp1,hn⟩:=hb
   obtain ⟨p2,hp2,hn'⟩:=hb'
   have:=hh.dj p1 p2 b hn hn'
   subst this
   exact g5 r q p1 hp1 hp2
  ·have hr':¬r<rs.length:=hr
   rw [eO _ _ _ _ (.inr (by rw [Nat.zero_add,<-pT,<-g3];omega))]
  ·by_cases hr:r<rs.length
   ·have hlt:r<(lq p.parts ls).length:=by rw [<-g3];exact hr
    have ho:=List.getElem?_eq_getElem hlt
    have:=c2 r _ ho
    rw [Nat.zero_add] at this
    have ha:=gu (p.R ls) (fun _=>.dead) 0 r (lq p.parts ls)[r] (by rw [<-pT];exact ho)
    rw [Nat.zero_add] at ha
    rw [ha];exact this
   ·rw [eO _ _ _ _ (.inr (by rw [Nat.zero_add,<-pT,<-g3];omega))]
    rintro b ⟨q,hq,_⟩
    rw [List.getElem?_eq_none (by omega)] at hq;cases hq
  ·obtain ⟨q,_,hn⟩:=hb;exact hh.nm q b hn
 have key:iz E (uu f.results.toList p.parts) s (fun s=>slotsOf E s f.results.toList (fun vs=>lS (p.parts.all fun q=>!q.2.any Lf.yD) p.parts s.hp vs fun ls _=>some ls))=some bQ->
   a.defers=[]/\∃v,(results f a.tmps).run P w=.ok v w/\Left E w0 Z0 p bQ (.returned v) w:=by
  intro h
  obtain ⟨s',A',h1,h2,h3⟩:=sm.iz h
  exact key0 h2 (h3.trans hz) h1
 cases e with
 | exit j=>cases h
 | normal=>exact key h
 | ret=>exact key h
theorem oX:∀{vs:List V} {i:Nat} {v:V},vs[i]?=some v->jO vs i=v
 | [],i,v,h=>by simp at h
 | a::vs,0,v,h=>by simp at h;exact h
 | a::vs,i+1,v,h=>oX (vs:=vs) (i:=i) (by simpa using h)
theorem lJ:∀{vs:List V} {i:Nat},vs.length<=i->jO vs i=.undef
 | [],i,h=>rfl
 | a::vs,0,h=>by simp at h
 | a::vs,i+1,h=>lJ (vs:=vs) (i:=i) (by simpa using h)
def Ad (T:Nat->List K)(ks:List K)(ls:List L):Prop:=∀(j:Nat) (k:K),ks[j]?=some k->xe T k (ls.getD j .hole)
def Cp (T:Nat->List K):List (List K)->List L->Prop
 | [],_=>True
 | q::qs,ls=>Ad T q ls/\Cp T qs (bE q.length ls)
def Dg (T:Nat->List K):gK->List L->Prop
 | .rd k,ls=>xe T k (ls.headD .hole)
 | .agg ks,ls=>Ad T ks ls
 | .ptr ks,ls=>Ad T ks ls
 | .fn _ qs,ls=>Cp T qs ls
 | .nil,_=>True
def sA (T:Nat->List K):List gK->List L->Prop
 | [],_=>True
 | p::ps,ls=>Dg T p ls/\sA T ps (bE p.n ls)
theorem xe.Dp {T:Nat->List K}{e:Nat}{l:L}(h:xe T (.sl e) (.sl l.dP)):xe T (.sl e) l:=by
 cases h
 exact .sl e l ‹_› ‹_›
theorem xW {T:Nat->List K}{k:K}{l:L}{x:Value}(h:V0 T w A (AM none k l) x):xe T k l:=by
 cases k with
 | int ik=>exact .int _ _
 | bool=>exact .bool _
 | str=>exact .str _
 | sl e=>exact xe.Dp (show V0 T w A (.sl none e l.dP) x from h).2.C2
theorem vq {T:Nat->List K}{R:V->Value->Prop}(hR:∀v x,R v x->V0 T w A v x):∀{ks:List K} {ls:List L} {xs:List Value},F2 R (nX none ks ls) xs->Ad T ks ls
 | [],ls,xs,_=>fun j k hj=>by simp at hj
 | k::ks,ls,xs,h=>by
  simp only [nX] at h
  cases h with
  | cons hv ht=>
   intro j kk hj
   cases j with
   | zero=>
    simp at hj
    subst hj
    rw [<-hU];exact xW (hR _ _ hv)
   | succ j=>
    rw [<-jR]
    exact vq hR ht j kk (by simpa using hj)
theorem wK {T:Nat->List K}{ks:List K}{ls:List L}{x:Value}(h:V0 T w A (.dQ none ks (cI ks.length ls) 0) x):Ad T ks ls:=by
 intro j k hj
 obtain ⟨_,b,q,vv,_,_,h3⟩:=h
 have:=(h3 j k hj).2.C2
 rwa [qw _ _ _ (List.getElem?_eq_some_iff.1 hj).1] at this
theorem vJ {T:Nat->List K}:∀{qs:List (List K)} {ls:List L} {xs:List Value},F2 (V0 T w A) (tC qs ls) xs->Cp T qs ls
 | [],_,_,_=>trivial
 | q::qs,ls,xs,h=>by
  simp only [tC] at h
  cases h with
  | cons hv ht=>exact ⟨wK hv,vJ ht⟩
theorem wk {T:Nat->List K}:∀{ps:List gK} {ls:List L} {xs:List Value},F2 (V2 T w A) (kT ps ls) xs->sA T ps ls
 | [],_,_,_=>trivial
 | p::ps,ls,xs,h=>by
  simp only [kT] at h
  cases h with
  | cons hv ht=>
   refine ⟨?_,wk ht⟩
   cases p with
   | rd k=>
    have key:∀{x:Value},V2 T w A (AM none k (ls.headD .hole)) x->V0 T w A (AM none k (ls.headD .hole)) x:=by
     intro x hx
     cases k<;>exact hx
    exact xW (key hv)
   | agg ks=>
    obtain ⟨l,_,hl⟩:=(show V1 T w A (.agg (nX none ks ls)) _ from hv)
    exact vq (R:=Vc T w A) (fun _ _ h=>h.1) hl
   | ptr ks=>exact wK (show V0 T w A (.dQ none ks (cI ks.length ls) 0) _ from hv)
   | fn f qs=>
    obtain ⟨l,_,hl⟩:=(show V1 T w A (.fn f (tC qs ls)) _ from hv)
    exact vJ hl
   | nil=>exact trivial
theorem vI {E0:Env}{g:FuncId}{fn:Func}{c:Code}{aT:gh}(hT:∀t i,E.T t=some i->gJ P E t i)(hG:∀g c,c∈E.G g->Valid P E g c)(hM:oD P E)(hD:∀w0 M Z0 bQ,ny P E w0 M Z0 bQ)
  (he : E.T = E0.T) (hnp : E.np = 0) (hf : P.funcs[g]? = some fn) (hname : (fn.name == "runtime.NumGoroutine") = false) (hb : fn.body = some c) (hfine : aT.res.pX = true) (hn : (cY c).Nodup)
  (hnt:aT.args.length+(fn.ntmps - aT.args.length)=E.nt) (live:Nat->Live) (h:∀ls r,sA E.cells aT.args ls->aT.sem ls=some r->∃n,eY E live fn aT.res n (dF aT.args ls)=some r):Valid P E0 g aT:=by
 have hbody:bI fn=c:=by simp [bI,hb]
 have hc:E0.cells=E.cells:=by funext t;simp [Env.cells,he]
 refine ⟨⟨fn,hf,hname,by rw [hb];rfl⟩,?_,fun ls r w vs Z hs hv=>?_⟩
 ·simp only [RP.pX,Bool.and_eq_true] at hfine;exact hfine.1
 rw [hc] at hv
 obtain ⟨n,hrun⟩:=h ls r (wk hv) hs
 have hvl:vs.length=aT.args.length:=by
  rw [<-hv.length]
  have :∀(ps:List gK) (ls:List L),(kT ps ls).length=ps.length:=by
   intro ps
   induction ps with
   | nil=>intro _;rfl
   | cons p ps ih=>intro ls;simp [kT,ih]
  exact this _ _
 have key:=oo (live:=live) (P:=P) (w0:=w) (M:=BP E.np) (Z0:=(A0 Z w).Z) (Q:=bodyPost P fn (Left E w (A0 Z w).Z aT.res r)) hT hG hM (hD _ _ _ _) (by rw [hbody];exact hn) (yZ hT hfine) hrun
  (a:={ tmps:=vs.toArray++Array.replicate (fn.ntmps - vs.toArray.size) undef,defers:=[] }) (w:=w) ⟨A0 Z w,⟨⟨fun _ _ h=>h.elim,fun _ _ _ h=>h.elim,fun _ _=>rfl,fun _ _ h=>h.elim,Fr.refl _ _,fun _ _ h=>h.elim,fun _ h=>.inr (h.resolve_left id),fun j hj=>absurd hj (by rw [hnp];exact Nat.not_lt_zero j)⟩,fun i x hx=>?_,fun _ _ h=>h.elim,rfl,?_,.nil⟩,rfl⟩
 ·rw [hbody] at key
  refine (calls_of_wp hf hb key).mono fun e w' hR=>?_
  unfold Left at hR
  rw [hc];exact hR
 ·show V2 E.cells w (A0 Z w) (jO (kT aT.args ls) i) x
  by_cases hi:i<vs.length
  ·have hx':vs[i]?=some x:=by simpa [Array.getElem?_append,hi] using hx
   have hl:=hv.length
   have hg:=List.getElem?_eq_getElem (show i<(kT aT.args ls).length by omega)
   obtain ⟨y,hy,hr⟩:=hv.get hg
   rw [hx'] at hy;injection hy with hy;subst hy
   rw [oX hg];exact hr
  ·rw [lJ (by rw [hv.length];omega)]
   have :x=undef:=by
    have h2:¬i<vs.toArray.size:=by simpa using hi
    rw [Array.getElem?_append,if_neg h2] at hx
    have:=(Array.getElem?_eq_some_iff.1 hx).2
    rw [<-this];simp
   exact this
 ·simp only [Array.size_append,List.size_toArray,Array.size_replicate];rw [hvl];exact hnt
theorem zo {T:Nat->List K}{w:World}{A:dS}{v:V}{x:Value}(h:V2 T w A v x):V1 T w A (Ai v) x:=by
 cases v<;>first | exact h | exact trivial
theorem zg {g:FuncId}{fn:Func}{c:Code}(hT:∀t i,E.T t=some i->gJ P E t i)(hG:∀g c,c∈E.G g->Valid P E g c)(hM:oD P E)(hD:∀w0 M Z0 bQ,ny P E w0 M Z0 bQ)
  (hf : P.funcs[g]? = some fn) (hname : (fn.name == "runtime.NumGoroutine") = false) (hb : fn.body = some c) (hn : (cY c).Nodup) : gI P E E.np g (inl E fn) := by
 have hbody:bI fn=c:=by simp [bI,hb]
 refine ⟨⟨fn,hf,hname,by rw [hb];rfl⟩,fun w0 M A s w vs xs k bQ h hh hnx hfr hv K hK=>?_,fun h=>by cases h⟩
 simp only [inl] at h
 cases hnt:Nat.beq (vs.length+(fn.ntmps - vs.length)) E.nt<;>simp only [hnt,aZ,aX] at h
 ·cases h
 have hnt':=Nat.eq_of_beq_eq_true hnt
 rw [hbody] at h
 have hdeep:Deep P (pR E w0 (⟨M.p,M.v,M.sv⟩:Mem E.np) A.Z bQ (fun _=>[]) (fun _ _ _=>none)) c (bodyPost P fn fun e w'=>∃cv,e=.returned cv/\K cv w'):=
  Deep.mono P (fun id _ H _ vs h a w e _=>by cases e) (gN P hn)
 have hfits:Fits E w0 (⟨M.p,M.v,M.sv⟩:Mem E.np) A.Z bQ (BC E fn k) (bodyPost P fn fun e w'=>∃cv,e=.returned cv/\K cv w'):=by
  intro e s' a w' h ⟨A',sm',hz⟩
  have key:(slotsOf E s' fn.results.toList fun vs=>match vs with
    | [v]=>k v s'
    | vs=>k (.iS (vs.map Ai)) s')=some bQ->a.defers=[]/\∃v,(results fn a.tmps).run P w'=.ok v w'/\∃cv,Ending.returned v=.returned cv/\K cv w':=by
   intro h
   refine ⟨sm'.df,?_⟩
   have hh':=sm'.hp
   obtain ⟨us,ys,h1,h2,h3⟩:=gO hT sm' h
   refine ⟨_,kQ h3,_,rfl,?_⟩
   have hhp:Hp E.cells w0 M A' s'.hp w':=⟨hh'.lt,hh'.dj,hh'.al,hh'.rt,hh'.fr,hh'.nm,hh'.zf,hh'.pn⟩
   split at h1
   ·cases h2 with
    | cons hv ht=>
     cases ht
     exact hK _ s' _ w' A' h1 hhp sm'.nx sm'.fr hv hz trivial
   ·rename_i hne
    have hy:pV ys=.tuple ys.toArray:=by
     unfold pV
     split
     ·cases h2 with
      | cons _ ht=>cases ht;exact (hne _ rfl).elim
     ·rfl
    rw [hy]
    exact hK _ s' _ w' A' h1 hhp sm'.nx sm'.fr ⟨ys,rfl,h2.map' fun _ _ h=>zo h⟩ hz trivial
  cases e with
  | exit j=>cases h
  | normal=>exact key h
  | ret=>exact key h
 have hvl:=hv.length
 have key:=gx (P:=P) (live:=fun _=>[]) (I:=fun _ _ _=>none) hT hG hM (hD _ _ _ _) hdeep hfits h (a:={ tmps:=xs.toArray++Array.replicate (fn.ntmps - xs.toArray.size) undef,defers:=[] }) (w:=w)
  ⟨A,⟨⟨hh.lt,hh.dj,hh.al,hh.rt,hh.fr,hh.nm,hh.zf,hh.pn⟩,fun i x hx=>?_,hnx,rfl,?_,hfr⟩,rfl⟩
 ·exact calls_of_wp hf hb key
 ·show V2 E.cells w A (jO vs i) x
  by_cases hi:i<xs.length
  ·have hx':xs[i]?=some x:=by simpa [Array.getElem?_append,hi] using hx
   exact yj hv hx'
  ·rw [lJ (by rw [hvl];omega)]
   have :x=undef:=by
    have h2:¬i<xs.toArray.size:=by simpa using hi
    rw [Array.getElem?_append,if_neg h2] at hx
    have:=(Array.getElem?_eq_some_iff.1 hx).2
    rw [<-this];simp
   exact this
 ·simp only [Array.size_append,List.size_toArray,Array.size_replicate];rw [<-hvl];exact hnt'
theorem rK {hp:Nat->aW}:∀{es:List Nat} {j:Nat} {k:List L->aI},wz hp j es k=some bQ->∃ls,k ls=some bQ/\∀i e,es[i]?=some e->∃xs,hp (j+i)=.row e xs/\ls.getD i .hole=.sl xs
 | [],j,k,h=>⟨_,h,fun i e hi=>by simp at hi⟩
 | e::es,j,k,h=>by
  simp only [wz] at h
  split at h
  ·rename_i e' xs hr
   cases hb:Nat.beq e e'<;>simp only [hb,aZ,aX] at h
   ·cases h
   obtain rfl:=Nat.eq_of_beq_eq_true hb
   obtain ⟨ls,h1,h2⟩:=rK h
   refine ⟨_,h1,fun i e0 hi=>?_⟩
   cases i with
   | zero=>simp at hi;subst hi;exact ⟨xs,hr,rfl⟩
   | succ i=>
    obtain ⟨ys,g1,g2⟩:=h2 i e0 (by simpa using hi)
    exact ⟨ys,by rw [<-g1];congr 1;omega,by simpa using g2⟩
  ·cases h
def AH (E:Env)(w0:World)(A:dS)(es:List Nat)(r:List L)(e:Ending)(w':World):Prop:=
 ∃n rows,∃N:Nat->Nat->Prop,r=.int n::rows/\e=.returned (.int .i64 n)/\Fr w0 w' (fun b=>∃j,A.N j b)/\
  (∀j q b,N j b->N q b->j=q)/\(∀j b,N j b->b<w'.heap.size/\((∃i,A.N i b)∨w0.heap.size<=b))/\
  ∀j e,es[j]?=some e->gk E.cells w' (N j) (.sl e) (A.v j) (rows.getD j .hole)
theorem xF (hT:∀t i,E.T t=some i->gJ P E t i){f:Func}{es:List Nat}{A:dS}{Z0:Nat->Prop}(hes:es.length=E.np) :
  Fits E w0 ⟨fun b=>∃j,A.N j b,A.v,[]⟩ Z0 bQ (cG E f (.nR es)) (bodyPost P f (AH E w0 A es bQ)):=by
 intro e s a w h ⟨A',sm,hz⟩
 have key:(slotsOf E s f.results.toList fun vs=>match vs with
  | [.int .i64 n]=>wz s.hp 0 es fun ls=>some (.int n::ls)
  | _=>none)=some bQ->a.defers=[]/\∃v,(results f a.tmps).run P w=.ok v w/\AH E w0 A es bQ (.returned v) w:=by
  intro h
  refine ⟨sm.df,?_⟩
  have hh:=sm.hp
  obtain ⟨vs,xs,h1,h2,h3⟩:=gO hT sm h
  split at h1
  ·rename_i n
   obtain ⟨ls,g1,g2⟩:=rK h1
   injection g1 with g1
   subst g1
   cases h2 with
   | cons hv ht=>
    cases ht
    obtain rfl:=(show _=Value.int .i64 n from hv)
    refine ⟨_,kQ h3,n,ls,A'.N,rfl,rfl,hh.fr,hh.dj,fun j b hb=>⟨hh.lt j b hb,hh.nm j b hb⟩,fun j e hj=>?_⟩
    obtain ⟨xs,e1,e2⟩:=g2 j e hj
    rw [Nat.zero_add] at e1
    have hroot:=hh.rt j
    rw [e1] at hroot
    rw [e2]
    have hp:=(hh.pn j (by rw [<-hes];exact (List.getElem?_eq_some_iff.1 hj).1)).2
    have:=hroot.2
    rwa [hp] at this
  ·cases h1
 cases e with
 | exit j=>cases h
 | normal=>exact key h
 | ret=>exact key h
def AN (T:Nat->List K)(ps:List (Bool×List K))(ls:List L):Prop:=∀e xs,aW.row e xs∈mN ps ls->xe T (.sl e) (.sl xs)
theorem nT:∀{ps:List (Bool×List K)} {ls:List L} {j:Nat},(lz ps ls j).length=ps.length
 | [],_,_=>rfl
 | p::ps,ls,j=>by simp [lz,nT (ps:=ps)]
theorem uf:∀{rs:List aW} {o:aW},o∈rs->∃j,jy rs j=o
 | [],o,h=>by simp at h
 | r::rs,o,h=>by
  rcases List.mem_cons.1 h with rfl | h
  ·exact ⟨0,rfl⟩
  ·obtain ⟨j,hj⟩:=uf h
   exact ⟨j+1,hj⟩
theorem yQ {E0:Env}{g:FuncId}{fn:Func}{c:Code}{aT:gX}(hT:∀t i,E.T t=some i->gJ P E t i)(hG:∀g c,c∈E.G g->Valid P E g c)(hM:oD P E)(hD:∀w0 M Z0 bQ,ny P E w0 M Z0 bQ)
  (he : E.T = E0.T) (hnp : E.np = (lW aT.args).length) (hf : P.funcs[g]? = some fn) (hname : (fn.name == "runtime.NumGoroutine") = false) (hb : fn.body = some c) (hn : (cY c).Nodup)
  (hnt:aT.args.length+(fn.ntmps - aT.args.length)=E.nt) (live:Nat->Live) (h:∀ls r,AN E.cells aT.args ls->aT.sem ls=some r->∃n,eY E live fn (.nR (lW aT.args)) n (ig aT.args ls)=some r):fD P E0 g aT:=by
 have hbody:bI fn=c:=by simp [bI,hb]
 have hc:E0.cells=E.cells:=by funext t;simp [Env.cells,he]
 refine ⟨⟨fn,hf,hname,by rw [hb];rfl⟩,fun ls r w vs A hs hp hal hv=>?_⟩
 rw [hc] at hv hp ⊢
 have hlok:AN E.cells aT.args ls:=by
  intro e xs hm
  obtain ⟨j,hj⟩:=uf hm
  have:=hp.rt j
  rw [hj] at this
  exact this.2.sO.rd.C2
 obtain ⟨n,hrun⟩:=h ls r hlok hs
 have hvl:vs.length=aT.args.length:=by rw [<-hv.length,nT]
 have key:=oo (live:=live) (P:=P) (w0:=w) (M:=⟨fun b=>∃j,A.N j b,A.v,[]⟩) (Z0:=A.Z) (Q:=bodyPost P fn (AH E w A (lW aT.args) r)) hT hG hM (hD _ _ _ _) (by rw [hbody];exact hn) (xF hT hnp.symm) hrun
  (a:={ tmps:=vs.toArray++Array.replicate (fn.ntmps - vs.toArray.size) undef,defers:=[] }) (w:=w) ⟨A,⟨⟨hp.lt,hp.dj,hp.al,hp.rt,hp.fr,hp.nm,hp.zf,fun j hj=>hp.pn j (hnp ▸ hj)⟩,fun i x hx=>?_,hal,rfl,?_,.nil⟩,rfl⟩
 ·rw [hbody] at key
  exact (calls_of_wp hf hb key).mono fun e w' hR=>hR
 ·show V2 E.cells w A (jO (lz aT.args ls 0) i) x
  by_cases hi:i<vs.length
  ·have hx':vs[i]?=some x:=by simpa [Array.getElem?_append,hi] using hx
   have hl:=hv.length
   have hg:=List.getElem?_eq_getElem (show i<(lz aT.args ls 0).length by omega)
   obtain ⟨y,hy,hr⟩:=hv.get hg
   rw [hx'] at hy;injection hy with hy;subst hy
   rw [oX hg];exact hr
  ·rw [lJ (by rw [hv.length];omega)]
   have :x=undef:=by
    have h2:¬i<vs.toArray.size:=by simpa using hi
    rw [Array.getElem?_append,if_neg h2] at hx
    have:=(Array.getElem?_eq_some_iff.1 hx).2
    rw [<-this];simp
   exact this
 ·simp only [Array.size_append,List.size_toArray,Array.size_replicate];rw [hvl];exact hnt
end
end Go.DM
set_option linter.unusedSectionVars false
namespace Go.DM
section
variable {bQ:List L} {E:Env} {hp:Nat->aW}
theorem nZ {v:V}{k:List V->aI}(h:ou v k=some bQ):∃cs,k cs=some bQ/\∀k':List V->aI,ou v k'=k' cs:=by
 cases v<;>first | exact ⟨_,h,fun _=>rfl⟩ | cases h
theorem jz:∀{ks:List K} {vs:List V} {k:List L->aI},gC hp ks vs k=some bQ->∃ls,k ls=some bQ/\∀hp0,Sub hp hp0->∀k':List L->aI,gC hp0 ks vs k'=k' ls
 | [],[],k,h=>⟨[],h,fun _ _ _=>rfl⟩
 | [],_::_,k,h=>by cases h
 | _::_,[],k,h=>by cases h
 | kk::ks,v::vs,k,h=>by
  simp only [gC] at h
  cases hf:fits hp kk v<;>simp only [hf,aZ,aX] at h
  ·cases h
  obtain ⟨l,h1,h2⟩:=uw h
  obtain ⟨ls,h3,h4⟩:=jz h1
  refine ⟨_,h3,fun hp0 hs k'=>?_⟩
  simp only [gC,vV hf h hs,aZ,h2 hp0 hs,h4 hp0 hs]
theorem pK {ks:List K}:∀{n:Nat} {cs:List V} {k:aB->aI},sY hp ks n cs k=some bQ->∃xs,k xs=some bQ/\∀hp0,Sub hp hp0->∀k':aB->aI,sY hp0 ks n cs k'=k' xs
 | 0,cs,k,h=>⟨[],h,fun _ _ _=>rfl⟩
 | n+1,cs,k,h=>by
  simp only [sY] at h
  obtain ⟨l,h1,h2⟩:=jz h
  obtain ⟨ls,h3,h4⟩:=pK h1
  exact ⟨_,h3,fun hp0 hs k'=>by simp only [sY,h2 hp0 hs,h4 hp0 hs]⟩
theorem jY {v:V}{k:Option Nat->Nat->aB->aI}(h:gQ E hp v k=some bQ):∃d e xs,k d e xs=some bQ/\∀hp0,Sub hp hp0->∀k':Option Nat->Nat->aB->aI,gQ E hp0 v k'=k' d e xs:=by
 cases v<;>first | (cases h;done) | skip
 case sl d e xs=>exact ⟨_,_,_,h,fun _ _ _=>rfl⟩
 case own r=>
  simp only [gQ] at h
  split at h
  ·rename_i e xs hr
   exact ⟨_,_,_,h,fun hp0 hs k'=>by simp only [gQ,hs.row hr (by simp)]⟩
  ·cases h
 case lit r n e=>
  simp only [gQ] at h
  split at h
  ·rename_i cs hr
   cases hp:(Nat.ble n 16777216&&cs.all fo)<;>simp only [hp,aZ,aX] at h
   ·cases h
   obtain ⟨xs,h1,h2⟩:=pK h
   exact ⟨_,_,_,h1,fun hp0 hs k'=>by simp only [gQ,hs.row hr (by simp),hp,aZ,h2 hp0 hs]⟩
  ·cases h
 case gG r sz i o e=>
  simp only [gQ] at h
  split at h
  ·rename_i er xs hr
   cases hz:Nat.beq sz (E.cells er).length<;>simp only [hz,aZ,aX] at h
   ·cases h
   split at h
   ·rename_i e2 he2
    cases hk:Nat.beq e e2<;>simp only [hk,aZ,aX] at h
    ·cases h
    exact ⟨_,_,_,h,fun hp0 hs k'=>by simp only [gQ,hs.row hr (by simp),hz,he2,hk,aZ]⟩
   ·cases h
  ·cases h
theorem rX {ks:List K}{v:V}{k:List L->aI}(h:qh hp ks v k=some bQ):∃ls,k ls=some bQ/\∀hp0,Sub hp hp0->∀k':List L->aI,qh hp0 ks v k'=k' ls:=by
 cases v<;>first | (cases h;done) | skip
 case cC r o=>
  simp only [qh] at h
  cases ho:Nat.beq o 0<;>simp only [ho,aZ,aX] at h
  ·cases h
  split at h
  ·rename_i cs hr
   obtain ⟨ls,h1,h2⟩:=jz h
   exact ⟨_,h1,fun hp0 hs k'=>by simp only [qh,ho,aZ,hs.row hr (by simp),h2 hp0 hs]⟩
  ·cases h
 case dQ d es cells o=>
  simp only [qh] at h
  cases ho:(Nat.beq o 0&&rO es ks)<;>simp only [ho,aZ,aX] at h
  ·cases h
  exact ⟨_,h,fun hp0 hs k'=>by simp only [qh,ho,aZ]⟩
theorem ug:∀{qs:List (List K)} {vs:List V} {k:List L->aI},qM hp qs vs k=some bQ->∃ls,k ls=some bQ/\∀hp0,Sub hp hp0->∀k':List L->aI,qM hp0 qs vs k'=k' ls
 | [],[],k,h=>⟨[],h,fun _ _ _=>rfl⟩
 | [],_::_,k,h=>by cases h
 | _::_,[],k,h=>by cases h
 | q::qs,v::vs,k,h=>by
  simp only [qM] at h
  obtain ⟨a,h1,h2⟩:=rX h
  obtain ⟨b,h3,h4⟩:=ug h1
  exact ⟨_,h3,fun hp0 hs k'=>by simp only [qM,h2 hp0 hs,h4 hp0 hs]⟩
theorem wZ {p:gK}{v:V}{k:List L->aI}(h:mu E hp p v k=some bQ):∃ls,k ls=some bQ/\∀hp0,Sub hp hp0->∀k':List L->aI,mu E hp0 p v k'=k' ls:=by
 cases p with
 | rd kk=>
  have other:gC hp [kk] [v] k=some bQ->(∀hp0 (k':List L->aI),mu E hp0 (.rd kk) v k'=gC hp0 [kk] [v] k')->∃ls,k ls=some bQ/\∀hp0,Sub hp hp0->∀k':List L->aI,mu E hp0 (.rd kk) v k'=k' ls:=by
   intro h he
   obtain ⟨ls,h1,h2⟩:=jz h
   exact ⟨ls,h1,fun hp0 hs k'=>by rw [he,h2 hp0 hs]⟩
  cases v
  case lit r n e=>
   simp only [mu] at h
   split at h
   ·rename_i cs hr
    cases hk:(K.beq kk (.sl e)&&Nat.ble n 16777216)<;>simp only [hk,aZ,aX] at h
    ·cases h
    obtain ⟨xs,h1,h2⟩:=pK h
    exact ⟨_,h1,fun hp0 hs k'=>by simp only [mu,hs.row hr (by simp),hk,aZ,h2 hp0 hs]⟩
   ·cases h
  all_goals exact other h (fun _ _=>rfl)
 | agg ks=>
  cases v<;>first | (cases h;done) | skip
  obtain ⟨ls,h1,h2⟩:=jz h
  exact ⟨ls,h1,fun hp0 hs k'=>h2 hp0 hs k'⟩
 | ptr ks=>
  obtain ⟨ls,h1,h2⟩:=rX h
  exact ⟨ls,h1,fun hp0 hs k'=>h2 hp0 hs k'⟩
 | fn f qs=>
  cases v<;>first | (cases h;done) | skip
  rename_i g caps
  simp only [mu] at h
  cases hf:Nat.beq f g<;>simp only [hf,aZ,aX] at h
  ·cases h
  obtain ⟨ls,h1,h2⟩:=ug h
  exact ⟨ls,h1,fun hp0 hs k'=>by simp only [mu,hf,aZ,h2 hp0 hs]⟩
 | nil=>
  cases v<;>first | (cases h;done) | skip
  exact ⟨[],h,fun hp0 hs k'=>rfl⟩
theorem uv:∀{ps:List gK} {vs:List V} {k:List L->aI},pq E hp ps vs k=some bQ->∃ls,k ls=some bQ/\∀hp0,Sub hp hp0->∀k':List L->aI,pq E hp0 ps vs k'=k' ls
 | [],[],k,h=>⟨[],h,fun _ _ _=>rfl⟩
 | [],_::_,k,h=>by cases h
 | _::_,[],k,h=>by cases h
 | q::qs,v::vs,k,h=>by
  simp only [pq] at h
  obtain ⟨a,h1,h2⟩:=wZ h
  obtain ⟨b,h3,h4⟩:=uv h1
  exact ⟨_,h3,fun hp0 hs k'=>by simp only [pq,h2 hp0 hs,h4 hp0 hs]⟩
def BM (f:(Nat->aW)->(V->List aW->aI)->aI)(hp:Nat->aW)(k:V->List aW->aI)(bQ:List L):Prop:=∃v rs,k v rs=some bQ/\∀hp0,Sub hp hp0->∀k',f hp0 k'=k' v rs
theorem tD {nx:Nat}{vs:List V}{k:V->List aW->aI}:∀{cs:List gh},nO E hp nx vs k cs=some bQ->BM (fun hp0 k'=>nO E hp0 nx vs k' cs) hp k bQ
 | [],h=>by cases h
 | c::cs,h=>by
  simp only [nO] at h
  cases hc:oU c.args vs<;>simp only [hc,aZ,aX] at h
  ·obtain ⟨v,rs,h1,h2⟩:=tD h
   exact ⟨v,rs,h1,fun hp0 hs k'=>by simp only [nO,hc,aX];exact h2 hp0 hs k'⟩
  ·cases hv:(c.res.view&&!vs.all jc)<;>simp only [hv,aZ,aX] at h
   ·obtain ⟨ls,h1,h2⟩:=uv h
    cases hr:c.sem ls with
    | none=>rw [hr] at h1;cases h1
    | some r=>
     rw [hr] at h1
     simp only [Option.bind_some,nD] at h1
     exact ⟨_,_,h1,fun hp0 hs k'=>by simp only [nO,hc,hv,aZ,aX,h2 hp0 hs,hr,Option.bind_some,nD]⟩
   ·cases h
theorem eH {b:Bool}{x:aI}(h:(cond b x none)=some bQ):b=true/\x=some bQ:=by cases b<;>simp at h;exact ⟨rfl,h⟩
theorem kO:∀{cs ds:List V} {k:Bool->aI},gn cs ds k=some bQ->∃r,k r=some bQ/\∀k':Bool->aI,gn cs ds k'=k' r
 | [],[],k,h=>⟨true,h,fun _=>rfl⟩
 | [],_::_,k,h=>by cases h
 | c::cs,[],k,h=>by simp [gn] at h
 | c::cs,d::ds,k,h=>by
  cases c<;>cases d<;>simp only [gn] at h<;>first | (cases h;done) | skip
  case int.int ik p jk q=>
   obtain ⟨b0,h0⟩:=eH h
   obtain ⟨r,h1,h2⟩:=kO h0
   exact ⟨_,h1,fun k'=>by simp only [gn,b0,aZ,h2]⟩
  case bool.bool p q=>
   obtain ⟨r,h1,h2⟩:=kO h
   exact ⟨_,h1,fun k'=>by simp only [gn,h2]⟩
  case str.str p q=>
   obtain ⟨r,h1,h2⟩:=kO h
   exact ⟨_,h1,fun k'=>by simp only [gn,h2]⟩
theorem yy {op:BinOp}{t:TypeId}{x y:V}{k:V->aI}(h:binOp E op t x y k=some bQ):∃v,k v=some bQ/\∀k':V->aI,binOp E op t x y k'=k' v:=by
  cases x<;>first | (cases h;done) | skip
  case int ik a=>
    cases y<;>first | (cases h;done) | skip
    rename_i jk b
    cases op
    case shl=>
      simp only [binOp,zC] at h
      by_cases hb:b<0
      · simp [hb] at h
      · simp only [hb,decide_false,aX] at h
        exact ⟨_,h,fun k'=>by simp only [binOp,zC,hb,decide_false,aX]⟩
    case shr=>
      simp only [binOp,zK] at h
      by_cases hb:b<0
      · simp [hb] at h
      · simp only [hb,decide_false,aX] at h
        exact ⟨_,h,fun k'=>by simp only [binOp,zK,hb,decide_false,aX]⟩
    all_goals
      simp only [binOp] at h
      cases hk:jw ik jk<;>simp only [hk,aZ,aX] at h
      · cases h
      first
      | (simp only [pU] at h;exact ⟨_,h,fun k'=>by simp only [binOp,pU,hk,aZ]⟩)
      | (by_cases hb:b=0
         · simp [hb,pU] at h
         · simp only [hb,pU,decide_false,aX] at h
           exact ⟨_,h,fun k'=>by simp only [binOp,pU,hk,aZ,hb,decide_false,aX]⟩)
      | (simp only [pU] at h;cases h)
  case bool a=>
    cases y<;>first | (cases h;done) | skip
    simp only [binOp] at h
    cases hk:TI.isBool (E.T t)<;>simp only [hk,aZ,aX] at h
    · cases h
    cases op<;>simp only at h<;>first
      | exact ⟨_,h,fun k'=>by simp only [binOp,hk,aZ]⟩
      | cases h
  case agg cs=>
    cases y<;>first | (cases h;done) | skip
    rename_i ds
    simp only [binOp] at h
    obtain ⟨b0,h0⟩:=eH h
    cases op<;>simp only at h0<;>first
      | (obtain ⟨r,h1,h2⟩:=kO h0;exact ⟨_,h1,fun k'=>by simp only [binOp,b0,aZ,h2]⟩)
      | cases h0
  case str a=>
    cases y<;>first | (cases h;done) | skip
    rename_i b
    simp only [binOp] at h
    cases op<;>simp only at h<;>first
      | exact ⟨_,h,fun k'=>by simp only [binOp]⟩
      | (by_cases hb:((a.size+b.size:Nat):Int)>9223372036854775807
         · simp only [hb,decide_true,aZ] at h;cases h
         · simp only [hb,decide_false,aX] at h
           exact ⟨_,h,fun k'=>by simp only [binOp,hb,decide_false,aX]⟩)
      | cases h
theorem rT {fs:List (Nat×Nat)}{ρ:Operand->V}:∀{ps:List (Nat×Operand)} {cs:List V} {k:List V->aI},mD E fs ρ ps cs k=some bQ->∃cs',k cs'=some bQ/\∀k':List V->aI,mD E fs ρ ps cs k'=k' cs'
 | [],cs,k,h=>⟨cs,h,fun _=>rfl⟩
 | p::ps,cs,k,h=>by
  simp only [mD] at h
  split at h
  ·cases h
  ·rename_i f hf
   obtain ⟨new,h1,h2⟩:=nZ h
   cases hc:(Nat.beq new.length (E.cells f.2).length&&Nat.ble (f.1+new.length) cs.length)<;>simp only [hc,aZ,aX] at h1
   ·cases h1
   obtain ⟨cs',h3,h4⟩:=rT h1
   exact ⟨cs',h3,fun k'=>by simp only [mD,hf,h2,hc,aZ,h4]⟩
theorem vN {e:Nat}{ρ:Operand->V}:∀{ps:List (Nat×Operand)} {j:Nat} {k:List V->aI},vg E e ρ ps j k=some bQ->∃cs',k cs'=some bQ/\∀k':List V->aI,vg E e ρ ps j k'=k' cs'
 | [],j,k,h=>⟨_,h,fun _=>rfl⟩
 | p::ps,j,k,h=>by
  simp only [vg] at h
  cases hj:Nat.beq p.1 j<;>simp only [hj,aZ,aX] at h
  ·cases h
  obtain ⟨new,h1,h2⟩:=nZ h
  cases hc:Nat.beq new.length (E.cells e).length<;>simp only [hc,aZ,aX] at h1
  ·cases h1
  obtain ⟨cs',h3,h4⟩:=vN h1
  exact ⟨_,h3,fun k'=>by simp only [vg,hj,aZ,h2,hc,h4]⟩
theorem zY {u:Nat}{v:V}{k:V->List aW->aI}(h:tB E hp u v k=some bQ):BM (fun hp0 k'=>tB E hp0 u v k') hp k bQ:=by
  cases v
  case str s=>
    simp only [tB] at h
    cases hs:TI.isStr (E.T u)<;>simp only [hs,aZ,aX] at h
    · cases h
    exact ⟨_,_,h,fun hp0 _ k'=>by simp only [tB,hs,aZ]⟩
  all_goals
    simp only [tB] at h
    cases hu:(E.T u).bind TI.el with
    | none=>rw [hu] at h;cases h
    | some el=>
      rw [hu] at h
      simp only at h
      first
        | (obtain ⟨d,e,xs,h1,h2⟩:=jY h
           exact ⟨_,_,h1,fun hp0 hs k'=>by simp only [tB,hu,h2 hp0 hs]⟩)
        | exact ⟨_,_,h,fun hp0 hs k'=>by simp only [tB,hu]⟩
theorem gy {ρ:Operand->V}{b:Option Operand}{d:Int}{k:Int->aI}(h:iB ρ b d k=some bQ):∃n,k n=some bQ/\∀k':Int->aI,iB ρ b d k'=k' n:=by
 unfold iB at h
 split at h
 ·exact ⟨_,h,fun _=>rfl⟩
 ·rename_i x
  split at h
  ·rename_i ik n he
   exact ⟨_,h,fun _=>by simp only [iB,he]⟩
  ·cases h
theorem xR {t:Nat}{ρ:Operand->V}{x:Operand}{lo hi mx:Option Operand}{k:V->List aW->aI}(h:gZ E hp t ρ x lo hi mx k=some bQ):BM (fun hp0 k'=>gZ E hp0 t ρ x lo hi mx k') hp k bQ:=by
 have nilcase:ρ x=.nil->BM (fun hp0 k'=>gZ E hp0 t ρ x lo hi mx k') hp k bQ:=by
  intro hx
  simp only [gZ,hx] at h
  cases hu:(E.T t).bind TI.el with
  | none=>rw [hu] at h;cases h
  | some el=>
   rw [hu] at h
   simp only at h
   cases mx with
   | none=>
    simp only at h
    obtain ⟨l,h1,h2⟩:=gy h
    obtain ⟨g,h3,h4⟩:=gy h1
    obtain ⟨b1,h5⟩:=eH h3
    obtain ⟨b2,h6⟩:=eH h5
    exact ⟨_,_,h6,fun hp0 _ k'=>by simp only [gZ,hx,hu,h2,h4,b1,b2,aZ]⟩
   | some m=>
    simp only at h
    cases lo with
    | some _=>cases h
    | none=>
     simp only at h
     cases hi with
     | none=>cases h
     | some g=>
      simp only at h
      obtain ⟨l,h1,h2⟩:=gy h
      obtain ⟨g,h3,h4⟩:=gy h1
      obtain ⟨b1,h5⟩:=eH h3
      obtain ⟨b2,h6⟩:=eH h5
      exact ⟨_,_,h6,fun hp0 _ k'=>by simp only [gZ,hx,hu,h2,h4,b1,b2,aZ]⟩
 have strcase:∀s,ρ x=.str s->BM (fun hp0 k'=>gZ E hp0 t ρ x lo hi mx k') hp k bQ:=by
  intro s hx
  simp only [gZ,hx] at h
  obtain ⟨b0,h0⟩:=eH h
  cases mx with
  | some _=>cases h0
  | none=>
   simp only at h0
   obtain ⟨l,h1,h2⟩:=gy h0
   obtain ⟨g,h3,h4⟩:=gy h1
   obtain ⟨b1,h5⟩:=eH h3
   obtain ⟨b2,h6⟩:=eH h5
   obtain ⟨b3,h7⟩:=eH h6
   exact ⟨_,_,h7,fun hp0 _ k'=>by simp only [gZ,hx,b0,h2,h4,b1,b2,b3,aZ]⟩
 have rest:∀v,ρ x=v->v≠.nil->(∀s,v≠.str s)->BM (fun hp0 k'=>gZ E hp0 t ρ x lo hi mx k') hp k bQ:=by
  intro v hx hn hs
  cases hu:(E.T t).bind TI.el with
  | none=>cases v<;>first | exact (hn rfl).elim | exact (hs _ rfl).elim | exact absurd h (by simp [gZ,hx,hu])
  | some el=>
   have key:∀{hp0:Nat->aW} {k':V->List aW->aI},gZ E hp0 t ρ x lo hi mx k'=gQ E hp0 v (qo ρ el lo hi mx k'):=by
    intro hp0 k'
    cases v<;>first | exact (hn rfl).elim | exact (hs _ rfl).elim | simp only [gZ,hx,hu]
   rw [key] at h
   obtain ⟨d,e,xs,h1,h2⟩:=jY h
   obtain ⟨b0,h3⟩:=eH (show (cond (Nat.beq e el) _ none)=some bQ from h1)
   cases mx with
   | none=>
    simp only at h3
    obtain ⟨l,g1,g2⟩:=gy h3
    obtain ⟨g,g3,g4⟩:=gy g1
    obtain ⟨b1,h5⟩:=eH g3
    obtain ⟨b2,h6⟩:=eH h5
    obtain ⟨b3,h7⟩:=eH h6
    exact ⟨_,_,h7,fun hp0 hs' k'=>by simp only [key];simp only [h2 hp0 hs',qo,b0,g2,g4,b1,b2,b3,aZ]⟩
   | some m=>
    simp only at h3
    cases lo with
    | some _=>cases h3
    | none=>
     simp only at h3
     cases hi with
     | none=>cases h3
     | some g=>
      simp only at h3
      obtain ⟨l,g1,g2⟩:=gy h3
      obtain ⟨g,g3,g4⟩:=gy g1
      obtain ⟨b1,h5⟩:=eH g3
      obtain ⟨b2,h6⟩:=eH h5
      exact ⟨_,_,h6,fun hp0 hs' k'=>by simp only [key];simp only [h2 hp0 hs',qo,b0,g2,g4,b1,b2,aZ]⟩
 cases hx:ρ x with
 | nil=>exact nilcase hx
 | str s=>exact strcase s hx
 | _=>exact rest _ hx (by simp) (by simp)
theorem yW {src dst:Nat}{v:V}{k:V->List aW->aI}(h:lI E hp src dst v k=some bQ):BM (fun hp0 k'=>lI E hp0 src dst v k') hp k bQ:=by
  cases v
  case int ik n=>
    simp only [lI] at h
    cases hs:E.T src with
    | none=>rw [hs] at h;cases h
    | some _=>
      rw [hs] at h
      cases hd:E.T dst with
      | none=>rw [hd] at h;cases h
      | some i=>
        rw [hd] at h
        simp only at h
        cases ha:i.agg<;>simp only [ha,aZ,aX] at h
        · split at h
          · rename_i jk hc
            exact ⟨_,_,h,fun hp0 _ k'=>by simp only [lI,hs,hd,ha,aX,hc]⟩
          · cases h
        · cases h
  case str s=>
    simp only [lI] at h
    cases hs:TI.isStr (E.T src)<;>simp only [hs,aZ,aX] at h
    · cases h
    cases hd:TI.isStr (E.T dst)<;>simp only [hd,aZ,aX] at h
    · cases hu:(E.T dst).bind TI.el with
      | none=>rw [hu] at h;cases h
      | some el=>
        rw [hu] at h
        simp only at h
        obtain ⟨b0,h1⟩:=eH h
        exact ⟨_,_,h1,fun hp0 _ k'=>by simp only [lI,hs,hd,hu,b0,aZ,aX]⟩
    · exact ⟨_,_,h,fun hp0 _ k'=>by simp only [lI,hs,hd,aZ]⟩
  all_goals
    simp only [lI] at h
    cases hu:(E.T src).bind TI.el with
    | none=>rw [hu] at h;cases h
    | some el=>
      rw [hu] at h
      simp only at h
      obtain ⟨b0,h0⟩:=eH h
      first
        | (obtain ⟨d,e,xs,h1,h2⟩:=jY h0
           obtain ⟨b1,h3⟩:=eH h1
           exact ⟨_,_,h3,fun hp0 hs k'=>by simp only [lI,hu,b0,h2 hp0 hs,b1,aZ]⟩)
        | exact ⟨_,_,h0,fun hp0 hs k'=>by simp only [lI,hu,b0,aZ]⟩
theorem yU {o:Op}{ρ:Operand->V}{nx:Nat}{k:V->List aW->aI}(h:bW E o ρ hp nx k=some bQ):BM (fun hp0 k'=>bW E o ρ hp0 nx k') hp k bQ:=by
 cases o<;>first | (simp only [bW] at h;cases h;done) | skip
 case move x=>exact ⟨_,_,h,fun _ _ _=>rfl⟩
 case assign x=>exact ⟨_,_,h,fun _ _ _=>rfl⟩
 case nilCheck x=>
  simp only [bW] at h
  split at h
  ·rename_i hx;exact ⟨_,_,h,fun hp0 _ k'=>by simp only [bW,hx]⟩
  ·rename_i hx;exact ⟨_,_,h,fun hp0 _ k'=>by simp only [bW,hx]⟩
  ·rename_i hx;exact ⟨_,_,h,fun hp0 _ k'=>by simp only [bW,hx]⟩
  ·cases h
 case slice t x lo hi mx=>simp only [bW] at h ⊢;exact xR h
 case convert s d x=>simp only [bW] at h ⊢;exact yW h
 case pick c a b=>
  simp only [bW] at h
  split at h
  ·rename_i t ht
   cases t with
   | true=>exact ⟨_,_,h,fun hp0 _ k'=>by simp only [bW,ht,aZ]⟩
   | false=>exact ⟨_,_,h,fun hp0 _ k'=>by simp only [bW,ht,aX]⟩
  ·cases h
 case unOp op t x=>
  cases op<;>first | (simp only [bW] at h;cases h;done) | skip
  all_goals
   simp only [bW] at h
   split at h
   ·rename_i hx
    exact ⟨_,_,h,fun hp0 _ k'=>by simp only [bW,hx]⟩
   ·cases h
 case binOp op t x y ty=>
  simp only [bW] at h
  obtain ⟨v,h1,h2⟩:=yy h
  exact ⟨_,_,h1,fun hp0 _ k'=>by simp only [bW,h2]⟩
 case alloc t=>
  simp only [bW] at h
  split at h
  ·rename_i i ht
   exact ⟨_,_,h,fun hp0 _ k'=>by simp only [bW,ht]⟩
  ·cases h
 case box t x=>
  simp only [bW] at h
  split at h
  ·rename_i i ht
   obtain ⟨cs,h1,h2⟩:=nZ h
   exact ⟨_,_,h1,fun hp0 _ k'=>by simp only [bW,ht,h2]⟩
  ·cases h
 case fieldAddr t x f=>
  simp only [bW] at h
  split at h
  ·cases h
  rename_i i ht
  split at h
  ·cases h
  rename_i p hp
  split at h
  ·rename_i hx;exact ⟨_,_,h,fun hp0 _ k'=>by simp only [bW,ht,hp,hx]⟩
  ·rename_i hx;exact ⟨_,_,h,fun hp0 _ k'=>by simp only [bW,ht,hp,hx]⟩
  ·rename_i hx;exact ⟨_,_,h,fun hp0 _ k'=>by simp only [bW,ht,hp,hx]⟩
  ·cases h
 case field t x f=>
  simp only [bW] at h
  split at h
  ·cases h
  rename_i i ht
  split at h
  ·cases h
  rename_i p hp
  split at h
  ·rename_i cs hx
   split at h
   ·rename_i fi hfi
    cases hb:Nat.ble (p.1+fi.cells.length) cs.length<;>simp only [hb,aZ,aX] at h
    ·cases h
    exact ⟨_,_,h,fun hp0 _ k'=>by simp only [bW,ht,hp,hx,hfi,hb,aZ]⟩
   ·cases h
  ·cases h
 case load t x=>
  simp only [bW] at h
  split at h
  ·cases h
  rename_i i ht
  split at h
  ·rename_i r q hx
   split at h
   ·rename_i cs hr
    cases hb:Nat.ble (q+i.cells.length) cs.length<;>simp only [hb,aZ,aX] at h
    ·cases h
    exact ⟨_,_,h,fun hp0 hs k'=>by simp only [bW,ht,hx,hs.row hr (by simp),hb,aZ]⟩
   ·cases h
  ·rename_i r sz j q hx
   split at h
   ·rename_i e xs hr
    cases hb:(Nat.beq sz (E.cells e).length&&Nat.ble (q+i.cells.length) sz)<;>simp only [hb,aZ,aX] at h
    ·cases h
    cases hmt:(E.mt&&!eN (cut (E.cells e) q i.cells.length))<;>simp only [hmt,aZ,aX] at h
    case true=>
     split at h
     ·rename_i e' hcut
      cases ha:i.agg<;>simp only [ha,aZ,aX] at h
      ·have hmt':(E.mt&&!eN [K.sl e'])=true:=by rw [hcut] at hmt;exact hmt
       exact ⟨_,_,h,fun hp0 hs k'=>by simp only [bW,ht,hx,hs.row hr (by simp),hb,aZ,hcut,hmt',ha,aX]⟩
      ·cases h
     ·cases h
    exact ⟨_,_,h,fun hp0 hs k'=>by simp only [bW,ht,hx,hs.row hr (by simp),hb,aZ,hmt,aX]⟩
   ·rename_i e xs j0 cs hr
    cases hb:(Nat.beq j j0&&(Nat.beq sz (E.cells e).length&&Nat.ble (q+i.cells.length) sz))<;>simp only [hb,aZ,aX] at h
    ·cases h
    cases hmt:(!eN (cut (E.cells e) q i.cells.length))<;>simp only [hmt,aZ,aX] at h
    case true=>
     split at h
     ·rename_i e' hcut
      cases ha:i.agg<;>simp only [ha,aZ,aX] at h
      ·have hmt':(!eN [K.sl e'])=true:=by rw [hcut] at hmt;exact hmt
       exact ⟨_,_,h,fun hp0 hs k'=>by simp only [bW,ht,hx,hs.row hr (by simp),hb,aZ,hcut,hmt',ha,aX]⟩
      ·cases h
     ·cases h
    exact ⟨_,_,h,fun hp0 hs k'=>by simp only [bW,ht,hx,hs.row hr (by simp),hb,aZ,hmt,aX]⟩
   ·cases h
  ·rename_i d es cs q hx
   cases hb:Nat.ble (q+i.cells.length) es.length<;>simp only [hb,aZ,aX] at h
   ·cases h
   exact ⟨_,_,h,fun hp0 hs k'=>by simp only [bW,ht,hx,hb,aZ]⟩
  ·cases h
 case indexAddr t x i=>
  simp only [bW] at h
  split at h
  ·cases h
  rename_i el hel
  split at h
  ·rename_i ik n hi
   split at h
   ·rename_i r hx
    split at h
    ·rename_i e xs hr
     cases hb:Nat.beq e el<;>simp only [hb,aZ,aX] at h
     ·cases h
     by_cases h0:0<=n
     ·by_cases h1:n<(xs.length:Int)
      ·simp only [h0,h1,decide_true,aZ] at h
       exact ⟨_,_,h,fun hp0 hs k'=>by simp only [bW,hel,hi,hx,hs.row hr (by simp),hb,aZ,h0,h1,decide_true]⟩
      ·simp [h0,h1] at h
     ·simp [h0] at h
    ·rename_i e xs j0 cs hr
     cases hb:Nat.beq e el<;>simp only [hb,aZ,aX] at h
     ·cases h
     by_cases h0:0<=n
     ·by_cases h1:n<(xs.length:Int)
      ·simp only [h0,h1,decide_true,aZ] at h
       exact ⟨_,_,h,fun hp0 hs k'=>by simp only [bW,hel,hi,hx,hs.row hr (by simp),hb,aZ,h0,h1,decide_true]⟩
      ·simp [h0,h1] at h
     ·simp [h0] at h
    ·rename_i e xs j0 cs hr
     cases hb:Nat.beq e el<;>simp only [hb,aZ,aX] at h
     ·cases h
     by_cases h0:0<=n
     ·by_cases h1:n<(xs.length:Int)
      ·simp only [h0,h1,decide_true,aZ] at h
       exact ⟨_,_,h,fun hp0 hs k'=>by simp only [bW,hel,hi,hx,hs.row hr (by simp),hb,aZ,h0,h1,decide_true]⟩
      ·simp [h0,h1] at h
     ·simp [h0] at h
    ·cases h
   ·rename_i hne
    obtain ⟨d,e,xs,h1,h2⟩:=jY h
    cases hb:Nat.beq e el<;>simp only [hb,aZ,aX] at h1
    ·cases h1
    by_cases g0:0<=n
    ·by_cases g1:n<(xs.length:Int)
     ·simp only [g0,g1,decide_true,aZ] at h1
      refine ⟨_,_,h1,fun hp0 hs k'=>?_⟩
      have hF:(cond (Nat.beq e el) (cond (decide (0<=n)) (cond (decide (n<(xs.length:Int))) (k' (.dQ d (E.cells e) (xs.getD n.toNat []) 0) []) none) none) none)=k' (.dQ d (E.cells e) (xs.getD n.toNat []) 0) []:=by
       simp only [hb,aZ,g0,g1,decide_true]
      refine Eq.trans ?_ ((h2 hp0 hs (fun d e xs=>bif Nat.beq e el then (cond (decide (0<=n)) (cond (decide (n<(xs.length:Int))) (k' (.dQ d (E.cells e) (xs.getD n.toNat []) 0) []) none) none) else none)).trans hF)
      simp only [bW,hel,hi]
     ·simp [g0,g1] at h1
    ·simp [g0] at h1
  ·cases h
 case index t x i=>
  simp only [bW] at h
  cases hs:TI.isStr (E.T t)<;>simp only [hs,Bool.not_true,Bool.not_false,aZ,aX] at h
  ·cases h
  split at h
  ·rename_i ik n hi
   split at h
   ·rename_i s hx
    by_cases h0:0<=n
    ·by_cases h1:n<(s.size:Int)
     ·simp only [h0,h1,decide_true,aZ] at h
      exact ⟨_,_,h,fun hp0 _ k'=>by simp only [bW,hs,hi,hx,h0,h1,decide_true,aZ,Bool.not_true,aX]⟩
     ·simp [h0,h1] at h
    ·simp [h0] at h
   ·cases h
  ·cases h
 case extract x i=>
  simp only [bW] at h
  split at h
  ·rename_i vs hx
   split at h
   ·rename_i v hv
    exact ⟨_,_,h,fun hp0 _ k'=>by simp only [bW,hx,hv]⟩
   ·cases h
  ·cases h
 case build t ps=>
  simp only [bW] at h
  split at h
  ·rename_i i ht
   cases ha:i.agg<;>simp only [ha,aZ,aX] at h
   ·cases h
   obtain ⟨cs,h1,h2⟩:=rT h
   exact ⟨_,_,h1,fun hp0 _ k'=>by simp only [bW,ht,ha,aZ,h2]⟩
  ·cases h
 case buildSlice t n ps=>
  simp only [bW] at h
  split at h
  ·rename_i el hel
   cases hn:Nat.beq n ps.size<;>simp only [hn,aZ,aX] at h
   ·cases h
   cases n with
   | zero=>exact ⟨_,_,h,fun hp0 _ k'=>by simp only [bW,hel,hn,aZ]⟩
   | succ n=>
    simp only at h
    obtain ⟨cs,h1,h2⟩:=vN h
    cases hl:Nat.ble cs.length 16777216<;>simp only [hl,aZ,aX] at h1
    ·cases h1
    cases hap:eN (E.cells el)<;>simp only [hap,aZ,aX] at h1
    ·exact ⟨_,_,h1,fun hp0 _ k'=>by simp only [bW,hel,hn,aZ,aX,h2,hl,hap]⟩
    ·obtain ⟨xs,h3,h4⟩:=pK h1
     exact ⟨_,_,h3,fun hp0 hs k'=>by simp only [bW,hel,hn,aZ,h2,hl,hap,h4 hp0 hs]⟩
  ·cases h
 case makeSlice t x y=>
  simp only [bW] at h
  split at h
  ·rename_i el hel
   split at h
   ·rename_i n hx
    split at h
    ·rename_i m hy
     by_cases h0:0<=n
     ·by_cases h1:n<=m
      ·by_cases h2:m*(E.bytes el:Int)<=140737488355328
       ·simp only [h0,h1,h2,decide_true,aZ] at h
        exact ⟨_,_,h,fun hp0 _ k'=>by simp only [bW,hel,hx,hy,h0,h1,h2,decide_true,aZ]⟩
       ·simp [h0,h1,h2] at h
      ·simp [h0,h1] at h
     ·simp [h0] at h
    ·cases h
   ·cases h
  ·cases h
 case makeFunc fn b caps=>
  cases fn<;>first | (simp only [bW] at h;cases h;done) | skip
  rename_i f
  simp only [bW] at h
  cases hb:(b.isEmpty&&(caps.toList.map ρ).all Az)<;>simp only [hb,aZ,aX] at h
  ·cases h
  exact ⟨_,_,h,fun hp0 _ k'=>by simp only [bW,hb,aZ]⟩
 case call c=>
  obtain ⟨callee,args,argTypes⟩:=c
  cases callee with
  | invoke r n=>simp only [bW] at h;cases h
  | value f=>
   simp only [bW] at h
   split at h
   ·rename_i g caps hf
    obtain ⟨v,rs,h1,h2⟩:=tD h
    exact ⟨v,rs,h1,fun hp0 hs k'=>by simp only [bW,hf];exact h2 hp0 hs k'⟩
   ·cases h
  | builtin b=>
   cases b<;>first | (simp only [bW] at h;cases h;done) | skip
   case len=>
    simp only [bW] at h
    split at h
    ·rename_i x hx
     split at h
     ·rename_i u hu
      obtain ⟨v,rs,h1,h2⟩:=zY h
      exact ⟨v,rs,h1,fun hp0 hs k'=>by simp only [bW,hx,hu];exact h2 hp0 hs k'⟩
     ·cases h
    ·cases h
   case append=>
    simp only [bW] at h
    split at h
    ·rename_i x y hxy
     split at h
     ·rename_i t u htu
      obtain ⟨b0,h0⟩:=eH h
      split at h0
      ·rename_i el hel
       obtain ⟨b1,h1⟩:=eH h0
       split at h1
       ·rename_i hxn
        split at h1
        ·rename_i hyn
         exact ⟨_,_,h1,fun hp0 hs k'=>by simp only [bW,hxy,htu,b0,hel,b1,hxn,hyn,aZ]⟩
        ·rename_i v hyn
         obtain ⟨d,e,ys,q1,q2⟩:=jY h1
         obtain ⟨b2,h2⟩:=eH q1
         refine ⟨_,_,h2,fun hp0 hs k'=>?_⟩
         have:=q2 hp0 hs
         cases hy:ρ y with
         | nil=>exact (hyn hy).elim
         | _=>
          rw [hy] at this
          simp only [bW,hxy,htu,b0,hel,b1,hxn,hy,aZ,this,b2]
       ·cases h1
      ·cases h0
     ·cases h
    ·cases h
   all_goals
    simp only [bW] at h
    split at h
    ·rename_i x y hx
     split at h
     ·rename_i p hp
      split at h
      ·rename_i q hq
       exact ⟨_,_,h,fun hp0 hs k'=>by simp only [bW,hx,hp,hq]⟩
      ·cases h
     ·cases h
    ·cases h
end
end Go.DM
set_option linter.unusedSectionVars false
namespace Go.DM
def nK {α:Type}(a b:List α):Prop:=∀(i:Nat) (x:α),a[i]?=some x->b[i]?=some x
def nK.tail {α:Type}{a b:List α}(h:nK a b):nK a.tail b.tail:=fun i x hx=>by
 have:=h (i+1) x (by simpa using hx)
 simpa using this
def nK.refl {α:Type}(a:List α):nK a a:=fun _ _ h=>h
def nK.append {α:Type}(a b:List α):nK a (a++b):=fun i x hx=>by rw [List.getElem?_append_left (List.getElem?_eq_some_iff.1 hx).1];exact hx
def nK.take {α:Type}(a:List α)(n:Nat):nK (a.take n) a:=fun i x hx=>by
 rw [List.getElem?_take] at hx
 split at hx
 ·exact hx
 ·cases hx
def oM {sl:Nat->V}{D D':Nat->Bool}(hD:∀j,D j=true->D' j=true){t:Nat}:∀{hs:List Oper} {us us':List Out} {j:Nat},nK us us'->iQ sl D hs us j t=.dead∨iQ sl D hs us j t=iQ sl D' hs us' j t
 | [],us,us',j,_=>.inr rfl
 | o::os,us,us',j,hb=>by
  simp only [iQ]
  cases hd:o.dst with
  | none=>exact oM hD hb.tail
  | some d=>
   simp only
   cases ht:Nat.beq t d with
   | false=>exact oM hD hb.tail
   | true=>
    simp only [aZ]
    cases hj:D j with
    | false=>exact .inl rfl
    | true=>
     simp only [aZ,hD j hj]
     cases us with
     | nil=>exact .inl rfl
     | cons u us=>
      have:=hb 0 u rfl
      cases us' with
      | nil=>simp at this
      | cons u' us'=>simp at this;subst this;exact .inr rfl
def tZ {sl:Nat->V}{D D':Nat->Bool}{t:Nat}:∀{hs:List Oper} {us:List Out} {j:Nat},(∀i,j<=i->D i=D' i)->iQ sl D hs us j t=iQ sl D' hs us j t
 | [],us,j,_=>rfl
 | o::os,us,j,h=>by
  have ih:=tZ (sl:=sl) (D:=D) (D':=D') (t:=t) (hs:=os) (us:=us.tail) (j:=j+1) (fun i hi=>h i (by omega))
  simp only [iQ,ih,h j (Nat.le_refl _)]
def rH {d:Nat}{o:Oper}(hd:o.dst=some d):∀{hs:List Oper} {i:Nat},hs[i]?=some o->d∈jI hs
 | [],i,h=>by simp at h
 | o'::hs,0,h=>by simp at h;subst h;simp [jI,hd]
 | o'::hs,i+1,h=>by
  have:=rH hd (hs:=hs) (i:=i) (by simpa using h)
  simp only [jI]
  cases o'.dst with
  | none=>exact this
  | some e=>simp [this]
def vh {sl:Nat->V}{D D':Nat->Bool}{o:Oper}{u:Out}{t:Nat}:∀{hs:List Oper} {us:List Out} {i j:Nat},fO (jI hs)=true->hs[i]?=some o->us[i]?=some u->D' (j+i)=true->(∀l,l≠j+i->D' l=D l)->
  iQ sl D' hs us j t=if o.dst=some t then u.v else iQ sl D hs us j t
 | [],us,i,j,_,h,_,_,_=>by simp at h
 | o'::os,us,0,j,hf,ho,hu,h1,h2=>by
  simp at ho
  subst ho
  cases us with
  | nil=>simp at hu
  | cons u' us=>
   simp at hu
   subst hu
   have ih:=tZ (sl:=sl) (D:=D') (D':=D) (t:=t) (hs:=os) (us:=us) (j:=j+1) (fun i hi=>h2 i (by omega))
   have h1':D' j=true:=h1
   simp only [iQ,List.tail_cons,ih,h1',wN]
   cases hd:o'.dst with
   | none=>simp
   | some d=>
    simp only [Option.some.injEq]
    cases hb:Nat.beq t d with
    | true=>rw [if_pos (Nat.eq_of_beq_eq_true hb).symm];rfl
    | false=>rw [if_neg (fun e=>by subst e;simp at hb)];rfl
 | o'::os,us,i+1,j,hf,ho,hu,h1,h2=>by
  have ho':os[i]?=some o:=by simpa using ho
  have hu':us.tail[i]?=some u:=by simpa using hu
  have hf':fO (jI os)=true:=by
   simp only [jI] at hf
   cases hd:o'.dst with
   | none=>rw [hd] at hf;exact hf
   | some d=>rw [hd] at hf;simp only [fO,Bool.and_eq_true] at hf;exact hf.2
  have ih:=vh (sl:=sl) (D:=D) (D':=D') (t:=t) (hs:=os) (us:=us.tail) (i:=i) (j:=j+1) hf' ho' hu' (by rw [show j+1+i=j+(i+1) by omega];exact h1) (fun l hl=>h2 l (by omega))
  simp only [iQ,ih,h2 j (by omega)]
  cases hd:o'.dst with
  | none=>rfl
  | some d=>
   simp only
   cases hb:Nat.beq t d with
   | false=>rfl
   | true=>
    have e:=Nat.eq_of_beq_eq_true hb
    subst e
    simp only [aZ]
    have hne:o.dst≠some t:=by
     intro he
     have hm:=rH he ho'
     simp only [jI,hd,fO,Bool.and_eq_true,List.all_eq_true] at hf
     have:=hf.1 t hm
     simp at this
    rw [if_neg hne]
def zR {j l:Nat}:∀{us us':List Out},nK us us'->uB us j l=.dead∨uB us j l=uB us' j l:=by
 induction j with
 | zero=>
  intro us us' hb
  cases us with
  | nil=>exact .inl rfl
  | cons u us=>
   have:=hb 0 u rfl
   cases us' with
   | nil=>simp at this
   | cons u' us'=>simp at this;subst this;exact .inr rfl
 | succ j ih=>
  intro us us' hb
  cases us with
  | nil=>exact .inl rfl
  | cons u us=>
   have:=hb 0 u rfl
   cases us' with
   | nil=>simp at this
   | cons u' us'=>exact ih hb.tail
def rm {hp:Nat->aW}{nx:Nat}{D D':Nat->Bool}{us us':List Out}(hD:∀j,D j=true->D' j=true)(hb:nK us us'):Sub (kA hp nx D us) (kA hp nx D' us'):=fun r=>by
 unfold kA
 cases Nat.blt r nx with
 | true=>exact .inl rfl
 | false=>
  simp only [aX]
  cases hj:D ((r - nx) / 64) with
  | false=>exact .inr rfl
  | true=>
   simp only [hD _ hj,aZ]
   rcases zR (j:=(r - nx) / 64) (l:=(r - nx) % 64) hb with h | h
   ·exact .inr h
   ·exact .inl h
def rG {u:Out}{l:Nat}:∀{us:List Out} {i:Nat},us[i]?=some u->uB us i l=yK u.rs l
 | [],i,h=>by simp at h
 | u'::us,0,h=>by simp at h;subst h;rfl
 | u'::us,i+1,h=>rG (us:=us) (i:=i) (by simpa using h)
def vB:∀{rs:List aW} {l:Nat} {o:aW},rs[l]?=some o->yK rs l=o
 | [],l,o,h=>by simp at h
 | r::rs,0,o,h=>by simp at h;exact h
 | r::rs,l+1,o,h=>vB (rs:=rs) (l:=l) (by simpa using h)
def ur:∀{rs:List aW} {l:Nat},rs.length<=l->yK rs l=.dead
 | [],l,h=>rfl
 | r::rs,0,h=>by simp at h
 | r::rs,l+1,h=>ur (rs:=rs) (l:=l) (by simpa using h)
def uX {hp:Nat->aW}{nx i:Nat}{D D':Nat->Bool}{us:List Out}{u:Out}(hu:us[i]?=some u)(hl:u.rs.length<=64)(h0:D i=false)(h1:D' i=true)(h2:∀l,l≠i->D' l=D l) :
  kA hp nx D' us=eA (kA hp nx D us) (nx+64*i) u.rs:=by
 funext r
 by_cases hr:r<nx
 ·rw [eO _ _ _ _ (.inl (by omega))]
  simp [kA,Nat.blt_eq.mpr hr]
 ·have hb:Nat.blt r nx=false:=by
   cases h:Nat.blt r nx with
   | false=>rfl
   | true=>exact absurd (Nat.blt_eq.mp h) hr
  have hdm:=Nat.div_add_mod (r - nx) 64
  have hmod:=Nat.mod_lt (r - nx) (show 0<64 by omega)
  by_cases hj:(r - nx) / 64=i
  ·have hlhs:kA hp nx D' us r=yK u.rs ((r - nx) % 64):=by simp only [kA,hb,aX,hj,h1,aZ,rG hu]
   rw [hlhs]
   by_cases hlt:(r - nx) % 64<u.rs.length
   ·have hg:=List.getElem?_eq_getElem hlt
    rw [vB hg]
    have:=gu u.rs (kA hp nx D us) (nx+64*i) ((r - nx) % 64) _ hg
    rw [show nx+64*i+(r - nx) % 64=r by rw [hj] at hdm;omega] at this
    exact this.symm
   ·rw [ur (by omega),eO _ _ _ _ (.inr (by rw [hj] at hdm;omega))]
    simp only [kA,hb,aX,hj,h0]
  ·rw [eO _ _ _ _ (by
    rcases Nat.lt_or_gt_of_ne hj with h | h
    ·exact .inl (by omega)
    ·exact .inr (by omega))]
   simp only [kA,hb,aX,h2 _ hj]
def tQ {v:V}:∀{us:List Out} {j:Nat},(∀u,us[j]?=some u->u.v=v)->zn us j v=us
 | [],_,_=>rfl
 | u::us,0,h=>by
  have:=h u rfl
  simp only [zn];rw [<-this]
 | u::us,j+1,h=>by
  simp only [zn]
  rw [tQ (us:=us) (j:=j) fun u hu=>h u (by simpa using hu)]
def sL {sl:Nat->V}{D:Nat->Bool}{o:Oper}{u:Out}{d:Nat}(hd:o.dst=some d):∀{hs:List Oper} {us:List Out} {i j:Nat},fO (jI hs)=true->hs[i]?=some o->us[i]?=some u->
  iQ sl D hs us j d=bif D (j+i) then u.v else .dead
 | [],us,i,j,_,h,_=>by simp at h
 | o'::os,us,0,j,hf,ho,hu=>by
  simp at ho
  subst ho
  cases us with
  | nil=>simp at hu
  | cons u' us=>
   simp at hu
   subst hu
   simp [iQ,hd,wN]
 | o'::os,us,i+1,j,hf,ho,hu=>by
  have ho':os[i]?=some o:=by simpa using ho
  have hu':us.tail[i]?=some u:=by simpa using hu
  have hf':fO (jI os)=true:=by
   simp only [jI] at hf
   cases hd':o'.dst with
   | none=>rw [hd'] at hf;exact hf
   | some d=>rw [hd'] at hf;simp only [fO,Bool.and_eq_true] at hf;exact hf.2
  have ih:=sL (sl:=sl) (D:=D) hd (hs:=os) (us:=us.tail) (i:=i) (j:=j+1) hf' ho' hu'
  rw [show j+1+i=j+(i+1) by omega] at ih
  simp only [iQ]
  cases hd':o'.dst with
  | none=>exact ih
  | some e=>
   simp only
   cases hb:Nat.beq d e with
   | false=>exact ih
   | true=>
    have e1:=Nat.eq_of_beq_eq_true hb
    subst e1
    have hm:=rH hd ho'
    simp only [jI,hd',fO,Bool.and_eq_true,List.all_eq_true] at hf
    have:=hf.1 d hm
    simp at this
def wJ {all hs:List Oper}{sl:Nat->V}{D:Nat->Bool}{us:List Out}{kn:Option (Nat×Nat×Bool)}(hf:fO (jI hs)=true)(hb:nK hs all)(hl:us.length<=hs.length)(h:yl all (iQ sl D hs us 0) kn):qp us kn=us:=by
 match kn with
 | none=>rfl
 | some (j,d,t)=>
  simp only [qp]
  refine tQ fun u hu=>?_
  obtain ⟨h1,o,ho,hd⟩:=h j d t rfl
  have hj:j<hs.length:=by have:=(List.getElem?_eq_some_iff.1 hu).1;omega
  have ho':hs[j]?=some o:=by
   have h2:=List.getElem?_eq_getElem hj
   have h3:=hb j _ h2
   rw [ho] at h3;injection h3 with h3;rw [h3];exact h2
  rw [sL hd hf ho' hu] at h1
  cases hD:D (0+j) with
  | false=>rw [hD] at h1;cases h1
  | true=>rw [hD] at h1;exact h1
def oC (E:Env)(all hs:List Oper)(bs:List Nat)(sl:Nat->V)(hp:Nat->aW)(nx i:Nat)(o:Oper)(u:Out)(pre:List Out):Prop:=
 ∃(t:Bool) (kn:Option (Nat×Nat×Bool)),(∀k':Bool->Option (Nat×Nat×Bool)->aI,guarded E.nt all (iQ sl (bs.getD i 0).testBit hs pre 0) o.guard k'=k' t kn)/\
  (t=true->u.rs.length<=64/\∀hp0,Sub (kA hp nx (bs.getD i 0).testBit pre) hp0->∀k',bW E o.op (fQ E.nt (iQ sl (bs.getD i 0).testBit hs pre 0)) hp0 (nx+64*i) k'=k' u.v u.rs)/\(t=false->u=⟨.undef,[]⟩)
def kP {E:Env}{all hs:List Oper}{bs:List Nat}{sl:Nat->V}{hp:Nat->aW}{nx:Nat}{bQ:List L}:∀{os:List Oper} {i:Nat} {us:List Out} {k:List Out->aI},fO (jI hs)=true->nK hs all->i+os.length<=hs.length->us.length=i->kM E all hs bs sl hp nx os i us k=some bQ->
  ∃us',k us'=some bQ/\us'.length=i+os.length/\nK us us'/\∀(l:Nat) (o:Oper),os[l]?=some o->∃u,us'[i+l]?=some u/\oC E all hs bs sl hp nx (i+l) o u (us'.take (i+l))
 | [],i,us,k,_,_,_,hl,h=>⟨us,h,by simp [hl],nK.refl us,fun l o ho=>by simp at ho⟩
 | o::os,i,us,k,hfr,hbg,hlen,hl,h=>by
  simp only [kM] at h
  obtain ⟨t,kn,h1,hk,h2⟩:=qF h
  rw [wJ hfr hbg (by simp only [List.length_cons] at hlen;omega) hk] at h1
  have fin:∀(u:Out),kM E all hs bs sl hp nx os (i+1) (us++[u]) k=some bQ->oC E all hs bs sl hp nx i o u us->
    ∃us',k us'=some bQ/\us'.length=i+(o::os).length/\nK us us'/\∀(l:Nat) (o':Oper),(o::os)[l]?=some o'->∃u,us'[i+l]?=some u/\oC E all hs bs sl hp nx (i+l) o' u (us'.take (i+l)):=by
   intro u hr hok
   obtain ⟨us',g1,g2,g3,g4⟩:=kP hfr hbg (by simp only [List.length_cons] at hlen;omega) (by simp [hl]) hr
   refine ⟨us',g1,by simp [g2];omega,fun j x hx=>g3 j x (nK.append us [u] j x hx),fun l o' ho'=>?_⟩
   cases l with
   | zero=>
    simp at ho'
    subst ho'
    refine ⟨u,g3 i u (by rw [<-hl];simp),?_⟩
    have :us'.take (i+0)=us:=by
     apply List.ext_getElem?
     intro j
     rw [Nat.add_zero,List.getElem?_take]
     by_cases hj:j<i
     ·rw [if_pos hj]
      have hju:=List.getElem?_eq_getElem (show j<us.length by omega)
      rw [hju];exact g3 j _ (nK.append us [u] j _ hju)
     ·rw [if_neg hj,List.getElem?_eq_none (by omega)]
    rw [this];exact hok
   | succ l=>
    have:=g4 l o' (by simpa using ho')
    rw [show i+1+l=i+(l+1) by omega] at this
    exact this
  cases t<;>simp only [aZ,aX] at h1
  ·exact fin _ h1 ⟨false,kn,h2,fun h=>(by cases h),fun _=>rfl⟩
  ·obtain ⟨v,rs,h3,h4⟩:=yU h1
   cases hle:Nat.ble rs.length 64<;>simp only [hle,aZ,aX] at h3
   ·cases h3
   exact fin ⟨v,rs⟩ h3 ⟨true,kn,h2,fun _=>⟨Nat.le_of_ble_eq_true hle,h4⟩,fun h=>(by cases h)⟩
def HI (E:Env)(w0:World)(M:Mem E.np)(Z0:Nat->Prop)(s:St)(hs:List Oper)(us:List Out)(D:Nat->Bool)(a:Act)(w:World):Prop:=
 ∃A,Hp E.cells w0 M A (kA s.hp s.nx D us) w/\(∀i x,a.tmps[i]?=some x->V2 E.cells w A (iQ s.sl D hs us 0 i) x)/\(∀r,A.al r->r<s.nx∨∃j,D j=true/\s.nx+64*j<=r/\r<s.nx+64*j+64)/\a.defers=[]/\a.tmps.size=E.nt/\A.Z=Z0/\F2 (V2 E.cells w A) s.fr M.sv
section
variable {P:Program} {E:Env} {w0:World} {M:Mem E.np} {Z0:Nat->Prop} {bQ:List L}
open Classical in
theorem nI (hT:∀t i,E.T t=some i->gJ P E t i)(hG:∀g c,c∈E.G g->Valid P E g c){ops:Array Oper}{hs:List Oper}{bs:List Nat}{s:St}{us:List Out}{D D':Nat->Bool}{a:Act}{w:World}{i:Nat}{o:Oper}{u:Out}
  (hf:fO (jI hs)=true) (hi:HI E w0 M Z0 s hs us D a w) (ho:hs[i]?=some o) (hops:ops[i]?=some o) (hu:us[i]?=some u) (h0:D i=false) (h1:D' i=true) (h2:∀l,l≠i->D' l=D l)
  (hanc:∀j,(bs.getD i 0).testBit j=true->D j=true) (hok:oC E ops.toList hs bs s.sl s.hp s.nx i o u (us.take i)) {K:Act->World->Prop} {Q:Exit->Act->World->Prop}
  (hK:∀a' w',HI E w0 M Z0 s hs us D' a' w'->K a' w'):wpOp P ops Q i K a w:=by
 obtain ⟨A,hh,tm,al,df,sz,hz,hfr⟩:=hi
 obtain ⟨t,kn,g1,g2,g3⟩:=hok
 have hbeg:=nK.take us i
 have tm':∀i' x,a.tmps[i']?=some x->V2 E.cells w A (iQ s.sl (bs.getD i 0).testBit hs (us.take i) 0 i') x:=by
  intro i' x hx
  rcases oM (sl:=s.sl) (hs:=hs) (j:=0) (t:=i') hanc hbeg with h | h
  ·rw [h];exact trivial
  ·rw [h];exact tm i' x hx
 have hput:∀i',iQ s.sl D' hs us 0 i'=if o.dst=some i' then u.v else iQ s.sl D hs us 0 i':=fun i'=>vh (t:=i') hf ho hu (by rw [Nat.zero_add];exact h1) (fun l hl=>h2 l (by rw [Nat.zero_add] at hl;exact hl))
 have fin:∀(A':dS) (w':World) (cv:Value),Hp E.cells w0 M A' (kA s.hp s.nx D' us) w'->(∀i' x,a.tmps[i']?=some x->V2 E.cells w' A' (iQ s.sl D hs us 0 i') x)->V2 E.cells w' A' u.v cv->
   (∀r,A'.al r->A.al r∨(s.nx+64*i<=r/\r<s.nx+64*i+64))->A'.Z=A.Z->F2 (V2 E.cells w' A') s.fr M.sv->HI E w0 M Z0 s hs us D' (a.put o.dst cv) w':=by
  intro A' w' cv e1 e2 e3 e4 e5 e6
  refine ⟨A',e1,fun i' x hx=>?_,fun r hr=>?_,?_,?_,e5.trans hz,e6⟩
  ·rw [hput]
   cases hd:o.dst with
   | none=>
    rw [hd] at hx
    rw [if_neg (by simp)]
    exact e2 i' x hx
   | some d=>
    rw [hd] at hx
    simp only [Act.put] at hx
    rw [Array.getElem?_setIfInBounds] at hx
    by_cases hdi:d=i'
    ·subst hdi
     rw [if_pos rfl]
     split at hx
     ·split at hx
      ·injection hx with hx;subst hx;exact e3
      ·cases hx
     ·rename_i hn;exact (hn rfl).elim
    ·rw [if_neg (by simpa using hdi)]
     rw [if_neg hdi] at hx
     exact e2 i' x hx
  ·rcases e4 r hr with h | h
   ·rcases al r h with h | ⟨j,hj,h⟩
    ·exact .inl h
    ·refine .inr ⟨j,?_,h⟩
     by_cases hji:j=i
     ·subst hji;exact h1
     ·rw [h2 j hji];exact hj
   ·exact .inr ⟨i,h1,h⟩
  ·cases hd:o.dst<;>exact df
  ·cases hd:o.dst<;>simpa [Act.put] using sz
 have hD0:∀r,s.nx+64*i<=r->r<s.nx+64*i+64->¬A.al r:=by
  intro r hr1 hr2 ha
  rcases al r ha with h | ⟨j,hj,h3,h4⟩
  ·omega
  ·have :j=i:=by omega
   subst this;rw [h0] at hj;cases hj
 unfold wpOp
 rw [hops]
 cases t with
 | false=>
  have hu':=g3 rfl
  have h:=oJ tm' sz g1
  ·simp only [h]
   refine hK _ _ (fin A w undef ?_ tm (by rw [hu'];exact (show V0 E.cells w A .undef undef from rfl).v2) (fun r h=>.inl h) rfl hfr)
   rw [uX hu (by rw [hu'];simp) h0 h1 h2,hu']
   exact hh
 | true=>
  obtain ⟨hlen,hev⟩:=g2 rfl
  have h:=oJ tm' sz g1
  ·simp only [h,if_true]
   left
   have hrun:=hev (kA s.hp s.nx D us) (rm hanc hbeg) (fun v rs=>if v=u.v/\rs=u.rs then some [] else none)
   simp only [and_self,if_true] at hrun
   obtain ⟨v,rs,q1,q2⟩:=mE (M:=M) (w0:=w0) hT hG hh (vu tm' sz) hrun
   simp only at q1
   split at q1
   ·rename_i hvr
    obtain ⟨rfl,rfl⟩:=hvr
    refine q2 (fun r hr1 hr2=>hD0 r hr1 (by omega)) K Q fun cv w' A' e1 e2 e3 e4=>hK _ _ (fin A' w' cv ?_ (fun i' x hx=>(tm i' x hx).step e2 hh (fun _ h=>h)) e3 (fun r hr=>?_) e2.Z (hfr.mono fun _ _ h=>h.step e2 hh (fun _ h=>h)))
    ·rw [uX hu hlen h0 h1 h2];exact e1
    ·rcases e4 r hr with h | h
     ·exact .inl h
     ·exact .inr (by omega)
   ·cases q1
theorem jJ:∀(os:List Oper) (bs:List Nat),(masks os bs).length=bs.length+os.length
 | [],bs=>by simp [masks]
 | o::os,bs=>by simp only [masks,jJ os,List.length_append,List.length_cons,List.length_nil];omega
theorem qu:∀(os:List Oper) (bs:List Nat),nK bs (masks os bs)
 | [],bs=>nK.refl bs
 | o::os,bs=>fun i x hx=>qu os _ i x (nK.append bs _ i x hx)
theorem qn:∀{os:List Oper} {bs:List Nat} {l:Nat} {o:Oper},os[l]?=some o->∃pre,nK pre (masks os bs)/\(masks os bs)[bs.length+l]?=some (kV pre o.after.toList)
 | [],bs,l,o,h=>by simp at h
 | o'::os,bs,0,o,h=>by
  simp at h
  subst h
  refine ⟨bs,qu _ _,?_⟩
  simp only [masks]
  exact qu os _ _ _ (by simp)
 | o'::os,bs,l+1,o,h=>by
  obtain ⟨pre,h1,h2⟩:=qn (os:=os) (bs:=bs++[kV bs o'.after.toList]) (l:=l) (o:=o) (by simpa using h)
  refine ⟨pre,h1,?_⟩
  simp only [masks]
  rw [<-h2];congr 1;simp;omega
theorem lV {bs:List Nat}{l:Nat}:∀{es:List Edge},(kV bs es).testBit l=true->∃e∈es,Region.binds .any e=true/\(l=e.on∨(bs.getD e.on 0).testBit l=true)
 | [],h=>by simp [kV] at h
 | e::es,h=>by
  simp only [kV] at h
  cases hb:Region.binds .any e<;>simp only [hb,aZ,aX] at h
  ·obtain ⟨e',h1,h2⟩:=lV h
   exact ⟨e',by simp [h1],h2⟩
  ·rw [Nat.testBit_or,Nat.testBit_or] at h
   simp only [Bool.or_eq_true] at h
   rcases h with h | h | h
   ·obtain ⟨e',h1,h2⟩:=lV h
    exact ⟨e',by simp [h1],h2⟩
   ·rw [Nat.testBit_two_pow] at h
    exact ⟨e,by simp,hb,.inl (by have:=of_decide_eq_true h;omega)⟩
   ·exact ⟨e,by simp,hb,.inr h⟩
theorem jS:∀{os:List Oper} {i l:Nat} {o:Oper},lE os i=true->os[l]?=some o->∀e∈o.after.toList,Region.binds .any e=true->e.on<i+l
 | [],i,l,o,_,h=>by simp at h
 | o'::os,i,0,o,hb,h=>by
  simp at h
  subst h
  simp only [lE,Bool.and_eq_true,List.all_eq_true] at hb
  intro e he hbe
  have:=hb.1 e he
  rw [hbe] at this
  exact Nat.blt_eq.mp (by simpa using this)
 | o'::os,i,l+1,o,hb,h=>by
  simp only [lE,Bool.and_eq_true] at hb
  have:=jS hb.2 (l:=l) (o:=o) (by simpa using h)
  intro e he hbe
  have:=this e he hbe
  omega
theorem nu:∀{bs:List Nat} {i l b:Nat},nN bs i=true->bs[l]?=some b->b=2^(i+l) - 1
 | [],i,l,b,_,h=>by simp at h
 | b'::bs,i,0,b,hb,h=>by
  simp at h
  subst h
  simp only [nN,Bool.and_eq_true] at hb
  exact Nat.eq_of_beq_eq_true hb.1
 | b'::bs,i,l+1,b,hb,h=>by
  simp only [nN,Bool.and_eq_true] at hb
  have:=nu hb.2 (l:=l) (b:=b) (by simpa using h)
  rw [this];congr 2;omega
def Closed (ops:Array Oper)(listed:Array Bool):Prop:=∀(i:Nat),listed.getD i false=true->∀l,((masks ops.toList []).getD i 0).testBit l=true->listed.getD l false=true
theorem eW {ops:Array Oper}{listed:Array Bool}(hc:Closed ops listed){i:Nat}(hr:i∈Region.ready .any ops listed):∀l,((masks ops.toList []).getD i 0).testBit l=true->listed.getD l false=true:=by
 intro l hl
 obtain ⟨h0,o,ho,hall⟩:=mem_ready.1 hr
 have ho':ops.toList[i]?=some o:=by simpa using ho
 obtain ⟨pre,h1,h2⟩:=qn (bs:=[]) ho'
 rw [List.length_nil,Nat.zero_add] at h2
 rw [List.getD_eq_getElem?_getD,h2] at hl
 obtain ⟨e,he,hb,hle⟩:=lV (show (kV pre o.after.toList).testBit l=true from hl)
 have hle':=hall e (by simpa using he) hb
 rcases hle with rfl | hle
 ·exact hle'
 ·refine hc e.on hle' l ?_
  rw [List.getD_eq_getElem?_getD] at hle ⊢
  cases hp:pre[e.on]? with
  | none=>rw [hp] at hle;simp at hle
  | some b=>rw [hp] at hle;rw [h1 _ _ hp];exact hle
theorem Closed.set {ops:Array Oper}{listed:Array Bool}(hc:Closed ops listed){i:Nat}(hr:i∈Region.ready .any ops listed):Closed ops (listed.setIfInBounds i true):=by
 intro j hj l hl
 by_cases hij:i=j
 ·subst hij;exact getD_set_true (eW hc hr l hl)
 ·rw [getD_set_ne false hij] at hj
  exact getD_set_true (hc j hj l hl)
theorem ry {ops:Array Oper}{i:Nat}{o:Oper}(ho:ops[i]?=some o){K:Act->World->Prop}{Q:Exit->Act->World->Prop}{a:Act}{w:World}
  (h:if Region.wanted o (yielded ops a.tmps) then o.wp P a w K Q else K (a.put o.dst undef) w):wpOp P ops Q i K a w:=by
 unfold wpOp
 rw [ho]
 simp only
 split
 ·rename_i hw;rw [if_pos hw] at h;exact .inl h
 ·rename_i hw;rw [if_neg hw] at h;exact h
theorem jZ (hT:∀t i,E.T t=some i->gJ P E t i)(hG:∀g c,c∈E.G g->Valid P E g c)(hM:oD P E){ops:Array Oper}{Q:Exit->Act->World->Prop}{h:Nat}(hback:lE ops.toList 0=true)
  (htail:∀i,h<i->i<ops.size->∀l,l<i->((masks ops.toList []).getD i 0).testBit l=true):∀(m:Nat) {n:Nat} {A:dS} {s:St} {a:Act} {w:World} {k:St->aI} {listed:Array Bool},n+m=ops.size->h<=n->listed.size=ops.size->
  (∀j,j<ops.size->(listed.getD j true=false↔n<=j))->Closed ops listed->gU E w0 M A s a w->gT E ops.toList (ops.toList.drop n) s k=some bQ->
  (∀s' a' w' A',k s'=some bQ->gU E w0 M A' s' a' w'->A'.Z=A.Z->Q .normal a' w')->wpAny P .any ops Q m listed a w:=by
 intro m
 induction m with
 | zero=>
  intro n A s a w k listed hn hhn hls hl hc sm hr hQ
  have hd:ops.toList.drop n=[]:=by simp;omega
  rw [hd] at hr
  refine ⟨?_,hQ s a w A hr sm rfl⟩
  rw [List.eq_nil_iff_forall_not_mem]
  intro i hi
  obtain ⟨h0,o,ho,_⟩:=mem_ready.1 hi
  have hlt:=(Array.getElem?_eq_some_iff.1 ho).1
  have:=(hl i hlt).1 h0
  omega
 | succ m ih=>
  intro n A s a w k listed hn hhn hls hl hc sm hr hQ
  have hlt:n<ops.size:=by omega
  have hon:ops[n]?=some ops[n]:=Array.getElem?_eq_getElem hlt
  have hnr:n∈Region.ready .any ops listed:=by
   refine mem_ready.2 ⟨(hl n hlt).2 (Nat.le_refl _),_,hon,fun e he hb=>?_⟩
   have hlt':=jS hback (l:=n) (o:=ops[n]) (by simpa using hon) e (by simpa using he) hb
   have hne:¬listed.getD e.on true=false:=fun h=>by have:=(hl e.on (by omega)).1 h;omega
   have hin:e.on<listed.size:=by omega
   simpa [hin] using hne
  refine ⟨fun he=>(by rw [he] at hnr;cases hnr),fun i hi=>?_⟩
  have hin:i=n:=by
   obtain ⟨h0,o,ho,_⟩:=mem_ready.1 hi
   have hil:=(Array.getElem?_eq_some_iff.1 ho).1
   have hni:=(hl i hil).1 h0
   rcases Nat.lt_or_ge n i with h | h
   ·have:=eW hc hi n (htail i (by omega) hil n h)
    have h2:=(hl n hlt).2 (Nat.le_refl _)
    have hin:n<listed.size:=by omega
    simp [hin] at this h2
    rw [this] at h2;cases h2
   ·omega
  subst hin
  have hdrop:ops.toList.drop i=ops[i]::ops.toList.drop (i+1):=by
   rw [List.drop_eq_getElem_cons (by simpa using hlt)];simp
  rw [hdrop] at hr
  simp only [gT] at hr
  have next:∀{A':dS} {s':St} {a':Act} {w':World},gU E w0 M A' s' a' w'->A'.Z=A.Z->gT E ops.toList (ops.toList.drop (i+1)) s' k=some bQ->wpAny P .any ops Q m (listed.setIfInBounds i true) a' w':=by
   intro A' s' a' w' sm' hz hr'
   refine ih (n:=i+1) (by omega) (by omega) (by simpa using hls) (fun j hj=>?_) (hc.set hi) sm' hr' fun s'' a'' w'' A'' e1 e2 e3=>hQ s'' a'' w'' A'' e1 e2 (e3.trans hz)
   by_cases hij:i=j
   ·subst hij
    have :i<listed.size:=by omega
    simp [this]
   ·rw [getD_set_ne true hij,hl j hj];omega
  refine ry hon ?_
  obtain ⟨go,kn,h2,hkn,h1⟩:=pH sm hr
  rw [hkn] at h2
  cases go<;>simp only [aZ,aX] at h2
  case true=>
   rw [if_pos h1]
   exact mF hT hG hM sm h2 _ Q fun v s' cv w' A' g1 q1 q2 q3=>next (q1.put q2) q3 g1
  case false=>
   rw [if_neg (by simp [h1])]
   exact next (sm.put (v:=.undef) (cv:=undef) rfl) rfl h2
theorem gU.drew {A:dS}{s:St}{a:Act}{w:World}(sm:gU E w0 M A s a w):gU E w0 M A s a { w with drawn:=w.drawn+1 }:=by
 have hh:=sm.hp
 have st:Step A A w { w with drawn:=w.drawn+1 } (fun _=>False):=⟨rfl,fun _ h=>h,fun _ _=>rfl,Nat.le_refl _,fun _ _ _=>rfl,fun _ _ _ _=>Iff.rfl,fun r b h hn=>by
  rcases h with h | h
  ·exact h.elim
  ·exact (h (hh.xV hn)).elim⟩
 refine ⟨⟨hh.lt,hh.dj,hh.al,fun r=>(hh.rt r).step st hh (fun h=>h) (fun hd=>.inr fun b h=>?_) (fun cs _ v _=>?_),⟨hh.fr.os,hh.fr.tape,hh.fr.output,hh.fr.size,hh.fr.block⟩,hh.nm,hh.zf,hh.pn⟩,fun i x hx=>(sm.tm i x hx).step st hh (fun _ h=>h),sm.nx,sm.df,sm.sz,sm.fr.mono fun _ _ h=>h.step st hh (fun _ h=>h)⟩
 ·have:=hh.rt r;rw [hd] at this;exact this b h
 ·cases v with
  | sl d=>cases d<;>simp [indep]
  | dQ d=>cases d<;>simp [indep]
  | gG=>exact id
  | _=>trivial
theorem mB {sl:Nat->V}{D:Nat->Bool}{t:Nat}(hD:∀j,D j=false):∀{hs:List Oper} {us:List Out} {j:Nat},iQ sl D hs us j t=.dead∨iQ sl D hs us j t=sl t
 | [],us,j=>.inr rfl
 | o::os,us,j=>by
  simp only [iQ]
  cases o.dst with
  | none=>exact mB hD
  | some d=>
   simp only
   cases Nat.beq t d with
   | false=>exact mB hD
   | true=>simp only [aZ,hD j];exact .inl rfl
theorem rC {sl:Nat->V}{D:Nat->Bool}{t:Nat}:∀{hs:List Oper} {us:List Out} {j:Nat},(∀i,j<=i->i<j+hs.length->D i=true)->iQ sl D hs us j t=iQ sl always hs us j t
 | [],us,j,_=>rfl
 | o::os,us,j,h=>by
  have ih:=rC (sl:=sl) (D:=D) (t:=t) (hs:=os) (us:=us.tail) (j:=j+1) (fun i h1 h2=>h i (by omega) (by simp;omega))
  simp only [iQ,ih,h j (Nat.le_refl _) (by simp),always]
theorem oR {l:Nat}:∀{us:List Out} {j:Nat},us.length<=j->uB us j l=.dead
 | [],j,h=>rfl
 | u::us,0,h=>by simp at h
 | u::us,j+1,h=>oR (us:=us) (j:=j) (by simpa using h)
theorem min_mem:∀{rem:List Nat},rem≠[]->∃i∈rem,∀j∈rem,i<=j
 | [],h=>(h rfl).elim
 | [a],_=>⟨a,by simp,fun j hj=>by simp at hj;omega⟩
 | a::b::rem,_=>by
  obtain ⟨i,hi,hj⟩:=min_mem (rem:=b::rem) (by simp)
  by_cases h:a<=i
  ·refine ⟨a,by simp,fun j hm=>?_⟩
   rcases List.mem_cons.1 hm with rfl | hm
   ·exact Nat.le_refl _
   ·have:=hj j hm;omega
  ·refine ⟨i,List.mem_cons_of_mem _ hi,fun j hm=>?_⟩
   rcases List.mem_cons.1 hm with rfl | hm
   ·omega
   ·exact hj j hm
theorem uD {nt:Nat}{sl sl':Nat->V}(h:∀t,sl t=.dead∨sl t=sl' t){x:Operand}{v:V}(hv:fQ nt sl x=v)(hn:v≠.dead):fQ nt sl' x=v:=by
 cases x with
 | tmp t=>
  simp only [fQ,look] at hv ⊢
  cases hb:Nat.blt t nt with
  | true=>
   rw [hb] at hv
   simp only [aZ] at hv ⊢
   rcases h t with h | h
   ·rw [h] at hv;exact (hn hv.symm).elim
   ·rw [<-h];exact hv
  | false=>rw [hb] at hv;exact hv
 | const c=>exact hv
 | global g=>exact hv
 | func f=>exact hv
structure Early (E:Env)(hs:List Oper)(s:St)(us:List Out)(b:Nat)(x:Operand)(r0 q0:Nat)(cs0:List V):Prop where
 x:fQ E.nt (iQ s.sl b.testBit hs us 0) x=.cC r0 q0
 box:kA s.hp s.nx b.testBit us r0=.box cs0
theorem zF (hT:∀t i,E.T t=some i->gJ P E t i){ops:Array Oper}{hs:List Oper}{bs:List Nat}{s:St}{us:List Out}{D:Nat->Bool}{a:Act}{w:World}{i b r0 q0 g0:Nat}{o:Oper}{u:Out}{x y:Operand}{cs0:List V}
  (hi:HI E w0 M Z0 s hs us D a w) (hanc:∀j,(bs.getD i 0).testBit j=true->D j=true) (hok:oC E ops.toList hs bs s.sl s.hp s.nx i o u (us.take i))
  (he:Early E hs s us b x r0 q0 cs0) (hbD:∀j,b.testBit j=true->D j=true)
  (hl:oz E.nt (iQ s.sl (bs.getD i 0).testBit hs (us.take i) 0) r0 x y o=true) (hg:∃q,a.eval x=.pointer (some ⟨g0,q,none⟩)) :
  o.guard=none/\∃v,(execOp a.eval o).run P w=.ok (.value v) w/\∀w2:World,(∀c,c≠g0->w2.heap[c]?=w.heap[c]?)->(execOp a.eval o).run P w2=.ok (.value v) w2:=by
 obtain ⟨A,hh,tm,al,df,sz,hz,_⟩:=hi
 obtain ⟨t,kn,g1,g2,g3⟩:=hok
 have hbeg:=nK.take us i
 have hxD:fQ E.nt (iQ s.sl D hs us 0) x=.cC r0 q0:=uD (fun t=>oM (sl:=s.sl) (hs:=hs) (j:=0) (t:=t) hbD (nK.refl us)) he.x (by simp)
 have hv0:V0 E.cells w A (.cC r0 q0) (a.eval x):=by have:=vu tm sz x;rw [hxD] at this;exact this
 obtain ⟨_,gg,e1,e2⟩:=hv0
 obtain ⟨qq,hgq⟩:=hg
 obtain rfl:gg=g0:=by rw [e2] at hgq;injection hgq with h;injection h with h;injection h
 have hroot:=hh.rt r0
 rw [(rm hbD (nK.refl us)).row he.box (by simp)] at hroot
 obtain ⟨_,g',te0,cur0,m1,m2,m3,m4⟩:=hroot
 obtain rfl:gg=g':=by rw [e1] at m1;injection m1 with m1;injection m1 with m1;injection m1
 have hN0:A.N r0 gg:=(m2 gg).2 rfl
 have tm':∀i' x,a.tmps[i']?=some x->V2 E.cells w A (iQ s.sl (bs.getD i 0).testBit hs (us.take i) 0 i') x:=by
  intro i' x hx
  rcases oM (sl:=s.sl) (hs:=hs) (j:=0) (t:=i') hanc hbeg with h | h
  ·rw [h];exact trivial
  ·rw [h];exact tm i' x hx
 have ha:∀z,V2 E.cells w A (fQ E.nt (iQ s.sl (bs.getD i 0).testBit hs (us.take i) 0) z) (a.eval z):=vu tm' sz
 unfold oz at hl
 split at hl
 ·cases hl
 rename_i hgd
 split at hl
 ·cases hl
 simp only [Bool.and_eq_true] at hl
 have hl3:=hl.2.2
 refine ⟨hgd,?_⟩
 have ht:t=true:=by
  have:=g1 (fun t _=>bif t then some [] else none)
  rw [hgd] at this
  cases t with
  | true=>rfl
  | false=>simp [guarded] at this
 subst ht
 obtain ⟨_,hev⟩:=g2 rfl
 have h:=hev (kA s.hp s.nx D us) (rm hanc hbeg) (fun _ _=>some [])
 split at hl3
 ·
  rename_i z n hop
  rw [hop] at h
  simp only [bW] at h
  split at h
  ·rename_i vs hz'
   have hc:=ha z
   rw [hz'] at hc
   obtain ⟨l,h1,h2⟩:=hc
   split at h
   ·rename_i v hv
    obtain ⟨y',hy,_⟩:=h2.get hv
    exact ⟨y',by simp [execOp,hop,h1,Instr.extract,hy],fun w2 _=>by simp [execOp,hop,h1,Instr.extract,hy]⟩
   ·cases h
  ·cases h
 ·
  rename_i t z f hop
  rw [hop] at h
  have hx:=ha z
  simp only [bW] at h
  split at h
  ·cases h
  ·rename_i ti ht
   split at h
   ·cases h
   ·rename_i p hf
    obtain ⟨ii,d,zz,h1,h2,h3,h4,h5,h6,hby,h7,h8,h9,h10,hpl,h11,h12,h13,h14,h15⟩:=hT t ti ht
    cases hag:ti.agg
    case false=>rw [(h9 hag).2] at hf;simp at hf
    obtain ⟨fs,rfl,hfs⟩:=h10 hag
    obtain ⟨fl,g1,g2,g3,fi,g4⟩:=hfs f p hf
    obtain ⟨ii',d',z',k1,k2,k3,k4,k5,k6,kby,k7,k8,k9,k10,kpl,k11,k12,th,tj,k15⟩:=hT p.2 fi g4
    have hplace:∀(W:World) b q,(fieldPlace ⟨b,q,none⟩ fl).run P W=.ok ⟨b,q+p.1,none⟩ W:=by
     intro W b q
     have :ii'.size≠0:=by omega
     simp [fieldPlace,g3,gE k1,this,g2,oK]
    have hrun:∀(W:World) b q,a.eval z=.pointer (some ⟨b,q,none⟩)->(execOp a.eval o).run P W=.ok (.value (.pointer (some ⟨b,q+p.1,none⟩))) W:=by
     intro W b q he
     simp [execOp,hop,he,Instr.fieldAt,run_underlying h2,g1,Instr.sureAddr,hplace]
    split at h
    ·rename_i r q hr
     rw [hr] at hx
     obtain ⟨hal,g,f1,f2⟩:=(show V0 E.cells w A (.cC r q) (a.eval z) from hx)
     exact ⟨_,hrun w _ _ f2,fun w2 _=>hrun w2 _ _ f2⟩
    ·rename_i r sz j q hr
     rw [hr] at hx
     obtain ⟨hal,g,n,c,f1,fj,f2⟩:=(show V0 E.cells w A (.gi r sz j q) (a.eval z) from hx)
     exact ⟨_,hrun w _ _ f2,fun w2 _=>hrun w2 _ _ f2⟩
    ·rename_i dd es cs q hr
     rw [hr] at hx
     obtain ⟨hal,bb,q2,vv,f1,f2,f3⟩:=(show V0 E.cells w A (.dQ dd es cs q) (a.eval z) from hx)
     exact ⟨_,hrun w _ _ f1,fun w2 _=>hrun w2 _ _ f1⟩
    ·cases h
 ·
  rename_i z hop
  exact ⟨a.eval z,by simp [execOp,hop],fun w2 _=>by simp [execOp,hop]⟩
 ·
  rename_i t z lo hi hop
  rw [hop] at h
  have hx:=ha z
  simp only [bW,gZ] at h
  cases hz':fQ E.nt (iQ s.sl (bs.getD i 0).testBit hs (us.take i) 0) z<;>rw [hz'] at hl3 h hx<;>try (simp only at hl3;cases hl3;done)
  all_goals
   simp only at h
   split at h
   ·rename_i el hel
    obtain ⟨hu,ie,hie⟩:=iT hT hh ha hel
    obtain ⟨ii',d',z',k1,k2,k3,k4,k5,k6,kby,k7,k8,k9,k10,kpl,k11,k12,th,tj,k15⟩:=hT el ie hie
    have hcl:(E.cells el).length=ii'.size:=by rw [iF hie,k4]
    obtain ⟨dd,e,xs,q1,q2⟩:=iP hh h
    obtain ⟨q3,q4⟩:=q2 hx
    unfold qo at q1
    cases he:Nat.beq e el<;>simp only [he,aZ,aX] at q1
    ·cases q1
    obtain rfl:=Nat.eq_of_beq_eq_true he
    obtain ⟨A1,m,c,p1,p2,p3,p4⟩:=q4.inv
    have hm:xs.length=m:=p2
    subst hm
    obtain ⟨l,g1,hlo⟩:=fC hT hh ha q1
    obtain ⟨hg',g2,hhi⟩:=fC hT hh ha g1
    by_cases h0:0<=l
    ·by_cases h1:l<=hg'
     ·by_cases h2:hg'<=(xs.length:Int)
      ·have hrun:∀W:World,(execOp a.eval o).run P W=.ok (.value (.slice (if c=l.toNat then A1 else A1.map (·.add (l.toNat*(E.cells e).length))) (hg'.toNat - l.toNat) (c - l.toNat))) W:=fun W=>by
        have:=kf (P:=P) (w:=W) (b:=true) (len:=xs.length) (cap:=c) hlo hhi h0 h1 h2 p3
        simp [execOp,hop,p1,Instr.sliceAt,Instr.slice,run_underlying hu,this,gE k1,hcl]
       exact ⟨_,hrun w,fun w2 _=>hrun w2⟩
      ·simp [h0,h1,h2] at g2
     ·simp [h0,h1] at g2
    ·simp [h0] at g2
   ·cases h
 ·
  rename_i t z hop
  rw [hop] at h
  have hx:=ha z
  simp only [bW,iU] at h
  split at h
  ·cases h
  ·rename_i ti ht
   obtain ⟨ii,d,zz,h1,h2,h3,h4,h5,h6,hby,h7,h8,h9,h10,hpl,h11,h12,h13,h14,h15⟩:=hT t ti ht
   have one:∀{xs:List Value},xs.length=ti.cells.length->(∃c q,c≠gg/\a.eval z=.pointer (some ⟨c,q,none⟩)/\∀j v,xs[j]?=some v->w.cell? ⟨c,q+j,none⟩=some v)->
     ∃v,(execOp a.eval o).run P w=.ok (.value v) w/\∀w2:World,(∀c,c≠gg->w2.heap[c]?=w.heap[c]?)->(execOp a.eval o).run P w2=.ok (.value v) w2:=by
    intro xs hl' ⟨c,q,hc,he',hcell⟩
    have hl2:xs.length=ii.size:=by rw [hl',h4]
    have hagd:jg d=false->xs.length=1:=by intro hd;rw [hl2,h4];exact (h9 (by rw [<-h8];exact hd)).1
    refine ⟨mkValue (jg d) xs,?_,fun w2 hw2=>?_⟩
    ·simp [execOp,hop,he',gF h1 h2 hl2 hagd hcell]
    ·have hcell2:∀j v,xs[j]?=some v->w2.cell? ⟨c,q+j,none⟩=some v:=fun j v hj=>by rw [World.cell?_of_block (hw2 c hc)];exact hcell j v hj
     simp [execOp,hop,he',gF h1 h2 hl2 hagd hcell2]
   cases hz':fQ E.nt (iQ s.sl (bs.getD i 0).testBit hs (us.take i) 0) z<;>rw [hz'] at hl3 h hx<;>try (simp only at hl3;cases hl3;done)
   case cC r q=>
    simp only at h hl3
    obtain ⟨hal,g,f1,f2⟩:=(show V0 E.cells w A (.cC r q) (a.eval z) from hx)
    split at h
    ·rename_i cs hb
     cases hle:Nat.ble (q+ti.cells.length) cs.length<;>simp only [hle,aZ,aX] at h
     ·cases h
     have hle':=Nat.le_of_ble_eq_true hle
     have hroot:=hh.rt r
     rw [hb] at hroot
     obtain ⟨_,g',te,cur,k1,k2,k3,k4⟩:=hroot
     obtain rfl:g=g':=by rw [f1] at k1;injection k1 with k1;injection k1 with k1;injection k1
     refine one (xs:=cut cur.toList q ti.cells.length) (by rw [<-(k4.cut q ti.cells.length).length,fL hle']) ⟨g,q,?_,f2,fun j v hj=>?_⟩
     ·rintro rfl
      have :r=r0:=hh.dj r r0 _ ((k2 _).2 rfl) hN0
      subst this;simp at hl3
     ·rw [gB k3]
      simpa using (nF hj).1
    ·cases h
   case dQ dd es cs q=>
    cases dd with
    | some r=>simp only at hl3;cases hl3
    | none=>
     simp only at h
     obtain ⟨hal,c,qq,vv,f1,f2,f3⟩:=(show V0 E.cells w A (.dQ none es cs q) (a.eval z) from hx)
     cases hle:Nat.ble (q+ti.cells.length) es.length<;>simp only [hle,aZ,aX] at h
     ·cases h
     have hle':=Nat.le_of_ble_eq_true hle
     refine one (xs:=(List.range ti.cells.length).map fun j=>vv (q+j)) (by simp) ⟨c,qq+q,?_,f1,fun j v hj=>?_⟩
     ·rintro rfl;exact f2.2.2 r0 hN0
     ·have hj':j<ti.cells.length:=by
       have:=(List.getElem?_eq_some_iff.1 hj).1
       simpa using this
      simp [hj'] at hj
      obtain ⟨kk,hkk⟩:∃kk,es[q+j]?=some kk:=⟨es[q+j]'(by omega),List.getElem?_eq_getElem (by omega)⟩
      rw [Nat.add_assoc,(f3 _ _ hkk).1,hj]
 ·cases hl3
theorem tJ (hT:∀t i,E.T t=some i->gJ P E t i)(hG:∀g c,c∈E.G g->Valid P E g c){ops:Array Oper}{hs:List Oper}{bs:List Nat}{s:St}{us:List Out}{D D':Nat->Bool}{a:Act}{w:World}{i b r0 q0 g0:Nat}{o:Oper}{u:Out}{x y:Operand}{cs0:List V}
  (hf:fO (jI hs)=true) (hi:HI E w0 M Z0 s hs us D a w) (ho:hs[i]?=some o) (hops:ops[i]?=some o) (hu:us[i]?=some u) (h0:D i=false) (h1:D' i=true) (h2:∀l,l≠i->D' l=D l)
  (hanc:∀j,(bs.getD i 0).testBit j=true->D j=true) (hok:oC E ops.toList hs bs s.sl s.hp s.nx i o u (us.take i))
  (he:Early E hs s us b x r0 q0 cs0) (hbD:∀j,b.testBit j=true->D j=true)
  (hl:oz E.nt (iQ s.sl (bs.getD i 0).testBit hs (us.take i) 0) r0 x y o=true) (hg:∃q,a.eval x=.pointer (some ⟨g0,q,none⟩)) :
  ∃v,HI E w0 M Z0 s hs us D' (a.put o.dst v) w/\(a.put o.dst v).eval x=a.eval x/\(a.put o.dst v).eval y=a.eval y/\
   ∀(w2:World),(∀c,c≠g0->w2.heap[c]?=w.heap[c]?)->∀(K:Act->World->Prop) (Q:Exit->Act->World->Prop),K (a.put o.dst v) w2->wpOp P ops Q i K a w2:=by
 obtain ⟨hgd,v,hv,hv2⟩:=zF (y:=y) hT hi hanc hok he hbD hl hg
 have hstep:=nI (D':=D') hT hG hf hi ho hops hu h0 h1 h2 hanc hok (K:=fun a' w'=>HI E w0 M Z0 s hs us D' a' w') (Q:=fun _ _ _=>False) (fun a' w' h=>h)
 have hwant:Region.wanted o (yielded ops a.tmps)=true:=by simp [Region.wanted,hgd]
 have hne:∀z:Operand,(∀d,o.dst=some d->qR z d=false)->(a.put o.dst v).eval z=a.eval z:=by
  intro z hz
  refine Act.eval_put fun d hd he=>?_
  have:=hz d hd
  rw [he] at this
  simp [qR] at this
 have hxy:∀d,o.dst=some d->qR x d=false/\qR y d=false:=by
  intro d hd
  unfold oz at hl
  rw [hgd,hd] at hl
  simp only [Bool.and_eq_true,Bool.not_eq_true'] at hl
  exact ⟨hl.1,hl.2.1⟩
 refine ⟨v,?_,hne x fun d hd=>(hxy d hd).1,hne y fun d hd=>(hxy d hd).2,fun w2 hw2 K Q hK=>?_⟩
 ·unfold wpOp at hstep
  rw [hops] at hstep
  simp only [hwant,if_true] at hstep
  rcases hstep with h | ⟨_,h⟩
  ·unfold Oper.wp at h
   rw [hv] at h
   exact h
  ·obtain ⟨_,_,h⟩:=h;exact h.elim
 ·unfold wpOp
  rw [hops]
  simp only [hwant,if_true]
  left
  unfold Oper.wp
  rw [hv2 w2 hw2]
  exact hK
theorem qb {nt:Nat}{hs:List Oper}{bs:List Nat}{sl:Nat->V}{us:List Out}{r0:Nat}{x y:Operand}{m:Nat}:∀{os:List Oper} {i:Nat},rz nt hs bs sl us r0 x y m os i=true->
  ∀(l:Nat) (o:Oper),os[l]?=some o->m.testBit (i+l)=true∨oz nt (iQ sl (bs.getD (i+l) 0).testBit hs (us.take (i+l)) 0) r0 x y o=true
 | [],i,_,l,o,ho=>by simp at ho
 | o'::os,i,h,l,o,ho=>by
  simp only [rz,Bool.and_eq_true,Bool.or_eq_true] at h
  cases l with
  | zero=>simp at ho;subst ho;exact h.1
  | succ l=>
   have:=qb h.2 l o (by simpa using ho)
   rw [show i+1+l=i+(l+1) by omega] at this
   exact this
theorem xq {hs:List Oper}{bs:List Nat}{s:St}{us:List Out}{h:Nat}{o:Oper}(hb:wS E.nt hs bs s.sl s.hp s.nx us h o=true) :
  ∃t x y r0 q0 cs0,o.guard=none/\o.dst=none/\o.op=.store t x y/\Early E hs s us (bs.getD h 0) x r0 q0 cs0/\
   ∀(l:Nat) (o:Oper),hs[l]?=some o->(bs.getD h 0).testBit l=true∨oz E.nt (iQ s.sl (bs.getD l 0).testBit hs (us.take l) 0) r0 x y o=true:=by
 unfold wS at hb
 split at hb
 ·cases hb
 rename_i hg
 split at hb
 ·cases hb
 rename_i hd
 split at hb
 ·rename_i t x y hop
  split at hb
  ·rename_i r0 q0 hx
   split at hb
   ·rename_i cs0 hbx
    refine ⟨t,x,y,r0,q0,cs0,hg,hd,hop,⟨hx,hbx⟩,fun l o ho=>?_⟩
    have:=qb hb l o ho
    rwa [Nat.zero_add] at this
   ·cases hb
  ·cases hb
 ·cases hb
theorem yO (hT:∀t i,E.T t=some i->gJ P E t i){A:dS}{s:St}{a:Act}{w:World}(sm:gU E w0 M A s a w){t:TypeId}{x y:Operand}{k:V->St->aI}{r q:Nat}{cs:List V}(h:jD E (.store t x y) s k=some bQ)(hr:fQ E.nt s.sl x=.cC r q)(hcs:s.hp r=.box cs) :
  ∃g cur,(∃q',a.eval x=.pointer (some ⟨g,q',none⟩))/\(Instr.storeAt t (a.eval x) (a.eval y)).run P w=.ok () (w.setRow g cur):=by
 have hh:=sm.hp
 have hx:=sm.ev x
 simp only [jD] at h
 split at h
 ·cases h
 rename_i i ht
 obtain ⟨ii,d,z,h1,h2,h3,h4,h5,h6,hby,h7,h8,h9,h10,hpl,h11,h12,h13,h14,h15⟩:=hT t i ht
 obtain ⟨new,g1,g2⟩:=ju h
 have hy:=g2 (sm.ev y)
 cases hl:Nat.beq new.length i.cells.length<;>simp only [hl,aZ,aX] at g1
 ·cases g1
 have hl':=Nat.eq_of_beq_eq_true hl
 have hsz:(a.eval y).cells.size=ii.size:=by rw [<-Array.length_toList,<-hy.length,hl',h4]
 have hone:∀u∈(a.eval y).cells.toList,u.oneCell'=true:=by
  intro u hu
  obtain ⟨j,hj⟩:=List.getElem?_of_mem hu
  have:=hy.length
  have hjl:j<new.length:=by rw [this];exact (List.getElem?_eq_some_iff.1 hj).1
  obtain ⟨b,hb,hv⟩:=hy.get (List.getElem?_eq_getElem hjl)
  rw [hj] at hb;injection hb with hb;subst hb
  exact hv.2
 rw [hr] at g1 hx
 simp only [hcs] at g1
 cases hle:Nat.ble (q+new.length) cs.length<;>simp only [hle,aZ,aX] at g1
 ·cases g1
 have hle':=Nat.le_of_ble_eq_true hle
 obtain ⟨hal,g,e1,e2⟩:=(show V0 E.cells w A (.cC r q) (a.eval x) from hx)
 have hroot:=hh.rt r
 rw [hcs] at hroot
 obtain ⟨_,g',te,cur,m1,m2,m3,m4⟩:=hroot
 obtain rfl:g=g':=by rw [e1] at m1;injection m1 with m1;injection m1 with m1;injection m1
 have hcl:cs.length=cur.size:=by rw [m4.length,Array.length_toList]
 have hst:=jB (P:=P) (t:=t) (g:=g) (q:=q) h1 hsz hone m3 (by omega)
 rw [<-e2] at hst
 exact ⟨g,_,⟨q,e2⟩,hst⟩
theorem HI.AG {s:St}{hs:List Oper}{us:List Out}{D:Nat->Bool}{a:Act}{w:World}{h:Nat}(hi:HI E w0 M Z0 s hs us D a w)(hhs:hs.length=h)(hul:us.length=h)(hD:∀j,D j=true↔j<h) :
  ∃A1,gU E w0 M A1 { sl:=iQ s.sl always hs us 0,hp:=kA s.hp s.nx always us,nx:=s.nx+64*h,fr:=s.fr } a w/\A1.Z=Z0:=by
 obtain ⟨A1,i1,i2,i3,i4,i5,i6,i7⟩:=hi
 have hhp:kA s.hp s.nx D us=kA s.hp s.nx always us:=by
  funext r
  unfold kA
  cases Nat.blt r s.nx with
  | true=>rfl
  | false=>
   simp only [aX,always,aZ]
   by_cases hj:(r - s.nx) / 64<h
   ·rw [(hD _).2 hj];rfl
   ·have :D ((r - s.nx) / 64)=false:=by
     cases hd:D ((r - s.nx) / 64) with
     | false=>rfl
     | true=>exact absurd ((hD _).1 hd) hj
    rw [this,oR (by omega)];rfl
 refine ⟨A1,⟨by rw [<-hhp];exact i1,fun i x hx=>?_,fun r hr hal=>?_,i4,i5,i7⟩,i6⟩
 ·show V2 E.cells w A1 (iQ s.sl always hs us 0 i) x
  rw [<-rC (D:=D) (fun i _ hi=>(hD i).2 (by omega))]
  exact i2 i x hx
 ·have hr':s.nx+64*h<=r:=hr
  rcases i3 r hal with h1 | ⟨j,h1,h2,h3⟩
  ·omega
  ·have:=(hD j).1 h1;omega
theorem qc {ops:Array Oper}(hback:lE ops.toList 0=true):∀{i j:Nat},i<ops.size->((masks ops.toList []).getD i 0).testBit j=true->j<i:=by
 intro i
 induction i using Nat.strongRecOn with
 | _ i ih=>
  intro j hi hj
  have ho:ops.toList[i]?=some ops[i]:=by simp [hi]
  obtain ⟨pre,h1,h2⟩:=qn (bs:=[]) ho
  rw [List.length_nil,Nat.zero_add] at h2
  rw [List.getD_eq_getElem?_getD,h2] at hj
  obtain ⟨e,he,hb,hle⟩:=lV (show (kV pre ops[i].after.toList).testBit j=true from hj)
  have hlt:=jS hback (l:=i) (o:=ops[i]) ho e he hb
  rcases hle with rfl | hle
  ·omega
  ·have :j<e.on:=by
    refine ih e.on (by omega) (by omega) ?_
    rw [List.getD_eq_getElem?_getD] at hle ⊢
    cases hp:pre[e.on]? with
    | none=>rw [hp] at hle;simp at hle
    | some b=>rw [hp] at hle;rw [h1 _ _ hp];exact hle
   omega
theorem xE (hT:∀t i,E.T t=some i->gJ P E t i)(hG:∀g c,c∈E.G g->Valid P E g c)(hM:oD P E){ops:Array Oper}{h:Nat}{s:St}{k:St->aI}{Q:Exit->Act->World->Prop}{us:List Out}{oh:Oper}
  (hback:lE ops.toList 0=true) (hfresh:fO (jI (ops.toList.take h))=true) (hoh:ops[h]?=some oh)
  (htail:∀i,h<i->i<ops.size->∀l,l<i->((masks ops.toList []).getD i 0).testBit l=true) (g2:us.length=h)
  (g4:∀(l:Nat) (o:Oper),(ops.toList.take h)[l]?=some o->∃u,us[l]?=some u/\oC E ops.toList (ops.toList.take h) (masks ops.toList []) s.sl s.hp s.nx l o u (us.take l))
  (hb:wS E.nt (ops.toList.take h) (masks ops.toList []) s.sl s.hp s.nx us h oh=true)
  (g1:gT E ops.toList (ops.toList.drop h) { sl:=iQ s.sl always (ops.toList.take h) us 0,hp:=kA s.hp s.nx always us,nx:=s.nx+64*h,fr:=s.fr } k=some bQ)
  (hQ:∀s' a' w',k s'=some bQ->At E w0 M Z0 s' a' w'->Q .normal a' w') :
  ∀(n:Nat) (rem:List Nat) (listed:Array Bool) (D:Nat->Bool) (a:Act) (w:World),rem.length=n->rem.Nodup->(∀j∈rem,j<h)->listed.size=ops.size->(∀j,j<ops.size->(listed.getD j true=false↔(j∈rem∨h<=j)))->
   (∀j,D j=true↔(j<h/\j∉rem))->Closed ops listed->HI E w0 M Z0 s (ops.toList.take h) us D a w->wpAny P .any ops Q (n+(ops.size - h)) listed a w:=by
 have hlt:h<ops.size:=(Array.getElem?_eq_some_iff.1 hoh).1
 have hhs:(ops.toList.take h).length=h:=by simp;omega
 have hget:∀i,i<h->∃o,ops[i]?=some o/\(ops.toList.take h)[i]?=some o:=by
  intro i hi
  refine ⟨_,Array.getElem?_eq_getElem (show i<ops.size by omega),?_⟩
  rw [List.getElem?_take,if_pos hi];simp [show i<ops.size by omega]
 obtain ⟨t,x,y,r0,q0,cs0,hgd,hdst,hop,he,hlate⟩:=xq hb
 have hdrop:ops.toList.drop h=oh::ops.toList.drop (h+1):=by
  rw [List.drop_eq_getElem_cons (by simpa using hlt)]
  have:=(Array.getElem?_eq_some_iff.1 hoh).2
  simp [this]
 rw [hdrop] at g1
 simp only [gT,hgd,guarded,aZ,St.qO] at g1
 have hwant:∀a:Act,Region.wanted oh (yielded ops a.tmps)=true:=fun a=>by simp [Region.wanted,hgd]
 have setD:∀{rem:List Nat} {D:Nat->Bool} {i:Nat},rem.Nodup->i<h->(∀j,D j=true↔(j<h/\j∉rem))->i∈rem->∀j,(D j||Nat.beq j i)=true↔(j<h/\j∉rem.erase i):=by
  intro rem D i hnd hih hD him j
  rw [hnd.mem_erase_iff,Bool.or_eq_true,hD j]
  constructor
  ·rintro (⟨h1,h2⟩ | h1)
   ·exact ⟨h1,fun h=>h2 h.2⟩
   ·have:=Nat.eq_of_beq_eq_true h1
    subst this;exact ⟨hih,fun h=>h.1 rfl⟩
  ·rintro ⟨h1,h2⟩
   by_cases hji:j=i
   ·subst hji;exact .inr (by simp)
   ·exact .inl ⟨h1,fun h=>h2 ⟨hji,h⟩⟩
 have otherD:∀{D:Nat->Bool} {i l:Nat},l≠i->(D l||Nat.beq l i)=D l:=by
  intro D i l hli
  have :Nat.beq l i=false:=by
   cases hb:Nat.beq l i with
   | false=>rfl
   | true=>exact absurd (Nat.eq_of_beq_eq_true hb) hli
  simp [this]
 have notD:∀{rem:List Nat} {D:Nat->Bool},(∀j,D j=true↔(j<h/\j∉rem))->∀j∈rem,D j=false:=by
  intro rem D hD j hj
  cases hd:D j with
  | false=>rfl
  | true=>exact absurd hj ((hD j).1 hd).2
 have setL:∀{rem:List Nat} {listed:Array Bool} {i m:Nat},rem.Nodup->i<m->i<listed.size->(∀j,j<ops.size->(listed.getD j true=false↔(j∈rem∨m<=j)))->∀j,j<ops.size->((listed.setIfInBounds i true).getD j true=false↔(j∈rem.erase i∨m<=j)):=by
  intro rem listed i m hnd him his hl j hj
  by_cases hij:i=j
  ·subst hij
   simp [his,hnd.mem_erase_iff]
   omega
  ·rw [getD_set_ne true hij,hl j hj,hnd.mem_erase_iff]
   simp [Ne.symm hij]
 have unl:∀{listed:Array Bool} {j:Nat},j<listed.size->listed.getD j false=true->¬listed.getD j true=false:=by
  intro listed j hj h1 h2
  simp [hj] at h1 h2
  rw [h1] at h2;cases h2
 have inb:∀{listed:Array Bool} {j:Nat},listed.getD j false=true->j<listed.size:=by
  intro listed j hj
  rcases Nat.lt_or_ge j listed.size with h' | h'
  ·exact h'
  ·simp [Array.getElem?_eq_none h'] at hj
 have ready:∀{rem:List Nat} {listed:Array Bool} {m:Nat},m<=ops.size->h<=m->rem≠[]->(∀j∈rem,j<h)->listed.size=ops.size->(∀j,j<ops.size->(listed.getD j true=false↔(j∈rem∨m<=j)))->∃i∈rem,i∈Region.ready .any ops listed:=by
  intro rem listed m hm hhm hne hrl hls hl
  obtain ⟨i,him,hmin⟩:=min_mem hne
  have hih:=hrl i him
  obtain ⟨o,ho1,ho2⟩:=hget i hih
  refine ⟨i,him,mem_ready.2 ⟨(hl i (by omega)).2 (.inl him),o,ho1,fun e he hb=>?_⟩⟩
  have hlt:=jS hback (l:=i) (o:=o) (by simpa using ho1) e (by simpa using he) hb
  have hne:¬listed.getD e.on true=false:=fun hf=>by
   rcases (hl e.on (by omega)).1 hf with hm | hm
   ·have:=hmin _ hm;omega
   ·omega
  have hin:e.on<listed.size:=by omega
  simpa [hin] using hne
 have anc:∀{rem:List Nat} {listed:Array Bool} {D:Nat->Bool} {i m:Nat},h<=m->listed.size=ops.size->(∀j,j<ops.size->(listed.getD j true=false↔(j∈rem∨m<=j)))->(∀j,D j=true↔(j<h/\j∉rem))->Closed ops listed->i∈Region.ready .any ops listed->i<h->
   ∀j,((masks ops.toList []).getD i 0).testBit j=true->j<h->D j=true:=by
  intro rem listed D i m hhm hls hl hD hc hir hih j hj hjh
  have hjl:=eW hc hir j hj
  refine (hD j).2 ⟨hjh,fun hm=>?_⟩
  exact unl (inb hjl) hjl ((hl j (by omega)).2 (.inl hm))
 have low:∀i,i<h->∀j,((masks ops.toList []).getD i 0).testBit j=true->j<i:=fun i hi j hj=>qc hback (by omega) hj
 have fin:∀(g0:Nat) (n:Nat) (rem:List Nat) (listed:Array Bool) (D:Nat->Bool) (a:Act) (w:World),rem.length=n->rem.Nodup->(∀j∈rem,j<h)->(∀j∈rem,((masks ops.toList []).getD h 0).testBit j=false)->listed.size=ops.size->
   (∀j,j<ops.size->(listed.getD j true=false↔(j∈rem∨h<=j)))->(∀j,D j=true↔(j<h/\j∉rem))->Closed ops listed->HI E w0 M Z0 s (ops.toList.take h) us D a w->(∃q,a.eval x=.pointer (some ⟨g0,q,none⟩))->
   ∃a' D',(∀j,D' j=true↔j<h)/\HI E w0 M Z0 s (ops.toList.take h) us D' a' w/\a'.eval x=a.eval x/\a'.eval y=a.eval y:=by
  intro g0 n
  induction n with
  | zero=>
   intro rem listed D a w hn _ _ _ _ _ hD _ hi _
   have hrem:rem=[]:=List.eq_nil_of_length_eq_zero hn
   subst hrem
   exact ⟨a,D,fun j=>by rw [hD j];simp,hi,rfl,rfl⟩
  | succ n ih=>
   intro rem listed D a w hn hnd hrl hnb hls hl hD hc hi hg
   obtain ⟨i,him,hir⟩:=ready (rem:=rem) (m:=h) (by omega) (Nat.le_refl _) (by rintro rfl;simp at hn) hrl hls hl
   have hih:=hrl i him
   obtain ⟨o,ho1,ho2⟩:=hget i hih
   obtain ⟨u,hu,hok⟩:=g4 i o ho2
   have hl2:=(hlate i o ho2).resolve_left (by rw [hnb i him];simp)
   obtain ⟨v,k1,k2,k3,_⟩:=tJ (D':=fun j=>D j||Nat.beq j i) hT hG hfresh hi ho2 ho1 hu (notD hD i him) (by simp) (fun l hli=>otherD hli) (fun j hj=>anc (Nat.le_refl _) hls hl hD hc hir hih j hj (by have:=low i hih j hj;omega)) hok he
    (fun j hj=>(hD j).2 ⟨qc hback hlt hj,fun hm=>by rw [hnb j hm] at hj;cases hj⟩) hl2 hg
   obtain ⟨a',D',q1,q2,q3,q4⟩:=ih (rem.erase i) (listed.setIfInBounds i true) _ _ w (by rw [List.length_erase_of_mem him];omega) (hnd.erase i) (fun j hj=>hrl j (List.mem_of_mem_erase hj)) (fun j hj=>hnb j (List.mem_of_mem_erase hj)) (by simpa using hls) (setL hnd hih (by omega) hl) (setD hnd hih hD him) (hc.set hir) k1 (by rw [k2];exact hg)
   exact ⟨a',D',q1,q2,q3.trans k2,q4.trans k3⟩
 have behind:∀(X Y:Value) (g0:Nat) (w w2:World),(∃q,X=.pointer (some ⟨g0,q,none⟩))->(∀c,c≠g0->w2.heap[c]?=w.heap[c]?)->(∀ev:Operand->Value,ev x=X->ev y=Y->(execOp ev oh).run P w=.ok .skip w2)->
   ∀(n:Nat) (rem:List Nat) (listed:Array Bool) (D:Nat->Bool) (a:Act),rem.length=n->rem.Nodup->(∀j∈rem,j<h)->(∀j∈rem,((masks ops.toList []).getD h 0).testBit j=false)->listed.size=ops.size->
   (∀j,j<ops.size->(listed.getD j true=false↔(j∈rem∨h+1<=j)))->(∀j,D j=true↔(j<h/\j∉rem))->Closed ops listed->HI E w0 M Z0 s (ops.toList.take h) us D a w->a.eval x=X->a.eval y=Y->
   wpAny P .any ops Q (n+(ops.size - (h+1))) listed a w2:=by
  intro X Y g0 w w2 hX hw2 hst n
  induction n with
  | zero=>
   intro rem listed D a hn _ _ _ hls hl hD hc hi hx hy
   have hrem:rem=[]:=List.eq_nil_of_length_eq_zero hn
   subst hrem
   obtain ⟨A1,sm1,hz1⟩:=hi.AG hhs g2 (fun j=>by rw [hD j];simp)
   have h3:=mF hT hG hM sm1 g1 (fun a' w'=>∃(v:V) (s':St) (A':dS),gT E ops.toList (ops.toList.drop (h+1)) (s'.put oh.dst v) k=some bQ/\gU E w0 M A' (s'.put oh.dst v) a' w'/\A'.Z=A1.Z) (fun _ _ _=>False) (fun v s' cv w' A' e1 q1 q2 q3=>⟨v,s',A',e1,q1.put q2,q3⟩)
   unfold Oper.wp at h3
   rw [hst a.eval hx hy] at h3
   obtain ⟨v,s',A2,e1,sm2,hz2⟩:=(show ∃(v:V) (s':St) (A':dS),gT E ops.toList (ops.toList.drop (h+1)) (s'.put oh.dst v) k=some bQ/\gU E w0 M A' (s'.put oh.dst v) (a.put oh.dst undef) w2/\A'.Z=A1.Z from h3)
   rw [hdst] at sm2 e1
   rw [Nat.zero_add]
   exact jZ hT hG hM (h:=h) hback htail (ops.size - (h+1)) (n:=h+1) (by omega) (by omega) hls (fun j hj=>by rw [hl j hj];simp) hc sm2 e1 fun s'' a'' w'' A'' f1 f2 f3=>hQ s'' a'' w'' f1 ⟨A'',f2,f3.trans (hz2.trans hz1)⟩
  | succ n ih=>
   intro rem listed D a hn hnd hrl hnb hls hl hD hc hi hx hy
   rw [show n+1+(ops.size - (h+1))=(n+(ops.size - (h+1)))+1 by omega]
   have hne:rem≠[]:=by rintro rfl;simp at hn
   refine ⟨fun he'=>?_,fun i hir=>?_⟩
   ·obtain ⟨i,_,hir⟩:=ready (rem:=rem) (m:=h+1) (by omega) (by omega) hne hrl hls hl
    rw [he'] at hir;cases hir
   ·obtain ⟨h0,o',ho',_⟩:=mem_ready.1 hir
    have hil:=(Array.getElem?_eq_some_iff.1 ho').1
    have him:i∈rem:=by
     rcases (hl i hil).1 h0 with hm | hm
     ·exact hm
     ·obtain ⟨j,hjm,_⟩:=min_mem hne
      have hjh:=hrl j hjm
      have h1:=eW hc hir j (htail i (by omega) hil j (by omega))
      exact (unl (inb h1) h1 ((hl j (by omega)).2 (.inl hjm))).elim
    have hih:=hrl i him
    obtain ⟨o,ho1,ho2⟩:=hget i hih
    obtain ⟨u,hu,hok⟩:=g4 i o ho2
    have hl2:=(hlate i o ho2).resolve_left (by rw [hnb i him];simp)
    obtain ⟨v,k1,k2,k3,k4⟩:=tJ (D':=fun j=>D j||Nat.beq j i) hT hG hfresh hi ho2 ho1 hu (notD hD i him) (by simp) (fun l hli=>otherD hli) (fun j hj=>anc (Nat.le_succ h) hls hl hD hc hir hih j hj (by have:=low i hih j hj;omega)) hok he
     (fun j hj=>(hD j).2 ⟨qc hback hlt hj,fun hm=>by rw [hnb j hm] at hj;cases hj⟩) hl2 (by rw [hx];exact hX)
    exact k4 w2 hw2 _ Q (ih (rem.erase i) (listed.setIfInBounds i true) _ _ (by rw [List.length_erase_of_mem him];omega) (hnd.erase i) (fun j hj=>hrl j (List.mem_of_mem_erase hj)) (fun j hj=>hnb j (List.mem_of_mem_erase hj)) (by simpa using hls) (setL hnd (by omega) (by omega) hl) (setD hnd hih hD him) (hc.set hir) k1 (k2.trans hx) (k3.trans hy))
 intro n
 induction n with
 | zero=>
  intro rem listed D a w hn _ _ hls hl hD hc hi
  have hrem:rem=[]:=List.eq_nil_of_length_eq_zero hn
  subst hrem
  obtain ⟨A1,sm1,hz1⟩:=hi.AG hhs g2 (fun j=>by rw [hD j];simp)
  rw [Nat.zero_add]
  refine jZ hT hG hM (h:=h) hback htail (ops.size - h) (n:=h) (by omega) (Nat.le_refl _) hls (fun j hj=>by rw [hl j hj];simp) hc sm1 (k:=k) ?_ fun s' a' w' A' e1 e2 e3=>hQ s' a' w' e1 ⟨A',e2,e3.trans hz1⟩
  rw [hdrop]
  simp only [gT,hgd,guarded,aZ,St.qO]
  exact g1
 | succ n ih=>
  intro rem listed D a w hn hnd hrl hls hl hD hc hi
  rw [show n+1+(ops.size - h)=(n+(ops.size - h))+1 by omega]
  have hne:rem≠[]:=by rintro rfl;simp at hn
  refine ⟨fun he'=>?_,fun i hir=>?_⟩
  ·obtain ⟨i,_,hir⟩:=ready (rem:=rem) (m:=h) (by omega) (Nat.le_refl _) hne hrl hls hl
   rw [he'] at hir;cases hir
  ·obtain ⟨h0,o',ho',_⟩:=mem_ready.1 hir
   have hil:=(Array.getElem?_eq_some_iff.1 ho').1
   by_cases him:i∈rem
   ·have hih:=hrl i him
    obtain ⟨o,ho1,ho2⟩:=hget i hih
    obtain ⟨u,hu,hok⟩:=g4 i o ho2
    refine nI (D':=fun j=>D j||Nat.beq j i) hT hG hfresh hi ho2 ho1 hu (notD hD i him) (by simp) (fun l hli=>otherD hli) (fun j hj=>anc (Nat.le_refl _) hls hl hD hc hir hih j hj (by have:=low i hih j hj;omega)) hok fun a' w' hi'=>?_
    exact ih (rem.erase i) _ _ a' w' (by rw [List.length_erase_of_mem him];omega) (hnd.erase i) (fun j hj=>hrl j (List.mem_of_mem_erase hj)) (by simpa using hls) (setL hnd hih (by omega) hl) (setD hnd hih hD him) (hc.set hir) hi'
   ·have hih:h<=i:=((hl i hil).1 h0).resolve_left him
    have hi2:i=h:=by
     rcases Nat.lt_or_ge h i with hlt' | hge
     ·have h1:=eW hc hir h (htail i hlt' hil h hlt')
      exact (unl (inb h1) h1 ((hl h hlt).2 (.inr (Nat.le_refl _)))).elim
     ·omega
    subst hi2
    have hnb:∀j∈rem,((masks ops.toList []).getD i 0).testBit j=false:=by
     intro j hj
     cases hb:((masks ops.toList []).getD i 0).testBit j with
     | false=>rfl
     | true=>
      have h1:=eW hc hir j hb
      exact (unl (inb h1) h1 ((hl j (by have:=hrl j hj;omega)).2 (.inl hj))).elim
    have hbD:∀j,((masks ops.toList []).getD i 0).testBit j=true->D j=true:=fun j hj=>(hD j).2 ⟨qc hback hlt hj,fun hm=>by rw [hnb j hm] at hj;cases hj⟩
    have hX:∃g0 q,a.eval x=.pointer (some ⟨g0,q,none⟩):=by
     obtain ⟨A,_,tm,_,_,sz,_⟩:=hi
     have hxD:fQ E.nt (iQ s.sl D (ops.toList.take i) us 0) x=.cC r0 q0:=uD (fun t=>oM (sl:=s.sl) (j:=0) (t:=t) hbD (nK.refl us)) he.x (by simp)
     have:=vu tm sz x
     rw [hxD] at this
     obtain ⟨_,g0,_,e2⟩:=(show V0 E.cells w A (.cC r0 q0) (a.eval x) from this)
     exact ⟨g0,q0,e2⟩
    obtain ⟨g0,hX⟩:=hX
    obtain ⟨a',D',q1,q2,q3,q4⟩:=fin g0 (n+1) rem listed D a w hn hnd hrl hnb hls hl hD hc hi hX
    obtain ⟨A1,sm1,hz1⟩:=q2.AG hhs g2 q1
    have hx1:fQ E.nt (iQ s.sl always (ops.toList.take i) us 0) x=.cC r0 q0:=uD (fun t=>oM (sl:=s.sl) (j:=0) (t:=t) (fun _ _=>rfl) (nK.refl us)) he.x (by simp)
    have hb1:kA s.hp s.nx always us r0=.box cs0:=(rm (fun _ _=>rfl) (nK.refl us)).row he.box (by simp)
    have g1':=g1
    unfold wj at g1'
    rw [hop] at g1'
    simp only [Cw,aZ] at g1'
    obtain ⟨g,cur,⟨q',f1⟩,f2⟩:=yO hT sm1 g1' hx1 hb1
    have hgg:g=g0:=by
     obtain ⟨q,hX⟩:=hX
     rw [q3,hX] at f1;injection f1 with f1;injection f1 with f1;injection f1 with f1;exact f1.symm
    subst hgg
    have hst:∀ev:Operand->Value,ev x=a.eval x->ev y=a.eval y->(execOp ev oh).run P w=.ok .skip (w.setRow g cur):=by
     intro ev e1 e2
     rw [q3,q4] at f2
     simp [execOp,hop,e1,e2,f2]
    refine ry hoh ?_
    rw [if_pos (hwant a)]
    unfold Oper.wp
    rw [hst a.eval rfl rfl]
    show wpAny P .any ops Q (n+(ops.size - i)) (listed.setIfInBounds i true) (a.put oh.dst undef) (w.setRow g cur)
    rw [hdst,show n+(ops.size - i)=(n+1)+(ops.size - (i+1)) by omega]
    refine behind (a.eval x) (a.eval y) g w (w.setRow g cur) hX (fun c hc=>setRow_other _ _ _ _ hc) hst (n+1) rem (listed.setIfInBounds i true) D a hn hnd hrl hnb (by simpa using hls) (fun j hj=>?_) hD (hc.set hir) hi rfl rfl
    by_cases hij:i=j
    ·subst hij
     have :i<listed.size:=by omega
     simp [this,him]
    ·rw [getD_set_ne true hij,hl j hj]
     constructor
     ·rintro (hm | hm)
      ·exact .inl hm
      ·exact .inr (by omega)
     ·rintro (hm | hm)
      ·exact .inl hm
      ·exact .inr (by omega)
theorem qm (h i:Nat):lg h (lg h i)=i:=by
 unfold lg
 cases h1:Nat.beq i h with
 | true=>
  have:=Nat.eq_of_beq_eq_true h1;subst this
  have h2:Nat.beq (i+1) i=false:=by cases hb:Nat.beq (i+1) i with | false=>rfl | true=>have:=Nat.eq_of_beq_eq_true hb;omega
  simp [h2]
 | false=>
  cases h2:Nat.beq i (h+1) with
  | true=>have:=Nat.eq_of_beq_eq_true h2;subst this;simp
  | false=>simp [h1,h2]
theorem yE (h i:Nat):lg (h+1) (i+1)=lg h i+1:=by
 unfold lg
 have e1:Nat.beq (i+1) (h+1)=Nat.beq i h:=rfl
 have e2:Nat.beq (i+1) (h+1+1)=Nat.beq i (h+1):=rfl
 rw [e1,e2]
 cases Nat.beq i h<;>cases Nat.beq i (h+1)<;>rfl
theorem wF {α:Type}:∀{h:Nat} {l:List α},h+1<l.length->∀i,(yC h l)[lg h i]?=l[i]?
 | 0,a::b::l,_,i=>by
  match i with
  | 0=>rfl
  | 1=>rfl
  | i+2=>rfl
 | 0,[a],hl,_=>by simp at hl
 | 0,[],hl,_=>by simp at hl
 | h+1,[],hl,_=>by simp at hl
 | h+1,a::l,hl,0=>rfl
 | h+1,a::l,hl,i+1=>by
  rw [yE]
  simp only [yC,List.getElem?_cons_succ]
  exact wF (by simpa using hl) i
theorem mP {α:Type}:∀(h:Nat) (l:List α),(yC h l).length=l.length
 | 0,[]=>rfl
 | 0,[_]=>rfl
 | 0,_::_::_=>rfl
 | _+1,[]=>rfl
 | h+1,a::l=>by simp [yC,mP h l]
theorem yf {h i n:Nat}(hn:h+1<n):lg h i<n↔i<n:=by
 unfold lg
 cases h1:Nat.beq i h with
 | true=>have:=Nat.eq_of_beq_eq_true h1;subst this;simp;omega
 | false=>
  cases h2:Nat.beq i (h+1) with
  | true=>have:=Nat.eq_of_beq_eq_true h2;subst this;simp;omega
  | false=>simp
theorem yM {ops ops':Array Oper}{h:Nat}{Q:Exit->Act->World->Prop}(hlt:h+1<ops.size)(hsz:ops'.size=ops.size)(hget:∀i,ops'[lg h i]?=(ops[i]?).map (wC h)) :
  ∀(n:Nat) (listed listed':Array Bool) (a:Act) (w:World),listed.size=ops.size->listed'.size=ops.size->(∀j,listed'[lg h j]?=listed[j]?)->
   wpAny P .any ops' Q n listed' a w->wpAny P .any ops Q n listed a w:=by
 have rdy:∀{listed listed':Array Bool},(∀j,listed'[lg h j]?=listed[j]?)->∀i,i∈Region.ready .any ops listed↔lg h i∈Region.ready .any ops' listed':=by
  intro listed listed' hl i
  have hd:∀j b,listed'.getD (lg h j) b=listed.getD j b:=fun j b=>by rw [Array.getD_eq_getD_getElem?,Array.getD_eq_getD_getElem?,hl]
  rw [mem_ready,mem_ready,hd,hget]
  refine and_congr_right fun _=>⟨?_,?_⟩
  ·rintro ⟨o,ho,hall⟩
   refine ⟨wC h o,by rw [ho];rfl,fun e he hb=>?_⟩
   simp only [wC,List.mem_toArray,List.mem_map] at he
   obtain ⟨e0,he0,rfl⟩:=he
   show listed'.getD (lg h e0.on) false=true
   rw [hd];exact hall e0 (by simpa using he0) hb
  ·rintro ⟨o',ho',hall⟩
   cases ho:ops[i]? with
   | none=>rw [ho] at ho';cases ho'
   | some o=>
    rw [ho] at ho'
    injection ho' with ho'
    subst ho'
    refine ⟨o,rfl,fun e he hb=>?_⟩
    have:=hall (B3 h e) (by simp only [wC,List.mem_toArray,List.mem_map];exact ⟨e,by simpa using he,rfl⟩) hb
    rw [show (B3 h e).on=lg h e.on from rfl,hd] at this
    exact this
 have yld:∀(tmps:Array Value) j,yielded ops' tmps (lg h j)=yielded ops tmps j:=by
  intro tmps j
  unfold yielded
  rw [hget]
  cases ops[j]?<;>rfl
 have wnt:∀(o:Oper) (tmps:Array Value),Region.wanted (wC h o) (yielded ops' tmps)=Region.wanted o (yielded ops tmps):=by
  intro o tmps
  unfold Region.wanted
  cases hg:o.guard with
  | none=>simp [wC,BV,hg]
  | some p=>simp only [wC,BV,hg,yld]
 intro n
 induction n with
 | zero=>
  intro listed listed' a w _ _ hl hw
  refine ⟨?_,hw.2⟩
  rw [List.eq_nil_iff_forall_not_mem]
  intro i hi
  have:=(rdy hl i).1 hi
  rw [hw.1] at this;cases this
 | succ n ih=>
  intro listed listed' a w h1 h2 hl hw
  refine ⟨fun he=>hw.1 ?_,fun i hi=>?_⟩
  ·rw [List.eq_nil_iff_forall_not_mem]
   intro i hi
   have:=(rdy hl (lg h i)).2 (by rw [qm];exact hi)
   rw [he] at this;cases this
  ·have h3:=hw.2 _ ((rdy hl i).1 hi)
   have hK:∀a w,wpAny P .any ops' Q n (listed'.setIfInBounds (lg h i) true) a w->wpAny P .any ops Q n (listed.setIfInBounds i true) a w:=by
    intro a w hk
    refine ih _ _ a w (by simpa using h1) (by simpa using h2) (fun j=>?_) hk
    rw [Array.getElem?_setIfInBounds,Array.getElem?_setIfInBounds,hl]
    by_cases hij:i=j
    ·subst hij
     simp only [if_true,h1,h2,yf hlt]
    ·rw [if_neg hij,if_neg fun e=>hij (by rw [<-qm h i,e,qm])]
   unfold wpOp at h3 ⊢
   rw [hget] at h3
   cases ho:ops[i]? with
   | none=>rw [ho] at h3;exact hK _ _ h3
   | some o=>
    rw [ho] at h3
    simp only [Option.map_some,wnt] at h3 ⊢
    split
    ·rename_i hwt
     rw [if_pos hwt] at h3
     exact h3.imp (fun h=>Oper.wp_mono hK (show o.wp P a w _ Q from h)) id
    ·rename_i hwt
     rw [if_neg hwt] at h3
     exact hK _ _ h3
theorem vw {f:V->V}{d:Nat}{v:V}{l:List V}:∀{n i:Nat} {sl:Nat->V},i<=d->d<i+n->jO ((eF (upd sl d v) i n++l).map f)=upd (jO ((eF sl i n++l).map f)) (d - i) (f v)
 | 0,i,sl,h1,h2=>by omega
 | n+1,i,sl,h1,h2=>by
  funext j
  simp only [eF,List.cons_append,List.map_cons]
  by_cases hd:d=i
  ·subst hd
   have :eF (upd sl d v) (d+1) n=eF sl (d+1) n:=by
    have :∀{n i:Nat},d<i->eF (upd sl d v) i n=eF sl i n:=by
     intro n
     induction n with
     | zero=>intros;rfl
     | succ n ih=>intro i hi;simp only [eF];rw [bB _ _ (by omega),ih (by omega)]
    exact this (by omega)
   rw [this,bG,Nat.sub_self]
   cases j with
   | zero=>rfl
   | succ j=>rfl
  ·have ih:=vw (f:=f) (v:=v) (l:=l) (sl:=sl) (n:=n) (i:=i+1) (d:=d) (by omega) (by omega)
   cases j with
   | zero=>
    rw [bB _ _ (by omega:(0:Nat)≠d - i)]
    simp only [jO]
    rw [bB _ _ (by omega:i≠d)]
   | succ j=>
    simp only [jO]
    rw [ih]
    unfold upd
    have :Nat.beq (j+1) (d - i)=Nat.beq j (d - (i+1)):=by
     rw [show d - i=(d - (i+1))+1 by omega];rfl
    rw [this]
theorem ue {f:V->V}{l:List V}:∀(n i:Nat) (sl sl':Nat->V),((eF sl i n++l).map f).drop n=((eF sl' i n++l).map f).drop n
 | 0,_,_,_=>rfl
 | n+1,i,sl,sl'=>by
  simp only [eF,List.cons_append,List.map_cons,List.drop_succ_cons]
  exact ue n (i+1) sl sl'
theorem vM (hI:∀g c,c∈E.I g->gI P E E.np g c){o:Op}{s:St}{d R:Nat}{zs:List V}{k:V->St->aI}(h:jv E o s k=some bQ)(hl:qW E (fQ E.nt s.sl) d o=true)(hd:d<E.nt)(hdead:s.sl d=.dead)(hR:s.hp R=.dead)(hRn:R<s.nx)(hz:∀z∈zs,∀rs,kg rs z=z) :
  ∃v s2,k v s2=some bQ/\∀k':V->St->aI,jv E o ⟨upd s.sl d (.cC R 0),upd s.hp R (.box zs),s.nx,s.fr⟩ k'=k' v ⟨upd s2.sl d (.cC R 0),upd s2.hp R (.box zs),s2.nx,s2.fr⟩:=by
 cases o<;>first | (simp only [qW] at hl;cases hl;done) | skip
 rename_i cc
 obtain ⟨callee,args,argTypes⟩:=cc
 cases callee<;>first | (simp only [qW] at hl;cases hl;done) | skip
 rename_i f
 simp only [qW,Bool.and_eq_true] at hl
 obtain ⟨hargs,hl⟩:=hl
 have hx:∀x∈args.toList,fQ E.nt (upd s.sl d (.cC R 0)) x=fQ E.nt s.sl x:=by
  intro x hxm
  have:=List.all_eq_true.1 hargs x hxm
  cases x with
  | tmp t=>
   simp only [fQ,look]
   rw [bB _ _ (fun e=>by subst e;simp [qR] at this)]
  | const c=>rfl
  | func g=>rfl
  | global g=>rfl
 have hmap:args.toList.map (fQ E.nt (upd s.sl d (.cC R 0)))=args.toList.map (fQ E.nt s.sl):=List.map_congr_left hx
 have fin:∀(c:kD) (vs:List V),zM c->c.run vs { s with fr:=eF s.sl 0 E.nt++s.fr } (fun v s'=>k v { s' with sl:=jO s'.fr,fr:=s'.fr.drop E.nt })=some bQ->
   ∃v s2,k v s2=some bQ/\∀k':V->St->aI,c.run vs ⟨upd s.sl d (.cC R 0),upd s.hp R (.box zs),s.nx,eF (upd s.sl d (.cC R 0)) 0 E.nt++s.fr⟩ (fun v s'=>k' v { s' with sl:=jO s'.fr,fr:=s'.fr.drop E.nt })=k' v ⟨upd s2.sl d (.cC R 0),upd s2.hp R (.box zs),s2.nx,s2.fr⟩:=by
  intro c vs hb hc
  obtain ⟨rs,v,hp2,nx2,h1,h2⟩:=hb _ _ _ _ hc
  refine ⟨v,_,h1,fun k'=>?_⟩
  rw [h2 R zs hR hRn hz (upd s.sl d (.cC R 0)) (eF (upd s.sl d (.cC R 0)) 0 E.nt++s.fr)]
  have e1:=vw (f:=iI rs) (v:=.cC R 0) (l:=s.fr) (sl:=s.sl) (n:=E.nt) (i:=0) (d:=d) (Nat.zero_le _) (by omega)
  have e2:=ue (f:=iI rs) (l:=s.fr) E.nt 0 (upd s.sl d (.cC R 0)) s.sl
  simp only
  rw [e1,e2]
  rfl
 cases f<;>first | (simp only [jv] at h;cases h;done) | skip
 case tmp t=>
  simp only [jv] at h ⊢
  split at h
  ·rename_i g caps hf
   rw [hf] at hl
   have hf':fQ E.nt (upd s.sl d (.cC R 0)) (.tmp t)=.fn g caps:=by
    simp only [fQ,look] at hf ⊢
    rw [bB _ _ (fun e=>by subst e;rw [hdead] at hf;cases hb:Nat.blt t E.nt<;>rw [hb] at hf<;>cases hf)]
    exact hf
   rw [hf',hmap]
   simp only at hl ⊢
   split at h
   ·rename_i c cs hcs
    rw [hcs] at hl
    exact fin c _ ((hI g c (by rw [hcs];simp)).2.2 hl).1 h
   ·cases h
  ·cases h
 case func g=>
  simp only [jv] at h ⊢
  rw [hmap]
  simp only [fQ] at hl
  split at h
  ·rename_i c cs hcs
   rw [hcs] at hl
   exact fin c _ ((hI g c (by rw [hcs];simp)).2.2 hl).1 h
  ·cases h
theorem xz (hT:∀t i,E.T t=some i->gJ P E t i)(hG:∀g c,c∈E.G g->Valid P E g c)(hM:oD P E){ops:Array Oper}{h:Nat}{s:St}{k:St->aI}{Q:Exit->Act->World->Prop}{A:dS}{a:Act}{w:World}
  (hback:lE ops.toList 0=true) (htb:nN ((masks ops.toList []).drop (h+2)) (h+2)=true) (hfresh:fO (jI (ops.toList.take (h+1)))=true) (hmask:(masks ops.toList []).getD (h+1) 0=2^h - 1)
  (hr:rD E ops.toList h (masks ops.toList []) s k=some bQ) (sm:gU E w0 M A s a w) (hz:A.Z=Z0)
  (hQ:∀s' a' w',k s'=some bQ->At E w0 M Z0 s' a' w'->Q .normal a' w'):wpAny P .any ops Q ops.size (Array.replicate ops.size false) a w:=by
 unfold rD at hr
 split at hr
 ·cases hr
 rename_i oa hoa
 split at hr
 ·cases hr
 rename_i oc hoc
 split at hr
 ·cases hr
 rename_i d hd
 obtain ⟨hcond,hr⟩:=eH hr
 simp only [Bool.and_eq_true,Bool.not_eq_true',Option.isNone_iff_eq_none] at hcond
 obtain ⟨hal,⟨hnM,hisI⟩,hga,hgc,hdn,hne⟩:=hcond
 have hdn':d<E.nt:=Nat.blt_eq.mp hdn
 have hoa':ops[h]?=some oa:=by simpa using hoa
 have hoc':ops[h+1]?=some oc:=by simpa using hoc
 have hlt:h+1<ops.size:=(Array.getElem?_eq_some_iff.1 hoc').1
 have hhs:(ops.toList.take (h+1)).length=h+1:=by simp;omega
 have hsa:(ops.toList.take (h+1))[h]?=some oa:=by rw [List.getElem?_take,if_pos (Nat.lt_succ_self h)];exact hoa
 obtain ⟨us,g1,g2,_,g4⟩:=kP (us:=[]) (i:=0) hfresh (nK.take _ _) (by omega) rfl hr
 simp only [Nat.zero_add,hhs] at g2 g4
 obtain ⟨hlate,g1⟩:=eH g1
 obtain ⟨ty,hop⟩:∃ty,oa.op=.alloc ty:=by
  cases ho:oa.op<;>rw [ho] at hal<;>first | exact ⟨_,rfl⟩ | cases hal
 obtain ⟨u,hu,t0,kn,q1,q2,_⟩:=g4 h oa hsa
 have ht0:t0=true:=by
  have:=q1 (fun t _=>bif t then some [] else none)
  rw [hga] at this
  cases t0 with
  | true=>rfl
  | false=>simp [guarded] at this
 subst ht0
 obtain ⟨_,hev⟩:=q2 rfl
 obtain ⟨ti,hti⟩:∃ti,E.T ty=some ti:=by
  cases ht:E.T ty with
  | some i=>exact ⟨i,rfl⟩
  | none=>
   have:=hev _ (fun _=>.inl rfl) (fun _ _=>some [])
   rw [hop] at this
   simp [bW,ht] at this
 have hzs:∀z∈ti.cells.map zeroV,∀rs,kg rs z=z:=by
  intro z hz rs
  obtain ⟨c,_,rfl⟩:=List.mem_map.1 hz
  cases c<;>rfl
 generalize hzz:ti.cells.map zeroV=zs at hzs
 have hallq:∀(ρ:Operand->V) hp0 (k':V->List aW->aI),bW E oa.op ρ hp0 (s.nx+64*h) k'=k' (.cC (s.nx+64*h) 0) [.box zs]:=by
  intro ρ hp0 k'
  rw [hop]
  simp only [bW,hti,hzz]
 have huv:u.v=.cC (s.nx+64*h) 0/\u.rs=[.box zs]:=by
  have:=hev _ (fun _=>.inl rfl) (open Classical in fun v rs=>if v=.cC (s.nx+64*h) 0/\rs=[.box zs] then some [] else none)
  rw [hallq] at this
  simp only [and_self,if_true] at this
  exact Classical.byContradiction fun hn=>by rw [if_neg hn] at this;cases this
 have hhead:wN (us.drop h)=.cC (s.nx+64*h) 0:=by
  rw [<-huv.1]
  have :us.drop h=u::us.drop (h+1):=by
   rw [List.drop_eq_getElem_cons (by omega)]
   congr 1
   exact Option.some.inj ((List.getElem?_eq_getElem (by omega)).symm.trans hu)
  rw [this];rfl
 have hbox:uB us h 0=.box zs:=by rw [rG hu,huv.2];rfl
 rw [hhead,hbox] at g1
 have mb:∀j,(2^h - 1).testBit j=true↔j<h:=fun j=>by rw [Nat.testBit_two_pow_sub_one];simp
 have mbh:(2^h - 1).testBit h=false:=by rw [Nat.testBit_two_pow_sub_one];simp
 have htail:∀i,h+1<i->i<ops.size->∀l,l<i->((masks ops.toList []).getD i 0).testBit l=true:=by
  intro i h1 h2 l hl
  have hlen:i<(masks ops.toList []).length:=by rw [jJ];simp;exact h2
  have hg:=List.getElem?_eq_getElem hlen
  have:=nu htb (l:=i - (h+2)) (b:=(masks ops.toList [])[i]) (by rw [List.getElem?_drop,show h+2+(i - (h+2))=i by omega];exact hg)
  rw [List.getD_eq_getElem?_getD,hg,Option.getD_some,this,show h+2+(i - (h+2))=i by omega,Nat.testBit_two_pow_sub_one]
  simpa using hl
 have hget:∀i,i<h+1->∃o,ops[i]?=some o/\(ops.toList.take (h+1))[i]?=some o:=by
  intro i hi
  refine ⟨_,Array.getElem?_eq_getElem (show i<ops.size by omega),?_⟩
  rw [List.getElem?_take,if_pos hi];simp [show i<ops.size by omega]
 have hnT:Cw oc.op=false:=by
  unfold qW at hlate
  split at hlate
  ·rename_i ho;rw [ho];rfl
  ·cases hlate
 obtain ⟨f,args,argTypes,hocop⟩:∃f args argTypes,oc.op=.call ⟨.value f,args,argTypes⟩:=by
  unfold qW at hlate
  split at hlate
  ·rename_i f args at' ho;exact ⟨f,args,at',ho⟩
  ·cases hlate
 have hwant:∀a:Act,Region.wanted oc (yielded ops a.tmps)=true:=fun a=>by simp [Region.wanted,hgc]
 have hwanta:∀a:Act,Region.wanted oa (yielded ops a.tmps)=true:=fun a=>by simp [Region.wanted,hga]
 have hdrop1:ops.toList.drop (h+1)=oc::ops.toList.drop (h+2):=by
  rw [List.drop_eq_getElem_cons (by simpa using hlt)]
  have:=(Array.getElem?_eq_some_iff.1 hoc').2
  simp [this]
 have hsd:iQ s.sl (2^h - 1).testBit (ops.toList.take (h+1)) us 0 d=.dead:=by
  rw [sL hd hfresh hsa hu,Nat.zero_add,mbh];rfl
 have hRd:kA s.hp s.nx (2^h - 1).testBit us (s.nx+64*h)=.dead:=by
  unfold kA
  have :Nat.blt (s.nx+64*h) s.nx=false:=by
   cases hb:Nat.blt (s.nx+64*h) s.nx with
   | false=>rfl
   | true=>have:=Nat.blt_eq.mp hb;omega
  rw [this]
  simp only [aX]
  rw [show (s.nx+64*h - s.nx) / 64=h by omega,mbh];rfl
 have hslF:iQ s.sl always (ops.toList.take (h+1)) us 0=upd (iQ s.sl (2^h - 1).testBit (ops.toList.take (h+1)) us 0) d (.cC (s.nx+64*h) 0):=by
  funext t
  have e1:=vh (sl:=s.sl) (D:=(2^h - 1).testBit) (D':=fun j=>(2^h - 1).testBit j||Nat.beq j h) (t:=t) (j:=0) hfresh hsa hu (by simp) (fun l hl=>by
   have :Nat.beq l h=false:=by cases hb:Nat.beq l h with | false=>rfl | true=>have:=Nat.eq_of_beq_eq_true hb;omega
   simp [this])
  have e2:=rC (sl:=s.sl) (D:=fun j=>(2^h - 1).testBit j||Nat.beq j h) (t:=t) (hs:=ops.toList.take (h+1)) (us:=us) (j:=0) (fun i _ hi=>by
   rw [Bool.or_eq_true,mb]
   by_cases hih:i=h
   ·subst hih;exact .inr (by simp)
   ·exact .inl (by omega))
  rw [<-e2,e1,hd,huv.1]
  unfold upd
  by_cases htd:d=t
  ·subst htd;simp
  ·rw [if_neg (by simpa using htd)]
   have :Nat.beq t d=false:=by cases hb:Nat.beq t d with | false=>rfl | true=>exact absurd (Nat.eq_of_beq_eq_true hb).symm htd
   rw [this];rfl
 have hhpF:kA s.hp s.nx always us=upd (kA s.hp s.nx (2^h - 1).testBit us) (s.nx+64*h) (.box zs):=by
  have e1:=uX (hp:=s.hp) (nx:=s.nx) (D:=(2^h - 1).testBit) (D':=fun j=>(2^h - 1).testBit j||Nat.beq j h) hu (by rw [huv.2];simp) mbh (by simp) (fun l hl=>by
   have :Nat.beq l h=false:=by cases hb:Nat.beq l h with | false=>rfl | true=>have:=Nat.eq_of_beq_eq_true hb;omega
   simp [this])
  rw [huv.2] at e1
  simp only [eA] at e1
  rw [<-e1]
  funext r
  unfold kA
  cases Nat.blt r s.nx with
  | true=>rfl
  | false=>
   simp only [aX,always,aZ]
   by_cases hj:(r - s.nx) / 64<h+1
   ·have :((2^h - 1).testBit ((r - s.nx) / 64)||Nat.beq ((r - s.nx) / 64) h)=true:=by
     rw [Bool.or_eq_true,mb]
     by_cases hih:(r - s.nx) / 64=h
     ·rw [hih];exact .inr (by simp)
     ·exact .inl (by omega)
    rw [this];rfl
   ·rw [oR (by omega)]
    cases ((2^h - 1).testBit ((r - s.nx) / 64)||Nat.beq ((r - s.nx) / 64) h)<;>rfl
 have hfull:gT E ops.toList (ops.toList.drop (h+1)) { sl:=iQ s.sl always (ops.toList.take (h+1)) us 0,hp:=kA s.hp s.nx always us,nx:=s.nx+64*(h+1),fr:=s.fr } k=some bQ:=by
  obtain ⟨v,s2,e1,e2⟩:=vM hM.2 (s:={ sl:=iQ s.sl (2^h - 1).testBit (ops.toList.take (h+1)) us 0,hp:=kA s.hp s.nx (2^h - 1).testBit us,nx:=s.nx+64*(h+1),fr:=s.fr }) (R:=s.nx+64*h) (zs:=zs) g1 hlate hdn' hsd hRd (by show s.nx+64*h<s.nx+64*(h+1);omega) hzs
  rw [hdrop1]
  simp only [gT,hgc,guarded,aZ,St.qO,wj,hnT,hnM,hisI,aX]
  rw [hslF,hhpF]
  rw [e2]
  rw [<-e1]
  congr 1
  unfold St.put
  cases hdc:oc.dst with
  | none=>rfl
  | some e=>
   rw [hdc] at hne
   simp only
   congr 1
   funext t
   unfold upd
   cases h1:Nat.beq t e with
   | false=>rfl
   | true=>
    have:=Nat.eq_of_beq_eq_true h1
    subst this
    have :Nat.beq t d=false:=by simpa using hne
    rw [this];rfl
 have setD:∀{rem:List Nat} {D:Nat->Bool} {i:Nat},rem.Nodup->i<h+1->(∀j,D j=true↔(j<h+1/\j∉rem))->i∈rem->∀j,(D j||Nat.beq j i)=true↔(j<h+1/\j∉rem.erase i):=by
  intro rem D i hnd hih hD him j
  rw [hnd.mem_erase_iff,Bool.or_eq_true,hD j]
  constructor
  ·rintro (⟨h1,h2⟩ | h1)
   ·exact ⟨h1,fun h=>h2 h.2⟩
   ·have:=Nat.eq_of_beq_eq_true h1
    subst this;exact ⟨hih,fun h=>h.1 rfl⟩
  ·rintro ⟨h1,h2⟩
   by_cases hji:j=i
   ·subst hji;exact .inr (by simp)
   ·exact .inl ⟨h1,fun h=>h2 ⟨hji,h⟩⟩
 have otherD:∀{D:Nat->Bool} {i l:Nat},l≠i->(D l||Nat.beq l i)=D l:=by
  intro D i l hli
  have :Nat.beq l i=false:=by
   cases hb:Nat.beq l i with
   | false=>rfl
   | true=>exact absurd (Nat.eq_of_beq_eq_true hb) hli
  simp [this]
 have notD:∀{rem:List Nat} {D:Nat->Bool},(∀j,D j=true↔(j<h+1/\j∉rem))->∀j∈rem,D j=false:=by
  intro rem D hD j hj
  cases hd:D j with
  | false=>rfl
  | true=>exact absurd hj ((hD j).1 hd).2
 have setL:∀{rem:List Nat} {listed:Array Bool} {i m:Nat},rem.Nodup->i<m->i<listed.size->(∀j,j<ops.size->(listed.getD j true=false↔(j∈rem∨m<=j)))->∀j,j<ops.size->((listed.setIfInBounds i true).getD j true=false↔(j∈rem.erase i∨m<=j)):=by
  intro rem listed i m hnd him his hl j hj
  by_cases hij:i=j
  ·subst hij
   simp [his,hnd.mem_erase_iff]
   omega
  ·rw [getD_set_ne true hij,hl j hj,hnd.mem_erase_iff]
   simp [Ne.symm hij]
 have unl:∀{listed:Array Bool} {j:Nat},j<listed.size->listed.getD j false=true->¬listed.getD j true=false:=by
  intro listed j hj h1 h2
  simp [hj] at h1 h2
  rw [h1] at h2;cases h2
 have inb:∀{listed:Array Bool} {j:Nat},listed.getD j false=true->j<listed.size:=by
  intro listed j hj
  rcases Nat.lt_or_ge j listed.size with h' | h'
  ·exact h'
  ·simp [Array.getElem?_eq_none h'] at hj
 have ready:∀{rem:List Nat} {listed:Array Bool} {m:Nat},m<=ops.size->h+1<=m->rem≠[]->(∀j∈rem,j<h+1)->listed.size=ops.size->(∀j,j<ops.size->(listed.getD j true=false↔(j∈rem∨m<=j)))->∃i∈rem,i∈Region.ready .any ops listed:=by
  intro rem listed m hm hhm hne hrl hls hl
  obtain ⟨i,him,hmin⟩:=min_mem hne
  have hih:=hrl i him
  obtain ⟨o,ho1,ho2⟩:=hget i hih
  refine ⟨i,him,mem_ready.2 ⟨(hl i (by omega)).2 (.inl him),o,ho1,fun e he hb=>?_⟩⟩
  have hlt:=jS hback (l:=i) (o:=o) (by simpa using ho1) e (by simpa using he) hb
  have hne:¬listed.getD e.on true=false:=fun hf=>by
   rcases (hl e.on (by omega)).1 hf with hm | hm
   ·have:=hmin _ hm;omega
   ·omega
  have hin:e.on<listed.size:=by omega
  simpa [hin] using hne
 have anc:∀{rem:List Nat} {listed:Array Bool} {D:Nat->Bool} {i:Nat},listed.size=ops.size->(∀j,j<ops.size->(listed.getD j true=false↔(j∈rem∨h+1<=j)))->(∀j,D j=true↔(j<h+1/\j∉rem))->Closed ops listed->i∈Region.ready .any ops listed->
   ∀j,((masks ops.toList []).getD i 0).testBit j=true->j<h+1->D j=true:=by
  intro rem listed D i hls hl hD hc hir j hj hjh
  have hjl:=eW hc hir j hj
  refine (hD j).2 ⟨hjh,fun hm=>?_⟩
  exact unl (inb hjl) hjl ((hl j (by omega)).2 (.inl hm))
 have late:∀(listed:Array Bool) (D:Nat->Bool) (a:Act) (w:World),listed.size=ops.size->(∀j,j<ops.size->(listed.getD j true=false↔(j=h∨h+2<=j)))->Closed ops listed->(∀j,D j=true↔j<h)->
   HI E w0 M Z0 s (ops.toList.take (h+1)) us D a w->oc.wp P a w (fun a w=>wpAny P .any ops Q (ops.size - (h+1)) listed a w) Q:=by
  intro listed D a w hls hl hc hD ⟨A1,i1,i2,i3,i4,i5,i6,i7⟩
  have hDe:D=(2^h - 1).testBit:=by
   funext j
   rw [Bool.eq_iff_iff,hD,mb]
  rw [hDe] at i1 i2 i3
  have hnR:¬A1.al (s.nx+64*h):=by
   intro ha
   rcases i3 _ ha with h1 | ⟨j,h1,h2,h3⟩
   ·omega
   ·have:=(mb j).1 h1;omega
  have sm1:gU E w0 M A1 { sl:=iQ s.sl (2^h - 1).testBit (ops.toList.take (h+1)) us 0,hp:=kA s.hp s.nx (2^h - 1).testBit us,nx:=s.nx+64*(h+1),fr:=s.fr } a w:=by
   refine ⟨i1,i2,fun r hr ha=>?_,i4,i5,i7⟩
   have hr':s.nx+64*(h+1)<=r:=hr
   rcases i3 r ha with h1 | ⟨j,h1,h2,h3⟩
   ·omega
   ·have:=(mb j).1 h1;omega
  refine qH (X:=AP) sm1 hocop g1 (fun g c hc hfg=>⟨(hM.2 g c hc).1,fun cs hcs=>((hM.2 g c hc).2.2 ?_).2⟩) _ Q ?_
  ·obtain ⟨caps,hfg⟩:=hfg
   rw [hocop] at hlate
   simp only [qW,Bool.and_eq_true] at hlate
   have hl2:=hlate.2
   rw [hfg] at hl2
   simp only [hcs] at hl2
   exact hl2
  ·intro v s' cv w' A' e1 e2 e3 e4 ⟨e5,e6⟩
   have hnR':¬A'.al (s.nx+64*h):=fun ha=>(e6 _ ha).elim hnR fun hle=>by
    have :s.nx+64*(h+1)<=s.nx+64*h:=hle
    omega
   have sm2:=e2.put (d:=oc.dst) e3
   rw [show ops.size - (h+1)=(ops.size - (h+2))+1 by omega]
   obtain ⟨i,him,hir⟩:=ready (rem:=[h]) (listed:=listed) (m:=h+2) (by omega) (by omega) (by simp) (by simp) hls (fun j hj=>by rw [hl j hj];simp)
   obtain rfl:i=h:=by simpa using him
   refine ⟨fun he=>(by rw [he] at hir;cases hir),fun l hlr=>?_⟩
   obtain rfl:l=i:=by
    obtain ⟨h0,o',ho',_⟩:=mem_ready.1 hlr
    have hll:=(Array.getElem?_eq_some_iff.1 ho').1
    rcases (hl l hll).1 h0 with hm | hm
    ·exact hm
    ·have h1:=eW hc hlr i (htail l (by omega) hll i (by omega))
     exact (unl (inb h1) h1 ((hl i (by omega)).2 (.inl rfl))).elim
   refine ry hoa' ?_
   rw [if_pos (hwanta _)]
   obtain ⟨v2,rs2,k1,k2⟩:=mE (o:=oa) (M:=M) (w0:=w0) (nx:=s.nx+64*l) (k:=fun v rs=>open Classical in if v=.cC (s.nx+64*l) 0/\rs=[.box zs] then some bQ else none) hT hG sm2.hp sm2.ev (bQ:=bQ) (by rw [hallq];simp)
   simp only at k1
   split at k1
   case isFalse=>cases k1
   rename_i hvr
   obtain ⟨rfl,rfl⟩:=hvr
   refine k2 (fun r hr1 hr2=>?_) _ Q fun cv2 w2 A2 f1 f2 f3 f4=>?_
   ·have :r=s.nx+64*l:=by simp at hr2;omega
    rw [this];exact hnR'
   ·have sm3:gU E w0 M A2 { sl:=(s'.put oc.dst v).sl,hp:=upd s'.hp (s.nx+64*l) (.box zs),nx:=s'.nx,fr:=s'.fr } (a.put oc.dst cv) w2:=by
     have hput:(s'.put oc.dst v).hp=s'.hp/\(s'.put oc.dst v).fr=s'.fr/\(s'.put oc.dst v).nx=s'.nx:=by cases oc.dst<;>exact ⟨rfl,rfl,rfl⟩
     refine ⟨?_,fun i x hx=>(sm2.tm i x hx).step f2 sm2.hp (fun _ h=>h),fun r hr ha=>?_,sm2.df,sm2.sz,?_⟩
     ·rw [hput.1] at f1;exact f1
     ·rcases f4 r ha with h1 | h1
      ·exact e2.nx r hr h1
      ·have e5':s.nx+64*(l+1)<=s'.nx:=e5
       have hr':s'.nx<=r:=hr
       have:=h1.2
       simp at this
       omega
     ·have:=sm2.fr.mono fun _ _ h=>h.step f2 sm2.hp (fun _ h=>h)
      rw [hput.2.1] at this;exact this
    have sm4:=sm3.put (d:=some d) f3
    rw [hd]
    refine jZ hT hG hM (h:=l+1) hback htail (ops.size - (l+2)) (n:=l+2) (by omega) (by omega) (by simpa using hls) (fun j hj=>?_) (hc.set hlr) sm4 e1 fun s'' a'' w'' A'' h1 h2 h3=>hQ s'' a'' w'' h1 ⟨A'',h2,h3.trans (f2.Z.trans (e4.trans i6))⟩
    by_cases hij:l=j
    ·subst hij
     have :l<listed.size:=by omega
     simp [this]
    ·rw [getD_set_ne true hij,hl j hj];omega
 have main:∀(n:Nat) (rem:List Nat) (listed:Array Bool) (D:Nat->Bool) (a:Act) (w:World),rem.length=n->rem.Nodup->(∀j∈rem,j<h+1)->listed.size=ops.size->(∀j,j<ops.size->(listed.getD j true=false↔(j∈rem∨h+1<=j)))->
   (∀j,D j=true↔(j<h+1/\j∉rem))->Closed ops listed->HI E w0 M Z0 s (ops.toList.take (h+1)) us D a w->wpAny P .any ops Q (n+(ops.size - (h+1))) listed a w:=by
  intro n
  induction n with
  | zero=>
   intro rem listed D a w hn _ _ hls hl hD hc hi
   have hrem:rem=[]:=List.eq_nil_of_length_eq_zero hn
   subst hrem
   obtain ⟨A1,sm1,hz1⟩:=hi.AG hhs g2 (fun j=>by rw [hD j];simp)
   rw [Nat.zero_add]
   exact jZ hT hG hM (h:=h+1) hback htail (ops.size - (h+1)) (n:=h+1) (by omega) (Nat.le_refl _) hls (fun j hj=>by rw [hl j hj];simp) hc sm1 hfull fun s' a' w' A' e1 e2 e3=>hQ s' a' w' e1 ⟨A',e2,e3.trans hz1⟩
  | succ n ih=>
   intro rem listed D a w hn hnd hrl hls hl hD hc hi
   rw [show n+1+(ops.size - (h+1))=(n+(ops.size - (h+1)))+1 by omega]
   have hner:rem≠[]:=by rintro rfl;simp at hn
   refine ⟨fun he'=>?_,fun i hir=>?_⟩
   ·obtain ⟨i,_,hir⟩:=ready (rem:=rem) (m:=h+1) (by omega) (Nat.le_refl _) hner hrl hls hl
    rw [he'] at hir;cases hir
   ·obtain ⟨h0,o',ho',_⟩:=mem_ready.1 hir
    have hil:=(Array.getElem?_eq_some_iff.1 ho').1
    by_cases him:i∈rem
    ·have hih:=hrl i him
     obtain ⟨o,ho1,ho2⟩:=hget i hih
     obtain ⟨u,hu,hok⟩:=g4 i o ho2
     refine nI (D':=fun j=>D j||Nat.beq j i) hT hG hfresh hi ho2 ho1 hu (notD hD i him) (by simp) (fun l hli=>otherD hli) (fun j hj=>anc hls hl hD hc hir j hj (by have:=qc hback hil hj;omega)) hok fun a' w' hi'=>?_
     exact ih (rem.erase i) _ _ a' w' (by rw [List.length_erase_of_mem him];omega) (hnd.erase i) (fun j hj=>hrl j (List.mem_of_mem_erase hj)) (by simpa using hls) (setL hnd hih (by omega) hl) (setD hnd hih hD him) (hc.set hir) hi'
    ·have hih:h+1<=i:=((hl i hil).1 h0).resolve_left him
     have hi2:i=h+1:=by
      rcases Nat.lt_or_ge (h+1) i with hlt' | hge
      ·have h1:=eW hc hir (h+1) (htail i hlt' hil (h+1) hlt')
       exact (unl (inb h1) h1 ((hl (h+1) hlt).2 (.inr (Nat.le_refl _)))).elim
      ·omega
     subst hi2
     have hsub:∀j∈rem,j=h:=by
      intro j hj
      have h1:=hrl j hj
      rcases Nat.lt_or_ge j h with h2 | h2
      ·have h3:=eW hc hir j (by rw [hmask];exact (mb j).2 h2)
       exact (unl (inb h3) h3 ((hl j (by omega)).2 (.inl hj))).elim
      ·omega
     have hrem:rem=[h]:=by
      cases rem with
      | nil=>exact (hner rfl).elim
      | cons x xs=>
       have hx:=hsub x (by simp)
       subst hx
       cases xs with
       | nil=>rfl
       | cons y ys=>
        have hy:=hsub y (by simp)
        subst hy
        simp at hnd
     subst hrem
     have hn0:n=0:=by simp at hn;exact hn
     subst hn0
     refine ry hoc' ?_
     rw [if_pos (hwant a)]
     rw [Nat.zero_add]
     refine late _ D a w (by simpa using hls) (fun j hj=>?_) (hc.set hir) (fun j=>by rw [hD j];simp;omega) hi
     by_cases hij:h+1=j
     ·subst hij
      have :h+1<listed.size:=by omega
      simp [this]
     ·rw [getD_set_ne true hij,hl j hj]
      simp
      omega
 have hfin:=main (h+1) (List.range (h+1)) (Array.replicate ops.size false) (fun _=>false) a w (by simp) List.nodup_range (fun j hj=>by simpa using hj) (by simp) (fun j hj=>by simp [hj];omega) (fun j=>by simp) (fun i hi=>by
   by_cases hlt:i<ops.size<;>simp [hlt] at hi) ⟨A,?_,fun i x hx=>?_,fun r hr=>.inl (Nat.lt_of_not_le fun hle=>sm.nx r hle hr),sm.df,sm.sz,hz,sm.fr⟩
 ·rw [show h+1+(ops.size - (h+1))=ops.size by omega] at hfin
  exact hfin
 ·have :kA s.hp s.nx (fun _=>false) us=s.hp:=by
   funext r
   unfold kA
   cases hb:Nat.blt r s.nx with
   | true=>rfl
   | false=>
    simp only [aX]
    refine (sm.hp.al r (sm.nx r ?_)).symm
    exact Nat.le_of_not_lt fun h=>by rw [Nat.blt_eq.mpr h] at hb;cases hb
  rw [this];exact sm.hp
 ·rcases mB (sl:=s.sl) (D:=fun _=>false) (t:=i) (fun _=>rfl) (hs:=ops.toList.take (h+1)) (us:=us) (j:=0) with h | h
  ·rw [h];exact trivial
  ·rw [h];exact sm.tm i x hx
theorem wW (hT:∀t i,E.T t=some i->gJ P E t i)(hG:∀g c,c∈E.G g->Valid P E g c)(hM:oD P E)(hmix:P.follows .mixedOrders=true):ny P E w0 M Z0 bQ:=by
 intro id ops s k Q a w hr ⟨A,sm,hz⟩ hQ
 unfold uZ at hr
 simp only at hr
 cases hb:(lE ops.toList 0&&(nN ((masks ops.toList []).drop (gv E ops.toList ops.toList)) (gv E ops.toList ops.toList)&&fO (jI (ops.toList.take (gv E ops.toList ops.toList)))))<;>simp only [hb,aZ,aX] at hr
 ·clear hb
  cases hb:(lE ops.toList 0&&(nN ((masks ops.toList []).drop (gv E ops.toList ops.toList+1)) (gv E ops.toList ops.toList+1)&&fO (jI (ops.toList.take (gv E ops.toList ops.toList)))))<;>simp only [hb,aZ,aX] at hr
  ·clear hb
   obtain ⟨hb,hr⟩:=eH hr
   simp only [Bool.and_eq_true] at hb
   obtain ⟨hback,htb,hfresh,hmask⟩:=hb
   have hlen:gv E ops.toList ops.toList+1<ops.size:=by
    refine Nat.lt_of_not_le fun hle=>?_
    unfold rD at hr
    rw [show (Bo (gv E ops.toList ops.toList) ops.toList)[gv E ops.toList ops.toList+1]?=none from List.getElem?_eq_none (by simp [Bo,mP];omega)] at hr
    split at hr<;>cases hr
   generalize gv E ops.toList ops.toList=h at hback htb hfresh hmask hr hlen
   have hsz:(Bo h ops.toList).length=ops.size:=by simp [Bo,mP]
   refine wp_region_any hmix (yM (ops':=⟨Bo h ops.toList⟩) hlen (by simpa using hsz) (fun i=>?_) _ _ (Array.replicate ops.size false) _ _ (by simp) (by simp) (fun j=>?_) ?_)
   ·have:=wF (l:=ops.toList) (by simpa using hlen) i
    simp only [Bo,List.getElem?_toArray,List.getElem?_map,this]
    simp
   ·rw [Array.getElem?_replicate,Array.getElem?_replicate]
    simp only [yf hlen]
   ·have key:=xz (P:=P) (ops:=⟨Bo h ops.toList⟩) (h:=h) hT hG hM (Q:=Q) hback htb hfresh (Nat.eq_of_beq_eq_true hmask) hr sm.drew hz hQ
    rw [show (⟨Bo h ops.toList⟩:Array Oper).size=ops.size by simpa using hsz] at key
    exact key
  simp only [Bool.and_eq_true] at hb
  obtain ⟨hback,htb,hfresh⟩:=hb
  split at hr
  ·cases hr
  rename_i oh hoh
  revert hr htb hfresh hoh
  generalize gv E ops.toList ops.toList=h
  intro htb hfresh hoh hr
  have hoh':ops[h]?=some oh:=by simpa using hoh
  have hlt:h<ops.size:=(Array.getElem?_eq_some_iff.1 hoh').1
  have hhs:(ops.toList.take h).length=h:=by simp;omega
  obtain ⟨us,g1,g2,_,g4⟩:=kP (us:=[]) (i:=0) hfresh (nK.take _ _) (by omega) rfl hr
  simp only [Nat.zero_add,hhs] at g2 g4
  cases hlb:wS E.nt (ops.toList.take h) (masks ops.toList []) s.sl s.hp s.nx us h oh<;>simp only [hlb,aZ,aX] at g1
  ·cases g1
  have htail:∀i,h<i->i<ops.size->∀l,l<i->((masks ops.toList []).getD i 0).testBit l=true:=by
   intro i h1 h2 l hl
   have hlen:i<(masks ops.toList []).length:=by rw [jJ];simp;exact h2
   have hg:=List.getElem?_eq_getElem hlen
   have:=nu htb (l:=i - (h+1)) (b:=(masks ops.toList [])[i]) (by rw [List.getElem?_drop,show h+1+(i - (h+1))=i by omega];exact hg)
   rw [List.getD_eq_getElem?_getD,hg,Option.getD_some,this,show h+1+(i - (h+1))=i by omega,Nat.testBit_two_pow_sub_one]
   simpa using hl
  refine wp_region_any hmix ?_
  have sm1:=sm.drew
  have hfin:=xE hT hG hM (Z0:=Z0) hback hfresh hoh' htail g2 g4 hlb g1 hQ h (List.range h) (Array.replicate ops.size false) (fun _=>false) a { w with drawn:=w.drawn+1 } (by simp) List.nodup_range (fun j hj=>by simpa using hj) (by simp) (fun j hj=>by simp [hj];omega) (fun j=>by simp) (fun i hi=>by
   by_cases hlt:i<ops.size<;>simp [hlt] at hi) ⟨A,?_,fun i x hx=>?_,fun r hr=>.inl (Nat.lt_of_not_le fun hle=>sm1.nx r hle hr),sm1.df,sm1.sz,hz,sm1.fr⟩
  ·rw [show h+(ops.size - h)=ops.size by omega] at hfin
   exact hfin
  ·have :kA s.hp s.nx (fun _=>false) us=s.hp:=by
    funext r
    unfold kA
    cases hb:Nat.blt r s.nx with
    | true=>rfl
    | false=>
     simp only [aX]
     refine (sm.hp.al r (sm.nx r ?_)).symm
     exact Nat.le_of_not_lt fun h=>by rw [Nat.blt_eq.mpr h] at hb;cases hb
   rw [this];exact sm1.hp
  ·rcases mB (sl:=s.sl) (D:=fun _=>false) (t:=i) (fun _=>rfl) (hs:=ops.toList.take h) (us:=us) (j:=0) with h | h
   ·rw [h];exact trivial
   ·rw [h];exact sm1.tm i x hx
 simp only [Bool.and_eq_true] at hb
 obtain ⟨hback,htb,hfresh⟩:=hb
 have hle:gv E ops.toList ops.toList<=ops.size:=by
  rw [<-Array.length_toList]
  generalize ops.toList=all
  have :∀l:List Oper,gv E all l<=l.length:=by
   intro l
   induction l with
   | nil=>exact Nat.le_refl _
   | cons o l ih=>
    simp only [gv,List.length_cons]
    cases ((Cw o.op&&!wI all o.op)||(CT E o.op||CE E o.op))
    ·simp only [aX];omega
    ·simp only [aZ];omega
  exact this all
 revert hr htb hfresh hle
 generalize hh:gv E ops.toList ops.toList=h
 intro hr htb hfresh hle
 have hhs:(ops.toList.take h).length=h:=by simp;omega
 obtain ⟨us,g1,g2,_,g4⟩:=kP (us:=[]) (i:=0) hfresh (nK.take _ _) (by omega) rfl hr
 simp only [Nat.zero_add,hhs] at g2 g4
 have htail:∀i,h<=i->i<ops.size->∀l,l<i->((masks ops.toList []).getD i 0).testBit l=true:=by
  intro i h1 h2 l hl
  have hlen:i<(masks ops.toList []).length:=by rw [jJ];simp;exact h2
  have hg:=List.getElem?_eq_getElem hlen
  have:=nu htb (l:=i - h) (b:=(masks ops.toList [])[i]) (by rw [List.getElem?_drop,show h+(i - h)=i by omega];exact hg)
  rw [List.getD_eq_getElem?_getD,hg,Option.getD_some,this,show h+(i - h)=i by omega,Nat.testBit_two_pow_sub_one]
  simpa using hl
 have hget:∀i,i<h->∃o,ops[i]?=some o/\(ops.toList.take h)[i]?=some o:=by
  intro i hi
  refine ⟨_,Array.getElem?_eq_getElem (show i<ops.size by omega),?_⟩
  rw [List.getElem?_take,if_pos hi];simp [show i<ops.size by omega]
 refine wp_region_any hmix ?_
 have head:∀(n:Nat) (rem:List Nat) (listed:Array Bool) (D:Nat->Bool) (a:Act) (w:World),rem.length=n->rem.Nodup->(∀j∈rem,j<h)->listed.size=ops.size->(∀j,j<ops.size->(listed.getD j true=false↔(j∈rem∨h<=j)))->
   (∀j,D j=true↔(j<h/\j∉rem))->Closed ops listed->HI E w0 M Z0 s (ops.toList.take h) us D a w->wpAny P .any ops Q (n+(ops.size - h)) listed a w:=by
  intro n
  induction n with
  | zero=>
   intro rem listed D a w hn _ _ hls hl hD hc ⟨A1,i1,i2,i3,i4,i5,i6,i7⟩
   have hrem:rem=[]:=List.eq_nil_of_length_eq_zero hn
   subst hrem
   have hDh:∀j,D j=true↔j<h:=fun j=>by rw [hD j];simp
   have hhp:kA s.hp s.nx D us=kA s.hp s.nx always us:=by
    funext r
    unfold kA
    cases Nat.blt r s.nx with
    | true=>rfl
    | false=>
     simp only [aX,always,aZ]
     by_cases hj:(r - s.nx) / 64<h
     ·rw [(hDh _).2 hj];rfl
     ·have :D ((r - s.nx) / 64)=false:=by
       cases hd:D ((r - s.nx) / 64) with
       | false=>rfl
       | true=>exact absurd ((hDh _).1 hd) hj
      rw [this,oR (by omega)];rfl
   have sm1:gU E w0 M A1 { sl:=iQ s.sl always (ops.toList.take h) us 0,hp:=kA s.hp s.nx always us,nx:=s.nx+64*h,fr:=s.fr } a w:=by
    refine ⟨by rw [<-hhp];exact i1,fun i x hx=>?_,fun r hr hal=>?_,i4,i5,i7⟩
    ·show V2 E.cells w A1 (iQ s.sl always (ops.toList.take h) us 0 i) x
     rw [<-rC (D:=D) (fun i _ hi=>(hDh i).2 (by rw [hhs] at hi;omega))]
     exact i2 i x hx
    ·have hr':s.nx+64*h<=r:=hr
     rcases i3 r hal with h1 | ⟨j,h1,h2,h3⟩
     ·omega
     ·have:=(hDh j).1 h1;omega
   rw [Nat.zero_add]
   refine jZ hT hG hM (h:=h) hback (fun i hi=>htail i (Nat.le_of_lt hi)) (ops.size - h) (n:=h) (by omega) (Nat.le_refl _) hls (fun j hj=>by rw [hl j hj];simp) hc sm1 g1 fun s' a' w' A' e1 e2 e3=>hQ s' a' w' e1 ⟨A',e2,e3.trans i6⟩
  | succ n ih=>
   intro rem listed D a w hn hnd hrl hls hl hD hc hi
   have hfuel:n+1+(ops.size - h)=(n+(ops.size - h))+1:=by omega
   rw [hfuel]
   have notD:∀j∈rem,D j=false:=by
    intro j hj
    cases hd:D j with
    | false=>rfl
    | true=>exact absurd hj ((hD j).1 hd).2
   have hlistD:∀j,listed.getD j false=true->j<h->D j=true:=by
    intro j hj hjh
    refine (hD j).2 ⟨hjh,fun hm=>?_⟩
    have:=(hl j (by omega)).2 (.inl hm)
    have hin:j<listed.size:=by omega
    simp [hin] at this hj
    rw [hj] at this;cases this
   refine ⟨fun he=>?_,fun i hir=>?_⟩
   ·
    obtain ⟨i,him,hmin⟩:=min_mem (rem:=rem) (by rintro rfl;simp at hn)
    have hih:=hrl i him
    obtain ⟨o,ho1,ho2⟩:=hget i hih
    have :i∈Region.ready .any ops listed:=by
     refine mem_ready.2 ⟨(hl i (by omega)).2 (.inl him),o,ho1,fun e he hb=>?_⟩
     have hlt:=jS hback (l:=i) (o:=o) (by simpa using ho1) e (by simpa using he) hb
     have hne:¬listed.getD e.on true=false:=fun hf=>by
      rcases (hl e.on (by omega)).1 hf with hm | hm
      ·have:=hmin _ hm;omega
      ·omega
     have hin:e.on<listed.size:=by omega
     simpa [hin] using hne
    rw [he] at this;cases this
   ·obtain ⟨h0,o,ho,_⟩:=mem_ready.1 hir
    have hil:=(Array.getElem?_eq_some_iff.1 ho).1
    have him:i∈rem:=by
     rcases (hl i hil).1 h0 with hm | hm
     ·exact hm
     ·
      obtain ⟨j,hjm,_⟩:=min_mem (rem:=rem) (by rintro rfl;simp at hn)
      have hjh:=hrl j hjm
      have h1:=eW hc hir j (htail i hm hil j (by omega))
      have h2:=(hl j (by omega)).2 (.inl hjm)
      have hin:j<listed.size:=by omega
      simp [hin] at h1 h2
      rw [h1] at h2;cases h2
    have hih:=hrl i him
    obtain ⟨o',ho1,ho2⟩:=hget i hih
    rw [ho] at ho1;injection ho1 with ho1;subst ho1
    obtain ⟨u,hu,hok⟩:=g4 i o ho2
    refine nI (D':=fun j=>D j||Nat.beq j i) hT hG hfresh hi ho2 ho hu (notD i him) (by simp) (fun l hli=>?_) (fun j hj=>?_) hok fun a' w' hi'=>?_
    ·have :Nat.beq l i=false:=by
      cases hb:Nat.beq l i with
      | false=>rfl
      | true=>exact absurd (Nat.eq_of_beq_eq_true hb) hli
     simp [this]
    ·have hjl:=eW hc hir j hj
     refine hlistD j hjl ?_
     rcases Nat.lt_or_ge j h with hlt | hge
     ·exact hlt
     ·exfalso
      have hin:j<listed.size:=by
       rcases Nat.lt_or_ge j listed.size with h' | h'
       ·exact h'
       ·simp [Array.getElem?_eq_none h'] at hjl
      have:=(hl j (by omega)).2 (.inr hge)
      simp [hin] at this hjl
      rw [hjl] at this;cases this
    ·refine ih (rem.erase i) _ _ a' w' (by rw [List.length_erase_of_mem him];omega) (hnd.erase i) (fun j hj=>hrl j (List.mem_of_mem_erase hj)) (by simpa using hls) (fun j hj=>?_) (fun j=>?_) (hc.set hir) hi'
     ·by_cases hij:i=j
      ·subst hij
       have :i<listed.size:=by omega
       simp [this,hnd.mem_erase_iff]
       omega
      ·rw [getD_set_ne true hij,hl j hj,hnd.mem_erase_iff]
       simp [Ne.symm hij]
     ·rw [hnd.mem_erase_iff,Bool.or_eq_true,hD j]
      constructor
      ·rintro (⟨h1,h2⟩ | h1)
       ·exact ⟨h1,fun h=>h2 h.2⟩
       ·have:=Nat.eq_of_beq_eq_true h1
        subst this;exact ⟨hih,fun h=>h.1 rfl⟩
      ·rintro ⟨h1,h2⟩
       by_cases hji:j=i
       ·subst hji;exact .inr (by simp)
       ·exact .inl ⟨h1,fun h=>h2 ⟨hji,h⟩⟩
 have sm1:=sm.drew
 have hfin:=head h (List.range h) (Array.replicate ops.size false) (fun _=>false) a { w with drawn:=w.drawn+1 } (by simp) List.nodup_range (fun j hj=>by simpa using hj) (by simp) (fun j hj=>by simp [hj];omega) (fun j=>by simp) (fun i hi=>by
  by_cases hlt:i<ops.size<;>simp [hlt] at hi) ⟨A,?_,fun i x hx=>?_,fun r hr=>.inl (Nat.lt_of_not_le fun hle=>sm1.nx r hle hr),sm1.df,sm1.sz,hz,sm1.fr⟩
 ·rw [show h+(ops.size - h)=ops.size by omega] at hfin
  exact hfin
 ·have :kA s.hp s.nx (fun _=>false) us=s.hp:=by
   funext r
   unfold kA
   cases hb:Nat.blt r s.nx with
   | true=>rfl
   | false=>
    simp only [aX]
    refine (sm.hp.al r (sm.nx r ?_)).symm
    exact Nat.le_of_not_lt fun h=>by rw [Nat.blt_eq.mpr h] at hb;cases hb
  rw [this];exact sm1.hp
 ·rcases mB (sl:=s.sl) (D:=fun _=>false) (t:=i) (fun _=>rfl) (hs:=ops.toList.take h) (us:=us) (j:=0) with h | h
  ·rw [h];exact trivial
  ·rw [h];exact sm1.tm i x hx
end
end Go.DM

end
