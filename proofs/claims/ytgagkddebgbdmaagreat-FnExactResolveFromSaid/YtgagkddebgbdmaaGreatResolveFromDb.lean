/- A small machine over the translated code, and the proof that what it computes the code does. Conditions: none. -/
import Derived.Test.YtgagkddebgbdmaaGreatResolveFromDa
import Derived.Deep.AppendSrc
import Derived.Deep.Upon
import Derived.Maps.AppendAt
import Derived.Laws.CopyRow
import Derived.Laws.Tables
set_option linter.all false
noncomputable section
set_option linter.unusedSectionVars false
namespace Go.DM
def eO:∀(rs:List aW) (hp:Nat->aW) (nx i:Nat),(i<nx∨nx+rs.length<=i)->eA hp nx rs i=hp i
 | [],_,_,_,_=>rfl
 | r::rs,hp,nx,i,h=>by
  simp only [eA,List.length_cons] at *
  rw [eO rs _ _ _ (by omega),bB _ _ (by omega)]
def gu:∀(rs:List aW) (hp:Nat->aW) (nx j:Nat) (o:aW),rs[j]?=some o->eA hp nx rs (nx+j)=o
 | [],_,_,_,_,h=>by simp at h
 | r::rs,hp,nx,0,o,h=>by
  simp at h
  subst h
  simp only [eA]
  rw [eO rs _ _ _ (by omega)]
  exact bG _ _ _
 | r::rs,hp,nx,j+1,o,h=>by
  simp at h
  simp only [eA]
  have:=gu rs (upd hp nx r) (nx+1) j o h
  rwa [show nx+1+j=nx+(j+1) by omega] at this
def yw {l:Lf}{x:L}{o:aW}(h:o∈vm l x):∃e xs,o=.row e xs:=by
 cases l with
 | fr e=>simp [vm] at h;exact ⟨_,_,h⟩
 | rd k=>simp [vm] at h
def rW:∀{q:List Lf} {ls:List L} {o:aW},o∈iZ q ls->∃e xs,o=.row e xs
 | [],_,_,h=>by simp [iZ] at h
 | l::q,ls,o,h=>by
  simp only [iZ,List.mem_append] at h
  exact h.elim yw rW
def wT:∀{ps:List (Bool×List Lf)} {ls:List L} {o:aW},o∈lq ps ls->∃e xs,o=.row e xs
 | [],_,_,h=>by simp [lq] at h
 | (b,q)::ps,ls,o,h=>by
  simp only [lq,List.mem_append] at h
  exact h.elim rW wT
def RP.BI {p:RP}{ls:List L}{o:aW}(h:o∈p.R ls):∃e xs,o=.row e xs:=by
 cases p with
 | one l=>exact yw h
 | agg q=>exact rW h
 | iS ps=>exact wT h
 | nR _=>cases h
 | tc _ _=>cases h
def vK (l:Lf)(x:L)(nx:Nat)(k:V->List aW->aI):zJ l x nx k=k (yu l x nx) (vm l x):=by cases l<;>rfl
def qx:∀(q:List Lf) (ls:List L) (nx:Nat) (k:List V->List aW->List L->aI),rM q ls nx k=k (kY q ls nx) (iZ q ls) (ls.drop q.length)
 | [],_,_,_=>rfl
 | l::q,ls,nx,k=>by
  simp only [rM,vK,qx q,kY,iZ,List.length_cons]
  cases ls<;>simp
def tX:∀(ps:List (Bool×List Lf)) (ls:List L) (nx:Nat) (k:List V->List aW->aI),uV ps ls nx k=k (kB ps ls nx) (lq ps ls)
 | [],_,_,_=>rfl
 | (b,q)::ps,ls,nx,k=>by simp only [uV,qx,tX ps,kB,lq]
def nD (p:RP)(ls:List L)(nx:Nat)(k:V->List aW->aI):zj p ls nx k=k (p.V ls nx) (p.R ls):=by
 cases p with
 | one l=>exact vK _ _ _ _
 | agg q=>simp only [zj,qx];rfl
 | iS ps=>simp only [zj,tX];rfl
 | nR _=>rfl
 | tc _ _=>rfl
def dS.join (A A':dS)(nx n:Nat):dS:=
  { v:=fun i=>if nx<=i/\i<nx+n then A'.v (i - nx) else A.v i
    N:=fun i=>if nx<=i/\i<nx+n then A'.N (i - nx) else A.N i
    al:=fun i=>A.al i∨(nx<=i/\i<nx+n)
    Z:=A.Z }
section
variable {T:Nat->List K} {w0 w w':World} {np:Nat} {M:Mem np} {A A':dS} {hp:Nat->aW} {nx:Nat} {rs:List aW}
theorem uj (hh:Hp T w0 M A hp w)(hn:∀r,nx<=r->r<nx+rs.length->¬A.al r)(hf:Fr w w' (fun _=>False))
  (hh':Hp T w C4 A' (eA (fun _=>.dead) 0 rs) w'):Step A (A.join A' nx rs.length) w w' (fun _=>False):=by
 have hout:∀r,A.al r->¬(nx<=r/\r<nx+rs.length):=fun r ha h=>hn r h.1 h.2 ha
 refine ⟨rfl,fun r h=>.inl h,fun r h=>if_neg (hout r h),hf.size,fun b hb _=>hf.block b hb (fun h=>h),fun r h _ b=>?_,fun r b h hN=>?_⟩
 ·simp only [dS.join,if_neg (hout r h)]
 ·right
  simp only [dS.join] at hN
  split at hN
  ·rcases hh'.nm _ _ hN with h' | h'
   ·exact h'.elim
   ·exact h'
  ·rcases h with h | h
   ·exact h.elim
   ·exact (h (hh.xV hN)).elim
theorem Bp (hh:Hp T w0 M A hp w)(hn:∀r,nx<=r->r<nx+rs.length->¬A.al r)(hf:Fr w w' (fun _=>False))
  (hrow:∀o∈rs,∃e xs,o=.row e xs) (hh':Hp T w C4 A' (eA (fun _=>.dead) 0 rs) w'):Hp T w0 M (A.join A' nx rs.length) (eA hp nx rs) w':=by
 have st:=uj hh hn hf hh'
 have fresh:∀j b,A'.N j b->w.heap.size<=b:=fun j b h=>(hh'.nm j b h).resolve_left (fun h=>h)
 refine ⟨fun r b h=>?_,fun r q b h h'=>?_,fun r h=>?_,fun r=>?_,hh.fr.trans hf (fun x h=>h.elim),fun r b h=>?_,hh.zf,fun j hj=>⟨.inl (hh.pn j hj).1,(st.v j (hh.pn j hj).1).trans (hh.pn j hj).2⟩⟩
 ·simp only [dS.join] at h
  split at h
  ·exact hh'.lt _ _ h
  ·exact Nat.lt_of_lt_of_le (hh.lt r b h) hf.size
 ·simp only [dS.join] at h h'
  split at h<;>split at h'
  ·rename_i h1 h2
   have:=hh'.dj _ _ _ h h'
   omega
  ·have:=fresh _ _ h;have:=hh.lt _ _ h';omega
  ·have:=fresh _ _ h';have:=hh.lt _ _ h;omega
  ·exact hh.dj _ _ _ h h'
 ·have h1:¬A.al r:=fun h'=>h (.inl h')
  have h2:¬(nx<=r/\r<nx+rs.length):=fun h'=>h (.inr h')
  rw [eO _ _ _ _ (by omega)]
  exact hh.al r h1
 ·by_cases hr:nx<=r/\r<nx+rs.length
  ·obtain ⟨o,ho⟩:∃o,rs[r - nx]?=some o:=⟨rs[r - nx]'(by omega),List.getElem?_eq_getElem (by omega)⟩
   have e1:=gu rs hp nx _ _ ho
   rw [show nx+(r - nx)=r by omega] at e1
   rw [e1]
   obtain ⟨e,xs,rfl⟩:=hrow o (List.mem_of_getElem? ho)
   have e2:=hh'.rt (r - nx)
   have e3:=gu rs (fun _=>.dead) 0 _ _ ho
   rw [Nat.zero_add] at e3
   rw [e3] at e2
   refine ⟨.inr hr,?_⟩
   simp only [dS.join,if_pos hr]
   exact e2.2
  ·rw [eO _ _ _ _ (by omega)]
   refine (hh.rt r).step st hh (fun h=>h) (fun hd=>.inr fun b hb=>?_) (fun cs _ v _=>?_)
   ·simp only [dS.join,if_neg hr] at hb
    have:=hh.rt r;rw [hd] at this;exact this b hb
   ·cases v with
    | sl d=>cases d<;>simp [indep]
    | dQ d=>cases d<;>simp [indep]
    | gG=>exact id
    | _=>trivial
 ·simp only [dS.join] at h
  split at h
  ·exact .inr (Nat.le_trans hh.fr.size (fresh _ _ h))
  ·exact hh.nm r b h
variable (hal:∀i,A'.al i↔i<rs.length)
include hal
theorem rB {l:Lf}{x:L}{y:Value}{j:Nat}(hz:l.view=true->∀b,fq w' A' b->fq w' (A.join A' nx rs.length) b)(h:V0 T w' A' (yu l x j) y):V0 T w' (A.join A' nx rs.length) (yu l x (nx+j)) y:=by
 cases l with
 | fr e=>
  obtain ⟨h1,h2,h3⟩:=(show V0 T w' A' (.own j) y from h)
  have hj:=(hal j).1 h1
  have hc:nx<=nx+j/\nx+j<nx+rs.length:=by omega
  refine (show V0 T w' _ (.own (nx+j)) y from ⟨.inr hc,?_,h3⟩)
  simp only [dS.join,if_pos hc,Nat.add_sub_cancel_left]
  exact h2
 | rd k=>
  cases k with
  | sl e=>exact ⟨(fun r hr=>nomatch hr),h.2.mono (hz rfl)⟩
  | _=>exact h
theorem oV:∀{q:List Lf} {ls:List L} {ys:List Value} {j:Nat},(q.any Lf.view=true->∀b,fq w' A' b->fq w' (A.join A' nx rs.length) b)->F2 (Vc T w' A') (kY q ls j) ys->F2 (Vc T w' (A.join A' nx rs.length)) (kY q ls (nx+j)) ys
 | [],_,_,_,_,h=>by cases h;exact .nil
 | l::q,ls,_,j,hz,h=>by
  cases h with
  | cons h1 h2=>
   refine .cons ⟨rB hal (fun hv=>hz (by simp [hv])) h1.1,h1.2⟩ ?_
   have:=oV (q:=q) (fun hv=>hz (by simp only [List.any_cons,hv,Bool.or_true])) h2
   rwa [<-Nat.add_assoc] at this
theorem sJ:∀{ps:List (Bool×List Lf)} {ls:List L} {ys:List Value} {j:Nat},(∀p∈ps,p.1=false->p.2.length=1)->((ps.any fun p=>p.2.any Lf.view)=true->∀b,fq w' A' b->fq w' (A.join A' nx rs.length) b)->
  F2 (V1 T w' A') (kB ps ls j) ys->F2 (V1 T w' (A.join A' nx rs.length)) (kB ps ls (nx+j)) ys
 | [],_,_,_,_,_,h=>by cases h;exact .nil
 | (b,q)::ps,ls,_,j,h1q,hz,h=>by
  cases h with
  | cons h1 h2=>
   refine .cons ?_ ?_
   ·cases b with
    | true=>
     obtain ⟨l,e1,e2⟩:=(show V1 T w' A' (.agg (kY q ls j)) _ from h1)
     exact (show V1 T w' _ (.agg (kY q ls (nx+j))) _ from ⟨l,e1,oV hal (fun hv=>hz (by simp [hv])) e2⟩)
    | false=>
     have hl:=h1q (false,q) (by simp) rfl
     match q,hl with
     | [l],_=>
      have h1':V1 T w' A' (yu l (ls.headD .hole) j) _:=h1
      have hv0:∀{A':dS} {y:Value} {i:Nat},V1 T w' A' (yu l (ls.headD .hole) i) y->V0 T w' A' (yu l (ls.headD .hole) i) y:=by
       intro A' y i h
       cases l with
       | fr e=>exact h
       | rd k=>cases k<;>exact h
      exact V0.v1 (rB hal (fun hv=>hz (by simp [hv])) (hv0 h1'))
   ·have:=sJ (ps:=ps) (fun p hp=>h1q p (by simp [hp])) (fun hv=>hz (by simp only [List.any_cons,hv,Bool.or_true])) h2
    rwa [<-Nat.add_assoc] at this
theorem zL {p:RP}{ls:List L}{y:Value}(hok:p.ok=true)(hz:p.view=true->∀b,fq w' A' b->fq w' (A.join A' nx rs.length) b)(h:V2 T w' A' (p.V ls 0) y):V2 T w' (A.join A' nx rs.length) (p.V ls nx) y:=by
 cases p with
 | one l=>
  have hv0:∀{A':dS} {y:Value} {i:Nat},V2 T w' A' (yu l (ls.headD .hole) i) y->V0 T w' A' (yu l (ls.headD .hole) i) y:=by
   intro A' y i h
   cases l with
   | fr e=>exact h
   | rd k=>cases k<;>exact h
  exact V0.v2 (rB hal hz (hv0 h))
 | agg q=>
  obtain ⟨l,e1,e2⟩:=(show V1 T w' A' (.agg (kY q ls 0)) y from h)
  exact V1.v2 (v:=.agg _) ⟨l,e1,oV (j:=0) hal hz e2⟩
 | iS ps=>
  obtain ⟨l,e1,e2⟩:=(show V2 T w' A' (.iS (kB ps ls 0)) y from h)
  exact (show V2 T w' _ (.iS (kB ps ls nx)) y from ⟨l,e1,sJ (j:=0) hal (fun p hp hf=>by
   have:=List.all_eq_true.1 hok p hp
   simpa [hf] using this) hz e2⟩)
 | nR _=>cases hok
 | tc _ _=>cases hok
end
section
variable {P:Program} {E:Env} {w0 w:World} {np:Nat} {M:Mem np} {A:dS} {hp:Nat->aW} {o:Oper} {a:Act} {nx:Nat} {ρ:Operand->V} {k:V->List aW->aI} {bQ:List L}
theorem rU {vs:List V}:∀{cs:List gh},nO E hp nx vs k cs=some bQ->∃c∈cs,(c.res.view=true->vs.all jc=true)/\∃k',pq E hp c.args vs k'=some bQ/\∀ls,k' ls=(c.sem ls).bind fun r=>zj c.res r nx k
 | [],h=>by cases h
 | c::cs,h=>by
  simp only [nO] at h
  cases hc:oU c.args vs<;>simp only [hc,aZ,aX] at h
  ·obtain ⟨c',h1,h2⟩:=rU h
   exact ⟨c',by simp [h1],h2⟩
  ·cases hv:(c.res.view&&!vs.all jc)<;>simp only [hv,aZ,aX] at h
   ·refine ⟨c,by simp,fun hv'=>?_,_,h,fun ls=>rfl⟩
    rw [hv'] at hv
    simpa using hv
   ·cases h
theorem F2.Cq {α β γ:Type}{R:β->γ->Prop}{f:α->β}{g:α->γ}{l:List α}(h:∀a∈l,R (f a) (g a)):F2 R (l.map f) (l.map g):=by
 induction l with
 | nil=>exact .nil
 | cons a l ih=>exact .cons (h a (by simp)) (ih fun b hb=>h b (by simp [hb]))
theorem B4 (hG:∀g c,c∈E.G g->Valid P E g c)(hh:Hp E.cells w0 M A hp w)(ha:∀x,V2 E.cells w A (ρ x) (a.eval x)){f:Operand}{args:Array Operand}{ts:Array TypeId}
  (ho:o.op=.call { callee:=.value f,args,argTypes:=ts }) {g:FuncId} {caps:List V} (hf:ρ f=.fn g caps) (h:nO E hp nx (args.toList.map ρ++caps) k (E.G g)=some bQ):fZ P E w0 M o a w A hp nx k bQ:=by
 have hfv:=ha f
 rw [hf] at hfv
 obtain ⟨cl,e1,e2⟩:=(show V1 E.cells w A (.fn g caps) (a.eval f) from hfv)
 obtain ⟨c,hc,hview,k',h1,h2⟩:=rU h
 obtain ⟨hent,hok,hcall⟩:=hG g c hc
 have hargs:F2 (V2 E.cells w A) (args.toList.map ρ++caps) (args.toList.map a.eval++cl):=(F2.Cq fun x _=>ha x).append (e2.mono fun v x hv=>V0.v2 hv)
 have hZ:∃Z,ga w A Z ((args.toList.map ρ++caps).all jc=true)/\(c.res.view=true->Z=fq w A):=by
  by_cases hv:c.res.view=true
  ·exact ⟨fq w A,.inr ⟨hview hv,fun b hb=>hb⟩,fun _=>rfl⟩
  ·exact ⟨mH w A,.inl fun b hb=>hb,fun h=>absurd h hv⟩
 obtain ⟨Z,hm,hZv⟩:=hZ
 obtain ⟨ls,h3,h4⟩:=Cr hh hm h1
 rw [h2] at h3
 cases hs:c.sem ls with
 | none=>rw [hs] at h3;cases h3
 | some r=>
  rw [hs] at h3
  simp only [Option.bind_some] at h3
  rw [nD] at h3
  refine ⟨_,_,h3,fun hn K Q hK=>?_⟩
  have hrun:(execOp a.eval o).run P w=.ok (.enter g (args.toList.map a.eval++cl).toArray) w:=by
   obtain ⟨fn,g1,g2,g3⟩:=hent
   have :(args.map a.eval++cl.toArray)=(args.toList.map a.eval++cl).toArray:=by
    cases args;simp
   have g2' : fn.name ≠ "runtime.NumGoroutine" := by simpa using g2
   have g3':fn.body≠none:=fun h=>by simp [h] at g3
   simp [execOp,ho,resolve,e1,Deferred.ofValue,invoke,callFunc,g1,g2',g3',this]
  unfold Oper.wp
  rw [hrun]
  refine (hcall ls r w _ Z hs (h4 hargs)).mono fun e w' hpost=>?_
  obtain ⟨rv,A',rfl,hfr,hZ',hal,hh',hres⟩:=hpost
  refine hK rv w' (A.join A' nx (c.res.R r).length) (Bp hh hn hfr (fun o ho=>RP.BI ho) hh') (uj hh hn hfr hh') (zL hal hok (fun hv b hb=>?_) hres) (fun q h=>h)
  obtain ⟨b1,b2,b3⟩:=hb
  rw [hZ'] at b1
  refine ⟨?_,b2,fun q hq=>?_⟩
  ·rcases b1 with b1 | b1
   ·rw [hZv hv] at b1;exact b1.1
   ·exact hh.zf b (.inr (Nat.le_trans hh.fr.size b1))
  ·simp only [dS.join] at hq
   split at hq
   ·exact b3 _ hq
   ·rcases b1 with b1 | b1
    ·rw [hZv hv] at b1;exact b1.2.2 _ hq
    ·have:=hh.lt _ _ hq;omega
end
end Go.DM
set_option linter.unusedSectionVars false
namespace Go.DM
section
variable {P:Program} {E:Env} {w0 w:World} {np:Nat} {M:Mem np} {A:dS} {hp:Nat->aW} {o:Oper} {a:Act} {nx:Nat} {ρ:Operand->V} {k:V->List aW->aI} {bQ:List L}
theorem eL.fresh {P:Program}{E:Env}{w0 w w':World}{np:Nat}{M:Mem np}{A:dS}{hp:Nat->aW}{o:Oper}{a:Act}{nx:Nat}{v:V}(hh:Hp E.cells w0 M A hp w){cv x:Value}{r:aW}(S:Nat->Prop)(hr:(execOp a.eval o).run P w=.ok (.value cv) w')
  (hS:∀b,S b->w.heap.size<=b/\b<w'.heap.size) (hsz:w.heap.size<=w'.heap.size) (hb:∀b,b<w.heap.size->w'.heap[b]?=w.heap[b]?) (hf:Fr w0 w' M)
  (hv:¬A.al nx->V2 E.cells w' (A.new nx x S) v cv) (ho:¬A.al nx->eU E.cells w' (A.new nx x S) nx r):eL P E.cells w0 M o a w A hp nx v [r]:=by
 intro hnx K Q hK
 have ha:¬A.al nx:=hnx nx (Nat.le_refl _) (by simp)
 have st:=Step.nW (w':=w') hh ha x S (fun b h=>(hS b h).1) hsz hb
 unfold Oper.wp
 rw [hr]
 refine hK cv _ (A.new nx x S) (Hp.nW hh ha x S hS hsz hb hf (ho ha)) st (hv ha) fun q h=>?_
 rcases h with h | h
 ·exact .inl h
 ·exact .inr (by subst h;simp)
theorem ve {T:Nat->List K}{w w':World}{Z S:Nat->Prop}{ks:List K}(hp:eN ks=true){j:Nat}{k:K}(hj:ks[j]?=some k){v:Value}{l:L}(h:Rd T w Z k v l):gk T w' S k v l:=
 h.plain fun e he=>by subst he;exact jH hp hj
theorem wM (hT:∀t i,E.T t=some i->gJ P E t i)(hh:Hp E.cells w0 M A hp w)(ha:∀x,V2 E.cells w A (ρ x) (a.eval x)){x y:Operand}{t el:TypeId}
  (ho:o.op=.call { callee:=.builtin .append,args:=#[x,y],argTypes:=#[t,t] }) (hel:(E.T t).bind TI.el=some el) (hpl:eN (E.cells el)=true) (hx:ρ x=.nil) {Z:Nat->Prop} {ys:aB}
  (hy:Rd E.cells w Z (.sl el) (a.eval y) (.sl ys)) (hb:(ys.length:Int)*E.bytes el<=140737488355328):eL P E.cells w0 M o a w A hp nx (.own nx) [.row el ys]:=by
 obtain ⟨hu,ie,hie⟩:=iT hT hh ha hel
 obtain ⟨ii,d',z,k1,k2,k3,k4,k5,k6,kby,k7,k8,k9,k10,kpl,k11,k12,th,tj,k15⟩:=hT el ie hie
 have hsz:ii.size=(E.cells el).length:=by simp [Env.cells,hie,k4]
 have hbt:E.bytes el=ii.bytes:=by simp [Env.bytes,hie,k5]
 have hzc:z.cells.size=ii.size:=by rw [<-Array.length_toList,k7];simp [k4]
 have hszp:0<(E.cells el).length:=by omega
 have hx2:=ha x
 rw [hx] at hx2
 obtain ⟨base,hxe⟩:=(show V0 E.cells w A .nil (a.eval x) from hx2)
 obtain ⟨base',m,c',hye,hyl,hmc,hin⟩:=hy.inv
 have hyl':ys.length=m:=hyl
 have hcall:∀{v:Value} {w':World},(Builtin.append_ #[t,t] o.type #[a.eval x,a.eval y]).run P w=.ok v w'->(execOp a.eval o).run P w=.ok (.value v) w':=by
  intro v w' h
  simp [execOp,ho,resolve,invoke,builtin,h]
 rcases Nat.eq_zero_or_pos m with hm | hm
 ·have hyn:ys=[]:=List.eq_nil_of_length_eq_zero (by rw [hyl',hm])
  subst hyn
  have hS:Src P ii.size t (a.eval y) 0 [] w:=by
   rw [hye,hm]
   cases base' with
   | none=>exact Src.ofNil w hu c'
   | some b=>exact Src.ofSlice w hu b 0 c' [] (by simp) (fun j u hj=>by simp at hj) (fun u hu=>by cases hu)
  have hrun:(execOp a.eval o).run P w=.ok (.value (.slice base 0 0)) w:=by
   refine hcall ?_
   rw [hxe]
   exact run_append_nothing w t t o.type el ii hu k1 base 0 0 (Nat.le_refl _) (a.eval y) hS
  refine eL.fresh hh (x:=.slice base 0 0) (fun _=>False) hrun (fun b h=>h.elim) (Nat.le_refl _) (fun _ _=>rfl) hh.fr (fun hn=>?_) (fun hn=>?_)
  ·exact V0.v2 (v:=.own nx) ⟨.inr rfl,(bG _ _ _).symm,_,_,_,rfl⟩
  ·refine ⟨.inr rfl,?_⟩
   have hv:(A.new nx (.slice base 0 0) (fun _=>False)).v nx=.slice base 0 0:=bG _ _ _
   rw [hv]
   exact .nil _ el base _ rfl
 ·obtain ⟨b,q,vv,rfl,hZ,hv1,hv2⟩:=hin hm
  have hbn:m*ii.bytes<=140737488355328:=by
   have h2:((m*ii.bytes:Nat):Int)<=140737488355328:=by rw [Int.natCast_mul,<-hyl',<-hbt];exact hb
   exact Int.ofNat_le.mp h2
  have hbp:0<ii.bytes:=by omega
  have hnm:m<=140737488355328:=Nat.le_trans (Nat.le_mul_of_pos_right _ hbp) hbn
  have hgr:∀p u,((List.range (m*(E.cells el).length)).map (fun p=>vv (p / (E.cells el).length) (p % (E.cells el).length)))[p]?=some u->p / (E.cells el).length<m/\p % (E.cells el).length<(E.cells el).length/\u=vv (p / (E.cells el).length) (p % (E.cells el).length)/\p=p / (E.cells el).length*(E.cells el).length+p % (E.cells el).length:=by
   intro p u h
   rw [List.getElem?_map] at h
   have hlt:p<m*(E.cells el).length:=by
    rcases Nat.lt_or_ge p (m*(E.cells el).length) with h' | h'
    ·exact h'
    ·rw [List.getElem?_eq_none (by simpa using h')] at h;cases h
   rw [List.getElem?_range hlt] at h
   simp at h
   exact ⟨Nat.div_lt_of_lt_mul (by rw [Nat.mul_comm];exact hlt),Nat.mod_lt _ hszp,h.symm,by rw [Nat.mul_comm];exact (Nat.div_add_mod p _).symm⟩
  have hget:∀p u,((List.range (m*(E.cells el).length)).map (fun p=>vv (p / (E.cells el).length) (p % (E.cells el).length)))[p]?=some u->w.cell? ⟨b,q+p,none⟩=some u/\u.oneCell'=true:=by
   intro p u hp'
   obtain ⟨g1,g2,g3,g4⟩:=hgr p u hp'
   have hkk:(E.cells el)[p % (E.cells el).length]?=some (E.cells el)[p % (E.cells el).length]:=List.getElem?_eq_getElem g2
   refine ⟨?_,?_⟩
   ·have:=hv1 _ _ _ g1 hkk
    rw [g3];rw [<-g4] at this;exact this
   ·rw [g3];exact (hv2 _ _ _ g1 hkk).one
  have hS:Src P ii.size t (a.eval y) m ((List.range (m*(E.cells el).length)).map (fun p=>vv (p / (E.cells el).length) (p % (E.cells el).length))) w:=by
   rw [hye]
   exact Src.ofSlice w hu ⟨b,q,none⟩ m c' _ (by simp [hsz]) (fun j u hj=>by rw [Addr.add_lit];exact (hget j u hj).1) (fun u hu=>by
    obtain ⟨p,hp⟩:=List.getElem?_of_mem hu
    exact (hget p u hp).2)
  have hold:(Builtin.firstCells ii.size 0 (.slice base 0 0)).run P w.drew=.ok ([]:List Value).toArray w.drew:=by
   cases base with
   | none=>exact run_firstCells_none _ _ _ _ _
   | some b=>exact run_firstCells_some _ _ _ _ _ _ [] (by simp) (fun j v hj=>by simp at hj)
  have hrun:=run_append_grow_src (P:=P) w t t o.type el ii z hu k1 k3 base 0 0 [] hold (a.eval y) m _ hS (by omega) (by omega) (growslice_fits (by omega) (by rw [Nat.zero_add];exact hbn))
  rw [Nat.zero_add,List.nil_append] at hrun
  have hge:=grownCap_ge w m 0 el
  have hle:grownCap w m 0 el<=maxLen:=grownCap_le_maxLen w m 0 el (by simp only [maxLen];omega)
  refine eL.fresh hh (x:=.slice (some ⟨w.heap.size,0,none⟩) m (grownCap w m 0 el)) (fun b=>b=w.heap.size) (hcall (by rw [hxe];exact hrun)) (fun b h=>by subst h;simp) (by simp) (fun b hb=>lH w.drew _ b hb) ((hh.fr.drew).alloc _) (fun hn=>?_) (fun hn=>?_)
  ·exact V0.v2 (v:=.own nx) ⟨.inr rfl,(bG _ _ _).symm,_,_,_,rfl⟩
  ·refine ⟨.inr rfl,?_⟩
   have hv:(A.new nx (.slice (some ⟨w.heap.size,0,none⟩) m (grownCap w m 0 el)) (fun b=>b=w.heap.size)).v nx=.slice (some ⟨w.heap.size,0,none⟩) m (grownCap w m 0 el):=bG _ _ _
   have hN:(A.new nx (.slice (some ⟨w.heap.size,0,none⟩) m (grownCap w m 0 el)) (fun b=>b=w.heap.size)).N nx=(fun b=>b=w.heap.size):=bG _ _ _
   rw [hv,hN]
   have hcell:∀i j kk,i<m->(E.cells el)[j]?=some kk->((List.range (m*(E.cells el).length)).map (fun p=>vv (p / (E.cells el).length) (p % (E.cells el).length)))[i*(E.cells el).length+j]?=some (vv i j):=by
    intro i j kk hi hj
    have hjl:=(List.getElem?_eq_some_iff.1 hj).1
    have hlt:i*(E.cells el).length+j<m*(E.cells el).length:=by
     calc i*(E.cells el).length+j<i*(E.cells el).length+(E.cells el).length:=by omega
      _=(i+1)*(E.cells el).length:=by rw [Nat.succ_mul]
      _<=m*(E.cells el).length:=Nat.mul_le_mul_right _ hi
    have h1:(i*(E.cells el).length+j) / (E.cells el).length=i:=by rw [Nat.mul_comm,Nat.mul_add_div hszp,Nat.div_eq_of_lt hjl,Nat.add_zero]
    have h2:(i*(E.cells el).length+j) % (E.cells el).length=j:=by rw [Nat.mul_comm,Nat.mul_add_mod,Nat.mod_eq_of_lt hjl]
    rw [List.getElem?_map,List.getElem?_range hlt]
    simp [h1,h2]
   refine .sl _ el m _ w.heap.size el _ (.sl ys) vv (fun _ _ _=>False) hyl hge hle (heap_alloc_new w.drew _) ?_ rfl (fun _ _ _ h=>h.elim) (fun _ _ _ _ _ h=>h.elim) (fun i j kk hi hj=>?_) (fun i j kk hi hj=>?_)
   ·simp only [Array.size_append,List.size_toArray,List.length_map,List.length_range,size_zeroCells,hzc,hsz,<-Nat.add_mul]
    congr 1
    omega
   ·have h1:=hcell i j kk hi hj
    have h2:=(List.getElem?_eq_some_iff.1 h1).1
    rw [<-Array.getElem?_toList]
    simp only [Array.toList_append]
    rw [List.getElem?_append_left h2];exact h1
   ·exact ve hpl hj (hv2 i j kk hi hj)
theorem mE (hT:∀t i,E.T t=some i->gJ P E t i)(hG:∀g c,c∈E.G g->Valid P E g c)(hh:Hp E.cells w0 M A hp w)(ha:∀x,V2 E.cells w A (ρ x) (a.eval x))
  (h:bW E o.op ρ hp nx k=some bQ):fZ P E w0 M o a w A hp nx k bQ:=by
 cases hop:o.op<;>rw [hop] at h
 case move x=>exact AB hh ha (.inl hop) h
 case assign x=>exact AB hh ha (.inr hop) h
 case nilCheck x=>exact xx hh ha hop h
 case pick c x y=>exact BY hh ha hop h
 case alloc t=>exact AQ hT hh ha hop h
 case box t x=>exact CJ hT hh ha hop h
 case build t ps=>exact Bw hT hh ha hop h
 case buildSlice t n ps=>exact uM hT hh ha hop h
 case load t x=>exact BN hT hh ha hop h
 case binOp op t x y ty=>exact Bb hT hh ha hop h
 case unOp op t x=>
  cases op
  case not=>exact CG hh ha hop h
  case neg=>exact CK hh ha hop h
  all_goals (simp only [bW] at h;cases h)
 case makeFunc fn b caps=>
  cases fn
  case func f=>
   simp only [bW] at h
   cases hb:(b.isEmpty&&(caps.toList.map ρ).all Az)<;>simp only [hb,aZ,aX] at h
   ·cases h
   simp only [Bool.and_eq_true,List.all_map,List.all_eq_true,Function.comp_apply] at hb
   refine xp hh ha (b:=b) (by simpa using hb.1) hop (fun x hx=>?_) h
   have h1:=hb.2 x hx
   have h2:=ha x
   revert h1 h2
   cases ρ x<;>intro h1 h2<;>first | exact h2 | cases h1
  all_goals (simp only [bW] at h;cases h)
 case makeSlice t x y=>exact wR hT hh ha hop h
 case fieldAddr t x f=>exact wg hT hh ha hop h
 case field t x f=>exact Bs hT hh ha hop h
 case indexAddr t x y=>exact wQ hT hh ha hop h
 case index t x y=>
  have hs:TI.isStr (E.T t)=true:=by
   simp only [bW] at h
   cases hs:TI.isStr (E.T t)<;>simp only [hs,Bool.not_true,Bool.not_false,aZ,aX] at h
   ·cases h
   ·rfl
  exact A9 hh ha hop (jf hT hh ha hs) h
 case extract x i=>exact yB hh ha hop h
 case slice t x lo hi mx=>exact A5 hT hh ha hop h
 case convert s d x=>exact zb hT hh ha hop h
 case call c=>
  obtain ⟨callee,args,ats⟩:=c
  cases callee
  case value f=>
   simp only [bW] at h
   split at h
   ·rename_i g caps hf
    exact B4 hG hh ha hop hf h
   ·cases h
  case builtin b=>
   cases b
   case len=>
    simp only [bW] at h
    split at h
    ·rename_i x hx
     split at h
     ·rename_i u hu
      have hx':args=#[x]:=by cases args;simpa using hx
      have hu':ats=#[u]:=by cases ats;simpa using hu
      subst hx' hu'
      exact CM hT hh ha hop h
     ·cases h
    ·cases h
   case append=>
    simp only [bW] at h
    split at h
    ·rename_i x y hxy
     split at h
     ·rename_i t u htu
      have h1:args=#[x,y]:=by cases args;simp at hxy;subst hxy;rfl
      have h2:ats=#[t,u]:=by cases ats;simp at htu;subst htu;rfl
      subst h1;subst h2
      cases htu':Nat.beq t u<;>simp only [htu',aZ,aX] at h
      ·cases h
      obtain rfl:=Nat.eq_of_beq_eq_true htu'
      split at h
      ·rename_i el hel
       cases hpl:eN (E.cells el)<;>simp only [hpl,aZ,aX] at h
       ·cases h
       split at h
       ·rename_i hxn
        split at h
        ·rename_i hyn
         have hy:=ha y
         rw [hyn] at hy
         obtain ⟨A0,hye⟩:=(show V0 E.cells w A .nil (a.eval y) from hy)
         refine ⟨_,_,h,wM (Z:=fun _=>True) hT hh ha hop hel hpl hxn (by rw [hye];exact .nil _ _ _ _ rfl) (by simp)⟩
        ·obtain ⟨dd,e,ys,q1,q2⟩:=iP hh h
         obtain ⟨q3,q4⟩:=q2 (ha y)
         cases he:(Nat.beq e el&&fJ ((ys.length:Int)*E.bytes el))<;>simp only [he,aZ,aX] at q1
         ·cases q1
         simp only [Bool.and_eq_true] at he
         obtain rfl:=Nat.eq_of_beq_eq_true he.1
         exact ⟨_,_,q1,wM hT hh ha hop hel hpl hxn q4 (uY.1 he.2)⟩
       ·cases h
      ·cases h
     ·cases h
    ·cases h
   case max=>
    simp only [bW] at h
    split at h
    ·rename_i x y hx
     have hx':args=#[x,y]:=by cases args;simpa using hx
     subst hx'
     exact CU hT hh ha hop h
    ·cases h
   case min=>
    simp only [bW] at h
    split at h
    ·rename_i x y hx
     have hx':args=#[x,y]:=by cases args;simpa using hx
     subst hx'
     exact CD hT hh ha hop h
    ·cases h
   all_goals (simp only [bW] at h;cases h)
  all_goals (simp only [bW] at h;cases h)
 all_goals (simp only [bW] at h;cases h)
end
end Go.DM
set_option linter.unusedSectionVars false
namespace Go.DM
def zi (hp hp':Nat->aW)(q:Nat):Prop:=hp q≠.dead/\hp' q=.dead
structure Mv (T:Nat->List K)(A A':dS)(w w':World)(hp hp':Nat->aW)(r:Option Nat)(m:Nat):Prop where
 st:Step A A' w w' (fun q=>r=some q∨zi hp hp' q)
 am:A'.al m
 gone:∀q b,zi hp hp' q->r≠some q->A.N q b->A'.N m b/\w'.heap[b]?=w.heap[b]?
 own:∀q e xs,r=some q->hp q=.row e xs->hp' q=.dead->Rd T w' (fW w' A' (some m)) (.sl e) (A.v q) (.sl xs)
section
variable {T:Nat->List K} {w0 w w':World} {np:Nat} {M:Mem np} {A A':dS} {hp hp':Nat->aW} {r:Option Nat} {m:Nat}
def BH (r:Option Nat)(q:Nat):Bool:=match r with | some r=>Nat.beq q r | none=>false
theorem Mv.iM (h:Mv T A A' w w' hp hp' r m)(hh:Hp T w0 M A hp w){q:Nat}(hd:hp' q=.dead)(hr:r≠some q){b:Nat}(hb:fW w A (some q) b) :
  fW w' A' (some m) b/\w'.heap[b]?=w.heap[b]?:=by
 rcases hb with hb | hb
 ·have hg:zi hp hp' q:=⟨fun hn=>by have:=hh.rt q;rw [hn] at this;exact this b hb,hd⟩
  exact ⟨.inl (h.gone q b hg hr hb).1,(h.gone q b hg hr hb).2⟩
 ·exact ⟨.inr (h.st.tA hh hb).1,(h.st.tA hh hb).2⟩
theorem qv {q:Nat}(h:BH r q=false):r≠some q:=by
 rintro rfl
 simp [BH] at h
theorem zB (q e:Nat)(xs:aB):mG hp hp' r m (.sl (some q) e xs)=bif BH r q then .dead else match hp' q with | .dead=>.sl (some m) e xs | _=>.sl (some q) e xs:=rfl
theorem xw (q:Nat)(a:List K)(b:List L)(c:Nat):mG hp hp' r m (.dQ (some q) a b c)=bif BH r q then .dead else match hp' q with | .dead=>.dQ (some m) a b c | _=>.dQ (some q) a b c:=rfl
theorem yF (q a b c d:Nat):mG hp hp' r m (.gG q a b c d)=bif BH r q then .dead else match hp' q with | .dead=>.dead | _=>.gG q a b c d:=rfl
theorem V0.move (h:Mv T A A' w w' hp hp' r m)(hh:Hp T w0 M A hp w){v:V}{x:Value}(hv:V0 T w A v x):V0 T w' A' (mG hp hp' r m v) x:=by
 cases v with
 | undef=>exact hv
 | dead=>exact hv
 | int=>exact hv
 | bool=>exact hv
 | str=>exact hv
 | nil=>exact hv
 | lit q n e=>exact V0.step (v:=.lit q n e) h.st hh hv trivial
 | cC q o=>exact V0.step (v:=.cC q o) h.st hh hv trivial
 | gi q sz i o=>exact V0.step (v:=.gi q sz i o) h.st hh hv trivial
 | gG q sz i o e=>
  rw [yF]
  cases hr:BH r q with
  | true=>exact trivial
  | false=>
   have hr':=qv hr
   simp only [aX]
   split
   ·exact trivial
   ·rename_i hd
    exact V0.step (v:=.gG q sz i o e) h.st hh hv (fun hc=>hc.elim hr' (fun hg=>hd hg.2))
 | fn=>exact hv.elim
 | agg=>exact hv.elim
 | iS=>exact hv.elim
 | own q=>
  have same:V0 T w' A' (.own q) x:=V0.step (v:=.own q) h.st hh hv trivial
  simp only [mG]
  split
  ·rename_i hd
   split
   ·rename_i e xs hrow
    refine ⟨fun p hp=>by injection hp with hp;subst hp;exact h.am,?_⟩
    rw [hv.2.1]
    have hroot:=hh.rt q
    rw [hrow] at hroot
    by_cases hr:r=some q
    ·exact h.own q e xs hr hrow hd
    ·exact (hroot.2.rd.frame (w':=w') fun b hb=>(h.iM hh hd hr (.inl hb)).2).mono fun b hb=>(h.iM hh hd hr (.inl hb)).1
   ·exact same
  ·exact same
 | sl d e xs=>
  cases d with
  | none=>exact V0.step (v:=.sl none e xs) h.st hh hv trivial
  | some q=>
   rw [zB]
   cases hr:BH r q with
   | true=>exact trivial
   | false=>
    have hr':=qv hr
    simp only [aX]
    split
    ·rename_i hd
     exact ⟨fun p hp=>by injection hp with hp;subst hp;exact h.am,(hv.2.frame (w':=w') fun b hb=>(h.iM hh hd hr' hb).2).mono fun b hb=>(h.iM hh hd hr' hb).1⟩
    ·rename_i hd
     exact V0.step (v:=.sl (some q) e xs) h.st hh hv (fun hc=>hc.elim hr' (fun hg=>hd hg.2))
 | dQ d es cells o=>
  cases d with
  | none=>exact V0.step (v:=.dQ none es cells o) h.st hh hv trivial
  | some q=>
   rw [xw]
   cases hr:BH r q with
   | true=>exact trivial
   | false=>
    have hr':=qv hr
    simp only [aX]
    split
    ·rename_i hd
     obtain ⟨ha,b,p,vv,h1,h2,h3⟩:=hv
     refine ⟨fun p hp=>by injection hp with hp;subst hp;exact h.am,b,p,vv,h1,(h.iM hh hd hr' h2).1,fun j k hj=>⟨?_,?_⟩⟩
     ·rw [World.cell?_of_block (h.iM hh hd hr' h2).2];exact (h3 j k hj).1
     ·exact ((h3 j k hj).2.frame (w':=w') fun b hb=>(h.iM hh hd hr' hb).2).mono fun b hb=>(h.iM hh hd hr' hb).1
    ·rename_i hd
     exact V0.step (v:=.dQ (some q) es cells o) h.st hh hv (fun hc=>hc.elim hr' (fun hg=>hd hg.2))
theorem Vc.move (h:Mv T A A' w w' hp hp' r m)(hh:Hp T w0 M A hp w){v:V}{x:Value}(hv:Vc T w A v x):Vc T w' A' (mG hp hp' r m v) x:=⟨V0.move h hh hv.1,hv.2⟩
theorem oO (h:Mv T A A' w w' hp hp' r m)(hh:Hp T w0 M A hp w){cs:List V}{xs:List Value}(hf:F2 (Vc T w A) cs xs):F2 (Vc T w' A') (cs.map (mG hp hp' r m)) xs:=by
 induction hf with
 | nil=>exact .nil
 | cons hc _ ih=>exact .cons (hc.move h hh) ih
theorem V2.move (h:Mv T A A' w w' hp hp' r m)(hh:Hp T w0 M A hp w){v:V}{x:Value}(hv:V2 T w A v x):V2 T w' A' (Al hp hp' r m v) x:=by
 cases v with
 | iS vs=>exact trivial
 | fn f cs=>
  obtain ⟨l,rfl,hl⟩:=(show V1 T w A (.fn f cs) x from hv)
  refine V1.v2 (v:=.fn f _) ⟨l,rfl,?_⟩
  clear hv
  induction hl with
  | nil=>exact .nil
  | cons hc _ ih=>exact .cons (V0.move h hh hc) ih
 | agg cs=>obtain ⟨l,rfl,hl⟩:=hv;exact V1.v2 (v:=.agg _) ⟨l,rfl,oO h hh hl⟩
 | undef=>exact V0.v2 (V0.move (v:=.undef) h hh hv)
 | dead=>exact trivial
 | int k n=>exact V0.v2 (V0.move (v:=.int k n) h hh hv)
 | bool b=>exact V0.v2 (V0.move (v:=.bool b) h hh hv)
 | str s=>exact V0.v2 (V0.move (v:=.str s) h hh hv)
 | nil=>exact V0.v2 (V0.move (v:=.nil) h hh hv)
 | sl d e xs=>exact V0.v2 (V0.move (v:=.sl d e xs) h hh hv)
 | own q=>exact V0.v2 (V0.move (v:=.own q) h hh hv)
 | lit q n e=>exact V0.v2 (V0.move (v:=.lit q n e) h hh hv)
 | cC q o=>exact V0.v2 (V0.move (v:=.cC q o) h hh hv)
 | gi q sz i o=>exact V0.v2 (V0.move (v:=.gi q sz i o) h hh hv)
 | dQ d es cs o=>exact V0.v2 (V0.move (v:=.dQ d es cs o) h hh hv)
 | gG q sz i o e=>exact V0.v2 (V0.move (v:=.gG q sz i o e) h hh hv)
theorem eU.move (h:Mv T A A' w w' hp hp' r m)(hh:Hp T w0 M A hp w){q:Nat}(hr:r≠some q)(he:hp' q=hp q)(hN:hp q=.dead->∀b,¬A'.N q b) :
  eU T w' A' q (ux hp hp' r m (hp' q)):=by
 rw [he]
 have ho:=hh.rt q
 have hng:¬(r=some q∨zi hp hp' q):=fun hc=>hc.elim hr fun hg=>hg.1 (he ▸ hg.2)
 cases hq:hp q with
 | dead=>exact hN hq
 | box cs=>
  rw [hq] at ho
  obtain ⟨ha,g,te,cur,h1,h2,h3,h4⟩:=ho
  refine ⟨h.st.al q ha,g,te,cur,by rw [h.st.v q ha];exact h1,fun b=>(h.st.N q ha hng b).trans (h2 b),?_,oO h hh h4⟩
  rw [(h.st.root hh hng ((h2 g).2 rfl)).2];exact h3
 | row e xs=>
  rw [hq] at ho
  refine ⟨h.st.al q ho.1,?_⟩
  rw [h.st.v q ho.1]
  exact (ho.2.frame (w':=w') fun b hb=>(h.st.root hh hng hb).2).mono fun b hb=>(h.st.root hh hng hb).1
 | ql e xs j cs=>
  rw [hq] at ho
  refine ⟨h.st.al q ho.1,ho.2.1,?_⟩
  rw [h.st.v q ho.1]
  exact (ho.2.2.frame (w':=w') fun b hb=>(h.st.root hh hng hb).2).mono fun b hb=>(h.st.root hh hng hb).1
 | xj e xs j p=>
  rw [hq] at ho
  refine ⟨h.st.al q ho.1,ho.2.1,?_⟩
  rw [h.st.v q ho.1]
  exact ho.2.2.move (fun b hb=>(h.st.root hh hng hb).2) fun b hb=>(h.st.root hh hng hb).1
end
structure gU (E:Env){np:Nat}(w0:World)(M:Mem np)(A:dS)(s:St)(a:Act)(w:World):Prop where
 hp:Hp E.cells w0 M A s.hp w
 tm:∀i x,a.tmps[i]?=some x->V2 E.cells w A (s.sl i) x
 nx:∀r,s.nx<=r->¬A.al r
 df:a.defers=[]
 sz:a.tmps.size=E.nt
 fr:F2 (V2 E.cells w A) s.fr M.sv
end Go.DM
set_option linter.unusedSectionVars false
namespace Go.DM
def Sub (hp hp0:Nat->aW):Prop:=∀q,hp q=hp0 q∨hp q=.dead
structure fX (hp hp':Nat->aW)(C:Nat->Prop):Prop where
 was:∀q,C q->hp q≠.dead
 now:∀q,C q->hp' q=.dead
 rest:∀q,¬C q->hp' q=hp q
def fX.refl (hp:Nat->aW):fX hp hp (fun _=>False):=⟨fun _ h=>h.elim,fun _ h=>h.elim,fun _ _=>rfl⟩
def fX.trans {a b c:Nat->aW}{C D:Nat->Prop}(h:fX a b C)(k:fX b c D):fX a c (fun q=>C q∨D q):=by
 refine ⟨fun q hq=>?_,fun q hq=>?_,fun q hq=>?_⟩
 ·by_cases hc:C q
  ·exact h.was q hc
  ·rcases hq with hq | hq
   ·exact h.was q hq
   ·rw [<-h.rest q hc];exact k.was q hq
 ·rcases hq with hq | hq
  ·by_cases hd:D q
   ·exact k.now q hd
   ·rw [k.rest q hd];exact h.now q hq
  ·exact k.now q hq
 ·rw [k.rest q fun hd=>hq (.inr hd),h.rest q fun hc=>hq (.inl hc)]
def fX.sub {hp hp' hp0:Nat->aW}{C:Nat->Prop}(h:fX hp hp' C)(hs:Sub hp hp0):Sub hp' hp0:=fun q=>by
 by_cases hc:C q
 ·exact .inr (h.now q hc)
 ·rw [h.rest q hc];exact hs q
def fX.one {hp:Nat->aW}{r:Nat}(h:hp r≠.dead):fX hp (upd hp r .dead) (fun q=>q=r):=
 ⟨fun q hq=>by subst hq;exact h,fun q hq=>by subst hq;exact bG _ _ _,fun q hq=>bB _ _ hq⟩
def fX.xA {a b c:Nat->aW}{C D:Nat->Prop}(h:fX a b C)(k:fX b c D){q:Nat}(hc:C q)(hd:D q):False:=k.was q hd (h.now q hc)
def Sub.row {hp hp0:Nat->aW}(h:Sub hp hp0){q:Nat}{o:aW}(hq:hp q=o)(hn:o≠.dead):hp0 q=o:=by
 rcases h q with h | h
 ·rw [<-h,hq]
 ·rw [hq] at h;exact (hn h).elim
def fX.congr {hp hp':Nat->aW}{C D:Nat->Prop}(h:fX hp hp' C)(hcd:∀q,C q↔D q):fX hp hp' D:=
 ⟨fun q hq=>h.was q ((hcd q).2 hq),fun q hq=>h.now q ((hcd q).2 hq),fun q hq=>h.rest q fun hc=>hq ((hcd q).1 hc)⟩
def sS (A:dS)(c:Option Nat):Nat->Prop:=fun b=>∃q,c=some q/\A.N q b
def rR {hp:Nat->aW}{kk:K}{v:V}{k:L->Option Nat->aI}{bQ:List L}(h:pM hp kk v k=some bQ) :
  ∃l r,k l r=some bQ/\(∀q,r=some q->hp q≠.dead)/\∀{T:Nat->List K} {w0 w:World} {np:Nat} {M:Mem np} {A:dS} {hp0:Nat->aW} {x:Value},Hp T w0 M A hp0 w->Sub hp hp0->V0 T w A v x->gk T w (sS A r) kk x l:=by
 cases kk with
 | int ik=>
  simp only [pM] at h
  split at h
  ·rename_i jk n
   cases hk:jw ik jk<;>simp only [hk,aZ,aX] at h
   ·cases h
   obtain rfl:=iE hk
   refine ⟨_,_,h,fun q hq=>(nomatch hq),fun {T w0 w np M A hp0 x} _ _ hv=>?_⟩
   cases hv;exact gk.int _ ik (.int n)
  ·cases h
 | bool=>
  simp only [pM] at h
  split at h
  ·refine ⟨_,_,h,fun q hq=>(nomatch hq),fun {T w0 w np M A hp0 x} _ _ hv=>?_⟩
   cases hv;exact gk.bool _ (.bool _)
  ·cases h
 | str=>
  simp only [pM] at h
  split at h
  ·refine ⟨_,_,h,fun q hq=>(nomatch hq),fun {T w0 w np M A hp0 x} _ _ hv=>?_⟩
   cases hv;exact gk.str _ (.str _)
  ·cases h
 | sl e=>
  simp only [pM] at h
  split at h
  ·refine ⟨_,_,h,fun q hq=>(nomatch hq),fun {T w0 w np M A hp0 x} _ _ hv=>?_⟩
   obtain ⟨a,rfl⟩:=hv
   exact gk.nil _ e a (.sl []) rfl
  ·rename_i r
   split at h
   ·rename_i e' xs hr
    cases hk:Nat.beq e e'<;>simp only [hk,aZ,aX] at h
    ·cases h
    obtain rfl:=Nat.eq_of_beq_eq_true hk
    refine ⟨_,_,h,fun q hq=>(by injection hq with hq;subst hq;rw [hr];simp),fun {T w0 w np M A hp0 x} hh hs hv=>?_⟩
    have hroot:=hh.rt r
    rw [hs.row hr (by simp)] at hroot
    rw [hv.2.1]
    exact hroot.2.mono fun b hb=>⟨r,rfl,hb⟩
   ·cases h
  ·cases h
def sw {hp:Nat->aW}{r:Option Nat}(h:∀q,r=some q->hp q≠.dead):fX hp (yq hp r) (fun q=>r=some q):=by
 cases r with
 | none=>exact ⟨fun q hq=>(nomatch hq),fun q hq=>(nomatch hq),fun _ _=>rfl⟩
 | some r=>exact (fX.one (h r rfl)).congr fun q=>⟨fun h=>by rw [h],fun h=>by injection h with h;exact h.symm⟩
def qN:∀{ks:List K} {hp:Nat->aW} {vs:List V} {k:List L->(Nat->aW)->aI} {bQ:List L},mZ hp ks vs k=some bQ->
  ∃ls hp',∃c:Nat->Option Nat,k ls hp'=some bQ/\ls.length=ks.length/\vs.length=ks.length/\fX hp hp' (fun q=>∃j,j<ks.length/\c j=some q)/\(∀j j' q,c j=some q->c j'=some q->j=j')/\
   ∀{T:Nat->List K} {w0 w:World} {np:Nat} {M:Mem np} {A:dS} {hp0:Nat->aW} {xs:List Value},Hp T w0 M A hp0 w->Sub hp hp0->F2 (Vc T w A) vs xs->∀j kk,ks[j]?=some kk->∃x,xs[j]?=some x/\x.oneCell'=true/\gk T w (sS A (c j)) kk x (ls.getD j .hole):=by
 intro ks
 induction ks with
 | nil=>
  intro hp vs k bQ h
  cases vs with
  | nil=>exact ⟨[],hp,fun _=>none,h,rfl,rfl,(fX.refl hp).congr fun q=>⟨fun h=>h.elim,fun ⟨j,hj,_⟩=>by simp at hj⟩,fun _ _ _ h=>(nomatch h),fun {_ _ _ _ _ _ _ _} _ _ _ j kk hj=>by simp at hj⟩
  | cons=>cases h
 | cons kk ks ih=>
  intro hp vs k bQ h
  cases vs with
  | nil=>cases h
  | cons v vs=>
   simp only [mZ] at h
   obtain ⟨l,r,h1,h2,h3⟩:=rR h
   obtain ⟨ls,hp',c,g1,g2,g3,g4,g5,g6⟩:=ih h1
   have t1:=sw h2
   have tt:=t1.trans g4
   refine ⟨l::ls,hp',fun j=>match j with | 0=>r | j+1=>bif decide (j<ks.length) then c j else none,g1,by simp [g2],by simp [g3],tt.congr fun q=>?_,?_,?_⟩
   ·constructor
    ·rintro (hq | ⟨j,hj,hq⟩)
     ·exact ⟨0,by simp,hq⟩
     ·exact ⟨j+1,by simp;exact hj,by simp [hj,hq]⟩
    ·rintro ⟨j,hj,hq⟩
     cases j with
     | zero=>exact .inl hq
     | succ j=>
      have hj':j<ks.length:=by simpa using hj
      simp [hj'] at hq
      exact .inr ⟨j,hj',hq⟩
   ·intro j j' q hq hq'
    cases j with
    | zero=>
     cases j' with
     | zero=>rfl
     | succ j'=>
      by_cases hj':j'<ks.length
      ·simp [hj'] at hq'
       exact (t1.xA g4 (q:=q) hq ⟨j',hj',hq'⟩).elim
      ·simp [hj'] at hq'
    | succ j=>
     by_cases hj:j<ks.length
     ·simp [hj] at hq
      cases j' with
      | zero=>exact (t1.xA g4 (q:=q) hq' ⟨j,hj,hq⟩).elim
      | succ j'=>
       by_cases hj':j'<ks.length
       ·simp [hj'] at hq'
        rw [g5 j j' q hq hq']
       ·simp [hj'] at hq'
     ·simp [hj] at hq
   ·intro T w0 w np M A hp0 xs hh hs hf j q hj
    cases hf with
    | cons hv ht=>
     cases j with
     | zero=>
      simp at hj
      subst hj
      exact ⟨_,rfl,hv.2,h3 hh hs hv.1⟩
     | succ j=>
      simp at hj
      have hjl:j<ks.length:=(List.getElem?_eq_some_iff.1 hj).1
      obtain ⟨x,e1,e2,e3⟩:=g6 hh (t1.sub hs) ht j q hj
      exact ⟨x,by simpa using e1,e2,by simpa [hjl] using e3⟩
def mj {ks:List K}:∀{n:Nat} {hp:Nat->aW} {vs:List V} {k:aB->(Nat->aW)->aI} {bQ:List L},lN ks n hp vs k=some bQ->
  ∃ls hp',∃c:Nat->Nat->Option Nat,k ls hp'=some bQ/\ls.length=n/\vs.length=n*ks.length/\fX hp hp' (fun q=>∃i j,i<n/\j<ks.length/\c i j=some q)/\(∀i j i' j' q,c i j=some q->c i' j'=some q->i=i'/\j=j')/\
   ∀{T:Nat->List K} {w0 w:World} {np:Nat} {M:Mem np} {A:dS} {hp0:Nat->aW} {xs:List Value},Hp T w0 M A hp0 w->Sub hp hp0->F2 (Vc T w A) vs xs->∀i j kk,i<n->ks[j]?=some kk->∃x,xs[i*ks.length+j]?=some x/\x.oneCell'=true/\gk T w (sS A (c i j)) kk x ((ls.getD i []).getD j .hole):=by
 intro n
 induction n with
 | zero=>
  intro hp vs k bQ h
  simp only [lN] at h
  cases hv:vs.isEmpty<;>simp only [hv,aZ,aX] at h
  ·cases h
  exact ⟨[],hp,fun _ _=>none,h,rfl,by simp at hv;subst hv;simp,(fX.refl hp).congr fun q=>⟨fun h=>h.elim,fun ⟨i,j,hi,_⟩=>by omega⟩,fun _ _ _ _ _ h=>(nomatch h),fun {_ _ _ _ _ _ _ _} _ _ _ i j kk hi=>by omega⟩
 | succ n ih=>
  intro hp vs k bQ h
  simp only [lN] at h
  obtain ⟨l,hp1,c0,h1,h2,h3,h4,h5,h6⟩:=qN h
  obtain ⟨ls,hp',c,g1,g2,gl,g4,g5,g6⟩:=ih h1
  have tt:=h4.trans g4
  refine ⟨l::ls,hp',fun i j=>match i with | 0=>(cond (decide (j<ks.length)) (c0 j) none) | i+1=>bif decide (i<n/\j<ks.length) then c i j else none,g1,by simp [g2],by rw [List.length_take] at h3;rw [List.length_drop] at gl;rw [Nat.succ_mul];omega,tt.congr fun q=>?_,?_,?_⟩
  ·constructor
   ·rintro (⟨j,hj,hq⟩ | ⟨i,j,hi,hj,hq⟩)
    ·exact ⟨0,j,by omega,hj,by simp [hj,hq]⟩
    ·exact ⟨i+1,j,by omega,hj,by simp [hi,hj,hq]⟩
   ·rintro ⟨i,j,hi,hj,hq⟩
    cases i with
    | zero=>simp [hj] at hq;exact .inl ⟨j,hj,hq⟩
    | succ i=>
     have hi':i<n:=by omega
     simp [hi',hj] at hq
     exact .inr ⟨i,j,hi',hj,hq⟩
  ·intro i j i' j' q hq hq'
   cases i with
   | zero=>
    by_cases hj:j<ks.length
    ·simp [hj] at hq
     cases i' with
     | zero=>
      by_cases hj':j'<ks.length
      ·simp [hj'] at hq'
       exact ⟨rfl,h5 j j' q hq hq'⟩
      ·simp [hj'] at hq'
     | succ i'=>
      by_cases hc:i'<n/\j'<ks.length
      ·simp [hc] at hq'
       exact (h4.xA g4 (q:=q) ⟨j,hj,hq⟩ ⟨i',j',hc.1,hc.2,hq'⟩).elim
      ·simp [hc] at hq'
    ·simp [hj] at hq
   | succ i=>
    by_cases hc:i<n/\j<ks.length
    ·simp [hc] at hq
     cases i' with
     | zero=>
      by_cases hj':j'<ks.length
      ·simp [hj'] at hq'
       exact (h4.xA g4 (q:=q) ⟨j',hj',hq'⟩ ⟨i,j,hc.1,hc.2,hq⟩).elim
      ·simp [hj'] at hq'
     | succ i'=>
      by_cases hc':i'<n/\j'<ks.length
      ·simp [hc'] at hq'
       have:=g5 i j i' j' q hq hq'
       exact ⟨by rw [this.1],this.2⟩
      ·simp [hc'] at hq'
    ·simp [hc] at hq
  ·intro T w0 w np M A hp0 xs hh hs hf i j kk hi hj
   have hjl:j<ks.length:=(List.getElem?_eq_some_iff.1 hj).1
   cases i with
   | zero=>
    obtain ⟨x,e1,e2,e3⟩:=h6 hh hs (hf.take ks.length) j kk hj
    refine ⟨x,?_,e2,by simpa [hjl] using e3⟩
    simp only [List.getElem?_take,hjl,if_true] at e1
    simpa using e1
   | succ i=>
    have hi':i<n:=by omega
    obtain ⟨x,e1,e2,e3⟩:=g6 hh (h4.sub hs) (hf.drop ks.length) i j kk hi' hj
    refine ⟨x,?_,e2,by simpa [hjl,hi'] using e3⟩
    rw [List.getElem?_drop] at e1
    rw [<-e1]
    congr 1
    rw [Nat.succ_mul];omega
end Go.DM
set_option linter.unusedSectionVars false
namespace Go.DM
def dS.eD (A:dS)(m:Nat)(x:Value)(C S:Nat->Prop):dS:=
  { v:=upd A.v m x,N:=fun q b=>(q=m/\(S b∨∃p,C p/\A.N p b))∨(q≠m/\¬C q/\A.N q b),al:=fun q=>A.al q∨q=m,Z:=A.Z }
section
variable {E:Env} {w0 w w':World} {np:Nat} {M:Mem np} {A:dS} {s:St} {a:Act} {hp':Nat->aW} {r:Option Nat} {m nx':Nat} {x:Value} {C S:Nat->Prop}
theorem gU.eD (sm:gU E w0 M A s a w)(hC:∀q,C q↔(r=some q∨zi s.hp hp' q))(hr:∀q,r=some q->A.al q)(hm:C m∨m=s.nx)(hx:A.al m->x=A.v m)
  (hmn:m<nx') (hn:s.nx<=nx') (hd:∀q,q≠m->C q->hp' q=.dead) (hsm:∀q,q≠m->¬C q->hp' q=s.hp q)
  (hos:w'.os=w.os) (htp:w'.tape=w.tape) (hout:w'.output=w.output) (hsz:w.heap.size<=w'.heap.size)
  (hb:∀b,b<w.heap.size->(∀q,r=some q->¬A.N q b)->w'.heap[b]?=w.heap[b]?) (hS:∀b,S b->w.heap.size<=b/\b<w'.heap.size)
  (own:∀q e xs,r=some q->s.hp q=.row e xs->hp' q=.dead->Rd E.cells w' (fW w' (A.eD m x C S) (some m)) (.sl e) (A.v q) (.sl xs))
  (root:Mv E.cells A (A.eD m x C S) w w' s.hp hp' r m->eU E.cells w' (A.eD m x C S) m (ux s.hp hp' r m (hp' m))) :
  gU E w0 M (A.eD m x C S) (s.jU hp' r m nx') a w':=by
 have hh:=sm.hp
 have hmC:A.al m->C m:=fun h=>hm.elim id fun e=>(sm.nx m (by omega) h).elim
 have st:Step A (A.eD m x C S) w w' (fun q=>r=some q∨zi s.hp hp' q):=by
  refine ⟨rfl,fun q h=>.inl h,fun q h=>?_,hsz,fun b h1 h2=>hb b h1 fun q hq=>h2 q (.inl hq),fun q h1 h2 b=>?_,fun q b h1 h2=>?_⟩
  ·by_cases hq:q=m
   ·subst hq;simp only [dS.eD,bG];exact hx h
   ·simp only [dS.eD,bB _ _ hq]
  ·have hc:¬C q:=fun hc=>h2 ((hC q).1 hc)
   have hq:q≠m:=by rintro rfl;exact hc (hmC h1)
   simp [dS.eD,hq,hc]
  ·rcases h2 with ⟨rfl,h2 | ⟨p,hp,h2⟩⟩ | ⟨h3,h4,h5⟩
   ·exact .inr (hS b h2).1
   ·exact .inl ⟨p,(hC p).1 hp,h2⟩
   ·rcases h1 with h1 | h1
    ·exact (h4 ((hC q).2 h1)).elim
    ·exact (h1 (hh.xV h5)).elim
 have mv:Mv E.cells A (A.eD m x C S) w w' s.hp hp' r m:=by
  refine ⟨st,.inr rfl,fun q b h1 h2 h3=>⟨.inl ⟨rfl,.inr ⟨q,(hC q).2 (.inr h1),h3⟩⟩,?_⟩,own⟩
  exact hb b (hh.lt q b h3) fun p hp hn=>h2 (by rw [hp,hh.dj p q b hn h3])
 have hroots:∀q,eU E.cells w' (A.eD m x C S) q (ux s.hp hp' r m (hp' q)):=by
  intro q
  by_cases hq:q=m
  ·subst hq;exact root mv
  ·by_cases hc:C q
   ·rw [hd q hq hc]
    intro b hn
    rcases hn with ⟨h,_⟩ | ⟨_,h,_⟩
    ·exact hq h
    ·exact h hc
   ·refine eU.move mv hh (fun h=>hc ((hC q).2 (.inl h))) (hsm q hq hc) fun hdd b hn=>?_
    rcases hn with ⟨h,_⟩ | ⟨_,_,h⟩
    ·exact hq h
    ·have:=hh.rt q;rw [hdd] at this;exact this b h
 refine ⟨⟨fun q b h=>?_,fun q p b h h'=>?_,fun q h=>?_,hroots,?_,fun q b h=>?_,hh.zf,fun j hj=>⟨.inl (hh.pn j hj).1,(st.v j (hh.pn j hj).1).trans (hh.pn j hj).2⟩⟩,fun i y hy=>(sm.tm i y hy).move mv hh,fun q h1 h2=>?_,sm.df,sm.sz,sm.fr.map' fun _ _ h=>h.move mv hh⟩
 ·rcases h with ⟨_,h | ⟨p,_,h⟩⟩ | ⟨_,_,h⟩
  ·exact (hS b h).2
  ·exact Nat.lt_of_lt_of_le (hh.lt p b h) hsz
  ·exact Nat.lt_of_lt_of_le (hh.lt q b h) hsz
 ·have key:∀{q p},q=m->(S b∨∃p,C p/\A.N p b)->¬C p->A.N p b->False:=by
   intro q p _ h1 h2 h3
   rcases h1 with h1 | ⟨p',h1,h4⟩
   ·have:=(hS b h1).1;have:=hh.lt p b h3;omega
   ·rw [hh.dj p' p b h4 h3] at h1;exact h2 h1
  rcases h with ⟨h1,h2⟩ | ⟨h1,h2,h3⟩<;>rcases h' with ⟨k1,k2⟩ | ⟨k1,k2,k3⟩
  ·rw [h1,k1]
  ·exact (key h1 h2 k2 k3).elim
  ·exact (key k1 k2 h2 h3).elim
  ·exact hh.dj q p b h3 k3
 ·have hq:q≠m:=fun e=>h (.inr e)
  have hal:¬A.al q:=fun e=>h (.inl e)
  have hc:¬C q:=fun hc=>by
   rcases (hC q).1 hc with h1 | h1
   ·exact hal (hr q h1)
   ·exact h1.1 (hh.al q hal)
  show ux s.hp hp' r m (hp' q)=.dead
  rw [hsm q hq hc,hh.al q hal];rfl
 ·refine ⟨hos.trans hh.fr.os,htp.trans hh.fr.tape,hout.trans hh.fr.output,Nat.le_trans hh.fr.size hsz,fun b h1 h2=>?_⟩
  rw [hb b (Nat.lt_of_lt_of_le h1 hh.fr.size) fun q hq hn=>?_]
  ·exact hh.fr.block b h1 h2
  ·rcases hh.nm q b hn with h | h
   ·exact h2 h
   ·omega
 ·rcases h with ⟨_,h | ⟨p,_,h⟩⟩ | ⟨_,_,h⟩
  ·exact .inr (Nat.le_trans hh.fr.size (hS b h).1)
  ·exact hh.nm p b h
  ·exact hh.nm q b h
 ·rcases h2 with h2 | h2
  ·exact sm.nx q (by have :nx'<=q:=h1;omega) h2
  ·have :nx'<=q:=h1;omega
end
def qY (P:Program)(E:Env){np:Nat}(w0:World)(M:Mem np)(A:dS)(o:Oper)(a:Act)(w:World)(v:V)(s':St):Prop:=
 ∀(K:Act->World->Prop) (Q:Exit->Act->World->Prop),
  (∀cv w' A',gU E w0 M A' s' a w'->V2 E.cells w' A' v cv->A'.Z=A.Z->K (a.put o.dst cv) w')->o.wp P a w K Q
section
variable {P:Program} {E:Env} {w0 w:World} {np:Nat} {M:Mem np} {A:dS} {s:St} {o:Oper} {a:Act} {k:V->St->aI} {bQ:List L}
theorem tT {T:Nat->List K}{w:World}{A:dS}(c:Value):V0 T w A (mX c) c:=by
 unfold mX
 split
 ·rfl
 ·rfl
 ·rfl
 ·exact ⟨_,rfl⟩
 ·exact trivial
theorem xk (c:Value):(mX c).leaf=true->c.oneCell'=true:=by
 unfold mX
 split<;>first | exact fun _=>rfl | (intro h;cases h)
theorem yA {T:Nat->List K}{w:World}{A:dS}(c:Value):V2 T w A (xN c) c:=by
 unfold xN
 split
 ·rename_i cs
  cases h:cs.toList.all (fun c=>(mX c).leaf) with
  | false=>exact trivial
  | true=>
   refine V1.v2 (v:=.agg _) ⟨cs.toList,by simp,?_⟩
   rw [List.all_eq_true] at h
   revert h
   generalize cs.toList=l
   intro h
   induction l with
   | nil=>exact .nil
   | cons c l ih=>exact .cons ⟨tT c,xk c (h c (by simp))⟩ (ih fun x hx=>h x (by simp [hx]))
 ·exact (tT _).v2
theorem vu {sl:Nat->V}(tm:∀i x,a.tmps[i]?=some x->V2 E.cells w A (sl i) x)(sz:a.tmps.size=E.nt)(x:Operand):V2 E.cells w A (fQ E.nt sl x) (a.eval x):=by
 cases x with
 | tmp t=>
  simp only [fQ,look,Act.eval]
  cases hb:Nat.blt t E.nt with
  | true=>
   have hlt:t<a.tmps.size:=by rw [sz];exact Nat.blt_eq.mp hb
   have:=tm t a.tmps[t] (Array.getElem?_eq_getElem hlt)
   simpa [Array.getD,hlt] using this
  | false=>
   have hge:a.tmps.size<=t:=by rw [sz];exact Nat.le_of_not_lt fun h=>by rw [Nat.blt_eq.mpr h] at hb;cases hb
   have :a.tmps.getD t Go.undef=Go.undef:=by simp [Array.getD,Nat.not_lt.2 hge]
   exact this
 | const v=>exact yA v
 | global g=>exact trivial
 | func f=>exact V1.v2 (v:=.fn f []) ⟨[],rfl,.nil⟩
theorem gU.ev (sm:gU E w0 M A s a w)(x:Operand):V2 E.cells w A (fQ E.nt s.sl x) (a.eval x):=vu sm.tm sm.sz x
theorem jB {w:World}{t g q te:Nat}{ii:TypeInfo}{v:Value}{cur:Array Value}(hi:P.info? t=some ii)(hv:v.cells.size=ii.size)(h1:∀u∈v.cells.toList,u.oneCell'=true)
  (hg:w.heap[g]?=some (.cells cur te (0,0))) (hl:q+ii.size<=cur.size) :
  (Instr.storeAt t (.pointer (some ⟨g,q,none⟩)) v).run P w=.ok () (w.setRow g (splice cur.toList q v.cells.toList).toArray):=by
 have:=run_storeCells_at P g q te v.cells.toList 0 cur w hg (by simp;omega) h1
 simp only [Nat.add_zero] at this
 simp [Instr.storeAt,Instr.sureAddr,storeVar,gE hi,hv,this,splice,List.append_assoc]
end
end Go.DM
set_option linter.unusedSectionVars false
namespace Go.DM
def oQ {α:Type}{cs new:List α}{o p:Nat}(h:o+new.length<=cs.length) :
  (splice cs o new)[p]?=if o<=p/\p<o+new.length then new[p - o]? else cs[p]?:=by
 unfold splice
 have hl:(cs.take o).length=o:=by simp;omega
 by_cases h1:p<o
 ·rw [List.getElem?_append_left (by omega),List.getElem?_take,if_pos h1,if_neg (by omega)]
 ·rw [List.getElem?_append_right (by omega),hl]
  by_cases h2:p<o+new.length
  ·rw [List.getElem?_append_left (by omega),if_pos (by omega)]
  ·rw [List.getElem?_append_right (by omega),if_neg (by omega),List.getElem?_drop]
   congr 1;omega
def qL {cs new:List L}{o p:Nat}(h:o+new.length<=cs.length) :
  (splice cs o new).getD p .hole=if o<=p/\p<o+new.length then new.getD (p - o) .hole else cs.getD p .hole:=by
 simp only [List.getD_eq_getElem?_getD]
 rw [oQ h]
 split<;>rfl
def tW {i i' sz off len j:Nat}(hj:j<sz)(h:off+len<=sz):(i*sz+off<=i'*sz+j/\i'*sz+j<i*sz+off+len)↔(i'=i/\off<=j/\j<off+len):=by
 rcases Nat.lt_trichotomy i i' with h1 | h1 | h1
 ·have :(i+1)*sz<=i'*sz:=Nat.mul_le_mul_right _ h1
  rw [Nat.succ_mul] at this
  omega
 ·subst h1;omega
 ·have :(i'+1)*sz<=i*sz:=Nat.mul_le_mul_right _ h1
  rw [Nat.succ_mul] at this
  omega
def jt:∀(ks:List K) (l:List L),(jW ks l).length=ks.length
 | [],_=>rfl
 | k::ks,l=>by simp [jW,jt ks]
def qy:∀{ks:List K} {l:List L} {j:Nat} {k:K},ks[j]?=some k->(jW ks l).getD j .hole=BT k (l.getD j .hole)
 | [],_,_,_,h=>by simp at h
 | k::ks,l,0,_,h=>by simp at h;subst h;simp only [jW];rw [hU];rfl
 | k::ks,l,j+1,k',h=>by
  have:=qy (ks:=ks) (l:=l.tail) (j:=j) (k:=k') (by simpa using h)
  rw [jR] at this
  simpa [jW] using this
def gk.canon {T:Nat->List K}{w:World}{S:Nat->Prop}{k:K}{v:Value}{l:L}(h:gk T w S k v l):gk T w S k v (BT k l):=by
 cases k with
 | int ik=>cases h;exact gk.int S ik (.int l.toInt)
 | bool=>cases h;exact gk.bool S (.bool l.toBool)
 | str=>cases h;exact gk.str S (.str l.toStr)
 | sl e=>exact h.sO
section
variable {P:Program} {E:Env} {w0 w:World} {np:Nat} {M:Mem np} {A:dS} {s:St} {o:Oper} {a:Act} {k:V->St->aI} {bQ:List L}
theorem gU.xV (sm:gU E w0 M A s a w){r:Nat}(h:A.al r):r<s.nx:=Nat.lt_of_not_le fun h'=>sm.nx r h' h
theorem AT (hT:∀t i,E.T t=some i->gJ P E t i)(sm:gU E w0 M A s a w){t:TypeId}{x y:Operand}(ho:o.op=.store t x y)(h:jD E (.store t x y) s k=some bQ) :
  ∃v s',k v s'=some bQ/\qY P E w0 M A o a w v s':=by
 have hh:=sm.hp
 have hx:=sm.ev x
 simp only [jD] at h
 split at h
 ·cases h
 rename_i i ht
 obtain ⟨ii,d,z,h1,h2,h3,h4,h5,h6,hby,h7,h8,h9,h10,hpl,h11,h12,h13,h14,h15⟩:=hT t i ht
 obtain ⟨new,g1,g2⟩:=ju h
 have hy:=g2 (sm.ev y)
 cases hl:Nat.beq new.length i.cells.length<;>simp only [hl,aZ,aX] at g1
 ·cases g1
 have hl':=Nat.eq_of_beq_eq_true hl
 have hsz:(a.eval y).cells.size=ii.size:=by rw [<-Array.length_toList,<-hy.length,hl',h4]
 have hone:∀u∈(a.eval y).cells.toList,u.oneCell'=true:=by
  intro u hu
  obtain ⟨j,hj⟩:=List.getElem?_of_mem hu
  have:=hy.length
  have hjl:j<new.length:=by rw [this];exact (List.getElem?_eq_some_iff.1 hj).1
  obtain ⟨b,hb,hv⟩:=hy.get (List.getElem?_eq_getElem hjl)
  rw [hj] at hb;injection hb with hb;subst hb
  exact hv.2
 split at g1
 ·
  rename_i r q hr
  rw [hr] at hx
  split at g1
  ·rename_i cs hcs
   cases hle:Nat.ble (q+new.length) cs.length<;>simp only [hle,aZ,aX] at g1
   ·cases g1
   have hle':=Nat.le_of_ble_eq_true hle
   obtain ⟨hal,g,e1,e2⟩:=(show V0 E.cells w A (.cC r q) (a.eval x) from hx)
   have hroot:=hh.rt r
   rw [hcs] at hroot
   obtain ⟨_,g',te,cur,m1,m2,m3,m4⟩:=hroot
   obtain rfl:g=g':=by rw [e1] at m1;injection m1 with m1;injection m1 with m1;injection m1
   refine ⟨_,_,g1,fun Kn Q hK=>?_⟩
   have hcl:cs.length=cur.size:=by rw [m4.length,Array.length_toList]
   have hrun:(execOp a.eval o).run P w=.ok .skip (w.setRow g (splice cur.toList q (a.eval y).cells.toList).toArray):=by
    have:=jB (P:=P) (t:=t) (g:=g) (q:=q) h1 hsz hone m3 (by omega)
    simp [execOp,ho,e2,this]
   unfold Oper.wp
   rw [hrun]
   refine hK Go.undef _ _ (gU.eD (x:=A.v r) (C:=fun q=>q=r) (S:=fun _=>False) sm (fun p=>?_) (fun p hp=>by injection hp with hp;subst hp;exact hal) (.inl rfl) (fun _=>rfl) (sm.xV hal) (Nat.le_refl _)
    (fun p h h'=>(h h').elim) (fun p hp _=>bB _ _ hp) rfl rfl rfl (by simp) (fun b hb hn=>setRow_other _ _ _ _ fun e=>hn r rfl ((m2 b).2 e)) (fun b hb=>hb.elim) (fun p e xs hp h1 h2=>?_) (fun mv=>?_)) rfl rfl
   ·constructor
    ·rintro rfl;exact .inl rfl
    ·rintro (hp | hp)
     ·injection hp with hp;exact hp.symm
     ·by_cases hpr:p=r
      ·exact hpr
      ·have:=hp.2;rw [bB _ _ hpr] at this;exact (hp.1 this).elim
   ·injection hp with hp;subst hp;rw [bG] at h2;cases h2
   ·rw [bG]
    refine ⟨.inl hal,g,te,_,by simp [dS.eD,bG,e1],fun b=>?_,setRow_heap _ _ _ _ _ _ m3,?_⟩
    ·simp only [dS.eD]
     constructor
     ·rintro (⟨_,h | ⟨p,rfl,h⟩⟩ | ⟨h,_⟩)
      ·exact h.elim
      ·exact (m2 b).1 h
      ·exact (h rfl).elim
     ·intro h;exact .inl ⟨trivial,.inr ⟨r,rfl,(m2 b).2 h⟩⟩
    ·have:=(m4.splice hy q)
     exact oO mv hh (by simpa using this)
  ·cases g1
 ·
  rename_i r sz j q hr
  rw [hr] at hx
  have part:∀{e:Nat} {xs:aB},gk E.cells w (A.N r) (.sl e) (A.v r) (.sl xs)->kW E.cells w (A.N r) e (A.v r) xs (fun i' j'=>i'=j/\q<=j'/\j'<q+new.length):=by
   clear g1
   intro e xs hown
   obtain ⟨hal,g,n,c,e1,ej,e2⟩:=(show V0 E.cells w A (.gi r _ j q) (a.eval x) from hx)
   rw [e1] at hown ⊢
   exact hown.part (by omega) _
  have elem:∀{e:Nat} {xs:aB} {mk:List L->aW},kW E.cells w (A.N r) e (A.v r) xs (fun i' j'=>i'=j/\q<=j'/\j'<q+new.length)->(∀ls,mk ls≠.dead)->
    (∀(hp hp':Nat->aW) (r0:Option Nat) (m:Nat) (w':World) (A':dS) (ls:List L),j<xs.length->A'.al r->gk E.cells w' (A'.N r) (.sl e) (A'.v r) (.sl (xs.set j (splice (jW (E.cells e) (xs.getD j [])) q ls)))->eU E.cells w' A' r (ux hp hp' r0 m (mk ls)))->
    (Nat.beq sz (E.cells e).length&&Nat.ble (q+new.length) sz)=true->mZ (upd s.hp r .dead) (cut (E.cells e) q new.length) new (fun ls hp=>k .undef (s.jU (upd hp r (mk ls)) (some r) r s.nx))=some bQ->
    ∃v s',k v s'=some bQ/\qY P E w0 M A o a w v s':=by
   clear g1
   intro e xs mk hown hmk0 hmk hle g1
   simp only [Bool.and_eq_true] at hle
   have hsz2:=Nat.eq_of_beq_eq_true hle.1
   have hle':=Nat.le_of_ble_eq_true hle.2
   subst hsz2
   obtain ⟨hal,g,n,c,e1,ej,e2⟩:=(show V0 E.cells w A (.gi r _ j q) (a.eval x) from hx)
   obtain ⟨g',n',c',te,cur,vv,Sf,k0,k1,k2,k3,k4,k5,k6,k7,k8,k9,k10⟩:=hown
   rw [e1] at k0
   injection k0 with k0 k0' k0''
   injection k0 with k0
   injection k0 with k0
   subst k0 k0' k0''
   obtain ⟨ls,hp2,cc,q1,q2,q3,q4,q5,q6⟩:=qN g1
   have hsub:Sub (upd s.hp r .dead) s.hp:=fun p=>by
    by_cases hp:p=r
    ·subst hp;exact .inr (bG _ _ _)
    ·exact .inl (bB _ _ hp)
   have hcut:(cut (E.cells e) q new.length).length=new.length:=fL hle'
   have q6':=q6 hh hsub hy
   have hcons:∀p jj,cc jj=some p->jj<new.length->p≠r/\s.hp p≠.dead/\hp2 p=.dead:=by
    intro p jj hp hjj
    have hw:=q4.was p ⟨jj,by rw [hcut];exact hjj,hp⟩
    have hpr:p≠r:=by rintro rfl;rw [bG] at hw;exact hw rfl
    rw [bB _ _ hpr] at hw
    exact ⟨hpr,hw,q4.now p ⟨jj,by rw [hcut];exact hjj,hp⟩⟩
   refine ⟨_,_,q1,fun Kn Q hK=>?_⟩
   have hvl:(a.eval y).cells.toList.length=new.length:=hy.length.symm
   have hfit:j*(E.cells e).length+q+new.length<=cur.size:=by
    rw [k5]
    calc j*(E.cells e).length+q+new.length<=j*(E.cells e).length+(E.cells e).length:=by omega
     _=(j+1)*(E.cells e).length:=by rw [Nat.succ_mul]
     _<=c*(E.cells e).length:=Nat.mul_le_mul_right _ (by omega)
   have hrun:(execOp a.eval o).run P w=.ok .skip (w.setRow g (splice cur.toList (j*(E.cells e).length+q) (a.eval y).cells.toList).toArray):=by
    have:=jB (P:=P) (t:=t) (g:=g) (q:=j*(E.cells e).length+q) h1 hsz hone k4 (by omega)
    simp [execOp,ho,e2,this]
   unfold Oper.wp
   rw [hrun]
   have hgN:A.N r g:=k6
   refine hK Go.undef _ _ (gU.eD (x:=A.v r) (C:=fun p=>p=r∨∃jj,jj<new.length/\cc jj=some p) (S:=fun _=>False) sm (fun p=>?_) (fun p hp=>by injection hp with hp;subst hp;exact hal) (.inl (.inl rfl)) (fun _=>rfl) (sm.xV hal) (Nat.le_refl _)
    (fun p h h'=>?_) (fun p hp hn=>?_) rfl rfl rfl (by simp) (fun b hb hn=>setRow_other _ _ _ _ fun e=>hn r rfl (e ▸ hgN)) (fun b hb=>hb.elim) (fun p e xs hp h1 h2=>?_) (fun mv=>?_)) rfl rfl
   ·constructor
    ·rintro (rfl | ⟨jj,hjj,hp⟩)
     ·exact .inl rfl
     ·obtain ⟨a1,a2,a3⟩:=hcons p jj hp hjj
      exact .inr ⟨a2,by rw [bB _ _ a1];exact a3⟩
    ·rintro (hp | hp)
     ·injection hp with hp;exact .inl hp.symm
     ·by_cases hpr:p=r
      ·exact .inl hpr
      ·refine .inr (Classical.byContradiction fun hc=>?_)
       have h2:=hp.2
       rw [bB _ _ hpr,q4.rest p (fun ⟨jj,hjj,hc'⟩=>hc ⟨jj,by rw [<-hcut];exact hjj,hc'⟩),bB _ _ hpr] at h2
       exact hp.1 h2
   ·rcases h' with h' | ⟨jj,hjj,hp⟩
    ·exact (h h').elim
    ·rw [bB _ _ h];exact (hcons p jj hp hjj).2.2
   ·rw [bB _ _ hp,q4.rest p (fun ⟨jj,hjj,hc'⟩=>hn (.inr ⟨jj,by rw [<-hcut];exact hjj,hc'⟩)),bB _ _ hp]
   ·injection hp with hp;subst hp;rw [bG] at h2;exact (hmk0 _ h2).elim
   ·rw [bG]
    refine hmk _ _ _ _ _ _ _ (by rw [show xs.length=n from k1];exact ej) (.inl hal) ?_
    have hlen:new.length=(a.eval y).cells.toList.length:=hy.length
    have hfoot:∀jj b,jj<new.length->sS A (cc jj) b->b≠g/\(A.eD r (A.v r) (fun p=>p=r∨∃jj,jj<new.length/\cc jj=some p) (fun _=>False)).N r b/\¬A.N r b:=by
     intro jj b hjj ⟨p,hp,hb⟩
     have hpr:=(hcons p jj hp hjj).1
     exact ⟨fun e=>hpr (hh.dj p r b hb (e ▸ hgN)),.inl ⟨rfl,.inr ⟨p,.inr ⟨jj,hjj,hp⟩,hb⟩⟩,fun hn=>hpr (hh.dj p r b hb hn)⟩
    have hfr:∀{S:Nat->Prop} {kk:K} {v:Value} {l:L},gk E.cells w S kk v l->(∀b,S b->b≠g)->gk E.cells (w.setRow g (splice cur.toList (j*(E.cells e).length+q) (a.eval y).cells.toList).toArray) S kk v l:=by
     intro S kk v l ho hs
     exact ho.frame fun b hb=>setRow_other _ _ _ _ (hs b hb)
    have hval:(A.eD r (A.v r) (fun p=>p=r∨∃jj,jj<new.length/\cc jj=some p) (fun _=>False)).v r=.slice (some ⟨g,0,none⟩) n c:=by simp [dS.eD,bG,e1]
    show gk E.cells _ _ (.sl e) ((A.eD r (A.v r) (fun p=>p=r∨∃jj,jj<new.length/\cc jj=some p) (fun _=>False)).v r) _
    rw [hval]
    refine .sl _ e n c g te _ _ (fun i' j'=>if i'=j/\q<=j'/\j'<q+new.length then (a.eval y).cells.toList.getD (j' - q) Go.undef else vv i' j')
     (fun i' j' b=>if i'=j/\q<=j'/\j'<q+new.length then sS A (cc (j' - q)) b else Sf i' j' b) ?_ k2 k3 (setRow_heap _ _ _ _ _ _ k4) ?_ (.inl ⟨rfl,.inr ⟨r,.inl rfl,hgN⟩⟩) (fun i' j' b hb=>?_) (fun i1 j1 i2 j2 b hb hb'=>?_) (fun i' j' kk hi hj=>?_) (fun i' j' kk hi hj=>?_)
    ·simp only [L.dP,List.length_set];exact k1
    ·rw [<-k5,List.size_toArray,lA (by rw [<-hlen,Array.length_toList];exact hfit),Array.length_toList]
    ·by_cases hc:i'=j/\q<=j'/\j'<q+new.length
     ·simp only [hc,and_self,if_true] at hb
      have:=hfoot (j' - q) b (by omega) hb
      exact ⟨this.2.1,this.1⟩
     ·rw [if_neg hc] at hb
      exact ⟨.inl ⟨rfl,.inr ⟨r,.inl rfl,(k7 i' j' b hb).1⟩⟩,(k7 i' j' b hb).2⟩
    ·by_cases hc:i1=j/\q<=j1/\j1<q+new.length<;>by_cases hc':i2=j/\q<=j2/\j2<q+new.length
     ·rw [if_pos hc] at hb;rw [if_pos hc'] at hb'
      obtain ⟨p,hp,hn⟩:=hb
      obtain ⟨p',hp',hn'⟩:=hb'
      rw [hh.dj p p' b hn hn'] at hp
      have:=q5 _ _ _ hp hp'
      omega
     ·rw [if_pos hc] at hb;rw [if_neg hc'] at hb'
      exact ((hfoot (j1 - q) b (by omega) hb).2.2 (k7 _ _ _ hb').1).elim
     ·rw [if_neg hc] at hb;rw [if_pos hc'] at hb'
      exact ((hfoot (j2 - q) b (by omega) hb').2.2 (k7 _ _ _ hb).1).elim
     ·rw [if_neg hc] at hb;rw [if_neg hc'] at hb'
      exact k8 _ _ _ _ _ hb hb'
    ·have hjl:j'<(E.cells e).length:=(List.getElem?_eq_some_iff.1 hj).1
     rw [<-Array.getElem?_toList]
     simp only
     rw [oQ (by rw [<-hlen,Array.length_toList];exact hfit),<-hlen]
     by_cases hc:i'=j/\q<=j'/\j'<q+new.length
     ·rw [if_pos ((tW hjl hle').2 hc),if_pos hc]
      have :i'*(E.cells e).length+j' - (j*(E.cells e).length+q)=j' - q:=by rw [hc.1];omega
      rw [this,List.getD_eq_getElem?_getD,List.getElem?_eq_getElem (show j' - q<(a.eval y).cells.toList.length by omega)]
      rfl
     ·rw [if_neg (fun h=>hc ((tW hjl hle').1 h)),if_neg hc,Array.getElem?_toList]
      exact k9 i' j' kk hi hj
    ·have hjl:j'<(E.cells e).length:=(List.getElem?_eq_some_iff.1 hj).1
     have hset:(xs.set j (splice (jW (E.cells e) (xs.getD j [])) q ls)).getD i' []=if i'=j then splice (jW (E.cells e) (xs.getD j [])) q ls else xs.getD i' []:=by
      have hjx:j<xs.length:=by rw [show xs.length=n from k1];exact ej
      simp only [List.getD_eq_getElem?_getD,List.getElem?_set]
      by_cases hij:j=i'
      ·subst hij;simp [hjx]
      ·simp [hij,Ne.symm hij]
     simp only [L.dP]
     rw [hset]
     by_cases hc:i'=j/\q<=j'/\j'<q+new.length
     ·have hif:(fun b=>if i'=j/\q<=j'/\j'<q+new.length then sS A (cc (j' - q)) b else Sf i' j' b)=sS A (cc (j' - q)):=by funext b;rw [if_pos hc]
      rw [hif,if_pos hc,if_pos hc.1,qL (by rw [jt,q2,hcut];exact hle'),q2,hcut,if_pos hc.2]
      obtain ⟨x',f1,f2,f3⟩:=q6' (j' - q) kk (by
       simp only [cut,List.getElem?_take,List.getElem?_drop]
       rw [if_pos (by omega),show q+(j' - q)=j' by omega];exact hj)
      rw [List.getD_eq_getElem?_getD,f1]
      exact hfr f3 fun b hb=>(hfoot (j' - q) b (by omega) hb).1
     ·have hif:(fun b=>if i'=j/\q<=j'/\j'<q+new.length then sS A (cc (j' - q)) b else Sf i' j' b)=Sf i' j':=by funext b;rw [if_neg hc]
      rw [hif,if_neg hc]
      have:=hfr (k10 i' j' kk hi hj hc) fun b hb=>(k7 i' j' b hb).2
      by_cases hij:i'=j
      ·subst hij
       rw [if_pos rfl,qL (by rw [jt,q2,hcut];exact hle'),q2,hcut,if_neg (fun h=>hc ⟨rfl,h⟩),qy hj]
       exact this.canon
      ·rw [if_neg hij];exact this
  split at g1
  ·rename_i e xs hrow
   cases hle:(Nat.beq sz (E.cells e).length&&Nat.ble (q+new.length) sz)<;>simp only [hle,aZ,aX] at g1
   ·cases g1
   have hroot:=hh.rt r
   rw [hrow] at hroot
   cases hmt:E.mt<;>simp only [hmt,aZ,aX] at g1
   ·exact elem (mk:=fun ls=>.row e (xs.set j (splice (jW (E.cells e) (xs.getD j [])) q ls))) (part hroot.2) (fun _ h=>by cases h) (fun _ _ _ _ _ _ _ _ h1 h2=>⟨h1,h2⟩) hle g1
   ·exact elem (mk:=fun ls=>.ql e xs j (splice (jW (E.cells e) (xs.getD j [])) q ls)) (part hroot.2) (fun _ h=>by cases h) (fun _ _ _ _ _ _ _ h0 h1 h2=>⟨h1,h0,h2⟩) hle g1
  ·rename_i e xs j0 cs hrow
   cases hle:(Nat.beq j j0&&(Nat.beq sz (E.cells e).length&&Nat.ble (q+new.length) sz))<;>simp only [hle,aZ,aX] at g1
   ·cases g1
   rw [Bool.and_eq_true] at hle
   obtain rfl:=Nat.eq_of_beq_eq_true hle.1
   have hroot:=hh.rt r
   rw [hrow] at hroot
   refine elem (mk:=fun ls=>.ql e xs j (splice (jW (E.cells e) cs) q ls)) (part hroot.2.2) (fun _ h=>by cases h) (fun _ _ _ _ _ _ ls h0 h1 h2=>⟨h1,hroot.2.1,?_⟩) hle.2 g1
   rw [jm hroot.2.1,List.set_set] at h2
   exact h2
  ·rename_i e xs i0 o0 hrow
   cases hle:(Nat.beq j i0&&(Nat.beq q o0&&(Nat.beq new.length 1&&(Nat.beq sz (E.cells e).length&&Nat.ble (q+new.length) sz))))<;>simp only [hle,aZ,aX] at g1
   ·cases g1
   simp only [Bool.and_eq_true] at hle
   obtain rfl:=Nat.eq_of_beq_eq_true hle.1
   obtain rfl:=Nat.eq_of_beq_eq_true hle.2.1
   have hn1:=Nat.eq_of_beq_eq_true hle.2.2.1
   have hroot:=hh.rt r
   rw [hrow] at hroot
   exact elem (mk:=fun ls=>.row e (xs.set j (splice (jW (E.cells e) (xs.getD j [])) q ls))) (hroot.2.2.imp fun i' j' ⟨h1,h2⟩=>⟨h1,by omega,by omega⟩) (fun _ h=>by cases h) (fun _ _ _ _ _ _ _ _ h1 h2=>⟨h1,h2⟩) (by rw [hle.2.2.2.1,hle.2.2.2.2];rfl) g1
  ·cases g1
 ·cases g1
end
end Go.DM
set_option linter.unusedSectionVars false
namespace Go.DM
def D1 (E:Env)(w:World)(A:dS)(r:Option Nat)(C:Nat->Prop)(e:Nat)(x:Value)(xs:aB):Prop:=
 ∃base n c,x=.slice base n c/\xs.length=n/\n<=c/\c<=maxLen/\(c=0∨∃(g te:Nat) (cur:Array Value) (vv:Nat->Nat->Value) (Sf:Nat->Nat->Nat->Prop),
  base=some ⟨g,0,none⟩/\w.heap[g]?=some (.cells cur te (0,0))/\cur.size=c*(E.cells e).length/\(∃q,r=some q/\A.N q g)/\
  (∀i j b,Sf i j b->(∃q,C q/\A.N q b)/\b≠g)/\(∀i j i' j' b,Sf i j b->Sf i' j' b->i=i'/\j=j')/\
  (∀i j k,i<n->(E.cells e)[j]?=some k->cur[i*(E.cells e).length+j]?=some (vv i j))/\
  (∀i j k,i<n->(E.cells e)[j]?=some k->gk E.cells w (Sf i j) k (vv i j) ((xs.getD i []).getD j .hole)))
def B2 (E:Env)(w:World)(A:dS)(C:Nat->Prop)(e:Nat)(x:Value)(ys:aB):Prop:=
 ∃base m c,x=.slice base m c/\ys.length=m/\(m=0∨∃(b o:Nat) (vv:Nat->Nat->Value) (Sf:Nat->Nat->Nat->Prop),
  base=some ⟨b,o,none⟩/\
  (∀i j p,Sf i j p->∃q,C q/\A.N q p)/\(∀i j i' j' p,Sf i j p->Sf i' j' p->i=i'/\j=j')/\
  (∀i j k,i<m->(E.cells e)[j]?=some k->w.cell? ⟨b,o+(i*(E.cells e).length+j),none⟩=some (vv i j))/\
  (∀i j k,i<m->(E.cells e)[j]?=some k->gk E.cells w (Sf i j) k (vv i j) ((ys.getD i []).getD j .hole)))
def gk.parts {T:Nat->List K}{w:World}{S:Nat->Prop}{e:Nat}{x:Value}{l:L}(h:gk T w S (.sl e) x l) :
  ∃base n c,x=.slice base n c/\l.dP.length=n/\n<=c/\c<=maxLen/\(c=0∨∃(g te:Nat) (cur:Array Value) (vv:Nat->Nat->Value) (Sf:Nat->Nat->Nat->Prop),
   base=some ⟨g,0,none⟩/\w.heap[g]?=some (.cells cur te (0,0))/\cur.size=c*(T e).length/\S g/\
   (∀i j b,Sf i j b->S b/\b≠g)/\(∀i j i' j' b,Sf i j b->Sf i' j' b->i=i'/\j=j')/\
   (∀i j k,i<n->(T e)[j]?=some k->cur[i*(T e).length+j]?=some (vv i j))/\
   (∀i j k,i<n->(T e)[j]?=some k->gk T w (Sf i j) k (vv i j) ((l.dP.getD i []).getD j .hole))):=by
 cases h
 ·rename_i hz;exact ⟨_,0,0,rfl,by rw [hz];rfl,Nat.le_refl _,Nat.zero_le _,.inl rfl⟩
 ·exact ⟨_,_,_,rfl,‹_›,‹_›,‹_›,.inr ⟨_,_,_,_,_,rfl,‹_›,‹_›,‹_›,‹_›,‹_›,‹_›,‹_›⟩⟩
def Rd.srcs {E:Env}{w:World}{A:dS}{C Z:Nat->Prop}{e:Nat}{x:Value}{ys:aB}(h:Rd E.cells w Z (.sl e) x (.sl ys))(hp:eN (E.cells e)=true):B2 E w A C e x ys:=by
 obtain ⟨a,n,c,rfl,h1,h2,h3⟩:=h.inv
 refine ⟨_,_,_,rfl,h1,?_⟩
 rcases Nat.eq_zero_or_pos n with hn | hn
 ·exact .inl hn
 ·obtain ⟨b,o,vv,h4,h5,h6,h7⟩:=h3 hn
  refine .inr ⟨b,o,vv,fun _ _ _=>False,h4,fun _ _ _ h=>h.elim,fun _ _ _ _ _ h=>h.elim,h6,fun i j k hi hj=>(h7 i j k hi hj).plain fun e' he=>?_⟩
  subst he;exact jH hp hj
section
variable {E:Env} {bQ:List L}
theorem kR {hp:Nat->aW}{e:Nat}{v:V}{k:aB->(Nat->aW)->aI}(h:mh E hp e v k=some bQ) :
  ∃ys hp',∃C:Nat->Prop,k ys hp'=some bQ/\fX hp hp' C/\∀{w0 w:World} {np:Nat} {M:Mem np} {A:dS} {hp0:Nat->aW} {x:Value},Hp E.cells w0 M A hp0 w->Sub hp hp0->V2 E.cells w A v x->B2 E w A C e x ys:=by
 cases v<;>first | (simp only [mh] at h;cases h;done) | skip
 case nil=>
  refine ⟨_,_,_,h,fX.refl _,fun {w0 w np M A hp0 x} _ _ hv=>?_⟩
  obtain ⟨a,rfl⟩:=hv
  exact ⟨a,0,0,rfl,rfl,.inl rfl⟩
 case sl d e' ys=>
  simp only [mh] at h
  cases hb:(Nat.beq e e'&&eN (E.cells e))<;>simp only [hb,aZ,aX] at h
  ·cases h
  simp only [Bool.and_eq_true] at hb
  obtain rfl:=Nat.eq_of_beq_eq_true hb.1
  exact ⟨_,_,_,h,fX.refl _,fun {w0 w np M A hp0 x} _ _ hv=>Rd.srcs (show V0 E.cells w A (.sl d e ys) x from hv).2 hb.2⟩
 case own r=>
  simp only [mh] at h
  split at h
  ·rename_i e' ys hr
   cases hb:Nat.beq e e'<;>simp only [hb,aZ,aX] at h
   ·cases h
   obtain rfl:=Nat.eq_of_beq_eq_true hb
   cases hp':eN (E.cells e)<;>simp only [hp',aZ,aX] at h
   ·refine ⟨_,_,_,h,fX.one (by rw [hr];simp),fun {w0 w np M A hp0 x} hh hs hv=>?_⟩
    have hroot:=hh.rt r
    rw [hs.row hr (by simp)] at hroot
    rw [(show V0 E.cells w A (.own r) x from hv).2.1]
    obtain ⟨base,n,c,h1,h2,h3,h4,h5⟩:=hroot.2.parts
    refine ⟨base,n,c,h1,h2,?_⟩
    rcases h5 with rfl | ⟨g,te,cur,vv,Sf,k1,k2,k3,k4,k5,k6,k7,k8⟩
    ·exact .inl (by omega)
    ·refine .inr ⟨g,0,vv,Sf,k1,fun i j p hp=>⟨r,rfl,(k5 i j p hp).1⟩,k6,fun i j kk hi hj=>?_,k8⟩
     rw [gB k2,Nat.zero_add];exact k7 i j kk hi hj
   ·refine ⟨_,_,_,h,fX.refl _,fun {w0 w np M A hp0 x} hh hs hv=>?_⟩
    have hroot:=hh.rt r
    rw [hs.row hr (by simp)] at hroot
    rw [(show V0 E.cells w A (.own r) x from hv).2.1]
    exact Rd.srcs hroot.2.rd hp'
  ·cases h
 case lit r n e'=>
  simp only [mh] at h
  cases hb:Nat.beq e e'<;>simp only [hb,aZ,aX] at h
  ·cases h
  obtain rfl:=Nat.eq_of_beq_eq_true hb
  split at h
  ·rename_i cs hr
   obtain ⟨ys,hp',c,g1,g2,_,g3,g4,g5⟩:=mj h
   have t1:fX hp (upd hp r .dead) (fun q=>q=r):=fX.one (by rw [hr];simp)
   refine ⟨_,_,_,g1,t1.trans g3,fun {w0 w np M A hp0 x} hh hs hv=>?_⟩
   obtain ⟨hal,g,e1,rfl⟩:=(show V0 E.cells w A (.lit r n e) x from hv)
   have hroot:=hh.rt r
   rw [hs.row hr (by simp)] at hroot
   obtain ⟨_,g',te,cur,m1,m2,m3,m4⟩:=hroot
   obtain rfl:g=g':=by rw [e1] at m1;injection m1 with m1;injection m1 with m1;injection m1
   have g5':=g5 hh (t1.sub hs) m4
   refine ⟨_,n,n,rfl,g2,.inr ⟨g,0,fun i j=>cur.toList.getD (i*(E.cells e).length+j) Go.undef,fun i j p=>i<n/\j<(E.cells e).length/\sS A (c i j) p,rfl,fun i j p hp=>?_,fun i j i' j' p hp hp'=>?_,fun i j kk hi hj=>?_,fun i j kk hi hj=>?_⟩⟩
   ·obtain ⟨hi,hj,q,hq,hn⟩:=hp
    exact ⟨q,.inr ⟨i,j,hi,hj,hq⟩,hn⟩
   ·obtain ⟨_,_,q,hq,hn⟩:=hp
    obtain ⟨_,_,q',hq',hn'⟩:=hp'
    rw [hh.dj q q' p hn hn'] at hq
    exact g4 _ _ _ _ _ hq hq'
   ·obtain ⟨y,f1,_,_⟩:=g5' i j kk hi hj
    rw [gB m3,Nat.zero_add,<-Array.getElem?_toList,f1]
    simp only [List.getD_eq_getElem?_getD,f1];rfl
   ·obtain ⟨y,f1,_,f3⟩:=g5' i j kk hi hj
    have hy:cur.toList.getD (i*(E.cells e).length+j) Go.undef=y:=by simp only [List.getD_eq_getElem?_getD,f1];rfl
    show gk E.cells w _ kk (cur.toList.getD (i*(E.cells e).length+j) Go.undef) _
    rw [hy]
    exact f3.mono fun b hb=>⟨hi,(List.getElem?_eq_some_iff.1 hj).1,hb⟩
  ·cases h
theorem vS {sz n i j:Nat}{v:Nat->Nat->Value}(hi:i<n)(hj:j<sz):((List.range (n*sz)).map fun p=>v (p / sz) (p % sz))[i*sz+j]?=some (v i j):=by
 have hlt:i*sz+j<n*sz:=by
  calc i*sz+j<i*sz+sz:=by omega
   _=(i+1)*sz:=by rw [Nat.succ_mul]
   _<=n*sz:=Nat.mul_le_mul_right _ hi
 have hpos:0<sz:=by omega
 have h1:(i*sz+j) / sz=i:=by rw [Nat.mul_comm,Nat.mul_add_div hpos,Nat.div_eq_of_lt hj,Nat.add_zero]
 have h2:(i*sz+j) % sz=j:=by rw [Nat.mul_comm,Nat.mul_add_mod,Nat.mod_eq_of_lt hj]
 rw [List.getElem?_map,List.getElem?_range hlt]
 simp [h1,h2]
theorem vE {sz n p:Nat}{v:Nat->Nat->Value}{u:Value}(hs:0<sz)(h:((List.range (n*sz)).map fun p=>v (p / sz) (p % sz))[p]?=some u):p / sz<n/\p % sz<sz/\u=v (p / sz) (p % sz)/\p=p / sz*sz+p % sz:=by
 rw [List.getElem?_map] at h
 have hlt:p<n*sz:=by
  rcases Nat.lt_or_ge p (n*sz) with h' | h'
  ·exact h'
  ·rw [List.getElem?_eq_none (by simpa using h')] at h;cases h
 rw [List.getElem?_range hlt] at h
 simp at h
 exact ⟨Nat.div_lt_of_lt_mul (by rw [Nat.mul_comm];exact hlt),Nat.mod_lt _ hs,h.symm,by rw [Nat.mul_comm];exact (Nat.div_add_mod p sz).symm⟩
end
end Go.DM
set_option linter.unusedSectionVars false
namespace Go.DM
def both {α:Type}(n:Nat)(f g:Nat->α)(i:Nat):α:=if i<n then f i else g (i - n)
def yR {xs ys:aB}{n i:Nat}(h:xs.length=n):(xs++ys).getD i []=both n (fun i=>xs.getD i []) (fun i=>ys.getD i []) i:=by
 unfold both
 simp only [List.getD_eq_getElem?_getD]
 by_cases hi:i<n
 ·rw [if_pos hi,List.getElem?_append_left (by omega)]
 ·rw [if_neg hi,List.getElem?_append_right (by omega),h]
section
variable {P:Program} {E:Env} {w0 w:World} {np:Nat} {M:Mem np} {A:dS} {s:St} {o:Oper} {a:Act} {k:V->St->aI} {bQ:List L}
theorem qE (hT:∀t i,E.T t=some i->gJ P E t i)(sm:gU E w0 M A s a w){el:Nat}{t:TypeId}{ii:TypeInfo}{z:Value}{ie:TI}(hu:P.underlying t=some (.slice el))(hie:E.T el=some ie)
    (hi:P.info? el=some ii) (hz:ii.zero=some z) (hsz:ii.size=(E.cells el).length) (hzc:z.cells.size=ii.size) (hpos:0<ii.size) (hbp:0<ii.bytes)
    {x y:Operand} (ho:o.op=.call { callee:=.builtin .append,args:=#[x,y],argTypes:=#[t,t] })
    {r:Option Nat} {Cx Cy:Nat->Prop} {xs ys:aB} {hp2:Nat->aW} (hx:D1 E w A r Cx el (a.eval x) xs) (hy:B2 E w A Cy el (a.eval y) ys)
    (hr:∀q,r=some q->A.al q/\Cx q/\s.hp q≠.dead) (hrow:∀q e' xs',r=some q->s.hp q=.row e' xs'->e'=el/\A.v q=a.eval x/\xs'=xs) (ht:fX s.hp hp2 (fun q=>Cx q∨Cy q)) (hxy:∀q,Cx q->Cy q->False)
    (hb:((xs.length:Int)+ys.length)*ii.bytes<=140737488355328) :
    qY P E w0 M A o a w (.own s.nx) (s.jU (upd hp2 s.nx (.row el (xs++ys))) r s.nx (s.nx+1)):=by
  have hh:=sm.hp
  obtain ⟨base,n,c,hxe,hxl,hnc,hcm,htg⟩:=hx
  obtain ⟨base',m,c',hye,hyl,hsr⟩:=hy
  have hnal:¬A.al s.nx:=sm.nx _ (Nat.le_refl _)
  have hnx:s.hp s.nx=.dead:=hh.al _ hnal
  have hnC:¬(Cx s.nx∨Cy s.nx):=fun h=>ht.was _ h hnx
  have fin:∀(v:Value) (w':World) (S:Nat->Prop),(execOp a.eval o).run P w=.ok (.value v) w'->(∃a n c,v=.slice a n c)->
      w'.os=w.os->w'.tape=w.tape->w'.output=w.output->w.heap.size<=w'.heap.size->(∀b,b<w.heap.size->(∀q,r=some q->¬A.N q b)->w'.heap[b]?=w.heap[b]?)->
      (∀b,S b->w.heap.size<=b/\b<w'.heap.size)->
      (∀q,r=some q->(∃b,A.N q b/\w'.heap[b]?≠w.heap[b]?)->Rd E.cells w' (fun b=>∃p,(Cx p∨Cy p)/\A.N p b) (.sl el) (a.eval x) (.sl xs))->
      gk E.cells w' (fun b=>S b∨∃p,(Cx p∨Cy p)/\A.N p b) (.sl el) v (.sl (xs++ys))->
      qY P E w0 M A o a w (.own s.nx) (s.jU (upd hp2 s.nx (.row el (xs++ys))) r s.nx (s.nx+1)):=by
    intro v w' S hrun hv h1 h2 h3 h4 h5 h6 h7 h8 Kn Q hK
    unfold Oper.wp
    rw [hrun]
    have hN:∀b,(A.eD s.nx v (fun q=>Cx q∨Cy q) S).N s.nx b↔(S b∨∃p,(Cx p∨Cy p)/\A.N p b):=fun b=>by simp [dS.eD]
    refine hK v w' (A.eD s.nx v (fun q=>Cx q∨Cy q) S) (gU.eD sm (fun q=>?_) (fun q hq=>(hr q hq).1) (.inr rfl) (fun h=>(hnal h).elim) (Nat.lt_succ_self _) (Nat.le_succ _) (fun q hq hc=>?_) (fun q hq hc=>?_) h1 h2 h3 h4 h5 h6 (fun q e' xs' hq hrw hd=>?_) (fun mv=>?_)) ?_ rfl
    · constructor
      · intro hc
        by_cases hq:q=s.nx
        · subst hq;exact (hnC hc).elim
        · exact .inr ⟨ht.was q hc,by rw [bB _ _ hq];exact ht.now q hc⟩
      · rintro (hq | hq)
        · exact .inl (hr q hq).2.1
        · refine Classical.byContradiction fun hc=>?_
          by_cases hqn:q=s.nx
          · subst hqn;exact hq.1 hnx
          · have:=hq.2;rw [bB _ _ hqn,ht.rest q hc] at this;exact hq.1 this
    · rw [bB _ _ hq];exact ht.now q hc
    · rw [bB _ _ hq];exact ht.rest q hc
    · obtain ⟨rfl,hv',rfl⟩:=hrow q e' xs' hq hrw
      have hroot:=hh.rt q
      rw [hrw] at hroot
      by_cases hch:∃b,A.N q b/\w'.heap[b]?≠w.heap[b]?
      · rw [hv']
        exact (h7 q hq hch).mono fun b hb=>.inl ((hN b).2 (.inr hb))
      · refine (hroot.2.rd.frame (w':=w') fun b hb=>?_).mono fun b hb=>.inl ((hN b).2 (.inr ⟨q,.inl (hr q hq).2.1,hb⟩))
        exact Classical.byContradiction fun hne=>hch ⟨b,hb,hne⟩
    · rw [bG]
      refine ⟨.inr rfl,?_⟩
      have :(A.eD s.nx v (fun q=>Cx q∨Cy q) S).v s.nx=v:=by simp [dS.eD,bG]
      rw [this]
      exact h8.mono fun b hb=>(hN b).2 hb
    · exact V0.v2 (v:=.own s.nx) ⟨.inr rfl,by simp [dS.eD,bG],hv⟩
  have hcall:∀{v:Value} {w':World},(Builtin.append_ #[t,t] o.type #[a.eval x,a.eval y]).run P w=.ok v w'->(execOp a.eval o).run P w=.ok (.value v) w':=by
    intro v w' h
    simp [execOp,ho,resolve,invoke,builtin,h]
  have hszp:0<(E.cells el).length:=by omega
  have hsrc:∃(news:List Value) (v2:Nat->Nat->Value) (S2:Nat->Nat->Nat->Prop),Src P ii.size t (a.eval y) m news w/\(m=0->news=[])/\news=(List.range (m*(E.cells el).length)).map (fun p=>v2 (p / (E.cells el).length) (p % (E.cells el).length))/\
      (∀i j p,S2 i j p->∃q,Cy q/\A.N q p)/\(∀i j i' j' p,S2 i j p->S2 i' j' p->i=i'/\j=j')/\
      (∀i j kk,i<m->(E.cells el)[j]?=some kk->gk E.cells w (S2 i j) kk (v2 i j) ((ys.getD i []).getD j .hole)):=by
    rcases hsr with rfl | ⟨b,q,vv,Sf,k1,k2,k3,k4,k5⟩
    · refine ⟨[],fun _ _=>Go.undef,fun _ _ _=>False,?_,fun _=>rfl,by simp,fun _ _ _ h=>h.elim,fun _ _ _ _ _ h=>h.elim,fun i j kk hi=>by omega⟩
      rw [hye]
      cases base' with
      | none=>exact Src.ofNil w hu c'
      | some b=>exact Src.ofSlice w hu b 0 c' [] (by simp) (fun j u hj=>by simp at hj) (fun u hu=>by cases hu)
    · have hget:∀p u,((List.range (m*(E.cells el).length)).map (fun p=>vv (p / (E.cells el).length) (p % (E.cells el).length)))[p]?=some u->w.cell? ⟨b,q+p,none⟩=some u/\u.oneCell'=true:=by
        intro p u hp
        obtain ⟨g1,g2,g3,g4⟩:=vE hszp hp
        have hkk:(E.cells el)[p % (E.cells el).length]?=some (E.cells el)[p % (E.cells el).length]:=List.getElem?_eq_getElem g2
        refine ⟨?_,?_⟩
        · have:=k4 _ _ _ g1 hkk
          rw [g3];rw [<-g4] at this;exact this
        · rw [g3];exact (k5 _ _ _ g1 hkk).one
      refine ⟨_,vv,Sf,?_,fun h=>by subst h;simp,rfl,k2,k3,k5⟩
      rw [hye,k1]
      exact Src.ofSlice w hu ⟨b,q,none⟩ m c' _ (by simp [hsz]) (fun j u hj=>by rw [Addr.add_lit];exact (hget j u hj).1) (fun u hu=>by
        obtain ⟨p,hp⟩:=List.getElem?_of_mem hu
        exact (hget p u hp).2)
  obtain ⟨news,v2,S2,hS,hm0,hnews,hS2,hS2d,hO2⟩:=hsrc
  have hnl:news.length=m*(E.cells el).length:=by rw [hS.newsLen,hsz]
  have hn2:∀i j kk,i<m->(E.cells el)[j]?=some kk->news[i*(E.cells el).length+j]?=some (v2 i j):=by
    intro i j kk hi hj
    rw [hnews];exact vS hi (List.getElem?_eq_some_iff.1 hj).1
  have hbn:(n+m)*ii.bytes<=140737488355328:=by
    have h2:(((n+m)*ii.bytes:Nat):Int)<=140737488355328:=by rw [Int.natCast_mul,Int.natCast_add,<-hxl,<-hyl];exact hb
    exact Int.ofNat_le.mp h2
  have hnm:n+m<=140737488355328:=Nat.le_trans (Nat.le_mul_of_pos_right _ hbp) hbn
  have made:∀(w':World) (S:Nat->Prop) (g te cap:Nat) (cur:Array Value) (v1:Nat->Nat->Value) (S1:Nat->Nat->Nat->Prop),w'.heap[g]?=some (.cells cur te (0,0))->n+m<=cap->cap<=maxLen->cur.size=cap*(E.cells el).length->
      (S g∨∃q,r=some q/\A.N q g)->(∀b,S b->∀q,¬A.N q b)->
      (∀i j b,S1 i j b->(∃q,Cx q/\A.N q b)/\b≠g)->(∀i j i' j' b,S1 i j b->S1 i' j' b->i=i'/\j=j')->
      (∀b,b≠g->(∃q,A.N q b)->w'.heap[b]?=w.heap[b]?)->
      (∀i j kk,i<n->(E.cells el)[j]?=some kk->cur[i*(E.cells el).length+j]?=some (v1 i j))->
      (∀i j kk,i<m->(E.cells el)[j]?=some kk->cur[(n+i)*(E.cells el).length+j]?=some (v2 i j))->
      (∀i j kk,i<n->(E.cells el)[j]?=some kk->gk E.cells w (S1 i j) kk (v1 i j) ((xs.getD i []).getD j .hole))->
      gk E.cells w' (fun b=>S b∨∃p,(Cx p∨Cy p)/\A.N p b) (.sl el) (.slice (some ⟨g,0,none⟩) (n+m) cap) (.sl (xs++ys)):=by
    intro w' S g te cap cur v1 S1 h1 h2 h3 h4 h5 h6 h7 h8 h9 h10 h11 h12
    have hg2:∀i j b,S2 i j b->b≠g:=by
      intro i j b hb e
      subst e
      obtain ⟨q,hq,hqn⟩:=hS2 i j b hb
      rcases h5 with h5 | ⟨p,hp,hpn⟩
      · exact h6 b h5 q hqn
      · rw [hh.dj p q b hpn hqn] at hp
        exact hxy q (hr q hp).2.1 hq
    refine .sl _ el (n+m) cap g te cur _ (both n v1 v2) (both n S1 S2) (by simp [L.dP,hxl,hyl]) h2 h3 h1 h4 ?_ (fun i j b hb=>?_) (fun i j i' j' b hb hb'=>?_) (fun i j kk hi hj=>?_) (fun i j kk hi hj=>?_)
    · rcases h5 with h5 | ⟨q,hq,hn⟩
      · exact .inl h5
      · exact .inr ⟨q,.inl (hr q hq).2.1,hn⟩
    · unfold both at hb
      by_cases hc:i<n
      · rw [if_pos hc] at hb
        obtain ⟨⟨q,hq,hn⟩,hne⟩:=h7 i j b hb
        exact ⟨.inr ⟨q,.inl hq,hn⟩,hne⟩
      · rw [if_neg hc] at hb
        obtain ⟨q,hq,hn⟩:=hS2 _ _ b hb
        exact ⟨.inr ⟨q,.inr hq,hn⟩,hg2 _ _ b hb⟩
    · unfold both at hb hb'
      by_cases hc:i<n<;>by_cases hc':i'<n
      · rw [if_pos hc] at hb;rw [if_pos hc'] at hb';exact h8 _ _ _ _ b hb hb'
      · rw [if_pos hc] at hb;rw [if_neg hc'] at hb'
        obtain ⟨⟨q,hq,hn⟩,_⟩:=h7 i j b hb
        obtain ⟨q',hq',hn'⟩:=hS2 _ _ b hb'
        rw [hh.dj q q' b hn hn'] at hq
        exact (hxy q' hq hq').elim
      · rw [if_neg hc] at hb;rw [if_pos hc'] at hb'
        obtain ⟨⟨q,hq,hn⟩,_⟩:=h7 i' j' b hb'
        obtain ⟨q',hq',hn'⟩:=hS2 _ _ b hb
        rw [hh.dj q q' b hn hn'] at hq
        exact (hxy q' hq hq').elim
      · rw [if_neg hc] at hb;rw [if_neg hc'] at hb'
        have:=hS2d _ _ _ _ b hb hb'
        omega
    · unfold both
      by_cases hc:i<n
      · rw [if_pos hc];exact h10 i j kk hc hj
      · rw [if_neg hc]
        have:=h11 (i - n) j kk (by omega) hj
        rwa [show n+(i - n)=i by omega] at this
    · show gk E.cells w' (both n S1 S2 i j) kk (both n v1 v2 i j) (((xs++ys).getD i []).getD j .hole)
      rw [yR hxl]
      unfold both
      by_cases hc:i<n
      · simp only [if_pos hc]
        refine (h12 i j kk hc hj).frame fun b hb=>?_
        obtain ⟨⟨q,_,hn⟩,hne⟩:=h7 i j b hb
        exact h9 b hne ⟨q,hn⟩
      · simp only [if_neg hc]
        refine (hO2 (i - n) j kk (by omega) hj).frame fun b hb=>?_
        obtain ⟨q,_,hn⟩:=hS2 _ _ b hb
        exact h9 b (hg2 _ _ b hb) ⟨q,hn⟩
  by_cases hm:m=0
  ·
    have hyn:ys=[]:=List.eq_nil_of_length_eq_zero (by rw [hyl,hm])
    have hnn:=hm0 hm
    have hrun:(execOp a.eval o).run P w=.ok (.value (a.eval x)) w:=by
      refine hcall ?_
      rw [hxe]
      subst hm
      rw [hnn] at hS
      exact run_append_nothing w t t o.type el ii hu hi base n c hnc (a.eval y) hS
    refine fin (a.eval x) w (fun _=>False) hrun ⟨_,_,_,hxe⟩ rfl rfl rfl (Nat.le_refl _) (fun _ _ _=>rfl) (fun _ h=>h.elim) (fun q _ ⟨b,_,hne⟩=>(hne rfl).elim) ?_
    rcases htg with hc0 | ⟨g,te,cur,vv,Sf,k1,k2,k3,k4,k5,k6,k7,k8⟩
    · have hn0:n=0:=by omega
      have hxn:xs=[]:=List.eq_nil_of_length_eq_zero (by rw [hxl,hn0])
      rw [hxe,hn0,hc0,hxn,hyn]
      exact .nil _ el base _ rfl
    · have:=made w (fun _=>False) g te c cur vv Sf k2 (by omega) hcm k3 (.inr k4) (fun _ h=>h.elim) k5 k6 (fun _ _ _=>rfl) k7 (fun i j kk hi=>by omega) k8
      rw [hxe,k1]
      rw [hm,Nat.add_zero] at this
      exact this
  · by_cases hroom:n+m<=c
    ·
      rcases htg with hc0 | ⟨g,te,cur,vv,Sf,k1,k2,k3,k4,k5,k6,k7,k8⟩
      · omega
      · have hfit:n*(E.cells el).length+news.length<=cur.size:=by
          rw [k3,hnl,<-Nat.add_mul];exact Nat.mul_le_mul_right _ hroom
        have hst:=run_storeCells_at P g (n*(E.cells el).length) te news 0 cur w k2 (by simpa using hfit) hS.one
        simp only [Nat.add_zero] at hst
        have hrun:(execOp a.eval o).run P w=.ok (.value (.slice (some ⟨g,0,none⟩) (n+m) c)) (w.setRow g (splice cur.toList (n*(E.cells el).length) news).toArray):=by
          refine hcall ?_
          rw [hxe,k1]
          have hlen:=hS.len
          have hcel:=hS.cells
          simp [Builtin.append_,run_underlying hu,sizeOf,typeInfo,hi,hlen,hroom,hcel,Addr.add_lit,hsz] at hst ⊢
          rw [hsz] at hcel
          simp [hcel,hst,splice]
        obtain ⟨q,hq,hqn⟩:=k4
        have hother:∀b,b≠g->(w.setRow g (splice cur.toList (n*(E.cells el).length) news).toArray).heap[b]?=w.heap[b]?:=fun b hb=>setRow_other _ _ _ _ hb
        have hget:∀p,(splice cur.toList (n*(E.cells el).length) news)[p]?=if n*(E.cells el).length<=p/\p<n*(E.cells el).length+news.length then news[p - n*(E.cells el).length]? else cur[p]?:=by
          intro p
          rw [oQ (by rw [Array.length_toList];exact hfit)]
          split
          · rfl
          · simp
        have hfirst:∀i j kk,i<n->(E.cells el)[j]?=some kk->(splice cur.toList (n*(E.cells el).length) news)[i*(E.cells el).length+j]?=some (vv i j):=by
          intro i j kk hi hj
          have hjl:=(List.getElem?_eq_some_iff.1 hj).1
          have :i*(E.cells el).length+j<n*(E.cells el).length:=by
            calc i*(E.cells el).length+j<i*(E.cells el).length+(E.cells el).length:=by omega
              _=(i+1)*(E.cells el).length:=by rw [Nat.succ_mul]
              _<=n*(E.cells el).length:=Nat.mul_le_mul_right _ hi
          rw [hget,if_neg (by omega)];exact k7 i j kk hi hj
        refine fin _ _ (fun _=>False) hrun ⟨_,_,_,rfl⟩ rfl rfl rfl (by simp) (fun b _ hn=>hother b fun e=>hn q hq (e ▸ hqn)) (fun _ h=>h.elim) (fun p hp _=>?_) ?_
        ·
          rw [hxe,k1]
          rcases Nat.eq_zero_or_pos n with hn0 | hn0
          · rw [hn0]
            exact .nil _ _ _ _ (by simp only [L.dP];exact List.eq_nil_of_length_eq_zero (by rw [hxl,hn0]))
          · refine .sl el n c g 0 (.sl xs) vv hxl hnc (Nat.le_trans hnc hcm) ⟨q,.inl (hr q hq).2.1,hqn⟩ (fun i j kk hi hj=>?_) (fun i j kk hi hj=>?_)
            · rw [gB (setRow_heap _ _ _ _ _ _ k2),Nat.zero_add]
              simpa using hfirst i j kk hi hj
            · refine ((k8 i j kk hi hj).rd.frame fun b hb=>hother b (k5 i j b hb).2).mono fun b hb=>?_
              obtain ⟨⟨p,hp,hn⟩,_⟩:=k5 i j b hb
              exact ⟨p,.inl hp,hn⟩
        · refine made _ (fun _=>False) g te c _ vv Sf (setRow_heap _ _ _ _ _ _ k2) hroom hcm ?_ (.inr ⟨q,hq,hqn⟩) (fun _ h=>h.elim) k5 k6 (fun b hb _=>hother b hb) (fun i j kk hi hj=>by simpa using hfirst i j kk hi hj) (fun i j kk hi hj=>?_) k8
          · rw [<-k3,List.size_toArray,lA (by rw [Array.length_toList];exact hfit),Array.length_toList]
          · have hjl:=(List.getElem?_eq_some_iff.1 hj).1
            have h1:=hn2 i j kk hi hj
            have h2:i*(E.cells el).length+j<news.length:=(List.getElem?_eq_some_iff.1 h1).1
            have h3:(n+i)*(E.cells el).length+j=n*(E.cells el).length+(i*(E.cells el).length+j):=by rw [Nat.add_mul];omega
            rw [List.getElem?_toArray,hget,h3,if_pos (by omega),Nat.add_sub_cancel_left]
            exact h1
    ·
      have htg':∃(olds:List Value) (v1:Nat->Nat->Value) (S1:Nat->Nat->Nat->Prop),olds.length=n*(E.cells el).length/\(Builtin.firstCells ii.size n (.slice base n c)).run P w.drew=.ok olds.toArray w.drew/\
          (∀i j kk,i<n->(E.cells el)[j]?=some kk->olds[i*(E.cells el).length+j]?=some (v1 i j))/\
          (∀i j b,S1 i j b->(∃q,Cx q/\A.N q b))/\(∀i j i' j' b,S1 i j b->S1 i' j' b->i=i'/\j=j')/\
          (∀i j k,i<n->(E.cells el)[j]?=some k->gk E.cells w (S1 i j) k (v1 i j) ((xs.getD i []).getD j .hole)):=by
        rcases htg with hc0 | ⟨g,te,cur,vv,Sf,k1,k2,k3,k4,k5,k6,k7,k8⟩
        · have hn0:n=0:=by omega
          refine ⟨[],fun _ _=>Go.undef,fun _ _ _=>False,by simp [hn0],?_,fun i j kk hi=>by omega,fun _ _ _ h=>h.elim,fun _ _ _ _ _ h=>h.elim,fun i j kk hi=>by omega⟩
          cases base with
          | none=>exact run_firstCells_none _ _ _ _ _
          | some b=>exact run_firstCells_some _ _ _ _ _ _ [] (by simp [hn0]) (fun j v hj=>by simp at hj)
        · refine ⟨(List.range (n*(E.cells el).length)).map fun p=>vv (p / (E.cells el).length) (p % (E.cells el).length),vv,Sf,by simp,?_,fun i j kk hi hj=>vS hi (List.getElem?_eq_some_iff.1 hj).1,fun i j b hb=>(k5 i j b hb).1,k6,k8⟩
          rw [k1]
          refine run_firstCells_some _ _ _ _ _ _ _ (by simp [hsz]) (fun p u hp=>?_)
          obtain ⟨g1,g2,g3,g4⟩:=vE hszp hp
          have hkk:(E.cells el)[p % (E.cells el).length]?=some (E.cells el)[p % (E.cells el).length]:=List.getElem?_eq_getElem g2
          have:=k7 _ _ _ g1 hkk
          rw [<-g4] at this
          rw [Addr.add_lit,Nat.zero_add,g3]
          rw [gB (w:=w.drew) k2];exact this
      obtain ⟨olds,v1,S1,xj,hof,ho1,hS1,hS1d,hO1⟩:=htg'
      have hrun:(execOp a.eval o).run P w=.ok (.value (.slice (some ⟨w.heap.size,0,none⟩) (n+m) (grownCap w (n+m) c el)))
          (w.drew.alloc (.cells ((olds++news).toArray++Builtin.zeroCells z.cells (grownCap w (n+m) c el - (n+m))) el)):=by
        refine hcall ?_
        rw [hxe]
        exact run_append_grow_src w t t o.type el ii z hu hi hz base n c olds hof (a.eval y) m news hS (by omega) (by omega) (growslice_fits (by omega) hbn)
      have hge:=grownCap_ge w (n+m) c el
      have hle:grownCap w (n+m) c el<=maxLen:=grownCap_le_maxLen w (n+m) c el (by simp only [maxLen];omega)
      have hold:∀b,b<w.heap.size->(w.drew.alloc (.cells ((olds++news).toArray++Builtin.zeroCells z.cells (grownCap w (n+m) c el - (n+m))) el)).heap[b]?=w.heap[b]?:=fun b hb=>lH w.drew _ b hb
      refine fin _ _ (fun b=>b=w.heap.size) hrun ⟨_,_,_,rfl⟩ rfl rfl rfl (by simp) (fun b hb _=>hold b hb) (fun b hb=>by subst hb;simp) (fun p hp ⟨b,hb,hne⟩=>(hne (hold b (hh.lt p b hb))).elim) ?_
      refine made _ (fun b=>b=w.heap.size) w.heap.size el _ _ v1 S1 (heap_alloc_new w.drew _) hge hle ?_ (.inl rfl) (fun b hb q hq=>by subst hb;exact Nat.lt_irrefl _ (hh.lt q _ hq)) (fun i j b hb=>⟨hS1 i j b hb,fun e=>by
          obtain ⟨q,_,hn⟩:=hS1 i j b hb
          subst e;exact Nat.lt_irrefl _ (hh.lt q _ hn)⟩) hS1d (fun b _ ⟨q,hq⟩=>hold b (hh.lt q b hq)) (fun i j kk hi hj=>?_) (fun i j kk hi hj=>?_) hO1
      · simp only [Array.size_append,List.size_toArray,List.length_append,size_zeroCells,hzc,xj,hnl,hsz,<-Nat.add_mul]
        congr 1
        omega
      · have h1:=ho1 i j kk hi hj
        have h2:i*(E.cells el).length+j<olds.length:=(List.getElem?_eq_some_iff.1 h1).1
        rw [<-Array.getElem?_toList]
        simp only [Array.toList_append,List.append_assoc]
        rw [List.getElem?_append_left h2];exact h1
      · have h1:=hn2 i j kk hi hj
        have h2:i*(E.cells el).length+j<news.length:=(List.getElem?_eq_some_iff.1 h1).1
        have h3:(n+i)*(E.cells el).length+j=olds.length+(i*(E.cells el).length+j):=by rw [xj,Nat.add_mul];omega
        rw [<-Array.getElem?_toList,h3]
        simp only [Array.toList_append,List.append_assoc]
        rw [List.getElem?_append_right (by omega),Nat.add_sub_cancel_left,List.getElem?_append_left h2];exact h1
end
end Go.DM

end
