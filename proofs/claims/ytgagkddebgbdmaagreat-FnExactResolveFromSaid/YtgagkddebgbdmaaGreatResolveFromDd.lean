/- A small machine over the translated code, and the proof that what it computes the code does. Conditions: none. -/
import Derived.Test.YtgagkddebgbdmaaGreatResolveFromDc
import Derived.ChangeArms
import Derived.Deep.Slices
import Derived.DataReads
import Derived.Carry
import Derived.ChangeOld
import Derived.WideShapes
import Derived.ChangeShapes
import Derived.IntWalk
import Derived.Lib.SliceRun
set_option linter.all false
noncomputable section
set_option linter.unusedSectionVars false
namespace Go.DM
def assoc {α:Type}:List (Nat×α)->Nat->Option α
 | [],_=>none
 | (k,v)::l,i=>bif Nat.beq k i then some v else assoc l i
def qj {α:Type}:∀{l:List (Nat×α)} {i:Nat} {v:α},assoc l i=some v->(i,v)∈l
 | [],i,v,h=>by cases h
 | (k,u)::l,i,v,h=>by
  simp only [assoc] at h
  cases hb:Nat.beq k i<;>simp only [hb,aZ,aX] at h
  ·exact List.mem_cons_of_mem _ (qj h)
  ·injection h with h;rw [Nat.eq_of_beq_eq_true hb,h];simp
def AI:Value->K->Bool
 | .int a n,.int b=>jw a b&&decide (n=0)
 | .bool b,.bool=>!b
 | .string ⟨⟨[]⟩⟩,.str=>true
 | .slice none 0 0,.sl _=>true
 | _,_=>false
def zA {v:Value}{k:K}(h:AI v k=true):v=kF k:=by
 unfold AI at h
 split at h
 ·simp only [Bool.and_eq_true,decide_eq_true_eq] at h
  obtain ⟨h1,rfl⟩:=h
  rw [iE h1];rfl
 ·simp at h;subst h;rfl
 ·rfl
 ·rfl
 ·cases h
def uW:List Value->List K->Bool
 | [],[]=>true
 | v::vs,k::ks=>AI v k&&uW vs ks
 | _,_=>false
def tU:∀{vs:List Value} {ks:List K},uW vs ks=true->vs=ks.map kF
 | [],[],_=>rfl
 | [],_::_,h=>by cases h
 | _::_,[],h=>by cases h
 | v::vs,k::ks,h=>by
  simp only [uW,Bool.and_eq_true] at h
  rw [zA h.1,tU h.2];rfl
def lQ (P:Program)(T:Nat->Option TI):List Field->List (Nat×Nat)->Nat->List K->Bool
 | [],[],_,[]=>true
 | f::fs,p::ps,o,ks=>Nat.beq f.offset p.1&&(Nat.beq f.type p.2&&(Nat.beq p.1 o&&(match P.info? f.type with
  | some fi=>match T p.2 with
   | some ti=>Nat.beq fi.size ti.cells.length&&(rO (ks.take ti.cells.length) ti.cells&&lQ P T fs ps (o+ti.cells.length) (ks.drop ti.cells.length))
   | none=>false
  | none=>false)))
 | _,_,_,_=>false
def jK {P:Program}{E:Env}:∀{fs:List Field} {ps:List (Nat×Nat)} {o:Nat} {ks:List K},lQ P E.T fs ps o ks=true->
  ∃places,fs.mapM (fun f=>(P.info? f.type).map fun i=>(f.offset,i.size))=some places/\fs.length=ps.length/\
   ∀(j:Nat) (p:Nat×Nat),ps[j]?=some p->∃f ti,fs[j]?=some f/\f.offset=p.1/\f.type=p.2/\E.T p.2=some ti/\places[j]?=some (p.1,(E.cells p.2).length)/\o<=p.1/\P.cellsOf f.type=ti.cells.length/\(∀l kk,ti.cells[l]?=some kk->ks[p.1 - o+l]?=some kk)/\p.1 - o+ti.cells.length<=ks.length
 | [],[],o,[],_=>⟨[],by simp,rfl,fun j p hp=>by simp at hp⟩
 | [],[],o,_::_,h=>by cases h
 | [],_::_,o,ks,h=>by cases h
 | _::_,[],o,ks,h=>by cases h
 | f::fs,p::ps,o,ks,h=>by
  simp only [lQ,Bool.and_eq_true] at h
  obtain ⟨h1,h2,h3,h4⟩:=h
  split at h4
  ·rename_i fi hfi
   split at h4
   ·rename_i ti hti
    simp only [Bool.and_eq_true] at h4
    obtain ⟨h5,h6,h7⟩:=h4
    obtain ⟨places,g1,g2,g3⟩:=jK h7
    have e1:=Nat.eq_of_beq_eq_true h1
    have e2:=Nat.eq_of_beq_eq_true h2
    have e3:=Nat.eq_of_beq_eq_true h3
    have e5:=Nat.eq_of_beq_eq_true h5
    have e6:=rI h6
    have hsz:fi.size=(E.cells p.2).length:=by simp [Env.cells,hti,e5]
    have hlen:ti.cells.length<=ks.length:=by rw [<-e6,List.length_take];exact Nat.min_le_right _ _
    refine ⟨(f.offset,fi.size)::places,by simp [hfi,g1],by simp [g2],fun j q hq=>?_⟩
    cases j with
    | zero=>
     simp at hq
     subst hq
     refine ⟨f,ti,rfl,e1,e2,hti,by simp [e1,hsz],by omega,by simp [Program.cellsOf,hfi,e5],fun l kk hl=>?_,by omega⟩
     have :(ks.take ti.cells.length)[l]?=some kk:=by rw [e6];exact hl
     rw [List.getElem?_take] at this
     rw [show p.1 - o+l=l by omega]
     split at this
     ·exact this
     ·cases this
    | succ j=>
     obtain ⟨f',ti',q1,q2,q3,q4,q5,q6,q7,q8,q9⟩:=g3 j q (by simpa using hq)
     refine ⟨f',ti',by simpa using q1,q2,q3,q4,by simpa using q5,by omega,q7,fun l kk hl=>?_,?_⟩
     ·have:=q8 l kk hl
      rw [List.getElem?_drop] at this
      rw [<-this];congr 1;omega
     ·rw [List.length_drop] at q9;omega
   ·cases h4
  ·cases h4
def DO (T:Nat->Option TI)(i:TI)(d:TypeDesc):Bool:=
 match i.el with
 | some e=>match d with
  | .slice e'=>Nat.beq e e'&&(T e).isSome
  | _=>false
 | none=>true
def yp (i:TI)(d:TypeDesc):Bool:=
 i.agg||(match i.cells with
  | [.int k]=>(match d with | .int k'=>jw k k' | _=>false)
  | [.bool]=>(match d with | .bool=>true | _=>false)
  | [.str]=>(match d with | .string=>true | _=>false)
  | [.sl e]=>(match d with | .slice e'=>Nat.beq e e' | _=>false)
  | _=>false)
def BK (P:Program)(k:K)(t:Nat):Bool:=
 match P.underlying t with
 | some (.int ik)=>(match k with | .int jk=>jw jk ik | _=>false)
 | some .bool=>(match k with | .bool=>true | _=>false)
 | some .string=>(match k with | .str=>true | _=>false)
 | _=>false
def nB (P:Program):List Field->Nat->List K->Bool
 | [],_,[]=>true
 | f :: fs, o, k :: ks => !(f.name == "_") && (Nat.beq f.offset o && (BK P k f.type && nB P fs (o + 1) ks))
 | _,_,_=>false
def ni {P : Program} : ∀ {fs : List Field} {o : Nat} {ks : List K}, nB P fs o ks = true -> fs.length = ks.length /\ ∀ (j : Nat) (f : Field), fs[j]? = some f -> f.name ≠ "_" /\ f.offset = o + j /\ ∃ d', P.underlying f.type = some d' /\ ((∃ ik, ks[j]? = some (.int ik) /\ d' = .int ik) ∨ (ks[j]? = some .bool /\ d' = .bool) ∨ (ks[j]? = some .str /\ d' = .string))
 | [],o,[],_=>⟨rfl,fun j f hj=>by simp at hj⟩
 | [],o,_::_,h=>by cases h
 | _::_,o,[],h=>by cases h
 | f::fs,o,k::ks,h=>by
  simp only [nB,Bool.and_eq_true,Bool.not_eq_true'] at h
  obtain ⟨h1,h2,h3,h4⟩:=h
  obtain ⟨g1,g2⟩:=ni h4
  refine ⟨by simp [g1],fun j g hj=>?_⟩
  cases j with
  | zero=>
   simp at hj
   subst hj
   refine ⟨by simpa using h1,Nat.eq_of_beq_eq_true h2,?_⟩
   unfold BK at h3
   split at h3
   ·rename_i ik hu
    split at h3
    ·rename_i jk;exact ⟨_,hu,.inl ⟨ik,by simp [iE h3],rfl⟩⟩
    ·cases h3
   ·rename_i hu
    split at h3
    ·exact ⟨_,hu,.inr (.inl ⟨rfl,rfl⟩)⟩
    ·cases h3
   ·rename_i hu
    split at h3
    ·exact ⟨_,hu,.inr (.inr ⟨rfl,rfl⟩)⟩
    ·cases h3
   ·cases h3
  | succ j=>
   obtain ⟨q1,q2,q3⟩:=g2 j g (by simpa using hj)
   exact ⟨q1,by omega,by simpa using q3⟩
def CB (P:Program)(t:Nat)(i:TI)(d:TypeDesc):Bool:=
 !i.eqv||(!i.agg||(match d with | .struct fs=>!P.stoodInHeld t&&(!P.eqGuardType P.depth t&&nB P fs.toList 0 i.cells) | _=>false))
def Bn (P:Program)(T:Nat->Option TI)(t:Nat)(i:TI):Bool:=
 match P.info? t with
 | some ii=>match P.underlying t with
  | some d=>match ii.zero with
   | some z=>Nat.beq ii.size i.cells.length&&(Nat.beq ii.bytes i.bytes&&(Nat.blt 0 i.cells.length&&(Nat.blt 0 i.bytes&&(uW z.cells.toList i.cells&&(
     (cond i.agg (match d with | .struct fs=>lQ P T fs.toList i.fields 0 i.cells | _=>false) (!jg d&&(Nat.beq i.cells.length 1&&i.fields.isEmpty)))&&(DO T i d&&(yp i d&&CB P t i d)))))))
   | none=>false
  | none=>false
 | none=>false
def sK {P:Program}{E:Env}{t:Nat}{i:TI}(h:Bn P E.T t i=true):gJ P E t i:=by
 unfold Bn at h
 split at h
 case h_2=>cases h
 rename_i ii hii
 split at h
 case h_2=>cases h
 rename_i d hd
 split at h
 case h_2=>cases h
 rename_i z hz
 simp only [Bool.and_eq_true] at h
 obtain ⟨h1,h2,h3,h4,h5,h6,h7,h8,h9⟩:=h
 refine ⟨ii,d,z,hii,hd,hz,Nat.eq_of_beq_eq_true h1,Nat.eq_of_beq_eq_true h2,Nat.blt_eq.mp h3,Nat.blt_eq.mp h4,tU h5,?_,?_,?_,?_,?_,?_,?_,?_,?_⟩
 ·cases ha:i.agg<;>simp only [ha,aZ,aX] at h6
  ·simp only [Bool.and_eq_true,Bool.not_eq_true'] at h6;exact h6.1
  ·split at h6
   ·rfl
   ·cases h6
 ·intro ha
  simp only [ha,aX,Bool.and_eq_true,List.isEmpty_iff] at h6
  exact ⟨Nat.eq_of_beq_eq_true h6.2.1,h6.2.2⟩
 ·intro ha
  simp only [ha,aZ] at h6
  split at h6
  ·rename_i fs
   obtain ⟨places,g1,g2,g3⟩:=jK h6
   refine ⟨fs,rfl,fun f p hp=>?_⟩
   obtain ⟨fl,ti,q1,q2,q3,q4,_⟩:=g3 f p hp
   exact ⟨fl,by simpa using q1,q2,q3,ti,q4⟩
  ·cases h6
 ·intro fs hfs
  subst hfs
  cases ha:i.agg<;>simp only [ha,aZ,aX] at h6
  ·simp [jg] at h6
  ·obtain ⟨places,g1,g2,g3⟩:=jK h6
   refine ⟨places,g1,fun f p hp=>?_⟩
   obtain ⟨fl,ti,q1,q2,q3,q4,q5,_⟩:=g3 f p hp
   exact q5
 ·intro e he
  simp only [DO,he] at h7
  split at h7
  ·simp only [Bool.and_eq_true] at h7
   rw [Nat.eq_of_beq_eq_true h7.1]
   refine ⟨rfl,Option.isSome_iff_exists.1 ?_⟩
   rw [<-Nat.eq_of_beq_eq_true h7.1];exact h7.2
  ·cases h7
 ·intro ha k hk
  simp only [yp,ha,Bool.false_or,hk] at h8
  split at h8
  ·rw [iE h8]
  ·cases h8
 ·intro ha hk
  simp only [yp,ha,Bool.false_or,hk] at h8
  split at h8
  ·rfl
  ·cases h8
 ·intro ha hk
  simp only [yp,ha,Bool.false_or,hk] at h8
  split at h8
  ·rfl
  ·cases h8
 ·intro he ha
  simp only [CB,he,ha,Bool.not_true,Bool.false_or] at h9
  split at h9
  ·rename_i fs
   simp only [Bool.and_eq_true,Bool.not_eq_true'] at h9
   obtain ⟨g1,g2⟩:=ni h9.2.2
   exact ⟨fs,rfl,h9.1,h9.2.1,by simpa using g1,fun j f hj=>by
    obtain ⟨q1,q2,q3⟩:=g2 j f (by simpa using hj)
    exact ⟨q1,by omega,q3⟩⟩
  ·cases h9
def fm (P:Program)(l:List (Nat×TI)):Bool:=l.all fun p=>Bn P (assoc l) p.1 p.2
def mV {P:Program}{l:List (Nat×TI)}{E:Env}(hE:E.T=assoc l)(h:fm P l=true):∀t i,E.T t=some i->gJ P E t i:=by
 intro t i ht
 rw [hE] at ht
 simp only [fm,List.all_eq_true] at h
 have:=h (t,i) (qj ht)
 rw [<-hE] at this
 exact sK this
abbrev dV (T:List (Nat×TI)):Env:={ T:=assoc T,G:=fun _=>[],nt:=0 }
def dK:List (Nat×gh)->Nat->List gh
 | [],_=>[]
 | (k,c)::l,g=>bif Nat.beq k g then c::dK l g else dK l g
inductive fY (P:Program)(E:Env):List (Nat×gh)->Prop where
 | nil:fY P E []
 | cons {g c l}:Valid P E g c->fY P E l->fY P E ((g,c)::l)
def fY.get {P:Program}{E:Env}:∀{l:List (Nat×gh)},fY P E l->∀g c,c∈dK l g->Valid P E g c
 | _,.nil,g,c,h=>by cases h
 | (k,u)::l,.cons hv ht,g,c,h=>by
  simp only [dK] at h
  cases hb:Nat.beq k g<;>simp only [hb,aZ,aX] at h
  ·exact ht.get g c h
  ·rcases List.mem_cons.1 h with rfl | h
   ·rw [<-Nat.eq_of_beq_eq_true hb];exact hv
   ·exact ht.get g c h
def iy:∀{l:List Nat},fO l=true->l.Nodup
 | [],_=>List.nodup_nil
 | a::l,h=>by
  simp only [fO,Bool.and_eq_true,List.all_eq_true,Bool.not_eq_true'] at h
  refine List.nodup_cons.2 ⟨fun hm=>?_,iy h.2⟩
  have:=h.1 a hm
  simp at this
def Valid.env {P:Program}{E E':Env}(he:E.T=E'.T){g:FuncId}{c:gh}(h:Valid P E g c):Valid P E' g c:=by
 have :E.cells=E'.cells:=by funext t;simp [Env.cells,he]
 unfold Valid at *
 rw [<-this];exact h
def fY.env {P:Program}{E E':Env}(he:E.T=E'.T){l:List (Nat×gh)}(h:fY P E l):fY P E' l:=by
 induction h with
 | nil=>exact .nil
 | cons hv _ ih=>exact .cons (hv.env he) ih
def sU (fn:Func)(aT:gh)(nt:Nat):Bool:=
 !(fn.name == "runtime.NumGoroutine") && (fn.body.isSome && (aT.res.pX && (fO (cY (bI fn)) && Nat.beq (aT.args.length + (fn.ntmps - aT.args.length)) nt)))
def gm:List (Nat×gX)->Nat->List gX
 | [],_=>[]
 | (k,c)::l,g=>bif Nat.beq k g then c::gm l g else gm l g
inductive jV (P:Program)(E:Env):List (Nat×gX)->Prop where
 | nil:jV P E []
 | cons {g c l}:fD P E g c->jV P E l->jV P E ((g,c)::l)
def jV.get {P:Program}{E:Env}:∀{l:List (Nat×gX)},jV P E l->∀g c,c∈gm l g->fD P E g c
 | _,.nil,g,c,h=>by cases h
 | (k,u)::l,.cons hv ht,g,c,h=>by
  simp only [gm] at h
  cases hb:Nat.beq k g<;>simp only [hb,aZ,aX] at h
  ·exact ht.get g c h
  ·rcases List.mem_cons.1 h with rfl | h
   ·rw [<-Nat.eq_of_beq_eq_true hb];exact hv
   ·exact ht.get g c h
def fD.env {P:Program}{E E':Env}(he:E.T=E'.T){g:FuncId}{c:gX}(h:fD P E g c):fD P E' g c:=by
 have :E.cells=E'.cells:=by funext t;simp [Env.cells,he]
 unfold fD at *
 rw [<-this];exact h
def jV.env {P:Program}{E E':Env}(he:E.T=E'.T){l:List (Nat×gX)}(h:jV P E l):jV P E' l:=by
 induction h with
 | nil=>exact .nil
 | cons hv _ ih=>exact .cons (hv.env he) ih
def uL {mt:Bool}{P:Program}{T:List (Nat×TI)}{G:List (Nat×gh)}{S:List (Nat×gX)}{nt:Nat}{g:FuncId}{fn:Func}{aT:gh}(hm:P.follows .mixedOrders=true)(hT:fm P T=true)(hG:fY P (dV T) G)(hS:jV P (dV T) S)
  (hf:P.funcs[g]?=some fn) (hb:sU fn aT nt=true) (live:Nat->Live)
  (h:∀ls r,sA (dV T).cells aT.args ls->aT.sem ls=some r->∃n,eY { T:=assoc T,G:=dK G,nt:=nt,M:=gm S,mt:=mt } live fn aT.res n (dF aT.args ls)=some r):Valid P (dV T) g aT:=by
 simp only [sU,Bool.and_eq_true,Bool.not_eq_true'] at hb
 obtain ⟨b1,b2,b3,b4,b5⟩:=hb
 obtain ⟨c,hc⟩:=Option.isSome_iff_exists.1 b2
 have hbody:bI fn=c:=by simp [bI,hc]
 have hT':∀t i,({ T:=assoc T,G:=dK G,nt:=nt,M:=gm S,mt:=mt }:Env).T t=some i->gJ P { T:=assoc T,G:=dK G,nt:=nt,M:=gm S,mt:=mt } t i:=mV (E:={ T:=assoc T,G:=dK G,nt:=nt,M:=gm S,mt:=mt }) rfl hT
 have hG':∀g c,c∈({ T:=assoc T,G:=dK G,nt:=nt,M:=gm S,mt:=mt }:Env).G g->Valid P { T:=assoc T,G:=dK G,nt:=nt,M:=gm S,mt:=mt } g c:=(fY.env (E:=dV T) (E':={ T:=assoc T,G:=dK G,nt:=nt,M:=gm S,mt:=mt }) rfl hG).get
 have hS':∀g c,c∈({ T:=assoc T,G:=dK G,nt:=nt,M:=gm S,mt:=mt }:Env).M g->fD P { T:=assoc T,G:=dK G,nt:=nt,M:=gm S,mt:=mt } g c:=(jV.env (E:=dV T) (E':={ T:=assoc T,G:=dK G,nt:=nt,M:=gm S,mt:=mt }) rfl hS).get
 exact vI (E:={ T:=assoc T,G:=dK G,nt:=nt,M:=gm S,mt:=mt }) hT' hG' ⟨hS',fun _ _ h=>(nomatch h)⟩ (fun w0 M Z0 bQ=>wW hT' hG' ⟨hS',fun _ _ h=>(nomatch h)⟩ hm) rfl rfl hf b1 hc b3 (by rw [<-hbody];exact iy b4) (Nat.eq_of_beq_eq_true b5) live h
def mq:List (Nat×kD)->Nat->List kD
 | [],_=>[]
 | (k,c)::l,g=>bif Nat.beq k g then c::mq l g else mq l g
inductive oq (P:Program)(E:Env)(n:Nat):List (Nat×kD)->Prop where
 | nil:oq P E n []
 | cons {g c l}:gI P E n g c->oq P E n l->oq P E n ((g,c)::l)
def oq.get {P:Program}{E:Env}{n:Nat}:∀{l:List (Nat×kD)},oq P E n l->∀g c,c∈mq l g->gI P E n g c
 | _,.nil,g,c,h=>by cases h
 | (k,u)::l,.cons hv ht,g,c,h=>by
  simp only [mq] at h
  cases hb:Nat.beq k g<;>simp only [hb,aZ,aX] at h
  ·exact ht.get g c h
  ·rcases List.mem_cons.1 h with rfl | h
   ·rw [<-Nat.eq_of_beq_eq_true hb];exact hv
   ·exact ht.get g c h
def gI.env {P:Program}{E E':Env}(he:E.T=E'.T){n:Nat}{g:FuncId}{c:kD}(h:gI P E n g c):gI P E' n g c:=by
 have :E.cells=E'.cells:=by funext t;simp [Env.cells,he]
 unfold gI qA at *
 rw [<-this];exact h
def oq.env {P:Program}{E E':Env}(he:E.T=E'.T){n:Nat}{l:List (Nat×kD)}(h:oq P E n l):oq P E' n l:=by
 induction h with
 | nil=>exact .nil
 | cons hv _ ih=>exact .cons (hv.env he) ih
def CX (fn : Func) : Bool := !(fn.name == "runtime.NumGoroutine") && (fn.body.isSome && fO (cY (bI fn)))
section
variable {P:Program} {T:List (Nat×TI)} {G:List (Nat×gh)} {S:List (Nat×gX)} {I:List (Nat×kD)} {nt:Nat} {mt:Bool}
theorem Ax {n:Nat}{J:List Nat}{g:FuncId}{fn:Func}(hm:P.follows .mixedOrders=true)(hT:fm P T=true)(hG:fY P (dV T) G)(hS:jV P (dV T) S)(hI:oq P (dV T) n I)
  (hf:P.funcs[g]?=some fn) (hb:CX fn=true):gI P (dV T) n g (inl { T:=assoc T,G:=dK G,nt:=nt,M:=gm S,np:=n,mt:=mt,I:=mq I,J:=J } fn):=by
 simp only [CX,Bool.and_eq_true,Bool.not_eq_true'] at hb
 obtain ⟨b1,b2,b4⟩:=hb
 obtain ⟨c,hc⟩:=Option.isSome_iff_exists.1 b2
 have hbody:bI fn=c:=by simp [bI,hc]
 generalize hE:({ T:=assoc T,G:=dK G,nt:=nt,M:=gm S,np:=n,mt:=mt,I:=mq I,J:=J }:Env)=E
 have e1:E.T=assoc T:=by rw [<-hE]
 obtain rfl:n=E.np:=by rw [<-hE]
 have hS2:oD P E:=⟨by rw [<-hE];exact (jV.env (E:=dV T) rfl hS).get,fun g c h=>gI.env (E:=dV T) e1.symm (hI.get g c (by rw [<-hE] at h;exact h))⟩
 have hT':∀t i,E.T t=some i->gJ P E t i:=mV e1 hT
 have hG':∀g c,c∈E.G g->Valid P E g c:=by rw [<-hE];exact (fY.env (E:=dV T) rfl hG).get
 exact gI.env (E:=E) e1 (zg hT' hG' hS2 (fun w0 M Z0 bQ=>wW hT' hG' hS2 hm) hf b1 hc (by rw [<-hbody];exact iy b4))
theorem Bk {J:List Nat}{g:FuncId}{fn:Func}{aT:gh}(hm:P.follows .mixedOrders=true)(hT:fm P T=true)(hG:fY P (dV T) G)(hS:jV P (dV T) S)(hI:oq P (dV T) 0 I)
  (hf:P.funcs[g]?=some fn) (hb:sU fn aT nt=true) (live:Nat->Live)
  (h:∀ls r,sA (dV T).cells aT.args ls->aT.sem ls=some r->∃n,eY { T:=assoc T,G:=dK G,nt:=nt,M:=gm S,mt:=mt,I:=mq I,J:=J } live fn aT.res n (dF aT.args ls)=some r):Valid P (dV T) g aT:=by
 simp only [sU,Bool.and_eq_true,Bool.not_eq_true'] at hb
 obtain ⟨b1,b2,b3,b4,b5⟩:=hb
 obtain ⟨c,hc⟩:=Option.isSome_iff_exists.1 b2
 have hbody:bI fn=c:=by simp [bI,hc]
 generalize hE:({ T:=assoc T,G:=dK G,nt:=nt,M:=gm S,mt:=mt,I:=mq I,J:=J }:Env)=E at h
 have e1:E.T=assoc T:=by rw [<-hE]
 have hS2:oD P E:=⟨by rw [<-hE];exact (jV.env (E:=dV T) rfl hS).get,fun g c h=>by rw [<-hE] at h ⊢;exact (oq.env (E:=dV T) rfl hI).get g c h⟩
 have hT':∀t i,E.T t=some i->gJ P E t i:=mV e1 hT
 have hG':∀g c,c∈E.G g->Valid P E g c:=by rw [<-hE];exact (fY.env (E:=dV T) rfl hG).get
 have hcell:(dV T).cells=E.cells:=by funext t;simp [Env.cells,e1]
 rw [hcell] at h
 exact vI (E:=E) hT' hG' hS2 (fun w0 M Z0 bQ=>wW hT' hG' hS2 hm) e1 (by rw [<-hE]) hf b1 hc b3 (by rw [<-hbody];exact iy b4) (by rw [<-hE];exact Nat.eq_of_beq_eq_true b5) live h
end
def Cj (fn:Func)(aT:gX)(nt:Nat):Bool:=
 !(fn.name == "runtime.NumGoroutine") && (fn.body.isSome && (fO (cY (bI fn)) && Nat.beq (aT.args.length + (fn.ntmps - aT.args.length)) nt))
def Ch {P:Program}{T:List (Nat×TI)}{G:List (Nat×gh)}{S:List (Nat×gX)}{nt:Nat}{g:FuncId}{fn:Func}{aT:gX}(hm:P.follows .mixedOrders=true)(hT:fm P T=true)(hG:fY P (dV T) G)(hS:jV P (dV T) S)
  (hf:P.funcs[g]?=some fn) (hb:Cj fn aT nt=true) (live:Nat->Live)
  (h:∀ls r,AN (dV T).cells aT.args ls->aT.sem ls=some r->∃n,eY { T:=assoc T,G:=dK G,nt:=nt,M:=gm S,np:=(lW aT.args).length,mt:=true } live fn (.nR (lW aT.args)) n (ig aT.args ls)=some r):fD P (dV T) g aT:=by
 simp only [Cj,Bool.and_eq_true,Bool.not_eq_true'] at hb
 obtain ⟨b1,b2,b4,b5⟩:=hb
 obtain ⟨c,hc⟩:=Option.isSome_iff_exists.1 b2
 have hbody:bI fn=c:=by simp [bI,hc]
 generalize hE:({ T:=assoc T,G:=dK G,nt:=nt,M:=gm S,np:=(lW aT.args).length,mt:=true }:Env)=E at h
 have e1:E.T=assoc T:=by rw [<-hE]
 have e2:E.G=dK G:=by rw [<-hE]
 have e3:E.M=gm S:=by rw [<-hE]
 have hT':∀t i,E.T t=some i->gJ P E t i:=mV e1 hT
 have hG':∀g c,c∈E.G g->Valid P E g c:=by rw [e2];exact (fY.env (E:=dV T) (E':=E) e1.symm hG).get
 have hS':∀g c,c∈E.M g->fD P E g c:=by rw [e3];exact (jV.env (E:=dV T) (E':=E) e1.symm hS).get
 have hcell:(dV T).cells=E.cells:=by funext t;simp [Env.cells,e1]
 rw [hcell] at h
 have hS2:oD P E:=⟨hS',fun g c h=>by rw [<-hE] at h;exact (nomatch h)⟩
 exact yQ (E:=E) hT' hG' hS2 (fun w0 M Z0 bQ=>wW hT' hG' hS2 hm) e1 (by rw [<-hE]) hf b1 hc (by rw [<-hbody];exact iy b4) (by rw [<-hE];exact Nat.eq_of_beq_eq_true b5) live h
def valid {P:Program}{T:List (Nat×TI)}{G:List (Nat×gh)}{nt:Nat}{g:FuncId}{fn:Func}{aT:gh}(hm:P.follows .mixedOrders=true)(hT:fm P T=true)(hG:fY P (dV T) G)
  (hf:P.funcs[g]?=some fn) (hb:sU fn aT nt=true) (live:Nat->Live)
  (h:∀ls r,sA (dV T).cells aT.args ls->aT.sem ls=some r->∃n,eY { T:=assoc T,G:=dK G,nt:=nt } live fn aT.res n (dF aT.args ls)=some r):Valid P (dV T) g aT:=
 uL (S:=[]) hm hT hG .nil hf hb live h
end Go.DM
set_option linter.unusedSectionVars false
namespace Go.DM
inductive Wf (T:Nat->List K):K->L->Prop where
 | int (k:IntKind) (n:Int) (h:(Lit.int k n).wf=true):Wf T (.int k) (.int n)
 | bool (b:Bool):Wf T .bool (.bool b)
 | str (s:aE) (h:s.size<=maxLen):Wf T .str (.str s)
 | sl (e:Nat) (xs:aB) (h:xs.length<=maxLen) (hl:∀r∈xs,r.length=(T e).length) (hr:∀(r:List L) (j:Nat) (kk:K) (l:L),r∈xs->(T e)[j]?=some kk->r[j]?=some l->Wf T kk l):Wf T (.sl e) (.sl xs)
def kL {α:Type}{P:Nat->α->Prop}:∀(n:Nat),(∀j,j<n->∃x,P j x)->∃xs:List α,xs.length=n/\∀j,j<n->∃x,xs[j]?=some x/\P j x
 | 0,_=>⟨[],rfl,fun j h=>by omega⟩
 | n+1,h=>by
  obtain ⟨xs,h1,h2⟩:=kL n fun j hj=>h j (by omega)
  obtain ⟨x,hx⟩:=h n (by omega)
  refine ⟨xs++[x],by simp [h1],fun j hj=>?_⟩
  by_cases hjn:j<n
  ·obtain ⟨y,h3,h4⟩:=h2 j hjn
   exact ⟨y,by rw [List.getElem?_append_left (by omega)];exact h3,h4⟩
  ·have :j=n:=by omega
   subst this
   exact ⟨x,by rw [<-h1];simp,hx⟩
def nV {P:Program}{T:Nat->Option TI}:∀{fs:List Field} {ps:List (Nat×Nat)} {o:Nat} {ks:List K},lQ P T fs ps o ks=true->
  ∀l,l<ks.length->∃(j:Nat) (p:Nat×Nat) (ti:TI),ps[j]?=some p/\T p.2=some ti/\o<=p.1/\p.1 - o<=l/\l<p.1 - o+ti.cells.length
 | [],[],o,[],_,l,h=>by simp at h
 | [],[],o,_::_,h,_,_=>by cases h
 | [],_::_,o,ks,h,_,_=>by cases h
 | _::_,[],o,ks,h,_,_=>by cases h
 | f::fs,p::ps,o,ks,h,l,hl=>by
  simp only [lQ,Bool.and_eq_true] at h
  obtain ⟨h1,h2,h3,h4⟩:=h
  split at h4
  ·rename_i fi hfi
   split at h4
   ·rename_i ti hti
    simp only [Bool.and_eq_true] at h4
    obtain ⟨h5,h6,h7⟩:=h4
    have e3:=Nat.eq_of_beq_eq_true h3
    by_cases hlt:l<ti.cells.length
    ·exact ⟨0,p,ti,rfl,hti,by omega,by omega,by omega⟩
    ·obtain ⟨j,q,tq,g1,g2,g3,g4,g5⟩:=nV h7 (l - ti.cells.length) (by rw [List.length_drop];omega)
     exact ⟨j+1,q,tq,by simpa using g1,g2,by omega,by omega,by omega⟩
   ·cases h4
  ·cases h4
section
variable {H:Type} {enc:TypeId×Value->H} {P:Program} {w:World} {spare:Nat->Bool} {held:Bool} {E:Env}
theorem Bc (hB:∀t i,E.T t=some i->Bn P E.T t i=true):∀(n:Nat) {t:Nat} {i:TI} {cs:List Value} {x:DataW H×List MemPlace},E.T t=some i->DataW.trod enc P w 0 spare held n t cs=some x->
  cs.length=i.cells.length/\∀(j:Nat) (kk:K),i.cells[j]?=some kk->∃(l:L) (v:Value),cs[j]?=some v/\Rd E.cells w (fun b=>b<w.heap.size) kk v l/\Wf E.cells kk l:=by
 intro n
 induction n with
 | zero=>intro t i cs x _ h;simp [DataW.trod] at h
 | succ n ih=>
  intro t i cs x ht h
  have hb:=hB t i ht
  obtain ⟨ii,d,z,k1,k2,k3,k4,k5,k6,kby,k7,k8,k9,k10,kpl,k11,k12,th,tj,k15⟩:=sK (E:=E) hb
  cases ha:i.agg with
  | false=>
   obtain ⟨hl1,_⟩:=k9 ha
   match hc:i.cells,hl1 with
   | [.int k],_=>
    obtain ⟨m,rfl,_,hw⟩:=DataW.trod_int (k12 ha k hc ▸ k2) h
    exact ⟨rfl,fun j kk hj=>by
     cases j with
     | zero=>simp at hj;subst hj;exact ⟨.int m,_,rfl,Rd.int k (.int m),Wf.int k m hw⟩
     | succ j=>simp at hj⟩
   | [.bool],_=>
    obtain ⟨b,rfl,_⟩:=DataW.trod_bool (th ha hc ▸ k2) h
    exact ⟨rfl,fun j kk hj=>by
     cases j with
     | zero=>simp at hj;subst hj;exact ⟨.bool b,_,rfl,Rd.bool (.bool b),Wf.bool b⟩
     | succ j=>simp at hj⟩
   | [.str],_=>
    obtain ⟨s,rfl,_,hs⟩:=DataW.trod_string (tj ha hc ▸ k2) h
    exact ⟨rfl,fun j kk hj=>by
     cases j with
     | zero=>simp at hj;subst hj;exact ⟨.str s,_,rfl,Rd.str (.str s),Wf.str s hs⟩
     | succ j=>simp at hj⟩
   | [.sl e],_=>
    have hel:i.el=some e:=by simp [TI.el,ha,hc]
    obtain ⟨rfl,ie,hie⟩:=k11 e hel
    have hce:P.cellsOf e=ie.cells.length/\0<ie.cells.length:=by
     obtain ⟨ii',d',z',q1,q2,q3,q4,q5,q6,_⟩:=sK (E:=E) (hB e ie hie)
     exact ⟨by simp [Program.cellsOf,q1,q4],q6⟩
    have hEe:E.cells e=ie.cells:=iF hie
    have fin:∀(l:L) (v:Value),cs=[v]->Rd E.cells w (fun b=>b<w.heap.size) (.sl e) v l->Wf E.cells (.sl e) l->
      cs.length=[K.sl e].length/\∀(j:Nat) (kk:K),[K.sl e][j]?=some kk->∃(l:L) (v:Value),cs[j]?=some v/\Rd E.cells w (fun b=>b<w.heap.size) kk v l/\Wf E.cells kk l:=by
     intro l v hv h1 h2
     subst hv
     exact ⟨rfl,fun j kk hj=>by
      cases j with
      | zero=>simp at hj;subst hj;exact ⟨l,_,rfl,h1,h2⟩
      | succ j=>simp at hj⟩
    rcases DataW.trod_slice k2 h with ⟨hv,_⟩ | ⟨a,len,cap,elems,rest,m,hm,hv,_,hb0,hlc,hcm,hlen,hel',_,_⟩
    ·exact fin (.sl []) _ hv (.nil _ _ _ _ rfl) (.sl e [] (by simp) (fun r hr=>by cases hr) (fun r j kk l hr=>by cases hr))
    ·have hm':m=n:=by omega
     subst hm'
     have each:∀i',i'<len->∃rc:List L×List Value,rc.1.length=ie.cells.length/\(∀j,j<ie.cells.length->w.cell? (a.add (i'*ie.cells.length) |>.add j)=rc.2[j]?)/\
       ∀(j:Nat) (kk:K),ie.cells[j]?=some kk->∃(l:L) (v:Value),rc.1[j]?=some l/\rc.2[j]?=some v/\Rd E.cells w (fun b=>b<w.heap.size) kk v l/\Wf E.cells kk l:=by
      intro i' hi'
      have h1:=hel' i' hi'
      rw [List.getElem?_eq_getElem (by omega)] at h1
      obtain ⟨cs',h2,h3⟩:=Option.bind_eq_some_iff.1 h1
      obtain ⟨_,h4,h5⟩:=World.cells?_some h2
      obtain ⟨h6,h7⟩:=ih hie h3
      obtain ⟨row,r1,r2⟩:=kL (P:=fun j l=>∃v,cs'[j]?=some v/\∀kk,ie.cells[j]?=some kk->Rd E.cells w (fun b=>b<w.heap.size) kk v l/\Wf E.cells kk l) ie.cells.length (fun j hj=>by
       have hk:=List.getElem?_eq_getElem hj
       obtain ⟨l,v,e1,e2,e3⟩:=h7 j _ hk
       exact ⟨l,v,e1,fun kk hkk=>by rw [hk] at hkk;injection hkk with hkk;subst hkk;exact ⟨e2,e3⟩⟩)
      refine ⟨(row,cs'),r1,fun j hj=>?_,fun j kk hj=>?_⟩
      ·rw [hce.1] at h5;exact h5 j (by omega)
      ·obtain ⟨l,e1,v,e2,e3⟩:=r2 j (List.getElem?_eq_some_iff.1 hj).1
       exact ⟨l,v,e1,e2,e3 kk hj⟩
     obtain ⟨rows,g1,g2⟩:=kL len each
     have hwf:Wf E.cells (.sl e) (.sl (rows.map (·.1))):=by
      refine .sl e _ (by simp [g1];omega) (fun r hr=>?_) (fun r j kk l hr hj hl=>?_)
      ·obtain ⟨rc,hrc,rfl⟩:=List.mem_map.1 hr
       obtain ⟨i',hi'⟩:=List.getElem?_of_mem hrc
       obtain ⟨rc',h1,h2,_⟩:=g2 i' (by rw [<-g1];exact (List.getElem?_eq_some_iff.1 hi').1)
       rw [hi'] at h1;injection h1 with h1;subst h1
       rw [h2,hEe]
      ·obtain ⟨rc,hrc,rfl⟩:=List.mem_map.1 hr
       obtain ⟨i',hi'⟩:=List.getElem?_of_mem hrc
       obtain ⟨rc',h1,h2,_,h3⟩:=g2 i' (by rw [<-g1];exact (List.getElem?_eq_some_iff.1 hi').1)
       rw [hi'] at h1;injection h1 with h1;subst h1
       rw [hEe] at hj
       obtain ⟨l',v,e1,_,_,e3⟩:=h3 j kk hj
       rw [hl] at e1;injection e1 with e1;subst e1
       exact e3
     refine fin (.sl (rows.map (·.1))) _ hv ?_ hwf
     rcases Nat.eq_zero_or_pos len with h0 | hpos
     ·subst h0
      exact .nil _ _ _ _ (by simp only [L.dP];rw [List.eq_nil_of_length_eq_zero g1];rfl)
     ·
      obtain ⟨rc0,h1,h2,h3,h4⟩:=g2 0 hpos
      have hk0:=List.getElem?_eq_getElem hce.2
      obtain ⟨l0,v0,e1,e2,e3,_⟩:=h4 0 _ hk0
      have hc0:=h3 0 hce.2
      rw [e2] at hc0
      obtain ⟨b,o,spot⟩:=a
      have hspot:spot=none:=by simpa [Addr.add] using World.cell?_spot hc0
      subst hspot
      have hblt:b<w.heap.size:=by simpa [Addr.add] using block_lt_of_cell hc0
      refine .sl e len cap b o _ (fun i' j=>(((rows.getD i' ([],[])).2).getD j Go.undef)) (by simp [L.dP,g1]) hlc (Nat.le_trans hlc hcm) hblt (fun i' j kk hi' hj=>?_) (fun i' j kk hi' hj=>?_)
      ·rw [hEe] at hj ⊢
       obtain ⟨rc,q1,q2,q3,q4⟩:=g2 i' hi'
       obtain ⟨l,v,p1,p2,p3,p4⟩:=q4 j kk hj
       have:=q3 j (List.getElem?_eq_some_iff.1 hj).1
       rw [p2,Addr.add_lit,Addr.add_lit,Nat.add_assoc] at this
       rw [this]
       simp [List.getD_eq_getElem?_getD,q1,p2]
      ·rw [hEe] at hj
       obtain ⟨rc,q1,q2,q3,q4⟩:=g2 i' hi'
       obtain ⟨l,v,p1,p2,p3,p4⟩:=q4 j kk hj
       have e1:((rows.getD i' ([],[])).2).getD j Go.undef=v:=by simp [List.getD_eq_getElem?_getD,q1,p2]
       have e2:((L.sl (rows.map (·.1))).dP.getD i' []).getD j .hole=l:=by simp [L.dP,List.getD_eq_getElem?_getD,q1,p1]
       show Rd E.cells w _ kk (((rows.getD i' ([],[])).2).getD j Go.undef) _
       rw [e1,e2];exact p3
  | true=>
   obtain ⟨fs,rfl,_⟩:=k10 ha
   have hcells:P.cellsOf t=i.cells.length:=by simp [Program.cellsOf,k1,k4]
   have hfb:lQ P E.T fs.toList i.fields 0 i.cells=true:=by
    have hb':=hb
    unfold Bn at hb'
    simp only [k1,k2,k3,ha,aZ,Bool.and_eq_true] at hb'
    exact hb'.2.2.2.2.2.1
   obtain ⟨xs,m,hm,_,hl,hxs,hf⟩:=DataW.trod_struct k2 h
   have hm':m=n:=by omega
   subst hm'
   refine ⟨by rw [hl,hcells],fun j kk hj=>?_⟩
   obtain ⟨f,p,ti,c1,c2,c3,c4,c5⟩:=nV hfb j (List.getElem?_eq_some_iff.1 hj).1
   obtain ⟨places,_,hfl,hsp⟩:=jK (E:=E) hfb
   obtain ⟨fl,ti',q1,q2,q3,q4,q5,q6,q7,q8,q9⟩:=hsp f p c1
   rw [c2] at q4;injection q4 with q4;subst q4
   have hfs:fs[f]?=some fl:=by simpa using q1
   have htrod:=hf f fl hfs
   have hxl:f<xs.length:=by
    rw [hxs];exact (Array.getElem?_eq_some_iff.1 hfs).1
   rw [List.getElem?_eq_getElem hxl,q3,q2] at htrod
   obtain ⟨_,h2⟩:=ih c2 htrod
   have hkk:ti.cells[j - p.1]?=some kk:=by
    have hlt:j - p.1<ti.cells.length:=by omega
    have hg:=List.getElem?_eq_getElem hlt
    have:=q8 _ _ hg
    rw [show p.1 - 0+(j - p.1)=j by omega,hj] at this
    rw [hg];exact this.symm
   obtain ⟨l,v,e1,e2,e3⟩:=h2 (j - p.1) kk hkk
   refine ⟨l,v,?_,e2,e3⟩
   rw [List.getElem?_take] at e1
   split at e1
   ·rw [List.getElem?_drop] at e1
    rw [<-e1];congr 1;omega
   ·cases e1
end
end Go.DM
set_option linter.unusedSectionVars false
namespace Go.DM
open Go.ChangeShapes Go.WideShapes Go.RowKit
def qd (T:Nat->Option TI)(t:Nat):gK:=match T t with
 | some i=>bif i.agg then .agg i.cells else .rd (i.cells.headD .bool)
 | none=>.rd .bool
def xH (T:Nat->Option TI)(ts:List Nat)(sem:List L->Option (List L)):gh:=⟨ts.map (qd T),.one (.rd .bool),sem⟩
def eg (T:Nat->List K)(ks:List K)(ls:List L):Prop:=ls.length=ks.length/\∀(j:Nat) (k:K),ks[j]?=some k->∃l,ls[j]?=some l/\Wf T k l
def eg.append {T:Nat->List K}{a b:List K}{x y:List L}(h:eg T a x)(k:eg T b y):eg T (a++b) (x++y):=by
 refine ⟨by simp [h.1,k.1],fun j kk hj=>?_⟩
 by_cases hl:j<a.length
 ·rw [List.getElem?_append_left hl] at hj
  obtain ⟨l,e1,e2⟩:=h.2 j kk hj
  exact ⟨l,by rw [List.getElem?_append_left (by rw [h.1];exact hl)];exact e1,e2⟩
 ·rw [List.getElem?_append_right (by omega)] at hj
  obtain ⟨l,e1,e2⟩:=k.2 _ kk hj
  exact ⟨l,by rw [List.getElem?_append_right (by rw [h.1];omega),h.1];exact e1,e2⟩
section
variable {H:Type} {enc:TypeId×Value->H} {P:Program} {W:World} {E:Env} {r:Reach} {b0:Nat}
theorem zw (hB:∀t i,E.T t=some i->Bn P E.T t i=true){t:Nat}{i:TI}(ht:E.T t=some i){v:Value}{d:DataW H}{ps:List MemPlace}(h:DataW.Trod enc P W 0 (fun _=>true) true t v d ps)(hv:Value.okWide P W r b0 t v) :
  ∃ls,eg E.cells i.cells ls/\∀rest,V2 E.cells W (A0 (fun _=>True) W) (zZ (qd E.T t) (ls++rest)) v:=by
 obtain ⟨fuel,hf⟩:=h
 obtain ⟨h1,h2⟩:=Bc hB fuel ht hf
 obtain ⟨ls,g1,g2⟩:=kL (P:=fun j l=>∃x,v.cells.toList[j]?=some x/\∀kk,i.cells[j]?=some kk->Rd E.cells W (fun b=>b<W.heap.size) kk x l/\Wf E.cells kk l) i.cells.length (fun j hj=>by
  have hk:=List.getElem?_eq_getElem hj
  obtain ⟨l,x,e1,e2,e3⟩:=h2 j _ hk
  exact ⟨l,x,e1,fun kk hkk=>by rw [hk] at hkk;injection hkk with hkk;subst hkk;exact ⟨e2,e3⟩⟩)
 have hz:∀b,b<W.heap.size->fq W (A0 (fun _=>True) W) b:=fun b hb=>⟨.inl trivial,hb,fun _ h=>h⟩
 have hrd:∀(j:Nat) (kk:K),i.cells[j]?=some kk->∃(l:L) (x:Value),ls[j]?=some l/\v.cells.toList[j]?=some x/\Rd E.cells W (fq W (A0 (fun _=>True) W)) kk x l/\Wf E.cells kk l:=by
  intro j kk hj
  obtain ⟨l,e1,x,e2,e3⟩:=g2 j (List.getElem?_eq_some_iff.1 hj).1
  exact ⟨l,x,e1,e2,(e3 kk hj).1.mono hz,(e3 kk hj).2⟩
 refine ⟨ls,⟨g1,fun j k hj=>?_⟩,fun rest=>?_⟩
 ·obtain ⟨l,x,e1,_,_,e4⟩:=hrd j k hj
  exact ⟨l,e1,e4⟩
 ·obtain ⟨ii,dd,z,k1,k2,k3,k4,k5,k6,kby,k7,k8,k9,k10,kpl,k11,k12,th,tj,k15⟩:=sK (E:=E) (hB t i ht)
  have hF:=rE (T:=E.cells) (w:=W) (A:=A0 (fun _=>True) W) (d:=none) (fun r hr=>(nomatch hr)) i.cells ls (fun j=>v.cells.toList.getD j Go.undef) (fun j kk hj=>by
   obtain ⟨l,x,e1,e2,e3,_⟩:=hrd j kk hj
   rw [List.getD_eq_getElem?_getD,e2,List.getD_eq_getElem?_getD,e1];exact e3)
  rw [sk h1] at hF
  have hp:qd E.T t=bif i.agg then .agg i.cells else .rd (i.cells.headD .bool):=by simp [qd,ht]
  rw [hp]
  cases ha:i.agg with
  | true=>
   show V2 E.cells W _ (.agg (nX none i.cells (ls++rest))) v
   obtain ⟨fs,rfl,_⟩:=k10 ha
   obtain ⟨cs,rfl,_⟩:=okWide_struct k2 hv
   rw [mL _ _ _ _ g1]
   exact V1.v2 (v:=.agg _) ⟨cs.toList,by simp,hF⟩
  | false=>
   show V2 E.cells W _ (AM none (i.cells.headD .bool) ((ls++rest).headD .hole)) v
   obtain ⟨hl1,_⟩:=k9 ha
   have hone:∃x,v=x/\v.cells=#[x]:=by
    match hc:i.cells,hl1 with
    | [.int k],_=>obtain ⟨n,rfl⟩:=okWide_int (k12 ha k hc ▸ k2) hv;exact ⟨_,rfl,rfl⟩
    | [.bool],_=>obtain ⟨n,rfl⟩:=okWide_bool (th ha hc ▸ k2) hv;exact ⟨_,rfl,rfl⟩
    | [.str],_=>obtain ⟨n,rfl⟩:=okWide_string (tj ha hc ▸ k2) hv;exact ⟨_,rfl,rfl⟩
    | [.sl e],_=>
     have hel:i.el=some e:=by simp [TI.el,ha,hc]
     obtain ⟨rfl,_⟩:=k11 e hel
     obtain ⟨a,n,c,rfl⟩:=okWide_slice k2 hv;exact ⟨_,rfl,rfl⟩
   obtain ⟨x,rfl,hcx⟩:=hone
   match hc:i.cells,hl1 with
   | [k],_=>
    obtain ⟨l,y,e1,e2,e3,_⟩:=hrd 0 k (by rw [hc];rfl)
    rw [hcx] at e2
    simp at e2
    subst e2
    have :(ls++rest).headD .hole=l:=by
     rw [hU,List.getD_eq_getElem?_getD,List.getElem?_append_left (by rw [g1,hc];simp),e1];rfl
    rw [this]
    exact (uG (fun r hr=>by cases hr) e3).v2
theorem Be (hB:∀t i,E.T t=some i->Bn P E.T t i=true){t:Nat}{i:TI}(ht:E.T t=some i):(qd E.T t).n=i.cells.length:=by
 have hp:qd E.T t=bif i.agg then .agg i.cells else .rd (i.cells.headD .bool):=by simp [qd,ht]
 rw [hp]
 cases ha:i.agg with
 | true=>rfl
 | false=>
  obtain ⟨ii,dd,z,k1,k2,k3,k4,k5,k6,kby,k7,k8,k9,_⟩:=sK (E:=E) (hB t i ht)
  rw [(k9 ha).1];rfl
theorem tY (hB:∀t i,E.T t=some i->Bn P E.T t i=true):∀{ts:List Nat} {vs:List Value} {ds:List (DataW H)} {ps:List MemPlace},(∀t∈ts,(E.T t).isSome=true)->DataW.TrodAll enc P W 0 (fun _=>true) true ts vs ds ps->
  (∀(j:Nat) (t:TypeId) (v:Value),ts[j]?=some t->vs[j]?=some v->Value.okWide P W r b0 t v)->∃ls,eg E.cells (ts.flatMap E.cells) ls/\F2 (V2 E.cells W (A0 (fun _=>True) W)) (kT (ts.map (qd E.T)) ls) vs
 | [],[],ds,ps,_,_,_=>⟨[],⟨rfl,fun j k hj=>by simp at hj⟩,.nil⟩
 | [],_::_,[],ps,_,h,_=>h.elim
 | [],_::_,_::_,ps,_,h,_=>h.elim
 | _::_,[],[],ps,_,h,_=>h.elim
 | _::_,[],_::_,ps,_,h,_=>h.elim
 | _::_,_::_,[],ps,_,h,_=>h.elim
 | t::ts,v::vs,d::ds,ps,hs,⟨p,q,h1,h2,_⟩,hv=>by
  obtain ⟨i,hi⟩:=Option.isSome_iff_exists.1 (hs t (by simp))
  obtain ⟨a,g1,g2⟩:=zw hB hi h1 (hv 0 t v rfl rfl)
  obtain ⟨b,g3,g4⟩:=tY hB (fun t ht=>hs t (by simp [ht])) h2 (fun j t v h h'=>hv (j+1) t v (by simpa using h) (by simpa using h'))
  have hc:E.cells t=i.cells:=iF hi
  refine ⟨a++b,by rw [List.flatMap_cons,hc];exact g1.append g3,?_⟩
  refine .cons (g2 b) ?_
  rw [Be hB hi,<-g1.1,iU,List.drop_left]
  exact g4
theorem nS (hl:laidOutB P=true){W':World}(hb:Below W.heap.size W W'):∀{ts:List Nat} {vs:List Value} {ds:List (DataW H)} {ps:List MemPlace},(ts.all fun t=>P.readableRec t&&decide (t<P.types.size))=true->
  DataW.TrodAll enc P W 0 (fun _=>true) true ts vs ds ps->DataW.TrodAll enc P W' 0 (fun b=>decide (b<W.heap.size)) true ts vs ds ps
 | [],[],[],ps,_,h=>h
 | [],_::_,[],ps,_,h=>h.elim
 | [],[],_::_,ps,_,h=>h.elim
 | [],_::_,_::_,ps,_,h=>h.elim
 | _::_,[],[],ps,_,h=>h.elim
 | _::_,[],_::_,ps,_,h=>h.elim
 | _::_,_::_,[],ps,_,h=>h.elim
 | t::ts,v::vs,d::ds,ps,hs,⟨p,q,h1,h2,h3⟩=>by
  simp only [List.all_cons,Bool.and_eq_true,decide_eq_true_eq] at hs
  refine ⟨p,q,Below.trod hl hs.1.1 hs.1.2 h1 hb ?_,nS hl hb (by simpa using hs.2) h2,h3⟩
  obtain ⟨fuel,hf⟩:=h1
  exact DataW.trod_lt fuel _ _ _ hf
theorem yL {g:FuncId}{ts:List Nat}{sem:List L->Option (List L)}(hV:Valid P E g (xH E.T ts sem)){ls:List L}{vs:List Value}(hs:sem ls=some [.bool true])
  (hf:F2 (V2 E.cells W (A0 (fun _=>True) W)) (kT (ts.map (qd E.T)) ls) vs):Calls P g vs.toArray W fun e W'=>e=.returned (.bool true)/\Below W.heap.size W W':=by
 refine (hV.2.2 ls _ W vs (fun _=>True) hs hf).mono fun e W' ⟨rv,A',h1,h2,_,_,_,h3⟩=>?_
 have :rv=.bool true:=h3
 subst this
 exact ⟨h1,⟨h2.os,h2.tape,h2.output,h2.size,fun k hk=>h2.block k hk (fun h=>h)⟩⟩
end
end Go.DM
namespace Go.DM
def iter {Pt:Type}(step:(Pt->aI)->Pt->aI):Nat->Pt->aI
 | 0=>fun _=>none
 | n+1=>step (iter step n)
def sr {E:Env}{live:Nat->Live}{f:Func}{res:RP}{Pt:Type}{id:Pt->Nat}{vs:Pt->List V}{hs:Pt->List aW}{step:(Pt->aI)->Pt->aI}
  (h:∀(I:cJ) (p:Pt),dh E live I (id p) (bI f) (fU (live (id p)) (vs p) (hs p)) (cG E f res)=step (fun q=>I (id q) (vs q) (hs q)) p) :
  ∀(n:Nat) (p:Pt),rS E live f res n (id p) (vs p) (hs p)=iter step n p
 | 0,_=>rfl
 | n+1,p=>by
  show dh E live (rS E live f res n) (id p) (bI f) (fU (live (id p)) (vs p) (hs p)) (cG E f res)=step (iter step n) p
  rw [h]
  congr 1
  funext q
  exact sr h n q
def cB {E:Env}{live:Nat->Live}{f:Func}{res:RP}{Pt:Type}{id:Pt->Nat}{vs:Pt->List V}{hs:Pt->List aW}{step:(Pt->aI)->Pt->aI}{s:St}{start:(Pt->aI)->aI}
  (h:∀(I:cJ) (p:Pt),dh E live I (id p) (bI f) (fU (live (id p)) (vs p) (hs p)) (cG E f res)=step (fun q=>I (id q) (vs q) (hs q)) p)
  (h0:∀I:cJ,fH E live I (bI f) s (cG E f res)=start (fun q=>I (id q) (vs q) (hs q))) (n:Nat):eY E live f res n s=start (iter step n):=by
 unfold eY
 rw [h0]
 congr 1
 funext q
 exact sr h n q
end Go.DM
namespace Go.DM
def ze {P:Program}{l:List (Nat×TI)}(h:fm P l=true):∀t i,(dV l).T t=some i->Bn P (dV l).T t i=true:=by
 intro t i ht
 simp only [fm,List.all_eq_true] at h
 exact h (t,i) (qj ht)
def qG {H:Type}{enc:TypeId×Value->H}{P:Program}{w:World}{base:Nat}{sp:Nat->Bool}{held:Bool}:∀{ts:List TypeId} {vs:List Value} {ds:List (DataW H)} {ps:List MemPlace},DataW.TrodAll enc P w base sp held ts vs ds ps->ds.length=ts.length
 | [],[],[],_,_=>rfl
 | [],[],_::_,_,h=>h.elim
 | [],_::_,[],_,h=>h.elim
 | [],_::_,_::_,_,h=>h.elim
 | _::_,[],[],_,h=>h.elim
 | _::_,[],_::_,_,h=>h.elim
 | _::_,_::_,[],_,h=>h.elim
 | _::_,_::_,_::_,_,⟨_,_,_,h,_⟩=>by simp [qG h]
def vX {P:Program}{E:Env}{g:FuncId}{aT:gh}(he:me P g)(hok:aT.res.ok=true)(hR:∀r,aT.res.R r=[])
  (h:∀(ls r:List L) (w:World) (vs:List Value) (Z:Nat->Prop),aT.sem ls=some r->F2 (V2 E.cells w (A0 Z w)) (kT aT.args ls) vs->
   Calls P g vs.toArray w fun e w'=>∃rv,e=.returned rv/\w'=w/\V2 E.cells w (A0 Z w) (aT.res.V r 0) rv):Valid P E g aT:=by
 refine ⟨he,hok,fun ls r w vs Z hs hf=>(h ls r w vs Z hs hf).mono fun e w' ⟨rv,h1,h2,h3⟩=>?_⟩
 subst h2
 refine ⟨rv,A0 Z w',h1,Fr.refl _ _,rfl,fun i=>?_,?_,h3⟩
 ·rw [hR];simp [A0]
 ·rw [hR]
  exact ⟨fun _ _ h=>h.elim,fun _ _ _ h=>h.elim,fun _ _=>rfl,fun _ _ h=>h.elim,Fr.refl _ _,fun _ _ h=>h.elim,fun _ h=>.inr (h.resolve_left id),fun j hj=>absurd hj (Nat.not_lt_zero j)⟩
def aH {i n:Nat}(h:i<n)(hn:n<=maxLen):IntKind.i64.wrap ((i:Int)+1)=((i+1:Nat):Int):=by
 rw [Go.IntWalk.i64_in _ (by simp only [maxLen] at hn;omega)];omega
def up {xs:aB}{Q:Nat->Prop}(h0:∀i,xs.length<=i->i=xs.length->Q i)(h1:∀i (h:i<xs.length),Q (i+1)->Q i):∀i,i<=xs.length->Q i:=by
 have key:∀k i,i+k=xs.length->Q i:=by
  intro k
  induction k with
  | zero=>intro i hi;exact h0 i (by omega) (by omega)
  | succ k ih=>intro i hi;exact h1 i (by omega) (ih (i+1) (by omega))
 exact fun i hi=>key (xs.length - i) i (by omega)
def take_set {α:Type}{c:List α}{i:Nat}{v:α}(h:i<c.length):(c.set i v).take (i+1)=c.take i++[v]:=by
 rw [List.take_succ_eq_append_getElem (by simpa using h),List.take_set_of_le (by omega)]
 simp
def cM (n:Nat):Int.toNat (n:Int)=n:=Eq.trans (Int.toNat_natCast n) rfl
@[simp] def gV (s:aE):(s==s)=true:=by rw [beq_toListBytes];simp
end Go.DM
namespace Go.DM
class RT (β:Type) where
 enc:β->List L
 dec:List L->β
 n:Nat
 de:∀b rest,dec (enc b++rest)=b
 dr:∀b rest,bE n (enc b++rest)=rest
instance :RT Int:=⟨fun n=>[.int n],fun r=>(r.headD .hole).toInt,1,fun _ _=>rfl,fun _ _=>rfl⟩
instance :RT Bool:=⟨fun n=>[.bool n],fun r=>(r.headD .hole).toBool,1,fun _ _=>rfl,fun _ _=>rfl⟩
instance :RT aE:=⟨fun n=>[.str n],fun r=>(r.headD .hole).toStr,1,fun _ _=>rfl,fun _ _=>rfl⟩
instance :RT (aB):=⟨fun n=>[.sl n],fun r=>(r.headD .hole).dP,1,fun _ _=>rfl,fun _ _=>rfl⟩
def tS:∀(m n:Nat) (l:List L),bE (m+n) l=bE n (bE m l)
 | 0,n,l=>by rw [Nat.zero_add];rfl
 | m+1,n,l=>by rw [show m+1+n=(m+n)+1 by omega];exact tS m n l.tail
instance {α β:Type} [RT α] [RT β]:RT (α×β):=
 ⟨fun p=>RT.enc p.1++RT.enc p.2,fun r=>(RT.dec r,RT.dec (bE (RT.n α) r)),RT.n α+RT.n β,
  fun b rest=>by simp only [List.append_assoc,RT.de,RT.dr],
  fun b rest=>by simp only [List.append_assoc,tS,RT.dr]⟩
def ret {β:Type}[RT β](b:β):aI:=some (RT.enc b)
def call {β:Type}[RT β](o:Option β)(k:β->aI):aI:=(o.map RT.enc).bind fun r=>k (RT.dec r)
def yS {β:Type}[RT β](b:β)(k:β->aI):call (some b) k=k b:=by
 have:=RT.de b []
 rw [List.append_nil] at this
 simp [call,this]
def call_eq {β:Type}[RT β]{o:Option β}{b:β}(h:o=some b)(k:β->aI):call o k=k b:=by rw [h,yS]
def gq (r:List L):Int:=(r.headD .hole).toInt
def Dy (r:List L):Bool:=(r.headD .hole).toBool
def sDec (r:List L):aE:=(r.headD .hole).toStr
def nL (r:List L):aB:=(r.headD .hole).dP
def kr (xs:aB)(i:Nat):Int:=gq (List.getD xs i [])
def Dq (xs:aB)(i:Nat):Bool:=Dy (List.getD xs i [])
def qS (xs:aB)(i:Nat):aE:=sDec (List.getD xs i [])
def qi (xs:aB)(i:Nat):aB:=nL (List.getD xs i [])
def eV (s:aE)(i:Nat):Int:=((List.getD s.data.toList i 0).toNat:Int)
def bt (n:Int):List L:=[.int n]
def yG (n:Bool):List L:=[.bool n]
def cX (n:aE):List L:=[.str n]
def eK {α:Type}(f:α->List L)(c:List α):List L:=[.sl (c.map f)]
def mK {a b:Int}(h:bt a=bt b):a=b:=by injection h with h;injection h
def zP {a b:Bool}(h:yG a=yG b):a=b:=by injection h with h;injection h
def vP {a b:aE}(h:cX a=cX b):a=b:=by injection h with h;injection h
def map_inj {α β:Type}{f:α->β}(hf:∀{a b:α},f a=f b->a=b):∀{a b:List α},a.map f=b.map f->a=b
 | [],[],_=>rfl
 | [],_::_,h=>by cases h
 | _::_,[],h=>by cases h
 | a::as,b::bs,h=>by
  simp only [List.map_cons,List.cons.injEq] at h
  rw [hf h.1,map_inj hf h.2]
def wU {α:Type}{f:α->List L}(hf:∀{a b:α},f a=f b->a=b){a b:List α}(h:eK f a=eK f b):a=b:=by
 injection h with h;injection h with h;exact map_inj hf h
def getD_map {α:Type}{f:α->List L}{xs:List α}{i:Nat}(h:i<xs.length):List.getD (xs.map f) i []=f xs[i]:=by
 simp [List.getD_eq_getElem?_getD,h]
def vf {xs:List Int}{i:Nat}(h:i<xs.length):kr (xs.map bt) i=xs[i]:=by unfold kr;rw [getD_map h];rfl
def rj {xs:List aE}{i:Nat}(h:i<xs.length):qS (xs.map cX) i=xs[i]:=by unfold qS;rw [getD_map h];rfl
def ru {α:Type}{f:α->List L}{xs:List (List α)}{i:Nat}(h:i<xs.length):qi (xs.map (eK f)) i=xs[i].map f:=by unfold qi;rw [getD_map h];rfl
def ofM {A A' B:Type}(r:A->A')(g:A->Prop)(m:A->B)(x:A'):Option B:=
 open Classical in if h:∃a,r a=x/\g a then some (m (Classical.choose h)) else none
def B7 {A A' B:Type}{r:A->A'}{g:A->Prop}{m:A->B}{a:A}(hr:∀a b,r a=r b->a=b)(h:g a):ofM r g m (r a)=some (m a):=by
 have hx:∃b,r b=r a/\g b:=⟨a,rfl,h⟩
 unfold ofM
 rw [dif_pos hx,hr _ _ (Classical.choose_spec hx).1]
def lG {A A' B:Type}{r:A->A'}{g:A->Prop}{m:A->B}{x:A'}{v:B}(h:ofM r g m x=some v):∃a,g a/\r a=x/\m a=v:=by
 unfold ofM at h
 split at h
 ·rename_i hx
  injection h with h
  exact ⟨_,(Classical.choose_spec hx).2,(Classical.choose_spec hx).1,h⟩
 ·cases h
def map_some {α β:Type}{f:α->β}{o:Option α}{b:β}(h:o.map f=some b):∃a,o=some a/\f a=b:=by
 cases o with
 | none=>cases h
 | some a=>injection h with h;exact ⟨a,rfl,h⟩
def eu {α:Type}(a b:α):Bool:=open Classical in decide (a=b)
def dm {α:Type}{a b:α}:eu a b=true↔a=b:=by simp [eu]
def gL {α:Type}(a:α):eu a a=true:=dm.2 rfl
def nE {α:Type}{a b:α}:eu a b=false↔a≠b:=by simp [eu]
def bN {α:Type}(n:Nat)(p:α->Prop)(xs:List α):Prop:=xs.length<=n/\∀x∈xs,p x
def bN.get {α:Type}{n:Nat}{p:α->Prop}{xs:List α}(h:bN n p xs){i:Nat}(hi:i<xs.length):p xs[i]:=h.2 _ (List.getElem_mem hi)
def bN.mono {α:Type}{n m:Nat}{p q:α->Prop}{xs:List α}(h:bN n p xs)(hn:n<=m)(hpq:∀x,p x->q x):bN m q xs:=⟨Nat.le_trans h.1 hn,fun x hx=>hpq x (h.2 x hx)⟩
def bN.nil {α:Type}{n:Nat}{p:α->Prop}:bN n p ([]:List α):=⟨Nat.zero_le _,fun x hx=>(nomatch hx)⟩
def eC {α:Type}(f:α->Nat)(xs:List α):Nat:=xs.length+(xs.map f).sum
def vi {α:Type}{f:α->Nat}:∀{xs:List α} {x:α},x∈xs->f x<=(xs.map f).sum
 | y::ys,x,h=>by
  simp only [List.map_cons,List.sum_cons]
  rcases List.mem_cons.1 h with rfl | h
  ·omega
  ·have:=vi (f:=f) h;omega
def iX {α:Type}{f:α->Nat}{p:α->Prop}{n:Nat}{xs:List α}(h:eC f xs<=n)(hp:∀x,f x<=n->p x):bN n p xs:=by
 unfold eC at h
 exact ⟨by omega,fun x hx=>hp x (by have:=vi (f:=f) hx;omega)⟩
def yI {P:Program}{E:Env}{g:FuncId}{aT:gh}{el:Nat}(he:me P g)(hr:aT.res=.one (.fr el))
  (h:∀(ls r:List L) (w:World) (vs:List Value) (Z:Nat->Prop),aT.sem ls=some r->F2 (V2 E.cells w (A0 Z w)) (kT aT.args ls) vs->
   Calls P g vs.toArray w fun e w'=>∃(rv:Value) (S:Nat->Prop),e=.returned rv/\Fr w w' (fun _=>False)/\(∀b,S b->w.heap.size<=b/\b<w'.heap.size)/\gk E.cells w' S (.sl el) rv (.sl (r.headD .hole).dP)):Valid P E g aT:=by
 refine ⟨he,by rw [hr];rfl,fun ls r w vs Z hs hf=>(h ls r w vs Z hs hf).mono fun e w' ⟨rv,S,h1,h2,h3,h4⟩=>?_⟩
 have hR:aT.res.R r=[.row el (r.headD .hole).dP]:=by rw [hr];rfl
 have hV:aT.res.V r 0=.own 0:=by rw [hr];rfl
 obtain ⟨a,n,c,hsl,_⟩:=h4.wP
 refine ⟨rv,{ v:=fun _=>rv,N:=fun i=>if i=0 then S else fun _=>False,al:=fun i=>i<1,Z:=(A0 Z w).Z },h1,h2,rfl,fun i=>by rw [hR];rfl,?_,?_⟩
 ·rw [hR]
  refine ⟨fun i b hb=>?_,fun i j b hb hb'=>?_,fun i hi=>?_,fun i=>?_,h2,fun i b hb=>?_,fun b hb=>.inr (hb.resolve_left id),fun j hj=>absurd hj (Nat.not_lt_zero j)⟩
  ·by_cases hi:i=0
   ·simp only [hi,if_true] at hb;exact (h3 b hb).2
   ·simp only [hi,if_false] at hb
  ·by_cases hi:i=0<;>by_cases hj:j=0
   ·rw [hi,hj]
   ·simp only [hj,if_false] at hb'
   ·simp only [hi,if_false] at hb
   ·simp only [hi,if_false] at hb
  ·have :i≠0:=fun e=>hi (by show i<1;omega)
   simp [eA,bB _ _ this]
  ·by_cases hi:i=0
   ·subst hi
    simp only [eA,bG]
    exact ⟨Nat.lt_one_iff.2 rfl,by simpa using h4⟩
   ·simp only [eA,bB _ _ hi]
    intro b hb
    simp only [hi,if_false] at hb
  ·by_cases hi:i=0
   ·simp only [hi,if_true] at hb;exact .inr (h3 b hb).1
   ·simp only [hi,if_false] at hb
 ·rw [hV]
  exact V0.v2 (v:=.own 0) ⟨Nat.lt_one_iff.2 rfl,rfl,a,n,c,hsl⟩
def aK {i n:Nat}(h:i<n):decide ((i:Int)<(n:Int))=true:=by simp [h]
def eM {n:Nat}:decide ((n:Int)<(n:Int))=false:=by simp
def aD {i:Nat}:decide ((0:Int)<=(i:Int))=true:=by simp
end Go.DM
namespace Go.DM
def gY (s:Nat)(left:Int):Int:=if left<(s:Int) then -1 else left - s
def bZ {s:Nat}{left:Int}(h:left<(s:Int)):gY s left=-1:=if_pos h
def cQ {s:Nat}{left:Int}(h:¬left<(s:Int)):gY s left=left - s:=if_neg h
def cS {x:Int}(h:0<=x):decide (x<0)=false:=decide_eq_false (by omega)
def nA {s:Nat}{left:Int}(h0:0<=left)(h1:left<=1048576)(hs:s<=maxLen):IntKind.i64.wrap (left - (s:Int))=left - s:=
 Go.IntWalk.i64_in _ (by simp only [maxLen] at hs;omega)
def sN {α:Type}{f:α->Nat}(h:∀x,f x=0):∀xs:List α,(xs.map f).sum=0
 | []=>rfl
 | x::xs=>by simp [h x,sN h xs]
def Bf {Pt α:Type}{step:(Pt->aI)->Pt->aI}{pt:Int->Nat->Pt}{xs:List α}{f:α->Nat}
  (h1:∀(J:Pt->aI) (i:Nat) (h:i<xs.length) (left:Int),0<=left->left<=1048576->step J (pt left i)=if left<(f xs[i]:Int) then ret (-1:Int) else J (pt (left - f xs[i]) (i+1)))
  (h0:∀(J:Pt->aI) (left:Int),step J (pt left xs.length)=ret left):∀(left:Int),0<=left->left<=1048576->∃m,iter step m (pt left 0)=ret (gY (xs.map f).sum left):=by
 have key:∀k i,i+k=xs.length->∀left:Int,0<=left->left<=1048576->∃m,iter step m (pt left i)=ret (gY ((xs.drop i).map f).sum left):=by
  intro k
  induction k with
  | zero=>
   intro i hi left g0 g1
   have :i=xs.length:=by omega
   subst this
   refine ⟨1,(h0 _ left).trans ?_⟩
   have e:gY ((xs.drop xs.length).map f).sum left=left:=by
    rw [List.drop_eq_nil_of_le (Nat.le_refl _)]
    rw [cQ (by simp;omega)];simp
   rw [e]
  | succ k ih=>
   intro i hi left g0 g1
   have hlt:i<xs.length:=by omega
   rw [List.drop_eq_getElem_cons hlt,List.map_cons,List.sum_cons]
   by_cases hc:left<(f xs[i]:Int)
   ·refine ⟨1,(h1 _ i hlt left g0 g1).trans ?_⟩
    rw [if_pos hc,bZ (by omega)]
   ·obtain ⟨m,hm⟩:=ih (i+1) (by omega) (left - f xs[i]) (by omega) (by omega)
    refine ⟨m+1,(h1 _ i hlt left g0 g1).trans ?_⟩
    rw [if_neg hc,hm]
    congr 1
    unfold gY
    split<;>split<;>omega
 intro left g0 g1
 have:=key xs.length 0 (by omega) left g0 g1
 simpa using this
def kN {Pt α:Type}{step:(Pt->aI)->Pt->aI}{pt:Int->Nat->Pt}{xs:List α}{f:α->Nat}(hx:xs.length<=maxLen)
  (h1:∀(J:Pt->aI) (i:Nat) (h:i<xs.length) (left:Int),0<=left->left<=1048576->step J (pt left i)=if left<(f xs[i]:Int) then ret (-1:Int) else J (pt (left - f xs[i]) (i+1)))
  (h0:∀(J:Pt->aI) (left:Int),step J (pt left xs.length)=ret left) {left:Int} (g0:0<=left) (g1:left<=1048576) :
  ∃m,(cond (decide (IntKind.i64.wrap (left - (xs.length:Int))<0)) (ret (-1:Int)) (iter step m (pt (IntKind.i64.wrap (left - (xs.length:Int))) 0)))=ret (gY (eC f xs) left):=by
 rw [nA g0 g1 hx]
 by_cases hc:left - (xs.length:Int)<0
 ·refine ⟨0,?_⟩
  rw [decide_eq_true hc,bZ (by unfold eC;omega)];rfl
 ·obtain ⟨m,hm⟩:=Bf h1 h0 (left - (xs.length:Int)) (by omega) (by omega)
  refine ⟨m,?_⟩
  rw [decide_eq_false hc,aX,hm]
  congr 1
  unfold gY eC
  split<;>split<;>omega
def AO {Pt:Type}{step:(Pt->aI)->Pt->aI}{pt:Nat->aB->Pt}{xs:aB}
  (h1:∀(J:Pt->aI) (i:Nat) (h:i<xs.length) (c:aB),c.length=xs.length->step J (pt i c)=J (pt (i+1) (c.set i xs[i])))
  (h0:∀(J:Pt->aI) (c:aB),step J (pt xs.length c)=ret c) (c:aB) (hc:c.length=xs.length):∃m,iter step m (pt 0 c)=ret xs:=by
 have key:∀k i,i+k=xs.length->∀c:aB,c.length=xs.length->c.take i=xs.take i->∃m,iter step m (pt i c)=ret xs:=by
  intro k
  induction k with
  | zero=>
   intro i hi c hc ht
   have :i=xs.length:=by omega
   subst this
   rw [List.take_of_length_le (by omega),List.take_of_length_le (Nat.le_refl _)] at ht
   exact ⟨1,by rw [<-ht] at h0 ⊢;exact h0 _ _⟩
  | succ k ih=>
   intro i hi c hc ht
   have hlt:i<xs.length:=by omega
   obtain ⟨m,hm⟩:=ih (i+1) (by omega) (c.set i xs[i]) (by simpa using hc) (by rw [take_set (by omega),ht,List.take_succ_eq_append_getElem hlt])
   exact ⟨m+1,(h1 _ i hlt c hc).trans hm⟩
 exact key xs.length 0 (by omega) c hc rfl
def jl {Pt α:Type}{step:(Pt->aI)->Pt->aI}{pt:Nat->aB->Pt}{xs:List α}{f:α->List L}{z:List L}{b:Nat}(hx:(xs.length:Int)*(b:Int)<=140737488355328)
  (h1:∀(J:Pt->aI) (i:Nat) (h:i<xs.length) (c:aB),c.length=xs.length->step J (pt i c)=J (pt (i+1) (c.set i (f xs[i]))))
  (h0:∀(J:Pt->aI) (c:aB),step J (pt xs.length c)=ret c) :
  ∃m,(cond (decide ((0:Int)<=(xs.length:Int))) (cond (decide ((xs.length:Int)<=(xs.length:Int))) (cond (decide ((xs.length:Int)*(b:Int)<=140737488355328)) (iter step m (pt 0 (List.replicate (Int.toNat (xs.length:Int)) z))) none) none) none)=ret (xs.map f):=by
 obtain ⟨m,hm⟩:=AO (step:=step) (pt:=pt) (xs:=xs.map f) (fun J i h c hc=>by
  rw [List.getElem_map];exact h1 J i (by simpa using h) c (by simpa using hc)) (fun J c=>by rw [List.length_map];exact h0 J c) (List.replicate (Int.toNat (xs.length:Int)) z) (by simp)
 refine ⟨m,?_⟩
 rw [aD,decide_eq_true (Int.le_refl _),decide_eq_true hx]
 exact hm
def A6 {Pt α:Type}{step:(Pt->aI)->Pt->aI}{pt:Nat->Pt}{xs ys:List α}(hl:xs.length=ys.length)
  (h1:∀(J:Pt->aI) (i:Nat) (h:i<xs.length) (h':i<ys.length),step J (pt i)=bif eu xs[i] ys[i] then J (pt (i+1)) else ret false) (h0:∀J:Pt->aI,step J (pt xs.length)=ret true):∃m,iter step m (pt 0)=ret (eu xs ys):=by
 have key:∀k i,i+k=xs.length->∃m,iter step m (pt i)=ret (eu (xs.drop i) (ys.drop i)):=by
  intro k
  induction k with
  | zero=>
   intro i hi
   have :i=xs.length:=by omega
   subst this
   refine ⟨1,(h0 _).trans ?_⟩
   rw [List.drop_eq_nil_of_le (Nat.le_refl _),List.drop_eq_nil_of_le (by omega),gL]
  | succ k ih=>
   intro i hi
   have hlt:i<xs.length:=by omega
   have hlt':i<ys.length:=by omega
   rw [List.drop_eq_getElem_cons hlt,List.drop_eq_getElem_cons hlt']
   obtain ⟨m,hm⟩:=ih (i+1) (by omega)
   cases hc:eu xs[i] ys[i]
   ·refine ⟨1,(h1 _ i hlt hlt').trans ?_⟩
    rw [hc]
    have :eu (xs[i]::xs.drop (i+1)) (ys[i]::ys.drop (i+1))=false:=by
     rw [nE] at hc ⊢
     intro h;injection h with h;exact hc h
    rw [this];rfl
   ·refine ⟨m+1,(h1 _ i hlt hlt').trans ?_⟩
    rw [hc,aZ,hm]
    congr 1
    rw [dm] at hc
    rw [Bool.eq_iff_iff,dm,dm,hc]
    constructor
    ·intro h;rw [h]
    ·intro h;injection h
 have:=key xs.length 0 (by omega)
 simpa using this
def jo {Pt α:Type}{step:(Pt->aI)->Pt->aI}{pt:Nat->Pt}{xs ys:List α}
  (h1:xs.length=ys.length->∀(J:Pt->aI) (i:Nat) (h:i<xs.length) (h':i<ys.length),step J (pt i)=bif eu xs[i] ys[i] then J (pt (i+1)) else ret false) (h0:∀J:Pt->aI,step J (pt xs.length)=ret true) :
  ∃m,(cond ((xs.length:Int) != (ys.length:Int)) (ret false) (iter step m (pt 0)))=ret (eu xs ys):=by
 by_cases hl:xs.length=ys.length
 ·obtain ⟨m,hm⟩:=A6 hl (h1 hl) h0
  refine ⟨m,?_⟩
  rw [hl,bne_self_eq_false,aX,hm]
 ·refine ⟨0,?_⟩
  have h2:((xs.length:Int) != (ys.length:Int))=true:=by simpa using fun h=>hl (by omega)
  have h3:eu xs ys=false:=nE.2 fun h=>hl (by rw [h])
  rw [h2,h3];rfl
def eg.ef {T:Nat->List K}{k:K}{ks:List K}{r:List L}(h:eg T (k::ks) r):∃l r',r=l::r'/\Wf T k l/\eg T ks r':=by
 match r,h with
 | [],h=>have:=h.1;simp at this
 | l::r',h=>
  obtain ⟨l',e1,e2⟩:=h.2 0 k rfl
  simp at e1
  subst e1
  exact ⟨l,r',rfl,e2,by simpa using h.1,fun j kk hj=>by simpa using h.2 (j+1) kk (by simpa using hj)⟩
def eg.je {T:Nat->List K}:∀{a b:List K} {r:List L},eg T (a++b) r->∃r1 r2,r=r1++r2/\eg T a r1/\eg T b r2
 | [],b,r,h=>⟨[],r,rfl,⟨rfl,fun j k hj=>by simp at hj⟩,h⟩
 | k::a,b,r,h=>by
  obtain ⟨l,r',rfl,h1,h2⟩:=eg.ef (ks:=a++b) h
  obtain ⟨r1,r2,rfl,h3,h4⟩:=eg.je h2
  exact ⟨l::r1,r2,rfl,eg.append (a:=[k]) (x:=[l]) ⟨rfl,fun j kk hj=>by
   cases j with
   | zero=>simp at hj;subst hj;exact ⟨l,rfl,h1⟩
   | succ j=>simp at hj⟩ h3,h4⟩
def eg.jd {T:Nat->List K}{r:List L}(h:eg T [] r):r=[]:=List.eq_nil_of_length_eq_zero h.1
def gw {T:Nat->List K}{k:IntKind}{l:L}(h:Wf T (.int k) l):∃n,l=.int n:=by cases h;exact ⟨_,rfl⟩
def yg {T:Nat->List K}{l:L}(h:Wf T .bool l):∃n,l=.bool n:=by cases h;exact ⟨_,rfl⟩
def xD {T:Nat->List K}{l:L}(h:Wf T .str l):∃s:aE,l=.str s/\s.size<=maxLen:=by cases h;exact ⟨_,rfl,by assumption⟩
def gW {T:Nat->List K}{e:Nat}{ks:List K}{α:Type}{row:α->List L}{p:α->Prop}(hc:T e=ks)(hrow:∀r,eg T ks r->∃x,row x=r/\p x){l:L}(h:Wf T (.sl e) l) :
  ∃xs:List α,l=.sl (xs.map row)/\bN maxLen p xs:=by
 cases h
 rename_i xs hle hl hr
 have key:∀ys:aB,(∀r∈ys,r∈xs)->∃zs:List α,ys=zs.map row/\∀z∈zs,p z:=by
  intro ys
  induction ys with
  | nil=>intro _;exact ⟨[],rfl,fun z hz=>(nomatch hz)⟩
  | cons y ys ih=>
   intro hy
   obtain ⟨zs,e1,e2⟩:=ih fun r hr=>hy r (by simp [hr])
   obtain ⟨z,e3,e4⟩:=hrow y (by
    refine ⟨by rw [<-hc];exact hl y (hy y (by simp)),fun j kk hj=>?_⟩
    rw [<-hc] at hj
    have hjl:j<y.length:=by rw [hl y (hy y (by simp))];exact (List.getElem?_eq_some_iff.1 hj).1
    have hg:=List.getElem?_eq_getElem hjl
    exact ⟨_,hg,hr y j kk _ (hy y (by simp)) hj hg⟩)
   refine ⟨z::zs,by simp [e1,e3],fun w hw=>?_⟩
   rcases List.mem_cons.1 hw with rfl | hw
   ·exact e4
   ·exact e2 w hw
 obtain ⟨zs,e1,e2⟩:=key xs fun r hr=>hr
 exact ⟨zs,by rw [e1],by rw [e1] at hle;simpa using hle,e2⟩
def yx {T:Nat->List K}{k:IntKind}(r:List L)(h:eg T [.int k] r):∃x,bt x=r/\True:=by
 obtain ⟨l,r',rfl,h1,h2⟩:=h.ef
 obtain ⟨n,rfl⟩:=gw h1
 rw [h2.jd];exact ⟨n,rfl,trivial⟩
def yh {T:Nat->List K}(r:List L)(h:eg T [.str] r):∃x:aE,cX x=r/\x.size<=maxLen:=by
 obtain ⟨l,r',rfl,h1,h2⟩:=h.ef
 obtain ⟨n,rfl,h3⟩:=xD h1
 rw [h2.jd];exact ⟨n,rfl,h3⟩
def Bq {T:Nat->List K}{e:Nat}{ks:List K}{α:Type}{row:α->List L}{p:α->Prop}(hc:T e=ks)(hrow:∀r,eg T ks r->∃x,row x=r/\p x)(r:List L)(h:eg T [.sl e] r):∃x,eK row x=r/\bN maxLen p x:=by
 obtain ⟨l,r',rfl,h1,h2⟩:=h.ef
 obtain ⟨xs,rfl,h3⟩:=gW hc hrow h1
 rw [h2.jd];exact ⟨xs,rfl,h3⟩
def gf {a b:Int}:(a==b)=eu a b:=by rw [Bool.eq_iff_iff,beq_iff_eq,dm]
def bool_beq {a b:Bool}:(a==b)=eu a b:=by rw [Bool.eq_iff_iff,beq_iff_eq,dm]
def fM {a b:aE}:(a==b)=eu a b:=by
 rw [Bool.eq_iff_iff,dm,beq_toListBytes,beq_iff_eq,ByteArray.toList_eq,ByteArray.toList_eq]
 constructor
 ·intro h
  obtain ⟨⟨x⟩⟩:=a
  obtain ⟨⟨y⟩⟩:=b
  simp at h
  rw [h]
 ·intro h;rw [h]
def ck {b c:Bool}{x:aI}(h:b=true->x=ret c):(cond (!b) (ret false) x)=ret (b&&c):=by
 cases b
 ·rfl
 ·simpa using h rfl
end Go.DM
namespace Go.DM
def eX {S β:Type}(f:Nat->S->S⊕β)(tail:S->β):Nat->Nat->S->β
 | 0,_,s=>tail s
 | k+1,i,s=>match f i s with
  | .inl s'=>eX f tail k (i+1) s'
  | .inr b=>b
def DZ {S β:Type}(K:S->aI)(out:β->aI):S⊕β->aI
 | .inl s=>K s
 | .inr b=>out b
def bp {S β:Type}(x:aI)(K:S->aI)(out:β->aI)(P:S->Prop)(r:S⊕β):Prop:=x=DZ K out r/\∀s,r=.inl s->P s
def bp.bif {S β:Type}{K:S->aI}{out:β->aI}{P:S->Prop}{c:Bool}{x y:aI}{a b:S⊕β}(h1:c=true->bp x K out P a)(h2:c=false->bp y K out P b):bp (cond c x y) K out P (cond c a b):=by
 cases c
 ·exact h2 rfl
 ·exact h1 rfl
def bp.yes {S β:Type}{K:S->aI}{out:β->aI}{P:S->Prop}{c:Bool}{x y:aI}{r:S⊕β}(hc:c=true)(h:bp x K out P r):bp (cond c x y) K out P r:=by rw [hc];exact h
def bp.call {S β γ:Type}[RT γ]{K:S->aI}{out:β->aI}{P:S->Prop}{o:Option γ}{b:γ}(h:o=some b){k:γ->aI}{r:S⊕β}(hk:bp (k b) K out P r):bp (call o k) K out P r:=by rw [call_eq h];exact hk
def bp.inl {S β:Type}{K:S->aI}{out:β->aI}{P:S->Prop}{x:aI}{s:S}(hp:P s)(h:x=K s):bp x K out P (.inl s):=⟨h,fun s' e=>by injection e with e;rw [<-e];exact hp⟩
def bp.inr {S β:Type}{K:S->aI}{out:β->aI}{P:S->Prop}{x:aI}{b:β}(h:x=out b):bp x K out P (.inr b):=⟨h,fun s' e=>by cases e⟩
def cw {Pt S β:Type}{step:(Pt->aI)->Pt->aI}{pt:Nat->S->Pt}{n:Nat}{f:Nat->S->S⊕β}{tail:S->β}{out:β->aI}(Inv:Nat->S->Prop)
  (h1:∀(J:Pt->aI) (i:Nat) (s:S),i<n->Inv i s->bp (step J (pt i s)) (fun s'=>J (pt (i+1) s')) out (Inv (i+1)) (f i s))
  (h0:∀s,Inv n s->∃m,step (iter step m) (pt n s)=out (tail s)) {s:S} (hs:Inv 0 s):∃m,iter step m (pt 0 s)=out (eX f tail n 0 s):=by
 have key:∀k i s,i+k=n->Inv i s->∃m,iter step m (pt i s)=out (eX f tail k i s):=by
  intro k
  induction k with
  | zero=>
   intro i s hi hs
   have :i=n:=by omega
   subst this
   obtain ⟨m,hm⟩:=h0 s hs
   exact ⟨m+1,hm⟩
  | succ k ih=>
   intro i s hi hs
   unfold eX
   cases hf:f i s with
   | inl s'=>
    have h:=h1 (fun _=>none) i s (by omega) hs
    obtain ⟨m,hm⟩:=ih (i+1) s' (by omega) (h.2 s' hf)
    refine ⟨m+1,?_⟩
    have h:=(h1 (iter step m) i s (by omega) hs).1
    rw [hf] at h
    exact h.trans hm
   | inr b=>
    refine ⟨1,?_⟩
    have h:=(h1 (iter step 0) i s (by omega) hs).1
    rw [hf] at h
    exact h
 exact key n 0 s (by omega) hs
def iK {β:Type}(out:β->aI){c:Bool}{x y:Nat->aI}{a b:β}(h1:c=true->∃n,x n=out a)(h2:c=false->∃n,y n=out b):∃n,(cond c (x n) (y n))=out (cond c a b):=by
 cases c
 ·exact h2 rfl
 ·exact h1 rfl
def dW {c:Bool}{x y:Nat->aI}{r:aI}(hc:c=true)(h:∃n,x n=r):∃n,(cond c (x n) (y n))=r:=by subst hc;exact h
def dO {c:Bool}{x y:Nat->aI}{r:aI}(hc:c=false)(h:∃n,y n=r):∃n,(cond c (x n) (y n))=r:=by subst hc;exact h
def AX {γ:Type}[RT γ]{o:Option γ}{b:γ}(h:o=some b){k:Nat->γ->aI}{r:aI}(hk:∃n,k n b=r):∃n,call o (k n)=r:=by
 obtain ⟨n,hn⟩:=hk
 exact ⟨n,by rw [call_eq h];exact hn⟩
def ec {β:Type}(out:β->aI){c:Bool}{x y:aI}{a b:β}(h1:c=true->x=out a)(h2:c=false->y=out b):(cond c x y)=out (cond c a b):=by
 cases c
 ·exact h2 rfl
 ·exact h1 rfl
def aj {c:Bool}{x y r:aI}(hc:c=true)(h:x=r):(cond c x y)=r:=by subst hc;exact h
def fF {α:Type}{xs:List α}{i:Nat}{z:α}(h:i<xs.length):xs.getD i z=xs[i]:=by simp [List.getD,h]
def jq {α:Type}{xs:List α}{i:Nat}{z:α}(h:¬i<xs.length):xs.getD i z=z:=by simp [List.getD];rw [List.getElem?_eq_none (by omega)];rfl
def iC {xs:List Int}{i:Nat}:kr (xs.map bt) i=xs.getD i 0:=by
 unfold kr
 by_cases h:i<xs.length
 ·rw [getD_map h,fF h];rfl
 ·rw [jq (by simpa using h),jq h];rfl
def Au {xs:List Bool}{i:Nat}:Dq (xs.map yG) i=xs.getD i false:=by
 unfold Dq
 by_cases h:i<xs.length
 ·rw [getD_map h,fF h];rfl
 ·rw [jq (by simpa using h),jq h];rfl
def zX {xs:List aE}{i:Nat}:qS (xs.map cX) i=xs.getD i ⟨#[]⟩:=by
 unfold qS
 by_cases h:i<xs.length
 ·rw [getD_map h,fF h];rfl
 ·rw [jq (by simpa using h),jq h];rfl
def rQ {α:Type}{f:α->List L}{xs:List (List α)}{i:Nat}:qi (xs.map (eK f)) i=(xs.getD i []).map f:=by
 unfold qi
 by_cases h:i<xs.length
 ·rw [getD_map h,fF h];rfl
 ·rw [jq (by simpa using h),jq h];rfl
def fG {α β:Type}{row:α->List L}{dec:List L->β}{r:α->β}{z:α}{xs:List α}{i:Nat}(h1:∀x,dec (row x)=r x)(h2:dec []=r z):dec (List.getD (xs.map row) i [])=r (xs.getD i z):=by
 by_cases h:i<xs.length
 ·rw [getD_map h,fF h,h1]
 ·rw [jq (by simpa using h),jq h,h2]
def bN.getD {α:Type}{n:Nat}{p:α->Prop}{xs:List α}(h:bN n p xs){i:Nat}{z:α}(hi:i<xs.length):p (xs.getD i z):=by
 rw [fF hi];exact h.get hi
def wq {S β:Type}{f g:Nat->S->S⊕β}{t u:S->β}{n:Nat}(Inv:Nat->S->Prop)(h1:∀i s,i<n->Inv i s->f i s=g i s/\∀s',f i s=.inl s'->Inv (i+1) s')(h0:∀s,Inv n s->t s=u s){s:S}(hs:Inv 0 s):eX f t n 0 s=eX g u n 0 s:=by
 have key:∀k i s,i+k=n->Inv i s->eX f t k i s=eX g u k i s:=by
  intro k
  induction k with
  | zero=>
   intro i s hi hs
   have :i=n:=by omega
   subst this
   exact h0 s hs
  | succ k ih=>
   intro i s hi hs
   obtain ⟨e,p⟩:=h1 i s (by omega) hs
   unfold eX
   rw [<-e]
   cases hf:f i s with
   | inl s'=>exact ih (i+1) s' (by omega) (p s' hf)
   | inr b=>rfl
 exact key n 0 s (by omega) hs
def lM {α:Type}{xs ys:List α}(z:α){f:Nat->Unit->Unit⊕Bool}{tail:Unit->Bool}(hf:∀i s,i<xs.length->i<ys.length->f i s=bif eu (xs.getD i z) (ys.getD i z) then .inl s else .inr false)(ht:∀s,tail s=true) :
  (cond ((xs.length:Int) != (ys.length:Int)) false (eX f tail xs.length 0 ()))=eu xs ys:=by
 by_cases hl:xs.length=ys.length
 ·rw [hl,bne_self_eq_false,aX,<-hl]
  have key:∀k i,i+k=xs.length->eX f tail k i ()=eu (xs.drop i) (ys.drop i):=by
   intro k
   induction k with
   | zero=>
    intro i hi
    have :i=xs.length:=by omega
    subst this
    unfold eX
    rw [ht,List.drop_eq_nil_of_le (Nat.le_refl _),List.drop_eq_nil_of_le (by omega),gL]
   | succ k ih=>
    intro i hi
    have h1:i<xs.length:=by omega
    have h2:i<ys.length:=by omega
    unfold eX
    rw [hf i () h1 h2,fF h1,fF h2,List.drop_eq_getElem_cons h1,List.drop_eq_getElem_cons h2]
    cases hc:eu xs[i] ys[i]
    ·have :eu (xs[i]::xs.drop (i+1)) (ys[i]::ys.drop (i+1))=false:=by
      rw [nE] at hc ⊢
      intro h;injection h with h;exact hc h
     rw [this];rfl
    ·show eX f tail k (i+1) ()=_
     rw [ih (i+1) (by omega)]
     rw [dm] at hc
     rw [Bool.eq_iff_iff,dm,dm,hc]
     constructor
     ·intro h;rw [h]
     ·intro h;injection h
  simpa using key xs.length 0 (by omega)
 ·have h2:((xs.length:Int) != (ys.length:Int))=true:=by simpa using fun h=>hl (by omega)
  have h3:eu xs ys=false:=nE.2 fun h=>hl (by rw [h])
  rw [h2,h3];rfl
end Go.DM
namespace Go.DM
def cW {c:Bool}{x y r:aI}(hc:c=false)(h:y=r):(cond c x y)=r:=by subst hc;exact h
def mS {a:aI}:either a a=a:=by simp [either]
def ex_eq {β:Type}{out:β->aI}{x:Nat->aI}{a b:β}(h:a=b)(k:∃n,x n=out a):∃n,x n=out b:=h ▸ k
def aU {γ:Type}[RT γ]{o:Option γ}{k:γ->aI}{r:aI}(b:γ)(h:o=some b)(hk:k b=r):call o k=r:=(call_eq h k).trans hk
def fP {γ:Type}[RT γ]{o:Option γ}{k:Nat->γ->aI}{r:aI}(b:γ)(h:o=some b)(hk:∃n,k n b=r):∃n,call o (k n)=r:=AX h hk
def bp.aU {S β γ:Type}[RT γ]{K:S->aI}{out:β->aI}{P:S->Prop}{o:Option γ}{k:γ->aI}{r:S⊕β}(b:γ)(h:o=some b)(hk:bp (k b) K out P r):bp (DM.call o k) K out P r:=bp.call h hk
def ep {α S β:Type}(f:Nat->α->S->S⊕β)(t:S->β):Nat->List α->S->β
 | _,[],s=>t s
 | i,x::xs,s=>match f i x s with
  | .inl s'=>ep f t (i+1) xs s'
  | .inr b=>b
def eJ {α S β:Type}(f:α->S->S⊕β)(t:S->β):List α->S->β
 | [],s=>t s
 | x::xs,s=>match f x s with
  | .inl s'=>eJ f t xs s'
  | .inr b=>b
def dw {α S β:Type}{f:Nat->α->S->S⊕β}{t:S->β}{xs:List α}{z:α}{s:S}:eX (fun i s=>f i (xs.getD i z) s) t xs.length 0 s=ep f t 0 xs s:=by
 have key:∀(k i:Nat) (s:S),i+k=xs.length->eX (fun i s=>f i (xs.getD i z) s) t k i s=ep f t i (xs.drop i) s:=by
  intro k
  induction k with
  | zero=>
   intro i s hi
   have :i=xs.length:=by omega
   subst this
   rw [List.drop_eq_nil_of_le (Nat.le_refl _)];rfl
  | succ k ih=>
   intro i s hi
   have hlt:i<xs.length:=by omega
   rw [List.drop_eq_getElem_cons hlt]
   unfold eX ep
   rw [fF hlt]
   cases f i xs[i] s with
   | inl s'=>exact ih (i+1) s' (by omega)
   | inr b=>rfl
 simpa using key xs.length 0 s (by omega)
def qP {α S β:Type}{f:α->S->S⊕β}{t:S->β}:∀{xs:List α} {i:Nat} {s:S},ep (fun _ x s=>f x s) t i xs s=eJ f t xs s
 | [],_,_=>rfl
 | x::xs,i,s=>by
  unfold ep eJ
  cases f x s with
  | inl s'=>exact qP
  | inr b=>rfl
def fu {α S β:Type}{f:α->S->S⊕β}{t:S->β}{xs:List α}{z:α}{s:S}:eX (fun i s=>f (xs.getD i z) s) t xs.length 0 s=eJ f t xs s:=
 (dw (f:=fun _ x s=>f x s)).trans qP
def uh {α γ β:Type}{g:α->γ}{t:List γ->β}:∀{xs:List α} {s:List γ},eJ (fun x s=>.inl (s++[g x])) t xs s=t (s++xs.map g)
 | [],s=>by simp [eJ]
 | x::xs,s=>by
  show eJ (fun x s=>Sum.inl (s++[g x])) t xs (s++[g x])=_
  rw [uh];simp
def nv {α γ β:Type}{xs:List α}{g:α->γ}{z:α}{t:List γ->β}{s:List γ}:eX (fun i s=>.inl (s++[g (xs.getD i z)])) t xs.length 0 s=t (s++xs.map g):=
 (fu (f:=fun x s=>.inl (s++[g x]))).trans uh
def sR {α γ β:Type}{g:α->List γ}{t:List γ->β}:∀{xs:List α} {s:List γ},eJ (fun x s=>.inl (s++g x)) t xs s=t (s++xs.flatMap g)
 | [],s=>by simp [eJ]
 | x::xs,s=>by
  show eJ (fun x s=>Sum.inl (s++g x)) t xs (s++g x)=_
  rw [sR];simp
def sF {α γ β:Type}{xs:List α}{g:α->List γ}{z:α}{t:List γ->β}{s:List γ}:eX (fun i s=>.inl (s++g (xs.getD i z))) t xs.length 0 s=t (s++xs.flatMap g):=
 (fu (f:=fun x s=>.inl (s++g x))).trans sR
def mC {α γ:Type}{g:α->List γ}{n:Nat}:∀{xs:List α},(∀x∈xs,(g x).length<=n)->(xs.flatMap g).length<=xs.length*n
 | [],_=>by simp
 | x::xs,h=>by
  have h1:=h x (by simp)
  have h2:=mC (xs:=xs) fun y hy=>h y (by simp [hy])
  simp only [List.flatMap_cons,List.length_append,List.length_cons,Nat.succ_mul]
  omega
def oF {α γ β:Type}{xs:List α}{g:α->γ}{z:α}{t:List γ->β}:eX (fun i s=>.inl (s++[g (xs.getD i z)])) t xs.length 0 []=t (xs.map g):=by
 have:=nv (xs:=xs) (g:=g) (z:=z) (t:=t) (s:=[])
 simpa using this
def iw {α β:Type}{xs:List α}{z:α}{t:List α->β}:eX (fun i s=>.inl (s++[xs.getD i z])) t xs.length 0 []=t xs:=by
 have:=nv (xs:=xs) (g:=fun x=>x) (z:=z) (t:=t) (s:=[])
 simpa using this
def qJ {α S β:Type}{f g:α->S->S⊕β}{t u:S->β}{xs:List α}{s:S}(h:∀x∈xs,∀s,f x s=g x s)(h0:∀s,t s=u s):eJ f t xs s=eJ g u xs s:=by
 induction xs generalizing s with
 | nil=>exact h0 s
 | cons x xs ih=>
  unfold eJ
  rw [h x (by simp)]
  cases g x s with
  | inl s'=>exact ih fun y hy=>h y (by simp [hy])
  | inr b=>rfl
def nH {α β:Type}{p:α->Bool}{b c:β}:∀{xs:List α} {s:Unit},eJ (fun x s=>bif p x then .inr b else .inl s) (fun _=>c) xs s=bif xs.any p then b else c
 | [],_=>rfl
 | x::xs,s=>by
  unfold eJ
  rw [List.any_cons]
  cases p x
  ·exact nH
  ·rfl
def jE {α:Type}(p:α->Bool):Nat->List α->Int
 | _,[]=>-1
 | i,x::xs=>bif p x then (i:Int) else jE p (i+1) xs
def iL {α:Type}{p:α->Bool}:∀{xs:List α} {i:Nat} {s:Unit},ep (fun i x s=>bif p x then .inr (i:Int) else .inl s) (fun _=>(-1:Int)) i xs s=jE p i xs
 | [],_,_=>rfl
 | x::xs,i,s=>by
  unfold ep jE
  cases p x
  ·exact iL
  ·rfl
def tK {α:Type}{p:α->Bool}:∀{xs:List α} {i:Nat},decide (jE p i xs<0)=!(xs.any p)
 | [],i=>rfl
 | x::xs,i=>by
  unfold jE
  rw [List.any_cons]
  cases p x
  ·exact tK
  ·simp
end Go.DM
namespace Go.DM
def kX (s:aE):List Int:=s.data.toList.map fun b=>(b.toNat:Int)
def xI (s:aE):ji s=(kX s).map bt:=by simp [ji,kX,bt]
def iH (s:aE):(kX s).length=s.size:=by simp [kX]
def sV (s:aE):(ji s).length=s.size:=by simp [ji]
def jT {f:Nat->Unit->Unit⊕Bool}{t:Unit->Bool}{n:Nat}(P:Nat->Prop)(h1:∀i,i<n->P i->f i ()=.inl ())(h2:∀i,i<n->¬P i->f i ()=.inr false):eX f t n 0 ()=true↔(∀i,i<n->P i)/\t ()=true:=by
 have key:∀k i,i+k=n->(eX f t k i ()=true↔(∀j,i<=j->j<n->P j)/\t ()=true):=by
  intro k
  induction k with
  | zero=>
   intro i hi
   constructor
   ·intro h;exact ⟨fun j h1 h2=>by omega,h⟩
   ·intro h;exact h.2
  | succ k ih=>
   intro i hi
   unfold eX
   by_cases hp:P i
   ·rw [h1 i (by omega) hp]
    show eX f t k (i+1) ()=true↔_
    rw [ih (i+1) (by omega)]
    constructor
    ·intro ⟨h,ht⟩
     refine ⟨fun j h1 h2=>?_,ht⟩
     by_cases hj:j=i
     ·subst hj;exact hp
     ·exact h j (by omega) h2
    ·intro ⟨h,ht⟩;exact ⟨fun j h1 h2=>h j (by omega) h2,ht⟩
   ·rw [h2 i (by omega) hp]
    constructor
    ·intro h;cases h
    ·intro ⟨h,_⟩;exact (hp (h i (Nat.le_refl _) (by omega))).elim
 rw [key n 0 (by omega)]
 simp
end Go.DM
namespace Go.DM
def sq {S β:Type}{f:Nat->S->S⊕β}{t:S->β}{k i:Nat}{s:S}:eX f t (k+1) i s=match f i s with | .inl s'=>eX f t k (i+1) s' | .inr b=>b:=rfl
def eo {Pt:Type}{step:(Pt->aI)->Pt->aI}{p q:Pt}{r:aI}(h:q=p)(k:∃n,iter step n p=r):∃n,iter step n q=r:=h ▸ k
def vn {Pt S β:Type}{step:(Pt->aI)->Pt->aI}{pt:Nat->S->Pt}{n:Nat}{f:Nat->S->S⊕β}{tail:S->β}{out:β->aI}(Inv:Nat->S->Prop)
  (h1:∀(i:Nat) (s:S),i<n->Inv i s->∀K:S⊕β->aI,(∀s',Inv (i+1) s'->∃m,iter step m (pt (i+1) s')=K (.inl s'))->(∀b,K (.inr b)=out b)->∃m,step (iter step m) (pt i s)=K (f i s))
  (h0:∀s,Inv n s->∃m,step (iter step m) (pt n s)=out (tail s)) {s:S} (hs:Inv 0 s):∃m,iter step m (pt 0 s)=out (eX f tail n 0 s):=by
 have key:∀k i s,i+k=n->Inv i s->∃m,iter step m (pt i s)=out (eX f tail k i s):=by
  intro k
  induction k with
  | zero=>
   intro i s hi hs
   have :i=n:=by omega
   subst this
   obtain ⟨m,hm⟩:=h0 s hs
   exact ⟨m+1,hm⟩
  | succ k ih=>
   intro i s hi hs
   obtain ⟨m,hm⟩:=h1 i s (by omega) hs (fun r=>out (match r with | .inl s'=>eX f tail k (i+1) s' | .inr b=>b)) (fun s' hs'=>ih (i+1) s' (by omega) hs') (fun b=>rfl)
   refine ⟨m+1,hm.trans ?_⟩
   rw [sq]
 exact key n 0 s (by omega) hs
def vY {α:Type}{f:Nat->α->Unit->Unit⊕Int}(h:∀i x s b,f i x s=.inr b->b=(i:Int)):∀(xs:List α) (i:Nat) (s:Unit),-1<=ep f (fun _=>(-1:Int)) i xs s/\ep f (fun _=>(-1:Int)) i xs s<(i:Int)+xs.length
 | [],i,s=>by simp only [ep,List.length_nil];omega
 | x::xs,i,s=>by
  unfold ep
  cases hf:f i x s with
  | inl s'=>
   have:=vY h xs (i+1) s'
   simp only [List.length_cons]
   omega
  | inr b=>
   have:=h i x s b hf
   simp only [List.length_cons]
   omega
end Go.DM
namespace Go.DM
def iO {α:Type}{f:Nat->α->Unit->Unit⊕Int}(h:∀i x s b,f i x s=.inr b->b=(i:Int))(xs:List α)(s:Unit):-1<=ep f (fun _=>(-1:Int)) 0 xs s/\ep f (fun _=>(-1:Int)) 0 xs s<(xs.length:Int):=by
 have:=vY h xs 0 s
 simpa using this
def sD {α:Type}{p:α->Bool}{xs:List α}:decide (jE p 0 xs>=0)=xs.any p:=by
 have:=tK (p:=p) (xs:=xs) (i:=0)
 cases h:xs.any p<;>rw [h] at this<;>simp at this ⊢<;>omega
end Go.DM
namespace Go.DM
def nq {α S β:Type}{f:Nat->α->S->S⊕β}{c:β}(h:∀i x s b,f i x s=.inr b->b=c):∀(xs:List α) (i:Nat) (s:S),ep f (fun _=>c) i xs s=c
 | [],_,_=>rfl
 | x::xs,i,s=>by
  unfold ep
  cases hf:f i x s with
  | inl s'=>exact nq h xs _ _
  | inr b=>exact h _ _ _ _ hf
def qC {S β:Type}{f:Nat->S->S⊕β}{c:β}(h:∀i s b,f i s=.inr b->b=c):∀(k i:Nat) (s:S),eX f (fun _=>c) k i s=c
 | 0,_,_=>rfl
 | k+1,i,s=>by
  rw [sq]
  cases hf:f i s with
  | inl s'=>exact qC h k _ _
  | inr b=>exact h _ _ _ hf
end Go.DM
namespace Go.DM
def kU {α:Type}{f:Nat->α->Unit->Unit⊕Int}{p:α->Bool}(h:∀i x s,f i x s=bif p x then .inr (i:Int) else .inl ()):∀(xs:List α) (i:Nat) (s:Unit),ep f (fun _=>(-1:Int)) i xs s=jE p i xs
 | [],_,_=>rfl
 | x::xs,i,s=>by
  unfold ep jE
  rw [h]
  cases p x
  ·exact kU h xs _ _
  ·rfl
def CV {b c:Bool}:(cond (!b) false c)=(b&&c):=by cases b<;>rfl
def BA {b c:Bool}:(cond b c false)=(b&&c):=by cases b<;>rfl
end Go.DM
namespace Go.DM
def oy {α β:Type}{f:α->Unit->Unit⊕β}{p:α->Bool}{b c:β}(h:∀x s,f x s=bif p x then .inr b else .inl ()):∀(xs:List α) (s:Unit),eJ f (fun _=>c) xs s=bif xs.any p then b else c
 | [],_=>rfl
 | x::xs,s=>by
  unfold eJ
  rw [List.any_cons,h]
  cases p x
  ·exact oy h xs ()
  ·rfl
def tV {α:Type}{f:Nat->α->Unit->Unit⊕Int}{z:α}(h:∀i x s b,f i x s=.inr b->b=(i:Int)){xs:List α}(hn:ep f (fun _=>(-1:Int)) 0 xs ()<0):∀i,i<xs.length->f i (xs.getD i z) ()=.inl ():=by
 have key:∀(ys:List α) (k:Nat),ep f (fun _=>(-1:Int)) k ys ()<0->∀i,i<ys.length->f (k+i) (ys.getD i z) ()=.inl ():=by
  intro ys
  induction ys with
  | nil=>intro k _ i hi;simp at hi
  | cons y ys ih=>
   intro k hk i hi
   unfold ep at hk
   cases hf:f k y () with
   | inr b=>
    rw [hf] at hk
    have:=h k y () b hf
    simp only at hk
    omega
   | inl s'=>
    rw [hf] at hk
    cases i with
    | zero=>simpa using hf
    | succ i=>
     have:=ih (k+1) hk i (by simpa using hi)
     rw [show k+1+i=k+(i+1) by omega] at this
     simpa using this
 intro i hi
 have:=key xs 0 hn i hi
 simpa using this
end Go.DM
namespace Go.DM
end Go.DM
namespace Go.DM
class Row (α:Type) where
 row:α->List L
 CQ:∀{a b:α},row a=row b->a=b
class Im (α:Type) (β:outParam Type) where
 im:α->β
 inj:∀{a b:α},im a=im b->a=b
instance :Row Int:=⟨bt,mK⟩
instance :Row Bool:=⟨yG,zP⟩
instance :Row aE:=⟨cX,vP⟩
instance {α:Type} [Row α]:Row (List α):=⟨eK Row.row,wU Row.CQ⟩
instance :Im Int Int:=⟨fun x=>x,fun h=>h⟩
instance :Im Bool Bool:=⟨fun x=>x,fun h=>h⟩
instance :Im aE aE:=⟨fun x=>x,fun h=>h⟩
instance :Im Unit Unit:=⟨fun x=>x,fun h=>h⟩
instance {α:Type} [Row α]:Im (List α) (aB):=⟨fun x=>x.map Row.row,fun h=>map_inj Row.CQ h⟩
instance {α α' β β':Type} [Im α α'] [Im β β']:Im (α×β) (α'×β'):=⟨fun x=>(Im.im x.1,Im.im x.2),fun h=>Prod.ext (Im.inj (congrArg (fun x=>x.1) h)) (Im.inj (congrArg (fun x=>x.2) h))⟩
def u2 {a b r:Type}(f:a->b->r)(x:a×b):r:=f x.1 x.2
def u3 {a b c r:Type}(f:a->b->c->r)(x:a×b×c):r:=f x.1 x.2.1 x.2.2
def u4 {a b c d r:Type}(f:a->b->c->d->r)(x:a×b×c×d):r:=f x.1 x.2.1 x.2.2.1 x.2.2.2
def u5 {a b c d e r:Type}(f:a->b->c->d->e->r)(x:a×b×c×d×e):r:=f x.1 x.2.1 x.2.2.1 x.2.2.2.1 x.2.2.2.2
def u6 {a b c d e g r:Type}(f:a->b->c->d->e->g->r)(x:a×b×c×d×e×g):r:=f x.1 x.2.1 x.2.2.1 x.2.2.2.1 x.2.2.2.2.1 x.2.2.2.2.2
def u7 {a b c d e g h r:Type}(f:a->b->c->d->e->g->h->r)(x:a×b×c×d×e×g×h):r:=f x.1 x.2.1 x.2.2.1 x.2.2.2.1 x.2.2.2.2.1 x.2.2.2.2.2.1 x.2.2.2.2.2.2
def p2 {a b:Type}(f:a->b->Prop)(x:a×b):Prop:=f x.1 x.2
def p3 {a b c:Type}(f:a->b->c->Prop)(x:a×b×c):Prop:=f x.1 x.2.1 x.2.2
def p4 {a b c d:Type}(f:a->b->c->d->Prop)(x:a×b×c×d):Prop:=f x.1 x.2.1 x.2.2.1 x.2.2.2
def p5 {a b c d e:Type}(f:a->b->c->d->e->Prop)(x:a×b×c×d×e):Prop:=f x.1 x.2.1 x.2.2.1 x.2.2.2.1 x.2.2.2.2
def p6 {a b c d e g:Type}(f:a->b->c->d->e->g->Prop)(x:a×b×c×d×e×g):Prop:=f x.1 x.2.1 x.2.2.1 x.2.2.2.1 x.2.2.2.2.1 x.2.2.2.2.2
section
variable {A A' B B':Type} [Im A A'] [Im B B'] {g:A->Prop} {m:A->B}
def RR (g:A->Prop)(m:A->B)(x:A'):Option B':=ofM Im.im g (fun a=>Im.im (m a)) x
theorem ud {a:A}(h:g a):RR g m (Im.im a)=some (Im.im (m a)):=B7 (fun _ _ h=>Im.inj h) h
def CN [RT B'](ps:List gK)(r:RP)(acc:List L->A')(R:A'->Option B'):gh:=⟨ps,r,fun ls=>(R (acc ls)).map RT.enc⟩
theorem VP [RT B']{X:Type}{P:Program}{T:List (Nat×TI)}{G:List (Nat×gh)}{nt:Nat}{f:FuncId}{fn:Func}{ps:List gK}{r:RP}{acc:List L->A'}{accr:List L->X}{live:Nat->Live}{run:Nat->X->aI}
  (hm:P.follows .mixedOrders=true) (hT:fm P T=true) (hG:fY P (dV T) G) (hf:P.funcs[f]?=some fn) (hb:sU fn (CN ps r acc (RR g m)) nt=true)
  (hrun:∀n ls,eY { T:=assoc T,G:=dK G,nt:=nt } live fn r n (dF ps ls)=run n (accr ls))
  (hok:∀ls a,sA (dV T).cells ps ls->acc ls=Im.im a->g a->∃n,run n (accr ls)=ret (Im.im (m a))):Valid P (dV T) f (CN ps r acc (RR g m)):=
 valid hm hT hG hf hb live fun ls q hl h=>by
  obtain ⟨v,hv,hq⟩:=map_some h
  obtain ⟨a,hg,e,hm⟩:=lG hv
  obtain ⟨n,hn⟩:=hok ls a hl e.symm hg
  exact ⟨n,(hrun n ls).trans (hn.trans (by rw [<-hq,<-hm];rfl))⟩
theorem VV [RT B']{P:Program}{T:List (Nat×TI)}{G:List (Nat×gh)}{nt:Nat}{f:FuncId}{fn:Func}{ps:List gK}{r:RP}{acc:List L->A'}{live:Nat->Live}{run:Nat->A'->aI}
  (hm:P.follows .mixedOrders=true) (hT:fm P T=true) (hG:fY P (dV T) G) (hf:P.funcs[f]?=some fn) (hb:sU fn (CN ps r acc (RR g m)) nt=true)
  (hrun:∀n ls,eY { T:=assoc T,G:=dK G,nt:=nt } live fn r n (dF ps ls)=run n (acc ls))
  (hok:∀ls a,sA (dV T).cells ps ls->acc ls=Im.im a->g a->∃n,run n (Im.im a)=ret (Im.im (m a))):Valid P (dV T) f (CN ps r acc (RR g m)):=
 VP hm hT hG hf hb hrun fun ls a hl e hg=>by rw [e];exact hok ls a hl e hg
theorem VS [RT B']{P:Program}{T:List (Nat×TI)}{G:List (Nat×gh)}{S:List (Nat×gX)}{nt:Nat}{f:FuncId}{fn:Func}{ps:List gK}{r:RP}{acc:List L->A'}{live:Nat->Live}{run:Nat->A'->aI}
  (hm:P.follows .mixedOrders=true) (hT:fm P T=true) (hG:fY P (dV T) G) (hS:jV P (dV T) S) (hf:P.funcs[f]?=some fn) (hb:sU fn (CN ps r acc (RR g m)) nt=true)
  (hrun:∀n ls,eY { T:=assoc T,G:=dK G,nt:=nt,M:=gm S } live fn r n (dF ps ls)=run n (acc ls))
  (hok:∀ls a,sA (dV T).cells ps ls->acc ls=Im.im a->g a->∃n,run n (Im.im a)=ret (Im.im (m a))):Valid P (dV T) f (CN ps r acc (RR g m)):=
 uL hm hT hG hS hf hb live fun ls q hl h=>by
  obtain ⟨v,hv,hq⟩:=map_some h
  obtain ⟨a,hg,e,hm⟩:=lG hv
  obtain ⟨n,hn⟩:=hok ls a hl e.symm hg
  exact ⟨n,(hrun n ls).trans (by rw [<-e];exact hn.trans (by rw [<-hq,<-hm];rfl))⟩
theorem VI [RT B']{P:Program}{T:List (Nat×TI)}{G:List (Nat×gh)}{S:List (Nat×gX)}{I:List (Nat×kD)}{nt:Nat}{mt:Bool}{J:List Nat}{f:FuncId}{fn:Func}{ps:List gK}{r:RP}{acc:List L->A'}{live:Nat->Live}{run:Nat->A'->aI}
  (hm:P.follows .mixedOrders=true) (hT:fm P T=true) (hG:fY P (dV T) G) (hS:jV P (dV T) S) (hI:oq P (dV T) 0 I) (hf:P.funcs[f]?=some fn) (hb:sU fn (CN ps r acc (RR g m)) nt=true)
  (hrun:∀n ls,eY { T:=assoc T,G:=dK G,nt:=nt,M:=gm S,mt:=mt,I:=mq I,J:=J } live fn r n (dF ps ls)=run n (acc ls))
  (hok:∀ls a,sA (dV T).cells ps ls->acc ls=Im.im a->g a->∃n,run n (Im.im a)=ret (Im.im (m a))):Valid P (dV T) f (CN ps r acc (RR g m)):=
 Bk hm hT hG hS hI hf hb live fun ls q hl h=>by
  obtain ⟨v,hv,hq⟩:=map_some h
  obtain ⟨a,hg,e,hm⟩:=lG hv
  obtain ⟨n,hn⟩:=hok ls a hl e.symm hg
  exact ⟨n,(hrun n ls).trans (by rw [<-e];exact hn.trans (by rw [<-hq,<-hm];rfl))⟩
theorem VT [RT B']{P:Program}{T:List (Nat×TI)}{G:List (Nat×gh)}{S:List (Nat×gX)}{nt:Nat}{f:FuncId}{fn:Func}{ps:List gK}{r:RP}{acc:List L->A'}{live:Nat->Live}{run:Nat->A'->aI}
  (hm:P.follows .mixedOrders=true) (hT:fm P T=true) (hG:fY P (dV T) G) (hS:jV P (dV T) S) (hf:P.funcs[f]?=some fn) (hb:sU fn (CN ps r acc (RR g m)) nt=true)
  (hrun:∀n ls,eY { T:=assoc T,G:=dK G,nt:=nt,M:=gm S,mt:=true } live fn r n (dF ps ls)=run n (acc ls))
  (hok:∀ls a,sA (dV T).cells ps ls->acc ls=Im.im a->g a->∃n,run n (Im.im a)=ret (Im.im (m a))):Valid P (dV T) f (CN ps r acc (RR g m)):=
 uL hm hT hG hS hf hb live fun ls q hl h=>by
  obtain ⟨v,hv,hq⟩:=map_some h
  obtain ⟨a,hg,e,hm⟩:=lG hv
  obtain ⟨n,hn⟩:=hok ls a hl e.symm hg
  exact ⟨n,(hrun n ls).trans (by rw [<-e];exact hn.trans (by rw [<-hq,<-hm];rfl))⟩
def MN [RT B'](ps:List (Bool×List K))(acc:List L->A')(R:A'->Option B'):gX:=⟨ps,fun ls=>(R (acc ls)).map RT.enc⟩
theorem MV [RT B']{P:Program}{T:List (Nat×TI)}{G:List (Nat×gh)}{S:List (Nat×gX)}{nt:Nat}{f:FuncId}{fn:Func}{ps:List (Bool×List K)}{acc:List L->A'}{live:Nat->Live}{run:Nat->A'->aI}
  (hm:P.follows .mixedOrders=true) (hT:fm P T=true) (hG:fY P (dV T) G) (hS:jV P (dV T) S) (hf:P.funcs[f]?=some fn) (hb:Cj fn (MN ps acc (RR g m)) nt=true)
  (hrun:∀n ls,eY { T:=assoc T,G:=dK G,nt:=nt,M:=gm S,np:=(lW ps).length,mt:=true } live fn (.nR (lW ps)) n (ig ps ls)=run n (acc ls))
  (hok:∀ls a,AN (dV T).cells ps ls->acc ls=Im.im a->g a->∃n,run n (Im.im a)=ret (Im.im (m a))):fD P (dV T) f (MN ps acc (RR g m)):=
 Ch hm hT hG hS hf hb live fun ls q hl h=>by
  obtain ⟨v,hv,hq⟩:=map_some h
  obtain ⟨a,hg,e,hm⟩:=lG hv
  obtain ⟨n,hn⟩:=hok ls a hl e.symm hg
  exact ⟨n,(hrun n ls).trans (by rw [<-e];exact hn.trans (by rw [<-hq,<-hm];rfl))⟩
theorem gp (n:Nat):(Nat.beq n n&&true)=true:=by rw [Nat.beq_refl];rfl
end
def S0:(∀(α β:Type) (f:α->β) (l:List α),(l.map f).length=l.length)/\(∀n:Nat,Int.toNat (n:Int)=n)/\(∀s:aE,ji s=(kX s).map bt)/\(∀(xs:List Int) i,kr (xs.map bt) i=xs.getD i 0)/\
  (∀(xs:List Bool) i,Dq (xs.map yG) i=xs.getD i false)/\(∀(xs:List aE) i,qS (xs.map cX) i=xs.getD i ⟨#[]⟩)/\(∀(α:Type) (f:α->List L) (xs:List (List α)) i,qi (xs.map (eK f)) i=(xs.getD i []).map f):=
 ⟨fun _ _ _ _=>List.length_map ..,cM,xI,fun _ _=>iC,fun _ _=>Au,fun _ _=>zX,fun _ _ _ _=>rQ⟩
def MP:(∀(α β:Type) (f:α->β) (a b:List α),(a++b).map f=a.map f++b.map f)/\(∀(α β:Type) (f:α->β) (a:α) (b:List α),(a::b).map f=f a::b.map f)/\(∀(α β:Type) (f:α->β),[].map f=[])/\
  (∀(α:Type) (a:α) (b c:List α),(a::b)++c=a::(b++c))/\(∀(α:Type) (c:List α),[]++c=c)/\(∀n,bt n=[.int n])/\(∀n,yG n=[.bool n])/\(∀n,cX n=[.str n])/\(∀(α:Type) (f:α->List L) (c:List α),eK f c=[.sl (c.map f)])/\
  (∀(α β:Type) (f:α->β) (l:List α) (i:Nat) (a:α),(l.set i a).map f=(l.map f).set i (f a))/\(∀(α β:Type) (f:α->β) (l:List α) (i:Nat),(l.take i).map f=(l.map f).take i)/\(∀(α β:Type) (f:α->β) (l:List α) (i:Nat),(l.drop i).map f=(l.map f).drop i):=
 ⟨fun _ _ _ _ _=>List.map_append ..,fun _ _ _ _ _=>rfl,fun _ _ _=>rfl,fun _ _ _ _=>rfl,fun _ _=>rfl,fun _=>rfl,fun _=>rfl,fun _=>rfl,fun _ _ _=>rfl,fun _ _ _ _ _ _=>List.map_set ..,fun _ _ _ _ _=>List.map_take ..,fun _ _ _ _ _=>List.map_drop ..⟩
def LN:(∀(a:Nat) (l:List Nat),(a::l).sum=a+l.sum)/\(([]:List Nat).sum=0)/\(∀(α β:Type) (f:α->β) (a:α) (b:List α),(a::b).map f=f a::b.map f)/\(∀(α β:Type) (f:α->β),[].map f=[])/\(∀s,(kX s).length=s.size)/\(∀s,(ji s).length=s.size)/\
  (∀(α:Type) (a b:List α),(a++b).length=a.length+b.length)/\(∀(α:Type) (a:α) (b:List α),(a::b).length=b.length+1)/\(∀(α:Type),([]:List α).length=0)/\(∀(α β:Type) (f:α->β) (l:List α),(l.map f).length=l.length)/\
  (∀(α:Type) (l:List α) (i:Nat) (a:α),(l.set i a).length=l.length)/\(∀(α:Type) (n:Nat) (a:α),(List.replicate n a).length=n)/\(∀(α:Type) (l:List α) (i:Nat),(l.take i).length=min i l.length)/\(∀(α:Type) (l:List α) (i:Nat),(l.drop i).length=l.length - i):=
 ⟨fun _ _=>List.sum_cons,rfl,fun _ _ _ _ _=>rfl,fun _ _ _=>rfl,iH,sV,fun _ _ _=>List.length_append ..,fun _ _ _=>rfl,fun _=>rfl,fun _ _ _ _=>List.length_map ..,fun _ _ _ _=>List.length_set ..,fun _ _ _=>List.length_replicate ..,fun _ _ _=>List.length_take ..,fun _ _ _=>List.length_drop ..⟩
def DC:(∀(α:Type) [BEq α] [LawfulBEq α] (a b:α),((a != b)=false)=(a=b))/\(∀(α:Type) [BEq α] [LawfulBEq α] (a b:α),((a != b)=true)=¬(a=b))/\(∀(α:Type) [BEq α] [LawfulBEq α] (a b:α),((a==b)=true)=(a=b))/\(∀(α:Type) [BEq α] [LawfulBEq α] (a b:α),((a==b)=false)=¬(a=b))/\
  (∀b:Bool,((!b)=true)=(b=false))/\(∀b:Bool,((!b)=false)=(b=true))/\(∀(p:Prop) [Decidable p],(decide p=true)=p)/\(∀(p:Prop) [Decidable p],(decide p=false)=¬p):=
 ⟨fun _ _ _ _ _=>by simp,fun _ _ _ _ _=>by simp,fun _ _ _ _ _=>by simp,fun _ _ _ _ _=>by simp,fun b=>by simp,fun b=>by simp,fun p _=>by simp,fun p _=>by simp⟩
def CP {b c:Bool}:(cond b false c)=(!b&&c):=by cases b<;>rfl
def wi (n:Int)(h:-9223372036854775808<=n/\n<=9223372036854775807):IntKind.i64.wrap n=n:=Go.IntWalk.i64_in n h
def mW {α S β:Type}{f g:Nat->α->S->S⊕β}{t u:S->β}:∀{xs:List α} {i:Nat} {s:S},(∀i,∀x∈xs,∀s,f i x s=g i x s)->(∀s,t s=u s)->ep f t i xs s=ep g u i xs s
 | [],_,s,_,h0=>h0 s
 | x::xs,i,s,h,h0=>by
  unfold ep
  rw [h i x (by simp) s]
  cases g i x s with
  | inl s'=>exact mW (fun i y hy=>h i y (by simp [hy])) h0
  | inr b=>rfl
end Go.DM
namespace Go.DM
def eS (n:Int):Prop:=-9223372036854775808<=n/\n<=9223372036854775807
def bS (n:Int):eS (IntKind.i64.wrap n):=by rw [IntKind.wrap_i64];unfold eS;omega
end Go.DM
namespace Go.DM
def jF {α β:Type}(f:α->Int->Int×β):List α->Int->Int×List β
 | [],k=>(k,[])
 | x::xs,k=>((jF f xs (f x k).1).1,(f x k).2::(jF f xs (f x k).1).2)
def ke {α β:Type}{f:α->Int->Int×β}{I:Int->Prop}(h:∀x k,I k->I (f x k).1):∀{xs:List α} {k:Int},I k->I (jF f xs k).1
 | [],_,hk=>hk
 | x::xs,k,hk=>ke h (xs:=xs) (h x k hk)
def sZ {α:Type}{c:List α}{i:Nat}{y:α}:(c.set i y).drop (i+1)=c.drop (i+1):=by
 apply List.ext_getElem?
 intro j
 rw [List.getElem?_drop,List.getElem?_drop,List.getElem?_set,if_neg (by omega)]
def gM {Pt α:Type}{step:(Pt->aI)->Pt->aI}{pt:Nat->Int->List α->Pt}{el:α->Int->Int×α}{out:Int×List α->aI}{xs:List α}(z:α)(I:Int->Prop)(hI:∀x k,I k->I (el x k).1)
  (h1:∀(J:Pt->aI) (i:Nat) (k:Int) (c:List α),i<c.length->c.length=xs.length->I k->step J (pt i k c)=J (pt (i+1) (el (c.getD i z) k).1 (c.set i (el (c.getD i z) k).2)))
  (h0:∀(J:Pt->aI) (k:Int) (c:List α),c.length=xs.length->step J (pt c.length k c)=out (k,c)) {k:Int} (hk:I k):∃m,iter step m (pt 0 k xs)=out (jF el xs k):=by
 have key:∀(n i:Nat) (c:List α) (k:Int),i+n=c.length->c.length=xs.length->I k->∃m,iter step m (pt i k c)=out ((jF el (c.drop i) k).1,c.take i++(jF el (c.drop i) k).2):=by
  intro n
  induction n with
  | zero=>
   intro i c k hi hc hk
   have :i=c.length:=by omega
   subst this
   refine ⟨1,(h0 _ k c hc).trans ?_⟩
   rw [List.drop_eq_nil_of_le (Nat.le_refl _),List.take_of_length_le (Nat.le_refl _)]
   simp [jF]
  | succ n ih=>
   intro i c k hi hc hk
   have hlt:i<c.length:=by omega
   obtain ⟨m,hm⟩:=ih (i+1) (c.set i (el (c.getD i z) k).2) (el (c.getD i z) k).1 (by simp;omega) (by simp [hc]) (hI _ _ hk)
   refine ⟨m+1,(h1 _ i k c hlt hc hk).trans (hm.trans ?_)⟩
   rw [sZ,take_set hlt,List.drop_eq_getElem_cons hlt,fF hlt]
   simp [jF]
 have:=key xs.length 0 xs k (by omega) rfl hk
 simpa using this
def jC {α:Type}(f:α->Int->Option Int):List α->Int->Int
 | [],k=>k
 | x::xs,k=>match f x k with
  | some k'=>jC f xs k'
  | none=>-1
def Av:Option Int->(Int->aI)->aI
 | none,_=>ret (-1:Int)
 | some k,K=>K k
def bw {c:Bool}{x y:aI}{r:Option Int}{K:Int->aI}(h1:x=ret (-1:Int))(h2:y=Av r K):(cond c x y)=Av (cond c none r) K:=by
 cases c
 ·exact h2
 ·exact h1
def jh {Pt α:Type}{step:(Pt->aI)->Pt->aI}{pt:Nat->Int->Pt}{f:α->Int->Option Int}{xs:List α}(z:α)(I:Int->Prop)(hI:∀x k k',I k->f x k=some k'->I k')
  (h1:∀(J:Pt->aI) (i:Nat) (k:Int),i<xs.length->I k->step J (pt i k)=Av (f (xs.getD i z) k) (fun k'=>J (pt (i+1) k')))
  (h0:∀(J:Pt->aI) (k:Int),step J (pt xs.length k)=ret k) {k:Int} (hk:I k):∃m,iter step m (pt 0 k)=ret (jC f xs k):=by
 have key:∀(n i:Nat) (k:Int),i+n=xs.length->I k->∃m,iter step m (pt i k)=ret (jC f (xs.drop i) k):=by
  intro n
  induction n with
  | zero=>
   intro i k hi hk
   have :i=xs.length:=by omega
   subst this
   refine ⟨1,(h0 _ k).trans ?_⟩
   rw [List.drop_eq_nil_of_le (Nat.le_refl _)];rfl
  | succ n ih=>
   intro i k hi hk
   have hlt:i<xs.length:=by omega
   rw [List.drop_eq_getElem_cons hlt]
   have h:=fun J=>h1 J i k hlt hk
   rw [fF hlt] at h
   unfold jC
   cases hf:f xs[i] k with
   | none=>refine ⟨1,(h _).trans ?_⟩;rw [hf];rfl
   | some k'=>
    obtain ⟨m,hm⟩:=ih (i+1) k' (by omega) (hI _ _ _ hk hf)
    refine ⟨m+1,(h _).trans ?_⟩
    rw [hf];exact hm
 have:=key xs.length 0 k (by omega) hk
 simpa using this
def bg {c:Bool}{r:Option Int}{k:Int}(h:(cond c none r)=some k):r=some k:=by
 cases c
 ·exact h
 ·cases h
def mo:Option Int->Int
 | none=>-1
 | some k=>k
def fT {c:Bool}{x y:aI}{r:Option Int}(h1:x=ret (-1:Int))(h2:y=ret (mo r)):(cond c x y)=ret (mo (cond c none r)):=by
 cases c
 ·exact h2
 ·exact h1
def kJ {α:Type}{f:α->Int->Option Int}{I:Int->Prop}(hI:∀x k k',I k->f x k=some k'->I k')(hn:I (-1)):∀{xs:List α} {k:Int},I k->I (jC f xs k)
 | [],_,hk=>hk
 | x::xs,k,hk=>by
  unfold jC
  cases hf:f x k with
  | none=>exact hn
  | some k'=>exact kJ hI hn (hI _ _ _ hk hf)
def iu {α:Type}{el:α->Int->Int×α}{cnt:α->Nat}(h:∀x k,0<=k->k+(cnt x:Int)<=4611686018427387904->(el x k).1=k+cnt x) :
  ∀(xs:List α) (k:Int),0<=k->k+((xs.map cnt).sum:Int)<=4611686018427387904->(jF el xs k).1=k+(xs.map cnt).sum
 | [],k,_,_=>by simp [jF]
 | x::xs,k,h0,hb=>by
  simp only [List.map_cons,List.sum_cons,Int.natCast_add] at hb ⊢
  have e1:=h x k h0 (by omega)
  have e3:=iu h xs (k+cnt x) (by omega) (by omega)
  simp only [jF,e1]
  rw [e3];omega
def iN {α:Type}{el:α->Int->Int×α}{f:α->Int->Option Int}{cnt:α->Nat}(h:∀x k,0<=k->k+(cnt x:Int)<=4611686018427387904->(el x k).1=k+cnt x)
  (h2:∀x k,0<=k->k+(cnt x:Int)<=4611686018427387904->f (el x k).2 k=some (k+cnt x)) :
  ∀(xs:List α) (k:Int),0<=k->k+((xs.map cnt).sum:Int)<=4611686018427387904->jC f (jF el xs k).2 k=k+(xs.map cnt).sum
 | [],k,_,_=>by simp [jF,jC]
 | x::xs,k,h0,hb=>by
  simp only [List.map_cons,List.sum_cons,Int.natCast_add] at hb ⊢
  have e1:=h x k h0 (by omega)
  have e2:=h2 x k h0 (by omega)
  have e4:=iN h h2 xs (k+cnt x) (by omega) (by omega)
  simp only [jF,jC,e1,e2]
  rw [e4];omega
def ku {α:Type}{cnt f:α->Nat}(h:∀x,cnt x<=60+60*f x):∀xs:List α,(xs.map cnt).sum<=60*eC f xs
 | []=>by simp
 | x::xs=>by
  have h1:=h x
  have h2:=ku h xs
  unfold eC at h2 ⊢
  simp only [List.map_cons,List.sum_cons,List.length_cons]
  omega
def pZ {α:Type}{f:α->Nat}{xs:List α}{i:Nat}{z:α}(h:i<xs.length):f (xs.getD i z)<=eC f xs:=by
 rw [fF h]
 have:=vi (f:=f) (List.getElem_mem h)
 unfold eC
 omega
def lF {α:Type}{f:α->Nat}{xs:List α}{i:Nat}{z:α}(hz:f z=0):f (xs.getD i z)<=eC f xs:=by
 by_cases h:i<xs.length
 ·exact pZ h
 ·rw [List.getD_eq_getElem?_getD,List.getElem?_eq_none (by omega)]
  show f z<=_
  omega
def uE {α:Type}{f:α->Nat}:∀(xs:List α) (i:Nat) (y:α),eC f (xs.set i y)<=eC f xs+(f y+1)
 | [],_,_=>by simp [eC]
 | x::xs,0,y=>by simp [eC];omega
 | x::xs,i+1,y=>by
  have:=uE (f:=f) xs i y
  simp [eC] at this ⊢
  omega
def sG {α:Type}{f:α->Nat}(xs:List α)(y:α):eC f (xs++[y])<=eC f xs+(f y+1):=by simp [eC];omega
def rN:∀xs:List Int,eC (fun _:Int=>0) xs=xs.length
 | []=>rfl
 | x::xs=>by
  have:=rN xs
  simp only [eC,List.length_cons,List.map_cons,List.sum_cons] at this ⊢
  omega
def bN.set {α:Type}{n:Nat}{p:α->Prop}{xs:List α}{i:Nat}{y:α}(h:bN n p xs)(g:p y):bN n p (xs.set i y):=
 ⟨by rw [List.length_set];exact h.1,fun x hx=>(List.mem_or_eq_of_mem_set hx).elim (h.2 x) fun e=>e ▸ g⟩
def bN.app {α:Type}{n a b:Nat}{p:α->Prop}{xs ys:List α}(h:bN a p xs)(g:bN b p ys)(hn:a+b<=n):bN n p (xs++ys):=
 ⟨by rw [List.length_append];have:=h.1;have:=g.1;omega,fun x hx=>(List.mem_append.1 hx).elim (h.2 x) (g.2 x)⟩
def bN.sW {α:Type}{n:Nat}{p:α->Prop}{xs:List α}{i:Nat}{z:α}(h:bN n p xs)(hz:p z):p (xs.getD i z):=by
 by_cases hi:i<xs.length
 ·exact bN.getD h hi
 ·rw [List.getD_eq_getElem?_getD,List.getElem?_eq_none (by omega)];exact hz
def bN.one {α:Type}{p:α->Prop}{y:α}(h:p y):bN 1 p [y]:=⟨Nat.le_refl _,fun x hx=>by rw [List.mem_singleton.1 hx];exact h⟩
def jr:eS (-1):=⟨by decide,by decide⟩
def lP:eS 1:=⟨by decide,by decide⟩
def su {α S β γ:Type}{f:Nat->α->S->S⊕β}{t:S->β}{g:α->S->S⊕γ}{u:S->γ}{p:β->γ}(h:∀i x s,(f i x s).map id p=g x s)(h0:∀s,p (t s)=u s) :
  ∀(xs:List α) (i:Nat) (s:S),p (ep f t i xs s)=eJ g u xs s
 | [],i,s=>h0 s
 | x::xs,i,s=>by
  have hx:=h i x s
  unfold ep eJ
  rw [<-hx]
  cases f i x s with
  | inl s'=>exact su h h0 xs (i+1) s'
  | inr b=>rfl
def lm {n:Int}(h:n<=140737488355328:=by (try simp (disch:=omega) only [LN,wi,Bool.cond_decide]);first | omega | (simp;done) | (simp;omega)):fJ n=true:=iV h
def dt {p:Prop}{_:Decidable p}(h:p:=by (try simp (disch:=omega) only [LN,wi,Bool.cond_decide]);first | omega | (simp;done) | (simp;omega)):decide p=true:=decide_eq_true h
def df {p:Prop}{_:Decidable p}(h:¬p:=by (try simp (disch:=omega) only [LN,wi,Bool.cond_decide]);first | omega | (simp;done) | (simp;omega)):decide p=false:=decide_eq_false h
def om {p:Prop}(h:p:=by (try simp (disch:=omega) only [LN,wi,Bool.cond_decide]);first | omega | (simp;done) | (simp;omega)):p:=h
def ct {γ:Type}[RT γ]{o:Option γ}{b:γ}{k:γ->aI}{r:aI}(h:o=some b)(hk:k b=r):call o k=r:=aU b h hk
def cx {γ:Type}[RT γ]{o:Option γ}{b:γ}{k:Nat->γ->aI}{r:aI}(h:o=some b)(hk:∃n,k n b=r):∃n,call o (k n)=r:=fP b h hk
def cr {S β γ:Type}[RT γ]{K:S->aI}{out:β->aI}{Q:S->Prop}{o:Option γ}{b:γ}{k:γ->aI}{r:S⊕β}(h:o=some b)(hk:bp (k b) K out Q r):bp (DM.call o k) K out Q r:=bp.aU b h hk
def W1 {A A' Z Z':Type}[Im A A'][RT A'][Im Z Z'][RT Z']{P:Program}{T:List (Nat×TI)}{G:List (Nat×gh)}{f:FuncId}{fn:Func}{ps:List gK}{r:RP}{g:A->Prop}{m:A->Z}(nt:Nat)(F:A'->aI)(hm:P.follows .mixedOrders=true)(hT:fm P T=true)(ok:∀a0,g a0->F (Im.im a0)=ret (Im.im (m a0)))(hG:fY P (dV T) G)(hf:P.funcs[f]?=some fn)
  (hb:sU fn (CN ps r (RT.dec:List L->A') (RR g m)) nt=true:=by kernel_rfl) (hr:∀n ls,eY { T:=assoc T,G:=dK G,nt:=nt } (fun _=>[]) fn r n (dF ps ls)=F (RT.dec ls:A'):=by intro _ _;kernel_rfl):Valid P (dV T) f (CN ps r (RT.dec:List L->A') (RR g m)):=
 VV (run:=fun _ x=>F x) hm hT hG hf hb hr fun _ a _ _ h=>⟨0,ok a h⟩
def L1 {A A' Z Z':Type}[Im A A'][RT A'][Im Z Z'][RT Z']{P:Program}{T:List (Nat×TI)}{G:List (Nat×gh)}{f:FuncId}{fn:Func}{ps:List gK}{r:RP}{g:A->Prop}{m:A->Z}{Pt:Type}(nt:Nat)(id:Pt->Nat)(vs:Pt->List V)(hs:Pt->List aW)(live:Nat->Live)(step:(Pt->aI)->Pt->aI)(start:(Pt->aI)->A'->aI)(hm:P.follows .mixedOrders=true)(hT:fm P T=true)(ok:∀a0,g a0->∃n,start (iter step n) (Im.im a0)=ret (Im.im (m a0)))(hG:fY P (dV T) G)(hf:P.funcs[f]?=some fn)
  (hb:sU fn (CN ps r (RT.dec:List L->A') (RR g m)) nt=true:=by kernel_rfl) (h1:∀(I:cJ) (p:Pt),dh { T:=assoc T,G:=dK G,nt:=nt } live I (id p) (bI fn) (fU (live (id p)) (vs p) (hs p)) (cG { T:=assoc T,G:=dK G,nt:=nt } fn r)=step (fun q=>I (id q) (vs q) (hs q)) p:=by intro _ p;cases p<;>kernel_rfl)
  (h0:∀(I:cJ) (ls:List L),fH { T:=assoc T,G:=dK G,nt:=nt } live I (bI fn) (dF ps ls) (cG { T:=assoc T,G:=dK G,nt:=nt } fn r)=start (fun q=>I (id q) (vs q) (hs q)) (RT.dec ls:A'):=by intro _ _;kernel_rfl):Valid P (dV T) f (CN ps r (RT.dec:List L->A') (RR g m)):=
 VV (run:=fun n x=>start (iter step n) x) hm hT hG hf hb (fun n ls=>cB (start:=fun J=>start J (RT.dec ls:A')) h1 (fun I=>h0 I ls) n) fun _ a _ _ h=>ok a h
def W2 {A A' B B' Z Z':Type}[Im A A'][RT A'][Im B B'][RT B'][Im Z Z'][RT Z']{P:Program}{T:List (Nat×TI)}{G:List (Nat×gh)}{f:FuncId}{fn:Func}{ps:List gK}{r:RP}{g:A->B->Prop}{m:A->B->Z}(nt:Nat)(F:A'->B'->aI)(hm:P.follows .mixedOrders=true)(hT:fm P T=true)(ok:∀a0 a1,g a0 a1->F (Im.im a0) (Im.im a1)=ret (Im.im (m a0 a1)))(hG:fY P (dV T) G)(hf:P.funcs[f]?=some fn)
  (hb:sU fn (CN ps r (RT.dec:List L->A'×B') (RR (p2 g) (u2 m))) nt=true:=by kernel_rfl) (hr:∀n ls,eY { T:=assoc T,G:=dK G,nt:=nt } (fun _=>[]) fn r n (dF ps ls)=F (RT.dec ls:A'×B').1 (RT.dec ls:A'×B').2:=by intro _ _;kernel_rfl):Valid P (dV T) f (CN ps r (RT.dec:List L->A'×B') (RR (p2 g) (u2 m))):=
 VV (run:=fun _ x=>F x.1 x.2) hm hT hG hf hb hr fun _ a _ _ h=>⟨0,ok a.1 a.2 h⟩
def L2 {A A' B B' Z Z':Type}[Im A A'][RT A'][Im B B'][RT B'][Im Z Z'][RT Z']{P:Program}{T:List (Nat×TI)}{G:List (Nat×gh)}{f:FuncId}{fn:Func}{ps:List gK}{r:RP}{g:A->B->Prop}{m:A->B->Z}{Pt:Type}(nt:Nat)(id:Pt->Nat)(vs:Pt->List V)(hs:Pt->List aW)(live:Nat->Live)(step:(Pt->aI)->Pt->aI)(start:(Pt->aI)->A'->B'->aI)(hm:P.follows .mixedOrders=true)(hT:fm P T=true)(ok:∀a0 a1,g a0 a1->∃n,start (iter step n) (Im.im a0) (Im.im a1)=ret (Im.im (m a0 a1)))(hG:fY P (dV T) G)(hf:P.funcs[f]?=some fn)
  (hb:sU fn (CN ps r (RT.dec:List L->A'×B') (RR (p2 g) (u2 m))) nt=true:=by kernel_rfl) (h1:∀(I:cJ) (p:Pt),dh { T:=assoc T,G:=dK G,nt:=nt } live I (id p) (bI fn) (fU (live (id p)) (vs p) (hs p)) (cG { T:=assoc T,G:=dK G,nt:=nt } fn r)=step (fun q=>I (id q) (vs q) (hs q)) p:=by intro _ p;cases p<;>kernel_rfl)
  (h0:∀(I:cJ) (ls:List L),fH { T:=assoc T,G:=dK G,nt:=nt } live I (bI fn) (dF ps ls) (cG { T:=assoc T,G:=dK G,nt:=nt } fn r)=start (fun q=>I (id q) (vs q) (hs q)) (RT.dec ls:A'×B').1 (RT.dec ls:A'×B').2:=by intro _ _;kernel_rfl):Valid P (dV T) f (CN ps r (RT.dec:List L->A'×B') (RR (p2 g) (u2 m))):=
 VV (run:=fun n x=>start (iter step n) x.1 x.2) hm hT hG hf hb (fun n ls=>cB (start:=fun J=>start J (RT.dec ls:A'×B').1 (RT.dec ls:A'×B').2) h1 (fun I=>h0 I ls) n) fun _ a _ _ h=>ok a.1 a.2 h
def W3 {A A' B B' C C' Z Z':Type}[Im A A'][RT A'][Im B B'][RT B'][Im C C'][RT C'][Im Z Z'][RT Z']{P:Program}{T:List (Nat×TI)}{G:List (Nat×gh)}{f:FuncId}{fn:Func}{ps:List gK}{r:RP}{g:A->B->C->Prop}{m:A->B->C->Z}(nt:Nat)(F:A'->B'->C'->aI)(hm:P.follows .mixedOrders=true)(hT:fm P T=true)(ok:∀a0 a1 a2,g a0 a1 a2->F (Im.im a0) (Im.im a1) (Im.im a2)=ret (Im.im (m a0 a1 a2)))(hG:fY P (dV T) G)(hf:P.funcs[f]?=some fn)
  (hb:sU fn (CN ps r (RT.dec:List L->A'×B'×C') (RR (p3 g) (u3 m))) nt=true:=by kernel_rfl) (hr:∀n ls,eY { T:=assoc T,G:=dK G,nt:=nt } (fun _=>[]) fn r n (dF ps ls)=F (RT.dec ls:A'×B'×C').1 (RT.dec ls:A'×B'×C').2.1 (RT.dec ls:A'×B'×C').2.2:=by intro _ _;kernel_rfl):Valid P (dV T) f (CN ps r (RT.dec:List L->A'×B'×C') (RR (p3 g) (u3 m))):=
 VV (run:=fun _ x=>F x.1 x.2.1 x.2.2) hm hT hG hf hb hr fun _ a _ _ h=>⟨0,ok a.1 a.2.1 a.2.2 h⟩
def L3 {A A' B B' C C' Z Z':Type}[Im A A'][RT A'][Im B B'][RT B'][Im C C'][RT C'][Im Z Z'][RT Z']{P:Program}{T:List (Nat×TI)}{G:List (Nat×gh)}{f:FuncId}{fn:Func}{ps:List gK}{r:RP}{g:A->B->C->Prop}{m:A->B->C->Z}{Pt:Type}(nt:Nat)(id:Pt->Nat)(vs:Pt->List V)(hs:Pt->List aW)(live:Nat->Live)(step:(Pt->aI)->Pt->aI)(start:(Pt->aI)->A'->B'->C'->aI)(hm:P.follows .mixedOrders=true)(hT:fm P T=true)(ok:∀a0 a1 a2,g a0 a1 a2->∃n,start (iter step n) (Im.im a0) (Im.im a1) (Im.im a2)=ret (Im.im (m a0 a1 a2)))(hG:fY P (dV T) G)(hf:P.funcs[f]?=some fn)
  (hb:sU fn (CN ps r (RT.dec:List L->A'×B'×C') (RR (p3 g) (u3 m))) nt=true:=by kernel_rfl) (h1:∀(I:cJ) (p:Pt),dh { T:=assoc T,G:=dK G,nt:=nt } live I (id p) (bI fn) (fU (live (id p)) (vs p) (hs p)) (cG { T:=assoc T,G:=dK G,nt:=nt } fn r)=step (fun q=>I (id q) (vs q) (hs q)) p:=by intro _ p;cases p<;>kernel_rfl)
  (h0:∀(I:cJ) (ls:List L),fH { T:=assoc T,G:=dK G,nt:=nt } live I (bI fn) (dF ps ls) (cG { T:=assoc T,G:=dK G,nt:=nt } fn r)=start (fun q=>I (id q) (vs q) (hs q)) (RT.dec ls:A'×B'×C').1 (RT.dec ls:A'×B'×C').2.1 (RT.dec ls:A'×B'×C').2.2:=by intro _ _;kernel_rfl):Valid P (dV T) f (CN ps r (RT.dec:List L->A'×B'×C') (RR (p3 g) (u3 m))):=
 VV (run:=fun n x=>start (iter step n) x.1 x.2.1 x.2.2) hm hT hG hf hb (fun n ls=>cB (start:=fun J=>start J (RT.dec ls:A'×B'×C').1 (RT.dec ls:A'×B'×C').2.1 (RT.dec ls:A'×B'×C').2.2) h1 (fun I=>h0 I ls) n) fun _ a _ _ h=>ok a.1 a.2.1 a.2.2 h
def W4 {A A' B B' C C' D D' Z Z':Type}[Im A A'][RT A'][Im B B'][RT B'][Im C C'][RT C'][Im D D'][RT D'][Im Z Z'][RT Z']{P:Program}{T:List (Nat×TI)}{G:List (Nat×gh)}{f:FuncId}{fn:Func}{ps:List gK}{r:RP}{g:A->B->C->D->Prop}{m:A->B->C->D->Z}(nt:Nat)(F:A'->B'->C'->D'->aI)(hm:P.follows .mixedOrders=true)(hT:fm P T=true)(ok:∀a0 a1 a2 a3,g a0 a1 a2 a3->F (Im.im a0) (Im.im a1) (Im.im a2) (Im.im a3)=ret (Im.im (m a0 a1 a2 a3)))(hG:fY P (dV T) G)(hf:P.funcs[f]?=some fn)
  (hb:sU fn (CN ps r (RT.dec:List L->A'×B'×C'×D') (RR (p4 g) (u4 m))) nt=true:=by kernel_rfl) (hr:∀n ls,eY { T:=assoc T,G:=dK G,nt:=nt } (fun _=>[]) fn r n (dF ps ls)=F (RT.dec ls:A'×B'×C'×D').1 (RT.dec ls:A'×B'×C'×D').2.1 (RT.dec ls:A'×B'×C'×D').2.2.1 (RT.dec ls:A'×B'×C'×D').2.2.2:=by intro _ _;kernel_rfl):Valid P (dV T) f (CN ps r (RT.dec:List L->A'×B'×C'×D') (RR (p4 g) (u4 m))):=
 VV (run:=fun _ x=>F x.1 x.2.1 x.2.2.1 x.2.2.2) hm hT hG hf hb hr fun _ a _ _ h=>⟨0,ok a.1 a.2.1 a.2.2.1 a.2.2.2 h⟩
def L4 {A A' B B' C C' D D' Z Z':Type}[Im A A'][RT A'][Im B B'][RT B'][Im C C'][RT C'][Im D D'][RT D'][Im Z Z'][RT Z']{P:Program}{T:List (Nat×TI)}{G:List (Nat×gh)}{f:FuncId}{fn:Func}{ps:List gK}{r:RP}{g:A->B->C->D->Prop}{m:A->B->C->D->Z}{Pt:Type}(nt:Nat)(id:Pt->Nat)(vs:Pt->List V)(hs:Pt->List aW)(live:Nat->Live)(step:(Pt->aI)->Pt->aI)(start:(Pt->aI)->A'->B'->C'->D'->aI)(hm:P.follows .mixedOrders=true)(hT:fm P T=true)(ok:∀a0 a1 a2 a3,g a0 a1 a2 a3->∃n,start (iter step n) (Im.im a0) (Im.im a1) (Im.im a2) (Im.im a3)=ret (Im.im (m a0 a1 a2 a3)))(hG:fY P (dV T) G)(hf:P.funcs[f]?=some fn)
  (hb:sU fn (CN ps r (RT.dec:List L->A'×B'×C'×D') (RR (p4 g) (u4 m))) nt=true:=by kernel_rfl) (h1:∀(I:cJ) (p:Pt),dh { T:=assoc T,G:=dK G,nt:=nt } live I (id p) (bI fn) (fU (live (id p)) (vs p) (hs p)) (cG { T:=assoc T,G:=dK G,nt:=nt } fn r)=step (fun q=>I (id q) (vs q) (hs q)) p:=by intro _ p;cases p<;>kernel_rfl)
  (h0:∀(I:cJ) (ls:List L),fH { T:=assoc T,G:=dK G,nt:=nt } live I (bI fn) (dF ps ls) (cG { T:=assoc T,G:=dK G,nt:=nt } fn r)=start (fun q=>I (id q) (vs q) (hs q)) (RT.dec ls:A'×B'×C'×D').1 (RT.dec ls:A'×B'×C'×D').2.1 (RT.dec ls:A'×B'×C'×D').2.2.1 (RT.dec ls:A'×B'×C'×D').2.2.2:=by intro _ _;kernel_rfl):Valid P (dV T) f (CN ps r (RT.dec:List L->A'×B'×C'×D') (RR (p4 g) (u4 m))):=
 VV (run:=fun n x=>start (iter step n) x.1 x.2.1 x.2.2.1 x.2.2.2) hm hT hG hf hb (fun n ls=>cB (start:=fun J=>start J (RT.dec ls:A'×B'×C'×D').1 (RT.dec ls:A'×B'×C'×D').2.1 (RT.dec ls:A'×B'×C'×D').2.2.1 (RT.dec ls:A'×B'×C'×D').2.2.2) h1 (fun I=>h0 I ls) n) fun _ a _ _ h=>ok a.1 a.2.1 a.2.2.1 a.2.2.2 h
def W5 {A A' B B' C C' D D' X X' Z Z':Type}[Im A A'][RT A'][Im B B'][RT B'][Im C C'][RT C'][Im D D'][RT D'][Im X X'][RT X'][Im Z Z'][RT Z']{P:Program}{T:List (Nat×TI)}{G:List (Nat×gh)}{f:FuncId}{fn:Func}{ps:List gK}{r:RP}{g:A->B->C->D->X->Prop}{m:A->B->C->D->X->Z}(nt:Nat)(F:A'->B'->C'->D'->X'->aI)(hm:P.follows .mixedOrders=true)(hT:fm P T=true)(ok:∀a0 a1 a2 a3 a4,g a0 a1 a2 a3 a4->F (Im.im a0) (Im.im a1) (Im.im a2) (Im.im a3) (Im.im a4)=ret (Im.im (m a0 a1 a2 a3 a4)))(hG:fY P (dV T) G)(hf:P.funcs[f]?=some fn)
  (hb:sU fn (CN ps r (RT.dec:List L->A'×B'×C'×D'×X') (RR (p5 g) (u5 m))) nt=true:=by kernel_rfl) (hr:∀n ls,eY { T:=assoc T,G:=dK G,nt:=nt } (fun _=>[]) fn r n (dF ps ls)=F (RT.dec ls:A'×B'×C'×D'×X').1 (RT.dec ls:A'×B'×C'×D'×X').2.1 (RT.dec ls:A'×B'×C'×D'×X').2.2.1 (RT.dec ls:A'×B'×C'×D'×X').2.2.2.1 (RT.dec ls:A'×B'×C'×D'×X').2.2.2.2:=by intro _ _;kernel_rfl):Valid P (dV T) f (CN ps r (RT.dec:List L->A'×B'×C'×D'×X') (RR (p5 g) (u5 m))):=
 VV (run:=fun _ x=>F x.1 x.2.1 x.2.2.1 x.2.2.2.1 x.2.2.2.2) hm hT hG hf hb hr fun _ a _ _ h=>⟨0,ok a.1 a.2.1 a.2.2.1 a.2.2.2.1 a.2.2.2.2 h⟩
def L5 {A A' B B' C C' D D' X X' Z Z':Type}[Im A A'][RT A'][Im B B'][RT B'][Im C C'][RT C'][Im D D'][RT D'][Im X X'][RT X'][Im Z Z'][RT Z']{P:Program}{T:List (Nat×TI)}{G:List (Nat×gh)}{f:FuncId}{fn:Func}{ps:List gK}{r:RP}{g:A->B->C->D->X->Prop}{m:A->B->C->D->X->Z}{Pt:Type}(nt:Nat)(id:Pt->Nat)(vs:Pt->List V)(hs:Pt->List aW)(live:Nat->Live)(step:(Pt->aI)->Pt->aI)(start:(Pt->aI)->A'->B'->C'->D'->X'->aI)(hm:P.follows .mixedOrders=true)(hT:fm P T=true)(ok:∀a0 a1 a2 a3 a4,g a0 a1 a2 a3 a4->∃n,start (iter step n) (Im.im a0) (Im.im a1) (Im.im a2) (Im.im a3) (Im.im a4)=ret (Im.im (m a0 a1 a2 a3 a4)))(hG:fY P (dV T) G)(hf:P.funcs[f]?=some fn)
  (hb:sU fn (CN ps r (RT.dec:List L->A'×B'×C'×D'×X') (RR (p5 g) (u5 m))) nt=true:=by kernel_rfl) (h1:∀(I:cJ) (p:Pt),dh { T:=assoc T,G:=dK G,nt:=nt } live I (id p) (bI fn) (fU (live (id p)) (vs p) (hs p)) (cG { T:=assoc T,G:=dK G,nt:=nt } fn r)=step (fun q=>I (id q) (vs q) (hs q)) p:=by intro _ p;cases p<;>kernel_rfl)
  (h0:∀(I:cJ) (ls:List L),fH { T:=assoc T,G:=dK G,nt:=nt } live I (bI fn) (dF ps ls) (cG { T:=assoc T,G:=dK G,nt:=nt } fn r)=start (fun q=>I (id q) (vs q) (hs q)) (RT.dec ls:A'×B'×C'×D'×X').1 (RT.dec ls:A'×B'×C'×D'×X').2.1 (RT.dec ls:A'×B'×C'×D'×X').2.2.1 (RT.dec ls:A'×B'×C'×D'×X').2.2.2.1 (RT.dec ls:A'×B'×C'×D'×X').2.2.2.2:=by intro _ _;kernel_rfl):Valid P (dV T) f (CN ps r (RT.dec:List L->A'×B'×C'×D'×X') (RR (p5 g) (u5 m))):=
 VV (run:=fun n x=>start (iter step n) x.1 x.2.1 x.2.2.1 x.2.2.2.1 x.2.2.2.2) hm hT hG hf hb (fun n ls=>cB (start:=fun J=>start J (RT.dec ls:A'×B'×C'×D'×X').1 (RT.dec ls:A'×B'×C'×D'×X').2.1 (RT.dec ls:A'×B'×C'×D'×X').2.2.1 (RT.dec ls:A'×B'×C'×D'×X').2.2.2.1 (RT.dec ls:A'×B'×C'×D'×X').2.2.2.2) h1 (fun I=>h0 I ls) n) fun _ a _ _ h=>ok a.1 a.2.1 a.2.2.1 a.2.2.2.1 a.2.2.2.2 h
def L6 {A A' B B' C C' D D' X X' Y Y' Z Z':Type}[Im A A'][RT A'][Im B B'][RT B'][Im C C'][RT C'][Im D D'][RT D'][Im X X'][RT X'][Im Y Y'][RT Y'][Im Z Z'][RT Z']{P:Program}{T:List (Nat×TI)}{G:List (Nat×gh)}{f:FuncId}{fn:Func}{ps:List gK}{r:RP}{g:A->B->C->D->X->Y->Prop}{m:A->B->C->D->X->Y->Z}{Pt:Type}(nt:Nat)(id:Pt->Nat)(vs:Pt->List V)(hs:Pt->List aW)(live:Nat->Live)(step:(Pt->aI)->Pt->aI)(start:(Pt->aI)->A'->B'->C'->D'->X'->Y'->aI)(hm:P.follows .mixedOrders=true)(hT:fm P T=true)(ok:∀a0 a1 a2 a3 a4 a5,g a0 a1 a2 a3 a4 a5->∃n,start (iter step n) (Im.im a0) (Im.im a1) (Im.im a2) (Im.im a3) (Im.im a4) (Im.im a5)=ret (Im.im (m a0 a1 a2 a3 a4 a5)))(hG:fY P (dV T) G)(hf:P.funcs[f]?=some fn)
  (hb:sU fn (CN ps r (RT.dec:List L->A'×B'×C'×D'×X'×Y') (RR (p6 g) (u6 m))) nt=true:=by kernel_rfl) (h1:∀(I:cJ) (p:Pt),dh { T:=assoc T,G:=dK G,nt:=nt } live I (id p) (bI fn) (fU (live (id p)) (vs p) (hs p)) (cG { T:=assoc T,G:=dK G,nt:=nt } fn r)=step (fun q=>I (id q) (vs q) (hs q)) p:=by intro _ p;cases p<;>kernel_rfl)
  (h0:∀(I:cJ) (ls:List L),fH { T:=assoc T,G:=dK G,nt:=nt } live I (bI fn) (dF ps ls) (cG { T:=assoc T,G:=dK G,nt:=nt } fn r)=start (fun q=>I (id q) (vs q) (hs q)) (RT.dec ls:A'×B'×C'×D'×X'×Y').1 (RT.dec ls:A'×B'×C'×D'×X'×Y').2.1 (RT.dec ls:A'×B'×C'×D'×X'×Y').2.2.1 (RT.dec ls:A'×B'×C'×D'×X'×Y').2.2.2.1 (RT.dec ls:A'×B'×C'×D'×X'×Y').2.2.2.2.1 (RT.dec ls:A'×B'×C'×D'×X'×Y').2.2.2.2.2:=by intro _ _;kernel_rfl):Valid P (dV T) f (CN ps r (RT.dec:List L->A'×B'×C'×D'×X'×Y') (RR (p6 g) (u6 m))):=
 VV (run:=fun n x=>start (iter step n) x.1 x.2.1 x.2.2.1 x.2.2.2.1 x.2.2.2.2.1 x.2.2.2.2.2) hm hT hG hf hb (fun n ls=>cB (start:=fun J=>start J (RT.dec ls:A'×B'×C'×D'×X'×Y').1 (RT.dec ls:A'×B'×C'×D'×X'×Y').2.1 (RT.dec ls:A'×B'×C'×D'×X'×Y').2.2.1 (RT.dec ls:A'×B'×C'×D'×X'×Y').2.2.2.1 (RT.dec ls:A'×B'×C'×D'×X'×Y').2.2.2.2.1 (RT.dec ls:A'×B'×C'×D'×X'×Y').2.2.2.2.2) h1 (fun I=>h0 I ls) n) fun _ a _ _ h=>ok a.1 a.2.1 a.2.2.1 a.2.2.2.1 a.2.2.2.2.1 a.2.2.2.2.2 h
def pW {α:Type}{l:List α}{x:α}{i:Nat}(h:l.length<=i):(l++[x]).length<=i+1:=by rw [List.length_append];exact Nat.add_le_add_right h 1
def bY (c:Bool)(x:aI):aI:=bif c then x else none
def m2 (v n:Int)(x:aI):aI:=bif decide (0<=v) then (cond (decide (v<n)) x none) else none
def m3 (v n:Int)(x:aI):aI:=bif decide (0<=v) then (cond (decide (v<n)) (cond (Nat.beq (Int.toNat v) (Int.toNat v)&&true) x none) none) else none
def MM:(∀c x,bY c x=bif c then x else none)/\(∀v n x,m2 v n x=bif decide (0<=v) then (cond (decide (v<n)) x none) else none)/\(∀v n x,m3 v n x=bif decide (0<=v) then (cond (decide (v<n)) (cond (Nat.beq (Int.toNat v) (Int.toNat v)&&true) x none) none) else none):=⟨fun _ _=>rfl,fun _ _ _=>rfl,fun _ _ _=>rfl⟩
abbrev pI:gK:=.rd (.int .i64)
abbrev pS:gK:=.rd .str
abbrev pB:gK:=.rd .bool
abbrev pL (e:Nat):gK:=.rd (.sl e)
abbrev oI:RP:=.one (.rd (.int .i64))
abbrev oB:RP:=.one (.rd .bool)
abbrev oS:RP:=.one (.rd .str)
abbrev oL (e:Nat):RP:=.one (.fr e)
abbrev fI:Lf:=.rd (.int .i64)
abbrev fS:Lf:=.rd .str
abbrev fB:Lf:=.rd .bool
end Go.DM
set_option linter.unusedSectionVars false
namespace Go.DM
def uo (E:Env)(w:World)(B:dS)(Z0:Nat->Prop)(el:Nat)(p:RP)(r:List L)(e:Ending)(w':World):Prop:=
 ∃rv A',e=.returned rv/\Fr w w' (fun b=>∃j,B.N j b)/\A'.Z=Z0/\(∀i,A'.al i↔i<(p.R r.tail).length+1)/\
  Hp (np:=0) E.cells w ⟨fun b=>∃j,B.N j b,fun _=>Go.undef,[]⟩ A' (eA (fun _=>.dead) 0 (.row el (r.headD .hole).dP::p.R r.tail)) w'/\
  (∃g te,B.v 0=.pointer (some ⟨g,0,none⟩)/\w'.heap[g]?=some (.cells #[A'.v 0] te (0,0))/\∀i,¬A'.N i g)/\V2 E.cells w' A' (p.V r.tail 1) rv
def oP (P:Program)(E:Env)(g:FuncId)(c:qB):Prop:=
 me P g/\c.res.pX=true/\c.res.view=false/\∀(ls r:List L) (w:World) (vs:List Value) (B:dS),c.sem ls=some r->
  Hp (np:=1) E.cells w ⟨fun b=>∃j,B.N j b,B.v,[]⟩ B (jy [.box [.own 1],.row c.e (ls.headD .hole).dP]) w->(∀q,2<=q->¬B.al q)->F2 (V2 E.cells w B) (mY c.args ls.tail) vs->
  Calls P g vs.toArray w (uo E w B B.Z c.e c.res r)
section
variable {P:Program} {E:Env} {w0 w w':World} {bQ:List L}
theorem xO (hT:∀t i,E.T t=some i->gJ P E t i){f:Func}{el:Nat}{p:RP}{B:dS}{Z0:Nat->Prop}(hf:p.pX=true)(hnp:0<E.np) :
  Fits E w0 ⟨fun b=>∃j,B.N j b,B.v,[]⟩ Z0 bQ (cG E f (.tc el p.parts)) (bodyPost P f (uo E w0 B Z0 el p bQ)):=by
 intro e s a w h ⟨A,sm,hz⟩
 have key0:∀{A:dS} {s:St},gU E w0 (⟨fun b=>∃j,B.N j b,B.v,[]⟩:Mem E.np) A s a w->A.Z=Z0->(slotsOf E s f.results.toList fun vs=>match s.hp 0 with
   | .box [cell]=>bif cell.leaf then lS false ((false,[.fr el])::p.parts) (upd s.hp 0 .dead) (cell::vs) fun ls _=>some ls else none
   | _=>none)=some bQ->a.defers=[]/\∃v,(results f a.tmps).run P w=.ok v w/\uo E w0 B Z0 el p bQ (.returned v) w:=by
  intro A s sm hz h
  refine ⟨sm.df,?_⟩
  have hh:=sm.hp
  obtain ⟨vs,xs,h1,h2,h3⟩:=gO hT sm h
  split at h1
  case h_2=>cases h1
  rename_i cell hr
  cases hl:cell.leaf<;>simp only [hl,aZ,aX] at h1
  ·cases h1
  obtain ⟨ls,hp',rs,g1,g2,g3,g4,g5,g6⟩:=mR h1
  injection g1 with g1
  subst g1
  have hroot:=hh.rt 0
  rw [hr] at hroot
  obtain ⟨al0,g,te,cur,v0,N0,hg,hc⟩:=hroot
  have hcur:∃y,cur=#[y]/\Vc E.cells w A cell y:=by
   obtain ⟨cl⟩:=cur
   cases hc with
   | cons h1 ht=>cases ht;exact ⟨_,rfl,h1⟩
  obtain ⟨y,rfl,hy⟩:=hcur
  obtain ⟨vals,e1,e2⟩:=g6 hh (Sub.one s.hp 0) (.cons (V0.v2 hy.1) h2)
  have hZ:yN false w A (A.out rs vals):=⟨fun h=>(nomatch h),fun b hb=>⟨hb.1,hb.2.1,fun i ⟨q,_,hn⟩=>hb.2.2 q hn⟩⟩
  obtain ⟨c1,c2⟩:=e2 rs vals 0 (fun i x h=>by simpa using h) (fun i x h=>by simpa using h) hZ
  have hR:lq ((false,[Lf.fr el])::p.parts) ls=.row el (ls.headD .hole).dP::p.R ls.tail:=by
   simp only [lq,iZ,vm,List.append_nil,List.length_cons,List.length_nil,List.singleton_append,List.cons_append,List.nil_append,Nat.zero_add,List.drop_one]
   rw [pT]
  have hV:kB ((false,[Lf.fr el])::p.parts) ls 0=.own 0::kB p.parts ls.tail 1:=by
   simp only [kB,kY,yu,iZ,vm,mkVar,aX,List.headD_cons,List.append_nil,List.length_cons,List.length_nil,Nat.zero_add,List.drop_one]
  rw [hR] at g3 c2
  rw [hV] at c1
  cases c1 with
  | cons d1 d2=>
   have d1':V0 E.cells w (A.out rs vals) (.own 0) y:=d1
   have hpin:=hh.pn 0 hnp
   have h0rs:some 0∉rs:=fun hm=>g4.was 0 hm (bG _ _ _)
   refine ⟨_,kQ h3,_,A.out rs vals,rfl,hh.fr,hz,fun i=>?_,⟨fun r b hb=>?_,fun r q b hb hb'=>?_,fun r hr=>?_,fun r=>?_,hh.fr,fun r b hb=>?_,hh.zf,fun j hj=>absurd hj (Nat.not_lt_zero j)⟩,⟨g,te,?_,?_,fun i hi=>?_⟩,ym hf d2⟩
   ·show i<rs.length↔_
    rw [g3];simp
   ·obtain ⟨q,_,hn⟩:=hb;exact hh.lt q b hn
   ·obtain ⟨p1,hp1,hn⟩:=hb
    obtain ⟨p2,hp2,hn'⟩:=hb'
    have:=hh.dj p1 p2 b hn hn'
    subst this
    exact g5 r q p1 hp1 hp2
   ·have hr':¬r<rs.length:=hr
    rw [eO _ _ _ _ (.inr (by rw [Nat.zero_add,<-g3];omega))]
   ·by_cases hr:r<rs.length
    ·have hlt:r<(aW.row el (ls.headD .hole).dP::p.R ls.tail).length:=by rw [<-g3];exact hr
     have ho:=List.getElem?_eq_getElem hlt
     have:=c2 r _ ho
     rw [Nat.zero_add] at this
     have ha:=gu _ (fun _=>.dead) 0 r _ ho
     rw [Nat.zero_add] at ha
     rw [ha];exact this
    ·rw [eO _ _ _ _ (.inr (by rw [Nat.zero_add,<-g3];omega))]
     rintro b ⟨q,hq,_⟩
     rw [List.getElem?_eq_none (by omega)] at hq;cases hq
   ·obtain ⟨q,_,hn⟩:=hb;exact hh.nm q b hn
   ·have hp2:A.v 0=B.v 0:=hpin.2
    rw [<-hp2];exact v0
   ·rw [hg,d1'.2.1]
   ·obtain ⟨q,hq,hn⟩:=hi
    have:=hh.dj q 0 g hn ((N0 g).2 rfl)
    subst this
    exact h0rs (List.mem_of_getElem? hq)
 have key:iz E (uu f.results.toList p.parts) s (fun s=>slotsOf E s f.results.toList fun vs=>match s.hp 0 with
   | .box [cell]=>bif cell.leaf then lS false ((false,[.fr el])::p.parts) (upd s.hp 0 .dead) (cell::vs) fun ls _=>some ls else none
   | _=>none)=some bQ->a.defers=[]/\∃v,(results f a.tmps).run P w=.ok v w/\uo E w0 B Z0 el p bQ (.returned v) w:=by
  intro h
  obtain ⟨s',A',h1,h2,h3⟩:=sm.iz h
  exact key0 h2 (h3.trans hz) h1
 cases e with
 | exit j=>cases h
 | normal=>exact key h
 | ret=>exact key h
theorem nP:∀(ps:List mw) (ls:List L),(mY ps ls).length=ps.length
 | [],_=>rfl
 | p::ps,ls=>by simp [mY,nP ps]
theorem yX {E0:Env}{g:FuncId}{fn:Func}{c:Code}{aT:qB}(hT:∀t i,E.T t=some i->gJ P E t i)(hG:∀g c,c∈E.G g->Valid P E g c)(hM:oD P E)(hD:∀w0 M Z0 bQ,ny P E w0 M Z0 bQ)
  (he : E.T = E0.T) (hnp : E.np = 1) (hf : P.funcs[g]? = some fn) (hname : (fn.name == "runtime.NumGoroutine") = false) (hb : fn.body = some c) (hfine : aT.res.pX = true) (hview : aT.res.view = false) (hn : (cY c).Nodup)
  (hnt:aT.args.length+(fn.ntmps - aT.args.length)=E.nt) (live:Nat->Live) (h:∀ls r,aT.sem ls=some r->∃n,eY E live fn (.tc aT.e aT.res.parts) n (uz aT.e aT.args ls)=some r):oP P E0 g aT:=by
 have hbody:bI fn=c:=by simp [bI,hb]
 have hc:E0.cells=E.cells:=by funext t;simp [Env.cells,he]
 refine ⟨⟨fn,hf,hname,by rw [hb];rfl⟩,hfine,hview,fun ls r w vs B hs hp hal hv=>?_⟩
 rw [hc] at hv hp
 obtain ⟨n,hrun⟩:=h ls r hs
 have hvl:vs.length=aT.args.length:=by rw [<-hv.length,nP]
 have key:=oo (live:=live) (P:=P) (w0:=w) (M:=⟨fun b=>∃j,B.N j b,B.v,[]⟩) (Z0:=B.Z) (Q:=bodyPost P fn (uo E w B B.Z aT.e aT.res r)) hT hG hM (hD _ _ _ _) (by rw [hbody];exact hn) (xO hT hfine (by rw [hnp];exact Nat.zero_lt_one)) hrun
  (a:={ tmps:=vs.toArray++Array.replicate (fn.ntmps - vs.toArray.size) undef,defers:=[] }) (w:=w) ⟨B,⟨⟨hp.lt,hp.dj,hp.al,hp.rt,hp.fr,hp.nm,hp.zf,fun j hj=>hp.pn j (hnp ▸ hj)⟩,fun i x hx=>?_,hal,rfl,?_,.nil⟩,rfl⟩
 ·rw [hbody] at key
  refine (calls_of_wp hf hb key).mono fun e w' hR=>?_
  unfold uo at hR ⊢
  rw [hc];exact hR
 ·show V2 E.cells w B (jO (mY aT.args ls.tail) i) x
  by_cases hi:i<vs.length
  ·have hx':vs[i]?=some x:=by simpa [Array.getElem?_append,hi] using hx
   have hl:=hv.length
   have hg:=List.getElem?_eq_getElem (show i<(mY aT.args ls.tail).length by omega)
   obtain ⟨y,hy,hr⟩:=hv.get hg
   rw [hx'] at hy;injection hy with hy;subst hy
   rw [oX hg];exact hr
  ·rw [lJ (by rw [hv.length];omega)]
   have :x=undef:=by
    have h2:¬i<vs.toArray.size:=by simpa using hi
    rw [Array.getElem?_append,if_neg h2] at hx
    have:=(Array.getElem?_eq_some_iff.1 hx).2
    rw [<-this];simp
   exact this
 ·simp only [Array.size_append,List.size_toArray,Array.size_replicate];rw [hvl];exact hnt
end
def dS.hJ (A:dS)(rs:List Nat):dS:={ v:=A.v,N:=fun p b=>p∉rs/\A.N p b,al:=A.al,Z:=fun b=>A.Z b/\∀p,p∈rs->¬A.N p b }
section
variable {T:Nat->List K} {w w' w0:World} {A A':dS} {rs:List Nat} {np:Nat} {M:Mem np} {hp:Nat->aW}
theorem qt {b:Nat}(h:fq w A b):fq w (A.hJ rs) b:=⟨⟨h.1,fun p _=>h.2.2 p⟩,h.2.1,fun p hp=>h.2.2 p hp.2⟩
theorem mO {d : Option Nat} (hd : ∀ r, d = some r -> r ∉ rs) {b : Nat} (h : fW w A d b) : fW w (A.hJ rs) d b := by
  cases d with
  | none => exact qt h
  | some r => rcases h with h | h
              · exact .inl ⟨hd r rfl, h⟩
              · exact .inr (qt h)
theorem og {q:Nat}(h:lu rs q=false):q∉rs:=fun hm=>by rw [iW.2 hm] at h;cases h
theorem V0.hJ {v:V}{x:Value}(hv:V0 T w A v x):V0 T w (A.hJ rs) (kg rs v) x:=by
 cases v with
 | sl d e xs=>
  cases d with
  | none=>exact ⟨(fun r hr=>nomatch hr),hv.2.mono fun b hb=>qt hb⟩
  | some q=>
   rw [vD]
   cases hq:lu rs q with
   | true=>exact trivial
   | false=>exact ⟨hv.1,hv.2.mono fun b hb=>mO (fun r hr=>by injection hr with hr;subst hr;exact og hq) hb⟩
 | dQ d es cs o=>
  have go:∀d:Option Nat,(∀r,d=some r->r∉rs)->V0 T w A (.dQ d es cs o) x->V0 T w (A.hJ rs) (.dQ d es cs o) x:=by
   intro d hd ⟨ha,b,q,v,h1,h2,h3⟩
   exact ⟨ha,b,q,v,h1,mO hd h2,fun j k hj=>⟨(h3 j k hj).1,(h3 j k hj).2.mono fun b hb=>mO hd hb⟩⟩
  cases d with
  | none=>exact go none (fun r hr=>nomatch hr) hv
  | some q=>
   rw [sH]
   cases hq:lu rs q with
   | true=>exact trivial
   | false=>exact go (some q) (fun r hr=>by injection hr with hr;subst hr;exact og hq) hv
 | gG q a b c d=>
  rw [uy]
  cases hq:lu rs q with
  | true=>exact trivial
  | false=>
   obtain ⟨ha,g,n,c',h1,h2,h3,h4⟩:=hv
   exact ⟨ha,g,n,c',h1,h2,⟨og hq,h3⟩,h4⟩
 | own q=>exact hv
 | lit q n e=>exact hv
 | cC q o=>exact hv
 | gi q sz i o=>exact hv
 | undef=>exact hv
 | dead=>exact hv
 | int=>exact hv
 | bool=>exact hv
 | str=>exact hv
 | nil=>exact hv
 | fn=>exact hv.elim
 | agg=>exact hv.elim
 | iS=>exact hv.elim
theorem sI {cs:List V}{xs:List Value}(hf:F2 (Vc T w A) cs xs):F2 (Vc T w (A.hJ rs)) (cs.map (kg rs)) xs:=by
 induction hf with
 | nil=>exact .nil
 | cons h _ ih=>exact .cons ⟨h.1.hJ,h.2⟩ ih
theorem V2.hJ {v:V}{x:Value}(hv:V2 T w A v x):V2 T w (A.hJ rs) (iI rs v) x:=by
 cases v with
 | iS vs=>exact trivial
 | fn f cs=>
  obtain ⟨l,rfl,hl⟩:=(show V1 T w A (.fn f cs) x from hv)
  refine V1.v2 (v:=.fn f _) ⟨l,rfl,?_⟩
  clear hv
  induction hl with
  | nil=>exact .nil
  | cons hc _ ih=>exact .cons (V0.hJ hc) ih
 | agg cs=>obtain ⟨l,rfl,hl⟩:=hv;exact V1.v2 (v:=.agg _) ⟨l,rfl,sI hl⟩
 | undef=>exact V0.v2 (V0.hJ (v:=.undef) hv)
 | dead=>exact trivial
 | int k n=>exact V0.v2 (V0.hJ (v:=.int k n) hv)
 | bool b=>exact V0.v2 (V0.hJ (v:=.bool b) hv)
 | str s=>exact V0.v2 (V0.hJ (v:=.str s) hv)
 | nil=>exact V0.v2 (V0.hJ (v:=.nil) hv)
 | sl d e xs=>exact V0.v2 (V0.hJ (v:=.sl d e xs) hv)
 | own q=>exact V0.v2 (V0.hJ (v:=.own q) hv)
 | lit q n e=>exact V0.v2 (V0.hJ (v:=.lit q n e) hv)
 | cC q o=>exact V0.v2 (V0.hJ (v:=.cC q o) hv)
 | gi q sz i o=>exact V0.v2 (V0.hJ (v:=.gi q sz i o) hv)
 | gG q a b c d=>exact V0.v2 (V0.hJ (v:=.gG q a b c d) hv)
 | dQ d es cs o=>exact V0.v2 (V0.hJ (v:=.dQ d es cs o) hv)
theorem pQ {p:Nat}(h:p∈rs):kK rs hp p=.dead:=by simp [kK,iW.2 h]
theorem jQ {p:Nat}(h:p∉rs):kK rs hp p=lD rs (hp p):=by
 unfold kK
 cases hq:lu rs p with
 | true=>exact (h (iW.1 hq)).elim
 | false=>rfl
theorem eU.hJ {p:Nat}(hr:p∉rs){o:aW}(h:eU T w A p o):eU T w (A.hJ rs) p (lD rs o):=by
 cases o with
 | dead=>exact fun b hb=>h b hb.2
 | box cs=>
  obtain ⟨ha,g,te,cur,h1,h2,h3,h4⟩:=h
  exact ⟨ha,g,te,cur,h1,fun b=>⟨fun hb=>(h2 b).1 hb.2,fun hb=>⟨hr,(h2 b).2 hb⟩⟩,h3,sI h4⟩
 | row e xs=>exact ⟨h.1,h.2.mono fun b hb=>⟨hr,hb⟩⟩
 | ql e xs j cs=>exact ⟨h.1,h.2.1,h.2.2.mono fun b hb=>⟨hr,hb⟩⟩
 | xj e xs i o=>exact ⟨h.1,h.2.1,h.2.2.move (fun _ _=>rfl) fun b hb=>⟨hr,hb⟩⟩
theorem Hp.hJ (hh:Hp T w0 M A hp w):Hp (np:=0) T w ⟨fun b=>∃p,(A.hJ rs).N p b,fun _=>Go.undef,[]⟩ (A.hJ rs) (kK rs hp) w:=by
 refine ⟨fun r b h=>hh.lt r b h.2,fun r q b h h'=>hh.dj r q b h.2 h'.2,fun r h=>?_,fun r=>?_,Fr.refl _ _,fun r b h=>.inl ⟨r,h⟩,fun b hb=>⟨hh.zf b (hb.elim (fun ⟨p,h⟩=>hh.nm p b h.2) fun h=>.inr (Nat.le_trans hh.fr.size h)),fun p hp hn=>hb.elim (fun ⟨q,h⟩=>h.1 (hh.dj p q b hn h.2 ▸ hp)) fun h=>by have:=hh.lt p b hn;omega⟩,fun j hj=>absurd hj (Nat.not_lt_zero j)⟩
 ·by_cases hr:r∈rs
  ·exact pQ hr
  ·rw [jQ hr,hh.al r h];rfl
 ·by_cases hr:r∈rs
  ·rw [pQ hr];exact fun b hb=>hb.1 hr
  ·rw [jQ hr];exact (hh.rt r).hJ hr
theorem V0.up (hal:∀r,¬A.al r)(hz:∀b,fq w A b->fq w A' b){v:V}{x:Value}(hv:V0 T w A v x):V0 T w A' v x:=by
 cases v with
 | sl d e xs=>
  cases d with
  | none=>exact ⟨(fun r hr=>nomatch hr),hv.2.mono hz⟩
  | some r=>exact (hal r (hv.1 r rfl)).elim
 | dQ d es cs o=>
  cases d with
  | none=>
   obtain ⟨ha,b,q,v,h1,h2,h3⟩:=hv
   exact ⟨(fun r hr=>nomatch hr),b,q,v,h1,hz b h2,fun j k hj=>⟨(h3 j k hj).1,(h3 j k hj).2.mono hz⟩⟩
  | some r=>exact (hal r (hv.1 r rfl)).elim
 | own q=>exact (hal q hv.1).elim
 | lit q n e=>exact (hal q hv.1).elim
 | cC q o=>exact (hal q hv.1).elim
 | gi q sz i o=>exact (hal q hv.1).elim
 | gG q a b c d=>exact (hal q hv.1).elim
 | undef=>exact hv
 | dead=>exact hv
 | int=>exact hv
 | bool=>exact hv
 | str=>exact hv
 | nil=>exact hv
 | fn=>exact hv.elim
 | agg=>exact hv.elim
 | iS=>exact hv.elim
theorem V1.up (hal:∀r,¬A.al r)(hz:∀b,fq w A b->fq w A' b){v:V}{x:Value}(hv:V1 T w A v x):V1 T w A' v x:=by
 cases v with
 | agg cs=>obtain ⟨l,h1,h2⟩:=hv;exact ⟨l,h1,h2.mono fun v x h=>⟨h.1.up hal hz,h.2⟩⟩
 | fn f cs=>obtain ⟨l,h1,h2⟩:=hv;exact ⟨l,h1,h2.mono fun v x h=>h.up hal hz⟩
 | iS=>exact (show False from hv).elim
 | undef=>exact V0.v1 (V0.up (v:=.undef) hal hz hv)
 | dead=>exact trivial
 | int k n=>exact V0.v1 (V0.up (v:=.int k n) hal hz hv)
 | bool b=>exact V0.v1 (V0.up (v:=.bool b) hal hz hv)
 | str s=>exact V0.v1 (V0.up (v:=.str s) hal hz hv)
 | nil=>exact V0.v1 (V0.up (v:=.nil) hal hz hv)
 | sl d e xs=>exact V0.v1 (V0.up (v:=.sl d e xs) hal hz hv)
 | own q=>exact V0.v1 (V0.up (v:=.own q) hal hz hv)
 | lit q n e=>exact V0.v1 (V0.up (v:=.lit q n e) hal hz hv)
 | cC q o=>exact V0.v1 (V0.up (v:=.cC q o) hal hz hv)
 | gi q sz i o=>exact V0.v1 (V0.up (v:=.gi q sz i o) hal hz hv)
 | gG q a b c d=>exact V0.v1 (V0.up (v:=.gG q a b c d) hal hz hv)
 | dQ d es cs o=>exact V0.v1 (V0.up (v:=.dQ d es cs o) hal hz hv)
theorem V2.up (hal:∀r,¬A.al r)(hz:∀b,fq w A b->fq w A' b){v:V}{x:Value}(hv:V2 T w A v x):V2 T w A' v x:=by
 by_cases ht:∃vs,v=.iS vs
 ·obtain ⟨vs,rfl⟩:=ht
  obtain ⟨l,h1,h2⟩:=hv;exact ⟨l,h1,h2.mono fun v x h=>h.up hal hz⟩
 ·have h1:∀{A:dS},V2 T w A v x↔V1 T w A v x:=by
   intro A
   cases v<;>first | exact Iff.rfl | exact (ht ⟨_,rfl⟩).elim
  exact h1.2 ((h1.1 hv).up hal hz)
end
section
variable {E:Env} {w0 w:World} {np:Nat} {M:Mem np} {A B:dS} {hp:Nat->aW} {bQ:List L} {Z:Nat->Prop} {r:Nat}
theorem AR (hh:Hp E.cells w0 M A hp w)(hm:∀b,mH w A b->Z b)(hz:∀b,fq w (A0 Z w) b->fq w B b)(hB:∀x,V0 E.cells w A (.cC r 0) x->V0 E.cells w B (.cC 0 0) x) :
  ∀{qs:List (Option (List K))} {vs:List V} {k:List L->aI},iJ hp r qs vs k=some bQ->
  ∃ls,k ls=some bQ/\ls.length=wu qs/\∀{xs} (rest:List L),F2 (V0 E.cells w A) vs xs->F2 (V0 E.cells w B) (uT qs (ls++rest)) xs:=by
 intro qs
 induction qs with
 | nil=>
  intro vs k h
  cases vs with
  | nil=>exact ⟨[],h,rfl,fun {xs} rest hf=>by cases hf;exact .nil⟩
  | cons=>simp only [iJ] at h;cases h
 | cons q qs ih=>
  intro vs k h
  cases vs with
  | nil=>cases q<;>(simp only [iJ] at h;cases h)
  | cons v vs=>
   cases q with
   | none=>
    simp only [iJ] at h
    split at h
    ·rename_i r' o
     cases hc:(Nat.beq r' r&&Nat.beq o 0)<;>simp only [hc,aZ,aX] at h
     ·cases h
     simp only [Bool.and_eq_true] at hc
     obtain rfl:=Nat.eq_of_beq_eq_true hc.1
     obtain rfl:=Nat.eq_of_beq_eq_true hc.2
     obtain ⟨b,h4,h5,h6⟩:=ih h
     refine ⟨b,h4,h5,fun {xs} rest hf=>?_⟩
     cases hf with
     | cons hv ht=>exact .cons (hB _ hv) (h6 rest ht)
    ·cases h
   | some q=>
    simp only [iJ] at h
    obtain ⟨a,h1,h2,h3⟩:=Ac hh (.inl hm) h
    obtain ⟨b,h4,h5,h6⟩:=ih h1
    refine ⟨a++b,h4,by simp [h2,h5,wu],fun {xs} rest hf=>?_⟩
    cases hf with
    | cons hv ht=>
     refine .cons ?_ ?_
     ·rw [List.append_assoc];exact (h3 _ hv).up (fun _ h=>h) hz
     ·have :bE q.length (a++b++rest)=b++rest:=by rw [iU,<-h2,List.append_assoc,List.drop_left]
      rw [this]
      exact h6 rest ht
theorem B9 (hh:Hp E.cells w0 M A hp w)(hm:∀b,mH w A b->Z b)(hz:∀b,fq w (A0 Z w) b->fq w B b)(hB:∀x,V0 E.cells w A (.cC r 0) x->V0 E.cells w B (.cC 0 0) x){p:mw}{v:V}{k:List L->aI}(h:mm E hp r p v k=some bQ) :
  ∃ls,k ls=some bQ/\ls.length=p.n/\∀{x} (rest:List L),V2 E.cells w A v x->V2 E.cells w B (BE p (ls++rest)) x:=by
 cases p with
 | rd p=>
  obtain ⟨ls,h1,h2,h3⟩:=BJ hh (.inl hm) (show mu E hp p v k=some bQ from h)
  exact ⟨ls,h1,h2,fun {x} rest hv=>(h3 rest hv).up (fun _ h=>h) hz⟩
 | box=>
  simp only [mm] at h
  split at h
  ·rename_i r' o
   cases hc:(Nat.beq r' r&&Nat.beq o 0)<;>simp only [hc,aZ,aX] at h
   ·cases h
   simp only [Bool.and_eq_true] at hc
   obtain rfl:=Nat.eq_of_beq_eq_true hc.1
   obtain rfl:=Nat.eq_of_beq_eq_true hc.2
   exact ⟨[],h,rfl,fun {x} rest hv=>V0.v2 (v:=.cC 0 0) (hB x hv)⟩
  ·cases h
 | fn f qs=>
  simp only [mm] at h
  split at h
  ·rename_i g cs
   cases hf:Nat.beq f g<;>simp only [hf,aZ,aX] at h
   ·cases h
   obtain rfl:=Nat.eq_of_beq_eq_true hf
   obtain ⟨ls,h1,h2,h3⟩:=AR hh hm hz hB h
   refine ⟨ls,h1,h2,fun {x} rest hv=>?_⟩
   obtain ⟨l,rfl,hl⟩:=(show V1 E.cells w A (.fn f cs) x from hv)
   exact V1.v2 (v:=.fn f _) ⟨l,rfl,h3 rest hl⟩
  ·cases h
theorem AY (hh:Hp E.cells w0 M A hp w)(hm:∀b,mH w A b->Z b)(hz:∀b,fq w (A0 Z w) b->fq w B b)(hB:∀x,V0 E.cells w A (.cC r 0) x->V0 E.cells w B (.cC 0 0) x) :
  ∀{ps:List mw} {vs:List V} {k:List L->aI},lB E hp r ps vs k=some bQ->
  ∃ls,k ls=some bQ/\∀{xs},F2 (V2 E.cells w A) vs xs->F2 (V2 E.cells w B) (mY ps ls) xs:=by
 intro ps
 induction ps with
 | nil=>
  intro vs k h
  cases vs with
  | nil=>exact ⟨[],h,fun {xs} hf=>by cases hf;exact .nil⟩
  | cons=>simp only [lB] at h;cases h
 | cons p ps ih=>
  intro vs k h
  cases vs with
  | nil=>simp only [lB] at h;cases h
  | cons v vs=>
   simp only [lB] at h
   obtain ⟨a,h1,h2,h3⟩:=B9 hh hm hz hB h
   obtain ⟨b,h4,h5⟩:=ih h1
   refine ⟨a++b,h4,fun {xs} hf=>?_⟩
   cases hf with
   | cons hv ht=>
    refine .cons (h3 b hv) ?_
    have :bE p.n (a++b)=b:=by rw [iU,<-h2,List.drop_left]
    rw [this]
    exact h5 ht
end
def yY {T:Nat->List K}{w':World}{A A':dS}{nx n j:Nat}{rs:List aW}(hn:rs.length=n)(hal:∀i,A'.al i↔i<rs.length){p:RP}{ls:List L}{y:Value}(hok:p.ok=true)(hz:p.view=true->∀b,fq w' A' b->fq w' (A.join A' nx rs.length) b)
  (h:V2 T w' A' (p.V ls j) y):V2 T w' (A.join A' nx n) (p.V ls (nx+j)) y:=by
 subst hn
 cases p with
 | one l=>
  have hv0:∀{A':dS} {y:Value} {i:Nat},V2 T w' A' (yu l (ls.headD .hole) i) y->V0 T w' A' (yu l (ls.headD .hole) i) y:=by
   intro A' y i h
   cases l with
   | fr e=>exact h
   | rd k=>cases k<;>exact h
  exact V0.v2 (rB hal hz (hv0 h))
 | agg q=>
  obtain ⟨l,e1,e2⟩:=(show V1 T w' A' (.agg (kY q ls j)) y from h)
  exact V1.v2 (v:=.agg _) ⟨l,e1,oV hal hz e2⟩
 | iS ps=>
  obtain ⟨l,e1,e2⟩:=(show V2 T w' A' (.iS (kB ps ls j)) y from h)
  exact (show V2 T w' _ (.iS (kB ps ls (nx+j))) y from ⟨l,e1,sJ hal (fun p hp hf=>by
   have:=List.all_eq_true.1 hok p hp
   simpa [hf] using this) hz e2⟩)
 | nR _=>cases hok
 | tc _ _=>cases hok
section
variable {P:Program} {E:Env}
theorem pF {c:qB}{g:FuncId}(hO:oP P E g c){n:Nat}{w0:World}{M:Mem n}{A:dS}{s:St}{w:World}{vs:List V}{xs:List Value}{k:V->St->aI}{bQ:List L}{r:Nat}{rs:List Nat}{row:aB}{cell:V}
  (h:ng E c r rs row vs s k=some bQ) (hh:Hp E.cells w0 M A s.hp w) (hnx:∀r,s.nx<=r->¬A.al r) (hfr:F2 (V2 E.cells w A) s.fr M.sv) (hv:F2 (V2 E.cells w A) vs xs)
  (hr:s.hp r=.box [cell]) (hrs:r∈rs) (hal:∀p,p∈rs->A.al p)
  (hrow:∀y,Vc E.cells w A cell y->gk E.cells w (fun b=>∃p,p∈rs/\p≠r/\A.N p b) (.sl c.e) y (.sl row))
  (K:Value->World->Prop) (hK:∀v s' cv w' A',k v s'=some bQ->Hp E.cells w0 M A' s'.hp w'->(∀r,s'.nx<=r->¬A'.al r)->F2 (V2 E.cells w' A') s'.fr M.sv->V2 E.cells w' A' v cv->A'.Z=A.Z->AP A A' s.nx s'.nx->K cv w') :
  Calls P g xs.toArray w fun e w'=>∃cv,e=.returned cv/\K cv w':=by
 obtain ⟨hent,hfine,hview,hcall⟩:=hO
 unfold ng at h
 have hroot:=hh.rt r
 rw [hr] at hroot
 obtain ⟨alr,gb,te,cur,v0,N0,hg,hc⟩:=hroot
 have hcur:∃y,cur=#[y]/\Vc E.cells w A cell y:=by
  obtain ⟨cl⟩:=cur
  cases hc with
  | cons h1 ht=>cases ht;exact ⟨_,rfl,h1⟩
 obtain ⟨y,rfl,hy⟩:=hcur
 have hown:=hrow y hy
 obtain ⟨ya,yn,yc,hyv,_⟩:=hown.wP
 let F:Nat->Prop:=fun b=>∃p,p∈rs/\p≠r/\A.N p b
 let B:dS:={ v:=fun j=>match j with | 0=>A.v r | _=>y,N:=fun j b=>match j with | 0=>b=gb | 1=>F b | _=>False,al:=fun j=>j<2,Z:=fun b=>(mH w (A.hJ rs) b∨w.heap.size<=b)∨∃p,p∈rs/\A.N p b }
 have hBN:∀b,(∃j,B.N j b)↔∃p,p∈rs/\A.N p b:=by
  intro b
  constructor
  ·rintro ⟨j,hj⟩
   match j,hj with
   | 0,hj=>exact ⟨r,hrs,(N0 b).2 hj⟩
   | 1,⟨p,hp,_,hn⟩=>exact ⟨p,hp,hn⟩
  ·rintro ⟨p,hp,hn⟩
   by_cases hpr:p=r
   ·subst hpr;exact ⟨0,(N0 b).1 hn⟩
   ·exact ⟨1,p,hp,hpr,hn⟩
 have hhid:∀b,mH w (A.hJ rs) b->¬∃j,B.N j b:=by
  intro b hb hj
  obtain ⟨p,hp,hn⟩:=(hBN b).1 hj
  rcases hb with ⟨q,hq⟩ | hb
  ·have:=hh.dj q p b hq.2 hn
   subst this;exact hq.1 hp
  ·exact hb.1.2 p hp hn
 have hB:Hp (np:=1) E.cells w ⟨fun b=>∃j,B.N j b,B.v,[]⟩ B (jy [.box [.own 1],.row c.e row]) w:=by
  refine ⟨fun j b hb=>?_,fun j q b hb hb'=>?_,fun j hj=>?_,fun j=>?_,Fr.refl _ _,fun j b hb=>.inl ⟨j,hb⟩,fun b hb=>hb.elim (fun h=>.inr ((hBN b).1 h)) (fun h=>.inl (.inr h)),fun j hj=>⟨?_,rfl⟩⟩
  ·obtain ⟨p,_,hn⟩:=(hBN b).1 ⟨j,hb⟩
   exact hh.lt p b hn
  ·match j,q,hb,hb' with
   | 0,0,_,_=>rfl
   | 1,1,_,_=>rfl
   | 0,1,h1,⟨p,_,h2,h3⟩=>exact (h2 (hh.dj p r b h3 ((N0 b).2 h1))).elim
   | 1,0,⟨p,_,h2,h3⟩,h1=>exact (h2 (hh.dj p r b h3 ((N0 b).2 h1))).elim
  ·match j,hj with
   | 0,hj=>exact (hj (show 0<2 by omega)).elim
   | 1,hj=>exact (hj (show 1<2 by omega)).elim
   | j+2,_=>rfl
  ·match j with
   | 0=>
    refine ⟨show 0<2 by omega,gb,te,#[y],v0,fun b=>Iff.rfl,hg,.cons ⟨⟨show 1<2 by omega,rfl,ya,yn,yc,hyv⟩,hy.2⟩ .nil⟩
   | 1=>exact ⟨show 1<2 by omega,hown⟩
   | j+2=>exact fun b hb=>hb
  ·show j<2
   omega
 have hz:∀b,fq w (A0 (mH w (A.hJ rs)) w) b->fq w B b:=by
  rintro b ⟨h1,h2,_⟩
  refine ⟨.inl h1,h2,fun j hj=>?_⟩
  rcases h1 with h1 | h1
  ·exact hhid b h1 ⟨j,hj⟩
  ·omega
 have hbp:∀x,V0 E.cells w (A.hJ rs) (.cC r 0) x->V0 E.cells w B (.cC 0 0) x:=fun x ⟨_,g',h1,h2⟩=>⟨show 0<2 by omega,g',h1,h2⟩
 obtain ⟨ls,h3,h4⟩:=AY (Hp.hJ (rs:=rs) hh) (Z:=mH w (A.hJ rs)) (fun b hb=>hb) hz hbp h
 have hargs:=h4 (hv.map' (f:=iI rs) fun v x h=>h.hJ)
 cases hs:c.sem (.sl row::ls) with
 | none=>rw [hs] at h3;cases h3
 | some out=>
  rw [hs] at h3
  simp only [Option.bind_some] at h3
  rw [nD] at h3
  refine (hcall (.sl row::ls) out w xs B hs hB (fun q hq h=>?_) hargs).mono fun e w' hpost=>?_
  ·have :q<2:=h
   omega
  obtain ⟨rv,A',rfl,hF,hZ',hal',hh',⟨g',te',p1,p2,p3⟩,hres⟩:=hpost
  have hgb:g'=gb:=by
   have :A.v r=.pointer (some ⟨g',0,none⟩):=p1
   rw [v0] at this;injection this with this;injection this with this;injection this with this;exact this.symm
  subst hgb
  refine ⟨rv,rfl,?_⟩
  let rows:List aW:=.row c.e (out.headD .hole).dP::c.res.R out.tail
  have hrl:rows.length=(c.res.R out.tail).length+1:=rfl
  let A1:dS:={ v:=A.v,N:=fun p b=>(p=r/\b=g')∨(p∉rs/\A.N p b),al:=A.al,Z:=A.Z }
  have hfresh:∀j b,A'.N j b->(∃p,p∈rs/\A.N p b)∨w.heap.size<=b:=fun j b h=>(hh'.nm j b h).imp (fun h=>(hBN b).1 h) id
  have hgN:A.N r g':=(N0 g').2 rfl
  have hgw:g'<w'.heap.size:=Nat.lt_of_lt_of_le (hh.lt r g' hgN) hF.size
  have hout:∀i,A.al i->¬(s.nx<=i/\i<s.nx+rows.length):=fun i ha h=>hnx i h.1 ha
  have hjN:∀i,¬(s.nx<=i/\i<s.nx+rows.length)->(A1.join A' s.nx rows.length).N i=A1.N i:=fun i hi=>if_neg hi
  have hjI:∀i,(s.nx<=i/\i<s.nx+rows.length)->(A1.join A' s.nx rows.length).N i=A'.N (i - s.nx):=fun i hi=>if_pos hi
  have st:Step A (A1.join A' s.nx rows.length) w w' (fun p=>p∈rs):=by
   refine ⟨rfl,fun i h=>.inl h,fun i h=>if_neg (hout i h),hF.size,fun b hb hn=>hF.block b hb fun hj=>?_,fun i h1 h2 b=>?_,fun i b h1 h2=>?_⟩
   ·obtain ⟨p,hp,hpn⟩:=(hBN b).1 hj
    exact hn p hp hpn
   ·rw [hjN i (hout i h1)]
    exact ⟨fun h=>h.elim (fun h=>absurd (h.1 ▸ hrs) h2) fun h=>h.2,fun h=>.inr ⟨h2,h⟩⟩
   ·by_cases hi:s.nx<=i/\i<s.nx+rows.length
    ·rw [hjI i hi] at h2
     exact hfresh _ _ h2
    ·rw [hjN i hi] at h2
     rcases h2 with ⟨rfl,rfl⟩ | ⟨h3,h4⟩
     ·exact .inl ⟨i,hrs,hgN⟩
     ·rcases h1 with h1 | h1
      ·exact absurd h1 h3
      ·exact (h1 (hh.xV h4)).elim
  have hHp:Hp E.cells w0 M (A1.join A' s.nx rows.length) (eA (upd (kK rs s.hp) r (.box [.own s.nx])) s.nx rows) w':=by
   have hlen:s.nx+rows.length=s.nx+rows.length:=rfl
   have hrn:¬(s.nx<=r/\r<s.nx+rows.length):=hout r alr
   refine ⟨fun i b hb=>?_,fun i q b hb hb'=>?_,fun i hi=>?_,fun i=>?_,hh.fr.trans hF fun b hb=>?_,fun i b hb=>?_,hh.zf,fun j hj=>⟨.inl (hh.pn j hj).1,(st.v j (hh.pn j hj).1).trans (hh.pn j hj).2⟩⟩
   ·by_cases hi:s.nx<=i/\i<s.nx+rows.length
    ·rw [hjI i hi] at hb;exact hh'.lt _ _ hb
    ·rw [hjN i hi] at hb
     rcases hb with ⟨_,rfl⟩ | ⟨_,hb⟩
     ·exact hgw
     ·exact Nat.lt_of_lt_of_le (hh.lt i b hb) hF.size
   ·have key:∀{j p:Nat},A'.N j b->A1.N p b->False:=by
     intro j p h1 h2
     rcases h2 with ⟨_,rfl⟩ | ⟨h3,h4⟩
     ·exact p3 j h1
     ·rcases hfresh j b h1 with ⟨q,hq,hqn⟩ | hsz
      ·rw [hh.dj p q b h4 hqn] at h3;exact h3 hq
      ·have:=hh.lt p b h4;omega
    by_cases hi:s.nx<=i/\i<s.nx+rows.length<;>by_cases hq:s.nx<=q/\q<s.nx+rows.length
    ·rw [hjI i hi] at hb;rw [hjI q hq] at hb'
     have:=hh'.dj _ _ _ hb hb'
     omega
    ·rw [hjI i hi] at hb;rw [hjN q hq] at hb';exact (key hb hb').elim
    ·rw [hjN i hi] at hb;rw [hjI q hq] at hb';exact (key hb' hb).elim
    ·rw [hjN i hi] at hb;rw [hjN q hq] at hb'
     rcases hb with ⟨rfl,rfl⟩ | ⟨h1,h2⟩<;>rcases hb' with ⟨k1,k2⟩ | ⟨k1,k2⟩
     ·exact k1.symm
     ·exact hh.dj _ _ _ hgN k2
     ·subst k2;subst k1;exact hh.dj _ _ _ h2 hgN
     ·exact hh.dj _ _ _ h2 k2
   ·have h1:¬A.al i:=fun h=>hi (.inl h)
    have h2:¬(s.nx<=i/\i<s.nx+rows.length):=fun h=>hi (.inr h)
    rw [eO _ _ _ _ (by omega),bB _ _ (by rintro rfl;exact h1 alr)]
    by_cases hm:i∈rs
    ·exact pQ hm
    ·rw [jQ hm,hh.al i h1];rfl
   ·by_cases hi:s.nx<=i/\i<s.nx+rows.length
    ·obtain ⟨o,ho⟩:∃o,rows[i - s.nx]?=some o:=⟨rows[i - s.nx]'(by omega),List.getElem?_eq_getElem (by omega)⟩
     have e1:=gu rows (upd (kK rs s.hp) r (.box [.own s.nx])) s.nx _ _ ho
     rw [show s.nx+(i - s.nx)=i by omega] at e1
     rw [e1]
     have hrowo:∃e xs,o=.row e xs:=by
      rcases List.mem_cons.1 (List.mem_of_getElem? ho) with rfl | hm
      ·exact ⟨_,_,rfl⟩
      ·exact RP.BI hm
     obtain ⟨e,xs',rfl⟩:=hrowo
     have e2:=hh'.rt (i - s.nx)
     have e3:=gu rows (fun _=>.dead) 0 _ _ ho
     rw [Nat.zero_add] at e3
     rw [show (eA (fun _=>aW.dead) 0 (.row c.e (out.headD .hole).dP::c.res.R out.tail) (i - s.nx))=.row e xs' from e3] at e2
     refine ⟨.inr hi,?_⟩
     simp only [dS.join,if_pos hi]
     exact e2.2
    ·rw [eO _ _ _ _ (by omega)]
     by_cases hir:i=r
     ·subst hir
      rw [bG]
      have h0:s.nx<=s.nx/\s.nx<s.nx+rows.length:=⟨Nat.le_refl _,by rw [hrl];omega⟩
      have hv0':(A1.join A' s.nx rows.length).v s.nx=A'.v 0:=by simp only [dS.join,if_pos h0,Nat.sub_self]
      have hrt0:=hh'.rt 0
      have e3:=gu rows (fun _=>.dead) 0 0 (.row c.e (out.headD .hole).dP) rfl
      rw [show (eA (fun _=>aW.dead) 0 (.row c.e (out.headD .hole).dP::c.res.R out.tail) 0)=.row c.e (out.headD .hole).dP from e3] at hrt0
      obtain ⟨a1,n1,c1,q1,_⟩:=hrt0.2.wP
      refine ⟨.inl alr,g',te',#[A'.v 0],?_,fun b=>?_,p2,.cons ⟨⟨.inr h0,hv0'.symm,a1,n1,c1,q1⟩,hrt0.2.one⟩ .nil⟩
      ·rw [st.v i alr];exact v0
      ·rw [hjN i hi]
       exact ⟨fun h=>h.elim (fun h=>h.2) fun h=>absurd hrs h.1,fun h=>.inl ⟨rfl,h⟩⟩
     ·rw [bB _ _ hir]
      by_cases hm:i∈rs
      ·rw [pQ hm]
       intro b hb
       rw [hjN i hi] at hb
       exact hb.elim (fun h=>hir h.1) fun h=>h.1 hm
      ·rw [jQ hm]
       have ho:=hh.rt i
       cases hq:s.hp i with
       | dead=>
        intro b hb
        rw [hjN i hi] at hb
        rw [hq] at ho
        exact hb.elim (fun h=>hir h.1) fun h=>ho b h.2
       | box cs=>
        rw [hq] at ho
        obtain ⟨ha,g2,te2,cur2,h1,h2,h3,h4⟩:=ho
        refine ⟨.inl ha,g2,te2,cur2,by rw [st.v i ha];exact h1,fun b=>(st.N i ha hm b).trans (h2 b),?_,lY st hh h4⟩
        rw [(st.root hh hm ((h2 g2).2 rfl)).2];exact h3
       | row e xs'=>
        rw [hq] at ho
        refine ⟨.inl ho.1,?_⟩
        rw [st.v i ho.1]
        exact (ho.2.frame (w':=w') fun b hb=>(st.root hh hm hb).2).mono fun b hb=>(st.root hh hm hb).1
       | ql e xs' j cs=>
        rw [hq] at ho
        refine ⟨.inl ho.1,ho.2.1,?_⟩
        rw [st.v i ho.1]
        exact (ho.2.2.frame (w':=w') fun b hb=>(st.root hh hm hb).2).mono fun b hb=>(st.root hh hm hb).1
       | xj e xs' j p=>
        rw [hq] at ho
        refine ⟨.inl ho.1,ho.2.1,?_⟩
        rw [st.v i ho.1]
        exact ho.2.2.move (fun b hb=>(st.root hh hm hb).2) fun b hb=>(st.root hh hm hb).1
   ·obtain ⟨p,_,hn⟩:=(hBN b).1 hb
    exact hh.nm p b hn
   ·by_cases hi:s.nx<=i/\i<s.nx+rows.length
    ·rw [hjI i hi] at hb
     rcases hfresh _ _ hb with ⟨p,_,hn⟩ | h
     ·exact hh.nm p b hn
     ·exact .inr (Nat.le_trans hh.fr.size h)
    ·rw [hjN i hi] at hb
     rcases hb with ⟨_,rfl⟩ | ⟨_,hb⟩
     ·exact hh.nm r _ hgN
     ·exact hh.nm i b hb
  refine hK _ _ rv w' (A1.join A' s.nx rows.length) h3 hHp (fun i hi ha=>?_) (hfr.map' (f:=iI rs) fun v x h=>h.kill st hh) ?_ rfl ⟨Nat.le_add_right _ _,fun i ha=>ha.imp id fun h=>h.1⟩
  ·have hi':s.nx+((c.res.R out.tail).length+1)<=i:=hi
   rcases ha with ha | ha
   ·exact hnx i (by omega) ha
   ·have:=ha.2;rw [hrl] at this;omega
  ·have hok:c.res.ok=true:=by simp only [RP.pX,Bool.and_eq_true] at hfine;exact hfine.1
   exact yY (rs:=rows) rfl (fun i=>by rw [hal' i,hrl]) hok (fun hv=>by rw [hview] at hv;cases hv) hres
theorem ox {bQ:List L}{hp:Nat->aW}{r:Nat}:∀{qs:List (Option (List K))} {vs:List V} {k:List L->aI},iJ hp r qs vs k=some bQ->∃ls,k ls=some bQ/\∀hp0,Sub hp hp0->∀k':List L->aI,iJ hp0 r qs vs k'=k' ls
 | [],[],k,h=>⟨[],h,fun _ _ _=>rfl⟩
 | [],_::_,k,h=>by cases h
 | none::_,[],k,h=>by cases h
 | some _::_,[],k,h=>by cases h
 | none::qs,v::vs,k,h=>by
  cases v<;>first | (simp only [iJ] at h;cases h;done) | skip
  simp only [iJ] at h
  obtain ⟨b0,h0⟩:=eH h
  obtain ⟨b,h3,h4⟩:=ox h0
  exact ⟨_,h3,fun hp0 hs k'=>by simp only [iJ,b0,aZ,h4 hp0 hs]⟩
 | some q::qs,v::vs,k,h=>by
  simp only [iJ] at h
  obtain ⟨a,h1,h2⟩:=rX h
  obtain ⟨b,h3,h4⟩:=ox h1
  exact ⟨_,h3,fun hp0 hs k'=>by simp only [iJ,h2 hp0 hs,h4 hp0 hs]⟩
theorem yP {bQ:List L}{hp:Nat->aW}{r:Nat}{p:mw}{v:V}{k:List L->aI}(h:mm E hp r p v k=some bQ):∃ls,k ls=some bQ/\∀hp0,Sub hp hp0->∀k':List L->aI,mm E hp0 r p v k'=k' ls:=by
 cases p with
 | rd p=>
  obtain ⟨a,h1,h2⟩:=wZ (show mu E hp p v k=some bQ from h)
  exact ⟨a,h1,fun hp0 hs k'=>h2 hp0 hs k'⟩
 | box=>
  cases v<;>first | (simp only [mm] at h;cases h;done) | skip
  simp only [mm] at h
  obtain ⟨b0,h0⟩:=eH h
  exact ⟨_,h0,fun hp0 hs k'=>by simp only [mm,b0,aZ]⟩
 | fn f qs=>
  cases v<;>first | (simp only [mm] at h;cases h;done) | skip
  simp only [mm] at h
  obtain ⟨b0,h0⟩:=eH h
  obtain ⟨b,h3,h4⟩:=ox h0
  exact ⟨_,h3,fun hp0 hs k'=>by simp only [mm,b0,aZ,h4 hp0 hs]⟩
theorem sC {bQ:List L}{hp:Nat->aW}{r:Nat}:∀{ps:List mw} {vs:List V} {k:List L->aI},lB E hp r ps vs k=some bQ->∃ls,k ls=some bQ/\∀hp0,Sub hp hp0->∀k':List L->aI,lB E hp0 r ps vs k'=k' ls
 | [],[],k,h=>⟨[],h,fun _ _ _=>rfl⟩
 | [],_::_,k,h=>by cases h
 | _::_,[],k,h=>by cases h
 | q::qs,v::vs,k,h=>by
  simp only [lB] at h
  obtain ⟨a,h1,h2⟩:=yP h
  obtain ⟨b,h3,h4⟩:=sC h1
  exact ⟨_,h3,fun hp0 hs k'=>by simp only [lB,h2 hp0 hs,h4 hp0 hs]⟩
theorem oZ {bQ:List L}{c:qB}{s:St}{vs:List V}{k:V->St->aI}{r:Nat}{rs:List Nat}{row:aB}(h:ng E c r rs row vs s k=some bQ) :
  ∃v hp2 nx2,k v ⟨fun i=>iI rs (s.sl i),hp2,nx2,s.fr.map (iI rs)⟩=some bQ/\
   ∀(R:Nat) (zs:List V),s.hp R=.dead->R<s.nx->R≠r->R∉rs->(∀z∈zs,∀rs,kg rs z=z)->∀sl' fr' (k':V->St->aI),
    ng E c r rs row vs ⟨sl',upd s.hp R (.box zs),s.nx,fr'⟩ k'=k' v ⟨fun i=>iI rs (sl' i),upd hp2 R (.box zs),nx2,fr'.map (iI rs)⟩:=by
 unfold ng at h
 obtain ⟨ls,h1,h2⟩:=sC h
 cases hr:c.sem (.sl row::ls) with
 | none=>rw [hr] at h1;cases h1
 | some out=>
  rw [hr] at h1
  simp only [Option.bind_some,nD] at h1
  refine ⟨_,_,_,h1,fun R zs hR hRn hRr hRs hz sl' fr' k'=>?_⟩
  have hhide:kK rs (upd s.hp R (.box zs))=upd (kK rs s.hp) R (.box zs):=by
   funext p
   by_cases hp:p=R
   ·subst hp
    rw [jQ hRs,bG,bG]
    simp only [lD]
    rw [List.map_congr_left (g:=id) fun z hzm=>hz z hzm rs,List.map_id]
   ·rw [bB _ _ hp]
    unfold kK
    rw [bB _ _ hp]
  have hsub:Sub (kK rs s.hp) (kK rs (upd s.hp R (.box zs))):=fun p=>by
   rw [hhide]
   by_cases hp:p=R
   ·subst hp;refine .inr ?_;rw [jQ hRs,hR];rfl
   ·rw [bB _ _ hp];exact .inl rfl
  unfold ng
  simp only [h2 _ hsub,hr,Option.bind_some,nD]
  congr 1
  rw [hhide]
  congr 1
  funext p
  have hcomm:∀(rts:List aW) (n:Nat) (hp:Nat->aW),R<n->eA (upd hp R (.box zs)) n rts=upd (eA hp n rts) R (.box zs):=by
   intro rts
   induction rts with
   | nil=>intro n hp _;rfl
   | cons x xs ih=>
    intro n hp hn
    simp only [eA]
    rw [<-ih (n+1) (upd hp n x) (by omega)]
    congr 1
    funext q
    by_cases h1:q=n
    ·subst h1;rw [bG,bB _ _ (by omega),bG]
    ·by_cases h2:q=R
     ·subst h2;rw [bB _ _ h1,bG,bG]
     ·rw [bB _ _ h1,bB _ _ h2,bB _ _ h2,bB _ _ h1]
  rw [<-hcomm _ _ _ hRn]
  congr 1
  funext q
  by_cases h1:q=r
  ·subst h1;rw [bG,bB _ _ (Ne.symm hRr),bG]
  ·by_cases h2:q=R
   ·subst h2;rw [bB _ _ h1,bG,bG]
   ·rw [bB _ _ h1,bB _ _ h2,bB _ _ h2,bB _ _ h1]
theorem xM {c:qB}:zM (uJ E c):=by
 intro vs s k bQ h
 simp only [uJ] at h
 split at h
 ·cases h
 rename_i r hroot
 split at h
 ·rename_i hr
  obtain ⟨v,hp2,nx2,h1,h2⟩:=oZ h
  refine ⟨[r],v,hp2,nx2,h1,fun R zs hR hRn hz sl' fr' k'=>?_⟩
  have hne:R≠r:=by rintro rfl;rw [hr] at hR;cases hR
  simp only [uJ,hroot,bB _ _ (Ne.symm hne),hr]
  exact h2 R zs hR hRn hne (by simpa using hne) hz sl' fr' k'
 ·rename_i q hr
  split at h
  ·rename_i e row hq
   obtain ⟨b0,h⟩:=eH h
   obtain ⟨v,hp2,nx2,h1,h2⟩:=oZ h
   refine ⟨[r,q],v,hp2,nx2,h1,fun R zs hR hRn hz sl' fr' k'=>?_⟩
   have hne:R≠r:=by rintro rfl;rw [hr] at hR;cases hR
   have hne2:R≠q:=by rintro rfl;rw [hq] at hR;cases hR
   simp only [uJ,hroot,bB _ _ (Ne.symm hne),hr,bB _ _ (Ne.symm hne2),hq,b0,aZ]
   exact h2 R zs hR hRn hne (by simp [hne,hne2]) hz sl' fr' k'
  ·cases h
 ·cases h
theorem so {c:qB}{g:FuncId}{n:Nat}(hO:oP P E g c):gI P E n g (uJ E c):=by
 have key:qA P E n g (uJ E c) AP:=by
  intro w0 M A s w vs xs k bQ h hh hnx hfr hv K hK
  simp only [uJ] at h
  split at h
  ·cases h
  rename_i r hroot
  split at h
  ·rename_i hr
   refine pF hO h hh hnx hfr hv hr (by simp) (fun p hp=>?_) (fun y hy=>?_) K hK
   ·simp at hp;subst hp
    have:=hh.rt p;rw [hr] at this;exact this.1
   ·obtain ⟨a,rfl⟩:=hy.1
    exact .nil _ _ _ _ rfl
  ·rename_i q hr
   split at h
   ·rename_i e row hq
    cases hc:(Nat.beq e c.e&&!Nat.beq q r)<;>simp only [hc,aZ,aX] at h
    ·cases h
    simp only [Bool.and_eq_true,Bool.not_eq_true'] at hc
    obtain rfl:=Nat.eq_of_beq_eq_true hc.1
    have hne:q≠r:=fun e=>by have h2:=hc.2;rw [e,Nat.beq_refl] at h2;exact Bool.noConfusion h2
    have hrq:=hh.rt q
    rw [hq] at hrq
    refine pF hO h hh hnx hfr hv hr (by simp) (fun p hp=>?_) (fun y hy=>?_) K hK
    ·simp at hp
     rcases hp with rfl | rfl
     ·have:=hh.rt p;rw [hr] at this;exact this.1
     ·exact hrq.1
    ·rw [hy.1.2.1]
     exact hrq.2.mono fun b hb=>⟨q,by simp,hne,hb⟩
   ·cases h
  ·cases h
 exact ⟨hO.1,fun w0 M A s w vs xs k bQ h hh hnx hfr hv K hK=>key w0 M A s w vs xs k bQ h hh hnx hfr hv K fun v s' cv w' A' h1 h2 h3 h4 h5 h6 _=>hK v s' cv w' A' h1 h2 h3 h4 h5 h6 trivial,fun _=>⟨xM,key⟩⟩
end
def bN.take {α:Type}{n k:Nat}{p:α->Prop}{xs:List α}(h:bN n p xs):bN n p (xs.take k):=⟨Nat.le_trans (by simp;omega) h.1,fun x hx=>h.2 x (List.mem_of_mem_take hx)⟩
def bN.drop {α:Type}{n k:Nat}{p:α->Prop}{xs:List α}(h:bN n p xs):bN n p (xs.drop k):=⟨Nat.le_trans (by simp) h.1,fun x hx=>h.2 x (List.mem_of_mem_drop hx)⟩
def bN.map {α β:Type}{n:Nat}{p:α->Prop}{q:β->Prop}{f:α->β}{xs:List α}(h:bN n p xs)(hf:∀x,p x->q (f x)):bN n q (xs.map f):=
 ⟨by rw [List.length_map];exact h.1,fun y hy=>by obtain ⟨x,hx,rfl⟩:=List.mem_map.1 hy;exact hf x (h.2 x hx)⟩
section
variable {P:Program} {T:List (Nat×TI)} {G:List (Nat×gh)} {S:List (Nat×gX)} {I:List (Nat×kD)} {nt:Nat} {mt:Bool} {J:List Nat}
def Cm (fn:Func)(aT:qB)(nt:Nat):Bool:=
 !(fn.name == "runtime.NumGoroutine") && (fn.body.isSome && (aT.res.pX && (!aT.res.view && (fO (cY (bI fn)) && Nat.beq (aT.args.length + (fn.ntmps - aT.args.length)) nt))))
theorem Cd {g:FuncId}{fn:Func}{aT:qB}(hm:P.follows .mixedOrders=true)(hT:fm P T=true)(hG:fY P (dV T) G)(hS:jV P (dV T) S)(hI:oq P (dV T) 1 I)
  (hf:P.funcs[g]?=some fn) (hb:Cm fn aT nt=true) (live:Nat->Live)
  (h:∀ls r,aT.sem ls=some r->∃n,eY { T:=assoc T,G:=dK G,nt:=nt,M:=gm S,np:=1,mt:=mt,I:=mq I,J:=J } live fn (.tc aT.e aT.res.parts) n (uz aT.e aT.args ls)=some r):oP P (dV T) g aT:=by
 simp only [Cm,Bool.and_eq_true,Bool.not_eq_true'] at hb
 obtain ⟨b1,b2,b3,b3',b4,b5⟩:=hb
 obtain ⟨c,hc⟩:=Option.isSome_iff_exists.1 b2
 have hbody:bI fn=c:=by simp [bI,hc]
 generalize hE:({ T:=assoc T,G:=dK G,nt:=nt,M:=gm S,np:=1,mt:=mt,I:=mq I,J:=J }:Env)=E at h
 have e1:E.T=assoc T:=by rw [<-hE]
 have hI':oq P (dV T) E.np I:=by rw [<-hE];exact hI
 have hS2:oD P E:=⟨by rw [<-hE];exact (jV.env (E:=dV T) rfl hS).get,fun g c h=>gI.env (E:=dV T) e1.symm (hI'.get g c (by rw [<-hE] at h;exact h))⟩
 have hT':∀t i,E.T t=some i->gJ P E t i:=mV e1 hT
 have hG':∀g c,c∈E.G g->Valid P E g c:=by rw [<-hE];exact (fY.env (E:=dV T) rfl hG).get
 exact yX (E:=E) hT' hG' hS2 (fun w0 M Z0 bQ=>wW hT' hG' hS2 hm) e1 (by rw [<-hE]) hf b1 hc b3 b3' (by rw [<-hbody];exact iy b4) (by rw [<-hE];exact Nat.eq_of_beq_eq_true b5) live h
end
section
variable {A A' B B':Type} [Im A A'] [Im B B'] {g:A->Prop} {m:A->B}
def ON [RT B'](ps:List mw)(e:Nat)(r:RP)(acc:List L->A')(R:A'->Option B'):qB:=⟨ps,e,r,fun ls=>(R (acc ls)).map RT.enc⟩
theorem VO [RT B']{P:Program}{T:List (Nat×TI)}{G:List (Nat×gh)}{S:List (Nat×gX)}{I:List (Nat×kD)}{nt:Nat}{mt:Bool}{J:List Nat}{f:FuncId}{fn:Func}{ps:List mw}{e:Nat}{r:RP}{acc:List L->A'}{X:Type}{accr:List L->X}{live:Nat->Live}{run:Nat->X->aI}
  (hm:P.follows .mixedOrders=true) (hT:fm P T=true) (hG:fY P (dV T) G) (hS:jV P (dV T) S) (hI:oq P (dV T) 1 I) (hf:P.funcs[f]?=some fn) (hb:Cm fn (ON ps e r acc (RR g m)) nt=true)
  (hrun:∀n ls,eY { T:=assoc T,G:=dK G,nt:=nt,M:=gm S,np:=1,mt:=mt,I:=mq I,J:=J } live fn (.tc e r.parts) n (uz e ps ls)=run n (accr ls))
  (hok:∀ls a,acc ls=Im.im a->g a->∃n,run n (accr ls)=ret (Im.im (m a))):oP P (dV T) f (ON ps e r acc (RR g m)):=
 Cd hm hT hG hS hI hf hb live fun ls q h=>by
  obtain ⟨v,hv,hq⟩:=map_some h
  obtain ⟨a,hg,e,hm⟩:=lG hv
  obtain ⟨n,hn⟩:=hok ls a e.symm hg
  exact ⟨n,(hrun n ls).trans (hn.trans (by rw [<-hq,<-hm];rfl))⟩
end
def bo {β β':Type}[RT β']{r:β->β'}{c:Bool}{x y:aI}{a b:β}(h1:c=true->x=ret (r a))(h2:c=false->y=ret (r b)):(cond c x y)=ret (r (cond c a b)):=ec (fun b=>ret (r b)) h1 h2
def bs {β:Type}[RT β]{c:Bool}{x y:aI}{a b:β}(h1:c=true->x=ret a)(h2:c=false->y=ret b):(cond c x y)=ret (cond c a b):=ec ret h1 h2
def dn {p:Prop}{_:Decidable p}(h:¬p:=by (try simp (disch:=omega) only [LN,wi,Bool.cond_decide]);first | omega | (simp;done) | (simp;omega)):decide p=false:=decide_eq_false h
def bl {α:Type}{n:Nat}{p:α->Prop}{xs:List α}(h:bN n p xs)(hn:n<=maxLen:=by decide):xs.length<=maxLen:=Nat.le_trans h.1 hn
end Go.DM
set_option linter.unusedSectionVars false
namespace Go.DM
section
variable {P:Program} {E:Env}
end
end Go.DM
namespace Go.DM
end Go.DM

end
