/- A small machine over the translated code, and the proof that what it computes the code does. Conditions: none. -/
import Derived.Test.YtknikjmcpjaggaaGreatResolvePetDc
import Derived.ChangeArms
import Derived.Deep.Slices
import Derived.DataReads
import Derived.Carry
import Derived.ChangeOld
import Derived.WideShapes
import Derived.ChangeShapes
import Derived.IntWalk
set_option linter.all false
noncomputable section
set_option linter.unusedSectionVars false
namespace Go.DM
def assoc {α:Type}:List (Nat×α)->Nat->Option α
 | [],_=>none
 | (k,v)::l,i=>bif Nat.beq k i then some v else assoc l i
theorem oF {α:Type}:∀{l:List (Nat×α)} {i:Nat} {v:α},assoc l i=some v->(i,v)∈l
 | [],i,v,h=>by cases h
 | (k,u)::l,i,v,h=>by
  simp only [assoc] at h
  cases hb:Nat.beq k i<;>simp only [hb,bh,bq] at h
  ·exact List.mem_cons_of_mem _ (oF h)
  ·injection h with h;rw [Nat.eq_of_beq_eq_true hb,h];simp
def xJ:Value->K->Bool
 | .int a n,.int b=>jd a b&&decide (n=0)
 | .bool b,.bool=>!b
 | .string ⟨⟨[]⟩⟩,.str=>true
 | .slice none 0 0,.sl _=>true
 | _,_=>false
theorem xP {v:Value}{k:K}(h:xJ v k=true):v=jU k:=by
 unfold xJ at h
 split at h
 ·simp only [Bool.and_eq_true,decide_eq_true_eq] at h
  obtain ⟨h1,rfl⟩:=h
  rw [gQ h1];rfl
 ·simp at h;subst h;rfl
 ·rfl
 ·rfl
 ·cases h
def tL:List Value->List K->Bool
 | [],[]=>true
 | v::vs,k::ks=>xJ v k&&tL vs ks
 | _,_=>false
theorem rX:∀{vs:List Value} {ks:List K},tL vs ks=true->vs=ks.map jU
 | [],[],_=>rfl
 | [],_::_,h=>by cases h
 | _::_,[],h=>by cases h
 | v::vs,k::ks,h=>by
  simp only [tL,Bool.and_eq_true] at h
  rw [xP h.1,rX h.2];rfl
def kR (P:Program)(T:Nat->Option TI):List Field->List (Nat×Nat)->Nat->List K->Bool
 | [],[],_,[]=>true
 | f::fs,p::ps,o,ks=>Nat.beq f.offset p.1&&(Nat.beq f.type p.2&&(Nat.beq p.1 o&&(match P.info? f.type with
  | some fi=>match T p.2 with
   | some ti=>Nat.beq fi.size ti.cells.length&&(qz (ks.take ti.cells.length) ti.cells&&kR P T fs ps (o+ti.cells.length) (ks.drop ti.cells.length))
   | none=>false
  | none=>false)))
 | _,_,_,_=>false
theorem jr {P:Program}{E:Env}:∀{fs:List Field} {ps:List (Nat×Nat)} {o:Nat} {ks:List K},kR P E.T fs ps o ks=true->
  ∃places,fs.mapM (fun f=>(P.info? f.type).map fun i=>(f.offset,i.size))=some places/\fs.length=ps.length/\
   ∀(j:Nat) (p:Nat×Nat),ps[j]?=some p->∃f ti,fs[j]?=some f/\f.offset=p.1/\f.type=p.2/\E.T p.2=some ti/\places[j]?=some (p.1,(E.cells p.2).length)/\o<=p.1/\P.cellsOf f.type=ti.cells.length/\(∀l kk,ti.cells[l]?=some kk->ks[p.1 - o+l]?=some kk)/\p.1 - o+ti.cells.length<=ks.length
 | [],[],o,[],_=>⟨[],by simp,rfl,fun j p hp=>by simp at hp⟩
 | [],[],o,_::_,h=>by cases h
 | [],_::_,o,ks,h=>by cases h
 | _::_,[],o,ks,h=>by cases h
 | f::fs,p::ps,o,ks,h=>by
  simp only [kR,Bool.and_eq_true] at h
  obtain ⟨h1,h2,h3,h4⟩:=h
  split at h4
  ·rename_i fi hfi
   split at h4
   ·rename_i ti hti
    simp only [Bool.and_eq_true] at h4
    obtain ⟨h5,h6,h7⟩:=h4
    obtain ⟨places,g1,g2,g3⟩:=jr h7
    have e1:=Nat.eq_of_beq_eq_true h1
    have e2:=Nat.eq_of_beq_eq_true h2
    have e3:=Nat.eq_of_beq_eq_true h3
    have e5:=Nat.eq_of_beq_eq_true h5
    have e6:=qE h6
    have hsz:fi.size=(E.cells p.2).length:=by simp [Env.cells,hti,e5]
    have hlen:ti.cells.length<=ks.length:=by rw [<-e6,List.length_take];exact Nat.min_le_right _ _
    refine ⟨(f.offset,fi.size)::places,by simp [hfi,g1],by simp [g2],fun j q hq=>?_⟩
    cases j with
    | zero=>
     simp at hq
     subst hq
     refine ⟨f,ti,rfl,e1,e2,hti,by simp [e1,hsz],by omega,by simp [Program.cellsOf,hfi,e5],fun l kk hl=>?_,by omega⟩
     have :(ks.take ti.cells.length)[l]?=some kk:=by rw [e6];exact hl
     rw [List.getElem?_take] at this
     rw [show p.1 - o+l=l by omega]
     split at this
     ·exact this
     ·cases this
    | succ j=>
     obtain ⟨f',ti',q1,q2,q3,q4,q5,q6,q7,q8,q9⟩:=g3 j q (by simpa using hq)
     refine ⟨f',ti',by simpa using q1,q2,q3,q4,by simpa using q5,by omega,q7,fun l kk hl=>?_,?_⟩
     ·have:=q8 l kk hl
      rw [List.getElem?_drop] at this
      rw [<-this];congr 1;omega
     ·rw [List.length_drop] at q9;omega
   ·cases h4
  ·cases h4
def Ck (T:Nat->Option TI)(i:TI)(d:TypeDesc):Bool:=
 match i.el with
 | some e=>match d with
  | .slice e'=>Nat.beq e e'&&(T e).isSome
  | _=>false
 | none=>true
def wD (i:TI)(d:TypeDesc):Bool:=
 i.agg||(match i.cells with
  | [.int k]=>(match d with | .int k'=>jd k k' | _=>false)
  | [.bool]=>(match d with | .bool=>true | _=>false)
  | [.str]=>(match d with | .string=>true | _=>false)
  | [.sl e]=>(match d with | .slice e'=>Nat.beq e e' | _=>false)
  | _=>false)
def zZ (P:Program)(k:K)(t:Nat):Bool:=
 match P.underlying t with
 | some (.int ik)=>(match k with | .int jk=>jd jk ik | _=>false)
 | some .bool=>(match k with | .bool=>true | _=>false)
 | some .string=>(match k with | .str=>true | _=>false)
 | _=>false
def mo (P:Program):List Field->Nat->List K->Bool
 | [],_,[]=>true
 | f :: fs, o, k :: ks => !(f.name == "_") && (Nat.beq f.offset o && (zZ P k f.type && mo P fs (o + 1) ks))
 | _,_,_=>false
theorem lE {P : Program} : ∀ {fs : List Field} {o : Nat} {ks : List K}, mo P fs o ks = true -> fs.length = ks.length /\ ∀ (j : Nat) (f : Field), fs[j]? = some f -> f.name ≠ "_" /\ f.offset = o + j /\ ∃ d', P.underlying f.type = some d' /\ ((∃ ik, ks[j]? = some (.int ik) /\ d' = .int ik) ∨ (ks[j]? = some .bool /\ d' = .bool) ∨ (ks[j]? = some .str /\ d' = .string))
 | [],o,[],_=>⟨rfl,fun j f hj=>by simp at hj⟩
 | [],o,_::_,h=>by cases h
 | _::_,o,[],h=>by cases h
 | f::fs,o,k::ks,h=>by
  simp only [mo,Bool.and_eq_true,Bool.not_eq_true'] at h
  obtain ⟨h1,h2,h3,h4⟩:=h
  obtain ⟨g1,g2⟩:=lE h4
  refine ⟨by simp [g1],fun j g hj=>?_⟩
  cases j with
  | zero=>
   simp at hj
   subst hj
   refine ⟨by simpa using h1,Nat.eq_of_beq_eq_true h2,?_⟩
   unfold zZ at h3
   split at h3
   ·rename_i ik hu
    split at h3
    ·rename_i jk;exact ⟨_,hu,.inl ⟨ik,by simp [gQ h3],rfl⟩⟩
    ·cases h3
   ·rename_i hu
    split at h3
    ·exact ⟨_,hu,.inr (.inl ⟨rfl,rfl⟩)⟩
    ·cases h3
   ·rename_i hu
    split at h3
    ·exact ⟨_,hu,.inr (.inr ⟨rfl,rfl⟩)⟩
    ·cases h3
   ·cases h3
  | succ j=>
   obtain ⟨q1,q2,q3⟩:=g2 j g (by simpa using hj)
   exact ⟨q1,by omega,by simpa using q3⟩
def A5 (P:Program)(t:Nat)(i:TI)(d:TypeDesc):Bool:=
 !i.eqv||(!i.agg||(match d with | .struct fs=>!P.stoodInHeld t&&(!P.eqGuardType P.depth t&&mo P fs.toList 0 i.cells) | _=>false))
def zx (P:Program)(T:Nat->Option TI)(t:Nat)(i:TI):Bool:=
 match P.info? t with
 | some ii=>match P.underlying t with
  | some d=>match ii.zero with
   | some z=>Nat.beq ii.size i.cells.length&&(Nat.beq ii.bytes i.bytes&&(Nat.blt 0 i.cells.length&&(Nat.blt 0 i.bytes&&(tL z.cells.toList i.cells&&(
     (cond i.agg (match d with | .struct fs=>kR P T fs.toList i.fields 0 i.cells | _=>false) (!iF d&&(Nat.beq i.cells.length 1&&i.fields.isEmpty)))&&(Ck T i d&&(wD i d&&A5 P t i d)))))))
   | none=>false
  | none=>false
 | none=>false
theorem qk {P:Program}{E:Env}{t:Nat}{i:TI}(h:zx P E.T t i=true):gG P E t i:=by
 unfold zx at h
 split at h
 case h_2=>cases h
 rename_i ii hii
 split at h
 case h_2=>cases h
 rename_i d hd
 split at h
 case h_2=>cases h
 rename_i z hz
 simp only [Bool.and_eq_true] at h
 obtain ⟨h1,h2,h3,h4,h5,h6,h7,h8,h9⟩:=h
 refine ⟨ii,d,z,hii,hd,hz,Nat.eq_of_beq_eq_true h1,Nat.eq_of_beq_eq_true h2,Nat.blt_eq.mp h3,Nat.blt_eq.mp h4,rX h5,?_,?_,?_,?_,?_,?_,?_,?_,?_⟩
 ·cases ha:i.agg<;>simp only [ha,bh,bq] at h6
  ·simp only [Bool.and_eq_true,Bool.not_eq_true'] at h6;exact h6.1
  ·split at h6
   ·rfl
   ·cases h6
 ·intro ha
  simp only [ha,bq,Bool.and_eq_true,List.isEmpty_iff] at h6
  exact ⟨Nat.eq_of_beq_eq_true h6.2.1,h6.2.2⟩
 ·intro ha
  simp only [ha,bh] at h6
  split at h6
  ·rename_i fs
   obtain ⟨places,g1,g2,g3⟩:=jr h6
   refine ⟨fs,rfl,fun f p hp=>?_⟩
   obtain ⟨fl,ti,q1,q2,q3,q4,_⟩:=g3 f p hp
   exact ⟨fl,by simpa using q1,q2,q3,ti,q4⟩
  ·cases h6
 ·intro fs hfs
  subst hfs
  cases ha:i.agg<;>simp only [ha,bh,bq] at h6
  ·simp [iF] at h6
  ·obtain ⟨places,g1,g2,g3⟩:=jr h6
   refine ⟨places,g1,fun f p hp=>?_⟩
   obtain ⟨fl,ti,q1,q2,q3,q4,q5,_⟩:=g3 f p hp
   exact q5
 ·intro e he
  simp only [Ck,he] at h7
  split at h7
  ·simp only [Bool.and_eq_true] at h7
   rw [Nat.eq_of_beq_eq_true h7.1]
   refine ⟨rfl,Option.isSome_iff_exists.1 ?_⟩
   rw [<-Nat.eq_of_beq_eq_true h7.1];exact h7.2
  ·cases h7
 ·intro ha k hk
  simp only [wD,ha,Bool.false_or,hk] at h8
  split at h8
  ·rw [gQ h8]
  ·cases h8
 ·intro ha hk
  simp only [wD,ha,Bool.false_or,hk] at h8
  split at h8
  ·rfl
  ·cases h8
 ·intro ha hk
  simp only [wD,ha,Bool.false_or,hk] at h8
  split at h8
  ·rfl
  ·cases h8
 ·intro he ha
  simp only [A5,he,ha,Bool.not_true,Bool.false_or] at h9
  split at h9
  ·rename_i fs
   simp only [Bool.and_eq_true,Bool.not_eq_true'] at h9
   obtain ⟨g1,g2⟩:=lE h9.2.2
   exact ⟨fs,rfl,h9.1,h9.2.1,by simpa using g1,fun j f hj=>by
    obtain ⟨q1,q2,q3⟩:=g2 j f (by simpa using hj)
    exact ⟨q1,by omega,q3⟩⟩
  ·cases h9
def eN (P:Program)(l:List (Nat×TI)):Bool:=l.all fun p=>zx P (assoc l) p.1 p.2
theorem ot {P:Program}{l:List (Nat×TI)}{E:Env}(hE:E.T=assoc l)(h:eN P l=true):∀t i,E.T t=some i->gG P E t i:=by
 intro t i ht
 rw [hE] at ht
 simp only [eN,List.all_eq_true] at h
 have:=h (t,i) (oF ht)
 rw [<-hE] at this
 exact qk this
abbrev dI (T:List (Nat×TI)):Env:={ T:=assoc T,G:=fun _=>[],nt:=0 }
def dD:List (Nat×ga)->Nat->List ga
 | [],_=>[]
 | (k,c)::l,g=>bif Nat.beq k g then c::dD l g else dD l g
inductive gH (P:Program)(E:Env):List (Nat×ga)->Prop where
 | nil:gH P E []
 | cons {g c l}:Valid P E g c->gH P E l->gH P E ((g,c)::l)
theorem gH.get {P:Program}{E:Env}:∀{l:List (Nat×ga)},gH P E l->∀g c,c∈dD l g->Valid P E g c
 | _,.nil,g,c,h=>by cases h
 | (k,u)::l,.cons hv ht,g,c,h=>by
  simp only [dD] at h
  cases hb:Nat.beq k g<;>simp only [hb,bh,bq] at h
  ·exact ht.get g c h
  ·rcases List.mem_cons.1 h with rfl | h
   ·rw [<-Nat.eq_of_beq_eq_true hb];exact hv
   ·exact ht.get g c h
theorem iy:∀{l:List Nat},fD l=true->l.Nodup
 | [],_=>List.nodup_nil
 | a::l,h=>by
  simp only [fD,Bool.and_eq_true,List.all_eq_true,Bool.not_eq_true'] at h
  refine List.nodup_cons.2 ⟨fun hm=>?_,iy h.2⟩
  have:=h.1 a hm
  simp at this
theorem Valid.env {P:Program}{E E':Env}(he:E.T=E'.T){g:FuncId}{c:ga}(h:Valid P E g c):Valid P E' g c:=by
 have :E.cells=E'.cells:=by funext t;simp [Env.cells,he]
 unfold Valid at *
 rw [<-this];exact h
theorem gH.env {P:Program}{E E':Env}(he:E.T=E'.T){l:List (Nat×ga)}(h:gH P E l):gH P E' l:=by
 induction h with
 | nil=>exact .nil
 | cons hv _ ih=>exact .cons (hv.env he) ih
def rz (fn:Func)(aW:ga)(nt:Nat):Bool:=
 !(fn.name == "runtime.NumGoroutine") && (fn.body.isSome && (aW.res.sY && (fD (cW (bQ fn)) && Nat.beq (aW.args.length + (fn.ntmps - aW.args.length)) nt)))
def fZ:List (Nat×gK)->Nat->List gK
 | [],_=>[]
 | (k,c)::l,g=>bif Nat.beq k g then c::fZ l g else fZ l g
inductive jX (P:Program)(E:Env):List (Nat×gK)->Prop where
 | nil:jX P E []
 | cons {g c l}:eY P E g c->jX P E l->jX P E ((g,c)::l)
theorem jX.get {P:Program}{E:Env}:∀{l:List (Nat×gK)},jX P E l->∀g c,c∈fZ l g->eY P E g c
 | _,.nil,g,c,h=>by cases h
 | (k,u)::l,.cons hv ht,g,c,h=>by
  simp only [fZ] at h
  cases hb:Nat.beq k g<;>simp only [hb,bh,bq] at h
  ·exact ht.get g c h
  ·rcases List.mem_cons.1 h with rfl | h
   ·rw [<-Nat.eq_of_beq_eq_true hb];exact hv
   ·exact ht.get g c h
theorem eY.env {P:Program}{E E':Env}(he:E.T=E'.T){g:FuncId}{c:gK}(h:eY P E g c):eY P E' g c:=by
 have :E.cells=E'.cells:=by funext t;simp [Env.cells,he]
 unfold eY at *
 rw [<-this];exact h
theorem jX.env {P:Program}{E E':Env}(he:E.T=E'.T){l:List (Nat×gK)}(h:jX P E l):jX P E' l:=by
 induction h with
 | nil=>exact .nil
 | cons hv _ ih=>exact .cons (hv.env he) ih
theorem tB {mt:Bool}{P:Program}{T:List (Nat×TI)}{G:List (Nat×ga)}{S:List (Nat×gK)}{nt:Nat}{g:FuncId}{fn:Func}{aW:ga}(hm:P.follows .mixedOrders=true)(hT:eN P T=true)(hG:gH P (dI T) G)(hS:jX P (dI T) S)
  (hf:P.funcs[g]?=some fn) (hb:rz fn aW nt=true) (live:Nat->Live)
  (h:∀ls r,pT (dI T).cells aW.args ls->aW.sem ls=some r->∃n,eO { T:=assoc T,G:=dD G,nt:=nt,M:=fZ S,mt:=mt } live fn aW.res n (dc aW.args ls)=some r):Valid P (dI T) g aW:=by
 simp only [rz,Bool.and_eq_true,Bool.not_eq_true'] at hb
 obtain ⟨b1,b2,b3,b4,b5⟩:=hb
 obtain ⟨c,hc⟩:=Option.isSome_iff_exists.1 b2
 have hbody:bQ fn=c:=by simp [bQ,hc]
 have hT':∀t i,({ T:=assoc T,G:=dD G,nt:=nt,M:=fZ S,mt:=mt }:Env).T t=some i->gG P { T:=assoc T,G:=dD G,nt:=nt,M:=fZ S,mt:=mt } t i:=ot (E:={ T:=assoc T,G:=dD G,nt:=nt,M:=fZ S,mt:=mt }) rfl hT
 have hG':∀g c,c∈({ T:=assoc T,G:=dD G,nt:=nt,M:=fZ S,mt:=mt }:Env).G g->Valid P { T:=assoc T,G:=dD G,nt:=nt,M:=fZ S,mt:=mt } g c:=(gH.env (E:=dI T) (E':={ T:=assoc T,G:=dD G,nt:=nt,M:=fZ S,mt:=mt }) rfl hG).get
 have hS':∀g c,c∈({ T:=assoc T,G:=dD G,nt:=nt,M:=fZ S,mt:=mt }:Env).M g->eY P { T:=assoc T,G:=dD G,nt:=nt,M:=fZ S,mt:=mt } g c:=(jX.env (E:=dI T) (E':={ T:=assoc T,G:=dD G,nt:=nt,M:=fZ S,mt:=mt }) rfl hS).get
 exact uf (E:={ T:=assoc T,G:=dD G,nt:=nt,M:=fZ S,mt:=mt }) hT' hG' ⟨hS',fun _ _ h=>(nomatch h)⟩ (fun w0 M Z0 ans=>draws hT' hG' ⟨hS',fun _ _ h=>(nomatch h)⟩ hm) rfl rfl hf b1 hc b3 (by rw [<-hbody];exact iy b4) (Nat.eq_of_beq_eq_true b5) live h
def nW:List (Nat×mu)->Nat->List mu
 | [],_=>[]
 | (k,c)::l,g=>bif Nat.beq k g then c::nW l g else nW l g
inductive oM (P:Program)(E:Env)(n:Nat):List (Nat×mu)->Prop where
 | nil:oM P E n []
 | cons {g c l}:hO P E n g c->oM P E n l->oM P E n ((g,c)::l)
theorem oM.get {P:Program}{E:Env}{n:Nat}:∀{l:List (Nat×mu)},oM P E n l->∀g c,c∈nW l g->hO P E n g c
 | _,.nil,g,c,h=>by cases h
 | (k,u)::l,.cons hv ht,g,c,h=>by
  simp only [nW] at h
  cases hb:Nat.beq k g<;>simp only [hb,bh,bq] at h
  ·exact ht.get g c h
  ·rcases List.mem_cons.1 h with rfl | h
   ·rw [<-Nat.eq_of_beq_eq_true hb];exact hv
   ·exact ht.get g c h
theorem hO.env {P:Program}{E E':Env}(he:E.T=E'.T){n:Nat}{g:FuncId}{c:mu}(h:hO P E n g c):hO P E' n g c:=by
 have :E.cells=E'.cells:=by funext t;simp [Env.cells,he]
 unfold hO at *
 rw [<-this];exact h
theorem oM.env {P:Program}{E E':Env}(he:E.T=E'.T){n:Nat}{l:List (Nat×mu)}(h:oM P E n l):oM P E' n l:=by
 induction h with
 | nil=>exact .nil
 | cons hv _ ih=>exact .cons (hv.env he) ih
def Bl (fn : Func) : Bool := !(fn.name == "runtime.NumGoroutine") && (fn.body.isSome && fD (cW (bQ fn)))
section
variable {P:Program} {T:List (Nat×TI)} {G:List (Nat×ga)} {S:List (Nat×gK)} {I:List (Nat×mu)} {nt:Nat} {mt:Bool}
theorem yg {n:Nat}{J:List Nat}{g:FuncId}{fn:Func}(hm:P.follows .mixedOrders=true)(hT:eN P T=true)(hG:gH P (dI T) G)(hS:jX P (dI T) S)(hI:oM P (dI T) n I)
  (hf:P.funcs[g]?=some fn) (hb:Bl fn=true):hO P (dI T) n g (inl { T:=assoc T,G:=dD G,nt:=nt,M:=fZ S,np:=n,mt:=mt,I:=nW I,J:=J } fn):=by
 simp only [Bl,Bool.and_eq_true,Bool.not_eq_true'] at hb
 obtain ⟨b1,b2,b4⟩:=hb
 obtain ⟨c,hc⟩:=Option.isSome_iff_exists.1 b2
 have hbody:bQ fn=c:=by simp [bQ,hc]
 generalize hE:({ T:=assoc T,G:=dD G,nt:=nt,M:=fZ S,np:=n,mt:=mt,I:=nW I,J:=J }:Env)=E
 have e1:E.T=assoc T:=by rw [<-hE]
 obtain rfl:n=E.np:=by rw [<-hE]
 have hS2:pV P E:=⟨by rw [<-hE];exact (jX.env (E:=dI T) rfl hS).get,fun g c h=>hO.env (E:=dI T) e1.symm (hI.get g c (by rw [<-hE] at h;exact h))⟩
 have hT':∀t i,E.T t=some i->gG P E t i:=ot e1 hT
 have hG':∀g c,c∈E.G g->Valid P E g c:=by rw [<-hE];exact (gH.env (E:=dI T) rfl hG).get
 exact hO.env (E:=E) e1 (wU hT' hG' hS2 (fun w0 M Z0 ans=>draws hT' hG' hS2 hm) hf b1 hc (by rw [<-hbody];exact iy b4))
theorem wo {J:List Nat}{g:FuncId}{fn:Func}{aW:ga}(hm:P.follows .mixedOrders=true)(hT:eN P T=true)(hG:gH P (dI T) G)(hS:jX P (dI T) S)(hI:oM P (dI T) 0 I)
  (hf:P.funcs[g]?=some fn) (hb:rz fn aW nt=true) (live:Nat->Live)
  (h:∀ls r,pT (dI T).cells aW.args ls->aW.sem ls=some r->∃n,eO { T:=assoc T,G:=dD G,nt:=nt,M:=fZ S,mt:=mt,I:=nW I,J:=J } live fn aW.res n (dc aW.args ls)=some r):Valid P (dI T) g aW:=by
 simp only [rz,Bool.and_eq_true,Bool.not_eq_true'] at hb
 obtain ⟨b1,b2,b3,b4,b5⟩:=hb
 obtain ⟨c,hc⟩:=Option.isSome_iff_exists.1 b2
 have hbody:bQ fn=c:=by simp [bQ,hc]
 generalize hE:({ T:=assoc T,G:=dD G,nt:=nt,M:=fZ S,mt:=mt,I:=nW I,J:=J }:Env)=E at h
 have e1:E.T=assoc T:=by rw [<-hE]
 have hS2:pV P E:=⟨by rw [<-hE];exact (jX.env (E:=dI T) rfl hS).get,fun g c h=>by rw [<-hE] at h ⊢;exact (oM.env (E:=dI T) rfl hI).get g c h⟩
 have hT':∀t i,E.T t=some i->gG P E t i:=ot e1 hT
 have hG':∀g c,c∈E.G g->Valid P E g c:=by rw [<-hE];exact (gH.env (E:=dI T) rfl hG).get
 have hcell:(dI T).cells=E.cells:=by funext t;simp [Env.cells,e1]
 rw [hcell] at h
 exact uf (E:=E) hT' hG' hS2 (fun w0 M Z0 ans=>draws hT' hG' hS2 hm) e1 (by rw [<-hE]) hf b1 hc b3 (by rw [<-hbody];exact iy b4) (by rw [<-hE];exact Nat.eq_of_beq_eq_true b5) live h
end
def AW (fn:Func)(aW:gK)(nt:Nat):Bool:=
 !(fn.name == "runtime.NumGoroutine") && (fn.body.isSome && (fD (cW (bQ fn)) && Nat.beq (aW.args.length + (fn.ntmps - aW.args.length)) nt))
theorem Ao {P:Program}{T:List (Nat×TI)}{G:List (Nat×ga)}{S:List (Nat×gK)}{nt:Nat}{g:FuncId}{fn:Func}{aW:gK}(hm:P.follows .mixedOrders=true)(hT:eN P T=true)(hG:gH P (dI T) G)(hS:jX P (dI T) S)
  (hf:P.funcs[g]?=some fn) (hb:AW fn aW nt=true) (live:Nat->Live)
  (h:∀ls r,zC (dI T).cells aW.args ls->aW.sem ls=some r->∃n,eO { T:=assoc T,G:=dD G,nt:=nt,M:=fZ S,np:=(kM aW.args).length,mt:=true } live fn (.nX (kM aW.args)) n (gC aW.args ls)=some r):eY P (dI T) g aW:=by
 simp only [AW,Bool.and_eq_true,Bool.not_eq_true'] at hb
 obtain ⟨b1,b2,b4,b5⟩:=hb
 obtain ⟨c,hc⟩:=Option.isSome_iff_exists.1 b2
 have hbody:bQ fn=c:=by simp [bQ,hc]
 generalize hE:({ T:=assoc T,G:=dD G,nt:=nt,M:=fZ S,np:=(kM aW.args).length,mt:=true }:Env)=E at h
 have e1:E.T=assoc T:=by rw [<-hE]
 have e2:E.G=dD G:=by rw [<-hE]
 have e3:E.M=fZ S:=by rw [<-hE]
 have hT':∀t i,E.T t=some i->gG P E t i:=ot e1 hT
 have hG':∀g c,c∈E.G g->Valid P E g c:=by rw [e2];exact (gH.env (E:=dI T) (E':=E) e1.symm hG).get
 have hS':∀g c,c∈E.M g->eY P E g c:=by rw [e3];exact (jX.env (E:=dI T) (E':=E) e1.symm hS).get
 have hcell:(dI T).cells=E.cells:=by funext t;simp [Env.cells,e1]
 rw [hcell] at h
 have hS2:pV P E:=⟨hS',fun g c h=>by rw [<-hE] at h;exact (nomatch h)⟩
 exact xw (E:=E) hT' hG' hS2 (fun w0 M Z0 ans=>draws hT' hG' hS2 hm) e1 (by rw [<-hE]) hf b1 hc (by rw [<-hbody];exact iy b4) (by rw [<-hE];exact Nat.eq_of_beq_eq_true b5) live h
theorem valid {P:Program}{T:List (Nat×TI)}{G:List (Nat×ga)}{nt:Nat}{g:FuncId}{fn:Func}{aW:ga}(hm:P.follows .mixedOrders=true)(hT:eN P T=true)(hG:gH P (dI T) G)
  (hf:P.funcs[g]?=some fn) (hb:rz fn aW nt=true) (live:Nat->Live)
  (h:∀ls r,pT (dI T).cells aW.args ls->aW.sem ls=some r->∃n,eO { T:=assoc T,G:=dD G,nt:=nt } live fn aW.res n (dc aW.args ls)=some r):Valid P (dI T) g aW:=
 tB (S:=[]) hm hT hG .nil hf hb live h
end Go.DM
set_option linter.unusedSectionVars false
namespace Go.DM
inductive Wf (T:Nat->List K):K->L->Prop where
 | int (k:IntKind) (n:Int) (h:(Lit.int k n).wf=true):Wf T (.int k) (.int n)
 | bool (b:Bool):Wf T .bool (.bool b)
 | str (s:aD) (h:s.size<=maxLen):Wf T .str (.str s)
 | sl (e:Nat) (xs:aE) (h:xs.length<=maxLen) (hl:∀r∈xs,r.length=(T e).length) (hr:∀(r:List L) (j:Nat) (kk:K) (l:L),r∈xs->(T e)[j]?=some kk->r[j]?=some l->Wf T kk l):Wf T (.sl e) (.sl xs)
theorem jS {α:Type}{P:Nat->α->Prop}:∀(n:Nat),(∀j,j<n->∃x,P j x)->∃xs:List α,xs.length=n/\∀j,j<n->∃x,xs[j]?=some x/\P j x
 | 0,_=>⟨[],rfl,fun j h=>by omega⟩
 | n+1,h=>by
  obtain ⟨xs,h1,h2⟩:=jS n fun j hj=>h j (by omega)
  obtain ⟨x,hx⟩:=h n (by omega)
  refine ⟨xs++[x],by simp [h1],fun j hj=>?_⟩
  by_cases hjn:j<n
  ·obtain ⟨y,h3,h4⟩:=h2 j hjn
   exact ⟨y,by rw [List.getElem?_append_left (by omega)];exact h3,h4⟩
  ·have :j=n:=by omega
   subst this
   exact ⟨x,by rw [<-h1];simp,hx⟩
theorem mB {P:Program}{T:Nat->Option TI}:∀{fs:List Field} {ps:List (Nat×Nat)} {o:Nat} {ks:List K},kR P T fs ps o ks=true->
  ∀l,l<ks.length->∃(j:Nat) (p:Nat×Nat) (ti:TI),ps[j]?=some p/\T p.2=some ti/\o<=p.1/\p.1 - o<=l/\l<p.1 - o+ti.cells.length
 | [],[],o,[],_,l,h=>by simp at h
 | [],[],o,_::_,h,_,_=>by cases h
 | [],_::_,o,ks,h,_,_=>by cases h
 | _::_,[],o,ks,h,_,_=>by cases h
 | f::fs,p::ps,o,ks,h,l,hl=>by
  simp only [kR,Bool.and_eq_true] at h
  obtain ⟨h1,h2,h3,h4⟩:=h
  split at h4
  ·rename_i fi hfi
   split at h4
   ·rename_i ti hti
    simp only [Bool.and_eq_true] at h4
    obtain ⟨h5,h6,h7⟩:=h4
    have e3:=Nat.eq_of_beq_eq_true h3
    by_cases hlt:l<ti.cells.length
    ·exact ⟨0,p,ti,rfl,hti,by omega,by omega,by omega⟩
    ·obtain ⟨j,q,tq,g1,g2,g3,g4,g5⟩:=mB h7 (l - ti.cells.length) (by rw [List.length_drop];omega)
     exact ⟨j+1,q,tq,by simpa using g1,g2,by omega,by omega,by omega⟩
   ·cases h4
  ·cases h4
section
variable {H:Type} {enc:TypeId×Value->H} {P:Program} {w:World} {spare:Nat->Bool} {held:Bool} {E:Env}
theorem zF (hB:∀t i,E.T t=some i->zx P E.T t i=true):∀(n:Nat) {t:Nat} {i:TI} {cs:List Value} {x:DataW H×List MemPlace},E.T t=some i->DataW.trod enc P w 0 spare held n t cs=some x->
  cs.length=i.cells.length/\∀(j:Nat) (kk:K),i.cells[j]?=some kk->∃(l:L) (v:Value),cs[j]?=some v/\Rd E.cells w (fun b=>b<w.heap.size) kk v l/\Wf E.cells kk l:=by
 intro n
 induction n with
 | zero=>intro t i cs x _ h;simp [DataW.trod] at h
 | succ n ih=>
  intro t i cs x ht h
  have hb:=hB t i ht
  obtain ⟨ii,d,z,k1,k2,k3,k4,k5,k6,kby,k7,k8,k9,k10,kpl,k11,k12,k13,k14,k15⟩:=qk (E:=E) hb
  cases ha:i.agg with
  | false=>
   obtain ⟨hl1,_⟩:=k9 ha
   match hc:i.cells,hl1 with
   | [.int k],_=>
    obtain ⟨m,rfl,_,hw⟩:=DataW.trod_int (k12 ha k hc ▸ k2) h
    exact ⟨rfl,fun j kk hj=>by
     cases j with
     | zero=>simp at hj;subst hj;exact ⟨.int m,_,rfl,Rd.int k (.int m),Wf.int k m hw⟩
     | succ j=>simp at hj⟩
   | [.bool],_=>
    obtain ⟨b,rfl,_⟩:=DataW.trod_bool (k13 ha hc ▸ k2) h
    exact ⟨rfl,fun j kk hj=>by
     cases j with
     | zero=>simp at hj;subst hj;exact ⟨.bool b,_,rfl,Rd.bool (.bool b),Wf.bool b⟩
     | succ j=>simp at hj⟩
   | [.str],_=>
    obtain ⟨s,rfl,_,hs⟩:=DataW.trod_string (k14 ha hc ▸ k2) h
    exact ⟨rfl,fun j kk hj=>by
     cases j with
     | zero=>simp at hj;subst hj;exact ⟨.str s,_,rfl,Rd.str (.str s),Wf.str s hs⟩
     | succ j=>simp at hj⟩
   | [.sl e],_=>
    have hel:i.el=some e:=by simp [TI.el,ha,hc]
    obtain ⟨rfl,ie,hie⟩:=k11 e hel
    have hce:P.cellsOf e=ie.cells.length/\0<ie.cells.length:=by
     obtain ⟨ii',d',z',q1,q2,q3,q4,q5,q6,_⟩:=qk (E:=E) (hB e ie hie)
     exact ⟨by simp [Program.cellsOf,q1,q4],q6⟩
    have hEe:E.cells e=ie.cells:=gX hie
    have fin:∀(l:L) (v:Value),cs=[v]->Rd E.cells w (fun b=>b<w.heap.size) (.sl e) v l->Wf E.cells (.sl e) l->
      cs.length=[K.sl e].length/\∀(j:Nat) (kk:K),[K.sl e][j]?=some kk->∃(l:L) (v:Value),cs[j]?=some v/\Rd E.cells w (fun b=>b<w.heap.size) kk v l/\Wf E.cells kk l:=by
     intro l v hv h1 h2
     subst hv
     exact ⟨rfl,fun j kk hj=>by
      cases j with
      | zero=>simp at hj;subst hj;exact ⟨l,_,rfl,h1,h2⟩
      | succ j=>simp at hj⟩
    rcases DataW.trod_slice k2 h with ⟨hv,_⟩ | ⟨a,len,cap,elems,rest,m,hm,hv,_,hb0,hlc,hcm,hlen,hel',_,_⟩
    ·exact fin (.sl []) _ hv (.nil _ _ _ _ rfl) (.sl e [] (by simp) (fun r hr=>by cases hr) (fun r j kk l hr=>by cases hr))
    ·have hm':m=n:=by omega
     subst hm'
     have each:∀i',i'<len->∃rc:List L×List Value,rc.1.length=ie.cells.length/\(∀j,j<ie.cells.length->w.cell? (a.add (i'*ie.cells.length) |>.add j)=rc.2[j]?)/\
       ∀(j:Nat) (kk:K),ie.cells[j]?=some kk->∃(l:L) (v:Value),rc.1[j]?=some l/\rc.2[j]?=some v/\Rd E.cells w (fun b=>b<w.heap.size) kk v l/\Wf E.cells kk l:=by
      intro i' hi'
      have h1:=hel' i' hi'
      rw [List.getElem?_eq_getElem (by omega)] at h1
      obtain ⟨cs',h2,h3⟩:=Option.bind_eq_some_iff.1 h1
      obtain ⟨_,h4,h5⟩:=World.cells?_some h2
      obtain ⟨h6,h7⟩:=ih hie h3
      obtain ⟨row,r1,r2⟩:=jS (P:=fun j l=>∃v,cs'[j]?=some v/\∀kk,ie.cells[j]?=some kk->Rd E.cells w (fun b=>b<w.heap.size) kk v l/\Wf E.cells kk l) ie.cells.length (fun j hj=>by
       have hk:=List.getElem?_eq_getElem hj
       obtain ⟨l,v,e1,e2,e3⟩:=h7 j _ hk
       exact ⟨l,v,e1,fun kk hkk=>by rw [hk] at hkk;injection hkk with hkk;subst hkk;exact ⟨e2,e3⟩⟩)
      refine ⟨(row,cs'),r1,fun j hj=>?_,fun j kk hj=>?_⟩
      ·rw [hce.1] at h5;exact h5 j (by omega)
      ·obtain ⟨l,e1,v,e2,e3⟩:=r2 j (List.getElem?_eq_some_iff.1 hj).1
       exact ⟨l,v,e1,e2,e3 kk hj⟩
     obtain ⟨rows,g1,g2⟩:=jS len each
     have hwf:Wf E.cells (.sl e) (.sl (rows.map (·.1))):=by
      refine .sl e _ (by simp [g1];omega) (fun r hr=>?_) (fun r j kk l hr hj hl=>?_)
      ·obtain ⟨rc,hrc,rfl⟩:=List.mem_map.1 hr
       obtain ⟨i',hi'⟩:=List.getElem?_of_mem hrc
       obtain ⟨rc',h1,h2,_⟩:=g2 i' (by rw [<-g1];exact (List.getElem?_eq_some_iff.1 hi').1)
       rw [hi'] at h1;injection h1 with h1;subst h1
       rw [h2,hEe]
      ·obtain ⟨rc,hrc,rfl⟩:=List.mem_map.1 hr
       obtain ⟨i',hi'⟩:=List.getElem?_of_mem hrc
       obtain ⟨rc',h1,h2,_,h3⟩:=g2 i' (by rw [<-g1];exact (List.getElem?_eq_some_iff.1 hi').1)
       rw [hi'] at h1;injection h1 with h1;subst h1
       rw [hEe] at hj
       obtain ⟨l',v,e1,_,_,e3⟩:=h3 j kk hj
       rw [hl] at e1;injection e1 with e1;subst e1
       exact e3
     refine fin (.sl (rows.map (·.1))) _ hv ?_ hwf
     rcases Nat.eq_zero_or_pos len with h0 | hpos
     ·subst h0
      exact .nil _ _ _ _ (by simp only [L.aQ];rw [List.eq_nil_of_length_eq_zero g1];rfl)
     ·-- the place
      obtain ⟨rc0,h1,h2,h3,h4⟩:=g2 0 hpos
      have hk0:=List.getElem?_eq_getElem hce.2
      obtain ⟨l0,v0,e1,e2,e3,_⟩:=h4 0 _ hk0
      have hc0:=h3 0 hce.2
      rw [e2] at hc0
      obtain ⟨b,o,spot⟩:=a
      have hspot:spot=none:=by simpa [Addr.add] using World.cell?_spot hc0
      subst hspot
      have hblt:b<w.heap.size:=by simpa [Addr.add] using block_lt_of_cell hc0
      refine .sl e len cap b o _ (fun i' j=>(((rows.getD i' ([],[])).2).getD j Go.undef)) (by simp [L.aQ,g1]) hlc (Nat.le_trans hlc hcm) hblt (fun i' j kk hi' hj=>?_) (fun i' j kk hi' hj=>?_)
      ·rw [hEe] at hj ⊢
       obtain ⟨rc,q1,q2,q3,q4⟩:=g2 i' hi'
       obtain ⟨l,v,p1,p2,p3,p4⟩:=q4 j kk hj
       have:=q3 j (List.getElem?_eq_some_iff.1 hj).1
       rw [p2,Addr.add_lit,Addr.add_lit,Nat.add_assoc] at this
       rw [this]
       simp [List.getD_eq_getElem?_getD,q1,p2]
      ·rw [hEe] at hj
       obtain ⟨rc,q1,q2,q3,q4⟩:=g2 i' hi'
       obtain ⟨l,v,p1,p2,p3,p4⟩:=q4 j kk hj
       have e1:((rows.getD i' ([],[])).2).getD j Go.undef=v:=by simp [List.getD_eq_getElem?_getD,q1,p2]
       have e2:((L.sl (rows.map (·.1))).aQ.getD i' []).getD j .hole=l:=by simp [L.aQ,List.getD_eq_getElem?_getD,q1,p1]
       show Rd E.cells w _ kk (((rows.getD i' ([],[])).2).getD j Go.undef) _
       rw [e1,e2];exact p3
  | true=>
   obtain ⟨fs,rfl,_⟩:=k10 ha
   have hcells:P.cellsOf t=i.cells.length:=by simp [Program.cellsOf,k1,k4]
   have hfb:kR P E.T fs.toList i.fields 0 i.cells=true:=by
    have hb':=hb
    unfold zx at hb'
    simp only [k1,k2,k3,ha,bh,Bool.and_eq_true] at hb'
    exact hb'.2.2.2.2.2.1
   obtain ⟨xs,m,hm,_,hl,hxs,hf⟩:=DataW.trod_struct k2 h
   have hm':m=n:=by omega
   subst hm'
   refine ⟨by rw [hl,hcells],fun j kk hj=>?_⟩
   obtain ⟨f,p,ti,c1,c2,c3,c4,c5⟩:=mB hfb j (List.getElem?_eq_some_iff.1 hj).1
   obtain ⟨places,_,hfl,hsp⟩:=jr (E:=E) hfb
   obtain ⟨fl,ti',q1,q2,q3,q4,q5,q6,q7,q8,q9⟩:=hsp f p c1
   rw [c2] at q4;injection q4 with q4;subst q4
   have hfs:fs[f]?=some fl:=by simpa using q1
   have htrod:=hf f fl hfs
   have hxl:f<xs.length:=by
    rw [hxs];exact (Array.getElem?_eq_some_iff.1 hfs).1
   rw [List.getElem?_eq_getElem hxl,q3,q2] at htrod
   obtain ⟨_,h2⟩:=ih c2 htrod
   have hkk:ti.cells[j - p.1]?=some kk:=by
    have hlt:j - p.1<ti.cells.length:=by omega
    have hg:=List.getElem?_eq_getElem hlt
    have:=q8 _ _ hg
    rw [show p.1 - 0+(j - p.1)=j by omega,hj] at this
    rw [hg];exact this.symm
   obtain ⟨l,v,e1,e2,e3⟩:=h2 (j - p.1) kk hkk
   refine ⟨l,v,?_,e2,e3⟩
   rw [List.getElem?_take] at e1
   split at e1
   ·rw [List.getElem?_drop] at e1
    rw [<-e1];congr 1;omega
   ·cases e1
end
end Go.DM
set_option linter.unusedSectionVars false
namespace Go.DM
open Go.ChangeShapes Go.WideShapes Go.RowKit
def nE (T:Nat->Option TI)(t:Nat):gj:=match T t with
 | some i=>bif i.agg then .agg i.cells else .rd (i.cells.headD .bool)
 | none=>.rd .bool
def vB (T:Nat->Option TI)(ts:List Nat)(sem:List L->Option (List L)):ga:=⟨ts.map (nE T),.one (.rd .bool),sem⟩
def eC (T:Nat->List K)(ks:List K)(ls:List L):Prop:=ls.length=ks.length/\∀(j:Nat) (k:K),ks[j]?=some k->∃l,ls[j]?=some l/\Wf T k l
theorem eC.append {T:Nat->List K}{a b:List K}{x y:List L}(h:eC T a x)(k:eC T b y):eC T (a++b) (x++y):=by
 refine ⟨by simp [h.1,k.1],fun j kk hj=>?_⟩
 by_cases hl:j<a.length
 ·rw [List.getElem?_append_left hl] at hj
  obtain ⟨l,e1,e2⟩:=h.2 j kk hj
  exact ⟨l,by rw [List.getElem?_append_left (by rw [h.1];exact hl)];exact e1,e2⟩
 ·rw [List.getElem?_append_right (by omega)] at hj
  obtain ⟨l,e1,e2⟩:=k.2 _ kk hj
  exact ⟨l,by rw [List.getElem?_append_right (by rw [h.1];omega),h.1];exact e1,e2⟩
section
variable {H:Type} {enc:TypeId×Value->H} {P:Program} {W:World} {E:Env} {r:Reach} {b0:Nat}
theorem yO (hB:∀t i,E.T t=some i->zx P E.T t i=true){t:Nat}{i:TI}(ht:E.T t=some i){v:Value}{d:DataW H}{ps:List MemPlace}(h:DataW.Trod enc P W 0 (fun _=>true) true t v d ps)(hv:Value.okWide P W r b0 t v) :
  ∃ls,eC E.cells i.cells ls/\∀rest,V2 E.cells W (A0 (fun _=>True) W) (zh (nE E.T t) (ls++rest)) v:=by
 obtain ⟨fuel,hf⟩:=h
 obtain ⟨h1,h2⟩:=zF hB fuel ht hf
 obtain ⟨ls,g1,g2⟩:=jS (P:=fun j l=>∃x,v.cells.toList[j]?=some x/\∀kk,i.cells[j]?=some kk->Rd E.cells W (fun b=>b<W.heap.size) kk x l/\Wf E.cells kk l) i.cells.length (fun j hj=>by
  have hk:=List.getElem?_eq_getElem hj
  obtain ⟨l,x,e1,e2,e3⟩:=h2 j _ hk
  exact ⟨l,x,e1,fun kk hkk=>by rw [hk] at hkk;injection hkk with hkk;subst hkk;exact ⟨e2,e3⟩⟩)
 have hz:∀b,b<W.heap.size->gb W (A0 (fun _=>True) W) b:=fun b hb=>⟨.inl trivial,hb,fun _ h=>h⟩
 have hrd:∀(j:Nat) (kk:K),i.cells[j]?=some kk->∃(l:L) (x:Value),ls[j]?=some l/\v.cells.toList[j]?=some x/\Rd E.cells W (gb W (A0 (fun _=>True) W)) kk x l/\Wf E.cells kk l:=by
  intro j kk hj
  obtain ⟨l,e1,x,e2,e3⟩:=g2 j (List.getElem?_eq_some_iff.1 hj).1
  exact ⟨l,x,e1,e2,(e3 kk hj).1.mono hz,(e3 kk hj).2⟩
 refine ⟨ls,⟨g1,fun j k hj=>?_⟩,fun rest=>?_⟩
 ·obtain ⟨l,x,e1,_,_,e4⟩:=hrd j k hj
  exact ⟨l,e1,e4⟩
 ·obtain ⟨ii,dd,z,k1,k2,k3,k4,k5,k6,kby,k7,k8,k9,k10,kpl,k11,k12,k13,k14,k15⟩:=qk (E:=E) (hB t i ht)
  have hF:=qh (T:=E.cells) (w:=W) (A:=A0 (fun _=>True) W) (d:=none) (fun r hr=>(nomatch hr)) i.cells ls (fun j=>v.cells.toList.getD j Go.undef) (fun j kk hj=>by
   obtain ⟨l,x,e1,e2,e3,_⟩:=hrd j kk hj
   rw [List.getD_eq_getElem?_getD,e2,List.getD_eq_getElem?_getD,e1];exact e3)
  rw [qt h1] at hF
  have hp:nE E.T t=bif i.agg then .agg i.cells else .rd (i.cells.headD .bool):=by simp [nE,ht]
  rw [hp]
  cases ha:i.agg with
  | true=>
   show V2 E.cells W _ (.agg (nA none i.cells (ls++rest))) v
   obtain ⟨fs,rfl,_⟩:=k10 ha
   obtain ⟨cs,rfl,_⟩:=okWide_struct k2 hv
   rw [lH _ _ _ _ g1]
   exact V1.v2 (v:=.agg _) ⟨cs.toList,by simp,hF⟩
  | false=>
   show V2 E.cells W _ (ze none (i.cells.headD .bool) ((ls++rest).headD .hole)) v
   obtain ⟨hl1,_⟩:=k9 ha
   have hone:∃x,v=x/\v.cells=#[x]:=by
    match hc:i.cells,hl1 with
    | [.int k],_=>obtain ⟨n,rfl⟩:=okWide_int (k12 ha k hc ▸ k2) hv;exact ⟨_,rfl,rfl⟩
    | [.bool],_=>obtain ⟨n,rfl⟩:=okWide_bool (k13 ha hc ▸ k2) hv;exact ⟨_,rfl,rfl⟩
    | [.str],_=>obtain ⟨n,rfl⟩:=okWide_string (k14 ha hc ▸ k2) hv;exact ⟨_,rfl,rfl⟩
    | [.sl e],_=>
     have hel:i.el=some e:=by simp [TI.el,ha,hc]
     obtain ⟨rfl,_⟩:=k11 e hel
     obtain ⟨a,n,c,rfl⟩:=okWide_slice k2 hv;exact ⟨_,rfl,rfl⟩
   obtain ⟨x,rfl,hcx⟩:=hone
   match hc:i.cells,hl1 with
   | [k],_=>
    obtain ⟨l,y,e1,e2,e3,_⟩:=hrd 0 k (by rw [hc];rfl)
    rw [hcx] at e2
    simp at e2
    subst e2
    have :(ls++rest).headD .hole=l:=by
     rw [gF,List.getD_eq_getElem?_getD,List.getElem?_append_left (by rw [g1,hc];simp),e1];rfl
    rw [this]
    exact (tv (fun r hr=>by cases hr) e3).v2
theorem zj (hB:∀t i,E.T t=some i->zx P E.T t i=true){t:Nat}{i:TI}(ht:E.T t=some i):(nE E.T t).n=i.cells.length:=by
 have hp:nE E.T t=bif i.agg then .agg i.cells else .rd (i.cells.headD .bool):=by simp [nE,ht]
 rw [hp]
 cases ha:i.agg with
 | true=>rfl
 | false=>
  obtain ⟨ii,dd,z,k1,k2,k3,k4,k5,k6,kby,k7,k8,k9,_⟩:=qk (E:=E) (hB t i ht)
  rw [(k9 ha).1];rfl
theorem rW (hB:∀t i,E.T t=some i->zx P E.T t i=true):∀{ts:List Nat} {vs:List Value} {ds:List (DataW H)} {ps:List MemPlace},(∀t∈ts,(E.T t).isSome=true)->DataW.TrodAll enc P W 0 (fun _=>true) true ts vs ds ps->
  (∀(j:Nat) (t:TypeId) (v:Value),ts[j]?=some t->vs[j]?=some v->Value.okWide P W r b0 t v)->∃ls,eC E.cells (ts.flatMap E.cells) ls/\F2 (V2 E.cells W (A0 (fun _=>True) W)) (jV (ts.map (nE E.T)) ls) vs
 | [],[],ds,ps,_,_,_=>⟨[],⟨rfl,fun j k hj=>by simp at hj⟩,.nil⟩
 | [],_::_,[],ps,_,h,_=>h.elim
 | [],_::_,_::_,ps,_,h,_=>h.elim
 | _::_,[],[],ps,_,h,_=>h.elim
 | _::_,[],_::_,ps,_,h,_=>h.elim
 | _::_,_::_,[],ps,_,h,_=>h.elim
 | t::ts,v::vs,d::ds,ps,hs,⟨p,q,h1,h2,_⟩,hv=>by
  obtain ⟨i,hi⟩:=Option.isSome_iff_exists.1 (hs t (by simp))
  obtain ⟨a,g1,g2⟩:=yO hB hi h1 (hv 0 t v rfl rfl)
  obtain ⟨b,g3,g4⟩:=rW hB (fun t ht=>hs t (by simp [ht])) h2 (fun j t v h h'=>hv (j+1) t v (by simpa using h) (by simpa using h'))
  have hc:E.cells t=i.cells:=gX hi
  refine ⟨a++b,by rw [List.flatMap_cons,hc];exact g1.append g3,?_⟩
  refine .cons (g2 b) ?_
  rw [zj hB hi,<-g1.1,jE,List.drop_left]
  exact g4
theorem mA (hl:laidOutB P=true){W':World}(hb:Below W.heap.size W W'):∀{ts:List Nat} {vs:List Value} {ds:List (DataW H)} {ps:List MemPlace},(ts.all fun t=>P.readableRec t&&decide (t<P.types.size))=true->
  DataW.TrodAll enc P W 0 (fun _=>true) true ts vs ds ps->DataW.TrodAll enc P W' 0 (fun b=>decide (b<W.heap.size)) true ts vs ds ps
 | [],[],[],ps,_,h=>h
 | [],_::_,[],ps,_,h=>h.elim
 | [],[],_::_,ps,_,h=>h.elim
 | [],_::_,_::_,ps,_,h=>h.elim
 | _::_,[],[],ps,_,h=>h.elim
 | _::_,[],_::_,ps,_,h=>h.elim
 | _::_,_::_,[],ps,_,h=>h.elim
 | t::ts,v::vs,d::ds,ps,hs,⟨p,q,h1,h2,h3⟩=>by
  simp only [List.all_cons,Bool.and_eq_true,decide_eq_true_eq] at hs
  refine ⟨p,q,Below.trod hl hs.1.1 hs.1.2 h1 hb ?_,mA hl hb (by simpa using hs.2) h2,h3⟩
  obtain ⟨fuel,hf⟩:=h1
  exact DataW.trod_lt fuel _ _ _ hf
theorem xp {g:FuncId}{ts:List Nat}{sem:List L->Option (List L)}(hV:Valid P E g (vB E.T ts sem)){ls:List L}{vs:List Value}(hs:sem ls=some [.bool true])
  (hf:F2 (V2 E.cells W (A0 (fun _=>True) W)) (jV (ts.map (nE E.T)) ls) vs):Calls P g vs.toArray W fun e W'=>e=.returned (.bool true)/\Below W.heap.size W W':=by
 refine (hV.2.2 ls _ W vs (fun _=>True) hs hf).mono fun e W' ⟨rv,A',h1,h2,_,_,_,h3⟩=>?_
 have :rv=.bool true:=h3
 subst this
 exact ⟨h1,⟨h2.os,h2.tape,h2.output,h2.size,fun k hk=>h2.block k hk (fun h=>h)⟩⟩
end
end Go.DM
namespace Go.DM
def iter {Pt:Type}(step:(Pt->aI)->Pt->aI):Nat->Pt->aI
 | 0=>fun _=>none
 | n+1=>step (iter step n)
theorem qT {E:Env}{live:Nat->Live}{f:Func}{res:RP}{Pt:Type}{id:Pt->Nat}{vs:Pt->List V}{hs:Pt->List aY}{step:(Pt->aI)->Pt->aI}
  (h:∀(I:cI) (p:Pt),cY E live I (id p) (bQ f) (fH (live (id p)) (vs p) (hs p)) (cH E f res)=step (fun q=>I (id q) (vs q) (hs q)) p) :
  ∀(n:Nat) (p:Pt),qv E live f res n (id p) (vs p) (hs p)=iter step n p
 | 0,_=>rfl
 | n+1,p=>by
  show cY E live (qv E live f res n) (id p) (bQ f) (fH (live (id p)) (vs p) (hs p)) (cH E f res)=step (iter step n) p
  rw [h]
  congr 1
  funext q
  exact qT h n q
theorem cA {E:Env}{live:Nat->Live}{f:Func}{res:RP}{Pt:Type}{id:Pt->Nat}{vs:Pt->List V}{hs:Pt->List aY}{step:(Pt->aI)->Pt->aI}{s:St}{start:(Pt->aI)->aI}
  (h:∀(I:cI) (p:Pt),cY E live I (id p) (bQ f) (fH (live (id p)) (vs p) (hs p)) (cH E f res)=step (fun q=>I (id q) (vs q) (hs q)) p)
  (h0:∀I:cI,eW E live I (bQ f) s (cH E f res)=start (fun q=>I (id q) (vs q) (hs q))) (n:Nat):eO E live f res n s=start (iter step n):=by
 unfold eO
 rw [h0]
 congr 1
 funext q
 exact qT h n q
end Go.DM
namespace Go.DM
theorem xm {P:Program}{l:List (Nat×TI)}(h:eN P l=true):∀t i,(dI l).T t=some i->zx P (dI l).T t i=true:=by
 intro t i ht
 simp only [eN,List.all_eq_true] at h
 exact h (t,i) (oF ht)
theorem pg {H:Type}{enc:TypeId×Value->H}{P:Program}{w:World}{base:Nat}{sp:Nat->Bool}{held:Bool}:∀{ts:List TypeId} {vs:List Value} {ds:List (DataW H)} {ps:List MemPlace},DataW.TrodAll enc P w base sp held ts vs ds ps->ds.length=ts.length
 | [],[],[],_,_=>rfl
 | [],[],_::_,_,h=>h.elim
 | [],_::_,[],_,h=>h.elim
 | [],_::_,_::_,_,h=>h.elim
 | _::_,[],[],_,h=>h.elim
 | _::_,[],_::_,_,h=>h.elim
 | _::_,_::_,[],_,h=>h.elim
 | _::_,_::_,_::_,_,⟨_,_,_,h,_⟩=>by simp [pg h]
theorem uk {P:Program}{E:Env}{g:FuncId}{aW:ga}(he:nZ P g)(hok:aW.res.ok=true)(hR:∀r,aW.res.R r=[])
  (h:∀(ls r:List L) (w:World) (vs:List Value) (Z:Nat->Prop),aW.sem ls=some r->F2 (V2 E.cells w (A0 Z w)) (jV aW.args ls) vs->
   Calls P g vs.toArray w fun e w'=>∃rv,e=.returned rv/\w'=w/\V2 E.cells w (A0 Z w) (aW.res.V r 0) rv):Valid P E g aW:=by
 refine ⟨he,hok,fun ls r w vs Z hs hf=>(h ls r w vs Z hs hf).mono fun e w' ⟨rv,h1,h2,h3⟩=>?_⟩
 subst h2
 refine ⟨rv,A0 Z w',h1,Fr.refl _ _,rfl,fun i=>?_,?_,h3⟩
 ·rw [hR];simp [A0]
 ·rw [hR]
  exact ⟨fun _ _ h=>h.elim,fun _ _ _ h=>h.elim,fun _ _=>rfl,fun _ _ h=>h.elim,Fr.refl _ _,fun _ _ h=>h.elim,fun _ h=>.inr (h.resolve_left id),fun j hj=>absurd hj (Nat.not_lt_zero j)⟩
theorem aH {i n:Nat}(h:i<n)(hn:n<=maxLen):IntKind.i64.wrap ((i:Int)+1)=((i+1:Nat):Int):=by
 rw [Go.IntWalk.i64_in _ (by simp only [maxLen] at hn;omega)];omega
theorem up {xs:aE}{Q:Nat->Prop}(h0:∀i,xs.length<=i->i=xs.length->Q i)(h1:∀i (h:i<xs.length),Q (i+1)->Q i):∀i,i<=xs.length->Q i:=by
 have key:∀k i,i+k=xs.length->Q i:=by
  intro k
  induction k with
  | zero=>intro i hi;exact h0 i (by omega) (by omega)
  | succ k ih=>intro i hi;exact h1 i (by omega) (ih (i+1) (by omega))
 exact fun i hi=>key (xs.length - i) i (by omega)
theorem take_set {α:Type}{c:List α}{i:Nat}{v:α}(h:i<c.length):(c.set i v).take (i+1)=c.take i++[v]:=by
 rw [List.take_succ_eq_append_getElem (by simpa using h),List.take_set_of_le (by omega)]
 simp
theorem cE (n:Nat):Int.toNat (n:Int)=n:=Eq.trans (Int.toNat_natCast n) rfl
@[simp] theorem gh (s:aD):(s==s)=true:=by rw [beq_toListBytes];simp
end Go.DM
namespace Go.DM
class RT (β:Type) where
 enc:β->List L
 dec:List L->β
 n:Nat
 de:∀b rest,dec (enc b++rest)=b
 dr:∀b rest,aA n (enc b++rest)=rest
instance :RT Int:=⟨fun n=>[.int n],fun r=>(r.headD .hole).toInt,1,fun _ _=>rfl,fun _ _=>rfl⟩
instance :RT Bool:=⟨fun n=>[.bool n],fun r=>(r.headD .hole).toBool,1,fun _ _=>rfl,fun _ _=>rfl⟩
instance :RT aD:=⟨fun n=>[.str n],fun r=>(r.headD .hole).toStr,1,fun _ _=>rfl,fun _ _=>rfl⟩
instance :RT (aE):=⟨fun n=>[.sl n],fun r=>(r.headD .hole).aQ,1,fun _ _=>rfl,fun _ _=>rfl⟩
theorem sB:∀(m n:Nat) (l:List L),aA (m+n) l=aA n (aA m l)
 | 0,n,l=>by rw [Nat.zero_add];rfl
 | m+1,n,l=>by rw [show m+1+n=(m+n)+1 by omega];exact sB m n l.tail
instance {α β:Type} [RT α] [RT β]:RT (α×β):=
 ⟨fun p=>RT.enc p.1++RT.enc p.2,fun r=>(RT.dec r,RT.dec (aA (RT.n α) r)),RT.n α+RT.n β,
  fun b rest=>by simp only [List.append_assoc,RT.de,RT.dr],
  fun b rest=>by simp only [List.append_assoc,sB,RT.dr]⟩
def ret {β:Type}[RT β](b:β):aI:=some (RT.enc b)
def call {β:Type}[RT β](o:Option β)(k:β->aI):aI:=(o.map RT.enc).bind fun r=>k (RT.dec r)
theorem xg {β:Type}[RT β](b:β)(k:β->aI):call (some b) k=k b:=by
 have:=RT.de b []
 rw [List.append_nil] at this
 simp [call,this]
theorem call_eq {β:Type}[RT β]{o:Option β}{b:β}(h:o=some b)(k:β->aI):call o k=k b:=by rw [h,xg]
def gx (r:List L):Int:=(r.headD .hole).toInt
def Cb (r:List L):Bool:=(r.headD .hole).toBool
def sDec (r:List L):aD:=(r.headD .hole).toStr
def mw (r:List L):aE:=(r.headD .hole).aQ
def jx (xs:aE)(i:Nat):Int:=gx (List.getD xs i [])
def BB (xs:aE)(i:Nat):Bool:=Cb (List.getD xs i [])
def qi (xs:aE)(i:Nat):aD:=sDec (List.getD xs i [])
def oG (xs:aE)(i:Nat):aE:=mw (List.getD xs i [])
def eB (s:aD)(i:Nat):Int:=((List.getD s.data.toList i 0).toNat:Int)
def bk (n:Int):List L:=[.int n]
def xd (n:Bool):List L:=[.bool n]
def cG (n:aD):List L:=[.str n]
def dO {α:Type}(f:α->List L)(c:List α):List L:=[.sl (c.map f)]
theorem lq {a b:Int}(h:bk a=bk b):a=b:=by injection h with h;injection h
theorem yG {a b:Bool}(h:xd a=xd b):a=b:=by injection h with h;injection h
theorem qn {a b:aD}(h:cG a=cG b):a=b:=by injection h with h;injection h
theorem map_inj {α β:Type}{f:α->β}(hf:∀{a b:α},f a=f b->a=b):∀{a b:List α},a.map f=b.map f->a=b
 | [],[],_=>rfl
 | [],_::_,h=>by cases h
 | _::_,[],h=>by cases h
 | a::as,b::bs,h=>by
  simp only [List.map_cons,List.cons.injEq] at h
  rw [hf h.1,map_inj hf h.2]
theorem uE {α:Type}{f:α->List L}(hf:∀{a b:α},f a=f b->a=b){a b:List α}(h:dO f a=dO f b):a=b:=by
 injection h with h;injection h with h;exact map_inj hf h
theorem getD_map {α:Type}{f:α->List L}{xs:List α}{i:Nat}(h:i<xs.length):List.getD (xs.map f) i []=f xs[i]:=by
 simp [List.getD_eq_getElem?_getD,h]
theorem tj {xs:List Int}{i:Nat}(h:i<xs.length):jx (xs.map bk) i=xs[i]:=by unfold jx;rw [getD_map h];rfl
theorem pW {xs:List aD}{i:Nat}(h:i<xs.length):qi (xs.map cG) i=xs[i]:=by unfold qi;rw [getD_map h];rfl
theorem qe {α:Type}{f:α->List L}{xs:List (List α)}{i:Nat}(h:i<xs.length):oG (xs.map (dO f)) i=xs[i].map f:=by unfold oG;rw [getD_map h];rfl
def ofM {A A' B:Type}(r:A->A')(g:A->Prop)(m:A->B)(x:A'):Option B:=
 open Classical in if h:∃a,r a=x/\g a then some (m (Classical.choose h)) else none
theorem AH {A A' B:Type}{r:A->A'}{g:A->Prop}{m:A->B}{a:A}(hr:∀a b,r a=r b->a=b)(h:g a):ofM r g m (r a)=some (m a):=by
 have hx:∃b,r b=r a/\g b:=⟨a,rfl,h⟩
 unfold ofM
 rw [dif_pos hx,hr _ _ (Classical.choose_spec hx).1]
theorem kC {A A' B:Type}{r:A->A'}{g:A->Prop}{m:A->B}{x:A'}{v:B}(h:ofM r g m x=some v):∃a,g a/\r a=x/\m a=v:=by
 unfold ofM at h
 split at h
 ·rename_i hx
  injection h with h
  exact ⟨_,(Classical.choose_spec hx).2,(Classical.choose_spec hx).1,h⟩
 ·cases h
theorem map_some {α β:Type}{f:α->β}{o:Option α}{b:β}(h:o.map f=some b):∃a,o=some a/\f a=b:=by
 cases o with
 | none=>cases h
 | some a=>injection h with h;exact ⟨a,rfl,h⟩
def eg {α:Type}(a b:α):Bool:=open Classical in decide (a=b)
theorem dy {α:Type}{a b:α}:eg a b=true↔a=b:=by simp [eg]
theorem fN {α:Type}(a:α):eg a a=true:=dy.2 rfl
theorem lY {α:Type}{a b:α}:eg a b=false↔a≠b:=by simp [eg]
def bM {α:Type}(n:Nat)(p:α->Prop)(xs:List α):Prop:=xs.length<=n/\∀x∈xs,p x
theorem bM.get {α:Type}{n:Nat}{p:α->Prop}{xs:List α}(h:bM n p xs){i:Nat}(hi:i<xs.length):p xs[i]:=h.2 _ (List.getElem_mem hi)
theorem bM.mono {α:Type}{n m:Nat}{p q:α->Prop}{xs:List α}(h:bM n p xs)(hn:n<=m)(hpq:∀x,p x->q x):bM m q xs:=⟨Nat.le_trans h.1 hn,fun x hx=>hpq x (h.2 x hx)⟩
theorem bM.nil {α:Type}{n:Nat}{p:α->Prop}:bM n p ([]:List α):=⟨Nat.zero_le _,fun x hx=>(nomatch hx)⟩
def dU {α:Type}(f:α->Nat)(xs:List α):Nat:=xs.length+(xs.map f).sum
theorem tD {α:Type}{f:α->Nat}:∀{xs:List α} {x:α},x∈xs->f x<=(xs.map f).sum
 | y::ys,x,h=>by
  simp only [List.map_cons,List.sum_cons]
  rcases List.mem_cons.1 h with rfl | h
  ·omega
  ·have:=tD (f:=f) h;omega
theorem jh {α:Type}{f:α->Nat}{p:α->Prop}{n:Nat}{xs:List α}(h:dU f xs<=n)(hp:∀x,f x<=n->p x):bM n p xs:=by
 unfold dU at h
 exact ⟨by omega,fun x hx=>hp x (by have:=tD (f:=f) hx;omega)⟩
theorem xy {P:Program}{E:Env}{g:FuncId}{aW:ga}{el:Nat}(he:nZ P g)(hr:aW.res=.one (.fr el))
  (h:∀(ls r:List L) (w:World) (vs:List Value) (Z:Nat->Prop),aW.sem ls=some r->F2 (V2 E.cells w (A0 Z w)) (jV aW.args ls) vs->
   Calls P g vs.toArray w fun e w'=>∃(rv:Value) (S:Nat->Prop),e=.returned rv/\Fr w w' (fun _=>False)/\(∀b,S b->w.heap.size<=b/\b<w'.heap.size)/\fJ E.cells w' S (.sl el) rv (.sl (r.headD .hole).aQ)):Valid P E g aW:=by
 refine ⟨he,by rw [hr];rfl,fun ls r w vs Z hs hf=>(h ls r w vs Z hs hf).mono fun e w' ⟨rv,S,h1,h2,h3,h4⟩=>?_⟩
 have hR:aW.res.R r=[.row el (r.headD .hole).aQ]:=by rw [hr];rfl
 have hV:aW.res.V r 0=.own 0:=by rw [hr];rfl
 obtain ⟨a,n,c,hsl,_⟩:=h4.wT
 refine ⟨rv,{ v:=fun _=>rv,N:=fun i=>if i=0 then S else fun _=>False,al:=fun i=>i<1,Z:=(A0 Z w).Z },h1,h2,rfl,fun i=>by rw [hR];rfl,?_,?_⟩
 ·rw [hR]
  refine ⟨fun i b hb=>?_,fun i j b hb hb'=>?_,fun i hi=>?_,fun i=>?_,h2,fun i b hb=>?_,fun b hb=>.inr (hb.resolve_left id),fun j hj=>absurd hj (Nat.not_lt_zero j)⟩
  ·by_cases hi:i=0
   ·simp only [hi,if_true] at hb;exact (h3 b hb).2
   ·simp only [hi,if_false] at hb
  ·by_cases hi:i=0<;>by_cases hj:j=0
   ·rw [hi,hj]
   ·simp only [hj,if_false] at hb'
   ·simp only [hi,if_false] at hb
   ·simp only [hi,if_false] at hb
  ·have :i≠0:=fun e=>hi (by show i<1;omega)
   simp [fc,bU _ _ this]
  ·by_cases hi:i=0
   ·subst hi
    simp only [fc,bR]
    exact ⟨Nat.lt_one_iff.2 rfl,by simpa using h4⟩
   ·simp only [fc,bU _ _ hi]
    intro b hb
    simp only [hi,if_false] at hb
  ·by_cases hi:i=0
   ·simp only [hi,if_true] at hb;exact .inr (h3 b hb).1
   ·simp only [hi,if_false] at hb
 ·rw [hV]
  exact V0.v2 (v:=.own 0) ⟨Nat.lt_one_iff.2 rfl,rfl,a,n,c,hsl⟩
theorem aO {i n:Nat}(h:i<n):decide ((i:Int)<(n:Int))=true:=by simp [h]
theorem dZ {n:Nat}:decide ((n:Int)<(n:Int))=false:=by simp
theorem aJ {i:Nat}:decide ((0:Int)<=(i:Int))=true:=by simp
end Go.DM
namespace Go.DM
def iS (s:Nat)(left:Int):Int:=if left<(s:Int) then -1 else left - s
theorem cQ {s:Nat}{left:Int}(h:left<(s:Int)):iS s left=-1:=if_pos h
theorem dB {s:Nat}{left:Int}(h:¬left<(s:Int)):iS s left=left - s:=if_neg h
theorem dA {x:Int}(h:0<=x):decide (x<0)=false:=decide_eq_false (by omega)
theorem lT {s:Nat}{left:Int}(h0:0<=left)(h1:left<=1048576)(hs:s<=maxLen):IntKind.i64.wrap (left - (s:Int))=left - s:=
 Go.IntWalk.i64_in _ (by simp only [maxLen] at hs;omega)
theorem qm {α:Type}{f:α->Nat}(h:∀x,f x=0):∀xs:List α,(xs.map f).sum=0
 | []=>rfl
 | x::xs=>by simp [h x,qm h xs]
theorem zT {Pt α:Type}{step:(Pt->aI)->Pt->aI}{pt:Int->Nat->Pt}{xs:List α}{f:α->Nat}
  (h1:∀(J:Pt->aI) (i:Nat) (h:i<xs.length) (left:Int),0<=left->left<=1048576->step J (pt left i)=if left<(f xs[i]:Int) then ret (-1:Int) else J (pt (left - f xs[i]) (i+1)))
  (h0:∀(J:Pt->aI) (left:Int),step J (pt left xs.length)=ret left):∀(left:Int),0<=left->left<=1048576->∃m,iter step m (pt left 0)=ret (iS (xs.map f).sum left):=by
 have key:∀k i,i+k=xs.length->∀left:Int,0<=left->left<=1048576->∃m,iter step m (pt left i)=ret (iS ((xs.drop i).map f).sum left):=by
  intro k
  induction k with
  | zero=>
   intro i hi left g0 g1
   have :i=xs.length:=by omega
   subst this
   refine ⟨1,(h0 _ left).trans ?_⟩
   have e:iS ((xs.drop xs.length).map f).sum left=left:=by
    rw [List.drop_eq_nil_of_le (Nat.le_refl _)]
    rw [dB (by simp;omega)];simp
   rw [e]
  | succ k ih=>
   intro i hi left g0 g1
   have hlt:i<xs.length:=by omega
   rw [List.drop_eq_getElem_cons hlt,List.map_cons,List.sum_cons]
   by_cases hc:left<(f xs[i]:Int)
   ·refine ⟨1,(h1 _ i hlt left g0 g1).trans ?_⟩
    rw [if_pos hc,cQ (by omega)]
   ·obtain ⟨m,hm⟩:=ih (i+1) (by omega) (left - f xs[i]) (by omega) (by omega)
    refine ⟨m+1,(h1 _ i hlt left g0 g1).trans ?_⟩
    rw [if_neg hc,hm]
    congr 1
    unfold iS
    split<;>split<;>omega
 intro left g0 g1
 have:=key xs.length 0 (by omega) left g0 g1
 simpa using this
theorem jM {Pt α:Type}{step:(Pt->aI)->Pt->aI}{pt:Int->Nat->Pt}{xs:List α}{f:α->Nat}(hx:xs.length<=maxLen)
  (h1:∀(J:Pt->aI) (i:Nat) (h:i<xs.length) (left:Int),0<=left->left<=1048576->step J (pt left i)=if left<(f xs[i]:Int) then ret (-1:Int) else J (pt (left - f xs[i]) (i+1)))
  (h0:∀(J:Pt->aI) (left:Int),step J (pt left xs.length)=ret left) {left:Int} (g0:0<=left) (g1:left<=1048576) :
  ∃m,(cond (decide (IntKind.i64.wrap (left - (xs.length:Int))<0)) (ret (-1:Int)) (iter step m (pt (IntKind.i64.wrap (left - (xs.length:Int))) 0)))=ret (iS (dU f xs) left):=by
 rw [lT g0 g1 hx]
 by_cases hc:left - (xs.length:Int)<0
 ·refine ⟨0,?_⟩
  rw [decide_eq_true hc,cQ (by unfold dU;omega)];rfl
 ·obtain ⟨m,hm⟩:=zT h1 h0 (left - (xs.length:Int)) (by omega) (by omega)
  refine ⟨m,?_⟩
  rw [decide_eq_false hc,bq,hm]
  congr 1
  unfold iS dU
  split<;>split<;>omega
theorem zk {Pt:Type}{step:(Pt->aI)->Pt->aI}{pt:Nat->aE->Pt}{xs:aE}
  (h1:∀(J:Pt->aI) (i:Nat) (h:i<xs.length) (c:aE),c.length=xs.length->step J (pt i c)=J (pt (i+1) (c.set i xs[i])))
  (h0:∀(J:Pt->aI) (c:aE),step J (pt xs.length c)=ret c) (c:aE) (hc:c.length=xs.length):∃m,iter step m (pt 0 c)=ret xs:=by
 have key:∀k i,i+k=xs.length->∀c:aE,c.length=xs.length->c.take i=xs.take i->∃m,iter step m (pt i c)=ret xs:=by
  intro k
  induction k with
  | zero=>
   intro i hi c hc ht
   have :i=xs.length:=by omega
   subst this
   rw [List.take_of_length_le (by omega),List.take_of_length_le (Nat.le_refl _)] at ht
   exact ⟨1,by rw [<-ht] at h0 ⊢;exact h0 _ _⟩
  | succ k ih=>
   intro i hi c hc ht
   have hlt:i<xs.length:=by omega
   obtain ⟨m,hm⟩:=ih (i+1) (by omega) (c.set i xs[i]) (by simpa using hc) (by rw [take_set (by omega),ht,List.take_succ_eq_append_getElem hlt])
   exact ⟨m+1,(h1 _ i hlt c hc).trans hm⟩
 exact key xs.length 0 (by omega) c hc rfl
theorem iL {Pt α:Type}{step:(Pt->aI)->Pt->aI}{pt:Nat->aE->Pt}{xs:List α}{f:α->List L}{z:List L}{b:Nat}(hx:(xs.length:Int)*(b:Int)<=140737488355328)
  (h1:∀(J:Pt->aI) (i:Nat) (h:i<xs.length) (c:aE),c.length=xs.length->step J (pt i c)=J (pt (i+1) (c.set i (f xs[i]))))
  (h0:∀(J:Pt->aI) (c:aE),step J (pt xs.length c)=ret c) :
  ∃m,(cond (decide ((0:Int)<=(xs.length:Int))) (cond (decide ((xs.length:Int)<=(xs.length:Int))) (cond (decide ((xs.length:Int)*(b:Int)<=140737488355328)) (iter step m (pt 0 (List.replicate (Int.toNat (xs.length:Int)) z))) none) none) none)=ret (xs.map f):=by
 obtain ⟨m,hm⟩:=zk (step:=step) (pt:=pt) (xs:=xs.map f) (fun J i h c hc=>by
  rw [List.getElem_map];exact h1 J i (by simpa using h) c (by simpa using hc)) (fun J c=>by rw [List.length_map];exact h0 J c) (List.replicate (Int.toNat (xs.length:Int)) z) (by simp)
 refine ⟨m,?_⟩
 rw [aJ,decide_eq_true (Int.le_refl _),decide_eq_true hx]
 exact hm
theorem zu {Pt α:Type}{step:(Pt->aI)->Pt->aI}{pt:Nat->Pt}{xs ys:List α}(hl:xs.length=ys.length)
  (h1:∀(J:Pt->aI) (i:Nat) (h:i<xs.length) (h':i<ys.length),step J (pt i)=bif eg xs[i] ys[i] then J (pt (i+1)) else ret false) (h0:∀J:Pt->aI,step J (pt xs.length)=ret true):∃m,iter step m (pt 0)=ret (eg xs ys):=by
 have key:∀k i,i+k=xs.length->∃m,iter step m (pt i)=ret (eg (xs.drop i) (ys.drop i)):=by
  intro k
  induction k with
  | zero=>
   intro i hi
   have :i=xs.length:=by omega
   subst this
   refine ⟨1,(h0 _).trans ?_⟩
   rw [List.drop_eq_nil_of_le (Nat.le_refl _),List.drop_eq_nil_of_le (by omega),fN]
  | succ k ih=>
   intro i hi
   have hlt:i<xs.length:=by omega
   have hlt':i<ys.length:=by omega
   rw [List.drop_eq_getElem_cons hlt,List.drop_eq_getElem_cons hlt']
   obtain ⟨m,hm⟩:=ih (i+1) (by omega)
   cases hc:eg xs[i] ys[i]
   ·refine ⟨1,(h1 _ i hlt hlt').trans ?_⟩
    rw [hc]
    have :eg (xs[i]::xs.drop (i+1)) (ys[i]::ys.drop (i+1))=false:=by
     rw [lY] at hc ⊢
     intro h;injection h with h;exact hc h
    rw [this];rfl
   ·refine ⟨m+1,(h1 _ i hlt hlt').trans ?_⟩
    rw [hc,bh,hm]
    congr 1
    rw [dy] at hc
    rw [Bool.eq_iff_iff,dy,dy,hc]
    constructor
    ·intro h;rw [h]
    ·intro h;injection h
 have:=key xs.length 0 (by omega)
 simpa using this
theorem iO {Pt α:Type}{step:(Pt->aI)->Pt->aI}{pt:Nat->Pt}{xs ys:List α}
  (h1:xs.length=ys.length->∀(J:Pt->aI) (i:Nat) (h:i<xs.length) (h':i<ys.length),step J (pt i)=bif eg xs[i] ys[i] then J (pt (i+1)) else ret false) (h0:∀J:Pt->aI,step J (pt xs.length)=ret true) :
  ∃m,(cond ((xs.length:Int) != (ys.length:Int)) (ret false) (iter step m (pt 0)))=ret (eg xs ys):=by
 by_cases hl:xs.length=ys.length
 ·obtain ⟨m,hm⟩:=zu hl (h1 hl) h0
  refine ⟨m,?_⟩
  rw [hl,bne_self_eq_false,bq,hm]
 ·refine ⟨0,?_⟩
  have h2:((xs.length:Int) != (ys.length:Int))=true:=by simpa using fun h=>hl (by omega)
  have h3:eg xs ys=false:=lY.2 fun h=>hl (by rw [h])
  rw [h2,h3];rfl
theorem eC.dX {T:Nat->List K}{k:K}{ks:List K}{r:List L}(h:eC T (k::ks) r):∃l r',r=l::r'/\Wf T k l/\eC T ks r':=by
 match r,h with
 | [],h=>have:=h.1;simp at this
 | l::r',h=>
  obtain ⟨l',e1,e2⟩:=h.2 0 k rfl
  simp at e1
  subst e1
  exact ⟨l,r',rfl,e2,by simpa using h.1,fun j kk hj=>by simpa using h.2 (j+1) kk (by simpa using hj)⟩
theorem eC.nY {T:Nat->List K}:∀{a b:List K} {r:List L},eC T (a++b) r->∃r1 r2,r=r1++r2/\eC T a r1/\eC T b r2
 | [],b,r,h=>⟨[],r,rfl,⟨rfl,fun j k hj=>by simp at hj⟩,h⟩
 | k::a,b,r,h=>by
  obtain ⟨l,r',rfl,h1,h2⟩:=eC.dX (ks:=a++b) h
  obtain ⟨r1,r2,rfl,h3,h4⟩:=eC.nY h2
  exact ⟨l::r1,r2,rfl,eC.append (a:=[k]) (x:=[l]) ⟨rfl,fun j kk hj=>by
   cases j with
   | zero=>simp at hj;subst hj;exact ⟨l,rfl,h1⟩
   | succ j=>simp at hj⟩ h3,h4⟩
theorem eC.jJ {T:Nat->List K}{r:List L}(h:eC T [] r):r=[]:=List.eq_nil_of_length_eq_zero h.1
theorem gu {T:Nat->List K}{k:IntKind}{l:L}(h:Wf T (.int k) l):∃n,l=.int n:=by cases h;exact ⟨_,rfl⟩
theorem zG {T:Nat->List K}{l:L}(h:Wf T .bool l):∃n,l=.bool n:=by cases h;exact ⟨_,rfl⟩
theorem tF {T:Nat->List K}{l:L}(h:Wf T .str l):∃s:aD,l=.str s/\s.size<=maxLen:=by cases h;exact ⟨_,rfl,by assumption⟩
theorem gZ {T:Nat->List K}{e:Nat}{ks:List K}{α:Type}{row:α->List L}{p:α->Prop}(hc:T e=ks)(hrow:∀r,eC T ks r->∃x,row x=r/\p x){l:L}(h:Wf T (.sl e) l) :
  ∃xs:List α,l=.sl (xs.map row)/\bM maxLen p xs:=by
 cases h
 rename_i xs hle hl hr
 have key:∀ys:aE,(∀r∈ys,r∈xs)->∃zs:List α,ys=zs.map row/\∀z∈zs,p z:=by
  intro ys
  induction ys with
  | nil=>intro _;exact ⟨[],rfl,fun z hz=>(nomatch hz)⟩
  | cons y ys ih=>
   intro hy
   obtain ⟨zs,e1,e2⟩:=ih fun r hr=>hy r (by simp [hr])
   obtain ⟨z,e3,e4⟩:=hrow y (by
    refine ⟨by rw [<-hc];exact hl y (hy y (by simp)),fun j kk hj=>?_⟩
    rw [<-hc] at hj
    have hjl:j<y.length:=by rw [hl y (hy y (by simp))];exact (List.getElem?_eq_some_iff.1 hj).1
    have hg:=List.getElem?_eq_getElem hjl
    exact ⟨_,hg,hr y j kk _ (hy y (by simp)) hj hg⟩)
   refine ⟨z::zs,by simp [e1,e3],fun w hw=>?_⟩
   rcases List.mem_cons.1 hw with rfl | hw
   ·exact e4
   ·exact e2 w hw
 obtain ⟨zs,e1,e2⟩:=key xs fun r hr=>hr
 exact ⟨zs,by rw [e1],by rw [e1] at hle;simpa using hle,e2⟩
theorem zo {T:Nat->List K}{k:IntKind}(r:List L)(h:eC T [.int k] r):∃x,bk x=r/\True:=by
 obtain ⟨l,r',rfl,h1,h2⟩:=h.dX
 obtain ⟨n,rfl⟩:=gu h1
 rw [h2.jJ];exact ⟨n,rfl,trivial⟩
theorem wF {T:Nat->List K}(r:List L)(h:eC T [.str] r):∃x:aD,cG x=r/\x.size<=maxLen:=by
 obtain ⟨l,r',rfl,h1,h2⟩:=h.dX
 obtain ⟨n,rfl,h3⟩:=tF h1
 rw [h2.jJ];exact ⟨n,rfl,h3⟩
theorem zI {T:Nat->List K}{e:Nat}{ks:List K}{α:Type}{row:α->List L}{p:α->Prop}(hc:T e=ks)(hrow:∀r,eC T ks r->∃x,row x=r/\p x)(r:List L)(h:eC T [.sl e] r):∃x,dO row x=r/\bM maxLen p x:=by
 obtain ⟨l,r',rfl,h1,h2⟩:=h.dX
 obtain ⟨xs,rfl,h3⟩:=gZ hc hrow h1
 rw [h2.jJ];exact ⟨xs,rfl,h3⟩
theorem fC {a b:Int}:(a==b)=eg a b:=by rw [Bool.eq_iff_iff,beq_iff_eq,dy]
theorem bool_beq {a b:Bool}:(a==b)=eg a b:=by rw [Bool.eq_iff_iff,beq_iff_eq,dy]
theorem eV {a b:aD}:(a==b)=eg a b:=by
 rw [Bool.eq_iff_iff,dy,beq_toListBytes,beq_iff_eq,ByteArray.toList_eq,ByteArray.toList_eq]
 constructor
 ·intro h
  obtain ⟨⟨x⟩⟩:=a
  obtain ⟨⟨y⟩⟩:=b
  simp at h
  rw [h]
 ·intro h;rw [h]
theorem cR {b c:Bool}{x:aI}(h:b=true->x=ret c):(cond (!b) (ret false) x)=ret (b&&c):=by
 cases b
 ·rfl
 ·simpa using h rfl
end Go.DM
namespace Go.DM
def eD {S β:Type}(f:Nat->S->S⊕β)(tail:S->β):Nat->Nat->S->β
 | 0,_,s=>tail s
 | k+1,i,s=>match f i s with
  | .inl s'=>eD f tail k (i+1) s'
  | .inr b=>b
def Cu {S β:Type}(K:S->aI)(out:β->aI):S⊕β->aI
 | .inl s=>K s
 | .inr b=>out b
def bB {S β:Type}(x:aI)(K:S->aI)(out:β->aI)(P:S->Prop)(r:S⊕β):Prop:=x=Cu K out r/\∀s,r=.inl s->P s
theorem bB.bif {S β:Type}{K:S->aI}{out:β->aI}{P:S->Prop}{c:Bool}{x y:aI}{a b:S⊕β}(h1:c=true->bB x K out P a)(h2:c=false->bB y K out P b):bB (cond c x y) K out P (cond c a b):=by
 cases c
 ·exact h2 rfl
 ·exact h1 rfl
theorem bB.yes {S β:Type}{K:S->aI}{out:β->aI}{P:S->Prop}{c:Bool}{x y:aI}{r:S⊕β}(hc:c=true)(h:bB x K out P r):bB (cond c x y) K out P r:=by rw [hc];exact h
theorem bB.call {S β γ:Type}[RT γ]{K:S->aI}{out:β->aI}{P:S->Prop}{o:Option γ}{b:γ}(h:o=some b){k:γ->aI}{r:S⊕β}(hk:bB (k b) K out P r):bB (call o k) K out P r:=by rw [call_eq h];exact hk
theorem bB.inl {S β:Type}{K:S->aI}{out:β->aI}{P:S->Prop}{x:aI}{s:S}(hp:P s)(h:x=K s):bB x K out P (.inl s):=⟨h,fun s' e=>by injection e with e;rw [<-e];exact hp⟩
theorem bB.inr {S β:Type}{K:S->aI}{out:β->aI}{P:S->Prop}{x:aI}{b:β}(h:x=out b):bB x K out P (.inr b):=⟨h,fun s' e=>by cases e⟩
theorem cm {Pt S β:Type}{step:(Pt->aI)->Pt->aI}{pt:Nat->S->Pt}{n:Nat}{f:Nat->S->S⊕β}{tail:S->β}{out:β->aI}(Inv:Nat->S->Prop)
  (h1:∀(J:Pt->aI) (i:Nat) (s:S),i<n->Inv i s->bB (step J (pt i s)) (fun s'=>J (pt (i+1) s')) out (Inv (i+1)) (f i s))
  (h0:∀s,Inv n s->∃m,step (iter step m) (pt n s)=out (tail s)) {s:S} (hs:Inv 0 s):∃m,iter step m (pt 0 s)=out (eD f tail n 0 s):=by
 have key:∀k i s,i+k=n->Inv i s->∃m,iter step m (pt i s)=out (eD f tail k i s):=by
  intro k
  induction k with
  | zero=>
   intro i s hi hs
   have :i=n:=by omega
   subst this
   obtain ⟨m,hm⟩:=h0 s hs
   exact ⟨m+1,hm⟩
  | succ k ih=>
   intro i s hi hs
   unfold eD
   cases hf:f i s with
   | inl s'=>
    have h:=h1 (fun _=>none) i s (by omega) hs
    obtain ⟨m,hm⟩:=ih (i+1) s' (by omega) (h.2 s' hf)
    refine ⟨m+1,?_⟩
    have h:=(h1 (iter step m) i s (by omega) hs).1
    rw [hf] at h
    exact h.trans hm
   | inr b=>
    refine ⟨1,?_⟩
    have h:=(h1 (iter step 0) i s (by omega) hs).1
    rw [hf] at h
    exact h
 exact key n 0 s (by omega) hs
theorem hU {β:Type}(out:β->aI){c:Bool}{x y:Nat->aI}{a b:β}(h1:c=true->∃n,x n=out a)(h2:c=false->∃n,y n=out b):∃n,(cond c (x n) (y n))=out (cond c a b):=by
 cases c
 ·exact h2 rfl
 ·exact h1 rfl
theorem dN {c:Bool}{x y:Nat->aI}{r:aI}(hc:c=true)(h:∃n,x n=r):∃n,(cond c (x n) (y n))=r:=by subst hc;exact h
theorem dF {c:Bool}{x y:Nat->aI}{r:aI}(hc:c=false)(h:∃n,y n=r):∃n,(cond c (x n) (y n))=r:=by subst hc;exact h
theorem zl {γ:Type}[RT γ]{o:Option γ}{b:γ}(h:o=some b){k:Nat->γ->aI}{r:aI}(hk:∃n,k n b=r):∃n,call o (k n)=r:=by
 obtain ⟨n,hn⟩:=hk
 exact ⟨n,by rw [call_eq h];exact hn⟩
theorem av {β:Type}(out:β->aI){c:Bool}{x y:aI}{a b:β}(h1:c=true->x=out a)(h2:c=false->y=out b):(cond c x y)=out (cond c a b):=by
 cases c
 ·exact h2 rfl
 ·exact h1 rfl
theorem ak {c:Bool}{x y r:aI}(hc:c=true)(h:x=r):(cond c x y)=r:=by subst hc;exact h
theorem eS {α:Type}{xs:List α}{i:Nat}{z:α}(h:i<xs.length):xs.getD i z=xs[i]:=by simp [List.getD,h]
theorem iM {α:Type}{xs:List α}{i:Nat}{z:α}(h:¬i<xs.length):xs.getD i z=z:=by simp [List.getD];rw [List.getElem?_eq_none (by omega)];rfl
theorem gR {xs:List Int}{i:Nat}:jx (xs.map bk) i=xs.getD i 0:=by
 unfold jx
 by_cases h:i<xs.length
 ·rw [getD_map h,eS h];rfl
 ·rw [iM (by simpa using h),iM h];rfl
theorem yK {xs:List Bool}{i:Nat}:BB (xs.map xd) i=xs.getD i false:=by
 unfold BB
 by_cases h:i<xs.length
 ·rw [getD_map h,eS h];rfl
 ·rw [iM (by simpa using h),iM h];rfl
theorem xO {xs:List aD}{i:Nat}:qi (xs.map cG) i=xs.getD i ⟨#[]⟩:=by
 unfold qi
 by_cases h:i<xs.length
 ·rw [getD_map h,eS h];rfl
 ·rw [iM (by simpa using h),iM h];rfl
theorem qR {α:Type}{f:α->List L}{xs:List (List α)}{i:Nat}:oG (xs.map (dO f)) i=(xs.getD i []).map f:=by
 unfold oG
 by_cases h:i<xs.length
 ·rw [getD_map h,eS h];rfl
 ·rw [iM (by simpa using h),iM h];rfl
theorem eo {α β:Type}{row:α->List L}{dec:List L->β}{r:α->β}{z:α}{xs:List α}{i:Nat}(h1:∀x,dec (row x)=r x)(h2:dec []=r z):dec (List.getD (xs.map row) i [])=r (xs.getD i z):=by
 by_cases h:i<xs.length
 ·rw [getD_map h,eS h,h1]
 ·rw [iM (by simpa using h),iM h,h2]
theorem bM.getD {α:Type}{n:Nat}{p:α->Prop}{xs:List α}(h:bM n p xs){i:Nat}{z:α}(hi:i<xs.length):p (xs.getD i z):=by
 rw [eS hi];exact h.get hi
theorem ux {S β:Type}{f g:Nat->S->S⊕β}{t u:S->β}{n:Nat}(Inv:Nat->S->Prop)(h1:∀i s,i<n->Inv i s->f i s=g i s/\∀s',f i s=.inl s'->Inv (i+1) s')(h0:∀s,Inv n s->t s=u s){s:S}(hs:Inv 0 s):eD f t n 0 s=eD g u n 0 s:=by
 have key:∀k i s,i+k=n->Inv i s->eD f t k i s=eD g u k i s:=by
  intro k
  induction k with
  | zero=>
   intro i s hi hs
   have :i=n:=by omega
   subst this
   exact h0 s hs
  | succ k ih=>
   intro i s hi hs
   obtain ⟨e,p⟩:=h1 i s (by omega) hs
   unfold eD
   rw [<-e]
   cases hf:f i s with
   | inl s'=>exact ih (i+1) s' (by omega) (p s' hf)
   | inr b=>rfl
 exact key n 0 s (by omega) hs
theorem kA {α:Type}{xs ys:List α}(z:α){f:Nat->Unit->Unit⊕Bool}{tail:Unit->Bool}(hf:∀i s,i<xs.length->i<ys.length->f i s=bif eg (xs.getD i z) (ys.getD i z) then .inl s else .inr false)(ht:∀s,tail s=true) :
  (cond ((xs.length:Int) != (ys.length:Int)) false (eD f tail xs.length 0 ()))=eg xs ys:=by
 by_cases hl:xs.length=ys.length
 ·rw [hl,bne_self_eq_false,bq,<-hl]
  have key:∀k i,i+k=xs.length->eD f tail k i ()=eg (xs.drop i) (ys.drop i):=by
   intro k
   induction k with
   | zero=>
    intro i hi
    have :i=xs.length:=by omega
    subst this
    unfold eD
    rw [ht,List.drop_eq_nil_of_le (Nat.le_refl _),List.drop_eq_nil_of_le (by omega),fN]
   | succ k ih=>
    intro i hi
    have h1:i<xs.length:=by omega
    have h2:i<ys.length:=by omega
    unfold eD
    rw [hf i () h1 h2,eS h1,eS h2,List.drop_eq_getElem_cons h1,List.drop_eq_getElem_cons h2]
    cases hc:eg xs[i] ys[i]
    ·have :eg (xs[i]::xs.drop (i+1)) (ys[i]::ys.drop (i+1))=false:=by
      rw [lY] at hc ⊢
      intro h;injection h with h;exact hc h
     rw [this];rfl
    ·show eD f tail k (i+1) ()=_
     rw [ih (i+1) (by omega)]
     rw [dy] at hc
     rw [Bool.eq_iff_iff,dy,dy,hc]
     constructor
     ·intro h;rw [h]
     ·intro h;injection h
  simpa using key xs.length 0 (by omega)
 ·have h2:((xs.length:Int) != (ys.length:Int))=true:=by simpa using fun h=>hl (by omega)
  have h3:eg xs ys=false:=lY.2 fun h=>hl (by rw [h])
  rw [h2,h3];rfl
end Go.DM
namespace Go.DM
theorem cT {c:Bool}{x y r:aI}(hc:c=false)(h:y=r):(cond c x y)=r:=by subst hc;exact h
theorem kX {a:aI}:either a a=a:=by simp [either]
theorem ex_eq {β:Type}{out:β->aI}{x:Nat->aI}{a b:β}(h:a=b)(k:∃n,x n=out a):∃n,x n=out b:=h ▸ k
theorem bg {γ:Type}[RT γ]{o:Option γ}{k:γ->aI}{r:aI}(b:γ)(h:o=some b)(hk:k b=r):call o k=r:=(call_eq h k).trans hk
theorem fm {γ:Type}[RT γ]{o:Option γ}{k:Nat->γ->aI}{r:aI}(b:γ)(h:o=some b)(hk:∃n,k n b=r):∃n,call o (k n)=r:=zl h hk
theorem bB.bg {S β γ:Type}[RT γ]{K:S->aI}{out:β->aI}{P:S->Prop}{o:Option γ}{k:γ->aI}{r:S⊕β}(b:γ)(h:o=some b)(hk:bB (k b) K out P r):bB (DM.call o k) K out P r:=bB.call h hk
def dW {α S β:Type}(f:Nat->α->S->S⊕β)(t:S->β):Nat->List α->S->β
 | _,[],s=>t s
 | i,x::xs,s=>match f i x s with
  | .inl s'=>dW f t (i+1) xs s'
  | .inr b=>b
def ep {α S β:Type}(f:α->S->S⊕β)(t:S->β):List α->S->β
 | [],s=>t s
 | x::xs,s=>match f x s with
  | .inl s'=>ep f t xs s'
  | .inr b=>b
theorem cX {α S β:Type}{f:Nat->α->S->S⊕β}{t:S->β}{xs:List α}{z:α}{s:S}:eD (fun i s=>f i (xs.getD i z) s) t xs.length 0 s=dW f t 0 xs s:=by
 have key:∀(k i:Nat) (s:S),i+k=xs.length->eD (fun i s=>f i (xs.getD i z) s) t k i s=dW f t i (xs.drop i) s:=by
  intro k
  induction k with
  | zero=>
   intro i s hi
   have :i=xs.length:=by omega
   subst this
   rw [List.drop_eq_nil_of_le (Nat.le_refl _)];rfl
  | succ k ih=>
   intro i s hi
   have hlt:i<xs.length:=by omega
   rw [List.drop_eq_getElem_cons hlt]
   unfold eD dW
   rw [eS hlt]
   cases f i xs[i] s with
   | inl s'=>exact ih (i+1) s' (by omega)
   | inr b=>rfl
 simpa using key xs.length 0 s (by omega)
theorem pq {α S β:Type}{f:α->S->S⊕β}{t:S->β}:∀{xs:List α} {i:Nat} {s:S},dW (fun _ x s=>f x s) t i xs s=ep f t xs s
 | [],_,_=>rfl
 | x::xs,i,s=>by
  unfold dW ep
  cases f x s with
  | inl s'=>exact pq
  | inr b=>rfl
theorem eM {α S β:Type}{f:α->S->S⊕β}{t:S->β}{xs:List α}{z:α}{s:S}:eD (fun i s=>f (xs.getD i z) s) t xs.length 0 s=ep f t xs s:=
 (cX (f:=fun _ x s=>f x s)).trans pq
theorem rV {α γ β:Type}{g:α->γ}{t:List γ->β}:∀{xs:List α} {s:List γ},ep (fun x s=>.inl (s++[g x])) t xs s=t (s++xs.map g)
 | [],s=>by simp [ep]
 | x::xs,s=>by
  show ep (fun x s=>Sum.inl (s++[g x])) t xs (s++[g x])=_
  rw [rV];simp
theorem mh {α γ β:Type}{xs:List α}{g:α->γ}{z:α}{t:List γ->β}{s:List γ}:eD (fun i s=>.inl (s++[g (xs.getD i z)])) t xs.length 0 s=t (s++xs.map g):=
 (eM (f:=fun x s=>.inl (s++[g x]))).trans rV
theorem qG {α γ β:Type}{g:α->List γ}{t:List γ->β}:∀{xs:List α} {s:List γ},ep (fun x s=>.inl (s++g x)) t xs s=t (s++xs.flatMap g)
 | [],s=>by simp [ep]
 | x::xs,s=>by
  show ep (fun x s=>Sum.inl (s++g x)) t xs (s++g x)=_
  rw [qG];simp
theorem qP {α γ β:Type}{xs:List α}{g:α->List γ}{z:α}{t:List γ->β}{s:List γ}:eD (fun i s=>.inl (s++g (xs.getD i z))) t xs.length 0 s=t (s++xs.flatMap g):=
 (eM (f:=fun x s=>.inl (s++g x))).trans qG
theorem lP {α γ:Type}{g:α->List γ}{n:Nat}:∀{xs:List α},(∀x∈xs,(g x).length<=n)->(xs.flatMap g).length<=xs.length*n
 | [],_=>by simp
 | x::xs,h=>by
  have h1:=h x (by simp)
  have h2:=lP (xs:=xs) fun y hy=>h y (by simp [hy])
  simp only [List.flatMap_cons,List.length_append,List.length_cons,Nat.succ_mul]
  omega
theorem ny {α γ β:Type}{xs:List α}{g:α->γ}{z:α}{t:List γ->β}:eD (fun i s=>.inl (s++[g (xs.getD i z)])) t xs.length 0 []=t (xs.map g):=by
 have:=mh (xs:=xs) (g:=g) (z:=z) (t:=t) (s:=[])
 simpa using this
theorem iK {α β:Type}{xs:List α}{z:α}{t:List α->β}:eD (fun i s=>.inl (s++[xs.getD i z])) t xs.length 0 []=t xs:=by
 have:=mh (xs:=xs) (g:=fun x=>x) (z:=z) (t:=t) (s:=[])
 simpa using this
theorem pM {α S β:Type}{f g:α->S->S⊕β}{t u:S->β}{xs:List α}{s:S}(h:∀x∈xs,∀s,f x s=g x s)(h0:∀s,t s=u s):ep f t xs s=ep g u xs s:=by
 induction xs generalizing s with
 | nil=>exact h0 s
 | cons x xs ih=>
  unfold ep
  rw [h x (by simp)]
  cases g x s with
  | inl s'=>exact ih fun y hy=>h y (by simp [hy])
  | inr b=>rfl
theorem mm {α β:Type}{p:α->Bool}{b c:β}:∀{xs:List α} {s:Unit},ep (fun x s=>bif p x then .inr b else .inl s) (fun _=>c) xs s=bif xs.any p then b else c
 | [],_=>rfl
 | x::xs,s=>by
  unfold ep
  rw [List.any_cons]
  cases p x
  ·exact mm
  ·rfl
def iT {α:Type}(p:α->Bool):Nat->List α->Int
 | _,[]=>-1
 | i,x::xs=>bif p x then (i:Int) else iT p (i+1) xs
theorem gI {α:Type}{p:α->Bool}:∀{xs:List α} {i:Nat} {s:Unit},dW (fun i x s=>bif p x then .inr (i:Int) else .inl s) (fun _=>(-1:Int)) i xs s=iT p i xs
 | [],_,_=>rfl
 | x::xs,i,s=>by
  unfold dW iT
  cases p x
  ·exact gI
  ·rfl
theorem sK {α:Type}{p:α->Bool}:∀{xs:List α} {i:Nat},decide (iT p i xs<0)=!(xs.any p)
 | [],i=>rfl
 | x::xs,i=>by
  unfold iT
  rw [List.any_cons]
  cases p x
  ·exact sK
  ·simp
end Go.DM
namespace Go.DM
def jg (s:aD):List Int:=s.data.toList.map fun b=>(b.toNat:Int)
theorem vL (s:aD):iG s=(jg s).map bk:=by simp [iG,jg,bk]
theorem gV (s:aD):(jg s).length=s.size:=by simp [jg]
theorem rH (s:aD):(iG s).length=s.size:=by simp [iG]
theorem jC {f:Nat->Unit->Unit⊕Bool}{t:Unit->Bool}{n:Nat}(P:Nat->Prop)(h1:∀i,i<n->P i->f i ()=.inl ())(h2:∀i,i<n->¬P i->f i ()=.inr false):eD f t n 0 ()=true↔(∀i,i<n->P i)/\t ()=true:=by
 have key:∀k i,i+k=n->(eD f t k i ()=true↔(∀j,i<=j->j<n->P j)/\t ()=true):=by
  intro k
  induction k with
  | zero=>
   intro i hi
   constructor
   ·intro h;exact ⟨fun j h1 h2=>by omega,h⟩
   ·intro h;exact h.2
  | succ k ih=>
   intro i hi
   unfold eD
   by_cases hp:P i
   ·rw [h1 i (by omega) hp]
    show eD f t k (i+1) ()=true↔_
    rw [ih (i+1) (by omega)]
    constructor
    ·intro ⟨h,ht⟩
     refine ⟨fun j h1 h2=>?_,ht⟩
     by_cases hj:j=i
     ·subst hj;exact hp
     ·exact h j (by omega) h2
    ·intro ⟨h,ht⟩;exact ⟨fun j h1 h2=>h j (by omega) h2,ht⟩
   ·rw [h2 i (by omega) hp]
    constructor
    ·intro h;cases h
    ·intro ⟨h,_⟩;exact (hp (h i (Nat.le_refl _) (by omega))).elim
 rw [key n 0 (by omega)]
 simp
end Go.DM
namespace Go.DM
theorem qM {S β:Type}{f:Nat->S->S⊕β}{t:S->β}{k i:Nat}{s:S}:eD f t (k+1) i s=match f i s with | .inl s'=>eD f t k (i+1) s' | .inr b=>b:=rfl
theorem dP {Pt:Type}{step:(Pt->aI)->Pt->aI}{p q:Pt}{r:aI}(h:q=p)(k:∃n,iter step n p=r):∃n,iter step n q=r:=h ▸ k
theorem um {Pt S β:Type}{step:(Pt->aI)->Pt->aI}{pt:Nat->S->Pt}{n:Nat}{f:Nat->S->S⊕β}{tail:S->β}{out:β->aI}(Inv:Nat->S->Prop)
  (h1:∀(i:Nat) (s:S),i<n->Inv i s->∀K:S⊕β->aI,(∀s',Inv (i+1) s'->∃m,iter step m (pt (i+1) s')=K (.inl s'))->(∀b,K (.inr b)=out b)->∃m,step (iter step m) (pt i s)=K (f i s))
  (h0:∀s,Inv n s->∃m,step (iter step m) (pt n s)=out (tail s)) {s:S} (hs:Inv 0 s):∃m,iter step m (pt 0 s)=out (eD f tail n 0 s):=by
 have key:∀k i s,i+k=n->Inv i s->∃m,iter step m (pt i s)=out (eD f tail k i s):=by
  intro k
  induction k with
  | zero=>
   intro i s hi hs
   have :i=n:=by omega
   subst this
   obtain ⟨m,hm⟩:=h0 s hs
   exact ⟨m+1,hm⟩
  | succ k ih=>
   intro i s hi hs
   obtain ⟨m,hm⟩:=h1 i s (by omega) hs (fun r=>out (match r with | .inl s'=>eD f tail k (i+1) s' | .inr b=>b)) (fun s' hs'=>ih (i+1) s' (by omega) hs') (fun b=>rfl)
   refine ⟨m+1,hm.trans ?_⟩
   rw [qM]
 exact key n 0 s (by omega) hs
theorem uW {α:Type}{f:Nat->α->Unit->Unit⊕Int}(h:∀i x s b,f i x s=.inr b->b=(i:Int)):∀(xs:List α) (i:Nat) (s:Unit),-1<=dW f (fun _=>(-1:Int)) i xs s/\dW f (fun _=>(-1:Int)) i xs s<(i:Int)+xs.length
 | [],i,s=>by simp only [dW,List.length_nil];omega
 | x::xs,i,s=>by
  unfold dW
  cases hf:f i x s with
  | inl s'=>
   have:=uW h xs (i+1) s'
   simp only [List.length_cons]
   omega
  | inr b=>
   have:=h i x s b hf
   simp only [List.length_cons]
   omega
end Go.DM
namespace Go.DM
theorem fK {α:Type}{f:Nat->α->Unit->Unit⊕Int}(h:∀i x s b,f i x s=.inr b->b=(i:Int))(xs:List α)(s:Unit):-1<=dW f (fun _=>(-1:Int)) 0 xs s/\dW f (fun _=>(-1:Int)) 0 xs s<(xs.length:Int):=by
 have:=uW h xs 0 s
 simpa using this
theorem qV {α:Type}{p:α->Bool}{xs:List α}:decide (iT p 0 xs>=0)=xs.any p:=by
 have:=sK (p:=p) (xs:=xs) (i:=0)
 cases h:xs.any p<;>rw [h] at this<;>simp at this ⊢<;>omega
end Go.DM
namespace Go.DM
theorem lD {α S β:Type}{f:Nat->α->S->S⊕β}{c:β}(h:∀i x s b,f i x s=.inr b->b=c):∀(xs:List α) (i:Nat) (s:S),dW f (fun _=>c) i xs s=c
 | [],_,_=>rfl
 | x::xs,i,s=>by
  unfold dW
  cases hf:f i x s with
  | inl s'=>exact lD h xs _ _
  | inr b=>exact h _ _ _ _ hf
theorem pN {S β:Type}{f:Nat->S->S⊕β}{c:β}(h:∀i s b,f i s=.inr b->b=c):∀(k i:Nat) (s:S),eD f (fun _=>c) k i s=c
 | 0,_,_=>rfl
 | k+1,i,s=>by
  rw [qM]
  cases hf:f i s with
  | inl s'=>exact pN h k _ _
  | inr b=>exact h _ _ _ hf
end Go.DM
namespace Go.DM
theorem lC {α:Type}{f:Nat->α->Unit->Unit⊕Int}{p:α->Bool}(h:∀i x s,f i x s=bif p x then .inr (i:Int) else .inl ()):∀(xs:List α) (i:Nat) (s:Unit),dW f (fun _=>(-1:Int)) i xs s=iT p i xs
 | [],_,_=>rfl
 | x::xs,i,s=>by
  unfold dW iT
  rw [h]
  cases p x
  ·exact lC h xs _ _
  ·rfl
theorem Bf {b c:Bool}:(cond (!b) false c)=(b&&c):=by cases b<;>rfl
theorem zY {b c:Bool}:(cond b c false)=(b&&c):=by cases b<;>rfl
end Go.DM
namespace Go.DM
theorem mP {α β:Type}{f:α->Unit->Unit⊕β}{p:α->Bool}{b c:β}(h:∀x s,f x s=bif p x then .inr b else .inl ()):∀(xs:List α) (s:Unit),ep f (fun _=>c) xs s=bif xs.any p then b else c
 | [],_=>rfl
 | x::xs,s=>by
  unfold ep
  rw [List.any_cons,h]
  cases p x
  ·exact mP h xs ()
  ·rfl
theorem rM {α:Type}{f:Nat->α->Unit->Unit⊕Int}{z:α}(h:∀i x s b,f i x s=.inr b->b=(i:Int)){xs:List α}(hn:dW f (fun _=>(-1:Int)) 0 xs ()<0):∀i,i<xs.length->f i (xs.getD i z) ()=.inl ():=by
 have key:∀(ys:List α) (k:Nat),dW f (fun _=>(-1:Int)) k ys ()<0->∀i,i<ys.length->f (k+i) (ys.getD i z) ()=.inl ():=by
  intro ys
  induction ys with
  | nil=>intro k _ i hi;simp at hi
  | cons y ys ih=>
   intro k hk i hi
   unfold dW at hk
   cases hf:f k y () with
   | inr b=>
    rw [hf] at hk
    have:=h k y () b hf
    simp only at hk
    omega
   | inl s'=>
    rw [hf] at hk
    cases i with
    | zero=>simpa using hf
    | succ i=>
     have:=ih (k+1) hk i (by simpa using hi)
     rw [show k+1+i=k+(i+1) by omega] at this
     simpa using this
 intro i hi
 have:=key xs 0 hn i hi
 simpa using this
end Go.DM
namespace Go.DM
end Go.DM
namespace Go.DM
class Row (α:Type) where
 row:α->List L
 Bi:∀{a b:α},row a=row b->a=b
class Im (α:Type) (β:outParam Type) where
 im:α->β
 inj:∀{a b:α},im a=im b->a=b
instance :Row Int:=⟨bk,lq⟩
instance :Row Bool:=⟨xd,yG⟩
instance :Row aD:=⟨cG,qn⟩
instance {α:Type} [Row α]:Row (List α):=⟨dO Row.row,uE Row.Bi⟩
instance :Im Int Int:=⟨fun x=>x,fun h=>h⟩
instance :Im Bool Bool:=⟨fun x=>x,fun h=>h⟩
instance :Im aD aD:=⟨fun x=>x,fun h=>h⟩
instance :Im Unit Unit:=⟨fun x=>x,fun h=>h⟩
instance {α:Type} [Row α]:Im (List α) (aE):=⟨fun x=>x.map Row.row,fun h=>map_inj Row.Bi h⟩
instance {α α' β β':Type} [Im α α'] [Im β β']:Im (α×β) (α'×β'):=⟨fun x=>(Im.im x.1,Im.im x.2),fun h=>Prod.ext (Im.inj (congrArg (fun x=>x.1) h)) (Im.inj (congrArg (fun x=>x.2) h))⟩
def u2 {a b r:Type}(f:a->b->r)(x:a×b):r:=f x.1 x.2
def u3 {a b c r:Type}(f:a->b->c->r)(x:a×b×c):r:=f x.1 x.2.1 x.2.2
def u4 {a b c d r:Type}(f:a->b->c->d->r)(x:a×b×c×d):r:=f x.1 x.2.1 x.2.2.1 x.2.2.2
def u5 {a b c d e r:Type}(f:a->b->c->d->e->r)(x:a×b×c×d×e):r:=f x.1 x.2.1 x.2.2.1 x.2.2.2.1 x.2.2.2.2
def u6 {a b c d e g r:Type}(f:a->b->c->d->e->g->r)(x:a×b×c×d×e×g):r:=f x.1 x.2.1 x.2.2.1 x.2.2.2.1 x.2.2.2.2.1 x.2.2.2.2.2
def u7 {a b c d e g h r:Type}(f:a->b->c->d->e->g->h->r)(x:a×b×c×d×e×g×h):r:=f x.1 x.2.1 x.2.2.1 x.2.2.2.1 x.2.2.2.2.1 x.2.2.2.2.2.1 x.2.2.2.2.2.2
def p2 {a b:Type}(f:a->b->Prop)(x:a×b):Prop:=f x.1 x.2
def p3 {a b c:Type}(f:a->b->c->Prop)(x:a×b×c):Prop:=f x.1 x.2.1 x.2.2
def p4 {a b c d:Type}(f:a->b->c->d->Prop)(x:a×b×c×d):Prop:=f x.1 x.2.1 x.2.2.1 x.2.2.2
def p5 {a b c d e:Type}(f:a->b->c->d->e->Prop)(x:a×b×c×d×e):Prop:=f x.1 x.2.1 x.2.2.1 x.2.2.2.1 x.2.2.2.2
def p6 {a b c d e g:Type}(f:a->b->c->d->e->g->Prop)(x:a×b×c×d×e×g):Prop:=f x.1 x.2.1 x.2.2.1 x.2.2.2.1 x.2.2.2.2.1 x.2.2.2.2.2
section
variable {A A' B B':Type} [Im A A'] [Im B B'] {g:A->Prop} {m:A->B}
def RR (g:A->Prop)(m:A->B)(x:A'):Option B':=ofM Im.im g (fun a=>Im.im (m a)) x
theorem aP {a:A}(h:g a):RR g m (Im.im a)=some (Im.im (m a)):=AH (fun _ _ h=>Im.inj h) h
def CN [RT B'](ps:List gj)(r:RP)(acc:List L->A')(R:A'->Option B'):ga:=⟨ps,r,fun ls=>(R (acc ls)).map RT.enc⟩
theorem VP [RT B']{X:Type}{P:Program}{T:List (Nat×TI)}{G:List (Nat×ga)}{nt:Nat}{f:FuncId}{fn:Func}{ps:List gj}{r:RP}{acc:List L->A'}{accr:List L->X}{live:Nat->Live}{run:Nat->X->aI}
  (hm:P.follows .mixedOrders=true) (hT:eN P T=true) (hG:gH P (dI T) G) (hf:P.funcs[f]?=some fn) (hb:rz fn (CN ps r acc (RR g m)) nt=true)
  (hrun:∀n ls,eO { T:=assoc T,G:=dD G,nt:=nt } live fn r n (dc ps ls)=run n (accr ls))
  (hok:∀ls a,pT (dI T).cells ps ls->acc ls=Im.im a->g a->∃n,run n (accr ls)=ret (Im.im (m a))):Valid P (dI T) f (CN ps r acc (RR g m)):=
 valid hm hT hG hf hb live fun ls q hl h=>by
  obtain ⟨v,hv,hq⟩:=map_some h
  obtain ⟨a,hg,e,hm⟩:=kC hv
  obtain ⟨n,hn⟩:=hok ls a hl e.symm hg
  exact ⟨n,(hrun n ls).trans (hn.trans (by rw [<-hq,<-hm];rfl))⟩
theorem VV [RT B']{P:Program}{T:List (Nat×TI)}{G:List (Nat×ga)}{nt:Nat}{f:FuncId}{fn:Func}{ps:List gj}{r:RP}{acc:List L->A'}{live:Nat->Live}{run:Nat->A'->aI}
  (hm:P.follows .mixedOrders=true) (hT:eN P T=true) (hG:gH P (dI T) G) (hf:P.funcs[f]?=some fn) (hb:rz fn (CN ps r acc (RR g m)) nt=true)
  (hrun:∀n ls,eO { T:=assoc T,G:=dD G,nt:=nt } live fn r n (dc ps ls)=run n (acc ls))
  (hok:∀ls a,pT (dI T).cells ps ls->acc ls=Im.im a->g a->∃n,run n (Im.im a)=ret (Im.im (m a))):Valid P (dI T) f (CN ps r acc (RR g m)):=
 VP hm hT hG hf hb hrun fun ls a hl e hg=>by rw [e];exact hok ls a hl e hg
theorem VS [RT B']{P:Program}{T:List (Nat×TI)}{G:List (Nat×ga)}{S:List (Nat×gK)}{nt:Nat}{f:FuncId}{fn:Func}{ps:List gj}{r:RP}{acc:List L->A'}{live:Nat->Live}{run:Nat->A'->aI}
  (hm:P.follows .mixedOrders=true) (hT:eN P T=true) (hG:gH P (dI T) G) (hS:jX P (dI T) S) (hf:P.funcs[f]?=some fn) (hb:rz fn (CN ps r acc (RR g m)) nt=true)
  (hrun:∀n ls,eO { T:=assoc T,G:=dD G,nt:=nt,M:=fZ S } live fn r n (dc ps ls)=run n (acc ls))
  (hok:∀ls a,pT (dI T).cells ps ls->acc ls=Im.im a->g a->∃n,run n (Im.im a)=ret (Im.im (m a))):Valid P (dI T) f (CN ps r acc (RR g m)):=
 tB hm hT hG hS hf hb live fun ls q hl h=>by
  obtain ⟨v,hv,hq⟩:=map_some h
  obtain ⟨a,hg,e,hm⟩:=kC hv
  obtain ⟨n,hn⟩:=hok ls a hl e.symm hg
  exact ⟨n,(hrun n ls).trans (by rw [<-e];exact hn.trans (by rw [<-hq,<-hm];rfl))⟩
theorem VI [RT B']{P:Program}{T:List (Nat×TI)}{G:List (Nat×ga)}{S:List (Nat×gK)}{I:List (Nat×mu)}{nt:Nat}{mt:Bool}{J:List Nat}{f:FuncId}{fn:Func}{ps:List gj}{r:RP}{acc:List L->A'}{live:Nat->Live}{run:Nat->A'->aI}
  (hm:P.follows .mixedOrders=true) (hT:eN P T=true) (hG:gH P (dI T) G) (hS:jX P (dI T) S) (hI:oM P (dI T) 0 I) (hf:P.funcs[f]?=some fn) (hb:rz fn (CN ps r acc (RR g m)) nt=true)
  (hrun:∀n ls,eO { T:=assoc T,G:=dD G,nt:=nt,M:=fZ S,mt:=mt,I:=nW I,J:=J } live fn r n (dc ps ls)=run n (acc ls))
  (hok:∀ls a,pT (dI T).cells ps ls->acc ls=Im.im a->g a->∃n,run n (Im.im a)=ret (Im.im (m a))):Valid P (dI T) f (CN ps r acc (RR g m)):=
 wo hm hT hG hS hI hf hb live fun ls q hl h=>by
  obtain ⟨v,hv,hq⟩:=map_some h
  obtain ⟨a,hg,e,hm⟩:=kC hv
  obtain ⟨n,hn⟩:=hok ls a hl e.symm hg
  exact ⟨n,(hrun n ls).trans (by rw [<-e];exact hn.trans (by rw [<-hq,<-hm];rfl))⟩
theorem VT [RT B']{P:Program}{T:List (Nat×TI)}{G:List (Nat×ga)}{S:List (Nat×gK)}{nt:Nat}{f:FuncId}{fn:Func}{ps:List gj}{r:RP}{acc:List L->A'}{live:Nat->Live}{run:Nat->A'->aI}
  (hm:P.follows .mixedOrders=true) (hT:eN P T=true) (hG:gH P (dI T) G) (hS:jX P (dI T) S) (hf:P.funcs[f]?=some fn) (hb:rz fn (CN ps r acc (RR g m)) nt=true)
  (hrun:∀n ls,eO { T:=assoc T,G:=dD G,nt:=nt,M:=fZ S,mt:=true } live fn r n (dc ps ls)=run n (acc ls))
  (hok:∀ls a,pT (dI T).cells ps ls->acc ls=Im.im a->g a->∃n,run n (Im.im a)=ret (Im.im (m a))):Valid P (dI T) f (CN ps r acc (RR g m)):=
 tB hm hT hG hS hf hb live fun ls q hl h=>by
  obtain ⟨v,hv,hq⟩:=map_some h
  obtain ⟨a,hg,e,hm⟩:=kC hv
  obtain ⟨n,hn⟩:=hok ls a hl e.symm hg
  exact ⟨n,(hrun n ls).trans (by rw [<-e];exact hn.trans (by rw [<-hq,<-hm];rfl))⟩
def MN [RT B'](ps:List (Bool×List K))(acc:List L->A')(R:A'->Option B'):gK:=⟨ps,fun ls=>(R (acc ls)).map RT.enc⟩
theorem MV [RT B']{P:Program}{T:List (Nat×TI)}{G:List (Nat×ga)}{S:List (Nat×gK)}{nt:Nat}{f:FuncId}{fn:Func}{ps:List (Bool×List K)}{acc:List L->A'}{live:Nat->Live}{run:Nat->A'->aI}
  (hm:P.follows .mixedOrders=true) (hT:eN P T=true) (hG:gH P (dI T) G) (hS:jX P (dI T) S) (hf:P.funcs[f]?=some fn) (hb:AW fn (MN ps acc (RR g m)) nt=true)
  (hrun:∀n ls,eO { T:=assoc T,G:=dD G,nt:=nt,M:=fZ S,np:=(kM ps).length,mt:=true } live fn (.nX (kM ps)) n (gC ps ls)=run n (acc ls))
  (hok:∀ls a,zC (dI T).cells ps ls->acc ls=Im.im a->g a->∃n,run n (Im.im a)=ret (Im.im (m a))):eY P (dI T) f (MN ps acc (RR g m)):=
 Ao hm hT hG hS hf hb live fun ls q hl h=>by
  obtain ⟨v,hv,hq⟩:=map_some h
  obtain ⟨a,hg,e,hm⟩:=kC hv
  obtain ⟨n,hn⟩:=hok ls a hl e.symm hg
  exact ⟨n,(hrun n ls).trans (by rw [<-e];exact hn.trans (by rw [<-hq,<-hm];rfl))⟩
theorem gS (n:Nat):(Nat.beq n n&&true)=true:=by rw [Nat.beq_refl];rfl
end
theorem S0:(∀(α β:Type) (f:α->β) (l:List α),(l.map f).length=l.length)/\(∀n:Nat,Int.toNat (n:Int)=n)/\(∀s:aD,iG s=(jg s).map bk)/\(∀(xs:List Int) i,jx (xs.map bk) i=xs.getD i 0)/\
  (∀(xs:List Bool) i,BB (xs.map xd) i=xs.getD i false)/\(∀(xs:List aD) i,qi (xs.map cG) i=xs.getD i ⟨#[]⟩)/\(∀(α:Type) (f:α->List L) (xs:List (List α)) i,oG (xs.map (dO f)) i=(xs.getD i []).map f):=
 ⟨fun _ _ _ _=>List.length_map ..,cE,vL,fun _ _=>gR,fun _ _=>yK,fun _ _=>xO,fun _ _ _ _=>qR⟩
theorem MP:(∀(α β:Type) (f:α->β) (a b:List α),(a++b).map f=a.map f++b.map f)/\(∀(α β:Type) (f:α->β) (a:α) (b:List α),(a::b).map f=f a::b.map f)/\(∀(α β:Type) (f:α->β),[].map f=[])/\
  (∀(α:Type) (a:α) (b c:List α),(a::b)++c=a::(b++c))/\(∀(α:Type) (c:List α),[]++c=c)/\(∀n,bk n=[.int n])/\(∀n,xd n=[.bool n])/\(∀n,cG n=[.str n])/\(∀(α:Type) (f:α->List L) (c:List α),dO f c=[.sl (c.map f)])/\
  (∀(α β:Type) (f:α->β) (l:List α) (i:Nat) (a:α),(l.set i a).map f=(l.map f).set i (f a))/\(∀(α β:Type) (f:α->β) (l:List α) (i:Nat),(l.take i).map f=(l.map f).take i)/\(∀(α β:Type) (f:α->β) (l:List α) (i:Nat),(l.drop i).map f=(l.map f).drop i):=
 ⟨fun _ _ _ _ _=>List.map_append ..,fun _ _ _ _ _=>rfl,fun _ _ _=>rfl,fun _ _ _ _=>rfl,fun _ _=>rfl,fun _=>rfl,fun _=>rfl,fun _=>rfl,fun _ _ _=>rfl,fun _ _ _ _ _ _=>List.map_set ..,fun _ _ _ _ _=>List.map_take ..,fun _ _ _ _ _=>List.map_drop ..⟩
theorem LN:(∀(a:Nat) (l:List Nat),(a::l).sum=a+l.sum)/\(([]:List Nat).sum=0)/\(∀(α β:Type) (f:α->β) (a:α) (b:List α),(a::b).map f=f a::b.map f)/\(∀(α β:Type) (f:α->β),[].map f=[])/\(∀s,(jg s).length=s.size)/\(∀s,(iG s).length=s.size)/\
  (∀(α:Type) (a b:List α),(a++b).length=a.length+b.length)/\(∀(α:Type) (a:α) (b:List α),(a::b).length=b.length+1)/\(∀(α:Type),([]:List α).length=0)/\(∀(α β:Type) (f:α->β) (l:List α),(l.map f).length=l.length)/\
  (∀(α:Type) (l:List α) (i:Nat) (a:α),(l.set i a).length=l.length)/\(∀(α:Type) (n:Nat) (a:α),(List.replicate n a).length=n)/\(∀(α:Type) (l:List α) (i:Nat),(l.take i).length=min i l.length)/\(∀(α:Type) (l:List α) (i:Nat),(l.drop i).length=l.length - i):=
 ⟨fun _ _=>List.sum_cons,rfl,fun _ _ _ _ _=>rfl,fun _ _ _=>rfl,gV,rH,fun _ _ _=>List.length_append ..,fun _ _ _=>rfl,fun _=>rfl,fun _ _ _ _=>List.length_map ..,fun _ _ _ _=>List.length_set ..,fun _ _ _=>List.length_replicate ..,fun _ _ _=>List.length_take ..,fun _ _ _=>List.length_drop ..⟩
theorem DC:(∀(α:Type) [BEq α] [LawfulBEq α] (a b:α),((a != b)=false)=(a=b))/\(∀(α:Type) [BEq α] [LawfulBEq α] (a b:α),((a != b)=true)=¬(a=b))/\(∀(α:Type) [BEq α] [LawfulBEq α] (a b:α),((a==b)=true)=(a=b))/\(∀(α:Type) [BEq α] [LawfulBEq α] (a b:α),((a==b)=false)=¬(a=b))/\
  (∀b:Bool,((!b)=true)=(b=false))/\(∀b:Bool,((!b)=false)=(b=true))/\(∀(p:Prop) [Decidable p],(decide p=true)=p)/\(∀(p:Prop) [Decidable p],(decide p=false)=¬p):=
 ⟨fun _ _ _ _ _=>by simp,fun _ _ _ _ _=>by simp,fun _ _ _ _ _=>by simp,fun _ _ _ _ _=>by simp,fun b=>by simp,fun b=>by simp,fun p _=>by simp,fun p _=>by simp⟩
theorem A6 {b c:Bool}:(cond b false c)=(!b&&c):=by cases b<;>rfl
theorem wi (n:Int)(h:-9223372036854775808<=n/\n<=9223372036854775807):IntKind.i64.wrap n=n:=Go.IntWalk.i64_in n h
theorem kZ {α S β:Type}{f g:Nat->α->S->S⊕β}{t u:S->β}:∀{xs:List α} {i:Nat} {s:S},(∀i,∀x∈xs,∀s,f i x s=g i x s)->(∀s,t s=u s)->dW f t i xs s=dW g u i xs s
 | [],_,s,_,h0=>h0 s
 | x::xs,i,s,h,h0=>by
  unfold dW
  rw [h i x (by simp) s]
  cases g i x s with
  | inl s'=>exact kZ (fun i y hy=>h i y (by simp [hy])) h0
  | inr b=>rfl
end Go.DM
namespace Go.DM
def eJ (n:Int):Prop:=-9223372036854775808<=n/\n<=9223372036854775807
theorem cD (n:Int):eJ (IntKind.i64.wrap n):=by rw [IntKind.wrap_i64];unfold eJ;omega
end Go.DM
namespace Go.DM
def jl {α β:Type}(f:α->Int->Int×β):List α->Int->Int×List β
 | [],k=>(k,[])
 | x::xs,k=>((jl f xs (f x k).1).1,(f x k).2::(jl f xs (f x k).1).2)
theorem jG {α β:Type}{f:α->Int->Int×β}{I:Int->Prop}(h:∀x k,I k->I (f x k).1):∀{xs:List α} {k:Int},I k->I (jl f xs k).1
 | [],_,hk=>hk
 | x::xs,k,hk=>jG h (xs:=xs) (h x k hk)
theorem rJ {α:Type}{c:List α}{i:Nat}{y:α}:(c.set i y).drop (i+1)=c.drop (i+1):=by
 apply List.ext_getElem?
 intro j
 rw [List.getElem?_drop,List.getElem?_drop,List.getElem?_set,if_neg (by omega)]
theorem gq {Pt α:Type}{step:(Pt->aI)->Pt->aI}{pt:Nat->Int->List α->Pt}{el:α->Int->Int×α}{out:Int×List α->aI}{xs:List α}(z:α)(I:Int->Prop)(hI:∀x k,I k->I (el x k).1)
  (h1:∀(J:Pt->aI) (i:Nat) (k:Int) (c:List α),i<c.length->c.length=xs.length->I k->step J (pt i k c)=J (pt (i+1) (el (c.getD i z) k).1 (c.set i (el (c.getD i z) k).2)))
  (h0:∀(J:Pt->aI) (k:Int) (c:List α),c.length=xs.length->step J (pt c.length k c)=out (k,c)) {k:Int} (hk:I k):∃m,iter step m (pt 0 k xs)=out (jl el xs k):=by
 have key:∀(n i:Nat) (c:List α) (k:Int),i+n=c.length->c.length=xs.length->I k->∃m,iter step m (pt i k c)=out ((jl el (c.drop i) k).1,c.take i++(jl el (c.drop i) k).2):=by
  intro n
  induction n with
  | zero=>
   intro i c k hi hc hk
   have :i=c.length:=by omega
   subst this
   refine ⟨1,(h0 _ k c hc).trans ?_⟩
   rw [List.drop_eq_nil_of_le (Nat.le_refl _),List.take_of_length_le (Nat.le_refl _)]
   simp [jl]
  | succ n ih=>
   intro i c k hi hc hk
   have hlt:i<c.length:=by omega
   obtain ⟨m,hm⟩:=ih (i+1) (c.set i (el (c.getD i z) k).2) (el (c.getD i z) k).1 (by simp;omega) (by simp [hc]) (hI _ _ hk)
   refine ⟨m+1,(h1 _ i k c hlt hc hk).trans (hm.trans ?_)⟩
   rw [rJ,take_set hlt,List.drop_eq_getElem_cons hlt,eS hlt]
   simp [jl]
 have:=key xs.length 0 xs k (by omega) rfl hk
 simpa using this
def jw {α:Type}(f:α->Int->Option Int):List α->Int->Int
 | [],k=>k
 | x::xs,k=>match f x k with
  | some k'=>jw f xs k'
  | none=>-1
def yx:Option Int->(Int->aI)->aI
 | none,_=>ret (-1:Int)
 | some k,K=>K k
theorem bN {c:Bool}{x y:aI}{r:Option Int}{K:Int->aI}(h1:x=ret (-1:Int))(h2:y=yx r K):(cond c x y)=yx (cond c none r) K:=by
 cases c
 ·exact h2
 ·exact h1
theorem jt {Pt α:Type}{step:(Pt->aI)->Pt->aI}{pt:Nat->Int->Pt}{f:α->Int->Option Int}{xs:List α}(z:α)(I:Int->Prop)(hI:∀x k k',I k->f x k=some k'->I k')
  (h1:∀(J:Pt->aI) (i:Nat) (k:Int),i<xs.length->I k->step J (pt i k)=yx (f (xs.getD i z) k) (fun k'=>J (pt (i+1) k')))
  (h0:∀(J:Pt->aI) (k:Int),step J (pt xs.length k)=ret k) {k:Int} (hk:I k):∃m,iter step m (pt 0 k)=ret (jw f xs k):=by
 have key:∀(n i:Nat) (k:Int),i+n=xs.length->I k->∃m,iter step m (pt i k)=ret (jw f (xs.drop i) k):=by
  intro n
  induction n with
  | zero=>
   intro i k hi hk
   have :i=xs.length:=by omega
   subst this
   refine ⟨1,(h0 _ k).trans ?_⟩
   rw [List.drop_eq_nil_of_le (Nat.le_refl _)];rfl
  | succ n ih=>
   intro i k hi hk
   have hlt:i<xs.length:=by omega
   rw [List.drop_eq_getElem_cons hlt]
   have h:=fun J=>h1 J i k hlt hk
   rw [eS hlt] at h
   unfold jw
   cases hf:f xs[i] k with
   | none=>refine ⟨1,(h _).trans ?_⟩;rw [hf];rfl
   | some k'=>
    obtain ⟨m,hm⟩:=ih (i+1) k' (by omega) (hI _ _ _ hk hf)
    refine ⟨m+1,(h _).trans ?_⟩
    rw [hf];exact hm
 have:=key xs.length 0 k (by omega) hk
 simpa using this
theorem bL {c:Bool}{r:Option Int}{k:Int}(h:(cond c none r)=some k):r=some k:=by
 cases c
 ·exact h
 ·cases h
def oY:Option Int->Int
 | none=>-1
 | some k=>k
theorem gN {c:Bool}{x y:aI}{r:Option Int}(h1:x=ret (-1:Int))(h2:y=ret (oY r)):(cond c x y)=ret (oY (cond c none r)):=by
 cases c
 ·exact h2
 ·exact h1
theorem kH {α:Type}{f:α->Int->Option Int}{I:Int->Prop}(hI:∀x k k',I k->f x k=some k'->I k')(hn:I (-1)):∀{xs:List α} {k:Int},I k->I (jw f xs k)
 | [],_,hk=>hk
 | x::xs,k,hk=>by
  unfold jw
  cases hf:f x k with
  | none=>exact hn
  | some k'=>exact kH hI hn (hI _ _ _ hk hf)
theorem gE {α:Type}{el:α->Int->Int×α}{cnt:α->Nat}(h:∀x k,0<=k->k+(cnt x:Int)<=4611686018427387904->(el x k).1=k+cnt x) :
  ∀(xs:List α) (k:Int),0<=k->k+((xs.map cnt).sum:Int)<=4611686018427387904->(jl el xs k).1=k+(xs.map cnt).sum
 | [],k,_,_=>by simp [jl]
 | x::xs,k,h0,hb=>by
  simp only [List.map_cons,List.sum_cons,Int.natCast_add] at hb ⊢
  have e1:=h x k h0 (by omega)
  have e3:=gE h xs (k+cnt x) (by omega) (by omega)
  simp only [jl,e1]
  rw [e3];omega
theorem iI {α:Type}{el:α->Int->Int×α}{f:α->Int->Option Int}{cnt:α->Nat}(h:∀x k,0<=k->k+(cnt x:Int)<=4611686018427387904->(el x k).1=k+cnt x)
  (h2:∀x k,0<=k->k+(cnt x:Int)<=4611686018427387904->f (el x k).2 k=some (k+cnt x)) :
  ∀(xs:List α) (k:Int),0<=k->k+((xs.map cnt).sum:Int)<=4611686018427387904->jw f (jl el xs k).2 k=k+(xs.map cnt).sum
 | [],k,_,_=>by simp [jl,jw]
 | x::xs,k,h0,hb=>by
  simp only [List.map_cons,List.sum_cons,Int.natCast_add] at hb ⊢
  have e1:=h x k h0 (by omega)
  have e2:=h2 x k h0 (by omega)
  have e4:=iI h h2 xs (k+cnt x) (by omega) (by omega)
  simp only [jl,jw,e1,e2]
  rw [e4];omega
theorem jH {α:Type}{cnt f:α->Nat}(h:∀x,cnt x<=60+60*f x):∀xs:List α,(xs.map cnt).sum<=60*dU f xs
 | []=>by simp
 | x::xs=>by
  have h1:=h x
  have h2:=jH h xs
  unfold dU at h2 ⊢
  simp only [List.map_cons,List.sum_cons,List.length_cons]
  omega
theorem og {α:Type}{f:α->Nat}{xs:List α}{i:Nat}{z:α}(h:i<xs.length):f (xs.getD i z)<=dU f xs:=by
 rw [eS h]
 have:=tD (f:=f) (List.getElem_mem h)
 unfold dU
 omega
theorem nV {α:Type}{f:α->Nat}{xs:List α}{i:Nat}{z:α}(hz:f z=0):f (xs.getD i z)<=dU f xs:=by
 by_cases h:i<xs.length
 ·exact og h
 ·rw [List.getD_eq_getElem?_getD,List.getElem?_eq_none (by omega)]
  show f z<=_
  omega
theorem wE {α:Type}{f:α->Nat}:∀(xs:List α) (i:Nat) (y:α),dU f (xs.set i y)<=dU f xs+(f y+1)
 | [],_,_=>by simp [dU]
 | x::xs,0,y=>by simp [dU];omega
 | x::xs,i+1,y=>by
  have:=wE (f:=f) xs i y
  simp [dU] at this ⊢
  omega
theorem uF {α:Type}{f:α->Nat}(xs:List α)(y:α):dU f (xs++[y])<=dU f xs+(f y+1):=by simp [dU];omega
theorem qA:∀xs:List Int,dU (fun _:Int=>0) xs=xs.length
 | []=>rfl
 | x::xs=>by
  have:=qA xs
  simp only [dU,List.length_cons,List.map_cons,List.sum_cons] at this ⊢
  omega
theorem bM.set {α:Type}{n:Nat}{p:α->Prop}{xs:List α}{i:Nat}{y:α}(h:bM n p xs)(g:p y):bM n p (xs.set i y):=
 ⟨by rw [List.length_set];exact h.1,fun x hx=>(List.mem_or_eq_of_mem_set hx).elim (h.2 x) fun e=>e ▸ g⟩
theorem bM.app {α:Type}{n a b:Nat}{p:α->Prop}{xs ys:List α}(h:bM a p xs)(g:bM b p ys)(hn:a+b<=n):bM n p (xs++ys):=
 ⟨by rw [List.length_append];have:=h.1;have:=g.1;omega,fun x hx=>(List.mem_append.1 hx).elim (h.2 x) (g.2 x)⟩
theorem bM.vO {α:Type}{n:Nat}{p:α->Prop}{xs:List α}{i:Nat}{z:α}(h:bM n p xs)(hz:p z):p (xs.getD i z):=by
 by_cases hi:i<xs.length
 ·exact bM.getD h hi
 ·rw [List.getD_eq_getElem?_getD,List.getElem?_eq_none (by omega)];exact hz
theorem bM.one {α:Type}{p:α->Prop}{y:α}(h:p y):bM 1 p [y]:=⟨Nat.le_refl _,fun x hx=>by rw [List.mem_singleton.1 hx];exact h⟩
theorem jL:eJ (-1):=⟨by decide,by decide⟩
theorem kK:eJ 1:=⟨by decide,by decide⟩
theorem qx {α S β γ:Type}{f:Nat->α->S->S⊕β}{t:S->β}{g:α->S->S⊕γ}{u:S->γ}{p:β->γ}(h:∀i x s,(f i x s).map id p=g x s)(h0:∀s,p (t s)=u s) :
  ∀(xs:List α) (i:Nat) (s:S),p (dW f t i xs s)=ep g u xs s
 | [],i,s=>h0 s
 | x::xs,i,s=>by
  have hx:=h i x s
  unfold dW ep
  rw [<-hx]
  cases f i x s with
  | inl s'=>exact qx h h0 xs (i+1) s'
  | inr b=>rfl
theorem lm {n:Int}(h:n<=140737488355328:=by (try simp (disch:=omega) only [LN,wi,Bool.cond_decide]);first | omega | (simp;done) | (simp;omega)):ff n=true:=iP h
theorem dt {p:Prop}{_:Decidable p}(h:p:=by (try simp (disch:=omega) only [LN,wi,Bool.cond_decide]);first | omega | (simp;done) | (simp;omega)):decide p=true:=decide_eq_true h
theorem df {p:Prop}{_:Decidable p}(h:¬p:=by (try simp (disch:=omega) only [LN,wi,Bool.cond_decide]);first | omega | (simp;done) | (simp;omega)):decide p=false:=decide_eq_false h
theorem om {p:Prop}(h:p:=by (try simp (disch:=omega) only [LN,wi,Bool.cond_decide]);first | omega | (simp;done) | (simp;omega)):p:=h
theorem ct {γ:Type}[RT γ]{o:Option γ}{b:γ}{k:γ->aI}{r:aI}(h:o=some b)(hk:k b=r):call o k=r:=bg b h hk
theorem cx {γ:Type}[RT γ]{o:Option γ}{b:γ}{k:Nat->γ->aI}{r:aI}(h:o=some b)(hk:∃n,k n b=r):∃n,call o (k n)=r:=fm b h hk
theorem cr {S β γ:Type}[RT γ]{K:S->aI}{out:β->aI}{Q:S->Prop}{o:Option γ}{b:γ}{k:γ->aI}{r:S⊕β}(h:o=some b)(hk:bB (k b) K out Q r):bB (DM.call o k) K out Q r:=bB.bg b h hk
theorem W1 {A A' Z Z':Type}[Im A A'][RT A'][Im Z Z'][RT Z']{P:Program}{T:List (Nat×TI)}{G:List (Nat×ga)}{f:FuncId}{fn:Func}{ps:List gj}{r:RP}{g:A->Prop}{m:A->Z}(nt:Nat)(F:A'->aI)(hm:P.follows .mixedOrders=true)(hT:eN P T=true)(ok:∀a0,g a0->F (Im.im a0)=ret (Im.im (m a0)))(hG:gH P (dI T) G)(hf:P.funcs[f]?=some fn)
  (hb:rz fn (CN ps r (RT.dec:List L->A') (RR g m)) nt=true:=by kernel_rfl) (hr:∀n ls,eO { T:=assoc T,G:=dD G,nt:=nt } (fun _=>[]) fn r n (dc ps ls)=F (RT.dec ls:A'):=by intro _ _;kernel_rfl):Valid P (dI T) f (CN ps r (RT.dec:List L->A') (RR g m)):=
 VV (run:=fun _ x=>F x) hm hT hG hf hb hr fun _ a _ _ h=>⟨0,ok a h⟩
theorem L1 {A A' Z Z':Type}[Im A A'][RT A'][Im Z Z'][RT Z']{P:Program}{T:List (Nat×TI)}{G:List (Nat×ga)}{f:FuncId}{fn:Func}{ps:List gj}{r:RP}{g:A->Prop}{m:A->Z}{Pt:Type}(nt:Nat)(id:Pt->Nat)(vs:Pt->List V)(hs:Pt->List aY)(live:Nat->Live)(step:(Pt->aI)->Pt->aI)(start:(Pt->aI)->A'->aI)(hm:P.follows .mixedOrders=true)(hT:eN P T=true)(ok:∀a0,g a0->∃n,start (iter step n) (Im.im a0)=ret (Im.im (m a0)))(hG:gH P (dI T) G)(hf:P.funcs[f]?=some fn)
  (hb:rz fn (CN ps r (RT.dec:List L->A') (RR g m)) nt=true:=by kernel_rfl) (h1:∀(I:cI) (p:Pt),cY { T:=assoc T,G:=dD G,nt:=nt } live I (id p) (bQ fn) (fH (live (id p)) (vs p) (hs p)) (cH { T:=assoc T,G:=dD G,nt:=nt } fn r)=step (fun q=>I (id q) (vs q) (hs q)) p:=by intro _ p;cases p<;>kernel_rfl)
  (h0:∀(I:cI) (ls:List L),eW { T:=assoc T,G:=dD G,nt:=nt } live I (bQ fn) (dc ps ls) (cH { T:=assoc T,G:=dD G,nt:=nt } fn r)=start (fun q=>I (id q) (vs q) (hs q)) (RT.dec ls:A'):=by intro _ _;kernel_rfl):Valid P (dI T) f (CN ps r (RT.dec:List L->A') (RR g m)):=
 VV (run:=fun n x=>start (iter step n) x) hm hT hG hf hb (fun n ls=>cA (start:=fun J=>start J (RT.dec ls:A')) h1 (fun I=>h0 I ls) n) fun _ a _ _ h=>ok a h
theorem W2 {A A' B B' Z Z':Type}[Im A A'][RT A'][Im B B'][RT B'][Im Z Z'][RT Z']{P:Program}{T:List (Nat×TI)}{G:List (Nat×ga)}{f:FuncId}{fn:Func}{ps:List gj}{r:RP}{g:A->B->Prop}{m:A->B->Z}(nt:Nat)(F:A'->B'->aI)(hm:P.follows .mixedOrders=true)(hT:eN P T=true)(ok:∀a0 a1,g a0 a1->F (Im.im a0) (Im.im a1)=ret (Im.im (m a0 a1)))(hG:gH P (dI T) G)(hf:P.funcs[f]?=some fn)
  (hb:rz fn (CN ps r (RT.dec:List L->A'×B') (RR (p2 g) (u2 m))) nt=true:=by kernel_rfl) (hr:∀n ls,eO { T:=assoc T,G:=dD G,nt:=nt } (fun _=>[]) fn r n (dc ps ls)=F (RT.dec ls:A'×B').1 (RT.dec ls:A'×B').2:=by intro _ _;kernel_rfl):Valid P (dI T) f (CN ps r (RT.dec:List L->A'×B') (RR (p2 g) (u2 m))):=
 VV (run:=fun _ x=>F x.1 x.2) hm hT hG hf hb hr fun _ a _ _ h=>⟨0,ok a.1 a.2 h⟩
theorem L2 {A A' B B' Z Z':Type}[Im A A'][RT A'][Im B B'][RT B'][Im Z Z'][RT Z']{P:Program}{T:List (Nat×TI)}{G:List (Nat×ga)}{f:FuncId}{fn:Func}{ps:List gj}{r:RP}{g:A->B->Prop}{m:A->B->Z}{Pt:Type}(nt:Nat)(id:Pt->Nat)(vs:Pt->List V)(hs:Pt->List aY)(live:Nat->Live)(step:(Pt->aI)->Pt->aI)(start:(Pt->aI)->A'->B'->aI)(hm:P.follows .mixedOrders=true)(hT:eN P T=true)(ok:∀a0 a1,g a0 a1->∃n,start (iter step n) (Im.im a0) (Im.im a1)=ret (Im.im (m a0 a1)))(hG:gH P (dI T) G)(hf:P.funcs[f]?=some fn)
  (hb:rz fn (CN ps r (RT.dec:List L->A'×B') (RR (p2 g) (u2 m))) nt=true:=by kernel_rfl) (h1:∀(I:cI) (p:Pt),cY { T:=assoc T,G:=dD G,nt:=nt } live I (id p) (bQ fn) (fH (live (id p)) (vs p) (hs p)) (cH { T:=assoc T,G:=dD G,nt:=nt } fn r)=step (fun q=>I (id q) (vs q) (hs q)) p:=by intro _ p;cases p<;>kernel_rfl)
  (h0:∀(I:cI) (ls:List L),eW { T:=assoc T,G:=dD G,nt:=nt } live I (bQ fn) (dc ps ls) (cH { T:=assoc T,G:=dD G,nt:=nt } fn r)=start (fun q=>I (id q) (vs q) (hs q)) (RT.dec ls:A'×B').1 (RT.dec ls:A'×B').2:=by intro _ _;kernel_rfl):Valid P (dI T) f (CN ps r (RT.dec:List L->A'×B') (RR (p2 g) (u2 m))):=
 VV (run:=fun n x=>start (iter step n) x.1 x.2) hm hT hG hf hb (fun n ls=>cA (start:=fun J=>start J (RT.dec ls:A'×B').1 (RT.dec ls:A'×B').2) h1 (fun I=>h0 I ls) n) fun _ a _ _ h=>ok a.1 a.2 h
theorem W3 {A A' B B' C C' Z Z':Type}[Im A A'][RT A'][Im B B'][RT B'][Im C C'][RT C'][Im Z Z'][RT Z']{P:Program}{T:List (Nat×TI)}{G:List (Nat×ga)}{f:FuncId}{fn:Func}{ps:List gj}{r:RP}{g:A->B->C->Prop}{m:A->B->C->Z}(nt:Nat)(F:A'->B'->C'->aI)(hm:P.follows .mixedOrders=true)(hT:eN P T=true)(ok:∀a0 a1 a2,g a0 a1 a2->F (Im.im a0) (Im.im a1) (Im.im a2)=ret (Im.im (m a0 a1 a2)))(hG:gH P (dI T) G)(hf:P.funcs[f]?=some fn)
  (hb:rz fn (CN ps r (RT.dec:List L->A'×B'×C') (RR (p3 g) (u3 m))) nt=true:=by kernel_rfl) (hr:∀n ls,eO { T:=assoc T,G:=dD G,nt:=nt } (fun _=>[]) fn r n (dc ps ls)=F (RT.dec ls:A'×B'×C').1 (RT.dec ls:A'×B'×C').2.1 (RT.dec ls:A'×B'×C').2.2:=by intro _ _;kernel_rfl):Valid P (dI T) f (CN ps r (RT.dec:List L->A'×B'×C') (RR (p3 g) (u3 m))):=
 VV (run:=fun _ x=>F x.1 x.2.1 x.2.2) hm hT hG hf hb hr fun _ a _ _ h=>⟨0,ok a.1 a.2.1 a.2.2 h⟩
theorem L3 {A A' B B' C C' Z Z':Type}[Im A A'][RT A'][Im B B'][RT B'][Im C C'][RT C'][Im Z Z'][RT Z']{P:Program}{T:List (Nat×TI)}{G:List (Nat×ga)}{f:FuncId}{fn:Func}{ps:List gj}{r:RP}{g:A->B->C->Prop}{m:A->B->C->Z}{Pt:Type}(nt:Nat)(id:Pt->Nat)(vs:Pt->List V)(hs:Pt->List aY)(live:Nat->Live)(step:(Pt->aI)->Pt->aI)(start:(Pt->aI)->A'->B'->C'->aI)(hm:P.follows .mixedOrders=true)(hT:eN P T=true)(ok:∀a0 a1 a2,g a0 a1 a2->∃n,start (iter step n) (Im.im a0) (Im.im a1) (Im.im a2)=ret (Im.im (m a0 a1 a2)))(hG:gH P (dI T) G)(hf:P.funcs[f]?=some fn)
  (hb:rz fn (CN ps r (RT.dec:List L->A'×B'×C') (RR (p3 g) (u3 m))) nt=true:=by kernel_rfl) (h1:∀(I:cI) (p:Pt),cY { T:=assoc T,G:=dD G,nt:=nt } live I (id p) (bQ fn) (fH (live (id p)) (vs p) (hs p)) (cH { T:=assoc T,G:=dD G,nt:=nt } fn r)=step (fun q=>I (id q) (vs q) (hs q)) p:=by intro _ p;cases p<;>kernel_rfl)
  (h0:∀(I:cI) (ls:List L),eW { T:=assoc T,G:=dD G,nt:=nt } live I (bQ fn) (dc ps ls) (cH { T:=assoc T,G:=dD G,nt:=nt } fn r)=start (fun q=>I (id q) (vs q) (hs q)) (RT.dec ls:A'×B'×C').1 (RT.dec ls:A'×B'×C').2.1 (RT.dec ls:A'×B'×C').2.2:=by intro _ _;kernel_rfl):Valid P (dI T) f (CN ps r (RT.dec:List L->A'×B'×C') (RR (p3 g) (u3 m))):=
 VV (run:=fun n x=>start (iter step n) x.1 x.2.1 x.2.2) hm hT hG hf hb (fun n ls=>cA (start:=fun J=>start J (RT.dec ls:A'×B'×C').1 (RT.dec ls:A'×B'×C').2.1 (RT.dec ls:A'×B'×C').2.2) h1 (fun I=>h0 I ls) n) fun _ a _ _ h=>ok a.1 a.2.1 a.2.2 h
theorem W4 {A A' B B' C C' D D' Z Z':Type}[Im A A'][RT A'][Im B B'][RT B'][Im C C'][RT C'][Im D D'][RT D'][Im Z Z'][RT Z']{P:Program}{T:List (Nat×TI)}{G:List (Nat×ga)}{f:FuncId}{fn:Func}{ps:List gj}{r:RP}{g:A->B->C->D->Prop}{m:A->B->C->D->Z}(nt:Nat)(F:A'->B'->C'->D'->aI)(hm:P.follows .mixedOrders=true)(hT:eN P T=true)(ok:∀a0 a1 a2 a3,g a0 a1 a2 a3->F (Im.im a0) (Im.im a1) (Im.im a2) (Im.im a3)=ret (Im.im (m a0 a1 a2 a3)))(hG:gH P (dI T) G)(hf:P.funcs[f]?=some fn)
  (hb:rz fn (CN ps r (RT.dec:List L->A'×B'×C'×D') (RR (p4 g) (u4 m))) nt=true:=by kernel_rfl) (hr:∀n ls,eO { T:=assoc T,G:=dD G,nt:=nt } (fun _=>[]) fn r n (dc ps ls)=F (RT.dec ls:A'×B'×C'×D').1 (RT.dec ls:A'×B'×C'×D').2.1 (RT.dec ls:A'×B'×C'×D').2.2.1 (RT.dec ls:A'×B'×C'×D').2.2.2:=by intro _ _;kernel_rfl):Valid P (dI T) f (CN ps r (RT.dec:List L->A'×B'×C'×D') (RR (p4 g) (u4 m))):=
 VV (run:=fun _ x=>F x.1 x.2.1 x.2.2.1 x.2.2.2) hm hT hG hf hb hr fun _ a _ _ h=>⟨0,ok a.1 a.2.1 a.2.2.1 a.2.2.2 h⟩
theorem L4 {A A' B B' C C' D D' Z Z':Type}[Im A A'][RT A'][Im B B'][RT B'][Im C C'][RT C'][Im D D'][RT D'][Im Z Z'][RT Z']{P:Program}{T:List (Nat×TI)}{G:List (Nat×ga)}{f:FuncId}{fn:Func}{ps:List gj}{r:RP}{g:A->B->C->D->Prop}{m:A->B->C->D->Z}{Pt:Type}(nt:Nat)(id:Pt->Nat)(vs:Pt->List V)(hs:Pt->List aY)(live:Nat->Live)(step:(Pt->aI)->Pt->aI)(start:(Pt->aI)->A'->B'->C'->D'->aI)(hm:P.follows .mixedOrders=true)(hT:eN P T=true)(ok:∀a0 a1 a2 a3,g a0 a1 a2 a3->∃n,start (iter step n) (Im.im a0) (Im.im a1) (Im.im a2) (Im.im a3)=ret (Im.im (m a0 a1 a2 a3)))(hG:gH P (dI T) G)(hf:P.funcs[f]?=some fn)
  (hb:rz fn (CN ps r (RT.dec:List L->A'×B'×C'×D') (RR (p4 g) (u4 m))) nt=true:=by kernel_rfl) (h1:∀(I:cI) (p:Pt),cY { T:=assoc T,G:=dD G,nt:=nt } live I (id p) (bQ fn) (fH (live (id p)) (vs p) (hs p)) (cH { T:=assoc T,G:=dD G,nt:=nt } fn r)=step (fun q=>I (id q) (vs q) (hs q)) p:=by intro _ p;cases p<;>kernel_rfl)
  (h0:∀(I:cI) (ls:List L),eW { T:=assoc T,G:=dD G,nt:=nt } live I (bQ fn) (dc ps ls) (cH { T:=assoc T,G:=dD G,nt:=nt } fn r)=start (fun q=>I (id q) (vs q) (hs q)) (RT.dec ls:A'×B'×C'×D').1 (RT.dec ls:A'×B'×C'×D').2.1 (RT.dec ls:A'×B'×C'×D').2.2.1 (RT.dec ls:A'×B'×C'×D').2.2.2:=by intro _ _;kernel_rfl):Valid P (dI T) f (CN ps r (RT.dec:List L->A'×B'×C'×D') (RR (p4 g) (u4 m))):=
 VV (run:=fun n x=>start (iter step n) x.1 x.2.1 x.2.2.1 x.2.2.2) hm hT hG hf hb (fun n ls=>cA (start:=fun J=>start J (RT.dec ls:A'×B'×C'×D').1 (RT.dec ls:A'×B'×C'×D').2.1 (RT.dec ls:A'×B'×C'×D').2.2.1 (RT.dec ls:A'×B'×C'×D').2.2.2) h1 (fun I=>h0 I ls) n) fun _ a _ _ h=>ok a.1 a.2.1 a.2.2.1 a.2.2.2 h
theorem W5 {A A' B B' C C' D D' X X' Z Z':Type}[Im A A'][RT A'][Im B B'][RT B'][Im C C'][RT C'][Im D D'][RT D'][Im X X'][RT X'][Im Z Z'][RT Z']{P:Program}{T:List (Nat×TI)}{G:List (Nat×ga)}{f:FuncId}{fn:Func}{ps:List gj}{r:RP}{g:A->B->C->D->X->Prop}{m:A->B->C->D->X->Z}(nt:Nat)(F:A'->B'->C'->D'->X'->aI)(hm:P.follows .mixedOrders=true)(hT:eN P T=true)(ok:∀a0 a1 a2 a3 a4,g a0 a1 a2 a3 a4->F (Im.im a0) (Im.im a1) (Im.im a2) (Im.im a3) (Im.im a4)=ret (Im.im (m a0 a1 a2 a3 a4)))(hG:gH P (dI T) G)(hf:P.funcs[f]?=some fn)
  (hb:rz fn (CN ps r (RT.dec:List L->A'×B'×C'×D'×X') (RR (p5 g) (u5 m))) nt=true:=by kernel_rfl) (hr:∀n ls,eO { T:=assoc T,G:=dD G,nt:=nt } (fun _=>[]) fn r n (dc ps ls)=F (RT.dec ls:A'×B'×C'×D'×X').1 (RT.dec ls:A'×B'×C'×D'×X').2.1 (RT.dec ls:A'×B'×C'×D'×X').2.2.1 (RT.dec ls:A'×B'×C'×D'×X').2.2.2.1 (RT.dec ls:A'×B'×C'×D'×X').2.2.2.2:=by intro _ _;kernel_rfl):Valid P (dI T) f (CN ps r (RT.dec:List L->A'×B'×C'×D'×X') (RR (p5 g) (u5 m))):=
 VV (run:=fun _ x=>F x.1 x.2.1 x.2.2.1 x.2.2.2.1 x.2.2.2.2) hm hT hG hf hb hr fun _ a _ _ h=>⟨0,ok a.1 a.2.1 a.2.2.1 a.2.2.2.1 a.2.2.2.2 h⟩
theorem L5 {A A' B B' C C' D D' X X' Z Z':Type}[Im A A'][RT A'][Im B B'][RT B'][Im C C'][RT C'][Im D D'][RT D'][Im X X'][RT X'][Im Z Z'][RT Z']{P:Program}{T:List (Nat×TI)}{G:List (Nat×ga)}{f:FuncId}{fn:Func}{ps:List gj}{r:RP}{g:A->B->C->D->X->Prop}{m:A->B->C->D->X->Z}{Pt:Type}(nt:Nat)(id:Pt->Nat)(vs:Pt->List V)(hs:Pt->List aY)(live:Nat->Live)(step:(Pt->aI)->Pt->aI)(start:(Pt->aI)->A'->B'->C'->D'->X'->aI)(hm:P.follows .mixedOrders=true)(hT:eN P T=true)(ok:∀a0 a1 a2 a3 a4,g a0 a1 a2 a3 a4->∃n,start (iter step n) (Im.im a0) (Im.im a1) (Im.im a2) (Im.im a3) (Im.im a4)=ret (Im.im (m a0 a1 a2 a3 a4)))(hG:gH P (dI T) G)(hf:P.funcs[f]?=some fn)
  (hb:rz fn (CN ps r (RT.dec:List L->A'×B'×C'×D'×X') (RR (p5 g) (u5 m))) nt=true:=by kernel_rfl) (h1:∀(I:cI) (p:Pt),cY { T:=assoc T,G:=dD G,nt:=nt } live I (id p) (bQ fn) (fH (live (id p)) (vs p) (hs p)) (cH { T:=assoc T,G:=dD G,nt:=nt } fn r)=step (fun q=>I (id q) (vs q) (hs q)) p:=by intro _ p;cases p<;>kernel_rfl)
  (h0:∀(I:cI) (ls:List L),eW { T:=assoc T,G:=dD G,nt:=nt } live I (bQ fn) (dc ps ls) (cH { T:=assoc T,G:=dD G,nt:=nt } fn r)=start (fun q=>I (id q) (vs q) (hs q)) (RT.dec ls:A'×B'×C'×D'×X').1 (RT.dec ls:A'×B'×C'×D'×X').2.1 (RT.dec ls:A'×B'×C'×D'×X').2.2.1 (RT.dec ls:A'×B'×C'×D'×X').2.2.2.1 (RT.dec ls:A'×B'×C'×D'×X').2.2.2.2:=by intro _ _;kernel_rfl):Valid P (dI T) f (CN ps r (RT.dec:List L->A'×B'×C'×D'×X') (RR (p5 g) (u5 m))):=
 VV (run:=fun n x=>start (iter step n) x.1 x.2.1 x.2.2.1 x.2.2.2.1 x.2.2.2.2) hm hT hG hf hb (fun n ls=>cA (start:=fun J=>start J (RT.dec ls:A'×B'×C'×D'×X').1 (RT.dec ls:A'×B'×C'×D'×X').2.1 (RT.dec ls:A'×B'×C'×D'×X').2.2.1 (RT.dec ls:A'×B'×C'×D'×X').2.2.2.1 (RT.dec ls:A'×B'×C'×D'×X').2.2.2.2) h1 (fun I=>h0 I ls) n) fun _ a _ _ h=>ok a.1 a.2.1 a.2.2.1 a.2.2.2.1 a.2.2.2.2 h
theorem W6 {A A' B B' C C' D D' X X' Y Y' Z Z':Type}[Im A A'][RT A'][Im B B'][RT B'][Im C C'][RT C'][Im D D'][RT D'][Im X X'][RT X'][Im Y Y'][RT Y'][Im Z Z'][RT Z']{P:Program}{T:List (Nat×TI)}{G:List (Nat×ga)}{f:FuncId}{fn:Func}{ps:List gj}{r:RP}{g:A->B->C->D->X->Y->Prop}{m:A->B->C->D->X->Y->Z}(nt:Nat)(F:A'->B'->C'->D'->X'->Y'->aI)(hm:P.follows .mixedOrders=true)(hT:eN P T=true)(ok:∀a0 a1 a2 a3 a4 a5,g a0 a1 a2 a3 a4 a5->F (Im.im a0) (Im.im a1) (Im.im a2) (Im.im a3) (Im.im a4) (Im.im a5)=ret (Im.im (m a0 a1 a2 a3 a4 a5)))(hG:gH P (dI T) G)(hf:P.funcs[f]?=some fn)
  (hb:rz fn (CN ps r (RT.dec:List L->A'×B'×C'×D'×X'×Y') (RR (p6 g) (u6 m))) nt=true:=by kernel_rfl) (hr:∀n ls,eO { T:=assoc T,G:=dD G,nt:=nt } (fun _=>[]) fn r n (dc ps ls)=F (RT.dec ls:A'×B'×C'×D'×X'×Y').1 (RT.dec ls:A'×B'×C'×D'×X'×Y').2.1 (RT.dec ls:A'×B'×C'×D'×X'×Y').2.2.1 (RT.dec ls:A'×B'×C'×D'×X'×Y').2.2.2.1 (RT.dec ls:A'×B'×C'×D'×X'×Y').2.2.2.2.1 (RT.dec ls:A'×B'×C'×D'×X'×Y').2.2.2.2.2:=by intro _ _;kernel_rfl):Valid P (dI T) f (CN ps r (RT.dec:List L->A'×B'×C'×D'×X'×Y') (RR (p6 g) (u6 m))):=
 VV (run:=fun _ x=>F x.1 x.2.1 x.2.2.1 x.2.2.2.1 x.2.2.2.2.1 x.2.2.2.2.2) hm hT hG hf hb hr fun _ a _ _ h=>⟨0,ok a.1 a.2.1 a.2.2.1 a.2.2.2.1 a.2.2.2.2.1 a.2.2.2.2.2 h⟩
theorem iD {α:Type}{l:List α}{x:α}{i:Nat}(h:l.length<=i):(l++[x]).length<=i+1:=by rw [List.length_append];exact Nat.add_le_add_right h 1
def cq (c:Bool)(x:aI):aI:=bif c then x else none
def m2 (v n:Int)(x:aI):aI:=bif decide (0<=v) then (cond (decide (v<n)) x none) else none
def m3 (v n:Int)(x:aI):aI:=bif decide (0<=v) then (cond (decide (v<n)) (cond (Nat.beq (Int.toNat v) (Int.toNat v)&&true) x none) none) else none
theorem MM:(∀c x,cq c x=bif c then x else none)/\(∀v n x,m2 v n x=bif decide (0<=v) then (cond (decide (v<n)) x none) else none)/\(∀v n x,m3 v n x=bif decide (0<=v) then (cond (decide (v<n)) (cond (Nat.beq (Int.toNat v) (Int.toNat v)&&true) x none) none) else none):=⟨fun _ _=>rfl,fun _ _ _=>rfl,fun _ _ _=>rfl⟩
abbrev pI:gj:=.rd (.int .i64)
abbrev pS:gj:=.rd .str
abbrev pB:gj:=.rd .bool
abbrev pL (e:Nat):gj:=.rd (.sl e)
abbrev oI:RP:=.one (.rd (.int .i64))
abbrev oB:RP:=.one (.rd .bool)
abbrev oS:RP:=.one (.rd .str)
abbrev oL (e:Nat):RP:=.one (.fr e)
abbrev fI:Lf:=.rd (.int .i64)
abbrev fS:Lf:=.rd .str
abbrev fB:Lf:=.rd .bool
end Go.DM
set_option linter.unusedSectionVars false
namespace Go.DM
section
variable {P:Program} {E:Env} {w0 w w':World} {ans:List L}
end
section
variable {T:Nat->List K} {w w' w0:World} {A A':dL} {rs:List Nat} {np:Nat} {M:Mem np} {hp:Nat->aY}
end
section
variable {E:Env} {w0 w:World} {np:Nat} {M:Mem np} {A B:dL} {hp:Nat->aY} {ans:List L} {Z:Nat->Prop} {r:Nat}
end
section
variable {P:Program} {E:Env}
end
theorem bM.take {α:Type}{n k:Nat}{p:α->Prop}{xs:List α}(h:bM n p xs):bM n p (xs.take k):=⟨Nat.le_trans (by simp;omega) h.1,fun x hx=>h.2 x (List.mem_of_mem_take hx)⟩
theorem bM.drop {α:Type}{n k:Nat}{p:α->Prop}{xs:List α}(h:bM n p xs):bM n p (xs.drop k):=⟨Nat.le_trans (by simp) h.1,fun x hx=>h.2 x (List.mem_of_mem_drop hx)⟩
theorem bM.map {α β:Type}{n:Nat}{p:α->Prop}{q:β->Prop}{f:α->β}{xs:List α}(h:bM n p xs)(hf:∀x,p x->q (f x)):bM n q (xs.map f):=
 ⟨by rw [List.length_map];exact h.1,fun y hy=>by obtain ⟨x,hx,rfl⟩:=List.mem_map.1 hy;exact hf x (h.2 x hx)⟩
section
variable {P:Program} {T:List (Nat×TI)} {G:List (Nat×ga)} {S:List (Nat×gK)} {I:List (Nat×mu)} {nt:Nat} {mt:Bool} {J:List Nat}
end
section
variable {A A' B B':Type} [Im A A'] [Im B B'] {g:A->Prop} {m:A->B}
theorem VJ [RT B']{X:Type}{P:Program}{T:List (Nat×TI)}{G:List (Nat×ga)}{S:List (Nat×gK)}{I:List (Nat×mu)}{nt:Nat}{mt:Bool}{J:List Nat}{f:FuncId}{fn:Func}{ps:List gj}{r:RP}{acc:List L->A'}{accr:List L->X}{live:Nat->Live}{run:Nat->X->aI}
  (hm:P.follows .mixedOrders=true) (hT:eN P T=true) (hG:gH P (dI T) G) (hS:jX P (dI T) S) (hI:oM P (dI T) 0 I) (hf:P.funcs[f]?=some fn) (hb:rz fn (CN ps r acc (RR g m)) nt=true)
  (hrun:∀n ls,eO { T:=assoc T,G:=dD G,nt:=nt,M:=fZ S,mt:=mt,I:=nW I,J:=J } live fn r n (dc ps ls)=run n (accr ls))
  (hok:∀ls a,pT (dI T).cells ps ls->acc ls=Im.im a->g a->∃n,run n (accr ls)=ret (Im.im (m a))):Valid P (dI T) f (CN ps r acc (RR g m)):=
 wo hm hT hG hS hI hf hb live fun ls q hl h=>by
  obtain ⟨v,hv,hq⟩:=map_some h
  obtain ⟨a,hg,e,hm⟩:=kC hv
  obtain ⟨n,hn⟩:=hok ls a hl e.symm hg
  exact ⟨n,(hrun n ls).trans (hn.trans (by rw [<-hq,<-hm];rfl))⟩
end
end Go.DM

end
