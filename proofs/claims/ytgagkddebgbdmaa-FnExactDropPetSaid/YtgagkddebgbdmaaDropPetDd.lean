/- A small machine over the translated code, and the proof that what it computes the code does. Conditions: none. -/
import Derived.Test.YtgagkddebgbdmaaDropPetDc
import Derived.ChangeArms
import Derived.Deep.Slices
import Derived.DataReads
import Derived.Carry
import Derived.ChangeOld
import Derived.WideShapes
import Derived.ChangeShapes
import Derived.IntWalk
import Derived.Lib.SliceRun
set_option linter.all false
noncomputable section
set_option linter.unusedSectionVars false
namespace Go.DM
def assoc {α:Type}:List (Nat×α)->Nat->Option α
 | [],_=>none
 | (k,v)::l,i=>bif Nat.beq k i then some v else assoc l i
def jm {α:Type}:∀{l:List (Nat×α)} {i:Nat} {v:α},assoc l i=some v->(i,v)∈l
 | [],i,v,h=>by cases h
 | (k,u)::l,i,v,h=>by
  simp only [assoc] at h
  cases hb:Nat.beq k i<;>simp only [hb,ah,aq] at h
  ·exact List.mem_cons_of_mem _ (jm h)
  ·injection h with h;rw [Nat.eq_of_beq_eq_true hb,h];simp
def tj:Value->K->Bool
 | .int a n,.int b=>dn a b&&decide (n=0)
 | .bool b,.bool=>!b
 | .string ⟨⟨[]⟩⟩,.str=>true
 | .slice none 0 0,.sl _=>true
 | _,_=>false
def sD {v:Value}{k:K}(h:tj v k=true):v=eJ k:=by
 unfold tj at h
 split at h
 ·simp only [Bool.and_eq_true,decide_eq_true_eq] at h
  obtain ⟨h1,rfl⟩:=h
  rw [cB h1];rfl
 ·simp at h;subst h;rfl
 ·rfl
 ·rfl
 ·cases h
def nv:List Value->List K->Bool
 | [],[]=>true
 | v::vs,k::ks=>tj v k&&nv vs ks
 | _,_=>false
def mZ:∀{vs:List Value} {ks:List K},nv vs ks=true->vs=ks.map eJ
 | [],[],_=>rfl
 | [],_::_,h=>by cases h
 | _::_,[],h=>by cases h
 | v::vs,k::ks,h=>by
  simp only [nv,Bool.and_eq_true] at h
  rw [sD h.1,mZ h.2];rfl
def fR (P:Program)(T:Nat->Option TI):List Field->List (Nat×Nat)->Nat->List K->Bool
 | [],[],_,[]=>true
 | f::fs,p::ps,o,ks=>Nat.beq f.offset p.1&&(Nat.beq f.type p.2&&(Nat.beq p.1 o&&(match P.info? f.type with
  | some fi=>match T p.2 with
   | some ti=>Nat.beq fi.size ti.cells.length&&(kW (ks.take ti.cells.length) ti.cells&&fR P T fs ps (o+ti.cells.length) (ks.drop ti.cells.length))
   | none=>false
  | none=>false)))
 | _,_,_,_=>false
def dJ {P:Program}{E:Env}:∀{fs:List Field} {ps:List (Nat×Nat)} {o:Nat} {ks:List K},fR P E.T fs ps o ks=true->
  ∃places,fs.mapM (fun f=>(P.info? f.type).map fun i=>(f.offset,i.size))=some places/\fs.length=ps.length/\
   ∀(j:Nat) (p:Nat×Nat),ps[j]?=some p->∃f ti,fs[j]?=some f/\f.offset=p.1/\f.type=p.2/\E.T p.2=some ti/\places[j]?=some (p.1,(E.cells p.2).length)/\o<=p.1/\P.cellsOf f.type=ti.cells.length/\(∀l kk,ti.cells[l]?=some kk->ks[p.1 - o+l]?=some kk)/\p.1 - o+ti.cells.length<=ks.length
 | [],[],o,[],_=>⟨[],by simp,rfl,fun j p hp=>by simp at hp⟩
 | [],[],o,_::_,h=>by cases h
 | [],_::_,o,ks,h=>by cases h
 | _::_,[],o,ks,h=>by cases h
 | f::fs,p::ps,o,ks,h=>by
  simp only [fR,Bool.and_eq_true] at h
  obtain ⟨h1,h2,h3,h4⟩:=h
  split at h4
  ·rename_i fi hfi
   split at h4
   ·rename_i ti hti
    simp only [Bool.and_eq_true] at h4
    obtain ⟨h5,h6,h7⟩:=h4
    obtain ⟨places,g1,g2,g3⟩:=dJ h7
    have e1:=Nat.eq_of_beq_eq_true h1
    have e2:=Nat.eq_of_beq_eq_true h2
    have e3:=Nat.eq_of_beq_eq_true h3
    have e5:=Nat.eq_of_beq_eq_true h5
    have e6:=kU h6
    have hsz:fi.size=(E.cells p.2).length:=by simp [Env.cells,hti,e5]
    have hlen:ti.cells.length<=ks.length:=by rw [<-e6,List.length_take];exact Nat.min_le_right _ _
    refine ⟨(f.offset,fi.size)::places,by simp [hfi,g1],by simp [g2],fun j q hq=>?_⟩
    cases j with
    | zero=>
     simp at hq
     subst hq
     refine ⟨f,ti,rfl,e1,e2,hti,by simp [e1,hsz],by omega,by simp [Program.cellsOf,hfi,e5],fun l kk hl=>?_,by omega⟩
     have :(ks.take ti.cells.length)[l]?=some kk:=by rw [e6];exact hl
     rw [List.getElem?_take] at this
     rw [show p.1 - o+l=l by omega]
     split at this
     ·exact this
     ·cases this
    | succ j=>
     obtain ⟨f',ti',q1,q2,q3,q4,q5,q6,q7,q8,q9⟩:=g3 j q (by simpa using hq)
     refine ⟨f',ti',by simpa using q1,q2,q3,q4,by simpa using q5,by omega,q7,fun l kk hl=>?_,?_⟩
     ·have:=q8 l kk hl
      rw [List.getElem?_drop] at this
      rw [<-this];congr 1;omega
     ·rw [List.length_drop] at q9;omega
   ·cases h4
  ·cases h4
def wO (T:Nat->Option TI)(i:TI)(d:TypeDesc):Bool:=
 match i.el with
 | some e=>match d with
  | .slice e'=>Nat.beq e e'&&(T e).isSome
  | _=>false
 | none=>true
def rA (i:TI)(d:TypeDesc):Bool:=
 i.agg||(match i.cells with
  | [.int k]=>(match d with | .int k'=>dn k k' | _=>false)
  | [.bool]=>(match d with | .bool=>true | _=>false)
  | [.str]=>(match d with | .string=>true | _=>false)
  | [.sl e]=>(match d with | .slice e'=>Nat.beq e e' | _=>false)
  | _=>false)
def uT (P:Program)(k:K)(t:Nat):Bool:=
 match P.underlying t with
 | some (.int ik)=>(match k with | .int jk=>dn jk ik | _=>false)
 | some .bool=>(match k with | .bool=>true | _=>false)
 | some .string=>(match k with | .str=>true | _=>false)
 | _=>false
def gK (P:Program):List Field->Nat->List K->Bool
 | [],_,[]=>true
 | f :: fs, o, k :: ks => !(f.name == "_") && (Nat.beq f.offset o && (uT P k f.type && gK P fs (o + 1) ks))
 | _,_,_=>false
def gr {P : Program} : ∀ {fs : List Field} {o : Nat} {ks : List K}, gK P fs o ks = true -> fs.length = ks.length /\ ∀ (j : Nat) (f : Field), fs[j]? = some f -> f.name ≠ "_" /\ f.offset = o + j /\ ∃ d', P.underlying f.type = some d' /\ ((∃ ik, ks[j]? = some (.int ik) /\ d' = .int ik) ∨ (ks[j]? = some .bool /\ d' = .bool) ∨ (ks[j]? = some .str /\ d' = .string))
 | [],o,[],_=>⟨rfl,fun j f hj=>by simp at hj⟩
 | [],o,_::_,h=>by cases h
 | _::_,o,[],h=>by cases h
 | f::fs,o,k::ks,h=>by
  simp only [gK,Bool.and_eq_true,Bool.not_eq_true'] at h
  obtain ⟨h1,h2,h3,h4⟩:=h
  obtain ⟨g1,g2⟩:=gr h4
  refine ⟨by simp [g1],fun j g hj=>?_⟩
  cases j with
  | zero=>
   simp at hj
   subst hj
   refine ⟨by simpa using h1,Nat.eq_of_beq_eq_true h2,?_⟩
   unfold uT at h3
   split at h3
   ·rename_i ik hu
    split at h3
    ·rename_i jk;exact ⟨_,hu,.inl ⟨ik,by simp [cB h3],rfl⟩⟩
    ·cases h3
   ·rename_i hu
    split at h3
    ·exact ⟨_,hu,.inr (.inl ⟨rfl,rfl⟩)⟩
    ·cases h3
   ·rename_i hu
    split at h3
    ·exact ⟨_,hu,.inr (.inr ⟨rfl,rfl⟩)⟩
    ·cases h3
   ·cases h3
  | succ j=>
   obtain ⟨q1,q2,q3⟩:=g2 j g (by simpa using hj)
   exact ⟨q1,by omega,by simpa using q3⟩
def vO (P:Program)(t:Nat)(i:TI)(d:TypeDesc):Bool:=
 !i.eqv||(!i.agg||(match d with | .struct fs=>!P.stoodInHeld t&&(!P.eqGuardType P.depth t&&gK P fs.toList 0 i.cells) | _=>false))
def uK (P:Program)(T:Nat->Option TI)(t:Nat)(i:TI):Bool:=
 match P.info? t with
 | some ii=>match P.underlying t with
  | some d=>match ii.zero with
   | some z=>Nat.beq ii.size i.cells.length&&(Nat.beq ii.bytes i.bytes&&(Nat.blt 0 i.cells.length&&(Nat.blt 0 i.bytes&&(nv z.cells.toList i.cells&&(
     (cond i.agg (match d with | .struct fs=>fR P T fs.toList i.fields 0 i.cells | _=>false) (!cT d&&(Nat.beq i.cells.length 1&&i.fields.isEmpty)))&&(wO T i d&&(rA i d&&vO P t i d)))))))
   | none=>false
  | none=>false
 | none=>false
def lg {P:Program}{E:Env}{t:Nat}{i:TI}(h:uK P E.T t i=true):cq P E t i:=by
 unfold uK at h
 split at h
 case h_2=>cases h
 rename_i ii hii
 split at h
 case h_2=>cases h
 rename_i d hd
 split at h
 case h_2=>cases h
 rename_i z hz
 simp only [Bool.and_eq_true] at h
 obtain ⟨h1,h2,h3,h4,h5,h6,h7,h8,h9⟩:=h
 refine ⟨ii,d,z,hii,hd,hz,Nat.eq_of_beq_eq_true h1,Nat.eq_of_beq_eq_true h2,Nat.blt_eq.mp h3,Nat.blt_eq.mp h4,mZ h5,?_,?_,?_,?_,?_,?_,?_,?_,?_⟩
 ·cases ha:i.agg<;>simp only [ha,ah,aq] at h6
  ·simp only [Bool.and_eq_true,Bool.not_eq_true'] at h6;exact h6.1
  ·split at h6
   ·rfl
   ·cases h6
 ·intro ha
  simp only [ha,aq,Bool.and_eq_true,List.isEmpty_iff] at h6
  exact ⟨Nat.eq_of_beq_eq_true h6.2.1,h6.2.2⟩
 ·intro ha
  simp only [ha,ah] at h6
  split at h6
  ·rename_i fs
   obtain ⟨places,g1,g2,g3⟩:=dJ h6
   refine ⟨fs,rfl,fun f p hp=>?_⟩
   obtain ⟨fl,ti,q1,q2,q3,q4,_⟩:=g3 f p hp
   exact ⟨fl,by simpa using q1,q2,q3,ti,q4⟩
  ·cases h6
 ·intro fs hfs
  subst hfs
  cases ha:i.agg<;>simp only [ha,ah,aq] at h6
  ·simp [cT] at h6
  ·obtain ⟨places,g1,g2,g3⟩:=dJ h6
   refine ⟨places,g1,fun f p hp=>?_⟩
   obtain ⟨fl,ti,q1,q2,q3,q4,q5,_⟩:=g3 f p hp
   exact q5
 ·intro e he
  simp only [wO,he] at h7
  split at h7
  ·simp only [Bool.and_eq_true] at h7
   rw [Nat.eq_of_beq_eq_true h7.1]
   refine ⟨rfl,Option.isSome_iff_exists.1 ?_⟩
   rw [<-Nat.eq_of_beq_eq_true h7.1];exact h7.2
  ·cases h7
 ·intro ha k hk
  simp only [rA,ha,Bool.false_or,hk] at h8
  split at h8
  ·rw [cB h8]
  ·cases h8
 ·intro ha hk
  simp only [rA,ha,Bool.false_or,hk] at h8
  split at h8
  ·rfl
  ·cases h8
 ·intro ha hk
  simp only [rA,ha,Bool.false_or,hk] at h8
  split at h8
  ·rfl
  ·cases h8
 ·intro he ha
  simp only [vO,he,ha,Bool.not_true,Bool.false_or] at h9
  split at h9
  ·rename_i fs
   simp only [Bool.and_eq_true,Bool.not_eq_true'] at h9
   obtain ⟨g1,g2⟩:=gr h9.2.2
   exact ⟨fs,rfl,h9.1,h9.2.1,by simpa using g1,fun j f hj=>by
    obtain ⟨q1,q2,q3⟩:=g2 j f (by simpa using hj)
    exact ⟨q1,by omega,q3⟩⟩
  ·cases h9
def bW (P:Program)(l:List (Nat×TI)):Bool:=l.all fun p=>uK P (assoc l) p.1 p.2
def lA {P:Program}{l:List (Nat×TI)}{E:Env}(hE:E.T=assoc l)(h:bW P l=true):∀t i,E.T t=some i->cq P E t i:=by
 intro t i ht
 rw [hE] at ht
 simp only [bW,List.all_eq_true] at h
 have:=h (t,i) (jm ht)
 rw [<-hE] at this
 exact lg this
abbrev bh (T:List (Nat×TI)):Env:={ T:=assoc T,G:=fun _=>[],nt:=0 }
def bN:List (Nat×fk)->Nat->List fk
 | [],_=>[]
 | (k,c)::l,g=>bif Nat.beq k g then c::bN l g else bN l g
inductive dF (P:Program)(E:Env):List (Nat×fk)->Prop where
 | nil:dF P E []
 | cons {g c l}:Valid P E g c->dF P E l->dF P E ((g,c)::l)
def dF.get {P:Program}{E:Env}:∀{l:List (Nat×fk)},dF P E l->∀g c,c∈bN l g->Valid P E g c
 | _,.nil,g,c,h=>by cases h
 | (k,u)::l,.cons hv ht,g,c,h=>by
  simp only [bN] at h
  cases hb:Nat.beq k g<;>simp only [hb,ah,aq] at h
  ·exact ht.get g c h
  ·rcases List.mem_cons.1 h with rfl | h
   ·rw [<-Nat.eq_of_beq_eq_true hb];exact hv
   ·exact ht.get g c h
def dO:∀{l:List Nat},bz l=true->l.Nodup
 | [],_=>List.nodup_nil
 | a::l,h=>by
  simp only [bz,Bool.and_eq_true,List.all_eq_true,Bool.not_eq_true'] at h
  refine List.nodup_cons.2 ⟨fun hm=>?_,dO h.2⟩
  have:=h.1 a hm
  simp at this
def Valid.env {P:Program}{E E':Env}(he:E.T=E'.T){g:FuncId}{c:fk}(h:Valid P E g c):Valid P E' g c:=by
 have :E.cells=E'.cells:=by funext t;simp [Env.cells,he]
 unfold Valid at *
 rw [<-this];exact h
def dF.env {P:Program}{E E':Env}(he:E.T=E'.T){l:List (Nat×fk)}(h:dF P E l):dF P E' l:=by
 induction h with
 | nil=>exact .nil
 | cons hv _ ih=>exact .cons (hv.env he) ih
def rz (fn:Func)(aO:fk)(nt:Nat):Bool:=
 !(fn.name == "runtime.NumGoroutine") && (fn.body.isSome && (aO.res.nj && (bz (aC (aR fn)) && Nat.beq (aO.args.length + (fn.ntmps - aO.args.length)) nt)))
def dA:List (Nat×fu)->Nat->List fu
 | [],_=>[]
 | (k,c)::l,g=>bif Nat.beq k g then c::dA l g else dA l g
inductive gw (P:Program)(E:Env):List (Nat×fu)->Prop where
 | nil:gw P E []
 | cons {g c l}:cP P E g c->gw P E l->gw P E ((g,c)::l)
def gw.get {P:Program}{E:Env}:∀{l:List (Nat×fu)},gw P E l->∀g c,c∈dA l g->cP P E g c
 | _,.nil,g,c,h=>by cases h
 | (k,u)::l,.cons hv ht,g,c,h=>by
  simp only [dA] at h
  cases hb:Nat.beq k g<;>simp only [hb,ah,aq] at h
  ·exact ht.get g c h
  ·rcases List.mem_cons.1 h with rfl | h
   ·rw [<-Nat.eq_of_beq_eq_true hb];exact hv
   ·exact ht.get g c h
def cP.env {P:Program}{E E':Env}(he:E.T=E'.T){g:FuncId}{c:fu}(h:cP P E g c):cP P E' g c:=by
 have :E.cells=E'.cells:=by funext t;simp [Env.cells,he]
 unfold cP at *
 rw [<-this];exact h
def gw.env {P:Program}{E E':Env}(he:E.T=E'.T){l:List (Nat×fu)}(h:gw P E l):gw P E' l:=by
 induction h with
 | nil=>exact .nil
 | cons hv _ ih=>exact .cons (hv.env he) ih
def ru {mt:Bool}{P:Program}{T:List (Nat×TI)}{G:List (Nat×fk)}{S:List (Nat×fu)}{nt:Nat}{g:FuncId}{fn:Func}{aO:fk}(hm:P.follows .mixedOrders=true)(hT:bW P T=true)(hG:dF P (bh T) G)(hS:gw P (bh T) S)
  (hf:P.funcs[g]?=some fn) (hb:rz fn aO nt=true) (live:Nat->Live)
  (h:∀ls r,lP (bh T).cells aO.args ls->aO.sem ls=some r->∃n,eB { T:=assoc T,G:=bN G,nt:=nt,M:=dA S,mt:=mt } live fn aO.res n (cH aO.args ls)=some r):Valid P (bh T) g aO:=by
 simp only [rz,Bool.and_eq_true,Bool.not_eq_true'] at hb
 obtain ⟨b1,b2,b3,b4,b5⟩:=hb
 obtain ⟨c,hc⟩:=Option.isSome_iff_exists.1 b2
 have hbody:aR fn=c:=by simp [aR,hc]
 have hT':∀t i,({ T:=assoc T,G:=bN G,nt:=nt,M:=dA S,mt:=mt }:Env).T t=some i->cq P { T:=assoc T,G:=bN G,nt:=nt,M:=dA S,mt:=mt } t i:=lA (E:={ T:=assoc T,G:=bN G,nt:=nt,M:=dA S,mt:=mt }) rfl hT
 have hG':∀g c,c∈({ T:=assoc T,G:=bN G,nt:=nt,M:=dA S,mt:=mt }:Env).G g->Valid P { T:=assoc T,G:=bN G,nt:=nt,M:=dA S,mt:=mt } g c:=(dF.env (E:=bh T) (E':={ T:=assoc T,G:=bN G,nt:=nt,M:=dA S,mt:=mt }) rfl hG).get
 have hS':∀g c,c∈({ T:=assoc T,G:=bN G,nt:=nt,M:=dA S,mt:=mt }:Env).M g->cP P { T:=assoc T,G:=bN G,nt:=nt,M:=dA S,mt:=mt } g c:=(gw.env (E:=bh T) (E':={ T:=assoc T,G:=bN G,nt:=nt,M:=dA S,mt:=mt }) rfl hS).get
 exact pE (E:={ T:=assoc T,G:=bN G,nt:=nt,M:=dA S,mt:=mt }) hT' hG' ⟨hS',fun _ _ h=>(nomatch h)⟩ (fun w0 M Z0 ans=>sO hT' hG' ⟨hS',fun _ _ h=>(nomatch h)⟩ hm) rfl rfl hf b1 hc b3 (by rw [<-hbody];exact dO b4) (Nat.eq_of_beq_eq_true b5) live h
def oK:List (Nat×fV)->Nat->List fV
 | [],_=>[]
 | (k,c)::l,g=>bif Nat.beq k g then c::oK l g else oK l g
inductive kN (P:Program)(E:Env)(n:Nat):List (Nat×fV)->Prop where
 | nil:kN P E n []
 | cons {g c l}:ez P E n g c->kN P E n l->kN P E n ((g,c)::l)
def kN.get {P:Program}{E:Env}{n:Nat}:∀{l:List (Nat×fV)},kN P E n l->∀g c,c∈oK l g->ez P E n g c
 | _,.nil,g,c,h=>by cases h
 | (k,u)::l,.cons hv ht,g,c,h=>by
  simp only [oK] at h
  cases hb:Nat.beq k g<;>simp only [hb,ah,aq] at h
  ·exact ht.get g c h
  ·rcases List.mem_cons.1 h with rfl | h
   ·rw [<-Nat.eq_of_beq_eq_true hb];exact hv
   ·exact ht.get g c h
def ez.env {P:Program}{E E':Env}(he:E.T=E'.T){n:Nat}{g:FuncId}{c:fV}(h:ez P E n g c):ez P E' n g c:=by
 have :E.cells=E'.cells:=by funext t;simp [Env.cells,he]
 unfold ez kX at *
 rw [<-this];exact h
def kN.env {P:Program}{E E':Env}(he:E.T=E'.T){n:Nat}{l:List (Nat×fV)}(h:kN P E n l):kN P E' n l:=by
 induction h with
 | nil=>exact .nil
 | cons hv _ ih=>exact .cons (hv.env he) ih
section
variable {P:Program} {T:List (Nat×TI)} {G:List (Nat×fk)} {S:List (Nat×fu)} {I:List (Nat×fV)} {nt:Nat} {mt:Bool}
theorem uc {J:List Nat}{g:FuncId}{fn:Func}{aO:fk}(hm:P.follows .mixedOrders=true)(hT:bW P T=true)(hG:dF P (bh T) G)(hS:gw P (bh T) S)(hI:kN P (bh T) 0 I)
  (hf:P.funcs[g]?=some fn) (hb:rz fn aO nt=true) (live:Nat->Live)
  (h:∀ls r,lP (bh T).cells aO.args ls->aO.sem ls=some r->∃n,eB { T:=assoc T,G:=bN G,nt:=nt,M:=dA S,mt:=mt,I:=oK I,J:=J } live fn aO.res n (cH aO.args ls)=some r):Valid P (bh T) g aO:=by
 simp only [rz,Bool.and_eq_true,Bool.not_eq_true'] at hb
 obtain ⟨b1,b2,b3,b4,b5⟩:=hb
 obtain ⟨c,hc⟩:=Option.isSome_iff_exists.1 b2
 have hbody:aR fn=c:=by simp [aR,hc]
 generalize hE:({ T:=assoc T,G:=bN G,nt:=nt,M:=dA S,mt:=mt,I:=oK I,J:=J }:Env)=E at h
 have e1:E.T=assoc T:=by rw [<-hE]
 have hS2:kO P E:=⟨by rw [<-hE];exact (gw.env (E:=bh T) rfl hS).get,fun g c h=>by rw [<-hE] at h ⊢;exact (kN.env (E:=bh T) rfl hI).get g c h⟩
 have hT':∀t i,E.T t=some i->cq P E t i:=lA e1 hT
 have hG':∀g c,c∈E.G g->Valid P E g c:=by rw [<-hE];exact (dF.env (E:=bh T) rfl hG).get
 have hcell:(bh T).cells=E.cells:=by funext t;simp [Env.cells,e1]
 rw [hcell] at h
 exact pE (E:=E) hT' hG' hS2 (fun w0 M Z0 ans=>sO hT' hG' hS2 hm) e1 (by rw [<-hE]) hf b1 hc b3 (by rw [<-hbody];exact dO b4) (by rw [<-hE];exact Nat.eq_of_beq_eq_true b5) live h
end
def uU (fn:Func)(aO:fu)(nt:Nat):Bool:=
 !(fn.name == "runtime.NumGoroutine") && (fn.body.isSome && (bz (aC (aR fn)) && Nat.beq (aO.args.length + (fn.ntmps - aO.args.length)) nt))
def vg {P:Program}{T:List (Nat×TI)}{G:List (Nat×fk)}{S:List (Nat×fu)}{nt:Nat}{g:FuncId}{fn:Func}{aO:fu}(hm:P.follows .mixedOrders=true)(hT:bW P T=true)(hG:dF P (bh T) G)(hS:gw P (bh T) S)
  (hf:P.funcs[g]?=some fn) (hb:uU fn aO nt=true) (live:Nat->Live)
  (h:∀ls r,tX (bh T).cells aO.args ls->aO.sem ls=some r->∃n,eB { T:=assoc T,G:=bN G,nt:=nt,M:=dA S,np:=(fJ aO.args).length,mt:=true } live fn (.oE (fJ aO.args)) n (qh aO.args ls)=some r):cP P (bh T) g aO:=by
 simp only [uU,Bool.and_eq_true,Bool.not_eq_true'] at hb
 obtain ⟨b1,b2,b4,b5⟩:=hb
 obtain ⟨c,hc⟩:=Option.isSome_iff_exists.1 b2
 have hbody:aR fn=c:=by simp [aR,hc]
 generalize hE:({ T:=assoc T,G:=bN G,nt:=nt,M:=dA S,np:=(fJ aO.args).length,mt:=true }:Env)=E at h
 have e1:E.T=assoc T:=by rw [<-hE]
 have e2:E.G=bN G:=by rw [<-hE]
 have e3:E.M=dA S:=by rw [<-hE]
 have hT':∀t i,E.T t=some i->cq P E t i:=lA e1 hT
 have hG':∀g c,c∈E.G g->Valid P E g c:=by rw [e2];exact (dF.env (E:=bh T) (E':=E) e1.symm hG).get
 have hS':∀g c,c∈E.M g->cP P E g c:=by rw [e3];exact (gw.env (E:=bh T) (E':=E) e1.symm hS).get
 have hcell:(bh T).cells=E.cells:=by funext t;simp [Env.cells,e1]
 rw [hcell] at h
 have hS2:kO P E:=⟨hS',fun g c h=>by rw [<-hE] at h;exact (nomatch h)⟩
 exact rZ (E:=E) hT' hG' hS2 (fun w0 M Z0 ans=>sO hT' hG' hS2 hm) e1 (by rw [<-hE]) hf b1 hc (by rw [<-hbody];exact dO b4) (by rw [<-hE];exact Nat.eq_of_beq_eq_true b5) live h
def valid {P:Program}{T:List (Nat×TI)}{G:List (Nat×fk)}{nt:Nat}{g:FuncId}{fn:Func}{aO:fk}(hm:P.follows .mixedOrders=true)(hT:bW P T=true)(hG:dF P (bh T) G)
  (hf:P.funcs[g]?=some fn) (hb:rz fn aO nt=true) (live:Nat->Live)
  (h:∀ls r,lP (bh T).cells aO.args ls->aO.sem ls=some r->∃n,eB { T:=assoc T,G:=bN G,nt:=nt } live fn aO.res n (cH aO.args ls)=some r):Valid P (bh T) g aO:=
 ru (S:=[]) hm hT hG .nil hf hb live h
end Go.DM
set_option linter.unusedSectionVars false
namespace Go.DM
inductive Wf (T:Nat->List K):K->L->Prop where
 | int (k:IntKind) (n:Int) (h:(Lit.int k n).wf=true):Wf T (.int k) (.int n)
 | bool (b:Bool):Wf T .bool (.bool b)
 | str (s:aA) (h:s.size<=maxLen):Wf T .str (.str s)
 | sl (e:Nat) (xs:av) (h:xs.length<=maxLen) (hl:∀r∈xs,r.length=(T e).length) (hr:∀(r:List L) (j:Nat) (kk:K) (l:L),r∈xs->(T e)[j]?=some kk->r[j]?=some l->Wf T kk l):Wf T (.sl e) (.sl xs)
def eO {α:Type}{P:Nat->α->Prop}:∀(n:Nat),(∀j,j<n->∃x,P j x)->∃xs:List α,xs.length=n/\∀j,j<n->∃x,xs[j]?=some x/\P j x
 | 0,_=>⟨[],rfl,fun j h=>by omega⟩
 | n+1,h=>by
  obtain ⟨xs,h1,h2⟩:=eO n fun j hj=>h j (by omega)
  obtain ⟨x,hx⟩:=h n (by omega)
  refine ⟨xs++[x],by simp [h1],fun j hj=>?_⟩
  by_cases hjn:j<n
  ·obtain ⟨y,h3,h4⟩:=h2 j hjn
   exact ⟨y,by rw [List.getElem?_append_left (by omega)];exact h3,h4⟩
  ·have :j=n:=by omega
   subst this
   exact ⟨x,by rw [<-h1];simp,hx⟩
def gQ {P:Program}{T:Nat->Option TI}:∀{fs:List Field} {ps:List (Nat×Nat)} {o:Nat} {ks:List K},fR P T fs ps o ks=true->
  ∀l,l<ks.length->∃(j:Nat) (p:Nat×Nat) (ti:TI),ps[j]?=some p/\T p.2=some ti/\o<=p.1/\p.1 - o<=l/\l<p.1 - o+ti.cells.length
 | [],[],o,[],_,l,h=>by simp at h
 | [],[],o,_::_,h,_,_=>by cases h
 | [],_::_,o,ks,h,_,_=>by cases h
 | _::_,[],o,ks,h,_,_=>by cases h
 | f::fs,p::ps,o,ks,h,l,hl=>by
  simp only [fR,Bool.and_eq_true] at h
  obtain ⟨h1,h2,h3,h4⟩:=h
  split at h4
  ·rename_i fi hfi
   split at h4
   ·rename_i ti hti
    simp only [Bool.and_eq_true] at h4
    obtain ⟨h5,h6,h7⟩:=h4
    have e3:=Nat.eq_of_beq_eq_true h3
    by_cases hlt:l<ti.cells.length
    ·exact ⟨0,p,ti,rfl,hti,by omega,by omega,by omega⟩
    ·obtain ⟨j,q,tq,g1,g2,g3,g4,g5⟩:=gQ h7 (l - ti.cells.length) (by rw [List.length_drop];omega)
     exact ⟨j+1,q,tq,by simpa using g1,g2,by omega,by omega,by omega⟩
   ·cases h4
  ·cases h4
section
variable {H:Type} {enc:TypeId×Value->H} {P:Program} {w:World} {spare:Nat->Bool} {held:Bool} {E:Env}
theorem uv (hB:∀t i,E.T t=some i->uK P E.T t i=true):∀(n:Nat) {t:Nat} {i:TI} {cs:List Value} {x:DataW H×List MemPlace},E.T t=some i->DataW.trod enc P w 0 spare held n t cs=some x->
  cs.length=i.cells.length/\∀(j:Nat) (kk:K),i.cells[j]?=some kk->∃(l:L) (v:Value),cs[j]?=some v/\Rd E.cells w (fun b=>b<w.heap.size) kk v l/\Wf E.cells kk l:=by
 intro n
 induction n with
 | zero=>intro t i cs x _ h;simp [DataW.trod] at h
 | succ n ih=>
  intro t i cs x ht h
  have hb:=hB t i ht
  obtain ⟨ii,d,z,k1,k2,k3,k4,k5,k6,kby,k7,k8,k9,k10,kpl,k11,k12,lM,lV,k15⟩:=lg (E:=E) hb
  cases ha:i.agg with
  | false=>
   obtain ⟨hl1,_⟩:=k9 ha
   match hc:i.cells,hl1 with
   | [.int k],_=>
    obtain ⟨m,rfl,_,hw⟩:=DataW.trod_int (k12 ha k hc ▸ k2) h
    exact ⟨rfl,fun j kk hj=>by
     cases j with
     | zero=>simp at hj;subst hj;exact ⟨.int m,_,rfl,Rd.int k (.int m),Wf.int k m hw⟩
     | succ j=>simp at hj⟩
   | [.bool],_=>
    obtain ⟨b,rfl,_⟩:=DataW.trod_bool (lM ha hc ▸ k2) h
    exact ⟨rfl,fun j kk hj=>by
     cases j with
     | zero=>simp at hj;subst hj;exact ⟨.bool b,_,rfl,Rd.bool (.bool b),Wf.bool b⟩
     | succ j=>simp at hj⟩
   | [.str],_=>
    obtain ⟨s,rfl,_,hs⟩:=DataW.trod_string (lV ha hc ▸ k2) h
    exact ⟨rfl,fun j kk hj=>by
     cases j with
     | zero=>simp at hj;subst hj;exact ⟨.str s,_,rfl,Rd.str (.str s),Wf.str s hs⟩
     | succ j=>simp at hj⟩
   | [.sl e],_=>
    have hel:i.el=some e:=by simp [TI.el,ha,hc]
    obtain ⟨rfl,ie,hie⟩:=k11 e hel
    have hce:P.cellsOf e=ie.cells.length/\0<ie.cells.length:=by
     obtain ⟨ii',d',z',q1,q2,q3,q4,q5,q6,_⟩:=lg (E:=E) (hB e ie hie)
     exact ⟨by simp [Program.cellsOf,q1,q4],q6⟩
    have hEe:E.cells e=ie.cells:=cE hie
    have fin:∀(l:L) (v:Value),cs=[v]->Rd E.cells w (fun b=>b<w.heap.size) (.sl e) v l->Wf E.cells (.sl e) l->
      cs.length=[K.sl e].length/\∀(j:Nat) (kk:K),[K.sl e][j]?=some kk->∃(l:L) (v:Value),cs[j]?=some v/\Rd E.cells w (fun b=>b<w.heap.size) kk v l/\Wf E.cells kk l:=by
     intro l v hv h1 h2
     subst hv
     exact ⟨rfl,fun j kk hj=>by
      cases j with
      | zero=>simp at hj;subst hj;exact ⟨l,_,rfl,h1,h2⟩
      | succ j=>simp at hj⟩
    rcases DataW.trod_slice k2 h with ⟨hv,_⟩ | ⟨a,len,cap,elems,rest,m,hm,hv,_,hb0,hlc,hcm,hlen,hel',_,_⟩
    ·exact fin (.sl []) _ hv (.nil _ _ _ _ rfl) (.sl e [] (by simp) (fun r hr=>by cases hr) (fun r j kk l hr=>by cases hr))
    ·have hm':m=n:=by omega
     subst hm'
     have each:∀i',i'<len->∃rc:List L×List Value,rc.1.length=ie.cells.length/\(∀j,j<ie.cells.length->w.cell? (a.add (i'*ie.cells.length) |>.add j)=rc.2[j]?)/\
       ∀(j:Nat) (kk:K),ie.cells[j]?=some kk->∃(l:L) (v:Value),rc.1[j]?=some l/\rc.2[j]?=some v/\Rd E.cells w (fun b=>b<w.heap.size) kk v l/\Wf E.cells kk l:=by
      intro i' hi'
      have h1:=hel' i' hi'
      rw [List.getElem?_eq_getElem (by omega)] at h1
      obtain ⟨cs',h2,h3⟩:=Option.bind_eq_some_iff.1 h1
      obtain ⟨_,h4,h5⟩:=World.cells?_some h2
      obtain ⟨h6,h7⟩:=ih hie h3
      obtain ⟨row,r1,r2⟩:=eO (P:=fun j l=>∃v,cs'[j]?=some v/\∀kk,ie.cells[j]?=some kk->Rd E.cells w (fun b=>b<w.heap.size) kk v l/\Wf E.cells kk l) ie.cells.length (fun j hj=>by
       have hk:=List.getElem?_eq_getElem hj
       obtain ⟨l,v,e1,e2,e3⟩:=h7 j _ hk
       exact ⟨l,v,e1,fun kk hkk=>by rw [hk] at hkk;injection hkk with hkk;subst hkk;exact ⟨e2,e3⟩⟩)
      refine ⟨(row,cs'),r1,fun j hj=>?_,fun j kk hj=>?_⟩
      ·rw [hce.1] at h5;exact h5 j (by omega)
      ·obtain ⟨l,e1,v,e2,e3⟩:=r2 j (List.getElem?_eq_some_iff.1 hj).1
       exact ⟨l,v,e1,e2,e3 kk hj⟩
     obtain ⟨rows,g1,g2⟩:=eO len each
     have hwf:Wf E.cells (.sl e) (.sl (rows.map (·.1))):=by
      refine .sl e _ (by simp [g1];omega) (fun r hr=>?_) (fun r j kk l hr hj hl=>?_)
      ·obtain ⟨rc,hrc,rfl⟩:=List.mem_map.1 hr
       obtain ⟨i',hi'⟩:=List.getElem?_of_mem hrc
       obtain ⟨rc',h1,h2,_⟩:=g2 i' (by rw [<-g1];exact (List.getElem?_eq_some_iff.1 hi').1)
       rw [hi'] at h1;injection h1 with h1;subst h1
       rw [h2,hEe]
      ·obtain ⟨rc,hrc,rfl⟩:=List.mem_map.1 hr
       obtain ⟨i',hi'⟩:=List.getElem?_of_mem hrc
       obtain ⟨rc',h1,h2,_,h3⟩:=g2 i' (by rw [<-g1];exact (List.getElem?_eq_some_iff.1 hi').1)
       rw [hi'] at h1;injection h1 with h1;subst h1
       rw [hEe] at hj
       obtain ⟨l',v,e1,_,_,e3⟩:=h3 j kk hj
       rw [hl] at e1;injection e1 with e1;subst e1
       exact e3
     refine fin (.sl (rows.map (·.1))) _ hv ?_ hwf
     rcases Nat.eq_zero_or_pos len with h0 | hpos
     ·subst h0
      exact .nil _ _ _ _ (by simp only [L.az];rw [List.eq_nil_of_length_eq_zero g1];rfl)
     ·
      obtain ⟨rc0,h1,h2,h3,h4⟩:=g2 0 hpos
      have hk0:=List.getElem?_eq_getElem hce.2
      obtain ⟨l0,v0,e1,e2,e3,_⟩:=h4 0 _ hk0
      have hc0:=h3 0 hce.2
      rw [e2] at hc0
      obtain ⟨b,o,spot⟩:=a
      have hspot:spot=none:=by simpa [Addr.add] using World.cell?_spot hc0
      subst hspot
      have hblt:b<w.heap.size:=by simpa [Addr.add] using block_lt_of_cell hc0
      refine .sl e len cap b o _ (fun i' j=>(((rows.getD i' ([],[])).2).getD j Go.undef)) (by simp [L.az,g1]) hlc (Nat.le_trans hlc hcm) hblt (fun i' j kk hi' hj=>?_) (fun i' j kk hi' hj=>?_)
      ·rw [hEe] at hj ⊢
       obtain ⟨rc,q1,q2,q3,q4⟩:=g2 i' hi'
       obtain ⟨l,v,p1,p2,p3,p4⟩:=q4 j kk hj
       have:=q3 j (List.getElem?_eq_some_iff.1 hj).1
       rw [p2,Addr.add_lit,Addr.add_lit,Nat.add_assoc] at this
       rw [this]
       simp [List.getD_eq_getElem?_getD,q1,p2]
      ·rw [hEe] at hj
       obtain ⟨rc,q1,q2,q3,q4⟩:=g2 i' hi'
       obtain ⟨l,v,p1,p2,p3,p4⟩:=q4 j kk hj
       have e1:((rows.getD i' ([],[])).2).getD j Go.undef=v:=by simp [List.getD_eq_getElem?_getD,q1,p2]
       have e2:((L.sl (rows.map (·.1))).az.getD i' []).getD j .hole=l:=by simp [L.az,List.getD_eq_getElem?_getD,q1,p1]
       show Rd E.cells w _ kk (((rows.getD i' ([],[])).2).getD j Go.undef) _
       rw [e1,e2];exact p3
  | true=>
   obtain ⟨fs,rfl,_⟩:=k10 ha
   have hcells:P.cellsOf t=i.cells.length:=by simp [Program.cellsOf,k1,k4]
   have hfb:fR P E.T fs.toList i.fields 0 i.cells=true:=by
    have hb':=hb
    unfold uK at hb'
    simp only [k1,k2,k3,ha,ah,Bool.and_eq_true] at hb'
    exact hb'.2.2.2.2.2.1
   obtain ⟨xs,m,hm,_,hl,hxs,hf⟩:=DataW.trod_struct k2 h
   have hm':m=n:=by omega
   subst hm'
   refine ⟨by rw [hl,hcells],fun j kk hj=>?_⟩
   obtain ⟨f,p,ti,c1,c2,c3,c4,c5⟩:=gQ hfb j (List.getElem?_eq_some_iff.1 hj).1
   obtain ⟨places,_,hfl,hsp⟩:=dJ (E:=E) hfb
   obtain ⟨fl,ti',q1,q2,q3,q4,q5,q6,q7,q8,q9⟩:=hsp f p c1
   rw [c2] at q4;injection q4 with q4;subst q4
   have hfs:fs[f]?=some fl:=by simpa using q1
   have htrod:=hf f fl hfs
   have hxl:f<xs.length:=by
    rw [hxs];exact (Array.getElem?_eq_some_iff.1 hfs).1
   rw [List.getElem?_eq_getElem hxl,q3,q2] at htrod
   obtain ⟨_,h2⟩:=ih c2 htrod
   have hkk:ti.cells[j - p.1]?=some kk:=by
    have hlt:j - p.1<ti.cells.length:=by omega
    have hg:=List.getElem?_eq_getElem hlt
    have:=q8 _ _ hg
    rw [show p.1 - 0+(j - p.1)=j by omega,hj] at this
    rw [hg];exact this.symm
   obtain ⟨l,v,e1,e2,e3⟩:=h2 (j - p.1) kk hkk
   refine ⟨l,v,?_,e2,e3⟩
   rw [List.getElem?_take] at e1
   split at e1
   ·rw [List.getElem?_drop] at e1
    rw [<-e1];congr 1;omega
   ·cases e1
end
end Go.DM
set_option linter.unusedSectionVars false
namespace Go.DM
open Go.ChangeShapes Go.WideShapes Go.RowKit
def iX (T:Nat->Option TI)(t:Nat):fO:=match T t with
 | some i=>bif i.agg then .agg i.cells else .rd (i.cells.headD .bool)
 | none=>.rd .bool
def qy (T:Nat->Option TI)(ts:List Nat)(sem:List L->Option (List L)):fk:=⟨ts.map (iX T),.one (.rd .bool),sem⟩
def eD (T:Nat->List K)(ks:List K)(ls:List L):Prop:=ls.length=ks.length/\∀(j:Nat) (k:K),ks[j]?=some k->∃l,ls[j]?=some l/\Wf T k l
def eD.append {T:Nat->List K}{a b:List K}{x y:List L}(h:eD T a x)(k:eD T b y):eD T (a++b) (x++y):=by
 refine ⟨by simp [h.1,k.1],fun j kk hj=>?_⟩
 by_cases hl:j<a.length
 ·rw [List.getElem?_append_left hl] at hj
  obtain ⟨l,e1,e2⟩:=h.2 j kk hj
  exact ⟨l,by rw [List.getElem?_append_left (by rw [h.1];exact hl)];exact e1,e2⟩
 ·rw [List.getElem?_append_right (by omega)] at hj
  obtain ⟨l,e1,e2⟩:=k.2 _ kk hj
  exact ⟨l,by rw [List.getElem?_append_right (by rw [h.1];omega),h.1];exact e1,e2⟩
section
variable {H:Type} {enc:TypeId×Value->H} {P:Program} {W:World} {E:Env} {r:Reach} {b0:Nat}
theorem tQ (hB:∀t i,E.T t=some i->uK P E.T t i=true){t:Nat}{i:TI}(ht:E.T t=some i){v:Value}{d:DataW H}{ps:List MemPlace}(h:DataW.Trod enc P W 0 (fun _=>true) true t v d ps)(hv:Value.okWide P W r b0 t v) :
  ∃ls,eD E.cells i.cells ls/\∀rest,V2 E.cells W (A0 (fun _=>True) W) (uG (iX E.T t) (ls++rest)) v:=by
 obtain ⟨fuel,hf⟩:=h
 obtain ⟨h1,h2⟩:=uv hB fuel ht hf
 obtain ⟨ls,g1,g2⟩:=eO (P:=fun j l=>∃x,v.cells.toList[j]?=some x/\∀kk,i.cells[j]?=some kk->Rd E.cells W (fun b=>b<W.heap.size) kk x l/\Wf E.cells kk l) i.cells.length (fun j hj=>by
  have hk:=List.getElem?_eq_getElem hj
  obtain ⟨l,x,e1,e2,e3⟩:=h2 j _ hk
  exact ⟨l,x,e1,fun kk hkk=>by rw [hk] at hkk;injection hkk with hkk;subst hkk;exact ⟨e2,e3⟩⟩)
 have hz:∀b,b<W.heap.size->bO W (A0 (fun _=>True) W) b:=fun b hb=>⟨.inl trivial,hb,fun _ h=>h⟩
 have hrd:∀(j:Nat) (kk:K),i.cells[j]?=some kk->∃(l:L) (x:Value),ls[j]?=some l/\v.cells.toList[j]?=some x/\Rd E.cells W (bO W (A0 (fun _=>True) W)) kk x l/\Wf E.cells kk l:=by
  intro j kk hj
  obtain ⟨l,e1,x,e2,e3⟩:=g2 j (List.getElem?_eq_some_iff.1 hj).1
  exact ⟨l,x,e1,e2,(e3 kk hj).1.mono hz,(e3 kk hj).2⟩
 refine ⟨ls,⟨g1,fun j k hj=>?_⟩,fun rest=>?_⟩
 ·obtain ⟨l,x,e1,_,_,e4⟩:=hrd j k hj
  exact ⟨l,e1,e4⟩
 ·obtain ⟨ii,dd,z,k1,k2,k3,k4,k5,k6,kby,k7,k8,k9,k10,kpl,k11,k12,lM,lV,k15⟩:=lg (E:=E) (hB t i ht)
  have hF:=kr (T:=E.cells) (w:=W) (A:=A0 (fun _=>True) W) (d:=none) (fun r hr=>(nomatch hr)) i.cells ls (fun j=>v.cells.toList.getD j Go.undef) (fun j kk hj=>by
   obtain ⟨l,x,e1,e2,e3,_⟩:=hrd j kk hj
   rw [List.getD_eq_getElem?_getD,e2,List.getD_eq_getElem?_getD,e1];exact e3)
  rw [lB h1] at hF
  have hp:iX E.T t=bif i.agg then .agg i.cells else .rd (i.cells.headD .bool):=by simp [iX,ht]
  rw [hp]
  cases ha:i.agg with
  | true=>
   show V2 E.cells W _ (.agg (ia none i.cells (ls++rest))) v
   obtain ⟨fs,rfl,_⟩:=k10 ha
   obtain ⟨cs,rfl,_⟩:=okWide_struct k2 hv
   rw [gh _ _ _ _ g1]
   exact V1.v2 (v:=.agg _) ⟨cs.toList,by simp,hF⟩
  | false=>
   show V2 E.cells W _ (tT none (i.cells.headD .bool) ((ls++rest).headD .hole)) v
   obtain ⟨hl1,_⟩:=k9 ha
   have hone:∃x,v=x/\v.cells=#[x]:=by
    match hc:i.cells,hl1 with
    | [.int k],_=>obtain ⟨n,rfl⟩:=okWide_int (k12 ha k hc ▸ k2) hv;exact ⟨_,rfl,rfl⟩
    | [.bool],_=>obtain ⟨n,rfl⟩:=okWide_bool (lM ha hc ▸ k2) hv;exact ⟨_,rfl,rfl⟩
    | [.str],_=>obtain ⟨n,rfl⟩:=okWide_string (lV ha hc ▸ k2) hv;exact ⟨_,rfl,rfl⟩
    | [.sl e],_=>
     have hel:i.el=some e:=by simp [TI.el,ha,hc]
     obtain ⟨rfl,_⟩:=k11 e hel
     obtain ⟨a,n,c,rfl⟩:=okWide_slice k2 hv;exact ⟨_,rfl,rfl⟩
   obtain ⟨x,rfl,hcx⟩:=hone
   match hc:i.cells,hl1 with
   | [k],_=>
    obtain ⟨l,y,e1,e2,e3,_⟩:=hrd 0 k (by rw [hc];rfl)
    rw [hcx] at e2
    simp at e2
    subst e2
    have :(ls++rest).headD .hole=l:=by
     rw [cm,List.getD_eq_getElem?_getD,List.getElem?_append_left (by rw [g1,hc];simp),e1];rfl
    rw [this]
    exact (nL (fun r hr=>by cases hr) e3).v2
theorem ue (hB:∀t i,E.T t=some i->uK P E.T t i=true){t:Nat}{i:TI}(ht:E.T t=some i):(iX E.T t).n=i.cells.length:=by
 have hp:iX E.T t=bif i.agg then .agg i.cells else .rd (i.cells.headD .bool):=by simp [iX,ht]
 rw [hp]
 cases ha:i.agg with
 | true=>rfl
 | false=>
  obtain ⟨ii,dd,z,k1,k2,k3,k4,k5,k6,kby,k7,k8,k9,_⟩:=lg (E:=E) (hB t i ht)
  rw [(k9 ha).1];rfl
theorem ng (hB:∀t i,E.T t=some i->uK P E.T t i=true):∀{ts:List Nat} {vs:List Value} {ds:List (DataW H)} {ps:List MemPlace},(∀t∈ts,(E.T t).isSome=true)->DataW.TrodAll enc P W 0 (fun _=>true) true ts vs ds ps->
  (∀(j:Nat) (t:TypeId) (v:Value),ts[j]?=some t->vs[j]?=some v->Value.okWide P W r b0 t v)->∃ls,eD E.cells (ts.flatMap E.cells) ls/\F2 (V2 E.cells W (A0 (fun _=>True) W)) (eH (ts.map (iX E.T)) ls) vs
 | [],[],ds,ps,_,_,_=>⟨[],⟨rfl,fun j k hj=>by simp at hj⟩,.nil⟩
 | [],_::_,[],ps,_,h,_=>h.elim
 | [],_::_,_::_,ps,_,h,_=>h.elim
 | _::_,[],[],ps,_,h,_=>h.elim
 | _::_,[],_::_,ps,_,h,_=>h.elim
 | _::_,_::_,[],ps,_,h,_=>h.elim
 | t::ts,v::vs,d::ds,ps,hs,⟨p,q,h1,h2,_⟩,hv=>by
  obtain ⟨i,hi⟩:=Option.isSome_iff_exists.1 (hs t (by simp))
  obtain ⟨a,g1,g2⟩:=tQ hB hi h1 (hv 0 t v rfl rfl)
  obtain ⟨b,g3,g4⟩:=ng hB (fun t ht=>hs t (by simp [ht])) h2 (fun j t v h h'=>hv (j+1) t v (by simpa using h) (by simpa using h'))
  have hc:E.cells t=i.cells:=cE hi
  refine ⟨a++b,by rw [List.flatMap_cons,hc];exact g1.append g3,?_⟩
  refine .cons (g2 b) ?_
  rw [ue hB hi,<-g1.1,eo,List.drop_left]
  exact g4
theorem gT (hl:laidOutB P=true){W':World}(hb:Below W.heap.size W W'):∀{ts:List Nat} {vs:List Value} {ds:List (DataW H)} {ps:List MemPlace},(ts.all fun t=>P.readableRec t&&decide (t<P.types.size))=true->
  DataW.TrodAll enc P W 0 (fun _=>true) true ts vs ds ps->DataW.TrodAll enc P W' 0 (fun b=>decide (b<W.heap.size)) true ts vs ds ps
 | [],[],[],ps,_,h=>h
 | [],_::_,[],ps,_,h=>h.elim
 | [],[],_::_,ps,_,h=>h.elim
 | [],_::_,_::_,ps,_,h=>h.elim
 | _::_,[],[],ps,_,h=>h.elim
 | _::_,[],_::_,ps,_,h=>h.elim
 | _::_,_::_,[],ps,_,h=>h.elim
 | t::ts,v::vs,d::ds,ps,hs,⟨p,q,h1,h2,h3⟩=>by
  simp only [List.all_cons,Bool.and_eq_true,decide_eq_true_eq] at hs
  refine ⟨p,q,Below.trod hl hs.1.1 hs.1.2 h1 hb ?_,gT hl hb (by simpa using hs.2) h2,h3⟩
  obtain ⟨fuel,hf⟩:=h1
  exact DataW.trod_lt fuel _ _ _ hf
theorem rE {g:FuncId}{ts:List Nat}{sem:List L->Option (List L)}(hV:Valid P E g (qy E.T ts sem)){ls:List L}{vs:List Value}(hs:sem ls=some [.bool true])
  (hf:F2 (V2 E.cells W (A0 (fun _=>True) W)) (eH (ts.map (iX E.T)) ls) vs):Calls P g vs.toArray W fun e W'=>e=.returned (.bool true)/\Below W.heap.size W W':=by
 refine (hV.2.2 ls _ W vs (fun _=>True) hs hf).mono fun e W' ⟨rv,A',h1,h2,_,_,_,h3⟩=>?_
 have :rv=.bool true:=h3
 subst this
 exact ⟨h1,⟨h2.os,h2.tape,h2.output,h2.size,fun k hk=>h2.block k hk (fun h=>h)⟩⟩
end
end Go.DM
namespace Go.DM
def iter {Pt:Type}(step:(Pt->aj)->Pt->aj):Nat->Pt->aj
 | 0=>fun _=>none
 | n+1=>step (iter step n)
def lf {E:Env}{live:Nat->Live}{f:Func}{res:RP}{Pt:Type}{id:Pt->Nat}{vs:Pt->List V}{hs:Pt->List af}{step:(Pt->aj)->Pt->aj}
  (h:∀(I:cz) (p:Pt),bJ E live I (id p) (aR f) (jY (live (id p)) (vs p) (hs p)) (cy E f res)=step (fun q=>I (id q) (vs q) (hs q)) p) :
  ∀(n:Nat) (p:Pt),oM E live f res n (id p) (vs p) (hs p)=iter step n p
 | 0,_=>rfl
 | n+1,p=>by
  show bJ E live (oM E live f res n) (id p) (aR f) (jY (live (id p)) (vs p) (hs p)) (cy E f res)=step (iter step n) p
  rw [h]
  congr 1
  funext q
  exact lf h n q
def dV {E:Env}{live:Nat->Live}{f:Func}{res:RP}{Pt:Type}{id:Pt->Nat}{vs:Pt->List V}{hs:Pt->List af}{step:(Pt->aj)->Pt->aj}{s:St}{start:(Pt->aj)->aj}
  (h:∀(I:cz) (p:Pt),bJ E live I (id p) (aR f) (jY (live (id p)) (vs p) (hs p)) (cy E f res)=step (fun q=>I (id q) (vs q) (hs q)) p)
  (h0:∀I:cz,fC E live I (aR f) s (cy E f res)=start (fun q=>I (id q) (vs q) (hs q))) (n:Nat):eB E live f res n s=start (iter step n):=by
 unfold eB
 rw [h0]
 congr 1
 funext q
 exact lf h n q
end Go.DM
namespace Go.DM
def so {P:Program}{l:List (Nat×TI)}(h:bW P l=true):∀t i,(bh l).T t=some i->uK P (bh l).T t i=true:=by
 intro t i ht
 simp only [bW,List.all_eq_true] at h
 exact h (t,i) (jm ht)
def jN {H:Type}{enc:TypeId×Value->H}{P:Program}{w:World}{base:Nat}{sp:Nat->Bool}{held:Bool}:∀{ts:List TypeId} {vs:List Value} {ds:List (DataW H)} {ps:List MemPlace},DataW.TrodAll enc P w base sp held ts vs ds ps->ds.length=ts.length
 | [],[],[],_,_=>rfl
 | [],[],_::_,_,h=>h.elim
 | [],_::_,[],_,h=>h.elim
 | [],_::_,_::_,_,h=>h.elim
 | _::_,[],[],_,h=>h.elim
 | _::_,[],_::_,_,h=>h.elim
 | _::_,_::_,[],_,h=>h.elim
 | _::_,_::_,_::_,_,⟨_,_,_,h,_⟩=>by simp [jN h]
def oV {P:Program}{E:Env}{g:FuncId}{aO:fk}(he:gF P g)(hok:aO.res.ok=true)(hR:∀r,aO.res.R r=[])
  (h:∀(ls r:List L) (w:World) (vs:List Value) (Z:Nat->Prop),aO.sem ls=some r->F2 (V2 E.cells w (A0 Z w)) (eH aO.args ls) vs->
   Calls P g vs.toArray w fun e w'=>∃rv,e=.returned rv/\w'=w/\V2 E.cells w (A0 Z w) (aO.res.V r 0) rv):Valid P E g aO:=by
 refine ⟨he,hok,fun ls r w vs Z hs hf=>(h ls r w vs Z hs hf).mono fun e w' ⟨rv,h1,h2,h3⟩=>?_⟩
 subst h2
 refine ⟨rv,A0 Z w',h1,Fr.refl _ _,rfl,fun i=>?_,?_,h3⟩
 ·rw [hR];simp [A0]
 ·rw [hR]
  exact ⟨fun _ _ h=>h.elim,fun _ _ _ h=>h.elim,fun _ _=>rfl,fun _ _ h=>h.elim,Fr.refl _ _,fun _ _ h=>h.elim,fun _ h=>.inr (h.resolve_left id),fun j hj=>absurd hj (Nat.not_lt_zero j)⟩
def aE {i n:Nat}(h:i<n)(hn:n<=maxLen):IntKind.i64.wrap ((i:Int)+1)=((i+1:Nat):Int):=by
 rw [Go.IntWalk.i64_in _ (by simp only [maxLen] at hn;omega)];omega
def take_set {α:Type}{c:List α}{i:Nat}{v:α}(h:i<c.length):(c.set i v).take (i+1)=c.take i++[v]:=by
 rw [List.take_succ_eq_append_getElem (by simpa using h),List.take_set_of_le (by omega)]
 simp
def fq (n:Nat):Int.toNat (n:Int)=n:=Eq.trans (Int.toNat_natCast n) rfl
@[simp] def cW (s:aA):(s==s)=true:=by rw [beq_toListBytes];simp
end Go.DM
namespace Go.DM
class RT (β:Type) where
 enc:β->List L
 dec:List L->β
 n:Nat
 de:∀b rest,dec (enc b++rest)=b
 dr:∀b rest,aD n (enc b++rest)=rest
instance :RT Int:=⟨fun n=>[.int n],fun r=>(r.headD .hole).toInt,1,fun _ _=>rfl,fun _ _=>rfl⟩
instance :RT Bool:=⟨fun n=>[.bool n],fun r=>(r.headD .hole).toBool,1,fun _ _=>rfl,fun _ _=>rfl⟩
instance :RT aA:=⟨fun n=>[.str n],fun r=>(r.headD .hole).toStr,1,fun _ _=>rfl,fun _ _=>rfl⟩
instance :RT (av):=⟨fun n=>[.sl n],fun r=>(r.headD .hole).az,1,fun _ _=>rfl,fun _ _=>rfl⟩
def mV:∀(m n:Nat) (l:List L),aD (m+n) l=aD n (aD m l)
 | 0,n,l=>by rw [Nat.zero_add];rfl
 | m+1,n,l=>by rw [show m+1+n=(m+n)+1 by omega];exact mV m n l.tail
instance {α β:Type} [RT α] [RT β]:RT (α×β):=
 ⟨fun p=>RT.enc p.1++RT.enc p.2,fun r=>(RT.dec r,RT.dec (aD (RT.n α) r)),RT.n α+RT.n β,
  fun b rest=>by simp only [List.append_assoc,RT.de,RT.dr],
  fun b rest=>by simp only [List.append_assoc,mV,RT.dr]⟩
def ret {β:Type}[RT β](b:β):aj:=some (RT.enc b)
def call {β:Type}[RT β](o:Option β)(k:β->aj):aj:=(o.map RT.enc).bind fun r=>k (RT.dec r)
def rM {β:Type}[RT β](b:β)(k:β->aj):call (some b) k=k b:=by
 have:=RT.de b []
 rw [List.append_nil] at this
 simp [call,this]
def call_eq {β:Type}[RT β]{o:Option β}{b:β}(h:o=some b)(k:β->aj):call o k=k b:=by rw [h,rM]
def wH (r:List L):Int:=(r.headD .hole).toInt
def wI (r:List L):Bool:=(r.headD .hole).toBool
def sDec (r:List L):aA:=(r.headD .hole).toStr
def wF (r:List L):av:=(r.headD .hole).az
def wv (xs:av)(i:Nat):Int:=wH (List.getD xs i [])
def wG (xs:av)(i:Nat):Bool:=wI (List.getD xs i [])
def wC (xs:av)(i:Nat):aA:=sDec (List.getD xs i [])
def wE (xs:av)(i:Nat):av:=wF (List.getD xs i [])
def aV (s:aA)(i:Nat):Int:=((List.getD s.data.toList i 0).toNat:Int)
def nR (n:Int):List L:=[.int n]
def rG (n:Bool):List L:=[.bool n]
def rT (n:aA):List L:=[.str n]
def rC {α:Type}(f:α->List L)(c:List α):List L:=[.sl (c.map f)]
def sK {a b:Int}(h:nR a=nR b):a=b:=by injection h with h;injection h
def sN {a b:Bool}(h:rG a=rG b):a=b:=by injection h with h;injection h
def tF {a b:aA}(h:rT a=rT b):a=b:=by injection h with h;injection h
def map_inj {α β:Type}{f:α->β}(hf:∀{a b:α},f a=f b->a=b):∀{a b:List α},a.map f=b.map f->a=b
 | [],[],_=>rfl
 | [],_::_,h=>by cases h
 | _::_,[],h=>by cases h
 | a::as,b::bs,h=>by
  simp only [List.map_cons,List.cons.injEq] at h
  rw [hf h.1,map_inj hf h.2]
def tH {α:Type}{f:α->List L}(hf:∀{a b:α},f a=f b->a=b){a b:List α}(h:rC f a=rC f b):a=b:=by
 injection h with h;injection h with h;exact map_inj hf h
def getD_map {α:Type}{f:α->List L}{xs:List α}{i:Nat}(h:i<xs.length):List.getD (xs.map f) i []=f xs[i]:=by
 simp [List.getD_eq_getElem?_getD,h]
def ofM {A A' B:Type}(r:A->A')(g:A->Prop)(m:A->B)(x:A'):Option B:=
 open Classical in if h:∃a,r a=x/\g a then some (m (Classical.choose h)) else none
def vf {A A' B:Type}{r:A->A'}{g:A->Prop}{m:A->B}{a:A}(hr:∀a b,r a=r b->a=b)(h:g a):ofM r g m (r a)=some (m a):=by
 have hx:∃b,r b=r a/\g b:=⟨a,rfl,h⟩
 unfold ofM
 rw [dif_pos hx,hr _ _ (Classical.choose_spec hx).1]
def iJ {A A' B:Type}{r:A->A'}{g:A->Prop}{m:A->B}{x:A'}{v:B}(h:ofM r g m x=some v):∃a,g a/\r a=x/\m a=v:=by
 unfold ofM at h
 split at h
 ·rename_i hx
  injection h with h
  exact ⟨_,(Classical.choose_spec hx).2,(Classical.choose_spec hx).1,h⟩
 ·cases h
def map_some {α β:Type}{f:α->β}{o:Option α}{b:β}(h:o.map f=some b):∃a,o=some a/\f a=b:=by
 cases o with
 | none=>cases h
 | some a=>injection h with h;exact ⟨a,rfl,h⟩
def lK {α:Type}(a b:α):Bool:=open Classical in decide (a=b)
def eN {α:Type}{a b:α}:lK a b=true↔a=b:=by simp [lK]
def cC {α:Type}(a:α):lK a a=true:=eN.2 rfl
def mu {α:Type}{a b:α}:lK a b=false↔a≠b:=by simp [lK]
def fU {α:Type}(n:Nat)(p:α->Prop)(xs:List α):Prop:=xs.length<=n/\∀x∈xs,p x
def fU.get {α:Type}{n:Nat}{p:α->Prop}{xs:List α}(h:fU n p xs){i:Nat}(hi:i<xs.length):p xs[i]:=h.2 _ (List.getElem_mem hi)
def fU.mono {α:Type}{n m:Nat}{p q:α->Prop}{xs:List α}(h:fU n p xs)(hn:n<=m)(hpq:∀x,p x->q x):fU m q xs:=⟨Nat.le_trans h.1 hn,fun x hx=>hpq x (h.2 x hx)⟩
def tS {α:Type}(f:α->Nat)(xs:List α):Nat:=xs.length+(xs.map f).sum
def qZ {α:Type}{f:α->Nat}:∀{xs:List α} {x:α},x∈xs->f x<=(xs.map f).sum
 | y::ys,x,h=>by
  simp only [List.map_cons,List.sum_cons]
  rcases List.mem_cons.1 h with rfl | h
  ·omega
  ·have:=qZ (f:=f) h;omega
def vm {α:Type}{f:α->Nat}{p:α->Prop}{n:Nat}{xs:List α}(h:tS f xs<=n)(hp:∀x,f x<=n->p x):fU n p xs:=by
 unfold tS at h
 exact ⟨by omega,fun x hx=>hp x (by have:=qZ (f:=f) hx;omega)⟩
def bn {i n:Nat}(h:i<n):decide ((i:Int)<(n:Int))=true:=by simp [h]
def nQ {n:Nat}:decide ((n:Int)<(n:Int))=false:=by simp
def aW {i:Nat}:decide ((0:Int)<=(i:Int))=true:=by simp
end Go.DM
namespace Go.DM
def sw (s:Nat)(left:Int):Int:=if left<(s:Int) then -1 else left - s
def iU {s:Nat}{left:Int}(h:left<(s:Int)):sw s left=-1:=if_pos h
def kF {s:Nat}{left:Int}(h:¬left<(s:Int)):sw s left=left - s:=if_neg h
def gC {x:Int}(h:0<=x):decide (x<0)=false:=decide_eq_false (by omega)
def qU {s:Nat}{left:Int}(h0:0<=left)(h1:left<=1048576)(hs:s<=maxLen):IntKind.i64.wrap (left - (s:Int))=left - s:=
 Go.IntWalk.i64_in _ (by simp only [maxLen] at hs;omega)
def tZ {Pt α:Type}{step:(Pt->aj)->Pt->aj}{pt:Int->Nat->Pt}{xs:List α}{f:α->Nat}
  (h1:∀(J:Pt->aj) (i:Nat) (h:i<xs.length) (left:Int),0<=left->left<=1048576->step J (pt left i)=if left<(f xs[i]:Int) then ret (-1:Int) else J (pt (left - f xs[i]) (i+1)))
  (h0:∀(J:Pt->aj) (left:Int),step J (pt left xs.length)=ret left):∀(left:Int),0<=left->left<=1048576->∃m,iter step m (pt left 0)=ret (sw (xs.map f).sum left):=by
 have key:∀k i,i+k=xs.length->∀left:Int,0<=left->left<=1048576->∃m,iter step m (pt left i)=ret (sw ((xs.drop i).map f).sum left):=by
  intro k
  induction k with
  | zero=>
   intro i hi left g0 g1
   have :i=xs.length:=by omega
   subst this
   refine ⟨1,(h0 _ left).trans ?_⟩
   have e:sw ((xs.drop xs.length).map f).sum left=left:=by
    rw [List.drop_eq_nil_of_le (Nat.le_refl _)]
    rw [kF (by simp;omega)];simp
   rw [e]
  | succ k ih=>
   intro i hi left g0 g1
   have hlt:i<xs.length:=by omega
   rw [List.drop_eq_getElem_cons hlt,List.map_cons,List.sum_cons]
   by_cases hc:left<(f xs[i]:Int)
   ·refine ⟨1,(h1 _ i hlt left g0 g1).trans ?_⟩
    rw [if_pos hc,iU (by omega)]
   ·obtain ⟨m,hm⟩:=ih (i+1) (by omega) (left - f xs[i]) (by omega) (by omega)
    refine ⟨m+1,(h1 _ i hlt left g0 g1).trans ?_⟩
    rw [if_neg hc,hm]
    congr 1
    unfold sw
    split<;>split<;>omega
 intro left g0 g1
 have:=key xs.length 0 (by omega) left g0 g1
 simpa using this
def uk {Pt α:Type}{step:(Pt->aj)->Pt->aj}{pt:Int->Nat->Pt}{xs:List α}{f:α->Nat}(hx:xs.length<=maxLen)
  (h1:∀(J:Pt->aj) (i:Nat) (h:i<xs.length) (left:Int),0<=left->left<=1048576->step J (pt left i)=if left<(f xs[i]:Int) then ret (-1:Int) else J (pt (left - f xs[i]) (i+1)))
  (h0:∀(J:Pt->aj) (left:Int),step J (pt left xs.length)=ret left) {left:Int} (g0:0<=left) (g1:left<=1048576) :
  ∃m,(cond (decide (IntKind.i64.wrap (left - (xs.length:Int))<0)) (ret (-1:Int)) (iter step m (pt (IntKind.i64.wrap (left - (xs.length:Int))) 0)))=ret (sw (tS f xs) left):=by
 rw [qU g0 g1 hx]
 by_cases hc:left - (xs.length:Int)<0
 ·refine ⟨0,?_⟩
  rw [decide_eq_true hc,iU (by unfold tS;omega)];rfl
 ·obtain ⟨m,hm⟩:=tZ h1 h0 (left - (xs.length:Int)) (by omega) (by omega)
  refine ⟨m,?_⟩
  rw [decide_eq_false hc,aq,hm]
  congr 1
  unfold sw tS
  split<;>split<;>omega
def tU {Pt:Type}{step:(Pt->aj)->Pt->aj}{pt:Nat->av->Pt}{xs:av}
  (h1:∀(J:Pt->aj) (i:Nat) (h:i<xs.length) (c:av),c.length=xs.length->step J (pt i c)=J (pt (i+1) (c.set i xs[i])))
  (h0:∀(J:Pt->aj) (c:av),step J (pt xs.length c)=ret c) (c:av) (hc:c.length=xs.length):∃m,iter step m (pt 0 c)=ret xs:=by
 have key:∀k i,i+k=xs.length->∀c:av,c.length=xs.length->c.take i=xs.take i->∃m,iter step m (pt i c)=ret xs:=by
  intro k
  induction k with
  | zero=>
   intro i hi c hc ht
   have :i=xs.length:=by omega
   subst this
   rw [List.take_of_length_le (by omega),List.take_of_length_le (Nat.le_refl _)] at ht
   exact ⟨1,by rw [<-ht] at h0 ⊢;exact h0 _ _⟩
  | succ k ih=>
   intro i hi c hc ht
   have hlt:i<xs.length:=by omega
   obtain ⟨m,hm⟩:=ih (i+1) (by omega) (c.set i xs[i]) (by simpa using hc) (by rw [take_set (by omega),ht,List.take_succ_eq_append_getElem hlt])
   exact ⟨m+1,(h1 _ i hlt c hc).trans hm⟩
 exact key xs.length 0 (by omega) c hc rfl
def uh {Pt α:Type}{step:(Pt->aj)->Pt->aj}{pt:Nat->av->Pt}{xs:List α}{f:α->List L}{z:List L}{b:Nat}(hx:(xs.length:Int)*(b:Int)<=140737488355328)
  (h1:∀(J:Pt->aj) (i:Nat) (h:i<xs.length) (c:av),c.length=xs.length->step J (pt i c)=J (pt (i+1) (c.set i (f xs[i]))))
  (h0:∀(J:Pt->aj) (c:av),step J (pt xs.length c)=ret c) :
  ∃m,(cond (decide ((0:Int)<=(xs.length:Int))) (cond (decide ((xs.length:Int)<=(xs.length:Int))) (cond (decide ((xs.length:Int)*(b:Int)<=140737488355328)) (iter step m (pt 0 (List.replicate (Int.toNat (xs.length:Int)) z))) none) none) none)=ret (xs.map f):=by
 obtain ⟨m,hm⟩:=tU (step:=step) (pt:=pt) (xs:=xs.map f) (fun J i h c hc=>by
  rw [List.getElem_map];exact h1 J i (by simpa using h) c (by simpa using hc)) (fun J c=>by rw [List.length_map];exact h0 J c) (List.replicate (Int.toNat (xs.length:Int)) z) (by simp)
 refine ⟨m,?_⟩
 rw [aW,decide_eq_true (Int.le_refl _),decide_eq_true hx]
 exact hm
def tW {Pt α:Type}{step:(Pt->aj)->Pt->aj}{pt:Nat->Pt}{xs ys:List α}(hl:xs.length=ys.length)
  (h1:∀(J:Pt->aj) (i:Nat) (h:i<xs.length) (h':i<ys.length),step J (pt i)=bif lK xs[i] ys[i] then J (pt (i+1)) else ret false) (h0:∀J:Pt->aj,step J (pt xs.length)=ret true):∃m,iter step m (pt 0)=ret (lK xs ys):=by
 have key:∀k i,i+k=xs.length->∃m,iter step m (pt i)=ret (lK (xs.drop i) (ys.drop i)):=by
  intro k
  induction k with
  | zero=>
   intro i hi
   have :i=xs.length:=by omega
   subst this
   refine ⟨1,(h0 _).trans ?_⟩
   rw [List.drop_eq_nil_of_le (Nat.le_refl _),List.drop_eq_nil_of_le (by omega),cC]
  | succ k ih=>
   intro i hi
   have hlt:i<xs.length:=by omega
   have hlt':i<ys.length:=by omega
   rw [List.drop_eq_getElem_cons hlt,List.drop_eq_getElem_cons hlt']
   obtain ⟨m,hm⟩:=ih (i+1) (by omega)
   cases hc:lK xs[i] ys[i]
   ·refine ⟨1,(h1 _ i hlt hlt').trans ?_⟩
    rw [hc]
    have :lK (xs[i]::xs.drop (i+1)) (ys[i]::ys.drop (i+1))=false:=by
     rw [mu] at hc ⊢
     intro h;injection h with h;exact hc h
    rw [this];rfl
   ·refine ⟨m+1,(h1 _ i hlt hlt').trans ?_⟩
    rw [hc,ah,hm]
    congr 1
    rw [eN] at hc
    rw [Bool.eq_iff_iff,eN,eN,hc]
    constructor
    ·intro h;rw [h]
    ·intro h;injection h
 have:=key xs.length 0 (by omega)
 simpa using this
def uD {Pt α:Type}{step:(Pt->aj)->Pt->aj}{pt:Nat->Pt}{xs ys:List α}
  (h1:xs.length=ys.length->∀(J:Pt->aj) (i:Nat) (h:i<xs.length) (h':i<ys.length),step J (pt i)=bif lK xs[i] ys[i] then J (pt (i+1)) else ret false) (h0:∀J:Pt->aj,step J (pt xs.length)=ret true) :
  ∃m,(cond ((xs.length:Int) != (ys.length:Int)) (ret false) (iter step m (pt 0)))=ret (lK xs ys):=by
 by_cases hl:xs.length=ys.length
 ·obtain ⟨m,hm⟩:=tW hl (h1 hl) h0
  refine ⟨m,?_⟩
  rw [hl,bne_self_eq_false,aq,hm]
 ·refine ⟨0,?_⟩
  have h2:((xs.length:Int) != (ys.length:Int))=true:=by simpa using fun h=>hl (by omega)
  have h3:lK xs ys=false:=mu.2 fun h=>hl (by rw [h])
  rw [h2,h3];rfl
def eD.nI {T:Nat->List K}{k:K}{ks:List K}{r:List L}(h:eD T (k::ks) r):∃l r',r=l::r'/\Wf T k l/\eD T ks r':=by
 match r,h with
 | [],h=>have:=h.1;simp at this
 | l::r',h=>
  obtain ⟨l',e1,e2⟩:=h.2 0 k rfl
  simp at e1
  subst e1
  exact ⟨l,r',rfl,e2,by simpa using h.1,fun j kk hj=>by simpa using h.2 (j+1) kk (by simpa using hj)⟩
def eD.uN {T:Nat->List K}{r:List L}(h:eD T [] r):r=[]:=List.eq_nil_of_length_eq_zero h.1
def vh {T:Nat->List K}{k:IntKind}{l:L}(h:Wf T (.int k) l):∃n,l=.int n:=by cases h;exact ⟨_,rfl⟩
def sS {T:Nat->List K}{l:L}(h:Wf T .str l):∃s:aA,l=.str s/\s.size<=maxLen:=by cases h;exact ⟨_,rfl,by assumption⟩
def ux {T:Nat->List K}{e:Nat}{ks:List K}{α:Type}{row:α->List L}{p:α->Prop}(hc:T e=ks)(hrow:∀r,eD T ks r->∃x,row x=r/\p x){l:L}(h:Wf T (.sl e) l) :
  ∃xs:List α,l=.sl (xs.map row)/\fU maxLen p xs:=by
 cases h
 rename_i xs hle hl hr
 have key:∀ys:av,(∀r∈ys,r∈xs)->∃zs:List α,ys=zs.map row/\∀z∈zs,p z:=by
  intro ys
  induction ys with
  | nil=>intro _;exact ⟨[],rfl,fun z hz=>(nomatch hz)⟩
  | cons y ys ih=>
   intro hy
   obtain ⟨zs,e1,e2⟩:=ih fun r hr=>hy r (by simp [hr])
   obtain ⟨z,e3,e4⟩:=hrow y (by
    refine ⟨by rw [<-hc];exact hl y (hy y (by simp)),fun j kk hj=>?_⟩
    rw [<-hc] at hj
    have hjl:j<y.length:=by rw [hl y (hy y (by simp))];exact (List.getElem?_eq_some_iff.1 hj).1
    have hg:=List.getElem?_eq_getElem hjl
    exact ⟨_,hg,hr y j kk _ (hy y (by simp)) hj hg⟩)
   refine ⟨z::zs,by simp [e1,e3],fun w hw=>?_⟩
   rcases List.mem_cons.1 hw with rfl | hw
   ·exact e4
   ·exact e2 w hw
 obtain ⟨zs,e1,e2⟩:=key xs fun r hr=>hr
 exact ⟨zs,by rw [e1],by rw [e1] at hle;simpa using hle,e2⟩
def ud {a b:Int}:(a==b)=lK a b:=by rw [Bool.eq_iff_iff,beq_iff_eq,eN]
def bool_beq {a b:Bool}:(a==b)=lK a b:=by rw [Bool.eq_iff_iff,beq_iff_eq,eN]
def vB {a b:aA}:(a==b)=lK a b:=by
 rw [Bool.eq_iff_iff,eN,beq_toListBytes,beq_iff_eq,ByteArray.toList_eq,ByteArray.toList_eq]
 constructor
 ·intro h
  obtain ⟨⟨x⟩⟩:=a
  obtain ⟨⟨y⟩⟩:=b
  simp at h
  rw [h]
 ·intro h;rw [h]
def pG {b c:Bool}{x:aj}(h:b=true->x=ret c):(cond (!b) (ret false) x)=ret (b&&c):=by
 cases b
 ·rfl
 ·simpa using h rfl
end Go.DM
namespace Go.DM
def dH {S β:Type}(f:Nat->S->S⊕β)(tail:S->β):Nat->Nat->S->β
 | 0,_,s=>tail s
 | k+1,i,s=>match f i s with
  | .inl s'=>dH f tail k (i+1) s'
  | .inr b=>b
def wQ {S β:Type}(K:S->aj)(out:β->aj):S⊕β->aj
 | .inl s=>K s
 | .inr b=>out b
def aN {S β:Type}(x:aj)(K:S->aj)(out:β->aj)(P:S->Prop)(r:S⊕β):Prop:=x=wQ K out r/\∀s,r=.inl s->P s
def aN.bif {S β:Type}{K:S->aj}{out:β->aj}{P:S->Prop}{c:Bool}{x y:aj}{a b:S⊕β}(h1:c=true->aN x K out P a)(h2:c=false->aN y K out P b):aN (cond c x y) K out P (cond c a b):=by
 cases c
 ·exact h2 rfl
 ·exact h1 rfl
def aN.yes {S β:Type}{K:S->aj}{out:β->aj}{P:S->Prop}{c:Bool}{x y:aj}{r:S⊕β}(hc:c=true)(h:aN x K out P r):aN (cond c x y) K out P r:=by rw [hc];exact h
def aN.call {S β γ:Type}[RT γ]{K:S->aj}{out:β->aj}{P:S->Prop}{o:Option γ}{b:γ}(h:o=some b){k:γ->aj}{r:S⊕β}(hk:aN (k b) K out P r):aN (call o k) K out P r:=by rw [call_eq h];exact hk
def aN.inl {S β:Type}{K:S->aj}{out:β->aj}{P:S->Prop}{x:aj}{s:S}(hp:P s)(h:x=K s):aN x K out P (.inl s):=⟨h,fun s' e=>by injection e with e;rw [<-e];exact hp⟩
def aN.inr {S β:Type}{K:S->aj}{out:β->aj}{P:S->Prop}{x:aj}{b:β}(h:x=out b):aN x K out P (.inr b):=⟨h,fun s' e=>by cases e⟩
def fm {Pt S β:Type}{step:(Pt->aj)->Pt->aj}{pt:Nat->S->Pt}{n:Nat}{f:Nat->S->S⊕β}{tail:S->β}{out:β->aj}(Inv:Nat->S->Prop)
  (h1:∀(J:Pt->aj) (i:Nat) (s:S),i<n->Inv i s->aN (step J (pt i s)) (fun s'=>J (pt (i+1) s')) out (Inv (i+1)) (f i s))
  (h0:∀s,Inv n s->∃m,step (iter step m) (pt n s)=out (tail s)) {s:S} (hs:Inv 0 s):∃m,iter step m (pt 0 s)=out (dH f tail n 0 s):=by
 have key:∀k i s,i+k=n->Inv i s->∃m,iter step m (pt i s)=out (dH f tail k i s):=by
  intro k
  induction k with
  | zero=>
   intro i s hi hs
   have :i=n:=by omega
   subst this
   obtain ⟨m,hm⟩:=h0 s hs
   exact ⟨m+1,hm⟩
  | succ k ih=>
   intro i s hi hs
   unfold dH
   cases hf:f i s with
   | inl s'=>
    have h:=h1 (fun _=>none) i s (by omega) hs
    obtain ⟨m,hm⟩:=ih (i+1) s' (by omega) (h.2 s' hf)
    refine ⟨m+1,?_⟩
    have h:=(h1 (iter step m) i s (by omega) hs).1
    rw [hf] at h
    exact h.trans hm
   | inr b=>
    refine ⟨1,?_⟩
    have h:=(h1 (iter step 0) i s (by omega) hs).1
    rw [hf] at h
    exact h
 exact key n 0 s (by omega) hs
def qP {β:Type}(out:β->aj){c:Bool}{x y:Nat->aj}{a b:β}(h1:c=true->∃n,x n=out a)(h2:c=false->∃n,y n=out b):∃n,(cond c (x n) (y n))=out (cond c a b):=by
 cases c
 ·exact h2 rfl
 ·exact h1 rfl
def qo {c:Bool}{x y:Nat->aj}{r:aj}(hc:c=true)(h:∃n,x n=r):∃n,(cond c (x n) (y n))=r:=by subst hc;exact h
def mM {c:Bool}{x y:Nat->aj}{r:aj}(hc:c=false)(h:∃n,y n=r):∃n,(cond c (x n) (y n))=r:=by subst hc;exact h
def uJ {γ:Type}[RT γ]{o:Option γ}{b:γ}(h:o=some b){k:Nat->γ->aj}{r:aj}(hk:∃n,k n b=r):∃n,call o (k n)=r:=by
 obtain ⟨n,hn⟩:=hk
 exact ⟨n,by rw [call_eq h];exact hn⟩
def dM {β:Type}(out:β->aj){c:Bool}{x y:aj}{a b:β}(h1:c=true->x=out a)(h2:c=false->y=out b):(cond c x y)=out (cond c a b):=by
 cases c
 ·exact h2 rfl
 ·exact h1 rfl
def bR {c:Bool}{x y r:aj}(hc:c=true)(h:x=r):(cond c x y)=r:=by subst hc;exact h
def dP {α:Type}{xs:List α}{i:Nat}{z:α}(h:i<xs.length):xs.getD i z=xs[i]:=by simp [List.getD,h]
def cV {α:Type}{xs:List α}{i:Nat}{z:α}(h:¬i<xs.length):xs.getD i z=z:=by simp [List.getD];rw [List.getElem?_eq_none (by omega)];rfl
def sH {xs:List Int}{i:Nat}:wv (xs.map nR) i=xs.getD i 0:=by
 unfold wv
 by_cases h:i<xs.length
 ·rw [getD_map h,dP h];rfl
 ·rw [cV (by simpa using h),cV h];rfl
def sG {xs:List Bool}{i:Nat}:wG (xs.map rG) i=xs.getD i false:=by
 unfold wG
 by_cases h:i<xs.length
 ·rw [getD_map h,dP h];rfl
 ·rw [cV (by simpa using h),cV h];rfl
def tJ {xs:List aA}{i:Nat}:wC (xs.map rT) i=xs.getD i ⟨#[]⟩:=by
 unfold wC
 by_cases h:i<xs.length
 ·rw [getD_map h,dP h];rfl
 ·rw [cV (by simpa using h),cV h];rfl
def tw {α:Type}{f:α->List L}{xs:List (List α)}{i:Nat}:wE (xs.map (rC f)) i=(xs.getD i []).map f:=by
 unfold wE
 by_cases h:i<xs.length
 ·rw [getD_map h,dP h];rfl
 ·rw [cV (by simpa using h),cV h];rfl
def qg {α β:Type}{row:α->List L}{dec:List L->β}{r:α->β}{z:α}{xs:List α}{i:Nat}(h1:∀x,dec (row x)=r x)(h2:dec []=r z):dec (List.getD (xs.map row) i [])=r (xs.getD i z):=by
 by_cases h:i<xs.length
 ·rw [getD_map h,dP h,h1]
 ·rw [cV (by simpa using h),cV h,h2]
def fU.getD {α:Type}{n:Nat}{p:α->Prop}{xs:List α}(h:fU n p xs){i:Nat}{z:α}(hi:i<xs.length):p (xs.getD i z):=by
 rw [dP hi];exact h.get hi
end Go.DM
namespace Go.DM
def cJ {c:Bool}{x y r:aj}(hc:c=false)(h:y=r):(cond c x y)=r:=by subst hc;exact h
def pZ {a:aj}:either a a=a:=by simp [either]
def ex_eq {β:Type}{out:β->aj}{x:Nat->aj}{a b:β}(h:a=b)(k:∃n,x n=out a):∃n,x n=out b:=h ▸ k
def bq {γ:Type}[RT γ]{o:Option γ}{k:γ->aj}{r:aj}(b:γ)(h:o=some b)(hk:k b=r):call o k=r:=(call_eq h k).trans hk
def qF {γ:Type}[RT γ]{o:Option γ}{k:Nat->γ->aj}{r:aj}(b:γ)(h:o=some b)(hk:∃n,k n b=r):∃n,call o (k n)=r:=uJ h hk
def aN.bq {S β γ:Type}[RT γ]{K:S->aj}{out:β->aj}{P:S->Prop}{o:Option γ}{k:γ->aj}{r:S⊕β}(b:γ)(h:o=some b)(hk:aN (k b) K out P r):aN (DM.call o k) K out P r:=aN.call h hk
def cO {α S β:Type}(f:Nat->α->S->S⊕β)(t:S->β):Nat->List α->S->β
 | _,[],s=>t s
 | i,x::xs,s=>match f i x s with
  | .inl s'=>cO f t (i+1) xs s'
  | .inr b=>b
def eR {α S β:Type}{f:Nat->α->S->S⊕β}{t:S->β}{xs:List α}{z:α}{s:S}:dH (fun i s=>f i (xs.getD i z) s) t xs.length 0 s=cO f t 0 xs s:=by
 have key:∀(k i:Nat) (s:S),i+k=xs.length->dH (fun i s=>f i (xs.getD i z) s) t k i s=cO f t i (xs.drop i) s:=by
  intro k
  induction k with
  | zero=>
   intro i s hi
   have :i=xs.length:=by omega
   subst this
   rw [List.drop_eq_nil_of_le (Nat.le_refl _)];rfl
  | succ k ih=>
   intro i s hi
   have hlt:i<xs.length:=by omega
   rw [List.drop_eq_getElem_cons hlt]
   unfold dH cO
   rw [dP hlt]
   cases f i xs[i] s with
   | inl s'=>exact ih (i+1) s' (by omega)
   | inr b=>rfl
 simpa using key xs.length 0 s (by omega)
def qQ {α:Type}(p:α->Bool):Nat->List α->Int
 | _,[]=>-1
 | i,x::xs=>bif p x then (i:Int) else qQ p (i+1) xs
def lq {α:Type}{p:α->Bool}:∀{xs:List α} {i:Nat} {s:Unit},cO (fun i x s=>bif p x then .inr (i:Int) else .inl s) (fun _=>(-1:Int)) i xs s=qQ p i xs
 | [],_,_=>rfl
 | x::xs,i,s=>by
  unfold cO qQ
  cases p x
  ·exact lq
  ·rfl
end Go.DM
namespace Go.DM
def jw (s:aA):List Int:=s.data.toList.map fun b=>(b.toNat:Int)
def qu (s:aA):ep s=(jw s).map nR:=by simp [ep,jw,nR]
def lO (s:aA):(jw s).length=s.size:=by simp [jw]
def lW (s:aA):(ep s).length=s.size:=by simp [ep]
def lH {f:Nat->Unit->Unit⊕Bool}{t:Unit->Bool}{n:Nat}(P:Nat->Prop)(h1:∀i,i<n->P i->f i ()=.inl ())(h2:∀i,i<n->¬P i->f i ()=.inr false):dH f t n 0 ()=true↔(∀i,i<n->P i)/\t ()=true:=by
 have key:∀k i,i+k=n->(dH f t k i ()=true↔(∀j,i<=j->j<n->P j)/\t ()=true):=by
  intro k
  induction k with
  | zero=>
   intro i hi
   constructor
   ·intro h;exact ⟨fun j h1 h2=>by omega,h⟩
   ·intro h;exact h.2
  | succ k ih=>
   intro i hi
   unfold dH
   by_cases hp:P i
   ·rw [h1 i (by omega) hp]
    show dH f t k (i+1) ()=true↔_
    rw [ih (i+1) (by omega)]
    constructor
    ·intro ⟨h,ht⟩
     refine ⟨fun j h1 h2=>?_,ht⟩
     by_cases hj:j=i
     ·subst hj;exact hp
     ·exact h j (by omega) h2
    ·intro ⟨h,ht⟩;exact ⟨fun j h1 h2=>h j (by omega) h2,ht⟩
   ·rw [h2 i (by omega) hp]
    constructor
    ·intro h;cases h
    ·intro ⟨h,_⟩;exact (hp (h i (Nat.le_refl _) (by omega))).elim
 rw [key n 0 (by omega)]
 simp
end Go.DM
namespace Go.DM
def qJ {S β:Type}{f:Nat->S->S⊕β}{t:S->β}{k i:Nat}{s:S}:dH f t (k+1) i s=match f i s with | .inl s'=>dH f t k (i+1) s' | .inr b=>b:=rfl
def mH {Pt:Type}{step:(Pt->aj)->Pt->aj}{p q:Pt}{r:aj}(h:q=p)(k:∃n,iter step n p=r):∃n,iter step n q=r:=h ▸ k
def ot {α:Type}{f:Nat->α->Unit->Unit⊕Int}(h:∀i x s b,f i x s=.inr b->b=(i:Int)):∀(xs:List α) (i:Nat) (s:Unit),-1<=cO f (fun _=>(-1:Int)) i xs s/\cO f (fun _=>(-1:Int)) i xs s<(i:Int)+xs.length
 | [],i,s=>by simp only [cO,List.length_nil];omega
 | x::xs,i,s=>by
  unfold cO
  cases hf:f i x s with
  | inl s'=>
   have:=ot h xs (i+1) s'
   simp only [List.length_cons]
   omega
  | inr b=>
   have:=h i x s b hf
   simp only [List.length_cons]
   omega
end Go.DM
namespace Go.DM
def mJ {α:Type}{f:Nat->α->Unit->Unit⊕Int}(h:∀i x s b,f i x s=.inr b->b=(i:Int))(xs:List α)(s:Unit):-1<=cO f (fun _=>(-1:Int)) 0 xs s/\cO f (fun _=>(-1:Int)) 0 xs s<(xs.length:Int):=by
 have:=ot h xs 0 s
 simpa using this
end Go.DM
namespace Go.DM
def jS {S β:Type}{f:Nat->S->S⊕β}{c:β}(h:∀i s b,f i s=.inr b->b=c):∀(k i:Nat) (s:S),dH f (fun _=>c) k i s=c
 | 0,_,_=>rfl
 | k+1,i,s=>by
  rw [qJ]
  cases hf:f i s with
  | inl s'=>exact jS h k _ _
  | inr b=>exact h _ _ _ hf
end Go.DM
namespace Go.DM
end Go.DM
namespace Go.DM
end Go.DM
namespace Go.DM
end Go.DM
namespace Go.DM
class Row (α:Type) where
 row:α->List L
 vZ:∀{a b:α},row a=row b->a=b
class Im (α:Type) (β:outParam Type) where
 im:α->β
 inj:∀{a b:α},im a=im b->a=b
instance :Row Int:=⟨nR,sK⟩
instance :Row Bool:=⟨rG,sN⟩
instance :Row aA:=⟨rT,tF⟩
instance {α:Type} [Row α]:Row (List α):=⟨rC Row.row,tH Row.vZ⟩
instance :Im Int Int:=⟨fun x=>x,fun h=>h⟩
instance :Im Bool Bool:=⟨fun x=>x,fun h=>h⟩
instance :Im aA aA:=⟨fun x=>x,fun h=>h⟩
instance :Im Unit Unit:=⟨fun x=>x,fun h=>h⟩
instance {α:Type} [Row α]:Im (List α) (av):=⟨fun x=>x.map Row.row,fun h=>map_inj Row.vZ h⟩
instance {α α' β β':Type} [Im α α'] [Im β β']:Im (α×β) (α'×β'):=⟨fun x=>(Im.im x.1,Im.im x.2),fun h=>Prod.ext (Im.inj (congrArg (fun x=>x.1) h)) (Im.inj (congrArg (fun x=>x.2) h))⟩
def u2 {a b r:Type}(f:a->b->r)(x:a×b):r:=f x.1 x.2
def u3 {a b c r:Type}(f:a->b->c->r)(x:a×b×c):r:=f x.1 x.2.1 x.2.2
def p2 {a b:Type}(f:a->b->Prop)(x:a×b):Prop:=f x.1 x.2
def p3 {a b c:Type}(f:a->b->c->Prop)(x:a×b×c):Prop:=f x.1 x.2.1 x.2.2
def p4 {a b c d:Type}(f:a->b->c->d->Prop)(x:a×b×c×d):Prop:=f x.1 x.2.1 x.2.2.1 x.2.2.2
def p5 {a b c d e:Type}(f:a->b->c->d->e->Prop)(x:a×b×c×d×e):Prop:=f x.1 x.2.1 x.2.2.1 x.2.2.2.1 x.2.2.2.2
section
variable {A A' B B':Type} [Im A A'] [Im B B'] {g:A->Prop} {m:A->B}
def RR (g:A->Prop)(m:A->B)(x:A'):Option B':=ofM Im.im g (fun a=>Im.im (m a)) x
theorem bM {a:A}(h:g a):RR g m (Im.im a)=some (Im.im (m a)):=vf (fun _ _ h=>Im.inj h) h
def CN [RT B'](ps:List fO)(r:RP)(acc:List L->A')(R:A'->Option B'):fk:=⟨ps,r,fun ls=>(R (acc ls)).map RT.enc⟩
theorem VP [RT B']{X:Type}{P:Program}{T:List (Nat×TI)}{G:List (Nat×fk)}{nt:Nat}{f:FuncId}{fn:Func}{ps:List fO}{r:RP}{acc:List L->A'}{accr:List L->X}{live:Nat->Live}{run:Nat->X->aj}
  (hm:P.follows .mixedOrders=true) (hT:bW P T=true) (hG:dF P (bh T) G) (hf:P.funcs[f]?=some fn) (hb:rz fn (CN ps r acc (RR g m)) nt=true)
  (hrun:∀n ls,eB { T:=assoc T,G:=bN G,nt:=nt } live fn r n (cH ps ls)=run n (accr ls))
  (hok:∀ls a,lP (bh T).cells ps ls->acc ls=Im.im a->g a->∃n,run n (accr ls)=ret (Im.im (m a))):Valid P (bh T) f (CN ps r acc (RR g m)):=
 valid hm hT hG hf hb live fun ls q hl h=>by
  obtain ⟨v,hv,hq⟩:=map_some h
  obtain ⟨a,hg,e,hm⟩:=iJ hv
  obtain ⟨n,hn⟩:=hok ls a hl e.symm hg
  exact ⟨n,(hrun n ls).trans (hn.trans (by rw [<-hq,<-hm];rfl))⟩
theorem VV [RT B']{P:Program}{T:List (Nat×TI)}{G:List (Nat×fk)}{nt:Nat}{f:FuncId}{fn:Func}{ps:List fO}{r:RP}{acc:List L->A'}{live:Nat->Live}{run:Nat->A'->aj}
  (hm:P.follows .mixedOrders=true) (hT:bW P T=true) (hG:dF P (bh T) G) (hf:P.funcs[f]?=some fn) (hb:rz fn (CN ps r acc (RR g m)) nt=true)
  (hrun:∀n ls,eB { T:=assoc T,G:=bN G,nt:=nt } live fn r n (cH ps ls)=run n (acc ls))
  (hok:∀ls a,lP (bh T).cells ps ls->acc ls=Im.im a->g a->∃n,run n (Im.im a)=ret (Im.im (m a))):Valid P (bh T) f (CN ps r acc (RR g m)):=
 VP hm hT hG hf hb hrun fun ls a hl e hg=>by rw [e];exact hok ls a hl e hg
theorem VS [RT B']{P:Program}{T:List (Nat×TI)}{G:List (Nat×fk)}{S:List (Nat×fu)}{nt:Nat}{f:FuncId}{fn:Func}{ps:List fO}{r:RP}{acc:List L->A'}{live:Nat->Live}{run:Nat->A'->aj}
  (hm:P.follows .mixedOrders=true) (hT:bW P T=true) (hG:dF P (bh T) G) (hS:gw P (bh T) S) (hf:P.funcs[f]?=some fn) (hb:rz fn (CN ps r acc (RR g m)) nt=true)
  (hrun:∀n ls,eB { T:=assoc T,G:=bN G,nt:=nt,M:=dA S } live fn r n (cH ps ls)=run n (acc ls))
  (hok:∀ls a,lP (bh T).cells ps ls->acc ls=Im.im a->g a->∃n,run n (Im.im a)=ret (Im.im (m a))):Valid P (bh T) f (CN ps r acc (RR g m)):=
 ru hm hT hG hS hf hb live fun ls q hl h=>by
  obtain ⟨v,hv,hq⟩:=map_some h
  obtain ⟨a,hg,e,hm⟩:=iJ hv
  obtain ⟨n,hn⟩:=hok ls a hl e.symm hg
  exact ⟨n,(hrun n ls).trans (by rw [<-e];exact hn.trans (by rw [<-hq,<-hm];rfl))⟩
theorem VI [RT B']{P:Program}{T:List (Nat×TI)}{G:List (Nat×fk)}{S:List (Nat×fu)}{I:List (Nat×fV)}{nt:Nat}{mt:Bool}{J:List Nat}{f:FuncId}{fn:Func}{ps:List fO}{r:RP}{acc:List L->A'}{live:Nat->Live}{run:Nat->A'->aj}
  (hm:P.follows .mixedOrders=true) (hT:bW P T=true) (hG:dF P (bh T) G) (hS:gw P (bh T) S) (hI:kN P (bh T) 0 I) (hf:P.funcs[f]?=some fn) (hb:rz fn (CN ps r acc (RR g m)) nt=true)
  (hrun:∀n ls,eB { T:=assoc T,G:=bN G,nt:=nt,M:=dA S,mt:=mt,I:=oK I,J:=J } live fn r n (cH ps ls)=run n (acc ls))
  (hok:∀ls a,lP (bh T).cells ps ls->acc ls=Im.im a->g a->∃n,run n (Im.im a)=ret (Im.im (m a))):Valid P (bh T) f (CN ps r acc (RR g m)):=
 uc hm hT hG hS hI hf hb live fun ls q hl h=>by
  obtain ⟨v,hv,hq⟩:=map_some h
  obtain ⟨a,hg,e,hm⟩:=iJ hv
  obtain ⟨n,hn⟩:=hok ls a hl e.symm hg
  exact ⟨n,(hrun n ls).trans (by rw [<-e];exact hn.trans (by rw [<-hq,<-hm];rfl))⟩
def MN [RT B'](ps:List (Bool×List K))(acc:List L->A')(R:A'->Option B'):fu:=⟨ps,fun ls=>(R (acc ls)).map RT.enc⟩
theorem MV [RT B']{P:Program}{T:List (Nat×TI)}{G:List (Nat×fk)}{S:List (Nat×fu)}{nt:Nat}{f:FuncId}{fn:Func}{ps:List (Bool×List K)}{acc:List L->A'}{live:Nat->Live}{run:Nat->A'->aj}
  (hm:P.follows .mixedOrders=true) (hT:bW P T=true) (hG:dF P (bh T) G) (hS:gw P (bh T) S) (hf:P.funcs[f]?=some fn) (hb:uU fn (MN ps acc (RR g m)) nt=true)
  (hrun:∀n ls,eB { T:=assoc T,G:=bN G,nt:=nt,M:=dA S,np:=(fJ ps).length,mt:=true } live fn (.oE (fJ ps)) n (qh ps ls)=run n (acc ls))
  (hok:∀ls a,tX (bh T).cells ps ls->acc ls=Im.im a->g a->∃n,run n (Im.im a)=ret (Im.im (m a))):cP P (bh T) f (MN ps acc (RR g m)):=
 vg hm hT hG hS hf hb live fun ls q hl h=>by
  obtain ⟨v,hv,hq⟩:=map_some h
  obtain ⟨a,hg,e,hm⟩:=iJ hv
  obtain ⟨n,hn⟩:=hok ls a hl e.symm hg
  exact ⟨n,(hrun n ls).trans (by rw [<-e];exact hn.trans (by rw [<-hq,<-hm];rfl))⟩
theorem vT (n:Nat):(Nat.beq n n&&true)=true:=by rw [Nat.beq_refl];rfl
end
def S0:(∀(α β:Type) (f:α->β) (l:List α),(l.map f).length=l.length)/\(∀n:Nat,Int.toNat (n:Int)=n)/\(∀s:aA,ep s=(jw s).map nR)/\(∀(xs:List Int) i,wv (xs.map nR) i=xs.getD i 0)/\
  (∀(xs:List Bool) i,wG (xs.map rG) i=xs.getD i false)/\(∀(xs:List aA) i,wC (xs.map rT) i=xs.getD i ⟨#[]⟩)/\(∀(α:Type) (f:α->List L) (xs:List (List α)) i,wE (xs.map (rC f)) i=(xs.getD i []).map f):=
 ⟨fun _ _ _ _=>List.length_map ..,fq,qu,fun _ _=>sH,fun _ _=>sG,fun _ _=>tJ,fun _ _ _ _=>tw⟩
def MP:(∀(α β:Type) (f:α->β) (a b:List α),(a++b).map f=a.map f++b.map f)/\(∀(α β:Type) (f:α->β) (a:α) (b:List α),(a::b).map f=f a::b.map f)/\(∀(α β:Type) (f:α->β),[].map f=[])/\
  (∀(α:Type) (a:α) (b c:List α),(a::b)++c=a::(b++c))/\(∀(α:Type) (c:List α),[]++c=c)/\(∀n,nR n=[.int n])/\(∀n,rG n=[.bool n])/\(∀n,rT n=[.str n])/\(∀(α:Type) (f:α->List L) (c:List α),rC f c=[.sl (c.map f)])/\
  (∀(α β:Type) (f:α->β) (l:List α) (i:Nat) (a:α),(l.set i a).map f=(l.map f).set i (f a))/\(∀(α β:Type) (f:α->β) (l:List α) (i:Nat),(l.take i).map f=(l.map f).take i)/\(∀(α β:Type) (f:α->β) (l:List α) (i:Nat),(l.drop i).map f=(l.map f).drop i):=
 ⟨fun _ _ _ _ _=>List.map_append ..,fun _ _ _ _ _=>rfl,fun _ _ _=>rfl,fun _ _ _ _=>rfl,fun _ _=>rfl,fun _=>rfl,fun _=>rfl,fun _=>rfl,fun _ _ _=>rfl,fun _ _ _ _ _ _=>List.map_set ..,fun _ _ _ _ _=>List.map_take ..,fun _ _ _ _ _=>List.map_drop ..⟩
def LN:(∀(a:Nat) (l:List Nat),(a::l).sum=a+l.sum)/\(([]:List Nat).sum=0)/\(∀(α β:Type) (f:α->β) (a:α) (b:List α),(a::b).map f=f a::b.map f)/\(∀(α β:Type) (f:α->β),[].map f=[])/\(∀s,(jw s).length=s.size)/\(∀s,(ep s).length=s.size)/\
  (∀(α:Type) (a b:List α),(a++b).length=a.length+b.length)/\(∀(α:Type) (a:α) (b:List α),(a::b).length=b.length+1)/\(∀(α:Type),([]:List α).length=0)/\(∀(α β:Type) (f:α->β) (l:List α),(l.map f).length=l.length)/\
  (∀(α:Type) (l:List α) (i:Nat) (a:α),(l.set i a).length=l.length)/\(∀(α:Type) (n:Nat) (a:α),(List.replicate n a).length=n)/\(∀(α:Type) (l:List α) (i:Nat),(l.take i).length=min i l.length)/\(∀(α:Type) (l:List α) (i:Nat),(l.drop i).length=l.length - i):=
 ⟨fun _ _=>List.sum_cons,rfl,fun _ _ _ _ _=>rfl,fun _ _ _=>rfl,lO,lW,fun _ _ _=>List.length_append ..,fun _ _ _=>rfl,fun _=>rfl,fun _ _ _ _=>List.length_map ..,fun _ _ _ _=>List.length_set ..,fun _ _ _=>List.length_replicate ..,fun _ _ _=>List.length_take ..,fun _ _ _=>List.length_drop ..⟩
def DC:(∀(α:Type) [BEq α] [LawfulBEq α] (a b:α),((a != b)=false)=(a=b))/\(∀(α:Type) [BEq α] [LawfulBEq α] (a b:α),((a != b)=true)=¬(a=b))/\(∀(α:Type) [BEq α] [LawfulBEq α] (a b:α),((a==b)=true)=(a=b))/\(∀(α:Type) [BEq α] [LawfulBEq α] (a b:α),((a==b)=false)=¬(a=b))/\
  (∀b:Bool,((!b)=true)=(b=false))/\(∀b:Bool,((!b)=false)=(b=true))/\(∀(p:Prop) [Decidable p],(decide p=true)=p)/\(∀(p:Prop) [Decidable p],(decide p=false)=¬p):=
 ⟨fun _ _ _ _ _=>by simp,fun _ _ _ _ _=>by simp,fun _ _ _ _ _=>by simp,fun _ _ _ _ _=>by simp,fun b=>by simp,fun b=>by simp,fun p _=>by simp,fun p _=>by simp⟩
def wi (n:Int)(h:-9223372036854775808<=n/\n<=9223372036854775807):IntKind.i64.wrap n=n:=Go.IntWalk.i64_in n h
def jI {α S β:Type}{f g:Nat->α->S->S⊕β}{t u:S->β}:∀{xs:List α} {i:Nat} {s:S},(∀i,∀x∈xs,∀s,f i x s=g i x s)->(∀s,t s=u s)->cO f t i xs s=cO g u i xs s
 | [],_,s,_,h0=>h0 s
 | x::xs,i,s,h,h0=>by
  unfold cO
  rw [h i x (by simp) s]
  cases g i x s with
  | inl s'=>exact jI (fun i y hy=>h i y (by simp [hy])) h0
  | inr b=>rfl
end Go.DM
namespace Go.DM
def nE (n:Int):Prop:=-9223372036854775808<=n/\n<=9223372036854775807
def oP (n:Int):nE (IntKind.i64.wrap n):=by rw [IntKind.wrap_i64];unfold nE;omega
end Go.DM
namespace Go.DM
def iB {α β:Type}(f:α->Int->Int×β):List α->Int->Int×List β
 | [],k=>(k,[])
 | x::xs,k=>((iB f xs (f x k).1).1,(f x k).2::(iB f xs (f x k).1).2)
def td {α β:Type}{f:α->Int->Int×β}{I:Int->Prop}(h:∀x k,I k->I (f x k).1):∀{xs:List α} {k:Int},I k->I (iB f xs k).1
 | [],_,hk=>hk
 | x::xs,k,hk=>td h (xs:=xs) (h x k hk)
def lX {α:Type}{c:List α}{i:Nat}{y:α}:(c.set i y).drop (i+1)=c.drop (i+1):=by
 apply List.ext_getElem?
 intro j
 rw [List.getElem?_drop,List.getElem?_drop,List.getElem?_set,if_neg (by omega)]
def rD {Pt α:Type}{step:(Pt->aj)->Pt->aj}{pt:Nat->Int->List α->Pt}{el:α->Int->Int×α}{out:Int×List α->aj}{xs:List α}(z:α)(I:Int->Prop)(hI:∀x k,I k->I (el x k).1)
  (h1:∀(J:Pt->aj) (i:Nat) (k:Int) (c:List α),i<c.length->c.length=xs.length->I k->step J (pt i k c)=J (pt (i+1) (el (c.getD i z) k).1 (c.set i (el (c.getD i z) k).2)))
  (h0:∀(J:Pt->aj) (k:Int) (c:List α),c.length=xs.length->step J (pt c.length k c)=out (k,c)) {k:Int} (hk:I k):∃m,iter step m (pt 0 k xs)=out (iB el xs k):=by
 have key:∀(n i:Nat) (c:List α) (k:Int),i+n=c.length->c.length=xs.length->I k->∃m,iter step m (pt i k c)=out ((iB el (c.drop i) k).1,c.take i++(iB el (c.drop i) k).2):=by
  intro n
  induction n with
  | zero=>
   intro i c k hi hc hk
   have :i=c.length:=by omega
   subst this
   refine ⟨1,(h0 _ k c hc).trans ?_⟩
   rw [List.drop_eq_nil_of_le (Nat.le_refl _),List.take_of_length_le (Nat.le_refl _)]
   simp [iB]
  | succ n ih=>
   intro i c k hi hc hk
   have hlt:i<c.length:=by omega
   obtain ⟨m,hm⟩:=ih (i+1) (c.set i (el (c.getD i z) k).2) (el (c.getD i z) k).1 (by simp;omega) (by simp [hc]) (hI _ _ hk)
   refine ⟨m+1,(h1 _ i k c hlt hc hk).trans (hm.trans ?_)⟩
   rw [lX,take_set hlt,List.drop_eq_getElem_cons hlt,dP hlt]
   simp [iB]
 have:=key xs.length 0 xs k (by omega) rfl hk
 simpa using this
def gU {α:Type}(f:α->Int->Option Int):List α->Int->Int
 | [],k=>k
 | x::xs,k=>match f x k with
  | some k'=>gU f xs k'
  | none=>-1
def sx:Option Int->(Int->aj)->aj
 | none,_=>ret (-1:Int)
 | some k,K=>K k
def pz {c:Bool}{x y:aj}{r:Option Int}{K:Int->aj}(h1:x=ret (-1:Int))(h2:y=sx r K):(cond c x y)=sx (cond c none r) K:=by
 cases c
 ·exact h2
 ·exact h1
def rU {Pt α:Type}{step:(Pt->aj)->Pt->aj}{pt:Nat->Int->Pt}{f:α->Int->Option Int}{xs:List α}(z:α)(I:Int->Prop)(hI:∀x k k',I k->f x k=some k'->I k')
  (h1:∀(J:Pt->aj) (i:Nat) (k:Int),i<xs.length->I k->step J (pt i k)=sx (f (xs.getD i z) k) (fun k'=>J (pt (i+1) k')))
  (h0:∀(J:Pt->aj) (k:Int),step J (pt xs.length k)=ret k) {k:Int} (hk:I k):∃m,iter step m (pt 0 k)=ret (gU f xs k):=by
 have key:∀(n i:Nat) (k:Int),i+n=xs.length->I k->∃m,iter step m (pt i k)=ret (gU f (xs.drop i) k):=by
  intro n
  induction n with
  | zero=>
   intro i k hi hk
   have :i=xs.length:=by omega
   subst this
   refine ⟨1,(h0 _ k).trans ?_⟩
   rw [List.drop_eq_nil_of_le (Nat.le_refl _)];rfl
  | succ n ih=>
   intro i k hi hk
   have hlt:i<xs.length:=by omega
   rw [List.drop_eq_getElem_cons hlt]
   have h:=fun J=>h1 J i k hlt hk
   rw [dP hlt] at h
   unfold gU
   cases hf:f xs[i] k with
   | none=>refine ⟨1,(h _).trans ?_⟩;rw [hf];rfl
   | some k'=>
    obtain ⟨m,hm⟩:=ih (i+1) k' (by omega) (hI _ _ _ hk hf)
    refine ⟨m+1,(h _).trans ?_⟩
    rw [hf];exact hm
 have:=key xs.length 0 k (by omega) hk
 simpa using this
def oO {c:Bool}{r:Option Int}{k:Int}(h:(cond c none r)=some k):r=some k:=by
 cases c
 ·exact h
 ·cases h
def rB {α:Type}{f:α->Int->Option Int}{I:Int->Prop}(hI:∀x k k',I k->f x k=some k'->I k')(hn:I (-1)):∀{xs:List α} {k:Int},I k->I (gU f xs k)
 | [],_,hk=>hk
 | x::xs,k,hk=>by
  unfold gU
  cases hf:f x k with
  | none=>exact hn
  | some k'=>exact rB hI hn (hI _ _ _ hk hf)
def pT {α:Type}{el:α->Int->Int×α}{cnt:α->Nat}(h:∀x k,0<=k->k+(cnt x:Int)<=4611686018427387904->(el x k).1=k+cnt x) :
  ∀(xs:List α) (k:Int),0<=k->k+((xs.map cnt).sum:Int)<=4611686018427387904->(iB el xs k).1=k+(xs.map cnt).sum
 | [],k,_,_=>by simp [iB]
 | x::xs,k,h0,hb=>by
  simp only [List.map_cons,List.sum_cons,Int.natCast_add] at hb ⊢
  have e1:=h x k h0 (by omega)
  have e3:=pT h xs (k+cnt x) (by omega) (by omega)
  simp only [iB,e1]
  rw [e3];omega
def mW {α:Type}{el:α->Int->Int×α}{f:α->Int->Option Int}{cnt:α->Nat}(h:∀x k,0<=k->k+(cnt x:Int)<=4611686018427387904->(el x k).1=k+cnt x)
  (h2:∀x k,0<=k->k+(cnt x:Int)<=4611686018427387904->f (el x k).2 k=some (k+cnt x)) :
  ∀(xs:List α) (k:Int),0<=k->k+((xs.map cnt).sum:Int)<=4611686018427387904->gU f (iB el xs k).2 k=k+(xs.map cnt).sum
 | [],k,_,_=>by simp [iB,gU]
 | x::xs,k,h0,hb=>by
  simp only [List.map_cons,List.sum_cons,Int.natCast_add] at hb ⊢
  have e1:=h x k h0 (by omega)
  have e2:=h2 x k h0 (by omega)
  have e4:=mW h h2 xs (k+cnt x) (by omega) (by omega)
  simp only [iB,gU,e1,e2]
  rw [e4];omega
def tK {α:Type}{cnt f:α->Nat}(h:∀x,cnt x<=60+60*f x):∀xs:List α,(xs.map cnt).sum<=60*tS f xs
 | []=>by simp
 | x::xs=>by
  have h1:=h x
  have h2:=tK h xs
  unfold tS at h2 ⊢
  simp only [List.map_cons,List.sum_cons,List.length_cons]
  omega
def uE:nE (-1):=⟨by decide,by decide⟩
def kB:nE 1:=⟨by decide,by decide⟩
def lm {n:Int}(h:n<=140737488355328:=by (try simp (disch:=omega) only [LN,wi,Bool.cond_decide]);first | omega | (simp;done) | (simp;omega)):pq n=true:=lY h
def dt {p:Prop}{_:Decidable p}(h:p:=by (try simp (disch:=omega) only [LN,wi,Bool.cond_decide]);first | omega | (simp;done) | (simp;omega)):decide p=true:=decide_eq_true h
def df {p:Prop}{_:Decidable p}(h:¬p:=by (try simp (disch:=omega) only [LN,wi,Bool.cond_decide]);first | omega | (simp;done) | (simp;omega)):decide p=false:=decide_eq_false h
def om {p:Prop}(h:p:=by (try simp (disch:=omega) only [LN,wi,Bool.cond_decide]);first | omega | (simp;done) | (simp;omega)):p:=h
def ct {γ:Type}[RT γ]{o:Option γ}{b:γ}{k:γ->aj}{r:aj}(h:o=some b)(hk:k b=r):call o k=r:=bq b h hk
def cx {γ:Type}[RT γ]{o:Option γ}{b:γ}{k:Nat->γ->aj}{r:aj}(h:o=some b)(hk:∃n,k n b=r):∃n,call o (k n)=r:=qF b h hk
def cr {S β γ:Type}[RT γ]{K:S->aj}{out:β->aj}{Q:S->Prop}{o:Option γ}{b:γ}{k:γ->aj}{r:S⊕β}(h:o=some b)(hk:aN (k b) K out Q r):aN (DM.call o k) K out Q r:=aN.bq b h hk
def W1 {A A' Z Z':Type}[Im A A'][RT A'][Im Z Z'][RT Z']{P:Program}{T:List (Nat×TI)}{G:List (Nat×fk)}{f:FuncId}{fn:Func}{ps:List fO}{r:RP}{g:A->Prop}{m:A->Z}(nt:Nat)(F:A'->aj)(hm:P.follows .mixedOrders=true)(hT:bW P T=true)(ok:∀a0,g a0->F (Im.im a0)=ret (Im.im (m a0)))(hG:dF P (bh T) G)(hf:P.funcs[f]?=some fn)
  (hb:rz fn (CN ps r (RT.dec:List L->A') (RR g m)) nt=true:=by kernel_rfl) (hr:∀n ls,eB { T:=assoc T,G:=bN G,nt:=nt } (fun _=>[]) fn r n (cH ps ls)=F (RT.dec ls:A'):=by intro _ _;kernel_rfl):Valid P (bh T) f (CN ps r (RT.dec:List L->A') (RR g m)):=
 VV (run:=fun _ x=>F x) hm hT hG hf hb hr fun _ a _ _ h=>⟨0,ok a h⟩
def L1 {A A' Z Z':Type}[Im A A'][RT A'][Im Z Z'][RT Z']{P:Program}{T:List (Nat×TI)}{G:List (Nat×fk)}{f:FuncId}{fn:Func}{ps:List fO}{r:RP}{g:A->Prop}{m:A->Z}{Pt:Type}(nt:Nat)(id:Pt->Nat)(vs:Pt->List V)(hs:Pt->List af)(live:Nat->Live)(step:(Pt->aj)->Pt->aj)(start:(Pt->aj)->A'->aj)(hm:P.follows .mixedOrders=true)(hT:bW P T=true)(ok:∀a0,g a0->∃n,start (iter step n) (Im.im a0)=ret (Im.im (m a0)))(hG:dF P (bh T) G)(hf:P.funcs[f]?=some fn)
  (hb:rz fn (CN ps r (RT.dec:List L->A') (RR g m)) nt=true:=by kernel_rfl) (h1:∀(I:cz) (p:Pt),bJ { T:=assoc T,G:=bN G,nt:=nt } live I (id p) (aR fn) (jY (live (id p)) (vs p) (hs p)) (cy { T:=assoc T,G:=bN G,nt:=nt } fn r)=step (fun q=>I (id q) (vs q) (hs q)) p:=by intro _ p;cases p<;>kernel_rfl)
  (h0:∀(I:cz) (ls:List L),fC { T:=assoc T,G:=bN G,nt:=nt } live I (aR fn) (cH ps ls) (cy { T:=assoc T,G:=bN G,nt:=nt } fn r)=start (fun q=>I (id q) (vs q) (hs q)) (RT.dec ls:A'):=by intro _ _;kernel_rfl):Valid P (bh T) f (CN ps r (RT.dec:List L->A') (RR g m)):=
 VV (run:=fun n x=>start (iter step n) x) hm hT hG hf hb (fun n ls=>dV (start:=fun J=>start J (RT.dec ls:A')) h1 (fun I=>h0 I ls) n) fun _ a _ _ h=>ok a h
def W2 {A A' B B' Z Z':Type}[Im A A'][RT A'][Im B B'][RT B'][Im Z Z'][RT Z']{P:Program}{T:List (Nat×TI)}{G:List (Nat×fk)}{f:FuncId}{fn:Func}{ps:List fO}{r:RP}{g:A->B->Prop}{m:A->B->Z}(nt:Nat)(F:A'->B'->aj)(hm:P.follows .mixedOrders=true)(hT:bW P T=true)(ok:∀a0 a1,g a0 a1->F (Im.im a0) (Im.im a1)=ret (Im.im (m a0 a1)))(hG:dF P (bh T) G)(hf:P.funcs[f]?=some fn)
  (hb:rz fn (CN ps r (RT.dec:List L->A'×B') (RR (p2 g) (u2 m))) nt=true:=by kernel_rfl) (hr:∀n ls,eB { T:=assoc T,G:=bN G,nt:=nt } (fun _=>[]) fn r n (cH ps ls)=F (RT.dec ls:A'×B').1 (RT.dec ls:A'×B').2:=by intro _ _;kernel_rfl):Valid P (bh T) f (CN ps r (RT.dec:List L->A'×B') (RR (p2 g) (u2 m))):=
 VV (run:=fun _ x=>F x.1 x.2) hm hT hG hf hb hr fun _ a _ _ h=>⟨0,ok a.1 a.2 h⟩
def L2 {A A' B B' Z Z':Type}[Im A A'][RT A'][Im B B'][RT B'][Im Z Z'][RT Z']{P:Program}{T:List (Nat×TI)}{G:List (Nat×fk)}{f:FuncId}{fn:Func}{ps:List fO}{r:RP}{g:A->B->Prop}{m:A->B->Z}{Pt:Type}(nt:Nat)(id:Pt->Nat)(vs:Pt->List V)(hs:Pt->List af)(live:Nat->Live)(step:(Pt->aj)->Pt->aj)(start:(Pt->aj)->A'->B'->aj)(hm:P.follows .mixedOrders=true)(hT:bW P T=true)(ok:∀a0 a1,g a0 a1->∃n,start (iter step n) (Im.im a0) (Im.im a1)=ret (Im.im (m a0 a1)))(hG:dF P (bh T) G)(hf:P.funcs[f]?=some fn)
  (hb:rz fn (CN ps r (RT.dec:List L->A'×B') (RR (p2 g) (u2 m))) nt=true:=by kernel_rfl) (h1:∀(I:cz) (p:Pt),bJ { T:=assoc T,G:=bN G,nt:=nt } live I (id p) (aR fn) (jY (live (id p)) (vs p) (hs p)) (cy { T:=assoc T,G:=bN G,nt:=nt } fn r)=step (fun q=>I (id q) (vs q) (hs q)) p:=by intro _ p;cases p<;>kernel_rfl)
  (h0:∀(I:cz) (ls:List L),fC { T:=assoc T,G:=bN G,nt:=nt } live I (aR fn) (cH ps ls) (cy { T:=assoc T,G:=bN G,nt:=nt } fn r)=start (fun q=>I (id q) (vs q) (hs q)) (RT.dec ls:A'×B').1 (RT.dec ls:A'×B').2:=by intro _ _;kernel_rfl):Valid P (bh T) f (CN ps r (RT.dec:List L->A'×B') (RR (p2 g) (u2 m))):=
 VV (run:=fun n x=>start (iter step n) x.1 x.2) hm hT hG hf hb (fun n ls=>dV (start:=fun J=>start J (RT.dec ls:A'×B').1 (RT.dec ls:A'×B').2) h1 (fun I=>h0 I ls) n) fun _ a _ _ h=>ok a.1 a.2 h
def W3 {A A' B B' C C' Z Z':Type}[Im A A'][RT A'][Im B B'][RT B'][Im C C'][RT C'][Im Z Z'][RT Z']{P:Program}{T:List (Nat×TI)}{G:List (Nat×fk)}{f:FuncId}{fn:Func}{ps:List fO}{r:RP}{g:A->B->C->Prop}{m:A->B->C->Z}(nt:Nat)(F:A'->B'->C'->aj)(hm:P.follows .mixedOrders=true)(hT:bW P T=true)(ok:∀a0 a1 a2,g a0 a1 a2->F (Im.im a0) (Im.im a1) (Im.im a2)=ret (Im.im (m a0 a1 a2)))(hG:dF P (bh T) G)(hf:P.funcs[f]?=some fn)
  (hb:rz fn (CN ps r (RT.dec:List L->A'×B'×C') (RR (p3 g) (u3 m))) nt=true:=by kernel_rfl) (hr:∀n ls,eB { T:=assoc T,G:=bN G,nt:=nt } (fun _=>[]) fn r n (cH ps ls)=F (RT.dec ls:A'×B'×C').1 (RT.dec ls:A'×B'×C').2.1 (RT.dec ls:A'×B'×C').2.2:=by intro _ _;kernel_rfl):Valid P (bh T) f (CN ps r (RT.dec:List L->A'×B'×C') (RR (p3 g) (u3 m))):=
 VV (run:=fun _ x=>F x.1 x.2.1 x.2.2) hm hT hG hf hb hr fun _ a _ _ h=>⟨0,ok a.1 a.2.1 a.2.2 h⟩
def lR (c:Bool)(x:aj):aj:=bif c then x else none
def m2 (v n:Int)(x:aj):aj:=bif decide (0<=v) then (cond (decide (v<n)) x none) else none
def m3 (v n:Int)(x:aj):aj:=bif decide (0<=v) then (cond (decide (v<n)) (cond (Nat.beq (Int.toNat v) (Int.toNat v)&&true) x none) none) else none
def MM:(∀c x,lR c x=bif c then x else none)/\(∀v n x,m2 v n x=bif decide (0<=v) then (cond (decide (v<n)) x none) else none)/\(∀v n x,m3 v n x=bif decide (0<=v) then (cond (decide (v<n)) (cond (Nat.beq (Int.toNat v) (Int.toNat v)&&true) x none) none) else none):=⟨fun _ _=>rfl,fun _ _ _=>rfl,fun _ _ _=>rfl⟩
abbrev pI:fO:=.rd (.int .i64)
abbrev pS:fO:=.rd .str
abbrev pL (e:Nat):fO:=.rd (.sl e)
abbrev oI:RP:=.one (.rd (.int .i64))
abbrev oB:RP:=.one (.rd .bool)
abbrev oS:RP:=.one (.rd .str)
abbrev oL (e:Nat):RP:=.one (.fr e)
abbrev fI:Lf:=.rd (.int .i64)
abbrev fS:Lf:=.rd .str
abbrev fB:Lf:=.rd .bool
end Go.DM
set_option linter.unusedSectionVars false
namespace Go.DM
section
variable {P:Program} {E:Env} {w0 w w':World} {ans:List L}
end
def aF.cD (A:aF)(rs:List Nat):aF:={ v:=A.v,N:=fun p b=>p∉rs/\A.N p b,al:=A.al,Z:=fun b=>A.Z b/\∀p,p∈rs->¬A.N p b }
section
variable {T:Nat->List K} {w w' w0:World} {A A':aF} {rs:List Nat} {np:Nat} {M:Mem np} {hp:Nat->af}
theorem jq {b:Nat}(h:bO w A b):bO w (A.cD rs) b:=⟨⟨h.1,fun p _=>h.2.2 p⟩,h.2.1,fun p hp=>h.2.2 p hp.2⟩
theorem gu {d : Option Nat} (hd : ∀ r, d = some r -> r ∉ rs) {b : Nat} (h : bD w A d b) : bD w (A.cD rs) d b := by
  cases d with
  | none => exact jq h
  | some r => rcases h with h | h
              · exact .inl ⟨hd r rfl, h⟩
              · exact .inr (jq h)
theorem iD {q:Nat}(h:eT rs q=false):q∉rs:=fun hm=>by rw [cQ.2 hm] at h;cases h
theorem V0.cD {v:V}{x:Value}(hv:V0 T w A v x):V0 T w (A.cD rs) (eM rs v) x:=by
 cases v with
 | sl d e xs=>
  cases d with
  | none=>exact ⟨(fun r hr=>nomatch hr),hv.2.mono fun b hb=>jq hb⟩
  | some q=>
   rw [oA]
   cases hq:eT rs q with
   | true=>exact trivial
   | false=>exact ⟨hv.1,hv.2.mono fun b hb=>gu (fun r hr=>by injection hr with hr;subst hr;exact iD hq) hb⟩
 | aH d es cs o=>
  have go:∀d:Option Nat,(∀r,d=some r->r∉rs)->V0 T w A (.aH d es cs o) x->V0 T w (A.cD rs) (.aH d es cs o) x:=by
   intro d hd ⟨ha,b,q,v,h1,h2,h3⟩
   exact ⟨ha,b,q,v,h1,gu hd h2,fun j k hj=>⟨(h3 j k hj).1,(h3 j k hj).2.mono fun b hb=>gu hd hb⟩⟩
  cases d with
  | none=>exact go none (fun r hr=>nomatch hr) hv
  | some q=>
   rw [lG]
   cases hq:eT rs q with
   | true=>exact trivial
   | false=>exact go (some q) (fun r hr=>by injection hr with hr;subst hr;exact iD hq) hv
 | bU q a b c d=>
  rw [mh]
  cases hq:eT rs q with
  | true=>exact trivial
  | false=>
   obtain ⟨ha,g,n,c',h1,h2,h3,h4⟩:=hv
   exact ⟨ha,g,n,c',h1,h2,⟨iD hq,h3⟩,h4⟩
 | own q=>exact hv
 | lit q n e=>exact hv
 | aJ q o=>exact hv
 | bK q sz i o=>exact hv
 | undef=>exact hv
 | dead=>exact hv
 | int=>exact hv
 | bool=>exact hv
 | str=>exact hv
 | nil=>exact hv
 | fn=>exact hv.elim
 | agg=>exact hv.elim
 | fD=>exact hv.elim
theorem ld {cs:List V}{xs:List Value}(hf:F2 (Vc T w A) cs xs):F2 (Vc T w (A.cD rs)) (cs.map (eM rs)) xs:=by
 induction hf with
 | nil=>exact .nil
 | cons h _ ih=>exact .cons ⟨h.1.cD,h.2⟩ ih
theorem V2.cD {v:V}{x:Value}(hv:V2 T w A v x):V2 T w (A.cD rs) (dc rs v) x:=by
 cases v with
 | fD vs=>exact trivial
 | fn f cs=>
  obtain ⟨l,rfl,hl⟩:=(show V1 T w A (.fn f cs) x from hv)
  refine V1.v2 (v:=.fn f _) ⟨l,rfl,?_⟩
  clear hv
  induction hl with
  | nil=>exact .nil
  | cons hc _ ih=>exact .cons (V0.cD hc) ih
 | agg cs=>obtain ⟨l,rfl,hl⟩:=hv;exact V1.v2 (v:=.agg _) ⟨l,rfl,ld hl⟩
 | undef=>exact V0.v2 (V0.cD (v:=.undef) hv)
 | dead=>exact trivial
 | int k n=>exact V0.v2 (V0.cD (v:=.int k n) hv)
 | bool b=>exact V0.v2 (V0.cD (v:=.bool b) hv)
 | str s=>exact V0.v2 (V0.cD (v:=.str s) hv)
 | nil=>exact V0.v2 (V0.cD (v:=.nil) hv)
 | sl d e xs=>exact V0.v2 (V0.cD (v:=.sl d e xs) hv)
 | own q=>exact V0.v2 (V0.cD (v:=.own q) hv)
 | lit q n e=>exact V0.v2 (V0.cD (v:=.lit q n e) hv)
 | aJ q o=>exact V0.v2 (V0.cD (v:=.aJ q o) hv)
 | bK q sz i o=>exact V0.v2 (V0.cD (v:=.bK q sz i o) hv)
 | bU q a b c d=>exact V0.v2 (V0.cD (v:=.bU q a b c d) hv)
 | aH d es cs o=>exact V0.v2 (V0.cD (v:=.aH d es cs o) hv)
theorem iR {p:Nat}(h:p∈rs):jT rs hp p=.dead:=by simp [jT,cQ.2 h]
theorem gH {p:Nat}(h:p∉rs):jT rs hp p=fT rs (hp p):=by
 unfold jT
 cases hq:eT rs p with
 | true=>exact (h (cQ.1 hq)).elim
 | false=>rfl
theorem aS.cD {p:Nat}(hr:p∉rs){o:af}(h:aS T w A p o):aS T w (A.cD rs) p (fT rs o):=by
 cases o with
 | dead=>exact fun b hb=>h b hb.2
 | box cs=>
  obtain ⟨ha,g,te,cur,h1,h2,h3,h4⟩:=h
  exact ⟨ha,g,te,cur,h1,fun b=>⟨fun hb=>(h2 b).1 hb.2,fun hb=>⟨hr,(h2 b).2 hb⟩⟩,h3,ld h4⟩
 | row e xs=>exact ⟨h.1,h.2.mono fun b hb=>⟨hr,hb⟩⟩
 | ju e xs j cs=>exact ⟨h.1,h.2.1,h.2.2.mono fun b hb=>⟨hr,hb⟩⟩
 | ql e xs i o=>exact ⟨h.1,h.2.1,h.2.2.move (fun _ _=>rfl) fun b hb=>⟨hr,hb⟩⟩
theorem Hp.cD (hh:Hp T w0 M A hp w):Hp (np:=0) T w ⟨fun b=>∃p,(A.cD rs).N p b,fun _=>Go.undef,[]⟩ (A.cD rs) (jT rs hp) w:=by
 refine ⟨fun r b h=>hh.lt r b h.2,fun r q b h h'=>hh.dj r q b h.2 h'.2,fun r h=>?_,fun r=>?_,Fr.refl _ _,fun r b h=>.inl ⟨r,h⟩,fun b hb=>⟨hh.zf b (hb.elim (fun ⟨p,h⟩=>hh.nm p b h.2) fun h=>.inr (Nat.le_trans hh.fr.size h)),fun p hp hn=>hb.elim (fun ⟨q,h⟩=>h.1 (hh.dj p q b hn h.2 ▸ hp)) fun h=>by have:=hh.lt p b hn;omega⟩,fun j hj=>absurd hj (Nat.not_lt_zero j)⟩
 ·by_cases hr:r∈rs
  ·exact iR hr
  ·rw [gH hr,hh.al r h];rfl
 ·by_cases hr:r∈rs
  ·rw [iR hr];exact fun b hb=>hb.1 hr
  ·rw [gH hr];exact (hh.rt r).cD hr
end
section
variable {E:Env} {w0 w:World} {np:Nat} {M:Mem np} {A B:aF} {hp:Nat->af} {ans:List L} {Z:Nat->Prop} {r:Nat}
end
section
variable {P:Program} {E:Env}
end
def fU.take {α:Type}{n k:Nat}{p:α->Prop}{xs:List α}(h:fU n p xs):fU n p (xs.take k):=⟨Nat.le_trans (by simp;omega) h.1,fun x hx=>h.2 x (List.mem_of_mem_take hx)⟩
def fU.drop {α:Type}{n k:Nat}{p:α->Prop}{xs:List α}(h:fU n p xs):fU n p (xs.drop k):=⟨Nat.le_trans (by simp) h.1,fun x hx=>h.2 x (List.mem_of_mem_drop hx)⟩
section
variable {P:Program} {T:List (Nat×TI)} {G:List (Nat×fk)} {S:List (Nat×fu)} {I:List (Nat×fV)} {nt:Nat} {mt:Bool} {J:List Nat}
end
section
variable {A A' B B':Type} [Im A A'] [Im B B'] {g:A->Prop} {m:A->B}
end
def bs {β:Type}[RT β]{c:Bool}{x y:aj}{a b:β}(h1:c=true->x=ret a)(h2:c=false->y=ret b):(cond c x y)=ret (cond c a b):=dM ret h1 h2
def bl {α:Type}{n:Nat}{p:α->Prop}{xs:List α}(h:fU n p xs)(hn:n<=maxLen:=by decide):xs.length<=maxLen:=Nat.le_trans h.1 hn
end Go.DM
set_option linter.unusedSectionVars false
namespace Go.DM
structure sI where
 args:List fO
 e:Nat
 sem:List L->Option (List L)
def tA (P:Program)(E:Env)(g:FuncId)(c:sI):Prop:=
 gF P g/\∀(xs:av) (ls r:List L) (w:World) (x:Value) (vs:List Value) (S Z:Nat->Prop),c.sem (.sl xs::ls)=some r->
  bA E.cells w S (.sl c.e) x (.sl xs)->(∀b,S b->b<w.heap.size)->(∀b,S b->¬Z b)->F2 (V2 E.cells w (A0 Z w)) (eH c.args ls) vs->
  Calls P g (x::vs).toArray w fun e w'=>∃x' S',e=.returned x'/\Fr w w' S/\bA E.cells w' S' (.sl c.e) x' (.sl (r.headD .hole).az)/\∀b,S' b->b<w'.heap.size/\(S b∨w.heap.size<=b)
def vr (E:Env)(c:sI):fV:={ run:=fun vs s k=>match vs with
 | .own r::vs=>(match s.hp r with
  | .row e xs=>bif Nat.beq e c.e then gS E (jT [r] s.hp) c.args (vs.map (dc [r])) (fun ls=>(c.sem (.sl xs::ls)).bind fun out=>
    k (.own s.nx) { sl:=fun i=>dc [r] (s.sl i),hp:=upd (jT [r] s.hp) s.nx (.row c.e (out.headD .hole).az),nx:=s.nx+1,fr:=s.fr.map (dc [r]) }) else none
  | _=>none)
 | _=>none }
section
variable {P:Program} {E:Env}
theorem qv {c:sI}{g:FuncId}{n:Nat}(hR:tA P E g c):ez P E n g (vr E c):=by
 refine ⟨hR.1,fun w0 M A s w vs xs k ans h hh hnx hfr hv K hK=>?_,fun h=>by cases h⟩
 simp only [vr] at h
 split at h
 case h_2=>cases h
 rename_i r vs
 split at h
 case h_2=>cases h
 rename_i e row hrow
 cases he:Nat.beq e c.e<;>simp only [he,ah,aq] at h
 ·cases h
 obtain rfl:=Nat.eq_of_beq_eq_true he
 cases hv with
 | @cons _ x _ xs hx hv=>
 obtain ⟨alr,hxv,a0,n0,c0,hxs⟩:=(show V0 E.cells w A (.own r) x from hx)
 have hroot:=hh.rt r
 rw [hrow] at hroot
 have hown:=hroot.2
 rw [<-hxv] at hown
 have hhide:=hh.cD (rs:=[r])
 obtain ⟨ls,h1,h2⟩:=tI (Z:=kf w (A.cD [r])) hhide (.inl fun b hb=>hb) h
 have hargs:=h2 (hv.map' (f:=dc [r]) fun v x h=>h.cD)
 cases hs:c.sem (.sl row::ls) with
 | none=>rw [hs] at h1;cases h1
 | some out=>
 rw [hs] at h1
 simp only [Option.bind_some] at h1
 refine (hR.2 row ls out w x xs (A.N r) (kf w (A.cD [r])) hs hown (fun b hb=>hh.lt r b hb) (fun b hb hz=>?_) hargs).mono fun ee w' ⟨x',S',e1,hF,hown',hS'⟩=>?_
 ·rcases hz with ⟨q,hq⟩ | hz
  ·exact hq.1 (by rw [hh.dj q r b hq.2 hb];simp)
  ·exact hz.1.2 r (by simp) hb
 let A':aF:={ v:=upd A.v s.nx x',N:=fun p b=>(p=s.nx/\S' b)∨(p≠s.nx/\p≠r/\A.N p b),al:=fun p=>A.al p∨p=s.nx,Z:=A.Z }
 have hnr:¬A.al s.nx:=hnx _ (Nat.le_refl _)
 have hrn:r≠s.nx:=by rintro rfl;exact hnr alr
 have hne:∀q,A.al q->q≠s.nx:=by rintro q ha rfl;exact hnr ha
 have st:Step A A' w w' (fun p=>p∈[r]):=by
  refine ⟨rfl,fun i h=>.inl h,fun i h=>an _ _ (hne i h),hF.size,fun b hb hn=>hF.block b hb fun hj=>hn r (by simp) hj,fun i h1 h2 b=>?_,fun i b h1 h2=>?_⟩
  ·have hi:i≠r:=by simpa using h2
   exact ⟨fun h=>h.elim (fun h=>absurd h.1 (hne i h1)) fun h=>h.2.2,fun h=>.inr ⟨hne i h1,hi,h⟩⟩
  ·rcases h2 with ⟨_,h3⟩ | ⟨h3,h4,h5⟩
   ·rcases (hS' b h3).2 with h | h
    ·exact .inl ⟨r,by simp,h⟩
    ·exact .inr h
   ·rcases h1 with h1 | h1
    ·exact absurd (by simpa using h1) h4
    ·exact (h1 (hh.qV h5)).elim
 have hHp:Hp E.cells w0 M A' (upd (jT [r] s.hp) s.nx (.row c.e (out.headD .hole).az)) w':=by
  refine ⟨fun i b hb=>?_,fun i q b hb hb'=>?_,fun i hi=>?_,fun i=>?_,hh.fr.trans hF fun b hb=>hh.nm r b hb,fun i b hb=>?_,hh.zf,fun j hj=>⟨.inl (hh.pn j hj).1,(st.v j (hh.pn j hj).1).trans (hh.pn j hj).2⟩⟩
  ·rcases hb with ⟨_,h⟩ | ⟨_,_,h⟩
   ·exact (hS' b h).1
   ·exact Nat.lt_of_lt_of_le (hh.lt i b h) hF.size
  ·have key:∀{p:Nat},S' b->p≠r->A.N p b->False:=by
    intro p h1 h2 h3
    rcases (hS' b h1).2 with h | h
    ·exact h2 (hh.dj p r b h3 h)
    ·have:=hh.lt p b h3;omega
   rcases hb with ⟨h1,h2⟩ | ⟨_,h2,h3⟩<;>rcases hb' with ⟨k1,k2⟩ | ⟨_,k2,k3⟩
   ·rw [h1,k1]
   ·exact (key h2 k2 k3).elim
   ·exact (key k2 h2 h3).elim
   ·exact hh.dj _ _ _ h3 k3
  ·have h1:¬A.al i:=fun h=>hi (.inl h)
   have h2:i≠s.nx:=fun h=>hi (.inr h)
   rw [an _ _ h2]
   by_cases hm:i∈[r]
   ·exact iR hm
   ·rw [gH hm,hh.al i h1];rfl
  ·by_cases hi:i=s.nx
   ·subst hi
    rw [ak]
    refine ⟨.inr rfl,?_⟩
    show bA E.cells w' (A'.N s.nx) (.sl c.e) (upd A.v s.nx x' s.nx) (.sl (out.headD .hole).az)
    rw [ak]
    exact hown'.mono fun b hb=>.inl ⟨rfl,hb⟩
   ·rw [an _ _ hi]
    by_cases hm:i∈[r]
    ·rw [iR hm]
     intro b hb
     rcases hb with ⟨h,_⟩ | ⟨_,h,_⟩
     ·exact hi h
     ·exact h (by simpa using hm)
    ·rw [gH hm]
     have hir:i≠r:=by simpa using hm
     have ho:=hh.rt i
     cases hq:s.hp i with
     | dead=>
      intro b hb
      rw [hq] at ho
      rcases hb with ⟨h,_⟩ | ⟨_,_,h⟩
      ·exact hi h
      ·exact ho b h
     | box cs=>
      rw [hq] at ho
      obtain ⟨ha,g2,te2,cur2,h1,h2,h3,h4⟩:=ho
      refine ⟨.inl ha,g2,te2,cur2,by rw [st.v i ha];exact h1,fun b=>(st.N i ha hm b).trans (h2 b),?_,fQ st hh h4⟩
      rw [(st.root hh hm ((h2 g2).2 rfl)).2];exact h3
     | row e xs'=>
      rw [hq] at ho
      refine ⟨.inl ho.1,?_⟩
      rw [st.v i ho.1]
      exact (ho.2.frame (w':=w') fun b hb=>(st.root hh hm hb).2).mono fun b hb=>(st.root hh hm hb).1
     | ju e xs' j cs=>
      rw [hq] at ho
      refine ⟨.inl ho.1,ho.2.1,?_⟩
      rw [st.v i ho.1]
      exact (ho.2.2.frame (w':=w') fun b hb=>(st.root hh hm hb).2).mono fun b hb=>(st.root hh hm hb).1
     | ql e xs' j p=>
      rw [hq] at ho
      refine ⟨.inl ho.1,ho.2.1,?_⟩
      rw [st.v i ho.1]
      exact ho.2.2.move (fun b hb=>(st.root hh hm hb).2) fun b hb=>(st.root hh hm hb).1
  ·rcases hb with ⟨_,h⟩ | ⟨_,_,h⟩
   ·rcases (hS' b h).2 with h | h
    ·exact hh.nm r b h
    ·exact .inr (Nat.le_trans hh.fr.size h)
   ·exact hh.nm i b h
 refine ⟨x',e1,hK _ _ x' w' A' h1 hHp (fun i hi ha=>?_) (hfr.map' (f:=dc [r]) fun v x h=>h.kill st hh) (V0.v2 (v:=.own s.nx) ⟨.inr rfl,(ak _ _ _).symm,?_⟩) rfl trivial⟩
 ·have hi':s.nx+1<=i:=hi
  rcases ha with ha | ha
  ·exact hnx i (by omega) ha
  ·omega
 ·obtain ⟨a1,n1,c1,q1,_⟩:=hown'.qC
  exact ⟨a1,n1,c1,q1⟩
end
def RN {A':Type}(ps:List fO)(e:Nat)(acc:List L->A')(R:A'->Option (av)):sI:=⟨ps,e,fun ls=>(R (acc ls)).map RT.enc⟩
end Go.DM
namespace Go.DM
def eZ (g:Nat):∀(vs:List Value) (o:Nat) (w:World),(w.setCells g o vs).os=w.os/\(w.setCells g o vs).tape=w.tape/\(w.setCells g o vs).output=w.output/\(w.setCells g o vs).heap.size=w.heap.size/\∀b,b≠g->(w.setCells g o vs).heap[b]?=w.heap[b]?
 | [],_,_=>⟨rfl,rfl,rfl,rfl,fun _ _=>rfl⟩
 | v::vs,o,w=>by
  obtain ⟨h1,h2,h3,h4,h5⟩:=eZ g vs (o+1) (w.setCell ⟨g,o,none⟩ v)
  refine ⟨h1,h2,h3,h4.trans (by simp [World.setCell]),fun b hb=>(h5 b hb).trans ?_⟩
  simp only [World.setCell,Array.getElem?_modify]
  rw [if_neg (Ne.symm hb)]
def dN (g:Nat):∀(vs:List Value) (o:Nat) (w:World) (cur:Array Value) (te:TypeId),w.heap[g]?=some (.cells cur te (0,0))->o+vs.length<=cur.size->
  ∃cur',(w.setCells g o vs).heap[g]?=some (.cells cur' te (0,0))/\cur'.size=cur.size/\(∀k,(k<o∨o+vs.length<=k)->cur'[k]?=cur[k]?)/\∀j,j<vs.length->cur'[o+j]?=vs[j]?
 | [],o,w,cur,te,h,_=>⟨cur,h,rfl,fun _ _=>rfl,fun j hj=>by simp at hj⟩
 | v::vs,o,w,cur,te,h,hl=>by
  simp only [List.length_cons] at hl
  have h1:(w.setCell ⟨g,o,none⟩ v).heap[g]?=some (.cells (cur.setIfInBounds o v) te (0,0)):=by
   simp only [World.setCell,Array.getElem?_modify,h,if_true];rfl
  obtain ⟨cur',c1,c2,c3,c4⟩:=dN g vs (o+1) _ _ te h1 (by simp;omega)
  refine ⟨cur',c1,by simpa using c2,fun k hk=>?_,fun j hj=>?_⟩
  ·simp only [List.length_cons] at hk
   rw [c3 k (by omega),Array.getElem?_setIfInBounds_ne (by omega)]
  ·cases j with
   | zero=>
    rw [Nat.add_zero,c3 o (by omega)]
    simp [show o<cur.size by omega]
   | succ j=>
    have:=c4 j (by simpa using hj)
    rw [show o+(j+1)=o+1+j by omega,this];rfl
def jX {P:Program}(w:World)(t e ty:TypeId)(z:Value)(k:Nat)(ht:P.underlying t=some (.slice e))(hv:∀w,(zeroValue e).run P w=.ok z w)(hz:z.cells.size=k)(h1:∀v∈z.cells,v.oneCell'=true)(b o n c:Nat)(hn:0<n)
  (hc:∀j,j<n*k->(w.cell? ⟨b,o+j,none⟩).isSome=true) (hf:∀j,j<n*k->w.frozen? ⟨b,o+j,none⟩=false) :
  (Builtin.clear_ #[t] ty #[.slice (some ⟨b,o,none⟩) n c]).run P w=.ok (.tuple #[]) (w.setCells b o (Builtin.zeroCells z.cells n).toList):=by
 have hlen:(Builtin.zeroCells z.cells n).toList.length=n*k:=by rw [Array.length_toList,size_zeroCells,hz]
 have hst:=run_storeCells_cells (P:=P) b o (Builtin.zeroCells z.cells n).toList 0 w (by rw [hlen];simpa using hc) (by rw [hlen];simpa using hf) (by
  intro v hv'
  simp only [Builtin.zeroCells,Array.toList_map,List.mem_map,Array.mem_toList_iff,Array.mem_range] at hv'
  obtain ⟨q,hq,rfl⟩:=hv'
  have h0:0<z.cells.size:=Nat.pos_of_ne_zero fun h=>by rw [h] at hq;omega
  rw [getElem!_pos z.cells (q % z.cells.size) (Nat.mod_lt _ h0)]
  exact h1 _ (Array.getElem_mem _))
 simp only [Nat.add_zero] at hst
 obtain ⟨m,rfl⟩:∃m,n=m+1:=⟨n - 1,by omega⟩
 simp [Builtin.clear_,run_underlying ht,hv,hst]
def bA.plain {T:Nat->List K}{w:World}{S:Nat->Prop}{e n c g te:Nat}{cur:Array Value}{xs:av}(hp:aM (T e)=true)(hn:xs.length=n)(hnc:n<=c)(hm:c<=maxLen)(hg:w.heap[g]?=some (.cells cur te (0,0)))(hs:cur.size=c*(T e).length)(hS:S g)
  (v:Nat->Nat->Value) (hv:∀i j k,i<n->(T e)[j]?=some k->cur[i*(T e).length+j]?=some (v i j)/\∃(w0:World) (Z:Nat->Prop),Rd T w0 Z k (v i j) ((xs.getD i []).getD j .hole)):bA T w S (.sl e) (.slice (some ⟨g,0,none⟩) n c) (.sl xs):=by
 refine .sl _ e n c g te cur _ v (fun _ _ _=>False) hn hnc hm hg hs hS (fun _ _ _ h=>h.elim) (fun _ _ _ _ _ h=>h.elim) (fun i j k hi hj=>(hv i j k hi hj).1) (fun i j k hi hj=>?_)
 obtain ⟨_,_,h⟩:=(hv i j k hi hj).2
 exact iO hp hj h
end Go.DM

end
