/- A small machine over the translated code, and the proof that what it computes the code does. Conditions: none. -/
import Derived.Test.YtbojpakoeellaaaGreatResolvePetDc
import Derived.ChangeArms
import Derived.Deep.Slices
import Derived.DataReads
import Derived.Carry
import Derived.ChangeOld
import Derived.WideShapes
import Derived.ChangeShapes
import Derived.IntWalk
set_option linter.all false
noncomputable section
set_option linter.unusedSectionVars false
namespace Go.DM
def assoc {α:Type}:List (Nat×α)->Nat->Option α
 | [],_=>none
 | (k,v)::l,i=>bif Nat.beq k i then some v else assoc l i
def nX {α:Type}:∀{l:List (Nat×α)} {i:Nat} {v:α},assoc l i=some v->(i,v)∈l
 | [],i,v,h=>by cases h
 | (k,u)::l,i,v,h=>by
  simp only [assoc] at h
  cases hb:Nat.beq k i<;>simp only [hb,bf,bq] at h
  ·exact List.mem_cons_of_mem _ (nX h)
  ·injection h with h;rw [Nat.eq_of_beq_eq_true hb,h];simp
def xJ:Value->K->Bool
 | .int a n,.int b=>iI a b&&decide (n=0)
 | .bool b,.bool=>!b
 | .string ⟨⟨[]⟩⟩,.str=>true
 | .slice none 0 0,.sl _=>true
 | _,_=>false
def yE {v:Value}{k:K}(h:xJ v k=true):v=jJ k:=by
 unfold xJ at h
 split at h
 ·simp only [Bool.and_eq_true,decide_eq_true_eq] at h
  obtain ⟨h1,rfl⟩:=h
  rw [gH h1];rfl
 ·simp at h;subst h;rfl
 ·rfl
 ·rfl
 ·cases h
def sK:List Value->List K->Bool
 | [],[]=>true
 | v::vs,k::ks=>xJ v k&&sK vs ks
 | _,_=>false
def rX:∀{vs:List Value} {ks:List K},sK vs ks=true->vs=ks.map jJ
 | [],[],_=>rfl
 | [],_::_,h=>by cases h
 | _::_,[],h=>by cases h
 | v::vs,k::ks,h=>by
  simp only [sK,Bool.and_eq_true] at h
  rw [yE h.1,rX h.2];rfl
def ku (P:Program)(T:Nat->Option TI):List Field->List (Nat×Nat)->Nat->List K->Bool
 | [],[],_,[]=>true
 | f::fs,p::ps,o,ks=>Nat.beq f.offset p.1&&(Nat.beq f.type p.2&&(Nat.beq p.1 o&&(match P.info? f.type with
  | some fi=>match T p.2 with
   | some ti=>Nat.beq fi.size ti.cells.length&&(qD (ks.take ti.cells.length) ti.cells&&ku P T fs ps (o+ti.cells.length) (ks.drop ti.cells.length))
   | none=>false
  | none=>false)))
 | _,_,_,_=>false
def iT {P:Program}{E:Env}:∀{fs:List Field} {ps:List (Nat×Nat)} {o:Nat} {ks:List K},ku P E.T fs ps o ks=true->
  ∃places,fs.mapM (fun f=>(P.info? f.type).map fun i=>(f.offset,i.size))=some places/\fs.length=ps.length/\
   ∀(j:Nat) (p:Nat×Nat),ps[j]?=some p->∃f ti,fs[j]?=some f/\f.offset=p.1/\f.type=p.2/\E.T p.2=some ti/\places[j]?=some (p.1,(E.cells p.2).length)/\o<=p.1/\P.cellsOf f.type=ti.cells.length/\(∀l kk,ti.cells[l]?=some kk->ks[p.1 - o+l]?=some kk)/\p.1 - o+ti.cells.length<=ks.length
 | [],[],o,[],_=>⟨[],by simp,rfl,fun j p hp=>by simp at hp⟩
 | [],[],o,_::_,h=>by cases h
 | [],_::_,o,ks,h=>by cases h
 | _::_,[],o,ks,h=>by cases h
 | f::fs,p::ps,o,ks,h=>by
  simp only [ku,Bool.and_eq_true] at h
  obtain ⟨h1,h2,h3,h4⟩:=h
  split at h4
  ·rename_i fi hfi
   split at h4
   ·rename_i ti hti
    simp only [Bool.and_eq_true] at h4
    obtain ⟨h5,h6,h7⟩:=h4
    obtain ⟨places,g1,g2,g3⟩:=iT h7
    have e1:=Nat.eq_of_beq_eq_true h1
    have e2:=Nat.eq_of_beq_eq_true h2
    have e3:=Nat.eq_of_beq_eq_true h3
    have e5:=Nat.eq_of_beq_eq_true h5
    have e6:=qB h6
    have hsz:fi.size=(E.cells p.2).length:=by simp [Env.cells,hti,e5]
    have hlen:ti.cells.length<=ks.length:=by rw [<-e6,List.length_take];exact Nat.min_le_right _ _
    refine ⟨(f.offset,fi.size)::places,by simp [hfi,g1],by simp [g2],fun j q hq=>?_⟩
    cases j with
    | zero=>
     simp at hq
     subst hq
     refine ⟨f,ti,rfl,e1,e2,hti,by simp [e1,hsz],by omega,by simp [Program.cellsOf,hfi,e5],fun l kk hl=>?_,by omega⟩
     have :(ks.take ti.cells.length)[l]?=some kk:=by rw [e6];exact hl
     rw [List.getElem?_take] at this
     rw [show p.1 - o+l=l by omega]
     split at this
     ·exact this
     ·cases this
    | succ j=>
     obtain ⟨f',ti',q1,q2,q3,q4,q5,q6,q7,q8,q9⟩:=g3 j q (by simpa using hq)
     refine ⟨f',ti',by simpa using q1,q2,q3,q4,by simpa using q5,by omega,q7,fun l kk hl=>?_,?_⟩
     ·have:=q8 l kk hl
      rw [List.getElem?_drop] at this
      rw [<-this];congr 1;omega
     ·rw [List.length_drop] at q9;omega
   ·cases h4
  ·cases h4
def BQ (T:Nat->Option TI)(i:TI)(d:TypeDesc):Bool:=
 match i.el with
 | some e=>match d with
  | .slice e'=>Nat.beq e e'&&(T e).isSome
  | _=>false
 | none=>true
def vW (i:TI)(d:TypeDesc):Bool:=
 i.agg||(match i.cells with
  | [.int k]=>(match d with | .int k'=>iI k k' | _=>false)
  | [.bool]=>(match d with | .bool=>true | _=>false)
  | [.str]=>(match d with | .string=>true | _=>false)
  | [.sl e]=>(match d with | .slice e'=>Nat.beq e e' | _=>false)
  | _=>false)
def Aa (P:Program)(k:K)(t:Nat):Bool:=
 match P.underlying t with
 | some (.int ik)=>(match k with | .int jk=>iI jk ik | _=>false)
 | some .bool=>(match k with | .bool=>true | _=>false)
 | some .string=>(match k with | .str=>true | _=>false)
 | _=>false
def lW (P:Program):List Field->Nat->List K->Bool
 | [],_,[]=>true
 | f :: fs, o, k :: ks => !(f.name == "_") && (Nat.beq f.offset o && (Aa P k f.type && lW P fs (o + 1) ks))
 | _,_,_=>false
def kO {P : Program} : ∀ {fs : List Field} {o : Nat} {ks : List K}, lW P fs o ks = true -> fs.length = ks.length /\ ∀ (j : Nat) (f : Field), fs[j]? = some f -> f.name ≠ "_" /\ f.offset = o + j /\ ∃ d', P.underlying f.type = some d' /\ ((∃ ik, ks[j]? = some (.int ik) /\ d' = .int ik) ∨ (ks[j]? = some .bool /\ d' = .bool) ∨ (ks[j]? = some .str /\ d' = .string))
 | [],o,[],_=>⟨rfl,fun j f hj=>by simp at hj⟩
 | [],o,_::_,h=>by cases h
 | _::_,o,[],h=>by cases h
 | f::fs,o,k::ks,h=>by
  simp only [lW,Bool.and_eq_true,Bool.not_eq_true'] at h
  obtain ⟨h1,h2,h3,h4⟩:=h
  obtain ⟨g1,g2⟩:=kO h4
  refine ⟨by simp [g1],fun j g hj=>?_⟩
  cases j with
  | zero=>
   simp at hj
   subst hj
   refine ⟨by simpa using h1,Nat.eq_of_beq_eq_true h2,?_⟩
   unfold Aa at h3
   split at h3
   ·rename_i ik hu
    split at h3
    ·rename_i jk;exact ⟨_,hu,.inl ⟨ik,by simp [gH h3],rfl⟩⟩
    ·cases h3
   ·rename_i hu
    split at h3
    ·exact ⟨_,hu,.inr (.inl ⟨rfl,rfl⟩)⟩
    ·cases h3
   ·rename_i hu
    split at h3
    ·exact ⟨_,hu,.inr (.inr ⟨rfl,rfl⟩)⟩
    ·cases h3
   ·cases h3
  | succ j=>
   obtain ⟨q1,q2,q3⟩:=g2 j g (by simpa using hj)
   exact ⟨q1,by omega,by simpa using q3⟩
def Bg (P:Program)(t:Nat)(i:TI)(d:TypeDesc):Bool:=
 !i.eqv||(!i.agg||(match d with | .struct fs=>!P.stoodInHeld t&&(!P.eqGuardType P.depth t&&lW P fs.toList 0 i.cells) | _=>false))
def zu (P:Program)(T:Nat->Option TI)(t:Nat)(i:TI):Bool:=
 match P.info? t with
 | some ii=>match P.underlying t with
  | some d=>match ii.zero with
   | some z=>Nat.beq ii.size i.cells.length&&(Nat.beq ii.bytes i.bytes&&(Nat.blt 0 i.cells.length&&(Nat.blt 0 i.bytes&&(sK z.cells.toList i.cells&&(
     (cond i.agg (match d with | .struct fs=>ku P T fs.toList i.fields 0 i.cells | _=>false) (!ia d&&(Nat.beq i.cells.length 1&&i.fields.isEmpty)))&&(BQ T i d&&(vW i d&&Bg P t i d)))))))
   | none=>false
  | none=>false
 | none=>false
def qd {P:Program}{E:Env}{t:Nat}{i:TI}(h:zu P E.T t i=true):gr P E t i:=by
 unfold zu at h
 split at h
 case h_2=>cases h
 rename_i ii hii
 split at h
 case h_2=>cases h
 rename_i d hd
 split at h
 case h_2=>cases h
 rename_i z hz
 simp only [Bool.and_eq_true] at h
 obtain ⟨h1,h2,h3,h4,h5,h6,h7,h8,h9⟩:=h
 refine ⟨ii,d,z,hii,hd,hz,Nat.eq_of_beq_eq_true h1,Nat.eq_of_beq_eq_true h2,Nat.blt_eq.mp h3,Nat.blt_eq.mp h4,rX h5,?_,?_,?_,?_,?_,?_,?_,?_,?_⟩
 ·cases ha:i.agg<;>simp only [ha,bf,bq] at h6
  ·simp only [Bool.and_eq_true,Bool.not_eq_true'] at h6;exact h6.1
  ·split at h6
   ·rfl
   ·cases h6
 ·intro ha
  simp only [ha,bq,Bool.and_eq_true,List.isEmpty_iff] at h6
  exact ⟨Nat.eq_of_beq_eq_true h6.2.1,h6.2.2⟩
 ·intro ha
  simp only [ha,bf] at h6
  split at h6
  ·rename_i fs
   obtain ⟨places,g1,g2,g3⟩:=iT h6
   refine ⟨fs,rfl,fun f p hp=>?_⟩
   obtain ⟨fl,ti,q1,q2,q3,q4,_⟩:=g3 f p hp
   exact ⟨fl,by simpa using q1,q2,q3,ti,q4⟩
  ·cases h6
 ·intro fs hfs
  subst hfs
  cases ha:i.agg<;>simp only [ha,bf,bq] at h6
  ·simp [ia] at h6
  ·obtain ⟨places,g1,g2,g3⟩:=iT h6
   refine ⟨places,g1,fun f p hp=>?_⟩
   obtain ⟨fl,ti,q1,q2,q3,q4,q5,_⟩:=g3 f p hp
   exact q5
 ·intro e he
  simp only [BQ,he] at h7
  split at h7
  ·simp only [Bool.and_eq_true] at h7
   rw [Nat.eq_of_beq_eq_true h7.1]
   refine ⟨rfl,Option.isSome_iff_exists.1 ?_⟩
   rw [<-Nat.eq_of_beq_eq_true h7.1];exact h7.2
  ·cases h7
 ·intro ha k hk
  simp only [vW,ha,Bool.false_or,hk] at h8
  split at h8
  ·rw [gH h8]
  ·cases h8
 ·intro ha hk
  simp only [vW,ha,Bool.false_or,hk] at h8
  split at h8
  ·rfl
  ·cases h8
 ·intro ha hk
  simp only [vW,ha,Bool.false_or,hk] at h8
  split at h8
  ·rfl
  ·cases h8
 ·intro he ha
  simp only [Bg,he,ha,Bool.not_true,Bool.false_or] at h9
  split at h9
  ·rename_i fs
   simp only [Bool.and_eq_true,Bool.not_eq_true'] at h9
   obtain ⟨g1,g2⟩:=kO h9.2.2
   exact ⟨fs,rfl,h9.1,h9.2.1,by simpa using g1,fun j f hj=>by
    obtain ⟨q1,q2,q3⟩:=g2 j f (by simpa using hj)
    exact ⟨q1,by omega,q3⟩⟩
  ·cases h9
def eH (P:Program)(l:List (Nat×TI)):Bool:=l.all fun p=>zu P (assoc l) p.1 p.2
def nF {P:Program}{l:List (Nat×TI)}{E:Env}(hE:E.T=assoc l)(h:eH P l=true):∀t i,E.T t=some i->gr P E t i:=by
 intro t i ht
 rw [hE] at ht
 simp only [eH,List.all_eq_true] at h
 have:=h (t,i) (nX ht)
 rw [<-hE] at this
 exact qd this
abbrev dA (T:List (Nat×TI)):Env:={ T:=assoc T,G:=fun _=>[],nt:=0 }
def dw:List (Nat×fQ)->Nat->List fQ
 | [],_=>[]
 | (k,c)::l,g=>bif Nat.beq k g then c::dw l g else dw l g
inductive gu (P:Program)(E:Env):List (Nat×fQ)->Prop where
 | nil:gu P E []
 | cons {g c l}:Valid P E g c->gu P E l->gu P E ((g,c)::l)
def gu.get {P:Program}{E:Env}:∀{l:List (Nat×fQ)},gu P E l->∀g c,c∈dw l g->Valid P E g c
 | _,.nil,g,c,h=>by cases h
 | (k,u)::l,.cons hv ht,g,c,h=>by
  simp only [dw] at h
  cases hb:Nat.beq k g<;>simp only [hb,bf,bq] at h
  ·exact ht.get g c h
  ·rcases List.mem_cons.1 h with rfl | h
   ·rw [<-Nat.eq_of_beq_eq_true hb];exact hv
   ·exact ht.get g c h
def gX:∀{l:List Nat},eU l=true->l.Nodup
 | [],_=>List.nodup_nil
 | a::l,h=>by
  simp only [eU,Bool.and_eq_true,List.all_eq_true,Bool.not_eq_true'] at h
  refine List.nodup_cons.2 ⟨fun hm=>?_,gX h.2⟩
  have:=h.1 a hm
  simp at this
def Valid.env {P:Program}{E E':Env}(he:E.T=E'.T){g:FuncId}{c:fQ}(h:Valid P E g c):Valid P E' g c:=by
 have :E.cells=E'.cells:=by funext t;simp [Env.cells,he]
 unfold Valid at *
 rw [<-this];exact h
def gu.env {P:Program}{E E':Env}(he:E.T=E'.T){l:List (Nat×fQ)}(h:gu P E l):gu P E' l:=by
 induction h with
 | nil=>exact .nil
 | cons hv _ ih=>exact .cons (hv.env he) ih
def qU (fn:Func)(aT:fQ)(nt:Nat):Bool:=
 !(fn.name == "runtime.NumGoroutine") && (fn.body.isSome && (aT.res.tv && (eU (cS (bO fn)) && Nat.beq (aT.args.length + (fn.ntmps - aT.args.length)) nt)))
def fP:List (Nat×gD)->Nat->List gD
 | [],_=>[]
 | (k,c)::l,g=>bif Nat.beq k g then c::fP l g else fP l g
inductive jQ (P:Program)(E:Env):List (Nat×gD)->Prop where
 | nil:jQ P E []
 | cons {g c l}:eR P E g c->jQ P E l->jQ P E ((g,c)::l)
def jQ.get {P:Program}{E:Env}:∀{l:List (Nat×gD)},jQ P E l->∀g c,c∈fP l g->eR P E g c
 | _,.nil,g,c,h=>by cases h
 | (k,u)::l,.cons hv ht,g,c,h=>by
  simp only [fP] at h
  cases hb:Nat.beq k g<;>simp only [hb,bf,bq] at h
  ·exact ht.get g c h
  ·rcases List.mem_cons.1 h with rfl | h
   ·rw [<-Nat.eq_of_beq_eq_true hb];exact hv
   ·exact ht.get g c h
def eR.env {P:Program}{E E':Env}(he:E.T=E'.T){g:FuncId}{c:gD}(h:eR P E g c):eR P E' g c:=by
 have :E.cells=E'.cells:=by funext t;simp [Env.cells,he]
 unfold eR at *
 rw [<-this];exact h
def jQ.env {P:Program}{E E':Env}(he:E.T=E'.T){l:List (Nat×gD)}(h:jQ P E l):jQ P E' l:=by
 induction h with
 | nil=>exact .nil
 | cons hv _ ih=>exact .cons (hv.env he) ih
def sC {mt:Bool}{P:Program}{T:List (Nat×TI)}{G:List (Nat×fQ)}{S:List (Nat×gD)}{nt:Nat}{g:FuncId}{fn:Func}{aT:fQ}(hm:P.follows .mixedOrders=true)(hT:eH P T=true)(hG:gu P (dA T) G)(hS:jQ P (dA T) S)
  (hf:P.funcs[g]?=some fn) (hb:qU fn aT nt=true) (live:Nat->Live)
  (h:∀ls r,pG (dA T).cells aT.args ls->aT.sem ls=some r->∃n,eJ { T:=assoc T,G:=dw G,nt:=nt,M:=fP S,mt:=mt } live fn aT.res n (cV aT.args ls)=some r):Valid P (dA T) g aT:=by
 simp only [qU,Bool.and_eq_true,Bool.not_eq_true'] at hb
 obtain ⟨b1,b2,b3,b4,b5⟩:=hb
 obtain ⟨c,hc⟩:=Option.isSome_iff_exists.1 b2
 have hbody:bO fn=c:=by simp [bO,hc]
 have hT':∀t i,({ T:=assoc T,G:=dw G,nt:=nt,M:=fP S,mt:=mt }:Env).T t=some i->gr P { T:=assoc T,G:=dw G,nt:=nt,M:=fP S,mt:=mt } t i:=nF (E:={ T:=assoc T,G:=dw G,nt:=nt,M:=fP S,mt:=mt }) rfl hT
 have hG':∀g c,c∈({ T:=assoc T,G:=dw G,nt:=nt,M:=fP S,mt:=mt }:Env).G g->Valid P { T:=assoc T,G:=dw G,nt:=nt,M:=fP S,mt:=mt } g c:=(gu.env (E:=dA T) (E':={ T:=assoc T,G:=dw G,nt:=nt,M:=fP S,mt:=mt }) rfl hG).get
 have hS':∀g c,c∈({ T:=assoc T,G:=dw G,nt:=nt,M:=fP S,mt:=mt }:Env).M g->eR P { T:=assoc T,G:=dw G,nt:=nt,M:=fP S,mt:=mt } g c:=(jQ.env (E:=dA T) (E':={ T:=assoc T,G:=dw G,nt:=nt,M:=fP S,mt:=mt }) rfl hS).get
 exact tG (E:={ T:=assoc T,G:=dw G,nt:=nt,M:=fP S,mt:=mt }) hT' hG' ⟨hS',fun _ _ h=>(nomatch h)⟩ (fun w0 M Z0 ans=>vY hT' hG' ⟨hS',fun _ _ h=>(nomatch h)⟩ hm) rfl rfl hf b1 hc b3 (by rw [<-hbody];exact gX b4) (Nat.eq_of_beq_eq_true b5) live h
def mY:List (Nat×kC)->Nat->List kC
 | [],_=>[]
 | (k,c)::l,g=>bif Nat.beq k g then c::mY l g else mY l g
inductive ox (P:Program)(E:Env)(n:Nat):List (Nat×kC)->Prop where
 | nil:ox P E n []
 | cons {g c l}:gQ P E n g c->ox P E n l->ox P E n ((g,c)::l)
def ox.get {P:Program}{E:Env}{n:Nat}:∀{l:List (Nat×kC)},ox P E n l->∀g c,c∈mY l g->gQ P E n g c
 | _,.nil,g,c,h=>by cases h
 | (k,u)::l,.cons hv ht,g,c,h=>by
  simp only [mY] at h
  cases hb:Nat.beq k g<;>simp only [hb,bf,bq] at h
  ·exact ht.get g c h
  ·rcases List.mem_cons.1 h with rfl | h
   ·rw [<-Nat.eq_of_beq_eq_true hb];exact hv
   ·exact ht.get g c h
def gQ.env {P:Program}{E E':Env}(he:E.T=E'.T){n:Nat}{g:FuncId}{c:kC}(h:gQ P E n g c):gQ P E' n g c:=by
 have :E.cells=E'.cells:=by funext t;simp [Env.cells,he]
 unfold gQ qN at *
 rw [<-this];exact h
def ox.env {P:Program}{E E':Env}(he:E.T=E'.T){n:Nat}{l:List (Nat×kC)}(h:ox P E n l):ox P E' n l:=by
 induction h with
 | nil=>exact .nil
 | cons hv _ ih=>exact .cons (hv.env he) ih
def A6 (fn : Func) : Bool := !(fn.name == "runtime.NumGoroutine") && (fn.body.isSome && eU (cS (bO fn)))
section
variable {P:Program} {T:List (Nat×TI)} {G:List (Nat×fQ)} {S:List (Nat×gD)} {I:List (Nat×kC)} {nt:Nat} {mt:Bool}
theorem yP {n:Nat}{J:List Nat}{g:FuncId}{fn:Func}(hm:P.follows .mixedOrders=true)(hT:eH P T=true)(hG:gu P (dA T) G)(hS:jQ P (dA T) S)(hI:ox P (dA T) n I)
  (hf:P.funcs[g]?=some fn) (hb:A6 fn=true):gQ P (dA T) n g (inl { T:=assoc T,G:=dw G,nt:=nt,M:=fP S,np:=n,mt:=mt,I:=mY I,J:=J } fn):=by
 simp only [A6,Bool.and_eq_true,Bool.not_eq_true'] at hb
 obtain ⟨b1,b2,b4⟩:=hb
 obtain ⟨c,hc⟩:=Option.isSome_iff_exists.1 b2
 have hbody:bO fn=c:=by simp [bO,hc]
 generalize hE:({ T:=assoc T,G:=dw G,nt:=nt,M:=fP S,np:=n,mt:=mt,I:=mY I,J:=J }:Env)=E
 have e1:E.T=assoc T:=by rw [<-hE]
 obtain rfl:n=E.np:=by rw [<-hE]
 have hS2:nY P E:=⟨by rw [<-hE];exact (jQ.env (E:=dA T) rfl hS).get,fun g c h=>gQ.env (E:=dA T) e1.symm (hI.get g c (by rw [<-hE] at h;exact h))⟩
 have hT':∀t i,E.T t=some i->gr P E t i:=nF e1 hT
 have hG':∀g c,c∈E.G g->Valid P E g c:=by rw [<-hE];exact (gu.env (E:=dA T) rfl hG).get
 exact gQ.env (E:=E) e1 (wB hT' hG' hS2 (fun w0 M Z0 ans=>vY hT' hG' hS2 hm) hf b1 hc (by rw [<-hbody];exact gX b4))
theorem wg {J:List Nat}{g:FuncId}{fn:Func}{aT:fQ}(hm:P.follows .mixedOrders=true)(hT:eH P T=true)(hG:gu P (dA T) G)(hS:jQ P (dA T) S)(hI:ox P (dA T) 0 I)
  (hf:P.funcs[g]?=some fn) (hb:qU fn aT nt=true) (live:Nat->Live)
  (h:∀ls r,pG (dA T).cells aT.args ls->aT.sem ls=some r->∃n,eJ { T:=assoc T,G:=dw G,nt:=nt,M:=fP S,mt:=mt,I:=mY I,J:=J } live fn aT.res n (cV aT.args ls)=some r):Valid P (dA T) g aT:=by
 simp only [qU,Bool.and_eq_true,Bool.not_eq_true'] at hb
 obtain ⟨b1,b2,b3,b4,b5⟩:=hb
 obtain ⟨c,hc⟩:=Option.isSome_iff_exists.1 b2
 have hbody:bO fn=c:=by simp [bO,hc]
 generalize hE:({ T:=assoc T,G:=dw G,nt:=nt,M:=fP S,mt:=mt,I:=mY I,J:=J }:Env)=E at h
 have e1:E.T=assoc T:=by rw [<-hE]
 have hS2:nY P E:=⟨by rw [<-hE];exact (jQ.env (E:=dA T) rfl hS).get,fun g c h=>by rw [<-hE] at h ⊢;exact (ox.env (E:=dA T) rfl hI).get g c h⟩
 have hT':∀t i,E.T t=some i->gr P E t i:=nF e1 hT
 have hG':∀g c,c∈E.G g->Valid P E g c:=by rw [<-hE];exact (gu.env (E:=dA T) rfl hG).get
 have hcell:(dA T).cells=E.cells:=by funext t;simp [Env.cells,e1]
 rw [hcell] at h
 exact tG (E:=E) hT' hG' hS2 (fun w0 M Z0 ans=>vY hT' hG' hS2 hm) e1 (by rw [<-hE]) hf b1 hc b3 (by rw [<-hbody];exact gX b4) (by rw [<-hE];exact Nat.eq_of_beq_eq_true b5) live h
end
def Ad (fn:Func)(aT:gD)(nt:Nat):Bool:=
 !(fn.name == "runtime.NumGoroutine") && (fn.body.isSome && (eU (cS (bO fn)) && Nat.beq (aT.args.length + (fn.ntmps - aT.args.length)) nt))
def An {P:Program}{T:List (Nat×TI)}{G:List (Nat×fQ)}{S:List (Nat×gD)}{nt:Nat}{g:FuncId}{fn:Func}{aT:gD}(hm:P.follows .mixedOrders=true)(hT:eH P T=true)(hG:gu P (dA T) G)(hS:jQ P (dA T) S)
  (hf:P.funcs[g]?=some fn) (hb:Ad fn aT nt=true) (live:Nat->Live)
  (h:∀ls r,zx (dA T).cells aT.args ls->aT.sem ls=some r->∃n,eJ { T:=assoc T,G:=dw G,nt:=nt,M:=fP S,np:=(kH aT.args).length,mt:=true } live fn (.nH (kH aT.args)) n (gB aT.args ls)=some r):eR P (dA T) g aT:=by
 simp only [Ad,Bool.and_eq_true,Bool.not_eq_true'] at hb
 obtain ⟨b1,b2,b4,b5⟩:=hb
 obtain ⟨c,hc⟩:=Option.isSome_iff_exists.1 b2
 have hbody:bO fn=c:=by simp [bO,hc]
 generalize hE:({ T:=assoc T,G:=dw G,nt:=nt,M:=fP S,np:=(kH aT.args).length,mt:=true }:Env)=E at h
 have e1:E.T=assoc T:=by rw [<-hE]
 have e2:E.G=dw G:=by rw [<-hE]
 have e3:E.M=fP S:=by rw [<-hE]
 have hT':∀t i,E.T t=some i->gr P E t i:=nF e1 hT
 have hG':∀g c,c∈E.G g->Valid P E g c:=by rw [e2];exact (gu.env (E:=dA T) (E':=E) e1.symm hG).get
 have hS':∀g c,c∈E.M g->eR P E g c:=by rw [e3];exact (jQ.env (E:=dA T) (E':=E) e1.symm hS).get
 have hcell:(dA T).cells=E.cells:=by funext t;simp [Env.cells,e1]
 rw [hcell] at h
 have hS2:nY P E:=⟨hS',fun g c h=>by rw [<-hE] at h;exact (nomatch h)⟩
 exact wF (E:=E) hT' hG' hS2 (fun w0 M Z0 ans=>vY hT' hG' hS2 hm) e1 (by rw [<-hE]) hf b1 hc (by rw [<-hbody];exact gX b4) (by rw [<-hE];exact Nat.eq_of_beq_eq_true b5) live h
def valid {P:Program}{T:List (Nat×TI)}{G:List (Nat×fQ)}{nt:Nat}{g:FuncId}{fn:Func}{aT:fQ}(hm:P.follows .mixedOrders=true)(hT:eH P T=true)(hG:gu P (dA T) G)
  (hf:P.funcs[g]?=some fn) (hb:qU fn aT nt=true) (live:Nat->Live)
  (h:∀ls r,pG (dA T).cells aT.args ls->aT.sem ls=some r->∃n,eJ { T:=assoc T,G:=dw G,nt:=nt } live fn aT.res n (cV aT.args ls)=some r):Valid P (dA T) g aT:=
 sC (S:=[]) hm hT hG .nil hf hb live h
end Go.DM
set_option linter.unusedSectionVars false
namespace Go.DM
inductive Wf (T:Nat->List K):K->L->Prop where
 | int (k:IntKind) (n:Int) (h:(Lit.int k n).wf=true):Wf T (.int k) (.int n)
 | bool (b:Bool):Wf T .bool (.bool b)
 | str (s:aB) (h:s.size<=maxLen):Wf T .str (.str s)
 | sl (e:Nat) (xs:aC) (h:xs.length<=maxLen) (hl:∀r∈xs,r.length=(T e).length) (hr:∀(r:List L) (j:Nat) (kk:K) (l:L),r∈xs->(T e)[j]?=some kk->r[j]?=some l->Wf T kk l):Wf T (.sl e) (.sl xs)
def jz {α:Type}{P:Nat->α->Prop}:∀(n:Nat),(∀j,j<n->∃x,P j x)->∃xs:List α,xs.length=n/\∀j,j<n->∃x,xs[j]?=some x/\P j x
 | 0,_=>⟨[],rfl,fun j h=>by omega⟩
 | n+1,h=>by
  obtain ⟨xs,h1,h2⟩:=jz n fun j hj=>h j (by omega)
  obtain ⟨x,hx⟩:=h n (by omega)
  refine ⟨xs++[x],by simp [h1],fun j hj=>?_⟩
  by_cases hjn:j<n
  ·obtain ⟨y,h3,h4⟩:=h2 j hjn
   exact ⟨y,by rw [List.getElem?_append_left (by omega)];exact h3,h4⟩
  ·have :j=n:=by omega
   subst this
   exact ⟨x,by rw [<-h1];simp,hx⟩
def mA {P:Program}{T:Nat->Option TI}:∀{fs:List Field} {ps:List (Nat×Nat)} {o:Nat} {ks:List K},ku P T fs ps o ks=true->
  ∀l,l<ks.length->∃(j:Nat) (p:Nat×Nat) (ti:TI),ps[j]?=some p/\T p.2=some ti/\o<=p.1/\p.1 - o<=l/\l<p.1 - o+ti.cells.length
 | [],[],o,[],_,l,h=>by simp at h
 | [],[],o,_::_,h,_,_=>by cases h
 | [],_::_,o,ks,h,_,_=>by cases h
 | _::_,[],o,ks,h,_,_=>by cases h
 | f::fs,p::ps,o,ks,h,l,hl=>by
  simp only [ku,Bool.and_eq_true] at h
  obtain ⟨h1,h2,h3,h4⟩:=h
  split at h4
  ·rename_i fi hfi
   split at h4
   ·rename_i ti hti
    simp only [Bool.and_eq_true] at h4
    obtain ⟨h5,h6,h7⟩:=h4
    have e3:=Nat.eq_of_beq_eq_true h3
    by_cases hlt:l<ti.cells.length
    ·exact ⟨0,p,ti,rfl,hti,by omega,by omega,by omega⟩
    ·obtain ⟨j,q,tq,g1,g2,g3,g4,g5⟩:=mA h7 (l - ti.cells.length) (by rw [List.length_drop];omega)
     exact ⟨j+1,q,tq,by simpa using g1,g2,by omega,by omega,by omega⟩
   ·cases h4
  ·cases h4
section
variable {H:Type} {enc:TypeId×Value->H} {P:Program} {w:World} {spare:Nat->Bool} {held:Bool} {E:Env}
theorem zK (hB:∀t i,E.T t=some i->zu P E.T t i=true):∀(n:Nat) {t:Nat} {i:TI} {cs:List Value} {x:DataW H×List MemPlace},E.T t=some i->DataW.trod enc P w 0 spare held n t cs=some x->
  cs.length=i.cells.length/\∀(j:Nat) (kk:K),i.cells[j]?=some kk->∃(l:L) (v:Value),cs[j]?=some v/\Rd E.cells w (fun b=>b<w.heap.size) kk v l/\Wf E.cells kk l:=by
 intro n
 induction n with
 | zero=>intro t i cs x _ h;simp [DataW.trod] at h
 | succ n ih=>
  intro t i cs x ht h
  have hb:=hB t i ht
  obtain ⟨ii,d,z,k1,k2,k3,k4,k5,k6,kby,k7,k8,k9,k10,kpl,k11,k12,ry,qY,k15⟩:=qd (E:=E) hb
  cases ha:i.agg with
  | false=>
   obtain ⟨hl1,_⟩:=k9 ha
   match hc:i.cells,hl1 with
   | [.int k],_=>
    obtain ⟨m,rfl,_,hw⟩:=DataW.trod_int (k12 ha k hc ▸ k2) h
    exact ⟨rfl,fun j kk hj=>by
     cases j with
     | zero=>simp at hj;subst hj;exact ⟨.int m,_,rfl,Rd.int k (.int m),Wf.int k m hw⟩
     | succ j=>simp at hj⟩
   | [.bool],_=>
    obtain ⟨b,rfl,_⟩:=DataW.trod_bool (ry ha hc ▸ k2) h
    exact ⟨rfl,fun j kk hj=>by
     cases j with
     | zero=>simp at hj;subst hj;exact ⟨.bool b,_,rfl,Rd.bool (.bool b),Wf.bool b⟩
     | succ j=>simp at hj⟩
   | [.str],_=>
    obtain ⟨s,rfl,_,hs⟩:=DataW.trod_string (qY ha hc ▸ k2) h
    exact ⟨rfl,fun j kk hj=>by
     cases j with
     | zero=>simp at hj;subst hj;exact ⟨.str s,_,rfl,Rd.str (.str s),Wf.str s hs⟩
     | succ j=>simp at hj⟩
   | [.sl e],_=>
    have hel:i.el=some e:=by simp [TI.el,ha,hc]
    obtain ⟨rfl,ie,hie⟩:=k11 e hel
    have hce:P.cellsOf e=ie.cells.length/\0<ie.cells.length:=by
     obtain ⟨ii',d',z',q1,q2,q3,q4,q5,q6,_⟩:=qd (E:=E) (hB e ie hie)
     exact ⟨by simp [Program.cellsOf,q1,q4],q6⟩
    have hEe:E.cells e=ie.cells:=gG hie
    have fin:∀(l:L) (v:Value),cs=[v]->Rd E.cells w (fun b=>b<w.heap.size) (.sl e) v l->Wf E.cells (.sl e) l->
      cs.length=[K.sl e].length/\∀(j:Nat) (kk:K),[K.sl e][j]?=some kk->∃(l:L) (v:Value),cs[j]?=some v/\Rd E.cells w (fun b=>b<w.heap.size) kk v l/\Wf E.cells kk l:=by
     intro l v hv h1 h2
     subst hv
     exact ⟨rfl,fun j kk hj=>by
      cases j with
      | zero=>simp at hj;subst hj;exact ⟨l,_,rfl,h1,h2⟩
      | succ j=>simp at hj⟩
    rcases DataW.trod_slice k2 h with ⟨hv,_⟩ | ⟨a,len,cap,elems,rest,m,hm,hv,_,hb0,hlc,hcm,hlen,hel',_,_⟩
    ·exact fin (.sl []) _ hv (.nil _ _ _ _ rfl) (.sl e [] (by simp) (fun r hr=>by cases hr) (fun r j kk l hr=>by cases hr))
    ·have hm':m=n:=by omega
     subst hm'
     have each:∀i',i'<len->∃rc:List L×List Value,rc.1.length=ie.cells.length/\(∀j,j<ie.cells.length->w.cell? (a.add (i'*ie.cells.length) |>.add j)=rc.2[j]?)/\
       ∀(j:Nat) (kk:K),ie.cells[j]?=some kk->∃(l:L) (v:Value),rc.1[j]?=some l/\rc.2[j]?=some v/\Rd E.cells w (fun b=>b<w.heap.size) kk v l/\Wf E.cells kk l:=by
      intro i' hi'
      have h1:=hel' i' hi'
      rw [List.getElem?_eq_getElem (by omega)] at h1
      obtain ⟨cs',h2,h3⟩:=Option.bind_eq_some_iff.1 h1
      obtain ⟨_,h4,h5⟩:=World.cells?_some h2
      obtain ⟨h6,h7⟩:=ih hie h3
      obtain ⟨row,r1,r2⟩:=jz (P:=fun j l=>∃v,cs'[j]?=some v/\∀kk,ie.cells[j]?=some kk->Rd E.cells w (fun b=>b<w.heap.size) kk v l/\Wf E.cells kk l) ie.cells.length (fun j hj=>by
       have hk:=List.getElem?_eq_getElem hj
       obtain ⟨l,v,e1,e2,e3⟩:=h7 j _ hk
       exact ⟨l,v,e1,fun kk hkk=>by rw [hk] at hkk;injection hkk with hkk;subst hkk;exact ⟨e2,e3⟩⟩)
      refine ⟨(row,cs'),r1,fun j hj=>?_,fun j kk hj=>?_⟩
      ·rw [hce.1] at h5;exact h5 j (by omega)
      ·obtain ⟨l,e1,v,e2,e3⟩:=r2 j (List.getElem?_eq_some_iff.1 hj).1
       exact ⟨l,v,e1,e2,e3 kk hj⟩
     obtain ⟨rows,g1,g2⟩:=jz len each
     have hwf:Wf E.cells (.sl e) (.sl (rows.map (·.1))):=by
      refine .sl e _ (by simp [g1];omega) (fun r hr=>?_) (fun r j kk l hr hj hl=>?_)
      ·obtain ⟨rc,hrc,rfl⟩:=List.mem_map.1 hr
       obtain ⟨i',hi'⟩:=List.getElem?_of_mem hrc
       obtain ⟨rc',h1,h2,_⟩:=g2 i' (by rw [<-g1];exact (List.getElem?_eq_some_iff.1 hi').1)
       rw [hi'] at h1;injection h1 with h1;subst h1
       rw [h2,hEe]
      ·obtain ⟨rc,hrc,rfl⟩:=List.mem_map.1 hr
       obtain ⟨i',hi'⟩:=List.getElem?_of_mem hrc
       obtain ⟨rc',h1,h2,_,h3⟩:=g2 i' (by rw [<-g1];exact (List.getElem?_eq_some_iff.1 hi').1)
       rw [hi'] at h1;injection h1 with h1;subst h1
       rw [hEe] at hj
       obtain ⟨l',v,e1,_,_,e3⟩:=h3 j kk hj
       rw [hl] at e1;injection e1 with e1;subst e1
       exact e3
     refine fin (.sl (rows.map (·.1))) _ hv ?_ hwf
     rcases Nat.eq_zero_or_pos len with h0 | hpos
     ·subst h0
      exact .nil _ _ _ _ (by simp only [L.aP];rw [List.eq_nil_of_length_eq_zero g1];rfl)
     ·
      obtain ⟨rc0,h1,h2,h3,h4⟩:=g2 0 hpos
      have hk0:=List.getElem?_eq_getElem hce.2
      obtain ⟨l0,v0,e1,e2,e3,_⟩:=h4 0 _ hk0
      have hc0:=h3 0 hce.2
      rw [e2] at hc0
      obtain ⟨b,o,spot⟩:=a
      have hspot:spot=none:=by simpa [Addr.add] using World.cell?_spot hc0
      subst hspot
      have hblt:b<w.heap.size:=by simpa [Addr.add] using block_lt_of_cell hc0
      refine .sl e len cap b o _ (fun i' j=>(((rows.getD i' ([],[])).2).getD j Go.undef)) (by simp [L.aP,g1]) hlc (Nat.le_trans hlc hcm) hblt (fun i' j kk hi' hj=>?_) (fun i' j kk hi' hj=>?_)
      ·rw [hEe] at hj ⊢
       obtain ⟨rc,q1,q2,q3,q4⟩:=g2 i' hi'
       obtain ⟨l,v,p1,p2,p3,p4⟩:=q4 j kk hj
       have:=q3 j (List.getElem?_eq_some_iff.1 hj).1
       rw [p2,Addr.add_lit,Addr.add_lit,Nat.add_assoc] at this
       rw [this]
       simp [List.getD_eq_getElem?_getD,q1,p2]
      ·rw [hEe] at hj
       obtain ⟨rc,q1,q2,q3,q4⟩:=g2 i' hi'
       obtain ⟨l,v,p1,p2,p3,p4⟩:=q4 j kk hj
       have e1:((rows.getD i' ([],[])).2).getD j Go.undef=v:=by simp [List.getD_eq_getElem?_getD,q1,p2]
       have e2:((L.sl (rows.map (·.1))).aP.getD i' []).getD j .hole=l:=by simp [L.aP,List.getD_eq_getElem?_getD,q1,p1]
       show Rd E.cells w _ kk (((rows.getD i' ([],[])).2).getD j Go.undef) _
       rw [e1,e2];exact p3
  | true=>
   obtain ⟨fs,rfl,_⟩:=k10 ha
   have hcells:P.cellsOf t=i.cells.length:=by simp [Program.cellsOf,k1,k4]
   have hfb:ku P E.T fs.toList i.fields 0 i.cells=true:=by
    have hb':=hb
    unfold zu at hb'
    simp only [k1,k2,k3,ha,bf,Bool.and_eq_true] at hb'
    exact hb'.2.2.2.2.2.1
   obtain ⟨xs,m,hm,_,hl,hxs,hf⟩:=DataW.trod_struct k2 h
   have hm':m=n:=by omega
   subst hm'
   refine ⟨by rw [hl,hcells],fun j kk hj=>?_⟩
   obtain ⟨f,p,ti,c1,c2,c3,c4,c5⟩:=mA hfb j (List.getElem?_eq_some_iff.1 hj).1
   obtain ⟨places,_,hfl,hsp⟩:=iT (E:=E) hfb
   obtain ⟨fl,ti',q1,q2,q3,q4,q5,q6,q7,q8,q9⟩:=hsp f p c1
   rw [c2] at q4;injection q4 with q4;subst q4
   have hfs:fs[f]?=some fl:=by simpa using q1
   have htrod:=hf f fl hfs
   have hxl:f<xs.length:=by
    rw [hxs];exact (Array.getElem?_eq_some_iff.1 hfs).1
   rw [List.getElem?_eq_getElem hxl,q3,q2] at htrod
   obtain ⟨_,h2⟩:=ih c2 htrod
   have hkk:ti.cells[j - p.1]?=some kk:=by
    have hlt:j - p.1<ti.cells.length:=by omega
    have hg:=List.getElem?_eq_getElem hlt
    have:=q8 _ _ hg
    rw [show p.1 - 0+(j - p.1)=j by omega,hj] at this
    rw [hg];exact this.symm
   obtain ⟨l,v,e1,e2,e3⟩:=h2 (j - p.1) kk hkk
   refine ⟨l,v,?_,e2,e3⟩
   rw [List.getElem?_take] at e1
   split at e1
   ·rw [List.getElem?_drop] at e1
    rw [<-e1];congr 1;omega
   ·cases e1
end
end Go.DM
set_option linter.unusedSectionVars false
namespace Go.DM
open Go.ChangeShapes Go.WideShapes Go.RowKit
def nU (T:Nat->Option TI)(t:Nat):fY:=match T t with
 | some i=>bif i.agg then .agg i.cells else .rd (i.cells.headD .bool)
 | none=>.rd .bool
def vO (T:Nat->Option TI)(ts:List Nat)(sem:List L->Option (List L)):fQ:=⟨ts.map (nU T),.one (.rd .bool),sem⟩
def eg (T:Nat->List K)(ks:List K)(ls:List L):Prop:=ls.length=ks.length/\∀(j:Nat) (k:K),ks[j]?=some k->∃l,ls[j]?=some l/\Wf T k l
def eg.append {T:Nat->List K}{a b:List K}{x y:List L}(h:eg T a x)(k:eg T b y):eg T (a++b) (x++y):=by
 refine ⟨by simp [h.1,k.1],fun j kk hj=>?_⟩
 by_cases hl:j<a.length
 ·rw [List.getElem?_append_left hl] at hj
  obtain ⟨l,e1,e2⟩:=h.2 j kk hj
  exact ⟨l,by rw [List.getElem?_append_left (by rw [h.1];exact hl)];exact e1,e2⟩
 ·rw [List.getElem?_append_right (by omega)] at hj
  obtain ⟨l,e1,e2⟩:=k.2 _ kk hj
  exact ⟨l,by rw [List.getElem?_append_right (by rw [h.1];omega),h.1];exact e1,e2⟩
section
variable {H:Type} {enc:TypeId×Value->H} {P:Program} {W:World} {E:Env} {r:Reach} {b0:Nat}
theorem yK (hB:∀t i,E.T t=some i->zu P E.T t i=true){t:Nat}{i:TI}(ht:E.T t=some i){v:Value}{d:DataW H}{ps:List MemPlace}(h:DataW.Trod enc P W 0 (fun _=>true) true t v d ps)(hv:Value.okWide P W r b0 t v) :
  ∃ls,eg E.cells i.cells ls/\∀rest,V2 E.cells W (A0 (fun _=>True) W) (zI (nU E.T t) (ls++rest)) v:=by
 obtain ⟨fuel,hf⟩:=h
 obtain ⟨h1,h2⟩:=zK hB fuel ht hf
 obtain ⟨ls,g1,g2⟩:=jz (P:=fun j l=>∃x,v.cells.toList[j]?=some x/\∀kk,i.cells[j]?=some kk->Rd E.cells W (fun b=>b<W.heap.size) kk x l/\Wf E.cells kk l) i.cells.length (fun j hj=>by
  have hk:=List.getElem?_eq_getElem hj
  obtain ⟨l,x,e1,e2,e3⟩:=h2 j _ hk
  exact ⟨l,x,e1,fun kk hkk=>by rw [hk] at hkk;injection hkk with hkk;subst hkk;exact ⟨e2,e3⟩⟩)
 have hz:∀b,b<W.heap.size->fU W (A0 (fun _=>True) W) b:=fun b hb=>⟨.inl trivial,hb,fun _ h=>h⟩
 have hrd:∀(j:Nat) (kk:K),i.cells[j]?=some kk->∃(l:L) (x:Value),ls[j]?=some l/\v.cells.toList[j]?=some x/\Rd E.cells W (fU W (A0 (fun _=>True) W)) kk x l/\Wf E.cells kk l:=by
  intro j kk hj
  obtain ⟨l,e1,x,e2,e3⟩:=g2 j (List.getElem?_eq_some_iff.1 hj).1
  exact ⟨l,x,e1,e2,(e3 kk hj).1.mono hz,(e3 kk hj).2⟩
 refine ⟨ls,⟨g1,fun j k hj=>?_⟩,fun rest=>?_⟩
 ·obtain ⟨l,x,e1,_,_,e4⟩:=hrd j k hj
  exact ⟨l,e1,e4⟩
 ·obtain ⟨ii,dd,z,k1,k2,k3,k4,k5,k6,kby,k7,k8,k9,k10,kpl,k11,k12,ry,qY,k15⟩:=qd (E:=E) (hB t i ht)
  have hF:=pQ (T:=E.cells) (w:=W) (A:=A0 (fun _=>True) W) (d:=none) (fun r hr=>(nomatch hr)) i.cells ls (fun j=>v.cells.toList.getD j Go.undef) (fun j kk hj=>by
   obtain ⟨l,x,e1,e2,e3,_⟩:=hrd j kk hj
   rw [List.getD_eq_getElem?_getD,e2,List.getD_eq_getElem?_getD,e1];exact e3)
  rw [qg h1] at hF
  have hp:nU E.T t=bif i.agg then .agg i.cells else .rd (i.cells.headD .bool):=by simp [nU,ht]
  rw [hp]
  cases ha:i.agg with
  | true=>
   show V2 E.cells W _ (.agg (mX none i.cells (ls++rest))) v
   obtain ⟨fs,rfl,_⟩:=k10 ha
   obtain ⟨cs,rfl,_⟩:=okWide_struct k2 hv
   rw [lE _ _ _ _ g1]
   exact V1.v2 (v:=.agg _) ⟨cs.toList,by simp,hF⟩
  | false=>
   show V2 E.cells W _ (yS none (i.cells.headD .bool) ((ls++rest).headD .hole)) v
   obtain ⟨hl1,_⟩:=k9 ha
   have hone:∃x,v=x/\v.cells=#[x]:=by
    match hc:i.cells,hl1 with
    | [.int k],_=>obtain ⟨n,rfl⟩:=okWide_int (k12 ha k hc ▸ k2) hv;exact ⟨_,rfl,rfl⟩
    | [.bool],_=>obtain ⟨n,rfl⟩:=okWide_bool (ry ha hc ▸ k2) hv;exact ⟨_,rfl,rfl⟩
    | [.str],_=>obtain ⟨n,rfl⟩:=okWide_string (qY ha hc ▸ k2) hv;exact ⟨_,rfl,rfl⟩
    | [.sl e],_=>
     have hel:i.el=some e:=by simp [TI.el,ha,hc]
     obtain ⟨rfl,_⟩:=k11 e hel
     obtain ⟨a,n,c,rfl⟩:=okWide_slice k2 hv;exact ⟨_,rfl,rfl⟩
   obtain ⟨x,rfl,hcx⟩:=hone
   match hc:i.cells,hl1 with
   | [k],_=>
    obtain ⟨l,y,e1,e2,e3,_⟩:=hrd 0 k (by rw [hc];rfl)
    rw [hcx] at e2
    simp at e2
    subst e2
    have :(ls++rest).headD .hole=l:=by
     rw [gy,List.getD_eq_getElem?_getD,List.getElem?_append_left (by rw [g1,hc];simp),e1];rfl
    rw [this]
    exact (sQ (fun r hr=>by cases hr) e3).v2
theorem zH (hB:∀t i,E.T t=some i->zu P E.T t i=true){t:Nat}{i:TI}(ht:E.T t=some i):(nU E.T t).n=i.cells.length:=by
 have hp:nU E.T t=bif i.agg then .agg i.cells else .rd (i.cells.headD .bool):=by simp [nU,ht]
 rw [hp]
 cases ha:i.agg with
 | true=>rfl
 | false=>
  obtain ⟨ii,dd,z,k1,k2,k3,k4,k5,k6,kby,k7,k8,k9,_⟩:=qd (E:=E) (hB t i ht)
  rw [(k9 ha).1];rfl
theorem sB (hB:∀t i,E.T t=some i->zu P E.T t i=true):∀{ts:List Nat} {vs:List Value} {ds:List (DataW H)} {ps:List MemPlace},(∀t∈ts,(E.T t).isSome=true)->DataW.TrodAll enc P W 0 (fun _=>true) true ts vs ds ps->
  (∀(j:Nat) (t:TypeId) (v:Value),ts[j]?=some t->vs[j]?=some v->Value.okWide P W r b0 t v)->∃ls,eg E.cells (ts.flatMap E.cells) ls/\F2 (V2 E.cells W (A0 (fun _=>True) W)) (jB (ts.map (nU E.T)) ls) vs
 | [],[],ds,ps,_,_,_=>⟨[],⟨rfl,fun j k hj=>by simp at hj⟩,.nil⟩
 | [],_::_,[],ps,_,h,_=>h.elim
 | [],_::_,_::_,ps,_,h,_=>h.elim
 | _::_,[],[],ps,_,h,_=>h.elim
 | _::_,[],_::_,ps,_,h,_=>h.elim
 | _::_,_::_,[],ps,_,h,_=>h.elim
 | t::ts,v::vs,d::ds,ps,hs,⟨p,q,h1,h2,_⟩,hv=>by
  obtain ⟨i,hi⟩:=Option.isSome_iff_exists.1 (hs t (by simp))
  obtain ⟨a,g1,g2⟩:=yK hB hi h1 (hv 0 t v rfl rfl)
  obtain ⟨b,g3,g4⟩:=sB hB (fun t ht=>hs t (by simp [ht])) h2 (fun j t v h h'=>hv (j+1) t v (by simpa using h) (by simpa using h'))
  have hc:E.cells t=i.cells:=gG hi
  refine ⟨a++b,by rw [List.flatMap_cons,hc];exact g1.append g3,?_⟩
  refine .cons (g2 b) ?_
  rw [zH hB hi,<-g1.1,jm,List.drop_left]
  exact g4
theorem mw (hl:laidOutB P=true){W':World}(hb:Below W.heap.size W W'):∀{ts:List Nat} {vs:List Value} {ds:List (DataW H)} {ps:List MemPlace},(ts.all fun t=>P.readableRec t&&decide (t<P.types.size))=true->
  DataW.TrodAll enc P W 0 (fun _=>true) true ts vs ds ps->DataW.TrodAll enc P W' 0 (fun b=>decide (b<W.heap.size)) true ts vs ds ps
 | [],[],[],ps,_,h=>h
 | [],_::_,[],ps,_,h=>h.elim
 | [],[],_::_,ps,_,h=>h.elim
 | [],_::_,_::_,ps,_,h=>h.elim
 | _::_,[],[],ps,_,h=>h.elim
 | _::_,[],_::_,ps,_,h=>h.elim
 | _::_,_::_,[],ps,_,h=>h.elim
 | t::ts,v::vs,d::ds,ps,hs,⟨p,q,h1,h2,h3⟩=>by
  simp only [List.all_cons,Bool.and_eq_true,decide_eq_true_eq] at hs
  refine ⟨p,q,Below.trod hl hs.1.1 hs.1.2 h1 hb ?_,mw hl hb (by simpa using hs.2) h2,h3⟩
  obtain ⟨fuel,hf⟩:=h1
  exact DataW.trod_lt fuel _ _ _ hf
theorem wE {g:FuncId}{ts:List Nat}{sem:List L->Option (List L)}(hV:Valid P E g (vO E.T ts sem)){ls:List L}{vs:List Value}(hs:sem ls=some [.bool true])
  (hf:F2 (V2 E.cells W (A0 (fun _=>True) W)) (jB (ts.map (nU E.T)) ls) vs):Calls P g vs.toArray W fun e W'=>e=.returned (.bool true)/\Below W.heap.size W W':=by
 refine (hV.2.2 ls _ W vs (fun _=>True) hs hf).mono fun e W' ⟨rv,A',h1,h2,_,_,_,h3⟩=>?_
 have :rv=.bool true:=h3
 subst this
 exact ⟨h1,⟨h2.os,h2.tape,h2.output,h2.size,fun k hk=>h2.block k hk (fun h=>h)⟩⟩
end
end Go.DM
namespace Go.DM
def iter {Pt:Type}(step:(Pt->aH)->Pt->aH):Nat->Pt->aH
 | 0=>fun _=>none
 | n+1=>step (iter step n)
def qx {E:Env}{live:Nat->Live}{f:Func}{res:RP}{Pt:Type}{id:Pt->Nat}{vs:Pt->List V}{hs:Pt->List aW}{step:(Pt->aH)->Pt->aH}
  (h:∀(I:cD) (p:Pt),cT E live I (id p) (bO f) (fq (live (id p)) (vs p) (hs p)) (cE E f res)=step (fun q=>I (id q) (vs q) (hs q)) p) :
  ∀(n:Nat) (p:Pt),qP E live f res n (id p) (vs p) (hs p)=iter step n p
 | 0,_=>rfl
 | n+1,p=>by
  show cT E live (qP E live f res n) (id p) (bO f) (fq (live (id p)) (vs p) (hs p)) (cE E f res)=step (iter step n) p
  rw [h]
  congr 1
  funext q
  exact qx h n q
def cy {E:Env}{live:Nat->Live}{f:Func}{res:RP}{Pt:Type}{id:Pt->Nat}{vs:Pt->List V}{hs:Pt->List aW}{step:(Pt->aH)->Pt->aH}{s:St}{start:(Pt->aH)->aH}
  (h:∀(I:cD) (p:Pt),cT E live I (id p) (bO f) (fq (live (id p)) (vs p) (hs p)) (cE E f res)=step (fun q=>I (id q) (vs q) (hs q)) p)
  (h0:∀I:cD,eP E live I (bO f) s (cE E f res)=start (fun q=>I (id q) (vs q) (hs q))) (n:Nat):eJ E live f res n s=start (iter step n):=by
 unfold eJ
 rw [h0]
 congr 1
 funext q
 exact qx h n q
end Go.DM
namespace Go.DM
def wP {P:Program}{l:List (Nat×TI)}(h:eH P l=true):∀t i,(dA l).T t=some i->zu P (dA l).T t i=true:=by
 intro t i ht
 simp only [eH,List.all_eq_true] at h
 exact h (t,i) (nX ht)
def oK {H:Type}{enc:TypeId×Value->H}{P:Program}{w:World}{base:Nat}{sp:Nat->Bool}{held:Bool}:∀{ts:List TypeId} {vs:List Value} {ds:List (DataW H)} {ps:List MemPlace},DataW.TrodAll enc P w base sp held ts vs ds ps->ds.length=ts.length
 | [],[],[],_,_=>rfl
 | [],[],_::_,_,h=>h.elim
 | [],_::_,[],_,h=>h.elim
 | [],_::_,_::_,_,h=>h.elim
 | _::_,[],[],_,h=>h.elim
 | _::_,[],_::_,_,h=>h.elim
 | _::_,_::_,[],_,h=>h.elim
 | _::_,_::_,_::_,_,⟨_,_,_,h,_⟩=>by simp [oK h]
def uo {P:Program}{E:Env}{g:FuncId}{aT:fQ}(he:lT P g)(hok:aT.res.ok=true)(hR:∀r,aT.res.R r=[])
  (h:∀(ls r:List L) (w:World) (vs:List Value) (Z:Nat->Prop),aT.sem ls=some r->F2 (V2 E.cells w (A0 Z w)) (jB aT.args ls) vs->
   Calls P g vs.toArray w fun e w'=>∃rv,e=.returned rv/\w'=w/\V2 E.cells w (A0 Z w) (aT.res.V r 0) rv):Valid P E g aT:=by
 refine ⟨he,hok,fun ls r w vs Z hs hf=>(h ls r w vs Z hs hf).mono fun e w' ⟨rv,h1,h2,h3⟩=>?_⟩
 subst h2
 refine ⟨rv,A0 Z w',h1,Fr.refl _ _,rfl,fun i=>?_,?_,h3⟩
 ·rw [hR];simp [A0]
 ·rw [hR]
  exact ⟨fun _ _ h=>h.elim,fun _ _ _ h=>h.elim,fun _ _=>rfl,fun _ _ h=>h.elim,Fr.refl _ _,fun _ _ h=>h.elim,fun _ h=>.inr (h.resolve_left id),fun j hj=>absurd hj (Nat.not_lt_zero j)⟩
def aG {i n:Nat}(h:i<n)(hn:n<=maxLen):IntKind.i64.wrap ((i:Int)+1)=((i+1:Nat):Int):=by
 rw [Go.IntWalk.i64_in _ (by simp only [maxLen] at hn;omega)];omega
def up {xs:aC}{Q:Nat->Prop}(h0:∀i,xs.length<=i->i=xs.length->Q i)(h1:∀i (h:i<xs.length),Q (i+1)->Q i):∀i,i<=xs.length->Q i:=by
 have key:∀k i,i+k=xs.length->Q i:=by
  intro k
  induction k with
  | zero=>intro i hi;exact h0 i (by omega) (by omega)
  | succ k ih=>intro i hi;exact h1 i (by omega) (ih (i+1) (by omega))
 exact fun i hi=>key (xs.length - i) i (by omega)
def take_set {α:Type}{c:List α}{i:Nat}{v:α}(h:i<c.length):(c.set i v).take (i+1)=c.take i++[v]:=by
 rw [List.take_succ_eq_append_getElem (by simpa using h),List.take_set_of_le (by omega)]
 simp
def cB (n:Nat):Int.toNat (n:Int)=n:=Eq.trans (Int.toNat_natCast n) rfl
@[simp] def fX (s:aB):(s==s)=true:=by rw [beq_toListBytes];simp
end Go.DM
namespace Go.DM
class RT (β:Type) where
 enc:β->List L
 dec:List L->β
 n:Nat
 de:∀b rest,dec (enc b++rest)=b
 dr:∀b rest,aA n (enc b++rest)=rest
instance :RT Int:=⟨fun n=>[.int n],fun r=>(r.headD .hole).toInt,1,fun _ _=>rfl,fun _ _=>rfl⟩
instance :RT Bool:=⟨fun n=>[.bool n],fun r=>(r.headD .hole).toBool,1,fun _ _=>rfl,fun _ _=>rfl⟩
instance :RT aB:=⟨fun n=>[.str n],fun r=>(r.headD .hole).toStr,1,fun _ _=>rfl,fun _ _=>rfl⟩
instance :RT (aC):=⟨fun n=>[.sl n],fun r=>(r.headD .hole).aP,1,fun _ _=>rfl,fun _ _=>rfl⟩
def sj:∀(m n:Nat) (l:List L),aA (m+n) l=aA n (aA m l)
 | 0,n,l=>by rw [Nat.zero_add];rfl
 | m+1,n,l=>by rw [show m+1+n=(m+n)+1 by omega];exact sj m n l.tail
instance {α β:Type} [RT α] [RT β]:RT (α×β):=
 ⟨fun p=>RT.enc p.1++RT.enc p.2,fun r=>(RT.dec r,RT.dec (aA (RT.n α) r)),RT.n α+RT.n β,
  fun b rest=>by simp only [List.append_assoc,RT.de,RT.dr],
  fun b rest=>by simp only [List.append_assoc,sj,RT.dr]⟩
def ret {β:Type}[RT β](b:β):aH:=some (RT.enc b)
def call {β:Type}[RT β](o:Option β)(k:β->aH):aH:=(o.map RT.enc).bind fun r=>k (RT.dec r)
def wL {β:Type}[RT β](b:β)(k:β->aH):call (some b) k=k b:=by
 have:=RT.de b []
 rw [List.append_nil] at this
 simp [call,this]
def call_eq {β:Type}[RT β]{o:Option β}{b:β}(h:o=some b)(k:β->aH):call o k=k b:=by rw [h,wL]
def gm (r:List L):Int:=(r.headD .hole).toInt
def BE (r:List L):Bool:=(r.headD .hole).toBool
def sDec (r:List L):aB:=(r.headD .hole).toStr
def mh (r:List L):aC:=(r.headD .hole).aP
def je (xs:aC)(i:Nat):Int:=gm (List.getD xs i [])
def BC (xs:aC)(i:Nat):Bool:=BE (List.getD xs i [])
def pV (xs:aC)(i:Nat):aB:=sDec (List.getD xs i [])
def og (xs:aC)(i:Nat):aC:=mh (List.getD xs i [])
def dZ (s:aB)(i:Nat):Int:=((List.getD s.data.toList i 0).toNat:Int)
def bh (n:Int):List L:=[.int n]
def wR (n:Bool):List L:=[.bool n]
def cF (n:aB):List L:=[.str n]
def dG {α:Type}(f:α->List L)(c:List α):List L:=[.sl (c.map f)]
def lF {a b:Int}(h:bh a=bh b):a=b:=by injection h with h;injection h
def yA {a b:Bool}(h:wR a=wR b):a=b:=by injection h with h;injection h
def uX {a b:aB}(h:cF a=cF b):a=b:=by injection h with h;injection h
def map_inj {α β:Type}{f:α->β}(hf:∀{a b:α},f a=f b->a=b):∀{a b:List α},a.map f=b.map f->a=b
 | [],[],_=>rfl
 | [],_::_,h=>by cases h
 | _::_,[],h=>by cases h
 | a::as,b::bs,h=>by
  simp only [List.map_cons,List.cons.injEq] at h
  rw [hf h.1,map_inj hf h.2]
def tZ {α:Type}{f:α->List L}(hf:∀{a b:α},f a=f b->a=b){a b:List α}(h:dG f a=dG f b):a=b:=by
 injection h with h;injection h with h;exact map_inj hf h
def getD_map {α:Type}{f:α->List L}{xs:List α}{i:Nat}(h:i<xs.length):List.getD (xs.map f) i []=f xs[i]:=by
 simp [List.getD_eq_getElem?_getD,h]
def sF {xs:List Int}{i:Nat}(h:i<xs.length):je (xs.map bh) i=xs[i]:=by unfold je;rw [getD_map h];rfl
def pP {xs:List aB}{i:Nat}(h:i<xs.length):pV (xs.map cF) i=xs[i]:=by unfold pV;rw [getD_map h];rfl
def pR {α:Type}{f:α->List L}{xs:List (List α)}{i:Nat}(h:i<xs.length):og (xs.map (dG f)) i=xs[i].map f:=by unfold og;rw [getD_map h];rfl
def ofM {A A' B:Type}(r:A->A')(g:A->Prop)(m:A->B)(x:A'):Option B:=
 open Classical in if h:∃a,r a=x/\g a then some (m (Classical.choose h)) else none
def AJ {A A' B:Type}{r:A->A'}{g:A->Prop}{m:A->B}{a:A}(hr:∀a b,r a=r b->a=b)(h:g a):ofM r g m (r a)=some (m a):=by
 have hx:∃b,r b=r a/\g b:=⟨a,rfl,h⟩
 unfold ofM
 rw [dif_pos hx,hr _ _ (Classical.choose_spec hx).1]
def jW {A A' B:Type}{r:A->A'}{g:A->Prop}{m:A->B}{x:A'}{v:B}(h:ofM r g m x=some v):∃a,g a/\r a=x/\m a=v:=by
 unfold ofM at h
 split at h
 ·rename_i hx
  injection h with h
  exact ⟨_,(Classical.choose_spec hx).2,(Classical.choose_spec hx).1,h⟩
 ·cases h
def map_some {α β:Type}{f:α->β}{o:Option α}{b:β}(h:o.map f=some b):∃a,o=some a/\f a=b:=by
 cases o with
 | none=>cases h
 | some a=>injection h with h;exact ⟨a,rfl,h⟩
def dW {α:Type}(a b:α):Bool:=open Classical in decide (a=b)
def dc {α:Type}{a b:α}:dW a b=true↔a=b:=by simp [dW]
def fH {α:Type}(a:α):dW a a=true:=dc.2 rfl
def lY {α:Type}{a b:α}:dW a b=false↔a≠b:=by simp [dW]
def bL {α:Type}(n:Nat)(p:α->Prop)(xs:List α):Prop:=xs.length<=n/\∀x∈xs,p x
def bL.get {α:Type}{n:Nat}{p:α->Prop}{xs:List α}(h:bL n p xs){i:Nat}(hi:i<xs.length):p xs[i]:=h.2 _ (List.getElem_mem hi)
def bL.mono {α:Type}{n m:Nat}{p q:α->Prop}{xs:List α}(h:bL n p xs)(hn:n<=m)(hpq:∀x,p x->q x):bL m q xs:=⟨Nat.le_trans h.1 hn,fun x hx=>hpq x (h.2 x hx)⟩
def bL.nil {α:Type}{n:Nat}{p:α->Prop}:bL n p ([]:List α):=⟨Nat.zero_le _,fun x hx=>(nomatch hx)⟩
def dO {α:Type}(f:α->Nat)(xs:List α):Nat:=xs.length+(xs.map f).sum
def sW {α:Type}{f:α->Nat}:∀{xs:List α} {x:α},x∈xs->f x<=(xs.map f).sum
 | y::ys,x,h=>by
  simp only [List.map_cons,List.sum_cons]
  rcases List.mem_cons.1 h with rfl | h
  ·omega
  ·have:=sW (f:=f) h;omega
def iM {α:Type}{f:α->Nat}{p:α->Prop}{n:Nat}{xs:List α}(h:dO f xs<=n)(hp:∀x,f x<=n->p x):bL n p xs:=by
 unfold dO at h
 exact ⟨by omega,fun x hx=>hp x (by have:=sW (f:=f) hx;omega)⟩
def wC {P:Program}{E:Env}{g:FuncId}{aT:fQ}{el:Nat}(he:lT P g)(hr:aT.res=.one (.fr el))
  (h:∀(ls r:List L) (w:World) (vs:List Value) (Z:Nat->Prop),aT.sem ls=some r->F2 (V2 E.cells w (A0 Z w)) (jB aT.args ls) vs->
   Calls P g vs.toArray w fun e w'=>∃(rv:Value) (S:Nat->Prop),e=.returned rv/\Fr w w' (fun _=>False)/\(∀b,S b->w.heap.size<=b/\b<w'.heap.size)/\fC E.cells w' S (.sl el) rv (.sl (r.headD .hole).aP)):Valid P E g aT:=by
 refine ⟨he,by rw [hr];rfl,fun ls r w vs Z hs hf=>(h ls r w vs Z hs hf).mono fun e w' ⟨rv,S,h1,h2,h3,h4⟩=>?_⟩
 have hR:aT.res.R r=[.row el (r.headD .hole).aP]:=by rw [hr];rfl
 have hV:aT.res.V r 0=.own 0:=by rw [hr];rfl
 obtain ⟨a,n,c,hsl,_⟩:=h4.wV
 refine ⟨rv,{ v:=fun _=>rv,N:=fun i=>if i=0 then S else fun _=>False,al:=fun i=>i<1,Z:=(A0 Z w).Z },h1,h2,rfl,fun i=>by rw [hR];rfl,?_,?_⟩
 ·rw [hR]
  refine ⟨fun i b hb=>?_,fun i j b hb hb'=>?_,fun i hi=>?_,fun i=>?_,h2,fun i b hb=>?_,fun b hb=>.inr (hb.resolve_left id),fun j hj=>absurd hj (Nat.not_lt_zero j)⟩
  ·by_cases hi:i=0
   ·simp only [hi,if_true] at hb;exact (h3 b hb).2
   ·simp only [hi,if_false] at hb
  ·by_cases hi:i=0<;>by_cases hj:j=0
   ·rw [hi,hj]
   ·simp only [hj,if_false] at hb'
   ·simp only [hi,if_false] at hb
   ·simp only [hi,if_false] at hb
  ·have :i≠0:=fun e=>hi (by show i<1;omega)
   simp [eM,bR _ _ this]
  ·by_cases hi:i=0
   ·subst hi
    simp only [eM,bP]
    exact ⟨Nat.lt_one_iff.2 rfl,by simpa using h4⟩
   ·simp only [eM,bR _ _ hi]
    intro b hb
    simp only [hi,if_false] at hb
  ·by_cases hi:i=0
   ·simp only [hi,if_true] at hb;exact .inr (h3 b hb).1
   ·simp only [hi,if_false] at hb
 ·rw [hV]
  exact V0.v2 (v:=.own 0) ⟨Nat.lt_one_iff.2 rfl,rfl,a,n,c,hsl⟩
def aL {i n:Nat}(h:i<n):decide ((i:Int)<(n:Int))=true:=by simp [h]
def dU {n:Nat}:decide ((n:Int)<(n:Int))=false:=by simp
def aI {i:Nat}:decide ((0:Int)<=(i:Int))=true:=by simp
end Go.DM
namespace Go.DM
def iC (s:Nat)(left:Int):Int:=if left<(s:Int) then -1 else left - s
def cK {s:Nat}{left:Int}(h:left<(s:Int)):iC s left=-1:=if_pos h
def dn {s:Nat}{left:Int}(h:¬left<(s:Int)):iC s left=left - s:=if_neg h
def dm {x:Int}(h:0<=x):decide (x<0)=false:=decide_eq_false (by omega)
def lP {s:Nat}{left:Int}(h0:0<=left)(h1:left<=1048576)(hs:s<=maxLen):IntKind.i64.wrap (left - (s:Int))=left - s:=
 Go.IntWalk.i64_in _ (by simp only [maxLen] at hs;omega)
def qy {α:Type}{f:α->Nat}(h:∀x,f x=0):∀xs:List α,(xs.map f).sum=0
 | []=>rfl
 | x::xs=>by simp [h x,qy h xs]
def zJ {Pt α:Type}{step:(Pt->aH)->Pt->aH}{pt:Int->Nat->Pt}{xs:List α}{f:α->Nat}
  (h1:∀(J:Pt->aH) (i:Nat) (h:i<xs.length) (left:Int),0<=left->left<=1048576->step J (pt left i)=if left<(f xs[i]:Int) then ret (-1:Int) else J (pt (left - f xs[i]) (i+1)))
  (h0:∀(J:Pt->aH) (left:Int),step J (pt left xs.length)=ret left):∀(left:Int),0<=left->left<=1048576->∃m,iter step m (pt left 0)=ret (iC (xs.map f).sum left):=by
 have key:∀k i,i+k=xs.length->∀left:Int,0<=left->left<=1048576->∃m,iter step m (pt left i)=ret (iC ((xs.drop i).map f).sum left):=by
  intro k
  induction k with
  | zero=>
   intro i hi left g0 g1
   have :i=xs.length:=by omega
   subst this
   refine ⟨1,(h0 _ left).trans ?_⟩
   have e:iC ((xs.drop xs.length).map f).sum left=left:=by
    rw [List.drop_eq_nil_of_le (Nat.le_refl _)]
    rw [dn (by simp;omega)];simp
   rw [e]
  | succ k ih=>
   intro i hi left g0 g1
   have hlt:i<xs.length:=by omega
   rw [List.drop_eq_getElem_cons hlt,List.map_cons,List.sum_cons]
   by_cases hc:left<(f xs[i]:Int)
   ·refine ⟨1,(h1 _ i hlt left g0 g1).trans ?_⟩
    rw [if_pos hc,cK (by omega)]
   ·obtain ⟨m,hm⟩:=ih (i+1) (by omega) (left - f xs[i]) (by omega) (by omega)
    refine ⟨m+1,(h1 _ i hlt left g0 g1).trans ?_⟩
    rw [if_neg hc,hm]
    congr 1
    unfold iC
    split<;>split<;>omega
 intro left g0 g1
 have:=key xs.length 0 (by omega) left g0 g1
 simpa using this
def jI {Pt α:Type}{step:(Pt->aH)->Pt->aH}{pt:Int->Nat->Pt}{xs:List α}{f:α->Nat}(hx:xs.length<=maxLen)
  (h1:∀(J:Pt->aH) (i:Nat) (h:i<xs.length) (left:Int),0<=left->left<=1048576->step J (pt left i)=if left<(f xs[i]:Int) then ret (-1:Int) else J (pt (left - f xs[i]) (i+1)))
  (h0:∀(J:Pt->aH) (left:Int),step J (pt left xs.length)=ret left) {left:Int} (g0:0<=left) (g1:left<=1048576) :
  ∃m,(cond (decide (IntKind.i64.wrap (left - (xs.length:Int))<0)) (ret (-1:Int)) (iter step m (pt (IntKind.i64.wrap (left - (xs.length:Int))) 0)))=ret (iC (dO f xs) left):=by
 rw [lP g0 g1 hx]
 by_cases hc:left - (xs.length:Int)<0
 ·refine ⟨0,?_⟩
  rw [decide_eq_true hc,cK (by unfold dO;omega)];rfl
 ·obtain ⟨m,hm⟩:=zJ h1 h0 (left - (xs.length:Int)) (by omega) (by omega)
  refine ⟨m,?_⟩
  rw [decide_eq_false hc,bq,hm]
  congr 1
  unfold iC dO
  split<;>split<;>omega
def zh {Pt:Type}{step:(Pt->aH)->Pt->aH}{pt:Nat->aC->Pt}{xs:aC}
  (h1:∀(J:Pt->aH) (i:Nat) (h:i<xs.length) (c:aC),c.length=xs.length->step J (pt i c)=J (pt (i+1) (c.set i xs[i])))
  (h0:∀(J:Pt->aH) (c:aC),step J (pt xs.length c)=ret c) (c:aC) (hc:c.length=xs.length):∃m,iter step m (pt 0 c)=ret xs:=by
 have key:∀k i,i+k=xs.length->∀c:aC,c.length=xs.length->c.take i=xs.take i->∃m,iter step m (pt i c)=ret xs:=by
  intro k
  induction k with
  | zero=>
   intro i hi c hc ht
   have :i=xs.length:=by omega
   subst this
   rw [List.take_of_length_le (by omega),List.take_of_length_le (Nat.le_refl _)] at ht
   exact ⟨1,by rw [<-ht] at h0 ⊢;exact h0 _ _⟩
  | succ k ih=>
   intro i hi c hc ht
   have hlt:i<xs.length:=by omega
   obtain ⟨m,hm⟩:=ih (i+1) (by omega) (c.set i xs[i]) (by simpa using hc) (by rw [take_set (by omega),ht,List.take_succ_eq_append_getElem hlt])
   exact ⟨m+1,(h1 _ i hlt c hc).trans hm⟩
 exact key xs.length 0 (by omega) c hc rfl
def iw {Pt α:Type}{step:(Pt->aH)->Pt->aH}{pt:Nat->aC->Pt}{xs:List α}{f:α->List L}{z:List L}{b:Nat}(hx:(xs.length:Int)*(b:Int)<=140737488355328)
  (h1:∀(J:Pt->aH) (i:Nat) (h:i<xs.length) (c:aC),c.length=xs.length->step J (pt i c)=J (pt (i+1) (c.set i (f xs[i]))))
  (h0:∀(J:Pt->aH) (c:aC),step J (pt xs.length c)=ret c) :
  ∃m,(cond (decide ((0:Int)<=(xs.length:Int))) (cond (decide ((xs.length:Int)<=(xs.length:Int))) (cond (decide ((xs.length:Int)*(b:Int)<=140737488355328)) (iter step m (pt 0 (List.replicate (Int.toNat (xs.length:Int)) z))) none) none) none)=ret (xs.map f):=by
 obtain ⟨m,hm⟩:=zh (step:=step) (pt:=pt) (xs:=xs.map f) (fun J i h c hc=>by
  rw [List.getElem_map];exact h1 J i (by simpa using h) c (by simpa using hc)) (fun J c=>by rw [List.length_map];exact h0 J c) (List.replicate (Int.toNat (xs.length:Int)) z) (by simp)
 refine ⟨m,?_⟩
 rw [aI,decide_eq_true (Int.le_refl _),decide_eq_true hx]
 exact hm
def ze {Pt α:Type}{step:(Pt->aH)->Pt->aH}{pt:Nat->Pt}{xs ys:List α}(hl:xs.length=ys.length)
  (h1:∀(J:Pt->aH) (i:Nat) (h:i<xs.length) (h':i<ys.length),step J (pt i)=bif dW xs[i] ys[i] then J (pt (i+1)) else ret false) (h0:∀J:Pt->aH,step J (pt xs.length)=ret true):∃m,iter step m (pt 0)=ret (dW xs ys):=by
 have key:∀k i,i+k=xs.length->∃m,iter step m (pt i)=ret (dW (xs.drop i) (ys.drop i)):=by
  intro k
  induction k with
  | zero=>
   intro i hi
   have :i=xs.length:=by omega
   subst this
   refine ⟨1,(h0 _).trans ?_⟩
   rw [List.drop_eq_nil_of_le (Nat.le_refl _),List.drop_eq_nil_of_le (by omega),fH]
  | succ k ih=>
   intro i hi
   have hlt:i<xs.length:=by omega
   have hlt':i<ys.length:=by omega
   rw [List.drop_eq_getElem_cons hlt,List.drop_eq_getElem_cons hlt']
   obtain ⟨m,hm⟩:=ih (i+1) (by omega)
   cases hc:dW xs[i] ys[i]
   ·refine ⟨1,(h1 _ i hlt hlt').trans ?_⟩
    rw [hc]
    have :dW (xs[i]::xs.drop (i+1)) (ys[i]::ys.drop (i+1))=false:=by
     rw [lY] at hc ⊢
     intro h;injection h with h;exact hc h
    rw [this];rfl
   ·refine ⟨m+1,(h1 _ i hlt hlt').trans ?_⟩
    rw [hc,bf,hm]
    congr 1
    rw [dc] at hc
    rw [Bool.eq_iff_iff,dc,dc,hc]
    constructor
    ·intro h;rw [h]
    ·intro h;injection h
 have:=key xs.length 0 (by omega)
 simpa using this
def iz {Pt α:Type}{step:(Pt->aH)->Pt->aH}{pt:Nat->Pt}{xs ys:List α}
  (h1:xs.length=ys.length->∀(J:Pt->aH) (i:Nat) (h:i<xs.length) (h':i<ys.length),step J (pt i)=bif dW xs[i] ys[i] then J (pt (i+1)) else ret false) (h0:∀J:Pt->aH,step J (pt xs.length)=ret true) :
  ∃m,(cond ((xs.length:Int) != (ys.length:Int)) (ret false) (iter step m (pt 0)))=ret (dW xs ys):=by
 by_cases hl:xs.length=ys.length
 ·obtain ⟨m,hm⟩:=ze hl (h1 hl) h0
  refine ⟨m,?_⟩
  rw [hl,bne_self_eq_false,bq,hm]
 ·refine ⟨0,?_⟩
  have h2:((xs.length:Int) != (ys.length:Int))=true:=by simpa using fun h=>hl (by omega)
  have h3:dW xs ys=false:=lY.2 fun h=>hl (by rw [h])
  rw [h2,h3];rfl
def eg.dS {T:Nat->List K}{k:K}{ks:List K}{r:List L}(h:eg T (k::ks) r):∃l r',r=l::r'/\Wf T k l/\eg T ks r':=by
 match r,h with
 | [],h=>have:=h.1;simp at this
 | l::r',h=>
  obtain ⟨l',e1,e2⟩:=h.2 0 k rfl
  simp at e1
  subst e1
  exact ⟨l,r',rfl,e2,by simpa using h.1,fun j kk hj=>by simpa using h.2 (j+1) kk (by simpa using hj)⟩
def eg.ny {T:Nat->List K}:∀{a b:List K} {r:List L},eg T (a++b) r->∃r1 r2,r=r1++r2/\eg T a r1/\eg T b r2
 | [],b,r,h=>⟨[],r,rfl,⟨rfl,fun j k hj=>by simp at hj⟩,h⟩
 | k::a,b,r,h=>by
  obtain ⟨l,r',rfl,h1,h2⟩:=eg.dS (ks:=a++b) h
  obtain ⟨r1,r2,rfl,h3,h4⟩:=eg.ny h2
  exact ⟨l::r1,r2,rfl,eg.append (a:=[k]) (x:=[l]) ⟨rfl,fun j kk hj=>by
   cases j with
   | zero=>simp at hj;subst hj;exact ⟨l,rfl,h1⟩
   | succ j=>simp at hj⟩ h3,h4⟩
def eg.jA {T:Nat->List K}{r:List L}(h:eg T [] r):r=[]:=List.eq_nil_of_length_eq_zero h.1
def gi {T:Nat->List K}{k:IntKind}{l:L}(h:Wf T (.int k) l):∃n,l=.int n:=by cases h;exact ⟨_,rfl⟩
def zP {T:Nat->List K}{l:L}(h:Wf T .bool l):∃n,l=.bool n:=by cases h;exact ⟨_,rfl⟩
def sU {T:Nat->List K}{l:L}(h:Wf T .str l):∃s:aB,l=.str s/\s.size<=maxLen:=by cases h;exact ⟨_,rfl,by assumption⟩
def gP {T:Nat->List K}{e:Nat}{ks:List K}{α:Type}{row:α->List L}{p:α->Prop}(hc:T e=ks)(hrow:∀r,eg T ks r->∃x,row x=r/\p x){l:L}(h:Wf T (.sl e) l) :
  ∃xs:List α,l=.sl (xs.map row)/\bL maxLen p xs:=by
 cases h
 rename_i xs hle hl hr
 have key:∀ys:aC,(∀r∈ys,r∈xs)->∃zs:List α,ys=zs.map row/\∀z∈zs,p z:=by
  intro ys
  induction ys with
  | nil=>intro _;exact ⟨[],rfl,fun z hz=>(nomatch hz)⟩
  | cons y ys ih=>
   intro hy
   obtain ⟨zs,e1,e2⟩:=ih fun r hr=>hy r (by simp [hr])
   obtain ⟨z,e3,e4⟩:=hrow y (by
    refine ⟨by rw [<-hc];exact hl y (hy y (by simp)),fun j kk hj=>?_⟩
    rw [<-hc] at hj
    have hjl:j<y.length:=by rw [hl y (hy y (by simp))];exact (List.getElem?_eq_some_iff.1 hj).1
    have hg:=List.getElem?_eq_getElem hjl
    exact ⟨_,hg,hr y j kk _ (hy y (by simp)) hj hg⟩)
   refine ⟨z::zs,by simp [e1,e3],fun w hw=>?_⟩
   rcases List.mem_cons.1 hw with rfl | hw
   ·exact e4
   ·exact e2 w hw
 obtain ⟨zs,e1,e2⟩:=key xs fun r hr=>hr
 exact ⟨zs,by rw [e1],by rw [e1] at hle;simpa using hle,e2⟩
def yV {T:Nat->List K}{k:IntKind}(r:List L)(h:eg T [.int k] r):∃x,bh x=r/\True:=by
 obtain ⟨l,r',rfl,h1,h2⟩:=h.dS
 obtain ⟨n,rfl⟩:=gi h1
 rw [h2.jA];exact ⟨n,rfl,trivial⟩
def vZ {T:Nat->List K}(r:List L)(h:eg T [.str] r):∃x:aB,cF x=r/\x.size<=maxLen:=by
 obtain ⟨l,r',rfl,h1,h2⟩:=h.dS
 obtain ⟨n,rfl,h3⟩:=sU h1
 rw [h2.jA];exact ⟨n,rfl,h3⟩
def zc {T:Nat->List K}{e:Nat}{ks:List K}{α:Type}{row:α->List L}{p:α->Prop}(hc:T e=ks)(hrow:∀r,eg T ks r->∃x,row x=r/\p x)(r:List L)(h:eg T [.sl e] r):∃x,dG row x=r/\bL maxLen p x:=by
 obtain ⟨l,r',rfl,h1,h2⟩:=h.dS
 obtain ⟨xs,rfl,h3⟩:=gP hc hrow h1
 rw [h2.jA];exact ⟨xs,rfl,h3⟩
def eZ {a b:Int}:(a==b)=dW a b:=by rw [Bool.eq_iff_iff,beq_iff_eq,dc]
def bool_beq {a b:Bool}:(a==b)=dW a b:=by rw [Bool.eq_iff_iff,beq_iff_eq,dc]
def eO {a b:aB}:(a==b)=dW a b:=by
 rw [Bool.eq_iff_iff,dc,beq_toListBytes,beq_iff_eq,ByteArray.toList_eq,ByteArray.toList_eq]
 constructor
 ·intro h
  obtain ⟨⟨x⟩⟩:=a
  obtain ⟨⟨y⟩⟩:=b
  simp at h
  rw [h]
 ·intro h;rw [h]
def cM {b c:Bool}{x:aH}(h:b=true->x=ret c):(cond (!b) (ret false) x)=ret (b&&c):=by
 cases b
 ·rfl
 ·simpa using h rfl
end Go.DM
namespace Go.DM
def eo {S β:Type}(f:Nat->S->S⊕β)(tail:S->β):Nat->Nat->S->β
 | 0,_,s=>tail s
 | k+1,i,s=>match f i s with
  | .inl s'=>eo f tail k (i+1) s'
  | .inr b=>b
def B0 {S β:Type}(K:S->aH)(out:β->aH):S⊕β->aH
 | .inl s=>K s
 | .inr b=>out b
def bz {S β:Type}(x:aH)(K:S->aH)(out:β->aH)(P:S->Prop)(r:S⊕β):Prop:=x=B0 K out r/\∀s,r=.inl s->P s
def bz.bif {S β:Type}{K:S->aH}{out:β->aH}{P:S->Prop}{c:Bool}{x y:aH}{a b:S⊕β}(h1:c=true->bz x K out P a)(h2:c=false->bz y K out P b):bz (cond c x y) K out P (cond c a b):=by
 cases c
 ·exact h2 rfl
 ·exact h1 rfl
def bz.yes {S β:Type}{K:S->aH}{out:β->aH}{P:S->Prop}{c:Bool}{x y:aH}{r:S⊕β}(hc:c=true)(h:bz x K out P r):bz (cond c x y) K out P r:=by rw [hc];exact h
def bz.call {S β γ:Type}[RT γ]{K:S->aH}{out:β->aH}{P:S->Prop}{o:Option γ}{b:γ}(h:o=some b){k:γ->aH}{r:S⊕β}(hk:bz (k b) K out P r):bz (call o k) K out P r:=by rw [call_eq h];exact hk
def bz.inl {S β:Type}{K:S->aH}{out:β->aH}{P:S->Prop}{x:aH}{s:S}(hp:P s)(h:x=K s):bz x K out P (.inl s):=⟨h,fun s' e=>by injection e with e;rw [<-e];exact hp⟩
def bz.inr {S β:Type}{K:S->aH}{out:β->aH}{P:S->Prop}{x:aH}{b:β}(h:x=out b):bz x K out P (.inr b):=⟨h,fun s' e=>by cases e⟩
def cj {Pt S β:Type}{step:(Pt->aH)->Pt->aH}{pt:Nat->S->Pt}{n:Nat}{f:Nat->S->S⊕β}{tail:S->β}{out:β->aH}(Inv:Nat->S->Prop)
  (h1:∀(J:Pt->aH) (i:Nat) (s:S),i<n->Inv i s->bz (step J (pt i s)) (fun s'=>J (pt (i+1) s')) out (Inv (i+1)) (f i s))
  (h0:∀s,Inv n s->∃m,step (iter step m) (pt n s)=out (tail s)) {s:S} (hs:Inv 0 s):∃m,iter step m (pt 0 s)=out (eo f tail n 0 s):=by
 have key:∀k i s,i+k=n->Inv i s->∃m,iter step m (pt i s)=out (eo f tail k i s):=by
  intro k
  induction k with
  | zero=>
   intro i s hi hs
   have :i=n:=by omega
   subst this
   obtain ⟨m,hm⟩:=h0 s hs
   exact ⟨m+1,hm⟩
  | succ k ih=>
   intro i s hi hs
   unfold eo
   cases hf:f i s with
   | inl s'=>
    have h:=h1 (fun _=>none) i s (by omega) hs
    obtain ⟨m,hm⟩:=ih (i+1) s' (by omega) (h.2 s' hf)
    refine ⟨m+1,?_⟩
    have h:=(h1 (iter step m) i s (by omega) hs).1
    rw [hf] at h
    exact h.trans hm
   | inr b=>
    refine ⟨1,?_⟩
    have h:=(h1 (iter step 0) i s (by omega) hs).1
    rw [hf] at h
    exact h
 exact key n 0 s (by omega) hs
def gR {β:Type}(out:β->aH){c:Bool}{x y:Nat->aH}{a b:β}(h1:c=true->∃n,x n=out a)(h2:c=false->∃n,y n=out b):∃n,(cond c (x n) (y n))=out (cond c a b):=by
 cases c
 ·exact h2 rfl
 ·exact h1 rfl
def dI {c:Bool}{x y:Nat->aH}{r:aH}(hc:c=true)(h:∃n,x n=r):∃n,(cond c (x n) (y n))=r:=by subst hc;exact h
def dx {c:Bool}{x y:Nat->aH}{r:aH}(hc:c=false)(h:∃n,y n=r):∃n,(cond c (x n) (y n))=r:=by subst hc;exact h
def zi {γ:Type}[RT γ]{o:Option γ}{b:γ}(h:o=some b){k:Nat->γ->aH}{r:aH}(hk:∃n,k n b=r):∃n,call o (k n)=r:=by
 obtain ⟨n,hn⟩:=hk
 exact ⟨n,by rw [call_eq h];exact hn⟩
def au {β:Type}(out:β->aH){c:Bool}{x y:aH}{a b:β}(h1:c=true->x=out a)(h2:c=false->y=out b):(cond c x y)=out (cond c a b):=by
 cases c
 ·exact h2 rfl
 ·exact h1 rfl
def ak {c:Bool}{x y r:aH}(hc:c=true)(h:x=r):(cond c x y)=r:=by subst hc;exact h
def eK {α:Type}{xs:List α}{i:Nat}{z:α}(h:i<xs.length):xs.getD i z=xs[i]:=by simp [List.getD,h]
def iy {α:Type}{xs:List α}{i:Nat}{z:α}(h:¬i<xs.length):xs.getD i z=z:=by simp [List.getD];rw [List.getElem?_eq_none (by omega)];rfl
def gN {xs:List Int}{i:Nat}:je (xs.map bh) i=xs.getD i 0:=by
 unfold je
 by_cases h:i<xs.length
 ·rw [getD_map h,eK h];rfl
 ·rw [iy (by simpa using h),iy h];rfl
def xX {xs:List Bool}{i:Nat}:BC (xs.map wR) i=xs.getD i false:=by
 unfold BC
 by_cases h:i<xs.length
 ·rw [getD_map h,eK h];rfl
 ·rw [iy (by simpa using h),iy h];rfl
def yq {xs:List aB}{i:Nat}:pV (xs.map cF) i=xs.getD i ⟨#[]⟩:=by
 unfold pV
 by_cases h:i<xs.length
 ·rw [getD_map h,eK h];rfl
 ·rw [iy (by simpa using h),iy h];rfl
def qF {α:Type}{f:α->List L}{xs:List (List α)}{i:Nat}:og (xs.map (dG f)) i=(xs.getD i []).map f:=by
 unfold og
 by_cases h:i<xs.length
 ·rw [getD_map h,eK h];rfl
 ·rw [iy (by simpa using h),iy h];rfl
def eW {α β:Type}{row:α->List L}{dec:List L->β}{r:α->β}{z:α}{xs:List α}{i:Nat}(h1:∀x,dec (row x)=r x)(h2:dec []=r z):dec (List.getD (xs.map row) i [])=r (xs.getD i z):=by
 by_cases h:i<xs.length
 ·rw [getD_map h,eK h,h1]
 ·rw [iy (by simpa using h),iy h,h2]
def bL.getD {α:Type}{n:Nat}{p:α->Prop}{xs:List α}(h:bL n p xs){i:Nat}{z:α}(hi:i<xs.length):p (xs.getD i z):=by
 rw [eK hi];exact h.get hi
def uF {S β:Type}{f g:Nat->S->S⊕β}{t u:S->β}{n:Nat}(Inv:Nat->S->Prop)(h1:∀i s,i<n->Inv i s->f i s=g i s/\∀s',f i s=.inl s'->Inv (i+1) s')(h0:∀s,Inv n s->t s=u s){s:S}(hs:Inv 0 s):eo f t n 0 s=eo g u n 0 s:=by
 have key:∀k i s,i+k=n->Inv i s->eo f t k i s=eo g u k i s:=by
  intro k
  induction k with
  | zero=>
   intro i s hi hs
   have :i=n:=by omega
   subst this
   exact h0 s hs
  | succ k ih=>
   intro i s hi hs
   obtain ⟨e,p⟩:=h1 i s (by omega) hs
   unfold eo
   rw [<-e]
   cases hf:f i s with
   | inl s'=>exact ih (i+1) s' (by omega) (p s' hf)
   | inr b=>rfl
 exact key n 0 s (by omega) hs
def ke {α:Type}{xs ys:List α}(z:α){f:Nat->Unit->Unit⊕Bool}{tail:Unit->Bool}(hf:∀i s,i<xs.length->i<ys.length->f i s=bif dW (xs.getD i z) (ys.getD i z) then .inl s else .inr false)(ht:∀s,tail s=true) :
  (cond ((xs.length:Int) != (ys.length:Int)) false (eo f tail xs.length 0 ()))=dW xs ys:=by
 by_cases hl:xs.length=ys.length
 ·rw [hl,bne_self_eq_false,bq,<-hl]
  have key:∀k i,i+k=xs.length->eo f tail k i ()=dW (xs.drop i) (ys.drop i):=by
   intro k
   induction k with
   | zero=>
    intro i hi
    have :i=xs.length:=by omega
    subst this
    unfold eo
    rw [ht,List.drop_eq_nil_of_le (Nat.le_refl _),List.drop_eq_nil_of_le (by omega),fH]
   | succ k ih=>
    intro i hi
    have h1:i<xs.length:=by omega
    have h2:i<ys.length:=by omega
    unfold eo
    rw [hf i () h1 h2,eK h1,eK h2,List.drop_eq_getElem_cons h1,List.drop_eq_getElem_cons h2]
    cases hc:dW xs[i] ys[i]
    ·have :dW (xs[i]::xs.drop (i+1)) (ys[i]::ys.drop (i+1))=false:=by
      rw [lY] at hc ⊢
      intro h;injection h with h;exact hc h
     rw [this];rfl
    ·show eo f tail k (i+1) ()=_
     rw [ih (i+1) (by omega)]
     rw [dc] at hc
     rw [Bool.eq_iff_iff,dc,dc,hc]
     constructor
     ·intro h;rw [h]
     ·intro h;injection h
  simpa using key xs.length 0 (by omega)
 ·have h2:((xs.length:Int) != (ys.length:Int))=true:=by simpa using fun h=>hl (by omega)
  have h3:dW xs ys=false:=lY.2 fun h=>hl (by rw [h])
  rw [h2,h3];rfl
end Go.DM
namespace Go.DM
def cN {c:Bool}{x y r:aH}(hc:c=false)(h:y=r):(cond c x y)=r:=by subst hc;exact h
def kT {a:aH}:either a a=a:=by simp [either]
def ex_eq {β:Type}{out:β->aH}{x:Nat->aH}{a b:β}(h:a=b)(k:∃n,x n=out a):∃n,x n=out b:=h ▸ k
def aZ {γ:Type}[RT γ]{o:Option γ}{k:γ->aH}{r:aH}(b:γ)(h:o=some b)(hk:k b=r):call o k=r:=(call_eq h k).trans hk
def eV {γ:Type}[RT γ]{o:Option γ}{k:Nat->γ->aH}{r:aH}(b:γ)(h:o=some b)(hk:∃n,k n b=r):∃n,call o (k n)=r:=zi h hk
def bz.aZ {S β γ:Type}[RT γ]{K:S->aH}{out:β->aH}{P:S->Prop}{o:Option γ}{k:γ->aH}{r:S⊕β}(b:γ)(h:o=some b)(hk:bz (k b) K out P r):bz (DM.call o k) K out P r:=bz.call h hk
def dQ {α S β:Type}(f:Nat->α->S->S⊕β)(t:S->β):Nat->List α->S->β
 | _,[],s=>t s
 | i,x::xs,s=>match f i x s with
  | .inl s'=>dQ f t (i+1) xs s'
  | .inr b=>b
def dX {α S β:Type}(f:α->S->S⊕β)(t:S->β):List α->S->β
 | [],s=>t s
 | x::xs,s=>match f x s with
  | .inl s'=>dX f t xs s'
  | .inr b=>b
def cR {α S β:Type}{f:Nat->α->S->S⊕β}{t:S->β}{xs:List α}{z:α}{s:S}:eo (fun i s=>f i (xs.getD i z) s) t xs.length 0 s=dQ f t 0 xs s:=by
 have key:∀(k i:Nat) (s:S),i+k=xs.length->eo (fun i s=>f i (xs.getD i z) s) t k i s=dQ f t i (xs.drop i) s:=by
  intro k
  induction k with
  | zero=>
   intro i s hi
   have :i=xs.length:=by omega
   subst this
   rw [List.drop_eq_nil_of_le (Nat.le_refl _)];rfl
  | succ k ih=>
   intro i s hi
   have hlt:i<xs.length:=by omega
   rw [List.drop_eq_getElem_cons hlt]
   unfold eo dQ
   rw [eK hlt]
   cases f i xs[i] s with
   | inl s'=>exact ih (i+1) s' (by omega)
   | inr b=>rfl
 simpa using key xs.length 0 s (by omega)
def oV {α S β:Type}{f:α->S->S⊕β}{t:S->β}:∀{xs:List α} {i:Nat} {s:S},dQ (fun _ x s=>f x s) t i xs s=dX f t xs s
 | [],_,_=>rfl
 | x::xs,i,s=>by
  unfold dQ dX
  cases f x s with
  | inl s'=>exact oV
  | inr b=>rfl
def eG {α S β:Type}{f:α->S->S⊕β}{t:S->β}{xs:List α}{z:α}{s:S}:eo (fun i s=>f (xs.getD i z) s) t xs.length 0 s=dX f t xs s:=
 (cR (f:=fun _ x s=>f x s)).trans oV
def rV {α γ β:Type}{g:α->γ}{t:List γ->β}:∀{xs:List α} {s:List γ},dX (fun x s=>.inl (s++[g x])) t xs s=t (s++xs.map g)
 | [],s=>by simp [dX]
 | x::xs,s=>by
  show dX (fun x s=>Sum.inl (s++[g x])) t xs (s++[g x])=_
  rw [rV];simp
def lX {α γ β:Type}{xs:List α}{g:α->γ}{z:α}{t:List γ->β}{s:List γ}:eo (fun i s=>.inl (s++[g (xs.getD i z)])) t xs.length 0 s=t (s++xs.map g):=
 (eG (f:=fun x s=>.inl (s++[g x]))).trans rV
def qu {α γ β:Type}{g:α->List γ}{t:List γ->β}:∀{xs:List α} {s:List γ},dX (fun x s=>.inl (s++g x)) t xs s=t (s++xs.flatMap g)
 | [],s=>by simp [dX]
 | x::xs,s=>by
  show dX (fun x s=>Sum.inl (s++g x)) t xs (s++g x)=_
  rw [qu];simp
def qE {α γ β:Type}{xs:List α}{g:α->List γ}{z:α}{t:List γ->β}{s:List γ}:eo (fun i s=>.inl (s++g (xs.getD i z))) t xs.length 0 s=t (s++xs.flatMap g):=
 (eG (f:=fun x s=>.inl (s++g x))).trans qu
def lA {α γ:Type}{g:α->List γ}{n:Nat}:∀{xs:List α},(∀x∈xs,(g x).length<=n)->(xs.flatMap g).length<=xs.length*n
 | [],_=>by simp
 | x::xs,h=>by
  have h1:=h x (by simp)
  have h2:=lA (xs:=xs) fun y hy=>h y (by simp [hy])
  simp only [List.flatMap_cons,List.length_append,List.length_cons,Nat.succ_mul]
  omega
def mC {α γ β:Type}{xs:List α}{g:α->γ}{z:α}{t:List γ->β}:eo (fun i s=>.inl (s++[g (xs.getD i z)])) t xs.length 0 []=t (xs.map g):=by
 have:=lX (xs:=xs) (g:=g) (z:=z) (t:=t) (s:=[])
 simpa using this
def hO {α β:Type}{xs:List α}{z:α}{t:List α->β}:eo (fun i s=>.inl (s++[xs.getD i z])) t xs.length 0 []=t xs:=by
 have:=lX (xs:=xs) (g:=fun x=>x) (z:=z) (t:=t) (s:=[])
 simpa using this
def pg {α S β:Type}{f g:α->S->S⊕β}{t u:S->β}{xs:List α}{s:S}(h:∀x∈xs,∀s,f x s=g x s)(h0:∀s,t s=u s):dX f t xs s=dX g u xs s:=by
 induction xs generalizing s with
 | nil=>exact h0 s
 | cons x xs ih=>
  unfold dX
  rw [h x (by simp)]
  cases g x s with
  | inl s'=>exact ih fun y hy=>h y (by simp [hy])
  | inr b=>rfl
def lR {α β:Type}{p:α->Bool}{b c:β}:∀{xs:List α} {s:Unit},dX (fun x s=>bif p x then .inr b else .inl s) (fun _=>c) xs s=bif xs.any p then b else c
 | [],_=>rfl
 | x::xs,s=>by
  unfold dX
  rw [List.any_cons]
  cases p x
  ·exact lR
  ·rfl
def iF {α:Type}(p:α->Bool):Nat->List α->Int
 | _,[]=>-1
 | i,x::xs=>bif p x then (i:Int) else iF p (i+1) xs
def gv {α:Type}{p:α->Bool}:∀{xs:List α} {i:Nat} {s:Unit},dQ (fun i x s=>bif p x then .inr (i:Int) else .inl s) (fun _=>(-1:Int)) i xs s=iF p i xs
 | [],_,_=>rfl
 | x::xs,i,s=>by
  unfold dQ iF
  cases p x
  ·exact gv
  ·rfl
def sx {α:Type}{p:α->Bool}:∀{xs:List α} {i:Nat},decide (iF p i xs<0)=!(xs.any p)
 | [],i=>rfl
 | x::xs,i=>by
  unfold iF
  rw [List.any_cons]
  cases p x
  ·exact sx
  ·simp
end Go.DM
namespace Go.DM
def iL (s:aB):List Int:=s.data.toList.map fun b=>(b.toNat:Int)
def vF (s:aB):ig s=(iL s).map bh:=by simp [ig,iL,bh]
def gL (s:aB):(iL s).length=s.size:=by simp [iL]
def rA (s:aB):(ig s).length=s.size:=by simp [ig]
def jl {f:Nat->Unit->Unit⊕Bool}{t:Unit->Bool}{n:Nat}(P:Nat->Prop)(h1:∀i,i<n->P i->f i ()=.inl ())(h2:∀i,i<n->¬P i->f i ()=.inr false):eo f t n 0 ()=true↔(∀i,i<n->P i)/\t ()=true:=by
 have key:∀k i,i+k=n->(eo f t k i ()=true↔(∀j,i<=j->j<n->P j)/\t ()=true):=by
  intro k
  induction k with
  | zero=>
   intro i hi
   constructor
   ·intro h;exact ⟨fun j h1 h2=>by omega,h⟩
   ·intro h;exact h.2
  | succ k ih=>
   intro i hi
   unfold eo
   by_cases hp:P i
   ·rw [h1 i (by omega) hp]
    show eo f t k (i+1) ()=true↔_
    rw [ih (i+1) (by omega)]
    constructor
    ·intro ⟨h,ht⟩
     refine ⟨fun j h1 h2=>?_,ht⟩
     by_cases hj:j=i
     ·subst hj;exact hp
     ·exact h j (by omega) h2
    ·intro ⟨h,ht⟩;exact ⟨fun j h1 h2=>h j (by omega) h2,ht⟩
   ·rw [h2 i (by omega) hp]
    constructor
    ·intro h;cases h
    ·intro ⟨h,_⟩;exact (hp (h i (Nat.le_refl _) (by omega))).elim
 rw [key n 0 (by omega)]
 simp
end Go.DM
namespace Go.DM
def qQ {S β:Type}{f:Nat->S->S⊕β}{t:S->β}{k i:Nat}{s:S}:eo f t (k+1) i s=match f i s with | .inl s'=>eo f t k (i+1) s' | .inr b=>b:=rfl
def dK {Pt:Type}{step:(Pt->aH)->Pt->aH}{p q:Pt}{r:aH}(h:q=p)(k:∃n,iter step n p=r):∃n,iter step n q=r:=h ▸ k
def uY {Pt S β:Type}{step:(Pt->aH)->Pt->aH}{pt:Nat->S->Pt}{n:Nat}{f:Nat->S->S⊕β}{tail:S->β}{out:β->aH}(Inv:Nat->S->Prop)
  (h1:∀(i:Nat) (s:S),i<n->Inv i s->∀K:S⊕β->aH,(∀s',Inv (i+1) s'->∃m,iter step m (pt (i+1) s')=K (.inl s'))->(∀b,K (.inr b)=out b)->∃m,step (iter step m) (pt i s)=K (f i s))
  (h0:∀s,Inv n s->∃m,step (iter step m) (pt n s)=out (tail s)) {s:S} (hs:Inv 0 s):∃m,iter step m (pt 0 s)=out (eo f tail n 0 s):=by
 have key:∀k i s,i+k=n->Inv i s->∃m,iter step m (pt i s)=out (eo f tail k i s):=by
  intro k
  induction k with
  | zero=>
   intro i s hi hs
   have :i=n:=by omega
   subst this
   obtain ⟨m,hm⟩:=h0 s hs
   exact ⟨m+1,hm⟩
  | succ k ih=>
   intro i s hi hs
   obtain ⟨m,hm⟩:=h1 i s (by omega) hs (fun r=>out (match r with | .inl s'=>eo f tail k (i+1) s' | .inr b=>b)) (fun s' hs'=>ih (i+1) s' (by omega) hs') (fun b=>rfl)
   refine ⟨m+1,hm.trans ?_⟩
   rw [qQ]
 exact key n 0 s (by omega) hs
def uP {α:Type}{f:Nat->α->Unit->Unit⊕Int}(h:∀i x s b,f i x s=.inr b->b=(i:Int)):∀(xs:List α) (i:Nat) (s:Unit),-1<=dQ f (fun _=>(-1:Int)) i xs s/\dQ f (fun _=>(-1:Int)) i xs s<(i:Int)+xs.length
 | [],i,s=>by simp only [dQ,List.length_nil];omega
 | x::xs,i,s=>by
  unfold dQ
  cases hf:f i x s with
  | inl s'=>
   have:=uP h xs (i+1) s'
   simp only [List.length_cons]
   omega
  | inr b=>
   have:=h i x s b hf
   simp only [List.length_cons]
   omega
end Go.DM
namespace Go.DM
def fD {α:Type}{f:Nat->α->Unit->Unit⊕Int}(h:∀i x s b,f i x s=.inr b->b=(i:Int))(xs:List α)(s:Unit):-1<=dQ f (fun _=>(-1:Int)) 0 xs s/\dQ f (fun _=>(-1:Int)) 0 xs s<(xs.length:Int):=by
 have:=uP h xs 0 s
 simpa using this
def qj {α:Type}{p:α->Bool}{xs:List α}:decide (iF p 0 xs>=0)=xs.any p:=by
 have:=sx (p:=p) (xs:=xs) (i:=0)
 cases h:xs.any p<;>rw [h] at this<;>simp at this ⊢<;>omega
end Go.DM
namespace Go.DM
def lz {α S β:Type}{f:Nat->α->S->S⊕β}{c:β}(h:∀i x s b,f i x s=.inr b->b=c):∀(xs:List α) (i:Nat) (s:S),dQ f (fun _=>c) i xs s=c
 | [],_,_=>rfl
 | x::xs,i,s=>by
  unfold dQ
  cases hf:f i x s with
  | inl s'=>exact lz h xs _ _
  | inr b=>exact h _ _ _ _ hf
def oJ {S β:Type}{f:Nat->S->S⊕β}{c:β}(h:∀i s b,f i s=.inr b->b=c):∀(k i:Nat) (s:S),eo f (fun _=>c) k i s=c
 | 0,_,_=>rfl
 | k+1,i,s=>by
  rw [qQ]
  cases hf:f i s with
  | inl s'=>exact oJ h k _ _
  | inr b=>exact h _ _ _ hf
end Go.DM
namespace Go.DM
def kR {α:Type}{f:Nat->α->Unit->Unit⊕Int}{p:α->Bool}(h:∀i x s,f i x s=bif p x then .inr (i:Int) else .inl ()):∀(xs:List α) (i:Nat) (s:Unit),dQ f (fun _=>(-1:Int)) i xs s=iF p i xs
 | [],_,_=>rfl
 | x::xs,i,s=>by
  unfold dQ iF
  rw [h]
  cases p x
  ·exact kR h xs _ _
  ·rfl
def AW {b c:Bool}:(cond (!b) false c)=(b&&c):=by cases b<;>rfl
def zW {b c:Bool}:(cond b c false)=(b&&c):=by cases b<;>rfl
end Go.DM
namespace Go.DM
def mJ {α β:Type}{f:α->Unit->Unit⊕β}{p:α->Bool}{b c:β}(h:∀x s,f x s=bif p x then .inr b else .inl ()):∀(xs:List α) (s:Unit),dX f (fun _=>c) xs s=bif xs.any p then b else c
 | [],_=>rfl
 | x::xs,s=>by
  unfold dX
  rw [List.any_cons,h]
  cases p x
  ·exact mJ h xs ()
  ·rfl
def rU {α:Type}{f:Nat->α->Unit->Unit⊕Int}{z:α}(h:∀i x s b,f i x s=.inr b->b=(i:Int)){xs:List α}(hn:dQ f (fun _=>(-1:Int)) 0 xs ()<0):∀i,i<xs.length->f i (xs.getD i z) ()=.inl ():=by
 have key:∀(ys:List α) (k:Nat),dQ f (fun _=>(-1:Int)) k ys ()<0->∀i,i<ys.length->f (k+i) (ys.getD i z) ()=.inl ():=by
  intro ys
  induction ys with
  | nil=>intro k _ i hi;simp at hi
  | cons y ys ih=>
   intro k hk i hi
   unfold dQ at hk
   cases hf:f k y () with
   | inr b=>
    rw [hf] at hk
    have:=h k y () b hf
    simp only at hk
    omega
   | inl s'=>
    rw [hf] at hk
    cases i with
    | zero=>simpa using hf
    | succ i=>
     have:=ih (k+1) hk i (by simpa using hi)
     rw [show k+1+i=k+(i+1) by omega] at this
     simpa using this
 intro i hi
 have:=key xs 0 hn i hi
 simpa using this
end Go.DM
namespace Go.DM
end Go.DM
namespace Go.DM
class Row (α:Type) where
 row:α->List L
 Be:∀{a b:α},row a=row b->a=b
class Im (α:Type) (β:outParam Type) where
 im:α->β
 inj:∀{a b:α},im a=im b->a=b
instance :Row Int:=⟨bh,lF⟩
instance :Row Bool:=⟨wR,yA⟩
instance :Row aB:=⟨cF,uX⟩
instance {α:Type} [Row α]:Row (List α):=⟨dG Row.row,tZ Row.Be⟩
instance :Im Int Int:=⟨fun x=>x,fun h=>h⟩
instance :Im Bool Bool:=⟨fun x=>x,fun h=>h⟩
instance :Im aB aB:=⟨fun x=>x,fun h=>h⟩
instance :Im Unit Unit:=⟨fun x=>x,fun h=>h⟩
instance {α:Type} [Row α]:Im (List α) (aC):=⟨fun x=>x.map Row.row,fun h=>map_inj Row.Be h⟩
instance {α α' β β':Type} [Im α α'] [Im β β']:Im (α×β) (α'×β'):=⟨fun x=>(Im.im x.1,Im.im x.2),fun h=>Prod.ext (Im.inj (congrArg (fun x=>x.1) h)) (Im.inj (congrArg (fun x=>x.2) h))⟩
def u2 {a b r:Type}(f:a->b->r)(x:a×b):r:=f x.1 x.2
def u3 {a b c r:Type}(f:a->b->c->r)(x:a×b×c):r:=f x.1 x.2.1 x.2.2
def u4 {a b c d r:Type}(f:a->b->c->d->r)(x:a×b×c×d):r:=f x.1 x.2.1 x.2.2.1 x.2.2.2
def u5 {a b c d e r:Type}(f:a->b->c->d->e->r)(x:a×b×c×d×e):r:=f x.1 x.2.1 x.2.2.1 x.2.2.2.1 x.2.2.2.2
def u6 {a b c d e g r:Type}(f:a->b->c->d->e->g->r)(x:a×b×c×d×e×g):r:=f x.1 x.2.1 x.2.2.1 x.2.2.2.1 x.2.2.2.2.1 x.2.2.2.2.2
def u7 {a b c d e g h r:Type}(f:a->b->c->d->e->g->h->r)(x:a×b×c×d×e×g×h):r:=f x.1 x.2.1 x.2.2.1 x.2.2.2.1 x.2.2.2.2.1 x.2.2.2.2.2.1 x.2.2.2.2.2.2
def p2 {a b:Type}(f:a->b->Prop)(x:a×b):Prop:=f x.1 x.2
def p3 {a b c:Type}(f:a->b->c->Prop)(x:a×b×c):Prop:=f x.1 x.2.1 x.2.2
def p4 {a b c d:Type}(f:a->b->c->d->Prop)(x:a×b×c×d):Prop:=f x.1 x.2.1 x.2.2.1 x.2.2.2
def p5 {a b c d e:Type}(f:a->b->c->d->e->Prop)(x:a×b×c×d×e):Prop:=f x.1 x.2.1 x.2.2.1 x.2.2.2.1 x.2.2.2.2
def p6 {a b c d e g:Type}(f:a->b->c->d->e->g->Prop)(x:a×b×c×d×e×g):Prop:=f x.1 x.2.1 x.2.2.1 x.2.2.2.1 x.2.2.2.2.1 x.2.2.2.2.2
section
variable {A A' B B':Type} [Im A A'] [Im B B'] {g:A->Prop} {m:A->B}
def RR (g:A->Prop)(m:A->B)(x:A'):Option B':=ofM Im.im g (fun a=>Im.im (m a)) x
theorem aN {a:A}(h:g a):RR g m (Im.im a)=some (Im.im (m a)):=AJ (fun _ _ h=>Im.inj h) h
def CN [RT B'](ps:List fY)(r:RP)(acc:List L->A')(R:A'->Option B'):fQ:=⟨ps,r,fun ls=>(R (acc ls)).map RT.enc⟩
theorem VP [RT B']{X:Type}{P:Program}{T:List (Nat×TI)}{G:List (Nat×fQ)}{nt:Nat}{f:FuncId}{fn:Func}{ps:List fY}{r:RP}{acc:List L->A'}{accr:List L->X}{live:Nat->Live}{run:Nat->X->aH}
  (hm:P.follows .mixedOrders=true) (hT:eH P T=true) (hG:gu P (dA T) G) (hf:P.funcs[f]?=some fn) (hb:qU fn (CN ps r acc (RR g m)) nt=true)
  (hrun:∀n ls,eJ { T:=assoc T,G:=dw G,nt:=nt } live fn r n (cV ps ls)=run n (accr ls))
  (hok:∀ls a,pG (dA T).cells ps ls->acc ls=Im.im a->g a->∃n,run n (accr ls)=ret (Im.im (m a))):Valid P (dA T) f (CN ps r acc (RR g m)):=
 valid hm hT hG hf hb live fun ls q hl h=>by
  obtain ⟨v,hv,hq⟩:=map_some h
  obtain ⟨a,hg,e,hm⟩:=jW hv
  obtain ⟨n,hn⟩:=hok ls a hl e.symm hg
  exact ⟨n,(hrun n ls).trans (hn.trans (by rw [<-hq,<-hm];rfl))⟩
theorem VV [RT B']{P:Program}{T:List (Nat×TI)}{G:List (Nat×fQ)}{nt:Nat}{f:FuncId}{fn:Func}{ps:List fY}{r:RP}{acc:List L->A'}{live:Nat->Live}{run:Nat->A'->aH}
  (hm:P.follows .mixedOrders=true) (hT:eH P T=true) (hG:gu P (dA T) G) (hf:P.funcs[f]?=some fn) (hb:qU fn (CN ps r acc (RR g m)) nt=true)
  (hrun:∀n ls,eJ { T:=assoc T,G:=dw G,nt:=nt } live fn r n (cV ps ls)=run n (acc ls))
  (hok:∀ls a,pG (dA T).cells ps ls->acc ls=Im.im a->g a->∃n,run n (Im.im a)=ret (Im.im (m a))):Valid P (dA T) f (CN ps r acc (RR g m)):=
 VP hm hT hG hf hb hrun fun ls a hl e hg=>by rw [e];exact hok ls a hl e hg
theorem VS [RT B']{P:Program}{T:List (Nat×TI)}{G:List (Nat×fQ)}{S:List (Nat×gD)}{nt:Nat}{f:FuncId}{fn:Func}{ps:List fY}{r:RP}{acc:List L->A'}{live:Nat->Live}{run:Nat->A'->aH}
  (hm:P.follows .mixedOrders=true) (hT:eH P T=true) (hG:gu P (dA T) G) (hS:jQ P (dA T) S) (hf:P.funcs[f]?=some fn) (hb:qU fn (CN ps r acc (RR g m)) nt=true)
  (hrun:∀n ls,eJ { T:=assoc T,G:=dw G,nt:=nt,M:=fP S } live fn r n (cV ps ls)=run n (acc ls))
  (hok:∀ls a,pG (dA T).cells ps ls->acc ls=Im.im a->g a->∃n,run n (Im.im a)=ret (Im.im (m a))):Valid P (dA T) f (CN ps r acc (RR g m)):=
 sC hm hT hG hS hf hb live fun ls q hl h=>by
  obtain ⟨v,hv,hq⟩:=map_some h
  obtain ⟨a,hg,e,hm⟩:=jW hv
  obtain ⟨n,hn⟩:=hok ls a hl e.symm hg
  exact ⟨n,(hrun n ls).trans (by rw [<-e];exact hn.trans (by rw [<-hq,<-hm];rfl))⟩
theorem VI [RT B']{P:Program}{T:List (Nat×TI)}{G:List (Nat×fQ)}{S:List (Nat×gD)}{I:List (Nat×kC)}{nt:Nat}{mt:Bool}{J:List Nat}{f:FuncId}{fn:Func}{ps:List fY}{r:RP}{acc:List L->A'}{live:Nat->Live}{run:Nat->A'->aH}
  (hm:P.follows .mixedOrders=true) (hT:eH P T=true) (hG:gu P (dA T) G) (hS:jQ P (dA T) S) (hI:ox P (dA T) 0 I) (hf:P.funcs[f]?=some fn) (hb:qU fn (CN ps r acc (RR g m)) nt=true)
  (hrun:∀n ls,eJ { T:=assoc T,G:=dw G,nt:=nt,M:=fP S,mt:=mt,I:=mY I,J:=J } live fn r n (cV ps ls)=run n (acc ls))
  (hok:∀ls a,pG (dA T).cells ps ls->acc ls=Im.im a->g a->∃n,run n (Im.im a)=ret (Im.im (m a))):Valid P (dA T) f (CN ps r acc (RR g m)):=
 wg hm hT hG hS hI hf hb live fun ls q hl h=>by
  obtain ⟨v,hv,hq⟩:=map_some h
  obtain ⟨a,hg,e,hm⟩:=jW hv
  obtain ⟨n,hn⟩:=hok ls a hl e.symm hg
  exact ⟨n,(hrun n ls).trans (by rw [<-e];exact hn.trans (by rw [<-hq,<-hm];rfl))⟩
theorem VT [RT B']{P:Program}{T:List (Nat×TI)}{G:List (Nat×fQ)}{S:List (Nat×gD)}{nt:Nat}{f:FuncId}{fn:Func}{ps:List fY}{r:RP}{acc:List L->A'}{live:Nat->Live}{run:Nat->A'->aH}
  (hm:P.follows .mixedOrders=true) (hT:eH P T=true) (hG:gu P (dA T) G) (hS:jQ P (dA T) S) (hf:P.funcs[f]?=some fn) (hb:qU fn (CN ps r acc (RR g m)) nt=true)
  (hrun:∀n ls,eJ { T:=assoc T,G:=dw G,nt:=nt,M:=fP S,mt:=true } live fn r n (cV ps ls)=run n (acc ls))
  (hok:∀ls a,pG (dA T).cells ps ls->acc ls=Im.im a->g a->∃n,run n (Im.im a)=ret (Im.im (m a))):Valid P (dA T) f (CN ps r acc (RR g m)):=
 sC hm hT hG hS hf hb live fun ls q hl h=>by
  obtain ⟨v,hv,hq⟩:=map_some h
  obtain ⟨a,hg,e,hm⟩:=jW hv
  obtain ⟨n,hn⟩:=hok ls a hl e.symm hg
  exact ⟨n,(hrun n ls).trans (by rw [<-e];exact hn.trans (by rw [<-hq,<-hm];rfl))⟩
def MN [RT B'](ps:List (Bool×List K))(acc:List L->A')(R:A'->Option B'):gD:=⟨ps,fun ls=>(R (acc ls)).map RT.enc⟩
theorem MV [RT B']{P:Program}{T:List (Nat×TI)}{G:List (Nat×fQ)}{S:List (Nat×gD)}{nt:Nat}{f:FuncId}{fn:Func}{ps:List (Bool×List K)}{acc:List L->A'}{live:Nat->Live}{run:Nat->A'->aH}
  (hm:P.follows .mixedOrders=true) (hT:eH P T=true) (hG:gu P (dA T) G) (hS:jQ P (dA T) S) (hf:P.funcs[f]?=some fn) (hb:Ad fn (MN ps acc (RR g m)) nt=true)
  (hrun:∀n ls,eJ { T:=assoc T,G:=dw G,nt:=nt,M:=fP S,np:=(kH ps).length,mt:=true } live fn (.nH (kH ps)) n (gB ps ls)=run n (acc ls))
  (hok:∀ls a,zx (dA T).cells ps ls->acc ls=Im.im a->g a->∃n,run n (Im.im a)=ret (Im.im (m a))):eR P (dA T) f (MN ps acc (RR g m)):=
 An hm hT hG hS hf hb live fun ls q hl h=>by
  obtain ⟨v,hv,hq⟩:=map_some h
  obtain ⟨a,hg,e,hm⟩:=jW hv
  obtain ⟨n,hn⟩:=hok ls a hl e.symm hg
  exact ⟨n,(hrun n ls).trans (by rw [<-e];exact hn.trans (by rw [<-hq,<-hm];rfl))⟩
theorem gO (n:Nat):(Nat.beq n n&&true)=true:=by rw [Nat.beq_refl];rfl
end
def S0:(∀(α β:Type) (f:α->β) (l:List α),(l.map f).length=l.length)/\(∀n:Nat,Int.toNat (n:Int)=n)/\(∀s:aB,ig s=(iL s).map bh)/\(∀(xs:List Int) i,je (xs.map bh) i=xs.getD i 0)/\
  (∀(xs:List Bool) i,BC (xs.map wR) i=xs.getD i false)/\(∀(xs:List aB) i,pV (xs.map cF) i=xs.getD i ⟨#[]⟩)/\(∀(α:Type) (f:α->List L) (xs:List (List α)) i,og (xs.map (dG f)) i=(xs.getD i []).map f):=
 ⟨fun _ _ _ _=>List.length_map ..,cB,vF,fun _ _=>gN,fun _ _=>xX,fun _ _=>yq,fun _ _ _ _=>qF⟩
def MP:(∀(α β:Type) (f:α->β) (a b:List α),(a++b).map f=a.map f++b.map f)/\(∀(α β:Type) (f:α->β) (a:α) (b:List α),(a::b).map f=f a::b.map f)/\(∀(α β:Type) (f:α->β),[].map f=[])/\
  (∀(α:Type) (a:α) (b c:List α),(a::b)++c=a::(b++c))/\(∀(α:Type) (c:List α),[]++c=c)/\(∀n,bh n=[.int n])/\(∀n,wR n=[.bool n])/\(∀n,cF n=[.str n])/\(∀(α:Type) (f:α->List L) (c:List α),dG f c=[.sl (c.map f)])/\
  (∀(α β:Type) (f:α->β) (l:List α) (i:Nat) (a:α),(l.set i a).map f=(l.map f).set i (f a))/\(∀(α β:Type) (f:α->β) (l:List α) (i:Nat),(l.take i).map f=(l.map f).take i)/\(∀(α β:Type) (f:α->β) (l:List α) (i:Nat),(l.drop i).map f=(l.map f).drop i):=
 ⟨fun _ _ _ _ _=>List.map_append ..,fun _ _ _ _ _=>rfl,fun _ _ _=>rfl,fun _ _ _ _=>rfl,fun _ _=>rfl,fun _=>rfl,fun _=>rfl,fun _=>rfl,fun _ _ _=>rfl,fun _ _ _ _ _ _=>List.map_set ..,fun _ _ _ _ _=>List.map_take ..,fun _ _ _ _ _=>List.map_drop ..⟩
def LN:(∀(a:Nat) (l:List Nat),(a::l).sum=a+l.sum)/\(([]:List Nat).sum=0)/\(∀(α β:Type) (f:α->β) (a:α) (b:List α),(a::b).map f=f a::b.map f)/\(∀(α β:Type) (f:α->β),[].map f=[])/\(∀s,(iL s).length=s.size)/\(∀s,(ig s).length=s.size)/\
  (∀(α:Type) (a b:List α),(a++b).length=a.length+b.length)/\(∀(α:Type) (a:α) (b:List α),(a::b).length=b.length+1)/\(∀(α:Type),([]:List α).length=0)/\(∀(α β:Type) (f:α->β) (l:List α),(l.map f).length=l.length)/\
  (∀(α:Type) (l:List α) (i:Nat) (a:α),(l.set i a).length=l.length)/\(∀(α:Type) (n:Nat) (a:α),(List.replicate n a).length=n)/\(∀(α:Type) (l:List α) (i:Nat),(l.take i).length=min i l.length)/\(∀(α:Type) (l:List α) (i:Nat),(l.drop i).length=l.length - i):=
 ⟨fun _ _=>List.sum_cons,rfl,fun _ _ _ _ _=>rfl,fun _ _ _=>rfl,gL,rA,fun _ _ _=>List.length_append ..,fun _ _ _=>rfl,fun _=>rfl,fun _ _ _ _=>List.length_map ..,fun _ _ _ _=>List.length_set ..,fun _ _ _=>List.length_replicate ..,fun _ _ _=>List.length_take ..,fun _ _ _=>List.length_drop ..⟩
def DC:(∀(α:Type) [BEq α] [LawfulBEq α] (a b:α),((a != b)=false)=(a=b))/\(∀(α:Type) [BEq α] [LawfulBEq α] (a b:α),((a != b)=true)=¬(a=b))/\(∀(α:Type) [BEq α] [LawfulBEq α] (a b:α),((a==b)=true)=(a=b))/\(∀(α:Type) [BEq α] [LawfulBEq α] (a b:α),((a==b)=false)=¬(a=b))/\
  (∀b:Bool,((!b)=true)=(b=false))/\(∀b:Bool,((!b)=false)=(b=true))/\(∀(p:Prop) [Decidable p],(decide p=true)=p)/\(∀(p:Prop) [Decidable p],(decide p=false)=¬p):=
 ⟨fun _ _ _ _ _=>by simp,fun _ _ _ _ _=>by simp,fun _ _ _ _ _=>by simp,fun _ _ _ _ _=>by simp,fun b=>by simp,fun b=>by simp,fun p _=>by simp,fun p _=>by simp⟩
def A7 {b c:Bool}:(cond b false c)=(!b&&c):=by cases b<;>rfl
def wi (n:Int)(h:-9223372036854775808<=n/\n<=9223372036854775807):IntKind.i64.wrap n=n:=Go.IntWalk.i64_in n h
def lp {α S β:Type}{f g:Nat->α->S->S⊕β}{t u:S->β}:∀{xs:List α} {i:Nat} {s:S},(∀i,∀x∈xs,∀s,f i x s=g i x s)->(∀s,t s=u s)->dQ f t i xs s=dQ g u i xs s
 | [],_,s,_,h0=>h0 s
 | x::xs,i,s,h,h0=>by
  unfold dQ
  rw [h i x (by simp) s]
  cases g i x s with
  | inl s'=>exact lp (fun i y hy=>h i y (by simp [hy])) h0
  | inr b=>rfl
end Go.DM
namespace Go.DM
def eB (n:Int):Prop:=-9223372036854775808<=n/\n<=9223372036854775807
def cA (n:Int):eB (IntKind.i64.wrap n):=by rw [IntKind.wrap_i64];unfold eB;omega
end Go.DM
namespace Go.DM
def iW {α β:Type}(f:α->Int->Int×β):List α->Int->Int×List β
 | [],k=>(k,[])
 | x::xs,k=>((iW f xs (f x k).1).1,(f x k).2::(iW f xs (f x k).1).2)
def jf {α β:Type}{f:α->Int->Int×β}{I:Int->Prop}(h:∀x k,I k->I (f x k).1):∀{xs:List α} {k:Int},I k->I (iW f xs k).1
 | [],_,hk=>hk
 | x::xs,k,hk=>jf h (xs:=xs) (h x k hk)
def ru {α:Type}{c:List α}{i:Nat}{y:α}:(c.set i y).drop (i+1)=c.drop (i+1):=by
 apply List.ext_getElem?
 intro j
 rw [List.getElem?_drop,List.getElem?_drop,List.getElem?_set,if_neg (by omega)]
def gf {Pt α:Type}{step:(Pt->aH)->Pt->aH}{pt:Nat->Int->List α->Pt}{el:α->Int->Int×α}{out:Int×List α->aH}{xs:List α}(z:α)(I:Int->Prop)(hI:∀x k,I k->I (el x k).1)
  (h1:∀(J:Pt->aH) (i:Nat) (k:Int) (c:List α),i<c.length->c.length=xs.length->I k->step J (pt i k c)=J (pt (i+1) (el (c.getD i z) k).1 (c.set i (el (c.getD i z) k).2)))
  (h0:∀(J:Pt->aH) (k:Int) (c:List α),c.length=xs.length->step J (pt c.length k c)=out (k,c)) {k:Int} (hk:I k):∃m,iter step m (pt 0 k xs)=out (iW el xs k):=by
 have key:∀(n i:Nat) (c:List α) (k:Int),i+n=c.length->c.length=xs.length->I k->∃m,iter step m (pt i k c)=out ((iW el (c.drop i) k).1,c.take i++(iW el (c.drop i) k).2):=by
  intro n
  induction n with
  | zero=>
   intro i c k hi hc hk
   have :i=c.length:=by omega
   subst this
   refine ⟨1,(h0 _ k c hc).trans ?_⟩
   rw [List.drop_eq_nil_of_le (Nat.le_refl _),List.take_of_length_le (Nat.le_refl _)]
   simp [iW]
  | succ n ih=>
   intro i c k hi hc hk
   have hlt:i<c.length:=by omega
   obtain ⟨m,hm⟩:=ih (i+1) (c.set i (el (c.getD i z) k).2) (el (c.getD i z) k).1 (by simp;omega) (by simp [hc]) (hI _ _ hk)
   refine ⟨m+1,(h1 _ i k c hlt hc hk).trans (hm.trans ?_)⟩
   rw [ru,take_set hlt,List.drop_eq_getElem_cons hlt,eK hlt]
   simp [iW]
 have:=key xs.length 0 xs k (by omega) rfl hk
 simpa using this
def jg {α:Type}(f:α->Int->Option Int):List α->Int->Int
 | [],k=>k
 | x::xs,k=>match f x k with
  | some k'=>jg f xs k'
  | none=>-1
def yL:Option Int->(Int->aH)->aH
 | none,_=>ret (-1:Int)
 | some k,K=>K k
def bN {c:Bool}{x y:aH}{r:Option Int}{K:Int->aH}(h1:x=ret (-1:Int))(h2:y=yL r K):(cond c x y)=yL (cond c none r) K:=by
 cases c
 ·exact h2
 ·exact h1
def iY {Pt α:Type}{step:(Pt->aH)->Pt->aH}{pt:Nat->Int->Pt}{f:α->Int->Option Int}{xs:List α}(z:α)(I:Int->Prop)(hI:∀x k k',I k->f x k=some k'->I k')
  (h1:∀(J:Pt->aH) (i:Nat) (k:Int),i<xs.length->I k->step J (pt i k)=yL (f (xs.getD i z) k) (fun k'=>J (pt (i+1) k')))
  (h0:∀(J:Pt->aH) (k:Int),step J (pt xs.length k)=ret k) {k:Int} (hk:I k):∃m,iter step m (pt 0 k)=ret (jg f xs k):=by
 have key:∀(n i:Nat) (k:Int),i+n=xs.length->I k->∃m,iter step m (pt i k)=ret (jg f (xs.drop i) k):=by
  intro n
  induction n with
  | zero=>
   intro i k hi hk
   have :i=xs.length:=by omega
   subst this
   refine ⟨1,(h0 _ k).trans ?_⟩
   rw [List.drop_eq_nil_of_le (Nat.le_refl _)];rfl
  | succ n ih=>
   intro i k hi hk
   have hlt:i<xs.length:=by omega
   rw [List.drop_eq_getElem_cons hlt]
   have h:=fun J=>h1 J i k hlt hk
   rw [eK hlt] at h
   unfold jg
   cases hf:f xs[i] k with
   | none=>refine ⟨1,(h _).trans ?_⟩;rw [hf];rfl
   | some k'=>
    obtain ⟨m,hm⟩:=ih (i+1) k' (by omega) (hI _ _ _ hk hf)
    refine ⟨m+1,(h _).trans ?_⟩
    rw [hf];exact hm
 have:=key xs.length 0 k (by omega) hk
 simpa using this
def bJ {c:Bool}{r:Option Int}{k:Int}(h:(cond c none r)=some k):r=some k:=by
 cases c
 ·exact h
 ·cases h
def oF:Option Int->Int
 | none=>-1
 | some k=>k
def gC {c:Bool}{x y:aH}{r:Option Int}(h1:x=ret (-1:Int))(h2:y=ret (oF r)):(cond c x y)=ret (oF (cond c none r)):=by
 cases c
 ·exact h2
 ·exact h1
def kI {α:Type}{f:α->Int->Option Int}{I:Int->Prop}(hI:∀x k k',I k->f x k=some k'->I k')(hn:I (-1)):∀{xs:List α} {k:Int},I k->I (jg f xs k)
 | [],_,hk=>hk
 | x::xs,k,hk=>by
  unfold jg
  cases hf:f x k with
  | none=>exact hn
  | some k'=>exact kI hI hn (hI _ _ _ hk hf)
def gx {α:Type}{el:α->Int->Int×α}{cnt:α->Nat}(h:∀x k,0<=k->k+(cnt x:Int)<=4611686018427387904->(el x k).1=k+cnt x) :
  ∀(xs:List α) (k:Int),0<=k->k+((xs.map cnt).sum:Int)<=4611686018427387904->(iW el xs k).1=k+(xs.map cnt).sum
 | [],k,_,_=>by simp [iW]
 | x::xs,k,h0,hb=>by
  simp only [List.map_cons,List.sum_cons,Int.natCast_add] at hb ⊢
  have e1:=h x k h0 (by omega)
  have e3:=gx h xs (k+cnt x) (by omega) (by omega)
  simp only [iW,e1]
  rw [e3];omega
def ij {α:Type}{el:α->Int->Int×α}{f:α->Int->Option Int}{cnt:α->Nat}(h:∀x k,0<=k->k+(cnt x:Int)<=4611686018427387904->(el x k).1=k+cnt x)
  (h2:∀x k,0<=k->k+(cnt x:Int)<=4611686018427387904->f (el x k).2 k=some (k+cnt x)) :
  ∀(xs:List α) (k:Int),0<=k->k+((xs.map cnt).sum:Int)<=4611686018427387904->jg f (iW el xs k).2 k=k+(xs.map cnt).sum
 | [],k,_,_=>by simp [iW,jg]
 | x::xs,k,h0,hb=>by
  simp only [List.map_cons,List.sum_cons,Int.natCast_add] at hb ⊢
  have e1:=h x k h0 (by omega)
  have e2:=h2 x k h0 (by omega)
  have e4:=ij h h2 xs (k+cnt x) (by omega) (by omega)
  simp only [iW,jg,e1,e2]
  rw [e4];omega
def jo {α:Type}{cnt f:α->Nat}(h:∀x,cnt x<=60+60*f x):∀xs:List α,(xs.map cnt).sum<=60*dO f xs
 | []=>by simp
 | x::xs=>by
  have h1:=h x
  have h2:=jo h xs
  unfold dO at h2 ⊢
  simp only [List.map_cons,List.sum_cons,List.length_cons]
  omega
def nR {α:Type}{f:α->Nat}{xs:List α}{i:Nat}{z:α}(h:i<xs.length):f (xs.getD i z)<=dO f xs:=by
 rw [eK h]
 have:=sW (f:=f) (List.getElem_mem h)
 unfold dO
 omega
def nC {α:Type}{f:α->Nat}{xs:List α}{i:Nat}{z:α}(hz:f z=0):f (xs.getD i z)<=dO f xs:=by
 by_cases h:i<xs.length
 ·exact nR h
 ·rw [List.getD_eq_getElem?_getD,List.getElem?_eq_none (by omega)]
  show f z<=_
  omega
def wq {α:Type}{f:α->Nat}:∀(xs:List α) (i:Nat) (y:α),dO f (xs.set i y)<=dO f xs+(f y+1)
 | [],_,_=>by simp [dO]
 | x::xs,0,y=>by simp [dO];omega
 | x::xs,i+1,y=>by
  have:=wq (f:=f) xs i y
  simp [dO] at this ⊢
  omega
def uZ {α:Type}{f:α->Nat}(xs:List α)(y:α):dO f (xs++[y])<=dO f xs+(f y+1):=by simp [dO];omega
def pZ:∀xs:List Int,dO (fun _:Int=>0) xs=xs.length
 | []=>rfl
 | x::xs=>by
  have:=pZ xs
  simp only [dO,List.length_cons,List.map_cons,List.sum_cons] at this ⊢
  omega
def bL.set {α:Type}{n:Nat}{p:α->Prop}{xs:List α}{i:Nat}{y:α}(h:bL n p xs)(g:p y):bL n p (xs.set i y):=
 ⟨by rw [List.length_set];exact h.1,fun x hx=>(List.mem_or_eq_of_mem_set hx).elim (h.2 x) fun e=>e ▸ g⟩
def bL.app {α:Type}{n a b:Nat}{p:α->Prop}{xs ys:List α}(h:bL a p xs)(g:bL b p ys)(hn:a+b<=n):bL n p (xs++ys):=
 ⟨by rw [List.length_append];have:=h.1;have:=g.1;omega,fun x hx=>(List.mem_append.1 hx).elim (h.2 x) (g.2 x)⟩
def bL.vp {α:Type}{n:Nat}{p:α->Prop}{xs:List α}{i:Nat}{z:α}(h:bL n p xs)(hz:p z):p (xs.getD i z):=by
 by_cases hi:i<xs.length
 ·exact bL.getD h hi
 ·rw [List.getD_eq_getElem?_getD,List.getElem?_eq_none (by omega)];exact hz
def bL.one {α:Type}{p:α->Prop}{y:α}(h:p y):bL 1 p [y]:=⟨Nat.le_refl _,fun x hx=>by rw [List.mem_singleton.1 hx];exact h⟩
def jy:eB (-1):=⟨by decide,by decide⟩
def kg:eB 1:=⟨by decide,by decide⟩
def qC {α S β γ:Type}{f:Nat->α->S->S⊕β}{t:S->β}{g:α->S->S⊕γ}{u:S->γ}{p:β->γ}(h:∀i x s,(f i x s).map id p=g x s)(h0:∀s,p (t s)=u s) :
  ∀(xs:List α) (i:Nat) (s:S),p (dQ f t i xs s)=dX g u xs s
 | [],i,s=>h0 s
 | x::xs,i,s=>by
  have hx:=h i x s
  unfold dQ dX
  rw [<-hx]
  cases f i x s with
  | inl s'=>exact qC h h0 xs (i+1) s'
  | inr b=>rfl
def lm {n:Int}(h:n<=140737488355328:=by (try simp (disch:=omega) only [LN,wi,Bool.cond_decide]);first | omega | (simp;done) | (simp;omega)):eT n=true:=iJ h
def dt {p:Prop}{_:Decidable p}(h:p:=by (try simp (disch:=omega) only [LN,wi,Bool.cond_decide]);first | omega | (simp;done) | (simp;omega)):decide p=true:=decide_eq_true h
def df {p:Prop}{_:Decidable p}(h:¬p:=by (try simp (disch:=omega) only [LN,wi,Bool.cond_decide]);first | omega | (simp;done) | (simp;omega)):decide p=false:=decide_eq_false h
def om {p:Prop}(h:p:=by (try simp (disch:=omega) only [LN,wi,Bool.cond_decide]);first | omega | (simp;done) | (simp;omega)):p:=h
def ct {γ:Type}[RT γ]{o:Option γ}{b:γ}{k:γ->aH}{r:aH}(h:o=some b)(hk:k b=r):call o k=r:=aZ b h hk
def cx {γ:Type}[RT γ]{o:Option γ}{b:γ}{k:Nat->γ->aH}{r:aH}(h:o=some b)(hk:∃n,k n b=r):∃n,call o (k n)=r:=eV b h hk
def cr {S β γ:Type}[RT γ]{K:S->aH}{out:β->aH}{Q:S->Prop}{o:Option γ}{b:γ}{k:γ->aH}{r:S⊕β}(h:o=some b)(hk:bz (k b) K out Q r):bz (DM.call o k) K out Q r:=bz.aZ b h hk
def W1 {A A' Z Z':Type}[Im A A'][RT A'][Im Z Z'][RT Z']{P:Program}{T:List (Nat×TI)}{G:List (Nat×fQ)}{f:FuncId}{fn:Func}{ps:List fY}{r:RP}{g:A->Prop}{m:A->Z}(nt:Nat)(F:A'->aH)(hm:P.follows .mixedOrders=true)(hT:eH P T=true)(ok:∀a0,g a0->F (Im.im a0)=ret (Im.im (m a0)))(hG:gu P (dA T) G)(hf:P.funcs[f]?=some fn)
  (hb:qU fn (CN ps r (RT.dec:List L->A') (RR g m)) nt=true:=by kernel_rfl) (hr:∀n ls,eJ { T:=assoc T,G:=dw G,nt:=nt } (fun _=>[]) fn r n (cV ps ls)=F (RT.dec ls:A'):=by intro _ _;kernel_rfl):Valid P (dA T) f (CN ps r (RT.dec:List L->A') (RR g m)):=
 VV (run:=fun _ x=>F x) hm hT hG hf hb hr fun _ a _ _ h=>⟨0,ok a h⟩
def L1 {A A' Z Z':Type}[Im A A'][RT A'][Im Z Z'][RT Z']{P:Program}{T:List (Nat×TI)}{G:List (Nat×fQ)}{f:FuncId}{fn:Func}{ps:List fY}{r:RP}{g:A->Prop}{m:A->Z}{Pt:Type}(nt:Nat)(id:Pt->Nat)(vs:Pt->List V)(hs:Pt->List aW)(live:Nat->Live)(step:(Pt->aH)->Pt->aH)(start:(Pt->aH)->A'->aH)(hm:P.follows .mixedOrders=true)(hT:eH P T=true)(ok:∀a0,g a0->∃n,start (iter step n) (Im.im a0)=ret (Im.im (m a0)))(hG:gu P (dA T) G)(hf:P.funcs[f]?=some fn)
  (hb:qU fn (CN ps r (RT.dec:List L->A') (RR g m)) nt=true:=by kernel_rfl) (h1:∀(I:cD) (p:Pt),cT { T:=assoc T,G:=dw G,nt:=nt } live I (id p) (bO fn) (fq (live (id p)) (vs p) (hs p)) (cE { T:=assoc T,G:=dw G,nt:=nt } fn r)=step (fun q=>I (id q) (vs q) (hs q)) p:=by intro _ p;cases p<;>kernel_rfl)
  (h0:∀(I:cD) (ls:List L),eP { T:=assoc T,G:=dw G,nt:=nt } live I (bO fn) (cV ps ls) (cE { T:=assoc T,G:=dw G,nt:=nt } fn r)=start (fun q=>I (id q) (vs q) (hs q)) (RT.dec ls:A'):=by intro _ _;kernel_rfl):Valid P (dA T) f (CN ps r (RT.dec:List L->A') (RR g m)):=
 VV (run:=fun n x=>start (iter step n) x) hm hT hG hf hb (fun n ls=>cy (start:=fun J=>start J (RT.dec ls:A')) h1 (fun I=>h0 I ls) n) fun _ a _ _ h=>ok a h
def W2 {A A' B B' Z Z':Type}[Im A A'][RT A'][Im B B'][RT B'][Im Z Z'][RT Z']{P:Program}{T:List (Nat×TI)}{G:List (Nat×fQ)}{f:FuncId}{fn:Func}{ps:List fY}{r:RP}{g:A->B->Prop}{m:A->B->Z}(nt:Nat)(F:A'->B'->aH)(hm:P.follows .mixedOrders=true)(hT:eH P T=true)(ok:∀a0 a1,g a0 a1->F (Im.im a0) (Im.im a1)=ret (Im.im (m a0 a1)))(hG:gu P (dA T) G)(hf:P.funcs[f]?=some fn)
  (hb:qU fn (CN ps r (RT.dec:List L->A'×B') (RR (p2 g) (u2 m))) nt=true:=by kernel_rfl) (hr:∀n ls,eJ { T:=assoc T,G:=dw G,nt:=nt } (fun _=>[]) fn r n (cV ps ls)=F (RT.dec ls:A'×B').1 (RT.dec ls:A'×B').2:=by intro _ _;kernel_rfl):Valid P (dA T) f (CN ps r (RT.dec:List L->A'×B') (RR (p2 g) (u2 m))):=
 VV (run:=fun _ x=>F x.1 x.2) hm hT hG hf hb hr fun _ a _ _ h=>⟨0,ok a.1 a.2 h⟩
def L2 {A A' B B' Z Z':Type}[Im A A'][RT A'][Im B B'][RT B'][Im Z Z'][RT Z']{P:Program}{T:List (Nat×TI)}{G:List (Nat×fQ)}{f:FuncId}{fn:Func}{ps:List fY}{r:RP}{g:A->B->Prop}{m:A->B->Z}{Pt:Type}(nt:Nat)(id:Pt->Nat)(vs:Pt->List V)(hs:Pt->List aW)(live:Nat->Live)(step:(Pt->aH)->Pt->aH)(start:(Pt->aH)->A'->B'->aH)(hm:P.follows .mixedOrders=true)(hT:eH P T=true)(ok:∀a0 a1,g a0 a1->∃n,start (iter step n) (Im.im a0) (Im.im a1)=ret (Im.im (m a0 a1)))(hG:gu P (dA T) G)(hf:P.funcs[f]?=some fn)
  (hb:qU fn (CN ps r (RT.dec:List L->A'×B') (RR (p2 g) (u2 m))) nt=true:=by kernel_rfl) (h1:∀(I:cD) (p:Pt),cT { T:=assoc T,G:=dw G,nt:=nt } live I (id p) (bO fn) (fq (live (id p)) (vs p) (hs p)) (cE { T:=assoc T,G:=dw G,nt:=nt } fn r)=step (fun q=>I (id q) (vs q) (hs q)) p:=by intro _ p;cases p<;>kernel_rfl)
  (h0:∀(I:cD) (ls:List L),eP { T:=assoc T,G:=dw G,nt:=nt } live I (bO fn) (cV ps ls) (cE { T:=assoc T,G:=dw G,nt:=nt } fn r)=start (fun q=>I (id q) (vs q) (hs q)) (RT.dec ls:A'×B').1 (RT.dec ls:A'×B').2:=by intro _ _;kernel_rfl):Valid P (dA T) f (CN ps r (RT.dec:List L->A'×B') (RR (p2 g) (u2 m))):=
 VV (run:=fun n x=>start (iter step n) x.1 x.2) hm hT hG hf hb (fun n ls=>cy (start:=fun J=>start J (RT.dec ls:A'×B').1 (RT.dec ls:A'×B').2) h1 (fun I=>h0 I ls) n) fun _ a _ _ h=>ok a.1 a.2 h
def W3 {A A' B B' C C' Z Z':Type}[Im A A'][RT A'][Im B B'][RT B'][Im C C'][RT C'][Im Z Z'][RT Z']{P:Program}{T:List (Nat×TI)}{G:List (Nat×fQ)}{f:FuncId}{fn:Func}{ps:List fY}{r:RP}{g:A->B->C->Prop}{m:A->B->C->Z}(nt:Nat)(F:A'->B'->C'->aH)(hm:P.follows .mixedOrders=true)(hT:eH P T=true)(ok:∀a0 a1 a2,g a0 a1 a2->F (Im.im a0) (Im.im a1) (Im.im a2)=ret (Im.im (m a0 a1 a2)))(hG:gu P (dA T) G)(hf:P.funcs[f]?=some fn)
  (hb:qU fn (CN ps r (RT.dec:List L->A'×B'×C') (RR (p3 g) (u3 m))) nt=true:=by kernel_rfl) (hr:∀n ls,eJ { T:=assoc T,G:=dw G,nt:=nt } (fun _=>[]) fn r n (cV ps ls)=F (RT.dec ls:A'×B'×C').1 (RT.dec ls:A'×B'×C').2.1 (RT.dec ls:A'×B'×C').2.2:=by intro _ _;kernel_rfl):Valid P (dA T) f (CN ps r (RT.dec:List L->A'×B'×C') (RR (p3 g) (u3 m))):=
 VV (run:=fun _ x=>F x.1 x.2.1 x.2.2) hm hT hG hf hb hr fun _ a _ _ h=>⟨0,ok a.1 a.2.1 a.2.2 h⟩
def L3 {A A' B B' C C' Z Z':Type}[Im A A'][RT A'][Im B B'][RT B'][Im C C'][RT C'][Im Z Z'][RT Z']{P:Program}{T:List (Nat×TI)}{G:List (Nat×fQ)}{f:FuncId}{fn:Func}{ps:List fY}{r:RP}{g:A->B->C->Prop}{m:A->B->C->Z}{Pt:Type}(nt:Nat)(id:Pt->Nat)(vs:Pt->List V)(hs:Pt->List aW)(live:Nat->Live)(step:(Pt->aH)->Pt->aH)(start:(Pt->aH)->A'->B'->C'->aH)(hm:P.follows .mixedOrders=true)(hT:eH P T=true)(ok:∀a0 a1 a2,g a0 a1 a2->∃n,start (iter step n) (Im.im a0) (Im.im a1) (Im.im a2)=ret (Im.im (m a0 a1 a2)))(hG:gu P (dA T) G)(hf:P.funcs[f]?=some fn)
  (hb:qU fn (CN ps r (RT.dec:List L->A'×B'×C') (RR (p3 g) (u3 m))) nt=true:=by kernel_rfl) (h1:∀(I:cD) (p:Pt),cT { T:=assoc T,G:=dw G,nt:=nt } live I (id p) (bO fn) (fq (live (id p)) (vs p) (hs p)) (cE { T:=assoc T,G:=dw G,nt:=nt } fn r)=step (fun q=>I (id q) (vs q) (hs q)) p:=by intro _ p;cases p<;>kernel_rfl)
  (h0:∀(I:cD) (ls:List L),eP { T:=assoc T,G:=dw G,nt:=nt } live I (bO fn) (cV ps ls) (cE { T:=assoc T,G:=dw G,nt:=nt } fn r)=start (fun q=>I (id q) (vs q) (hs q)) (RT.dec ls:A'×B'×C').1 (RT.dec ls:A'×B'×C').2.1 (RT.dec ls:A'×B'×C').2.2:=by intro _ _;kernel_rfl):Valid P (dA T) f (CN ps r (RT.dec:List L->A'×B'×C') (RR (p3 g) (u3 m))):=
 VV (run:=fun n x=>start (iter step n) x.1 x.2.1 x.2.2) hm hT hG hf hb (fun n ls=>cy (start:=fun J=>start J (RT.dec ls:A'×B'×C').1 (RT.dec ls:A'×B'×C').2.1 (RT.dec ls:A'×B'×C').2.2) h1 (fun I=>h0 I ls) n) fun _ a _ _ h=>ok a.1 a.2.1 a.2.2 h
def W4 {A A' B B' C C' D D' Z Z':Type}[Im A A'][RT A'][Im B B'][RT B'][Im C C'][RT C'][Im D D'][RT D'][Im Z Z'][RT Z']{P:Program}{T:List (Nat×TI)}{G:List (Nat×fQ)}{f:FuncId}{fn:Func}{ps:List fY}{r:RP}{g:A->B->C->D->Prop}{m:A->B->C->D->Z}(nt:Nat)(F:A'->B'->C'->D'->aH)(hm:P.follows .mixedOrders=true)(hT:eH P T=true)(ok:∀a0 a1 a2 a3,g a0 a1 a2 a3->F (Im.im a0) (Im.im a1) (Im.im a2) (Im.im a3)=ret (Im.im (m a0 a1 a2 a3)))(hG:gu P (dA T) G)(hf:P.funcs[f]?=some fn)
  (hb:qU fn (CN ps r (RT.dec:List L->A'×B'×C'×D') (RR (p4 g) (u4 m))) nt=true:=by kernel_rfl) (hr:∀n ls,eJ { T:=assoc T,G:=dw G,nt:=nt } (fun _=>[]) fn r n (cV ps ls)=F (RT.dec ls:A'×B'×C'×D').1 (RT.dec ls:A'×B'×C'×D').2.1 (RT.dec ls:A'×B'×C'×D').2.2.1 (RT.dec ls:A'×B'×C'×D').2.2.2:=by intro _ _;kernel_rfl):Valid P (dA T) f (CN ps r (RT.dec:List L->A'×B'×C'×D') (RR (p4 g) (u4 m))):=
 VV (run:=fun _ x=>F x.1 x.2.1 x.2.2.1 x.2.2.2) hm hT hG hf hb hr fun _ a _ _ h=>⟨0,ok a.1 a.2.1 a.2.2.1 a.2.2.2 h⟩
def L4 {A A' B B' C C' D D' Z Z':Type}[Im A A'][RT A'][Im B B'][RT B'][Im C C'][RT C'][Im D D'][RT D'][Im Z Z'][RT Z']{P:Program}{T:List (Nat×TI)}{G:List (Nat×fQ)}{f:FuncId}{fn:Func}{ps:List fY}{r:RP}{g:A->B->C->D->Prop}{m:A->B->C->D->Z}{Pt:Type}(nt:Nat)(id:Pt->Nat)(vs:Pt->List V)(hs:Pt->List aW)(live:Nat->Live)(step:(Pt->aH)->Pt->aH)(start:(Pt->aH)->A'->B'->C'->D'->aH)(hm:P.follows .mixedOrders=true)(hT:eH P T=true)(ok:∀a0 a1 a2 a3,g a0 a1 a2 a3->∃n,start (iter step n) (Im.im a0) (Im.im a1) (Im.im a2) (Im.im a3)=ret (Im.im (m a0 a1 a2 a3)))(hG:gu P (dA T) G)(hf:P.funcs[f]?=some fn)
  (hb:qU fn (CN ps r (RT.dec:List L->A'×B'×C'×D') (RR (p4 g) (u4 m))) nt=true:=by kernel_rfl) (h1:∀(I:cD) (p:Pt),cT { T:=assoc T,G:=dw G,nt:=nt } live I (id p) (bO fn) (fq (live (id p)) (vs p) (hs p)) (cE { T:=assoc T,G:=dw G,nt:=nt } fn r)=step (fun q=>I (id q) (vs q) (hs q)) p:=by intro _ p;cases p<;>kernel_rfl)
  (h0:∀(I:cD) (ls:List L),eP { T:=assoc T,G:=dw G,nt:=nt } live I (bO fn) (cV ps ls) (cE { T:=assoc T,G:=dw G,nt:=nt } fn r)=start (fun q=>I (id q) (vs q) (hs q)) (RT.dec ls:A'×B'×C'×D').1 (RT.dec ls:A'×B'×C'×D').2.1 (RT.dec ls:A'×B'×C'×D').2.2.1 (RT.dec ls:A'×B'×C'×D').2.2.2:=by intro _ _;kernel_rfl):Valid P (dA T) f (CN ps r (RT.dec:List L->A'×B'×C'×D') (RR (p4 g) (u4 m))):=
 VV (run:=fun n x=>start (iter step n) x.1 x.2.1 x.2.2.1 x.2.2.2) hm hT hG hf hb (fun n ls=>cy (start:=fun J=>start J (RT.dec ls:A'×B'×C'×D').1 (RT.dec ls:A'×B'×C'×D').2.1 (RT.dec ls:A'×B'×C'×D').2.2.1 (RT.dec ls:A'×B'×C'×D').2.2.2) h1 (fun I=>h0 I ls) n) fun _ a _ _ h=>ok a.1 a.2.1 a.2.2.1 a.2.2.2 h
def W5 {A A' B B' C C' D D' X X' Z Z':Type}[Im A A'][RT A'][Im B B'][RT B'][Im C C'][RT C'][Im D D'][RT D'][Im X X'][RT X'][Im Z Z'][RT Z']{P:Program}{T:List (Nat×TI)}{G:List (Nat×fQ)}{f:FuncId}{fn:Func}{ps:List fY}{r:RP}{g:A->B->C->D->X->Prop}{m:A->B->C->D->X->Z}(nt:Nat)(F:A'->B'->C'->D'->X'->aH)(hm:P.follows .mixedOrders=true)(hT:eH P T=true)(ok:∀a0 a1 a2 a3 a4,g a0 a1 a2 a3 a4->F (Im.im a0) (Im.im a1) (Im.im a2) (Im.im a3) (Im.im a4)=ret (Im.im (m a0 a1 a2 a3 a4)))(hG:gu P (dA T) G)(hf:P.funcs[f]?=some fn)
  (hb:qU fn (CN ps r (RT.dec:List L->A'×B'×C'×D'×X') (RR (p5 g) (u5 m))) nt=true:=by kernel_rfl) (hr:∀n ls,eJ { T:=assoc T,G:=dw G,nt:=nt } (fun _=>[]) fn r n (cV ps ls)=F (RT.dec ls:A'×B'×C'×D'×X').1 (RT.dec ls:A'×B'×C'×D'×X').2.1 (RT.dec ls:A'×B'×C'×D'×X').2.2.1 (RT.dec ls:A'×B'×C'×D'×X').2.2.2.1 (RT.dec ls:A'×B'×C'×D'×X').2.2.2.2:=by intro _ _;kernel_rfl):Valid P (dA T) f (CN ps r (RT.dec:List L->A'×B'×C'×D'×X') (RR (p5 g) (u5 m))):=
 VV (run:=fun _ x=>F x.1 x.2.1 x.2.2.1 x.2.2.2.1 x.2.2.2.2) hm hT hG hf hb hr fun _ a _ _ h=>⟨0,ok a.1 a.2.1 a.2.2.1 a.2.2.2.1 a.2.2.2.2 h⟩
def L5 {A A' B B' C C' D D' X X' Z Z':Type}[Im A A'][RT A'][Im B B'][RT B'][Im C C'][RT C'][Im D D'][RT D'][Im X X'][RT X'][Im Z Z'][RT Z']{P:Program}{T:List (Nat×TI)}{G:List (Nat×fQ)}{f:FuncId}{fn:Func}{ps:List fY}{r:RP}{g:A->B->C->D->X->Prop}{m:A->B->C->D->X->Z}{Pt:Type}(nt:Nat)(id:Pt->Nat)(vs:Pt->List V)(hs:Pt->List aW)(live:Nat->Live)(step:(Pt->aH)->Pt->aH)(start:(Pt->aH)->A'->B'->C'->D'->X'->aH)(hm:P.follows .mixedOrders=true)(hT:eH P T=true)(ok:∀a0 a1 a2 a3 a4,g a0 a1 a2 a3 a4->∃n,start (iter step n) (Im.im a0) (Im.im a1) (Im.im a2) (Im.im a3) (Im.im a4)=ret (Im.im (m a0 a1 a2 a3 a4)))(hG:gu P (dA T) G)(hf:P.funcs[f]?=some fn)
  (hb:qU fn (CN ps r (RT.dec:List L->A'×B'×C'×D'×X') (RR (p5 g) (u5 m))) nt=true:=by kernel_rfl) (h1:∀(I:cD) (p:Pt),cT { T:=assoc T,G:=dw G,nt:=nt } live I (id p) (bO fn) (fq (live (id p)) (vs p) (hs p)) (cE { T:=assoc T,G:=dw G,nt:=nt } fn r)=step (fun q=>I (id q) (vs q) (hs q)) p:=by intro _ p;cases p<;>kernel_rfl)
  (h0:∀(I:cD) (ls:List L),eP { T:=assoc T,G:=dw G,nt:=nt } live I (bO fn) (cV ps ls) (cE { T:=assoc T,G:=dw G,nt:=nt } fn r)=start (fun q=>I (id q) (vs q) (hs q)) (RT.dec ls:A'×B'×C'×D'×X').1 (RT.dec ls:A'×B'×C'×D'×X').2.1 (RT.dec ls:A'×B'×C'×D'×X').2.2.1 (RT.dec ls:A'×B'×C'×D'×X').2.2.2.1 (RT.dec ls:A'×B'×C'×D'×X').2.2.2.2:=by intro _ _;kernel_rfl):Valid P (dA T) f (CN ps r (RT.dec:List L->A'×B'×C'×D'×X') (RR (p5 g) (u5 m))):=
 VV (run:=fun n x=>start (iter step n) x.1 x.2.1 x.2.2.1 x.2.2.2.1 x.2.2.2.2) hm hT hG hf hb (fun n ls=>cy (start:=fun J=>start J (RT.dec ls:A'×B'×C'×D'×X').1 (RT.dec ls:A'×B'×C'×D'×X').2.1 (RT.dec ls:A'×B'×C'×D'×X').2.2.1 (RT.dec ls:A'×B'×C'×D'×X').2.2.2.1 (RT.dec ls:A'×B'×C'×D'×X').2.2.2.2) h1 (fun I=>h0 I ls) n) fun _ a _ _ h=>ok a.1 a.2.1 a.2.2.1 a.2.2.2.1 a.2.2.2.2 h
def W6 {A A' B B' C C' D D' X X' Y Y' Z Z':Type}[Im A A'][RT A'][Im B B'][RT B'][Im C C'][RT C'][Im D D'][RT D'][Im X X'][RT X'][Im Y Y'][RT Y'][Im Z Z'][RT Z']{P:Program}{T:List (Nat×TI)}{G:List (Nat×fQ)}{f:FuncId}{fn:Func}{ps:List fY}{r:RP}{g:A->B->C->D->X->Y->Prop}{m:A->B->C->D->X->Y->Z}(nt:Nat)(F:A'->B'->C'->D'->X'->Y'->aH)(hm:P.follows .mixedOrders=true)(hT:eH P T=true)(ok:∀a0 a1 a2 a3 a4 a5,g a0 a1 a2 a3 a4 a5->F (Im.im a0) (Im.im a1) (Im.im a2) (Im.im a3) (Im.im a4) (Im.im a5)=ret (Im.im (m a0 a1 a2 a3 a4 a5)))(hG:gu P (dA T) G)(hf:P.funcs[f]?=some fn)
  (hb:qU fn (CN ps r (RT.dec:List L->A'×B'×C'×D'×X'×Y') (RR (p6 g) (u6 m))) nt=true:=by kernel_rfl) (hr:∀n ls,eJ { T:=assoc T,G:=dw G,nt:=nt } (fun _=>[]) fn r n (cV ps ls)=F (RT.dec ls:A'×B'×C'×D'×X'×Y').1 (RT.dec ls:A'×B'×C'×D'×X'×Y').2.1 (RT.dec ls:A'×B'×C'×D'×X'×Y').2.2.1 (RT.dec ls:A'×B'×C'×D'×X'×Y').2.2.2.1 (RT.dec ls:A'×B'×C'×D'×X'×Y').2.2.2.2.1 (RT.dec ls:A'×B'×C'×D'×X'×Y').2.2.2.2.2:=by intro _ _;kernel_rfl):Valid P (dA T) f (CN ps r (RT.dec:List L->A'×B'×C'×D'×X'×Y') (RR (p6 g) (u6 m))):=
 VV (run:=fun _ x=>F x.1 x.2.1 x.2.2.1 x.2.2.2.1 x.2.2.2.2.1 x.2.2.2.2.2) hm hT hG hf hb hr fun _ a _ _ h=>⟨0,ok a.1 a.2.1 a.2.2.1 a.2.2.2.1 a.2.2.2.2.1 a.2.2.2.2.2 h⟩
def hJ {α:Type}{l:List α}{x:α}{i:Nat}(h:l.length<=i):(l++[x]).length<=i+1:=by rw [List.length_append];exact Nat.add_le_add_right h 1
def ck (c:Bool)(x:aH):aH:=bif c then x else none
def m2 (v n:Int)(x:aH):aH:=bif decide (0<=v) then (cond (decide (v<n)) x none) else none
def m3 (v n:Int)(x:aH):aH:=bif decide (0<=v) then (cond (decide (v<n)) (cond (Nat.beq (Int.toNat v) (Int.toNat v)&&true) x none) none) else none
def MM:(∀c x,ck c x=bif c then x else none)/\(∀v n x,m2 v n x=bif decide (0<=v) then (cond (decide (v<n)) x none) else none)/\(∀v n x,m3 v n x=bif decide (0<=v) then (cond (decide (v<n)) (cond (Nat.beq (Int.toNat v) (Int.toNat v)&&true) x none) none) else none):=⟨fun _ _=>rfl,fun _ _ _=>rfl,fun _ _ _=>rfl⟩
abbrev pI:fY:=.rd (.int .i64)
abbrev pS:fY:=.rd .str
abbrev pB:fY:=.rd .bool
abbrev pL (e:Nat):fY:=.rd (.sl e)
abbrev oI:RP:=.one (.rd (.int .i64))
abbrev oB:RP:=.one (.rd .bool)
abbrev oS:RP:=.one (.rd .str)
abbrev oL (e:Nat):RP:=.one (.fr e)
abbrev fI:Lf:=.rd (.int .i64)
abbrev fS:Lf:=.rd .str
abbrev fB:Lf:=.rd .bool
end Go.DM
set_option linter.unusedSectionVars false
namespace Go.DM
section
variable {P:Program} {E:Env} {w0 w w':World} {ans:List L}
end
section
variable {T:Nat->List K} {w w' w0:World} {A A':dz} {rs:List Nat} {np:Nat} {M:Mem np} {hp:Nat->aW}
end
section
variable {E:Env} {w0 w:World} {np:Nat} {M:Mem np} {A B:dz} {hp:Nat->aW} {ans:List L} {Z:Nat->Prop} {r:Nat}
end
section
variable {P:Program} {E:Env}
end
def bL.take {α:Type}{n k:Nat}{p:α->Prop}{xs:List α}(h:bL n p xs):bL n p (xs.take k):=⟨Nat.le_trans (by simp;omega) h.1,fun x hx=>h.2 x (List.mem_of_mem_take hx)⟩
def bL.drop {α:Type}{n k:Nat}{p:α->Prop}{xs:List α}(h:bL n p xs):bL n p (xs.drop k):=⟨Nat.le_trans (by simp) h.1,fun x hx=>h.2 x (List.mem_of_mem_drop hx)⟩
def bL.map {α β:Type}{n:Nat}{p:α->Prop}{q:β->Prop}{f:α->β}{xs:List α}(h:bL n p xs)(hf:∀x,p x->q (f x)):bL n q (xs.map f):=
 ⟨by rw [List.length_map];exact h.1,fun y hy=>by obtain ⟨x,hx,rfl⟩:=List.mem_map.1 hy;exact hf x (h.2 x hx)⟩
section
variable {P:Program} {T:List (Nat×TI)} {G:List (Nat×fQ)} {S:List (Nat×gD)} {I:List (Nat×kC)} {nt:Nat} {mt:Bool} {J:List Nat}
end
section
variable {A A' B B':Type} [Im A A'] [Im B B'] {g:A->Prop} {m:A->B}
theorem VJ [RT B']{X:Type}{P:Program}{T:List (Nat×TI)}{G:List (Nat×fQ)}{S:List (Nat×gD)}{I:List (Nat×kC)}{nt:Nat}{mt:Bool}{J:List Nat}{f:FuncId}{fn:Func}{ps:List fY}{r:RP}{acc:List L->A'}{accr:List L->X}{live:Nat->Live}{run:Nat->X->aH}
  (hm:P.follows .mixedOrders=true) (hT:eH P T=true) (hG:gu P (dA T) G) (hS:jQ P (dA T) S) (hI:ox P (dA T) 0 I) (hf:P.funcs[f]?=some fn) (hb:qU fn (CN ps r acc (RR g m)) nt=true)
  (hrun:∀n ls,eJ { T:=assoc T,G:=dw G,nt:=nt,M:=fP S,mt:=mt,I:=mY I,J:=J } live fn r n (cV ps ls)=run n (accr ls))
  (hok:∀ls a,pG (dA T).cells ps ls->acc ls=Im.im a->g a->∃n,run n (accr ls)=ret (Im.im (m a))):Valid P (dA T) f (CN ps r acc (RR g m)):=
 wg hm hT hG hS hI hf hb live fun ls q hl h=>by
  obtain ⟨v,hv,hq⟩:=map_some h
  obtain ⟨a,hg,e,hm⟩:=jW hv
  obtain ⟨n,hn⟩:=hok ls a hl e.symm hg
  exact ⟨n,(hrun n ls).trans (hn.trans (by rw [<-hq,<-hm];rfl))⟩
end
def bs {β:Type}[RT β]{c:Bool}{x y:aH}{a b:β}(h1:c=true->x=ret a)(h2:c=false->y=ret b):(cond c x y)=ret (cond c a b):=au ret h1 h2
def bl {α:Type}{n:Nat}{p:α->Prop}{xs:List α}(h:bL n p xs)(hn:n<=maxLen:=by decide):xs.length<=maxLen:=Nat.le_trans h.1 hn
end Go.DM

end
