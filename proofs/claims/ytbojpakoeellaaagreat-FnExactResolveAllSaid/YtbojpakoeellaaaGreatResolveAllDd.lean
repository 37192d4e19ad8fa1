/- A small machine over the translated code, and the proof that what it computes the code does. Conditions: none. -/
import Derived.Test.YtbojpakoeellaaaGreatResolveAllDc
import Derived.ChangeArms
import Derived.Deep.Slices
import Derived.DataReads
import Derived.Carry
import Derived.ChangeOld
import Derived.WideShapes
import Derived.ChangeShapes
import Derived.IntWalk
set_option linter.all false
noncomputable section
set_option linter.unusedSectionVars false
namespace Go.DM
def assoc {α:Type}:List (Nat×α)->Nat->Option α
 | [],_=>none
 | (k,v)::l,i=>bif Nat.beq k i then some v else assoc l i
def ou {α:Type}:∀{l:List (Nat×α)} {i:Nat} {v:α},assoc l i=some v->(i,v)∈l
 | [],i,v,h=>by cases h
 | (k,u)::l,i,v,h=>by
  simp only [assoc] at h
  cases hb:Nat.beq k i<;>simp only [hb,bh,bu] at h
  ·exact List.mem_cons_of_mem _ (ou h)
  ·injection h with h;rw [Nat.eq_of_beq_eq_true hb,h];simp
def xN:Value->K->Bool
 | .int a n,.int b=>iB a b&&decide (n=0)
 | .bool b,.bool=>!b
 | .string ⟨⟨[]⟩⟩,.str=>true
 | .slice none 0 0,.sl _=>true
 | _,_=>false
def xR {v:Value}{k:K}(h:xN v k=true):v=jH k:=by
 unfold xN at h
 split at h
 ·simp only [Bool.and_eq_true,decide_eq_true_eq] at h
  obtain ⟨h1,rfl⟩:=h
  rw [gE h1];rfl
 ·simp at h;subst h;rfl
 ·rfl
 ·rfl
 ·cases h
def sP:List Value->List K->Bool
 | [],[]=>true
 | v::vs,k::ks=>xN v k&&sP vs ks
 | _,_=>false
def so:∀{vs:List Value} {ks:List K},sP vs ks=true->vs=ks.map jH
 | [],[],_=>rfl
 | [],_::_,h=>by cases h
 | _::_,[],h=>by cases h
 | v::vs,k::ks,h=>by
  simp only [sP,Bool.and_eq_true] at h
  rw [xR h.1,so h.2];rfl
def ko (P:Program)(T:Nat->Option TI):List Field->List (Nat×Nat)->Nat->List K->Bool
 | [],[],_,[]=>true
 | f::fs,p::ps,o,ks=>Nat.beq f.offset p.1&&(Nat.beq f.type p.2&&(Nat.beq p.1 o&&(match P.info? f.type with
  | some fi=>match T p.2 with
   | some ti=>Nat.beq fi.size ti.cells.length&&(qh (ks.take ti.cells.length) ti.cells&&ko P T fs ps (o+ti.cells.length) (ks.drop ti.cells.length))
   | none=>false
  | none=>false)))
 | _,_,_,_=>false
def iX {P:Program}{E:Env}:∀{fs:List Field} {ps:List (Nat×Nat)} {o:Nat} {ks:List K},ko P E.T fs ps o ks=true->
  ∃places,fs.mapM (fun f=>(P.info? f.type).map fun i=>(f.offset,i.size))=some places/\fs.length=ps.length/\
   ∀(j:Nat) (p:Nat×Nat),ps[j]?=some p->∃f ti,fs[j]?=some f/\f.offset=p.1/\f.type=p.2/\E.T p.2=some ti/\places[j]?=some (p.1,(E.cells p.2).length)/\o<=p.1/\P.cellsOf f.type=ti.cells.length/\(∀l kk,ti.cells[l]?=some kk->ks[p.1 - o+l]?=some kk)/\p.1 - o+ti.cells.length<=ks.length
 | [],[],o,[],_=>⟨[],by simp,rfl,fun j p hp=>by simp at hp⟩
 | [],[],o,_::_,h=>by cases h
 | [],_::_,o,ks,h=>by cases h
 | _::_,[],o,ks,h=>by cases h
 | f::fs,p::ps,o,ks,h=>by
  simp only [ko,Bool.and_eq_true] at h
  obtain ⟨h1,h2,h3,h4⟩:=h
  split at h4
  ·rename_i fi hfi
   split at h4
   ·rename_i ti hti
    simp only [Bool.and_eq_true] at h4
    obtain ⟨h5,h6,h7⟩:=h4
    obtain ⟨places,g1,g2,g3⟩:=iX h7
    have e1:=Nat.eq_of_beq_eq_true h1
    have e2:=Nat.eq_of_beq_eq_true h2
    have e3:=Nat.eq_of_beq_eq_true h3
    have e5:=Nat.eq_of_beq_eq_true h5
    have e6:=qy h6
    have hsz:fi.size=(E.cells p.2).length:=by simp [Env.cells,hti,e5]
    have hlen:ti.cells.length<=ks.length:=by rw [<-e6,List.length_take];exact Nat.min_le_right _ _
    refine ⟨(f.offset,fi.size)::places,by simp [hfi,g1],by simp [g2],fun j q hq=>?_⟩
    cases j with
    | zero=>
     simp at hq
     subst hq
     refine ⟨f,ti,rfl,e1,e2,hti,by simp [e1,hsz],by omega,by simp [Program.cellsOf,hfi,e5],fun l kk hl=>?_,by omega⟩
     have :(ks.take ti.cells.length)[l]?=some kk:=by rw [e6];exact hl
     rw [List.getElem?_take] at this
     rw [show p.1 - o+l=l by omega]
     split at this
     ·exact this
     ·cases this
    | succ j=>
     obtain ⟨f',ti',q1,q2,q3,q4,q5,q6,q7,q8,q9⟩:=g3 j q (by simpa using hq)
     refine ⟨f',ti',by simpa using q1,q2,q3,q4,by simpa using q5,by omega,q7,fun l kk hl=>?_,?_⟩
     ·have:=q8 l kk hl
      rw [List.getElem?_drop] at this
      rw [<-this];congr 1;omega
     ·rw [List.length_drop] at q9;omega
   ·cases h4
  ·cases h4
def B0 (T:Nat->Option TI)(i:TI)(d:TypeDesc):Bool:=
 match i.el with
 | some e=>match d with
  | .slice e'=>Nat.beq e e'&&(T e).isSome
  | _=>false
 | none=>true
def vW (i:TI)(d:TypeDesc):Bool:=
 i.agg||(match i.cells with
  | [.int k]=>(match d with | .int k'=>iB k k' | _=>false)
  | [.bool]=>(match d with | .bool=>true | _=>false)
  | [.str]=>(match d with | .string=>true | _=>false)
  | [.sl e]=>(match d with | .slice e'=>Nat.beq e e' | _=>false)
  | _=>false)
def Aa (P:Program)(k:K)(t:Nat):Bool:=
 match P.underlying t with
 | some (.int ik)=>(match k with | .int jk=>iB jk ik | _=>false)
 | some .bool=>(match k with | .bool=>true | _=>false)
 | some .string=>(match k with | .str=>true | _=>false)
 | _=>false
def lP (P:Program):List Field->Nat->List K->Bool
 | [],_,[]=>true
 | f :: fs, o, k :: ks => !(f.name == "_") && (Nat.beq f.offset o && (Aa P k f.type && lP P fs (o + 1) ks))
 | _,_,_=>false
def lB {P : Program} : ∀ {fs : List Field} {o : Nat} {ks : List K}, lP P fs o ks = true -> fs.length = ks.length /\ ∀ (j : Nat) (f : Field), fs[j]? = some f -> f.name ≠ "_" /\ f.offset = o + j /\ ∃ d', P.underlying f.type = some d' /\ ((∃ ik, ks[j]? = some (.int ik) /\ d' = .int ik) ∨ (ks[j]? = some .bool /\ d' = .bool) ∨ (ks[j]? = some .str /\ d' = .string))
 | [],o,[],_=>⟨rfl,fun j f hj=>by simp at hj⟩
 | [],o,_::_,h=>by cases h
 | _::_,o,[],h=>by cases h
 | f::fs,o,k::ks,h=>by
  simp only [lP,Bool.and_eq_true,Bool.not_eq_true'] at h
  obtain ⟨h1,h2,h3,h4⟩:=h
  obtain ⟨g1,g2⟩:=lB h4
  refine ⟨by simp [g1],fun j g hj=>?_⟩
  cases j with
  | zero=>
   simp at hj
   subst hj
   refine ⟨by simpa using h1,Nat.eq_of_beq_eq_true h2,?_⟩
   unfold Aa at h3
   split at h3
   ·rename_i ik hu
    split at h3
    ·rename_i jk;exact ⟨_,hu,.inl ⟨ik,by simp [gE h3],rfl⟩⟩
    ·cases h3
   ·rename_i hu
    split at h3
    ·exact ⟨_,hu,.inr (.inl ⟨rfl,rfl⟩)⟩
    ·cases h3
   ·rename_i hu
    split at h3
    ·exact ⟨_,hu,.inr (.inr ⟨rfl,rfl⟩)⟩
    ·cases h3
   ·cases h3
  | succ j=>
   obtain ⟨q1,q2,q3⟩:=g2 j g (by simpa using hj)
   exact ⟨q1,by omega,by simpa using q3⟩
def A8 (P:Program)(t:Nat)(i:TI)(d:TypeDesc):Bool:=
 !i.eqv||(!i.agg||(match d with | .struct fs=>!P.stoodInHeld t&&(!P.eqGuardType P.depth t&&lP P fs.toList 0 i.cells) | _=>false))
def zy (P:Program)(T:Nat->Option TI)(t:Nat)(i:TI):Bool:=
 match P.info? t with
 | some ii=>match P.underlying t with
  | some d=>match ii.zero with
   | some z=>Nat.beq ii.size i.cells.length&&(Nat.beq ii.bytes i.bytes&&(Nat.blt 0 i.cells.length&&(Nat.blt 0 i.bytes&&(sP z.cells.toList i.cells&&(
     (cond i.agg (match d with | .struct fs=>ko P T fs.toList i.fields 0 i.cells | _=>false) (!hU d&&(Nat.beq i.cells.length 1&&i.fields.isEmpty)))&&(B0 T i d&&(vW i d&&A8 P t i d)))))))
   | none=>false
  | none=>false
 | none=>false
def qC {P:Program}{E:Env}{t:Nat}{i:TI}(h:zy P E.T t i=true):gv P E t i:=by
 unfold zy at h
 split at h
 case h_2=>cases h
 rename_i ii hii
 split at h
 case h_2=>cases h
 rename_i d hd
 split at h
 case h_2=>cases h
 rename_i z hz
 simp only [Bool.and_eq_true] at h
 obtain ⟨h1,h2,h3,h4,h5,h6,h7,h8,h9⟩:=h
 refine ⟨ii,d,z,hii,hd,hz,Nat.eq_of_beq_eq_true h1,Nat.eq_of_beq_eq_true h2,Nat.blt_eq.mp h3,Nat.blt_eq.mp h4,so h5,?_,?_,?_,?_,?_,?_,?_,?_,?_⟩
 ·cases ha:i.agg<;>simp only [ha,bh,bu] at h6
  ·simp only [Bool.and_eq_true,Bool.not_eq_true'] at h6;exact h6.1
  ·split at h6
   ·rfl
   ·cases h6
 ·intro ha
  simp only [ha,bu,Bool.and_eq_true,List.isEmpty_iff] at h6
  exact ⟨Nat.eq_of_beq_eq_true h6.2.1,h6.2.2⟩
 ·intro ha
  simp only [ha,bh] at h6
  split at h6
  ·rename_i fs
   obtain ⟨places,g1,g2,g3⟩:=iX h6
   refine ⟨fs,rfl,fun f p hp=>?_⟩
   obtain ⟨fl,ti,q1,q2,q3,q4,_⟩:=g3 f p hp
   exact ⟨fl,by simpa using q1,q2,q3,ti,q4⟩
  ·cases h6
 ·intro fs hfs
  subst hfs
  cases ha:i.agg<;>simp only [ha,bh,bu] at h6
  ·simp [hU] at h6
  ·obtain ⟨places,g1,g2,g3⟩:=iX h6
   refine ⟨places,g1,fun f p hp=>?_⟩
   obtain ⟨fl,ti,q1,q2,q3,q4,q5,_⟩:=g3 f p hp
   exact q5
 ·intro e he
  simp only [B0,he] at h7
  split at h7
  ·simp only [Bool.and_eq_true] at h7
   rw [Nat.eq_of_beq_eq_true h7.1]
   refine ⟨rfl,Option.isSome_iff_exists.1 ?_⟩
   rw [<-Nat.eq_of_beq_eq_true h7.1];exact h7.2
  ·cases h7
 ·intro ha k hk
  simp only [vW,ha,Bool.false_or,hk] at h8
  split at h8
  ·rw [gE h8]
  ·cases h8
 ·intro ha hk
  simp only [vW,ha,Bool.false_or,hk] at h8
  split at h8
  ·rfl
  ·cases h8
 ·intro ha hk
  simp only [vW,ha,Bool.false_or,hk] at h8
  split at h8
  ·rfl
  ·cases h8
 ·intro he ha
  simp only [A8,he,ha,Bool.not_true,Bool.false_or] at h9
  split at h9
  ·rename_i fs
   simp only [Bool.and_eq_true,Bool.not_eq_true'] at h9
   obtain ⟨g1,g2⟩:=lB h9.2.2
   exact ⟨fs,rfl,h9.1,h9.2.1,by simpa using g1,fun j f hj=>by
    obtain ⟨q1,q2,q3⟩:=g2 j f (by simpa using hj)
    exact ⟨q1,by omega,q3⟩⟩
  ·cases h9
def eM (P:Program)(l:List (Nat×TI)):Bool:=l.all fun p=>zy P (assoc l) p.1 p.2
def ng {P:Program}{l:List (Nat×TI)}{E:Env}(hE:E.T=assoc l)(h:eM P l=true):∀t i,E.T t=some i->gv P E t i:=by
 intro t i ht
 rw [hE] at ht
 simp only [eM,List.all_eq_true] at h
 have:=h (t,i) (ou ht)
 rw [<-hE] at this
 exact qC this
abbrev dG (T:List (Nat×TI)):Env:={ T:=assoc T,G:=fun _=>[],nt:=0 }
def dw:List (Nat×fR)->Nat->List fR
 | [],_=>[]
 | (k,c)::l,g=>bif Nat.beq k g then c::dw l g else dw l g
inductive gA (P:Program)(E:Env):List (Nat×fR)->Prop where
 | nil:gA P E []
 | cons {g c l}:Valid P E g c->gA P E l->gA P E ((g,c)::l)
def gA.get {P:Program}{E:Env}:∀{l:List (Nat×fR)},gA P E l->∀g c,c∈dw l g->Valid P E g c
 | _,.nil,g,c,h=>by cases h
 | (k,u)::l,.cons hv ht,g,c,h=>by
  simp only [dw] at h
  cases hb:Nat.beq k g<;>simp only [hb,bh,bu] at h
  ·exact ht.get g c h
  ·rcases List.mem_cons.1 h with rfl | h
   ·rw [<-Nat.eq_of_beq_eq_true hb];exact hv
   ·exact ht.get g c h
def hJ:∀{l:List Nat},eU l=true->l.Nodup
 | [],_=>List.nodup_nil
 | a::l,h=>by
  simp only [eU,Bool.and_eq_true,List.all_eq_true,Bool.not_eq_true'] at h
  refine List.nodup_cons.2 ⟨fun hm=>?_,hJ h.2⟩
  have:=h.1 a hm
  simp at this
def Valid.env {P:Program}{E E':Env}(he:E.T=E'.T){g:FuncId}{c:fR}(h:Valid P E g c):Valid P E' g c:=by
 have :E.cells=E'.cells:=by funext t;simp [Env.cells,he]
 unfold Valid at *
 rw [<-this];exact h
def gA.env {P:Program}{E E':Env}(he:E.T=E'.T){l:List (Nat×fR)}(h:gA P E l):gA P E' l:=by
 induction h with
 | nil=>exact .nil
 | cons hv _ ih=>exact .cons (hv.env he) ih
def rA (fn:Func)(aU:fR)(nt:Nat):Bool:=
 !(fn.name == "runtime.NumGoroutine") && (fn.body.isSome && (aU.res.tH && (eU (cS (bL fn)) && Nat.beq (aU.args.length + (fn.ntmps - aU.args.length)) nt)))
def fK:List (Nat×gC)->Nat->List gC
 | [],_=>[]
 | (k,c)::l,g=>bif Nat.beq k g then c::fK l g else fK l g
inductive jR (P:Program)(E:Env):List (Nat×gC)->Prop where
 | nil:jR P E []
 | cons {g c l}:eT P E g c->jR P E l->jR P E ((g,c)::l)
def jR.get {P:Program}{E:Env}:∀{l:List (Nat×gC)},jR P E l->∀g c,c∈fK l g->eT P E g c
 | _,.nil,g,c,h=>by cases h
 | (k,u)::l,.cons hv ht,g,c,h=>by
  simp only [fK] at h
  cases hb:Nat.beq k g<;>simp only [hb,bh,bu] at h
  ·exact ht.get g c h
  ·rcases List.mem_cons.1 h with rfl | h
   ·rw [<-Nat.eq_of_beq_eq_true hb];exact hv
   ·exact ht.get g c h
def eT.env {P:Program}{E E':Env}(he:E.T=E'.T){g:FuncId}{c:gC}(h:eT P E g c):eT P E' g c:=by
 have :E.cells=E'.cells:=by funext t;simp [Env.cells,he]
 unfold eT at *
 rw [<-this];exact h
def jR.env {P:Program}{E E':Env}(he:E.T=E'.T){l:List (Nat×gC)}(h:jR P E l):jR P E' l:=by
 induction h with
 | nil=>exact .nil
 | cons hv _ ih=>exact .cons (hv.env he) ih
def sU {mt:Bool}{P:Program}{T:List (Nat×TI)}{G:List (Nat×fR)}{S:List (Nat×gC)}{nt:Nat}{g:FuncId}{fn:Func}{aU:fR}(hm:P.follows .mixedOrders=true)(hT:eM P T=true)(hG:gA P (dG T) G)(hS:jR P (dG T) S)
  (hf:P.funcs[g]?=some fn) (hb:rA fn aU nt=true) (live:Nat->Live)
  (h:∀ls r,pJ (dG T).cells aU.args ls->aU.sem ls=some r->∃n,eG { T:=assoc T,G:=dw G,nt:=nt,M:=fK S,mt:=mt } live fn aU.res n (cU aU.args ls)=some r):Valid P (dG T) g aU:=by
 simp only [rA,Bool.and_eq_true,Bool.not_eq_true'] at hb
 obtain ⟨b1,b2,b3,b4,b5⟩:=hb
 obtain ⟨c,hc⟩:=Option.isSome_iff_exists.1 b2
 have hbody:bL fn=c:=by simp [bL,hc]
 have hT':∀t i,({ T:=assoc T,G:=dw G,nt:=nt,M:=fK S,mt:=mt }:Env).T t=some i->gv P { T:=assoc T,G:=dw G,nt:=nt,M:=fK S,mt:=mt } t i:=ng (E:={ T:=assoc T,G:=dw G,nt:=nt,M:=fK S,mt:=mt }) rfl hT
 have hG':∀g c,c∈({ T:=assoc T,G:=dw G,nt:=nt,M:=fK S,mt:=mt }:Env).G g->Valid P { T:=assoc T,G:=dw G,nt:=nt,M:=fK S,mt:=mt } g c:=(gA.env (E:=dG T) (E':={ T:=assoc T,G:=dw G,nt:=nt,M:=fK S,mt:=mt }) rfl hG).get
 have hS':∀g c,c∈({ T:=assoc T,G:=dw G,nt:=nt,M:=fK S,mt:=mt }:Env).M g->eT P { T:=assoc T,G:=dw G,nt:=nt,M:=fK S,mt:=mt } g c:=(jR.env (E:=dG T) (E':={ T:=assoc T,G:=dw G,nt:=nt,M:=fK S,mt:=mt }) rfl hS).get
 exact ur (E:={ T:=assoc T,G:=dw G,nt:=nt,M:=fK S,mt:=mt }) hT' hG' ⟨hS',fun _ _ h=>(nomatch h)⟩ (fun w0 M Z0 ans=>wo hT' hG' ⟨hS',fun _ _ h=>(nomatch h)⟩ hm) rfl rfl hf b1 hc b3 (by rw [<-hbody];exact hJ b4) (Nat.eq_of_beq_eq_true b5) live h
def nU:List (Nat×kI)->Nat->List kI
 | [],_=>[]
 | (k,c)::l,g=>bif Nat.beq k g then c::nU l g else nU l g
inductive oo (P:Program)(E:Env)(n:Nat):List (Nat×kI)->Prop where
 | nil:oo P E n []
 | cons {g c l}:gQ P E n g c->oo P E n l->oo P E n ((g,c)::l)
def oo.get {P:Program}{E:Env}{n:Nat}:∀{l:List (Nat×kI)},oo P E n l->∀g c,c∈nU l g->gQ P E n g c
 | _,.nil,g,c,h=>by cases h
 | (k,u)::l,.cons hv ht,g,c,h=>by
  simp only [nU] at h
  cases hb:Nat.beq k g<;>simp only [hb,bh,bu] at h
  ·exact ht.get g c h
  ·rcases List.mem_cons.1 h with rfl | h
   ·rw [<-Nat.eq_of_beq_eq_true hb];exact hv
   ·exact ht.get g c h
def gQ.env {P:Program}{E E':Env}(he:E.T=E'.T){n:Nat}{g:FuncId}{c:kI}(h:gQ P E n g c):gQ P E' n g c:=by
 have :E.cells=E'.cells:=by funext t;simp [Env.cells,he]
 unfold gQ qF at *
 rw [<-this];exact h
def oo.env {P:Program}{E E':Env}(he:E.T=E'.T){n:Nat}{l:List (Nat×kI)}(h:oo P E n l):oo P E' n l:=by
 induction h with
 | nil=>exact .nil
 | cons hv _ ih=>exact .cons (hv.env he) ih
def Bp (fn : Func) : Bool := !(fn.name == "runtime.NumGoroutine") && (fn.body.isSome && eU (cS (bL fn)))
section
variable {P:Program} {T:List (Nat×TI)} {G:List (Nat×fR)} {S:List (Nat×gC)} {I:List (Nat×kI)} {nt:Nat} {mt:Bool}
theorem xT {n:Nat}{J:List Nat}{g:FuncId}{fn:Func}(hm:P.follows .mixedOrders=true)(hT:eM P T=true)(hG:gA P (dG T) G)(hS:jR P (dG T) S)(hI:oo P (dG T) n I)
  (hf:P.funcs[g]?=some fn) (hb:Bp fn=true):gQ P (dG T) n g (inl { T:=assoc T,G:=dw G,nt:=nt,M:=fK S,np:=n,mt:=mt,I:=nU I,J:=J } fn):=by
 simp only [Bp,Bool.and_eq_true,Bool.not_eq_true'] at hb
 obtain ⟨b1,b2,b4⟩:=hb
 obtain ⟨c,hc⟩:=Option.isSome_iff_exists.1 b2
 have hbody:bL fn=c:=by simp [bL,hc]
 generalize hE:({ T:=assoc T,G:=dw G,nt:=nt,M:=fK S,np:=n,mt:=mt,I:=nU I,J:=J }:Env)=E
 have e1:E.T=assoc T:=by rw [<-hE]
 obtain rfl:n=E.np:=by rw [<-hE]
 have hS2:ot P E:=⟨by rw [<-hE];exact (jR.env (E:=dG T) rfl hS).get,fun g c h=>gQ.env (E:=dG T) e1.symm (hI.get g c (by rw [<-hE] at h;exact h))⟩
 have hT':∀t i,E.T t=some i->gv P E t i:=ng e1 hT
 have hG':∀g c,c∈E.G g->Valid P E g c:=by rw [<-hE];exact (gA.env (E:=dG T) rfl hG).get
 exact gQ.env (E:=E) e1 (wH hT' hG' hS2 (fun w0 M Z0 ans=>wo hT' hG' hS2 hm) hf b1 hc (by rw [<-hbody];exact hJ b4))
theorem wh {J:List Nat}{g:FuncId}{fn:Func}{aU:fR}(hm:P.follows .mixedOrders=true)(hT:eM P T=true)(hG:gA P (dG T) G)(hS:jR P (dG T) S)(hI:oo P (dG T) 0 I)
  (hf:P.funcs[g]?=some fn) (hb:rA fn aU nt=true) (live:Nat->Live)
  (h:∀ls r,pJ (dG T).cells aU.args ls->aU.sem ls=some r->∃n,eG { T:=assoc T,G:=dw G,nt:=nt,M:=fK S,mt:=mt,I:=nU I,J:=J } live fn aU.res n (cU aU.args ls)=some r):Valid P (dG T) g aU:=by
 simp only [rA,Bool.and_eq_true,Bool.not_eq_true'] at hb
 obtain ⟨b1,b2,b3,b4,b5⟩:=hb
 obtain ⟨c,hc⟩:=Option.isSome_iff_exists.1 b2
 have hbody:bL fn=c:=by simp [bL,hc]
 generalize hE:({ T:=assoc T,G:=dw G,nt:=nt,M:=fK S,mt:=mt,I:=nU I,J:=J }:Env)=E at h
 have e1:E.T=assoc T:=by rw [<-hE]
 have hS2:ot P E:=⟨by rw [<-hE];exact (jR.env (E:=dG T) rfl hS).get,fun g c h=>by rw [<-hE] at h ⊢;exact (oo.env (E:=dG T) rfl hI).get g c h⟩
 have hT':∀t i,E.T t=some i->gv P E t i:=ng e1 hT
 have hG':∀g c,c∈E.G g->Valid P E g c:=by rw [<-hE];exact (gA.env (E:=dG T) rfl hG).get
 have hcell:(dG T).cells=E.cells:=by funext t;simp [Env.cells,e1]
 rw [hcell] at h
 exact ur (E:=E) hT' hG' hS2 (fun w0 M Z0 ans=>wo hT' hG' hS2 hm) e1 (by rw [<-hE]) hf b1 hc b3 (by rw [<-hbody];exact hJ b4) (by rw [<-hE];exact Nat.eq_of_beq_eq_true b5) live h
end
def AL (fn:Func)(aU:gC)(nt:Nat):Bool:=
 !(fn.name == "runtime.NumGoroutine") && (fn.body.isSome && (eU (cS (bL fn)) && Nat.beq (aU.args.length + (fn.ntmps - aU.args.length)) nt))
def AF {P:Program}{T:List (Nat×TI)}{G:List (Nat×fR)}{S:List (Nat×gC)}{nt:Nat}{g:FuncId}{fn:Func}{aU:gC}(hm:P.follows .mixedOrders=true)(hT:eM P T=true)(hG:gA P (dG T) G)(hS:jR P (dG T) S)
  (hf:P.funcs[g]?=some fn) (hb:AL fn aU nt=true) (live:Nat->Live)
  (h:∀ls r,zE (dG T).cells aU.args ls->aU.sem ls=some r->∃n,eG { T:=assoc T,G:=dw G,nt:=nt,M:=fK S,np:=(kD aU.args).length,mt:=true } live fn (.nX (kD aU.args)) n (fY aU.args ls)=some r):eT P (dG T) g aU:=by
 simp only [AL,Bool.and_eq_true,Bool.not_eq_true'] at hb
 obtain ⟨b1,b2,b4,b5⟩:=hb
 obtain ⟨c,hc⟩:=Option.isSome_iff_exists.1 b2
 have hbody:bL fn=c:=by simp [bL,hc]
 generalize hE:({ T:=assoc T,G:=dw G,nt:=nt,M:=fK S,np:=(kD aU.args).length,mt:=true }:Env)=E at h
 have e1:E.T=assoc T:=by rw [<-hE]
 have e2:E.G=dw G:=by rw [<-hE]
 have e3:E.M=fK S:=by rw [<-hE]
 have hT':∀t i,E.T t=some i->gv P E t i:=ng e1 hT
 have hG':∀g c,c∈E.G g->Valid P E g c:=by rw [e2];exact (gA.env (E:=dG T) (E':=E) e1.symm hG).get
 have hS':∀g c,c∈E.M g->eT P E g c:=by rw [e3];exact (jR.env (E:=dG T) (E':=E) e1.symm hS).get
 have hcell:(dG T).cells=E.cells:=by funext t;simp [Env.cells,e1]
 rw [hcell] at h
 have hS2:ot P E:=⟨hS',fun g c h=>by rw [<-hE] at h;exact (nomatch h)⟩
 exact wO (E:=E) hT' hG' hS2 (fun w0 M Z0 ans=>wo hT' hG' hS2 hm) e1 (by rw [<-hE]) hf b1 hc (by rw [<-hbody];exact hJ b4) (by rw [<-hE];exact Nat.eq_of_beq_eq_true b5) live h
def valid {P:Program}{T:List (Nat×TI)}{G:List (Nat×fR)}{nt:Nat}{g:FuncId}{fn:Func}{aU:fR}(hm:P.follows .mixedOrders=true)(hT:eM P T=true)(hG:gA P (dG T) G)
  (hf:P.funcs[g]?=some fn) (hb:rA fn aU nt=true) (live:Nat->Live)
  (h:∀ls r,pJ (dG T).cells aU.args ls->aU.sem ls=some r->∃n,eG { T:=assoc T,G:=dw G,nt:=nt } live fn aU.res n (cU aU.args ls)=some r):Valid P (dG T) g aU:=
 sU (S:=[]) hm hT hG .nil hf hb live h
end Go.DM
set_option linter.unusedSectionVars false
namespace Go.DM
inductive Wf (T:Nat->List K):K->L->Prop where
 | int (k:IntKind) (n:Int) (h:(Lit.int k n).wf=true):Wf T (.int k) (.int n)
 | bool (b:Bool):Wf T .bool (.bool b)
 | str (s:aD) (h:s.size<=maxLen):Wf T .str (.str s)
 | sl (e:Nat) (xs:aB) (h:xs.length<=maxLen) (hl:∀r∈xs,r.length=(T e).length) (hr:∀(r:List L) (j:Nat) (kk:K) (l:L),r∈xs->(T e)[j]?=some kk->r[j]?=some l->Wf T kk l):Wf T (.sl e) (.sl xs)
def jN {α:Type}{P:Nat->α->Prop}:∀(n:Nat),(∀j,j<n->∃x,P j x)->∃xs:List α,xs.length=n/\∀j,j<n->∃x,xs[j]?=some x/\P j x
 | 0,_=>⟨[],rfl,fun j h=>by omega⟩
 | n+1,h=>by
  obtain ⟨xs,h1,h2⟩:=jN n fun j hj=>h j (by omega)
  obtain ⟨x,hx⟩:=h n (by omega)
  refine ⟨xs++[x],by simp [h1],fun j hj=>?_⟩
  by_cases hjn:j<n
  ·obtain ⟨y,h3,h4⟩:=h2 j hjn
   exact ⟨y,by rw [List.getElem?_append_left (by omega)];exact h3,h4⟩
  ·have :j=n:=by omega
   subst this
   exact ⟨x,by rw [<-h1];simp,hx⟩
def mA {P:Program}{T:Nat->Option TI}:∀{fs:List Field} {ps:List (Nat×Nat)} {o:Nat} {ks:List K},ko P T fs ps o ks=true->
  ∀l,l<ks.length->∃(j:Nat) (p:Nat×Nat) (ti:TI),ps[j]?=some p/\T p.2=some ti/\o<=p.1/\p.1 - o<=l/\l<p.1 - o+ti.cells.length
 | [],[],o,[],_,l,h=>by simp at h
 | [],[],o,_::_,h,_,_=>by cases h
 | [],_::_,o,ks,h,_,_=>by cases h
 | _::_,[],o,ks,h,_,_=>by cases h
 | f::fs,p::ps,o,ks,h,l,hl=>by
  simp only [ko,Bool.and_eq_true] at h
  obtain ⟨h1,h2,h3,h4⟩:=h
  split at h4
  ·rename_i fi hfi
   split at h4
   ·rename_i ti hti
    simp only [Bool.and_eq_true] at h4
    obtain ⟨h5,h6,h7⟩:=h4
    have e3:=Nat.eq_of_beq_eq_true h3
    by_cases hlt:l<ti.cells.length
    ·exact ⟨0,p,ti,rfl,hti,by omega,by omega,by omega⟩
    ·obtain ⟨j,q,tq,g1,g2,g3,g4,g5⟩:=mA h7 (l - ti.cells.length) (by rw [List.length_drop];omega)
     exact ⟨j+1,q,tq,by simpa using g1,g2,by omega,by omega,by omega⟩
   ·cases h4
  ·cases h4
section
variable {H:Type} {enc:TypeId×Value->H} {P:Program} {w:World} {spare:Nat->Bool} {held:Bool} {E:Env}
theorem zS (hB:∀t i,E.T t=some i->zy P E.T t i=true):∀(n:Nat) {t:Nat} {i:TI} {cs:List Value} {x:DataW H×List MemPlace},E.T t=some i->DataW.trod enc P w 0 spare held n t cs=some x->
  cs.length=i.cells.length/\∀(j:Nat) (kk:K),i.cells[j]?=some kk->∃(l:L) (v:Value),cs[j]?=some v/\Rd E.cells w (fun b=>b<w.heap.size) kk v l/\Wf E.cells kk l:=by
 intro n
 induction n with
 | zero=>intro t i cs x _ h;simp [DataW.trod] at h
 | succ n ih=>
  intro t i cs x ht h
  have hb:=hB t i ht
  obtain ⟨ii,d,z,k1,k2,k3,k4,k5,k6,kby,k7,k8,k9,k10,kpl,k11,k12,qX,rz,k15⟩:=qC (E:=E) hb
  cases ha:i.agg with
  | false=>
   obtain ⟨hl1,_⟩:=k9 ha
   match hc:i.cells,hl1 with
   | [.int k],_=>
    obtain ⟨m,rfl,_,hw⟩:=DataW.trod_int (k12 ha k hc ▸ k2) h
    exact ⟨rfl,fun j kk hj=>by
     cases j with
     | zero=>simp at hj;subst hj;exact ⟨.int m,_,rfl,Rd.int k (.int m),Wf.int k m hw⟩
     | succ j=>simp at hj⟩
   | [.bool],_=>
    obtain ⟨b,rfl,_⟩:=DataW.trod_bool (qX ha hc ▸ k2) h
    exact ⟨rfl,fun j kk hj=>by
     cases j with
     | zero=>simp at hj;subst hj;exact ⟨.bool b,_,rfl,Rd.bool (.bool b),Wf.bool b⟩
     | succ j=>simp at hj⟩
   | [.str],_=>
    obtain ⟨s,rfl,_,hs⟩:=DataW.trod_string (rz ha hc ▸ k2) h
    exact ⟨rfl,fun j kk hj=>by
     cases j with
     | zero=>simp at hj;subst hj;exact ⟨.str s,_,rfl,Rd.str (.str s),Wf.str s hs⟩
     | succ j=>simp at hj⟩
   | [.sl e],_=>
    have hel:i.el=some e:=by simp [TI.el,ha,hc]
    obtain ⟨rfl,ie,hie⟩:=k11 e hel
    have hce:P.cellsOf e=ie.cells.length/\0<ie.cells.length:=by
     obtain ⟨ii',d',z',q1,q2,q3,q4,q5,q6,_⟩:=qC (E:=E) (hB e ie hie)
     exact ⟨by simp [Program.cellsOf,q1,q4],q6⟩
    have hEe:E.cells e=ie.cells:=gG hie
    have fin:∀(l:L) (v:Value),cs=[v]->Rd E.cells w (fun b=>b<w.heap.size) (.sl e) v l->Wf E.cells (.sl e) l->
      cs.length=[K.sl e].length/\∀(j:Nat) (kk:K),[K.sl e][j]?=some kk->∃(l:L) (v:Value),cs[j]?=some v/\Rd E.cells w (fun b=>b<w.heap.size) kk v l/\Wf E.cells kk l:=by
     intro l v hv h1 h2
     subst hv
     exact ⟨rfl,fun j kk hj=>by
      cases j with
      | zero=>simp at hj;subst hj;exact ⟨l,_,rfl,h1,h2⟩
      | succ j=>simp at hj⟩
    rcases DataW.trod_slice k2 h with ⟨hv,_⟩ | ⟨a,len,cap,elems,rest,m,hm,hv,_,hb0,hlc,hcm,hlen,hel',_,_⟩
    ·exact fin (.sl []) _ hv (.nil _ _ _ _ rfl) (.sl e [] (by simp) (fun r hr=>by cases hr) (fun r j kk l hr=>by cases hr))
    ·have hm':m=n:=by omega
     subst hm'
     have each:∀i',i'<len->∃rc:List L×List Value,rc.1.length=ie.cells.length/\(∀j,j<ie.cells.length->w.cell? (a.add (i'*ie.cells.length) |>.add j)=rc.2[j]?)/\
       ∀(j:Nat) (kk:K),ie.cells[j]?=some kk->∃(l:L) (v:Value),rc.1[j]?=some l/\rc.2[j]?=some v/\Rd E.cells w (fun b=>b<w.heap.size) kk v l/\Wf E.cells kk l:=by
      intro i' hi'
      have h1:=hel' i' hi'
      rw [List.getElem?_eq_getElem (by omega)] at h1
      obtain ⟨cs',h2,h3⟩:=Option.bind_eq_some_iff.1 h1
      obtain ⟨_,h4,h5⟩:=World.cells?_some h2
      obtain ⟨h6,h7⟩:=ih hie h3
      obtain ⟨row,r1,r2⟩:=jN (P:=fun j l=>∃v,cs'[j]?=some v/\∀kk,ie.cells[j]?=some kk->Rd E.cells w (fun b=>b<w.heap.size) kk v l/\Wf E.cells kk l) ie.cells.length (fun j hj=>by
       have hk:=List.getElem?_eq_getElem hj
       obtain ⟨l,v,e1,e2,e3⟩:=h7 j _ hk
       exact ⟨l,v,e1,fun kk hkk=>by rw [hk] at hkk;injection hkk with hkk;subst hkk;exact ⟨e2,e3⟩⟩)
      refine ⟨(row,cs'),r1,fun j hj=>?_,fun j kk hj=>?_⟩
      ·rw [hce.1] at h5;exact h5 j (by omega)
      ·obtain ⟨l,e1,v,e2,e3⟩:=r2 j (List.getElem?_eq_some_iff.1 hj).1
       exact ⟨l,v,e1,e2,e3 kk hj⟩
     obtain ⟨rows,g1,g2⟩:=jN len each
     have hwf:Wf E.cells (.sl e) (.sl (rows.map (·.1))):=by
      refine .sl e _ (by simp [g1];omega) (fun r hr=>?_) (fun r j kk l hr hj hl=>?_)
      ·obtain ⟨rc,hrc,rfl⟩:=List.mem_map.1 hr
       obtain ⟨i',hi'⟩:=List.getElem?_of_mem hrc
       obtain ⟨rc',h1,h2,_⟩:=g2 i' (by rw [<-g1];exact (List.getElem?_eq_some_iff.1 hi').1)
       rw [hi'] at h1;injection h1 with h1;subst h1
       rw [h2,hEe]
      ·obtain ⟨rc,hrc,rfl⟩:=List.mem_map.1 hr
       obtain ⟨i',hi'⟩:=List.getElem?_of_mem hrc
       obtain ⟨rc',h1,h2,_,h3⟩:=g2 i' (by rw [<-g1];exact (List.getElem?_eq_some_iff.1 hi').1)
       rw [hi'] at h1;injection h1 with h1;subst h1
       rw [hEe] at hj
       obtain ⟨l',v,e1,_,_,e3⟩:=h3 j kk hj
       rw [hl] at e1;injection e1 with e1;subst e1
       exact e3
     refine fin (.sl (rows.map (·.1))) _ hv ?_ hwf
     rcases Nat.eq_zero_or_pos len with h0 | hpos
     ·subst h0
      exact .nil _ _ _ _ (by simp only [L.aQ];rw [List.eq_nil_of_length_eq_zero g1];rfl)
     ·
      obtain ⟨rc0,h1,h2,h3,h4⟩:=g2 0 hpos
      have hk0:=List.getElem?_eq_getElem hce.2
      obtain ⟨l0,v0,e1,e2,e3,_⟩:=h4 0 _ hk0
      have hc0:=h3 0 hce.2
      rw [e2] at hc0
      obtain ⟨b,o,spot⟩:=a
      have hspot:spot=none:=by simpa [Addr.add] using World.cell?_spot hc0
      subst hspot
      have hblt:b<w.heap.size:=by simpa [Addr.add] using block_lt_of_cell hc0
      refine .sl e len cap b o _ (fun i' j=>(((rows.getD i' ([],[])).2).getD j Go.undef)) (by simp [L.aQ,g1]) hlc (Nat.le_trans hlc hcm) hblt (fun i' j kk hi' hj=>?_) (fun i' j kk hi' hj=>?_)
      ·rw [hEe] at hj ⊢
       obtain ⟨rc,q1,q2,q3,q4⟩:=g2 i' hi'
       obtain ⟨l,v,p1,p2,p3,p4⟩:=q4 j kk hj
       have:=q3 j (List.getElem?_eq_some_iff.1 hj).1
       rw [p2,Addr.add_lit,Addr.add_lit,Nat.add_assoc] at this
       rw [this]
       simp [List.getD_eq_getElem?_getD,q1,p2]
      ·rw [hEe] at hj
       obtain ⟨rc,q1,q2,q3,q4⟩:=g2 i' hi'
       obtain ⟨l,v,p1,p2,p3,p4⟩:=q4 j kk hj
       have e1:((rows.getD i' ([],[])).2).getD j Go.undef=v:=by simp [List.getD_eq_getElem?_getD,q1,p2]
       have e2:((L.sl (rows.map (·.1))).aQ.getD i' []).getD j .hole=l:=by simp [L.aQ,List.getD_eq_getElem?_getD,q1,p1]
       show Rd E.cells w _ kk (((rows.getD i' ([],[])).2).getD j Go.undef) _
       rw [e1,e2];exact p3
  | true=>
   obtain ⟨fs,rfl,_⟩:=k10 ha
   have hcells:P.cellsOf t=i.cells.length:=by simp [Program.cellsOf,k1,k4]
   have hfb:ko P E.T fs.toList i.fields 0 i.cells=true:=by
    have hb':=hb
    unfold zy at hb'
    simp only [k1,k2,k3,ha,bh,Bool.and_eq_true] at hb'
    exact hb'.2.2.2.2.2.1
   obtain ⟨xs,m,hm,_,hl,hxs,hf⟩:=DataW.trod_struct k2 h
   have hm':m=n:=by omega
   subst hm'
   refine ⟨by rw [hl,hcells],fun j kk hj=>?_⟩
   obtain ⟨f,p,ti,c1,c2,c3,c4,c5⟩:=mA hfb j (List.getElem?_eq_some_iff.1 hj).1
   obtain ⟨places,_,hfl,hsp⟩:=iX (E:=E) hfb
   obtain ⟨fl,ti',q1,q2,q3,q4,q5,q6,q7,q8,q9⟩:=hsp f p c1
   rw [c2] at q4;injection q4 with q4;subst q4
   have hfs:fs[f]?=some fl:=by simpa using q1
   have htrod:=hf f fl hfs
   have hxl:f<xs.length:=by
    rw [hxs];exact (Array.getElem?_eq_some_iff.1 hfs).1
   rw [List.getElem?_eq_getElem hxl,q3,q2] at htrod
   obtain ⟨_,h2⟩:=ih c2 htrod
   have hkk:ti.cells[j - p.1]?=some kk:=by
    have hlt:j - p.1<ti.cells.length:=by omega
    have hg:=List.getElem?_eq_getElem hlt
    have:=q8 _ _ hg
    rw [show p.1 - 0+(j - p.1)=j by omega,hj] at this
    rw [hg];exact this.symm
   obtain ⟨l,v,e1,e2,e3⟩:=h2 (j - p.1) kk hkk
   refine ⟨l,v,?_,e2,e3⟩
   rw [List.getElem?_take] at e1
   split at e1
   ·rw [List.getElem?_drop] at e1
    rw [<-e1];congr 1;omega
   ·cases e1
end
end Go.DM
set_option linter.unusedSectionVars false
namespace Go.DM
open Go.ChangeShapes Go.WideShapes Go.RowKit
def nJ (T:Nat->Option TI)(t:Nat):ga:=match T t with
 | some i=>bif i.agg then .agg i.cells else .rd (i.cells.headD .bool)
 | none=>.rd .bool
def vO (T:Nat->Option TI)(ts:List Nat)(sem:List L->Option (List L)):fR:=⟨ts.map (nJ T),.one (.rd .bool),sem⟩
def eg (T:Nat->List K)(ks:List K)(ls:List L):Prop:=ls.length=ks.length/\∀(j:Nat) (k:K),ks[j]?=some k->∃l,ls[j]?=some l/\Wf T k l
def eg.append {T:Nat->List K}{a b:List K}{x y:List L}(h:eg T a x)(k:eg T b y):eg T (a++b) (x++y):=by
 refine ⟨by simp [h.1,k.1],fun j kk hj=>?_⟩
 by_cases hl:j<a.length
 ·rw [List.getElem?_append_left hl] at hj
  obtain ⟨l,e1,e2⟩:=h.2 j kk hj
  exact ⟨l,by rw [List.getElem?_append_left (by rw [h.1];exact hl)];exact e1,e2⟩
 ·rw [List.getElem?_append_right (by omega)] at hj
  obtain ⟨l,e1,e2⟩:=k.2 _ kk hj
  exact ⟨l,by rw [List.getElem?_append_right (by rw [h.1];omega),h.1];exact e1,e2⟩
section
variable {H:Type} {enc:TypeId×Value->H} {P:Program} {W:World} {E:Env} {r:Reach} {b0:Nat}
theorem yQ (hB:∀t i,E.T t=some i->zy P E.T t i=true){t:Nat}{i:TI}(ht:E.T t=some i){v:Value}{d:DataW H}{ps:List MemPlace}(h:DataW.Trod enc P W 0 (fun _=>true) true t v d ps)(hv:Value.okWide P W r b0 t v) :
  ∃ls,eg E.cells i.cells ls/\∀rest,V2 E.cells W (A0 (fun _=>True) W) (zi (nJ E.T t) (ls++rest)) v:=by
 obtain ⟨fuel,hf⟩:=h
 obtain ⟨h1,h2⟩:=zS hB fuel ht hf
 obtain ⟨ls,g1,g2⟩:=jN (P:=fun j l=>∃x,v.cells.toList[j]?=some x/\∀kk,i.cells[j]?=some kk->Rd E.cells W (fun b=>b<W.heap.size) kk x l/\Wf E.cells kk l) i.cells.length (fun j hj=>by
  have hk:=List.getElem?_eq_getElem hj
  obtain ⟨l,x,e1,e2,e3⟩:=h2 j _ hk
  exact ⟨l,x,e1,fun kk hkk=>by rw [hk] at hkk;injection hkk with hkk;subst hkk;exact ⟨e2,e3⟩⟩)
 have hz:∀b,b<W.heap.size->fT W (A0 (fun _=>True) W) b:=fun b hb=>⟨.inl trivial,hb,fun _ h=>h⟩
 have hrd:∀(j:Nat) (kk:K),i.cells[j]?=some kk->∃(l:L) (x:Value),ls[j]?=some l/\v.cells.toList[j]?=some x/\Rd E.cells W (fT W (A0 (fun _=>True) W)) kk x l/\Wf E.cells kk l:=by
  intro j kk hj
  obtain ⟨l,e1,x,e2,e3⟩:=g2 j (List.getElem?_eq_some_iff.1 hj).1
  exact ⟨l,x,e1,e2,(e3 kk hj).1.mono hz,(e3 kk hj).2⟩
 refine ⟨ls,⟨g1,fun j k hj=>?_⟩,fun rest=>?_⟩
 ·obtain ⟨l,x,e1,_,_,e4⟩:=hrd j k hj
  exact ⟨l,e1,e4⟩
 ·obtain ⟨ii,dd,z,k1,k2,k3,k4,k5,k6,kby,k7,k8,k9,k10,kpl,k11,k12,qX,rz,k15⟩:=qC (E:=E) (hB t i ht)
  have hF:=pM (T:=E.cells) (w:=W) (A:=A0 (fun _=>True) W) (d:=none) (fun r hr=>(nomatch hr)) i.cells ls (fun j=>v.cells.toList.getD j Go.undef) (fun j kk hj=>by
   obtain ⟨l,x,e1,e2,e3,_⟩:=hrd j kk hj
   rw [List.getD_eq_getElem?_getD,e2,List.getD_eq_getElem?_getD,e1];exact e3)
  rw [qt h1] at hF
  have hp:nJ E.T t=bif i.agg then .agg i.cells else .rd (i.cells.headD .bool):=by simp [nJ,ht]
  rw [hp]
  cases ha:i.agg with
  | true=>
   show V2 E.cells W _ (.agg (mG none i.cells (ls++rest))) v
   obtain ⟨fs,rfl,_⟩:=k10 ha
   obtain ⟨cs,rfl,_⟩:=okWide_struct k2 hv
   rw [lD _ _ _ _ g1]
   exact V1.v2 (v:=.agg _) ⟨cs.toList,by simp,hF⟩
  | false=>
   show V2 E.cells W _ (yU none (i.cells.headD .bool) ((ls++rest).headD .hole)) v
   obtain ⟨hl1,_⟩:=k9 ha
   have hone:∃x,v=x/\v.cells=#[x]:=by
    match hc:i.cells,hl1 with
    | [.int k],_=>obtain ⟨n,rfl⟩:=okWide_int (k12 ha k hc ▸ k2) hv;exact ⟨_,rfl,rfl⟩
    | [.bool],_=>obtain ⟨n,rfl⟩:=okWide_bool (qX ha hc ▸ k2) hv;exact ⟨_,rfl,rfl⟩
    | [.str],_=>obtain ⟨n,rfl⟩:=okWide_string (rz ha hc ▸ k2) hv;exact ⟨_,rfl,rfl⟩
    | [.sl e],_=>
     have hel:i.el=some e:=by simp [TI.el,ha,hc]
     obtain ⟨rfl,_⟩:=k11 e hel
     obtain ⟨a,n,c,rfl⟩:=okWide_slice k2 hv;exact ⟨_,rfl,rfl⟩
   obtain ⟨x,rfl,hcx⟩:=hone
   match hc:i.cells,hl1 with
   | [k],_=>
    obtain ⟨l,y,e1,e2,e3,_⟩:=hrd 0 k (by rw [hc];rfl)
    rw [hcx] at e2
    simp at e2
    subst e2
    have :(ls++rest).headD .hole=l:=by
     rw [gy,List.getD_eq_getElem?_getD,List.getElem?_append_left (by rw [g1,hc];simp),e1];rfl
    rw [this]
    exact (sY (fun r hr=>by cases hr) e3).v2
theorem zA (hB:∀t i,E.T t=some i->zy P E.T t i=true){t:Nat}{i:TI}(ht:E.T t=some i):(nJ E.T t).n=i.cells.length:=by
 have hp:nJ E.T t=bif i.agg then .agg i.cells else .rd (i.cells.headD .bool):=by simp [nJ,ht]
 rw [hp]
 cases ha:i.agg with
 | true=>rfl
 | false=>
  obtain ⟨ii,dd,z,k1,k2,k3,k4,k5,k6,kby,k7,k8,k9,_⟩:=qC (E:=E) (hB t i ht)
  rw [(k9 ha).1];rfl
theorem rW (hB:∀t i,E.T t=some i->zy P E.T t i=true):∀{ts:List Nat} {vs:List Value} {ds:List (DataW H)} {ps:List MemPlace},(∀t∈ts,(E.T t).isSome=true)->DataW.TrodAll enc P W 0 (fun _=>true) true ts vs ds ps->
  (∀(j:Nat) (t:TypeId) (v:Value),ts[j]?=some t->vs[j]?=some v->Value.okWide P W r b0 t v)->∃ls,eg E.cells (ts.flatMap E.cells) ls/\F2 (V2 E.cells W (A0 (fun _=>True) W)) (jJ (ts.map (nJ E.T)) ls) vs
 | [],[],ds,ps,_,_,_=>⟨[],⟨rfl,fun j k hj=>by simp at hj⟩,.nil⟩
 | [],_::_,[],ps,_,h,_=>h.elim
 | [],_::_,_::_,ps,_,h,_=>h.elim
 | _::_,[],[],ps,_,h,_=>h.elim
 | _::_,[],_::_,ps,_,h,_=>h.elim
 | _::_,_::_,[],ps,_,h,_=>h.elim
 | t::ts,v::vs,d::ds,ps,hs,⟨p,q,h1,h2,_⟩,hv=>by
  obtain ⟨i,hi⟩:=Option.isSome_iff_exists.1 (hs t (by simp))
  obtain ⟨a,g1,g2⟩:=yQ hB hi h1 (hv 0 t v rfl rfl)
  obtain ⟨b,g3,g4⟩:=rW hB (fun t ht=>hs t (by simp [ht])) h2 (fun j t v h h'=>hv (j+1) t v (by simpa using h) (by simpa using h'))
  have hc:E.cells t=i.cells:=gG hi
  refine ⟨a++b,by rw [List.flatMap_cons,hc];exact g1.append g3,?_⟩
  refine .cons (g2 b) ?_
  rw [zA hB hi,<-g1.1,jo,List.drop_left]
  exact g4
theorem mm (hl:laidOutB P=true){W':World}(hb:Below W.heap.size W W'):∀{ts:List Nat} {vs:List Value} {ds:List (DataW H)} {ps:List MemPlace},(ts.all fun t=>P.readableRec t&&decide (t<P.types.size))=true->
  DataW.TrodAll enc P W 0 (fun _=>true) true ts vs ds ps->DataW.TrodAll enc P W' 0 (fun b=>decide (b<W.heap.size)) true ts vs ds ps
 | [],[],[],ps,_,h=>h
 | [],_::_,[],ps,_,h=>h.elim
 | [],[],_::_,ps,_,h=>h.elim
 | [],_::_,_::_,ps,_,h=>h.elim
 | _::_,[],[],ps,_,h=>h.elim
 | _::_,[],_::_,ps,_,h=>h.elim
 | _::_,_::_,[],ps,_,h=>h.elim
 | t::ts,v::vs,d::ds,ps,hs,⟨p,q,h1,h2,h3⟩=>by
  simp only [List.all_cons,Bool.and_eq_true,decide_eq_true_eq] at hs
  refine ⟨p,q,Below.trod hl hs.1.1 hs.1.2 h1 hb ?_,mm hl hb (by simpa using hs.2) h2,h3⟩
  obtain ⟨fuel,hf⟩:=h1
  exact DataW.trod_lt fuel _ _ _ hf
theorem wG {g:FuncId}{ts:List Nat}{sem:List L->Option (List L)}(hV:Valid P E g (vO E.T ts sem)){ls:List L}{vs:List Value}(hs:sem ls=some [.bool true])
  (hf:F2 (V2 E.cells W (A0 (fun _=>True) W)) (jJ (ts.map (nJ E.T)) ls) vs):Calls P g vs.toArray W fun e W'=>e=.returned (.bool true)/\Below W.heap.size W W':=by
 refine (hV.2.2 ls _ W vs (fun _=>True) hs hf).mono fun e W' ⟨rv,A',h1,h2,_,_,_,h3⟩=>?_
 have :rv=.bool true:=h3
 subst this
 exact ⟨h1,⟨h2.os,h2.tape,h2.output,h2.size,fun k hk=>h2.block k hk (fun h=>h)⟩⟩
end
end Go.DM
namespace Go.DM
def iter {Pt:Type}(step:(Pt->aJ)->Pt->aJ):Nat->Pt->aJ
 | 0=>fun _=>none
 | n+1=>step (iter step n)
def qK {E:Env}{live:Nat->Live}{f:Func}{res:RP}{Pt:Type}{id:Pt->Nat}{vs:Pt->List V}{hs:Pt->List aV}{step:(Pt->aJ)->Pt->aJ}
  (h:∀(I:cB) (p:Pt),cR E live I (id p) (bL f) (fm (live (id p)) (vs p) (hs p)) (cA E f res)=step (fun q=>I (id q) (vs q) (hs q)) p) :
  ∀(n:Nat) (p:Pt),qN E live f res n (id p) (vs p) (hs p)=iter step n p
 | 0,_=>rfl
 | n+1,p=>by
  show cR E live (qN E live f res n) (id p) (bL f) (fm (live (id p)) (vs p) (hs p)) (cA E f res)=step (iter step n) p
  rw [h]
  congr 1
  funext q
  exact qK h n q
def cq {E:Env}{live:Nat->Live}{f:Func}{res:RP}{Pt:Type}{id:Pt->Nat}{vs:Pt->List V}{hs:Pt->List aV}{step:(Pt->aJ)->Pt->aJ}{s:St}{start:(Pt->aJ)->aJ}
  (h:∀(I:cB) (p:Pt),cR E live I (id p) (bL f) (fm (live (id p)) (vs p) (hs p)) (cA E f res)=step (fun q=>I (id q) (vs q) (hs q)) p)
  (h0:∀I:cB,eL E live I (bL f) s (cA E f res)=start (fun q=>I (id q) (vs q) (hs q))) (n:Nat):eG E live f res n s=start (iter step n):=by
 unfold eG
 rw [h0]
 congr 1
 funext q
 exact qK h n q
end Go.DM
namespace Go.DM
def wY {P:Program}{l:List (Nat×TI)}(h:eM P l=true):∀t i,(dG l).T t=some i->zy P (dG l).T t i=true:=by
 intro t i ht
 simp only [eM,List.all_eq_true] at h
 exact h (t,i) (ou ht)
def oM {H:Type}{enc:TypeId×Value->H}{P:Program}{w:World}{base:Nat}{sp:Nat->Bool}{held:Bool}:∀{ts:List TypeId} {vs:List Value} {ds:List (DataW H)} {ps:List MemPlace},DataW.TrodAll enc P w base sp held ts vs ds ps->ds.length=ts.length
 | [],[],[],_,_=>rfl
 | [],[],_::_,_,h=>h.elim
 | [],_::_,[],_,h=>h.elim
 | [],_::_,_::_,_,h=>h.elim
 | _::_,[],[],_,h=>h.elim
 | _::_,[],_::_,_,h=>h.elim
 | _::_,_::_,[],_,h=>h.elim
 | _::_,_::_,_::_,_,⟨_,_,_,h,_⟩=>by simp [oM h]
def tV {P:Program}{E:Env}{g:FuncId}{aU:fR}(he:lX P g)(hok:aU.res.ok=true)(hR:∀r,aU.res.R r=[])
  (h:∀(ls r:List L) (w:World) (vs:List Value) (Z:Nat->Prop),aU.sem ls=some r->F2 (V2 E.cells w (A0 Z w)) (jJ aU.args ls) vs->
   Calls P g vs.toArray w fun e w'=>∃rv,e=.returned rv/\w'=w/\V2 E.cells w (A0 Z w) (aU.res.V r 0) rv):Valid P E g aU:=by
 refine ⟨he,hok,fun ls r w vs Z hs hf=>(h ls r w vs Z hs hf).mono fun e w' ⟨rv,h1,h2,h3⟩=>?_⟩
 subst h2
 refine ⟨rv,A0 Z w',h1,Fr.refl _ _,rfl,fun i=>?_,?_,h3⟩
 ·rw [hR];simp [A0]
 ·rw [hR]
  exact ⟨fun _ _ h=>h.elim,fun _ _ _ h=>h.elim,fun _ _=>rfl,fun _ _ h=>h.elim,Fr.refl _ _,fun _ _ h=>h.elim,fun _ h=>.inr (h.resolve_left id),fun j hj=>absurd hj (Nat.not_lt_zero j)⟩
def aH {i n:Nat}(h:i<n)(hn:n<=maxLen):IntKind.i64.wrap ((i:Int)+1)=((i+1:Nat):Int):=by
 rw [Go.IntWalk.i64_in _ (by simp only [maxLen] at hn;omega)];omega
def up {xs:aB}{Q:Nat->Prop}(h0:∀i,xs.length<=i->i=xs.length->Q i)(h1:∀i (h:i<xs.length),Q (i+1)->Q i):∀i,i<=xs.length->Q i:=by
 have key:∀k i,i+k=xs.length->Q i:=by
  intro k
  induction k with
  | zero=>intro i hi;exact h0 i (by omega) (by omega)
  | succ k ih=>intro i hi;exact h1 i (by omega) (ih (i+1) (by omega))
 exact fun i hi=>key (xs.length - i) i (by omega)
def take_set {α:Type}{c:List α}{i:Nat}{v:α}(h:i<c.length):(c.set i v).take (i+1)=c.take i++[v]:=by
 rw [List.take_succ_eq_append_getElem (by simpa using h),List.take_set_of_le (by omega)]
 simp
def cz (n:Nat):Int.toNat (n:Int)=n:=Eq.trans (Int.toNat_natCast n) rfl
@[simp] def ff (s:aD):(s==s)=true:=by rw [beq_toListBytes];simp
end Go.DM
namespace Go.DM
class RT (β:Type) where
 enc:β->List L
 dec:List L->β
 n:Nat
 de:∀b rest,dec (enc b++rest)=b
 dr:∀b rest,aA n (enc b++rest)=rest
instance :RT Int:=⟨fun n=>[.int n],fun r=>(r.headD .hole).toInt,1,fun _ _=>rfl,fun _ _=>rfl⟩
instance :RT Bool:=⟨fun n=>[.bool n],fun r=>(r.headD .hole).toBool,1,fun _ _=>rfl,fun _ _=>rfl⟩
instance :RT aD:=⟨fun n=>[.str n],fun r=>(r.headD .hole).toStr,1,fun _ _=>rfl,fun _ _=>rfl⟩
instance :RT (aB):=⟨fun n=>[.sl n],fun r=>(r.headD .hole).aQ,1,fun _ _=>rfl,fun _ _=>rfl⟩
def rC:∀(m n:Nat) (l:List L),aA (m+n) l=aA n (aA m l)
 | 0,n,l=>by rw [Nat.zero_add];rfl
 | m+1,n,l=>by rw [show m+1+n=(m+n)+1 by omega];exact rC m n l.tail
instance {α β:Type} [RT α] [RT β]:RT (α×β):=
 ⟨fun p=>RT.enc p.1++RT.enc p.2,fun r=>(RT.dec r,RT.dec (aA (RT.n α) r)),RT.n α+RT.n β,
  fun b rest=>by simp only [List.append_assoc,RT.de,RT.dr],
  fun b rest=>by simp only [List.append_assoc,rC,RT.dr]⟩
def ret {β:Type}[RT β](b:β):aJ:=some (RT.enc b)
def call {β:Type}[RT β](o:Option β)(k:β->aJ):aJ:=(o.map RT.enc).bind fun r=>k (RT.dec r)
def wN {β:Type}[RT β](b:β)(k:β->aJ):call (some b) k=k b:=by
 have:=RT.de b []
 rw [List.append_nil] at this
 simp [call,this]
def call_eq {β:Type}[RT β]{o:Option β}{b:β}(h:o=some b)(k:β->aJ):call o k=k b:=by rw [h,wN]
def gm (r:List L):Int:=(r.headD .hole).toInt
def Bz (r:List L):Bool:=(r.headD .hole).toBool
def sDec (r:List L):aD:=(r.headD .hole).toStr
def me (r:List L):aB:=(r.headD .hole).aQ
def jt (xs:aB)(i:Nat):Int:=gm (List.getD xs i [])
def BL (xs:aB)(i:Nat):Bool:=Bz (List.getD xs i [])
def pV (xs:aB)(i:Nat):aD:=sDec (List.getD xs i [])
def oq (xs:aB)(i:Nat):aB:=me (List.getD xs i [])
def dZ (s:aD)(i:Nat):Int:=((List.getD s.data.toList i 0).toNat:Int)
def bq (n:Int):List L:=[.int n]
def wR (n:Bool):List L:=[.bool n]
def cG (n:aD):List L:=[.str n]
def dI {α:Type}(f:α->List L)(c:List α):List L:=[.sl (c.map f)]
def lu {a b:Int}(h:bq a=bq b):a=b:=by injection h with h;injection h
def xD {a b:Bool}(h:wR a=wR b):a=b:=by injection h with h;injection h
def uj {a b:aD}(h:cG a=cG b):a=b:=by injection h with h;injection h
def map_inj {α β:Type}{f:α->β}(hf:∀{a b:α},f a=f b->a=b):∀{a b:List α},a.map f=b.map f->a=b
 | [],[],_=>rfl
 | [],_::_,h=>by cases h
 | _::_,[],h=>by cases h
 | a::as,b::bs,h=>by
  simp only [List.map_cons,List.cons.injEq] at h
  rw [hf h.1,map_inj hf h.2]
def uL {α:Type}{f:α->List L}(hf:∀{a b:α},f a=f b->a=b){a b:List α}(h:dI f a=dI f b):a=b:=by
 injection h with h;injection h with h;exact map_inj hf h
def getD_map {α:Type}{f:α->List L}{xs:List α}{i:Nat}(h:i<xs.length):List.getD (xs.map f) i []=f xs[i]:=by
 simp [List.getD_eq_getElem?_getD,h]
def sV {xs:List Int}{i:Nat}(h:i<xs.length):jt (xs.map bq) i=xs[i]:=by unfold jt;rw [getD_map h];rfl
def pQ {xs:List aD}{i:Nat}(h:i<xs.length):pV (xs.map cG) i=xs[i]:=by unfold pV;rw [getD_map h];rfl
def pT {α:Type}{f:α->List L}{xs:List (List α)}{i:Nat}(h:i<xs.length):oq (xs.map (dI f)) i=xs[i].map f:=by unfold oq;rw [getD_map h];rfl
def ofM {A A' B:Type}(r:A->A')(g:A->Prop)(m:A->B)(x:A'):Option B:=
 open Classical in if h:∃a,r a=x/\g a then some (m (Classical.choose h)) else none
def As {A A' B:Type}{r:A->A'}{g:A->Prop}{m:A->B}{a:A}(hr:∀a b,r a=r b->a=b)(h:g a):ofM r g m (r a)=some (m a):=by
 have hx:∃b,r b=r a/\g b:=⟨a,rfl,h⟩
 unfold ofM
 rw [dif_pos hx,hr _ _ (Classical.choose_spec hx).1]
def jZ {A A' B:Type}{r:A->A'}{g:A->Prop}{m:A->B}{x:A'}{v:B}(h:ofM r g m x=some v):∃a,g a/\r a=x/\m a=v:=by
 unfold ofM at h
 split at h
 ·rename_i hx
  injection h with h
  exact ⟨_,(Classical.choose_spec hx).2,(Classical.choose_spec hx).1,h⟩
 ·cases h
def map_some {α β:Type}{f:α->β}{o:Option α}{b:β}(h:o.map f=some b):∃a,o=some a/\f a=b:=by
 cases o with
 | none=>cases h
 | some a=>injection h with h;exact ⟨a,rfl,h⟩
def dY {α:Type}(a b:α):Bool:=open Classical in decide (a=b)
def dh {α:Type}{a b:α}:dY a b=true↔a=b:=by simp [dY]
def eP {α:Type}(a:α):dY a a=true:=dh.2 rfl
def lV {α:Type}{a b:α}:dY a b=false↔a≠b:=by simp [dY]
def bM {α:Type}(n:Nat)(p:α->Prop)(xs:List α):Prop:=xs.length<=n/\∀x∈xs,p x
def bM.get {α:Type}{n:Nat}{p:α->Prop}{xs:List α}(h:bM n p xs){i:Nat}(hi:i<xs.length):p xs[i]:=h.2 _ (List.getElem_mem hi)
def bM.mono {α:Type}{n m:Nat}{p q:α->Prop}{xs:List α}(h:bM n p xs)(hn:n<=m)(hpq:∀x,p x->q x):bM m q xs:=⟨Nat.le_trans h.1 hn,fun x hx=>hpq x (h.2 x hx)⟩
def bM.nil {α:Type}{n:Nat}{p:α->Prop}:bM n p ([]:List α):=⟨Nat.zero_le _,fun x hx=>(nomatch hx)⟩
def dJ {α:Type}(f:α->Nat)(xs:List α):Nat:=xs.length+(xs.map f).sum
def tD {α:Type}{f:α->Nat}:∀{xs:List α} {x:α},x∈xs->f x<=(xs.map f).sum
 | y::ys,x,h=>by
  simp only [List.map_cons,List.sum_cons]
  rcases List.mem_cons.1 h with rfl | h
  ·omega
  ·have:=tD (f:=f) h;omega
def iQ {α:Type}{f:α->Nat}{p:α->Prop}{n:Nat}{xs:List α}(h:dJ f xs<=n)(hp:∀x,f x<=n->p x):bM n p xs:=by
 unfold dJ at h
 exact ⟨by omega,fun x hx=>hp x (by have:=tD (f:=f) hx;omega)⟩
def xe {P:Program}{E:Env}{g:FuncId}{aU:fR}{el:Nat}(he:lX P g)(hr:aU.res=.one (.fr el))
  (h:∀(ls r:List L) (w:World) (vs:List Value) (Z:Nat->Prop),aU.sem ls=some r->F2 (V2 E.cells w (A0 Z w)) (jJ aU.args ls) vs->
   Calls P g vs.toArray w fun e w'=>∃(rv:Value) (S:Nat->Prop),e=.returned rv/\Fr w w' (fun _=>False)/\(∀b,S b->w.heap.size<=b/\b<w'.heap.size)/\fC E.cells w' S (.sl el) rv (.sl (r.headD .hole).aQ)):Valid P E g aU:=by
 refine ⟨he,by rw [hr];rfl,fun ls r w vs Z hs hf=>(h ls r w vs Z hs hf).mono fun e w' ⟨rv,S,h1,h2,h3,h4⟩=>?_⟩
 have hR:aU.res.R r=[.row el (r.headD .hole).aQ]:=by rw [hr];rfl
 have hV:aU.res.V r 0=.own 0:=by rw [hr];rfl
 obtain ⟨a,n,c,hsl,_⟩:=h4.wT
 refine ⟨rv,{ v:=fun _=>rv,N:=fun i=>if i=0 then S else fun _=>False,al:=fun i=>i<1,Z:=(A0 Z w).Z },h1,h2,rfl,fun i=>by rw [hR];rfl,?_,?_⟩
 ·rw [hR]
  refine ⟨fun i b hb=>?_,fun i j b hb hb'=>?_,fun i hi=>?_,fun i=>?_,h2,fun i b hb=>?_,fun b hb=>.inr (hb.resolve_left id),fun j hj=>absurd hj (Nat.not_lt_zero j)⟩
  ·by_cases hi:i=0
   ·simp only [hi,if_true] at hb;exact (h3 b hb).2
   ·simp only [hi,if_false] at hb
  ·by_cases hi:i=0<;>by_cases hj:j=0
   ·rw [hi,hj]
   ·simp only [hj,if_false] at hb'
   ·simp only [hi,if_false] at hb
   ·simp only [hi,if_false] at hb
  ·have :i≠0:=fun e=>hi (by show i<1;omega)
   simp [eK,bS _ _ this]
  ·by_cases hi:i=0
   ·subst hi
    simp only [eK,bO]
    exact ⟨Nat.lt_one_iff.2 rfl,by simpa using h4⟩
   ·simp only [eK,bS _ _ hi]
    intro b hb
    simp only [hi,if_false] at hb
  ·by_cases hi:i=0
   ·simp only [hi,if_true] at hb;exact .inr (h3 b hb).1
   ·simp only [hi,if_false] at hb
 ·rw [hV]
  exact V0.v2 (v:=.own 0) ⟨Nat.lt_one_iff.2 rfl,rfl,a,n,c,hsl⟩
def aK {i n:Nat}(h:i<n):decide ((i:Int)<(n:Int))=true:=by simp [h]
def dR {n:Nat}:decide ((n:Int)<(n:Int))=false:=by simp
def aI {i:Nat}:decide ((0:Int)<=(i:Int))=true:=by simp
end Go.DM
namespace Go.DM
def iE (s:Nat)(left:Int):Int:=if left<(s:Int) then -1 else left - s
def cO {s:Nat}{left:Int}(h:left<(s:Int)):iE s left=-1:=if_pos h
def dm {s:Nat}{left:Int}(h:¬left<(s:Int)):iE s left=left - s:=if_neg h
def dc {x:Int}(h:0<=x):decide (x<0)=false:=decide_eq_false (by omega)
def lO {s:Nat}{left:Int}(h0:0<=left)(h1:left<=1048576)(hs:s<=maxLen):IntKind.i64.wrap (left - (s:Int))=left - s:=
 Go.IntWalk.i64_in _ (by simp only [maxLen] at hs;omega)
def qD {α:Type}{f:α->Nat}(h:∀x,f x=0):∀xs:List α,(xs.map f).sum=0
 | []=>rfl
 | x::xs=>by simp [h x,qD h xs]
def zk {Pt α:Type}{step:(Pt->aJ)->Pt->aJ}{pt:Int->Nat->Pt}{xs:List α}{f:α->Nat}
  (h1:∀(J:Pt->aJ) (i:Nat) (h:i<xs.length) (left:Int),0<=left->left<=1048576->step J (pt left i)=if left<(f xs[i]:Int) then ret (-1:Int) else J (pt (left - f xs[i]) (i+1)))
  (h0:∀(J:Pt->aJ) (left:Int),step J (pt left xs.length)=ret left):∀(left:Int),0<=left->left<=1048576->∃m,iter step m (pt left 0)=ret (iE (xs.map f).sum left):=by
 have key:∀k i,i+k=xs.length->∀left:Int,0<=left->left<=1048576->∃m,iter step m (pt left i)=ret (iE ((xs.drop i).map f).sum left):=by
  intro k
  induction k with
  | zero=>
   intro i hi left g0 g1
   have :i=xs.length:=by omega
   subst this
   refine ⟨1,(h0 _ left).trans ?_⟩
   have e:iE ((xs.drop xs.length).map f).sum left=left:=by
    rw [List.drop_eq_nil_of_le (Nat.le_refl _)]
    rw [dm (by simp;omega)];simp
   rw [e]
  | succ k ih=>
   intro i hi left g0 g1
   have hlt:i<xs.length:=by omega
   rw [List.drop_eq_getElem_cons hlt,List.map_cons,List.sum_cons]
   by_cases hc:left<(f xs[i]:Int)
   ·refine ⟨1,(h1 _ i hlt left g0 g1).trans ?_⟩
    rw [if_pos hc,cO (by omega)]
   ·obtain ⟨m,hm⟩:=ih (i+1) (by omega) (left - f xs[i]) (by omega) (by omega)
    refine ⟨m+1,(h1 _ i hlt left g0 g1).trans ?_⟩
    rw [if_neg hc,hm]
    congr 1
    unfold iE
    split<;>split<;>omega
 intro left g0 g1
 have:=key xs.length 0 (by omega) left g0 g1
 simpa using this
def jC {Pt α:Type}{step:(Pt->aJ)->Pt->aJ}{pt:Int->Nat->Pt}{xs:List α}{f:α->Nat}(hx:xs.length<=maxLen)
  (h1:∀(J:Pt->aJ) (i:Nat) (h:i<xs.length) (left:Int),0<=left->left<=1048576->step J (pt left i)=if left<(f xs[i]:Int) then ret (-1:Int) else J (pt (left - f xs[i]) (i+1)))
  (h0:∀(J:Pt->aJ) (left:Int),step J (pt left xs.length)=ret left) {left:Int} (g0:0<=left) (g1:left<=1048576) :
  ∃m,(cond (decide (IntKind.i64.wrap (left - (xs.length:Int))<0)) (ret (-1:Int)) (iter step m (pt (IntKind.i64.wrap (left - (xs.length:Int))) 0)))=ret (iE (dJ f xs) left):=by
 rw [lO g0 g1 hx]
 by_cases hc:left - (xs.length:Int)<0
 ·refine ⟨0,?_⟩
  rw [decide_eq_true hc,cO (by unfold dJ;omega)];rfl
 ·obtain ⟨m,hm⟩:=zk h1 h0 (left - (xs.length:Int)) (by omega) (by omega)
  refine ⟨m,?_⟩
  rw [decide_eq_false hc,bu,hm]
  congr 1
  unfold iE dJ
  split<;>split<;>omega
def zI {Pt:Type}{step:(Pt->aJ)->Pt->aJ}{pt:Nat->aB->Pt}{xs:aB}
  (h1:∀(J:Pt->aJ) (i:Nat) (h:i<xs.length) (c:aB),c.length=xs.length->step J (pt i c)=J (pt (i+1) (c.set i xs[i])))
  (h0:∀(J:Pt->aJ) (c:aB),step J (pt xs.length c)=ret c) (c:aB) (hc:c.length=xs.length):∃m,iter step m (pt 0 c)=ret xs:=by
 have key:∀k i,i+k=xs.length->∀c:aB,c.length=xs.length->c.take i=xs.take i->∃m,iter step m (pt i c)=ret xs:=by
  intro k
  induction k with
  | zero=>
   intro i hi c hc ht
   have :i=xs.length:=by omega
   subst this
   rw [List.take_of_length_le (by omega),List.take_of_length_le (Nat.le_refl _)] at ht
   exact ⟨1,by rw [<-ht] at h0 ⊢;exact h0 _ _⟩
  | succ k ih=>
   intro i hi c hc ht
   have hlt:i<xs.length:=by omega
   obtain ⟨m,hm⟩:=ih (i+1) (by omega) (c.set i xs[i]) (by simpa using hc) (by rw [take_set (by omega),ht,List.take_succ_eq_append_getElem hlt])
   exact ⟨m+1,(h1 _ i hlt c hc).trans hm⟩
 exact key xs.length 0 (by omega) c hc rfl
def iy {Pt α:Type}{step:(Pt->aJ)->Pt->aJ}{pt:Nat->aB->Pt}{xs:List α}{f:α->List L}{z:List L}{b:Nat}(hx:(xs.length:Int)*(b:Int)<=140737488355328)
  (h1:∀(J:Pt->aJ) (i:Nat) (h:i<xs.length) (c:aB),c.length=xs.length->step J (pt i c)=J (pt (i+1) (c.set i (f xs[i]))))
  (h0:∀(J:Pt->aJ) (c:aB),step J (pt xs.length c)=ret c) :
  ∃m,(cond (decide ((0:Int)<=(xs.length:Int))) (cond (decide ((xs.length:Int)<=(xs.length:Int))) (cond (decide ((xs.length:Int)*(b:Int)<=140737488355328)) (iter step m (pt 0 (List.replicate (Int.toNat (xs.length:Int)) z))) none) none) none)=ret (xs.map f):=by
 obtain ⟨m,hm⟩:=zI (step:=step) (pt:=pt) (xs:=xs.map f) (fun J i h c hc=>by
  rw [List.getElem_map];exact h1 J i (by simpa using h) c (by simpa using hc)) (fun J c=>by rw [List.length_map];exact h0 J c) (List.replicate (Int.toNat (xs.length:Int)) z) (by simp)
 refine ⟨m,?_⟩
 rw [aI,decide_eq_true (Int.le_refl _),decide_eq_true hx]
 exact hm
def zc {Pt α:Type}{step:(Pt->aJ)->Pt->aJ}{pt:Nat->Pt}{xs ys:List α}(hl:xs.length=ys.length)
  (h1:∀(J:Pt->aJ) (i:Nat) (h:i<xs.length) (h':i<ys.length),step J (pt i)=bif dY xs[i] ys[i] then J (pt (i+1)) else ret false) (h0:∀J:Pt->aJ,step J (pt xs.length)=ret true):∃m,iter step m (pt 0)=ret (dY xs ys):=by
 have key:∀k i,i+k=xs.length->∃m,iter step m (pt i)=ret (dY (xs.drop i) (ys.drop i)):=by
  intro k
  induction k with
  | zero=>
   intro i hi
   have :i=xs.length:=by omega
   subst this
   refine ⟨1,(h0 _).trans ?_⟩
   rw [List.drop_eq_nil_of_le (Nat.le_refl _),List.drop_eq_nil_of_le (by omega),eP]
  | succ k ih=>
   intro i hi
   have hlt:i<xs.length:=by omega
   have hlt':i<ys.length:=by omega
   rw [List.drop_eq_getElem_cons hlt,List.drop_eq_getElem_cons hlt']
   obtain ⟨m,hm⟩:=ih (i+1) (by omega)
   cases hc:dY xs[i] ys[i]
   ·refine ⟨1,(h1 _ i hlt hlt').trans ?_⟩
    rw [hc]
    have :dY (xs[i]::xs.drop (i+1)) (ys[i]::ys.drop (i+1))=false:=by
     rw [lV] at hc ⊢
     intro h;injection h with h;exact hc h
    rw [this];rfl
   ·refine ⟨m+1,(h1 _ i hlt hlt').trans ?_⟩
    rw [hc,bh,hm]
    congr 1
    rw [dh] at hc
    rw [Bool.eq_iff_iff,dh,dh,hc]
    constructor
    ·intro h;rw [h]
    ·intro h;injection h
 have:=key xs.length 0 (by omega)
 simpa using this
def hO {Pt α:Type}{step:(Pt->aJ)->Pt->aJ}{pt:Nat->Pt}{xs ys:List α}
  (h1:xs.length=ys.length->∀(J:Pt->aJ) (i:Nat) (h:i<xs.length) (h':i<ys.length),step J (pt i)=bif dY xs[i] ys[i] then J (pt (i+1)) else ret false) (h0:∀J:Pt->aJ,step J (pt xs.length)=ret true) :
  ∃m,(cond ((xs.length:Int) != (ys.length:Int)) (ret false) (iter step m (pt 0)))=ret (dY xs ys):=by
 by_cases hl:xs.length=ys.length
 ·obtain ⟨m,hm⟩:=zc hl (h1 hl) h0
  refine ⟨m,?_⟩
  rw [hl,bne_self_eq_false,bu,hm]
 ·refine ⟨0,?_⟩
  have h2:((xs.length:Int) != (ys.length:Int))=true:=by simpa using fun h=>hl (by omega)
  have h3:dY xs ys=false:=lV.2 fun h=>hl (by rw [h])
  rw [h2,h3];rfl
def eg.dX {T:Nat->List K}{k:K}{ks:List K}{r:List L}(h:eg T (k::ks) r):∃l r',r=l::r'/\Wf T k l/\eg T ks r':=by
 match r,h with
 | [],h=>have:=h.1;simp at this
 | l::r',h=>
  obtain ⟨l',e1,e2⟩:=h.2 0 k rfl
  simp at e1
  subst e1
  exact ⟨l,r',rfl,e2,by simpa using h.1,fun j kk hj=>by simpa using h.2 (j+1) kk (by simpa using hj)⟩
def eg.nO {T:Nat->List K}:∀{a b:List K} {r:List L},eg T (a++b) r->∃r1 r2,r=r1++r2/\eg T a r1/\eg T b r2
 | [],b,r,h=>⟨[],r,rfl,⟨rfl,fun j k hj=>by simp at hj⟩,h⟩
 | k::a,b,r,h=>by
  obtain ⟨l,r',rfl,h1,h2⟩:=eg.dX (ks:=a++b) h
  obtain ⟨r1,r2,rfl,h3,h4⟩:=eg.nO h2
  exact ⟨l::r1,r2,rfl,eg.append (a:=[k]) (x:=[l]) ⟨rfl,fun j kk hj=>by
   cases j with
   | zero=>simp at hj;subst hj;exact ⟨l,rfl,h1⟩
   | succ j=>simp at hj⟩ h3,h4⟩
def eg.jK {T:Nat->List K}{r:List L}(h:eg T [] r):r=[]:=List.eq_nil_of_length_eq_zero h.1
def gk {T:Nat->List K}{k:IntKind}{l:L}(h:Wf T (.int k) l):∃n,l=.int n:=by cases h;exact ⟨_,rfl⟩
def zH {T:Nat->List K}{l:L}(h:Wf T .bool l):∃n,l=.bool n:=by cases h;exact ⟨_,rfl⟩
def vS {T:Nat->List K}{l:L}(h:Wf T .str l):∃s:aD,l=.str s/\s.size<=maxLen:=by cases h;exact ⟨_,rfl,by assumption⟩
def gN {T:Nat->List K}{e:Nat}{ks:List K}{α:Type}{row:α->List L}{p:α->Prop}(hc:T e=ks)(hrow:∀r,eg T ks r->∃x,row x=r/\p x){l:L}(h:Wf T (.sl e) l) :
  ∃xs:List α,l=.sl (xs.map row)/\bM maxLen p xs:=by
 cases h
 rename_i xs hle hl hr
 have key:∀ys:aB,(∀r∈ys,r∈xs)->∃zs:List α,ys=zs.map row/\∀z∈zs,p z:=by
  intro ys
  induction ys with
  | nil=>intro _;exact ⟨[],rfl,fun z hz=>(nomatch hz)⟩
  | cons y ys ih=>
   intro hy
   obtain ⟨zs,e1,e2⟩:=ih fun r hr=>hy r (by simp [hr])
   obtain ⟨z,e3,e4⟩:=hrow y (by
    refine ⟨by rw [<-hc];exact hl y (hy y (by simp)),fun j kk hj=>?_⟩
    rw [<-hc] at hj
    have hjl:j<y.length:=by rw [hl y (hy y (by simp))];exact (List.getElem?_eq_some_iff.1 hj).1
    have hg:=List.getElem?_eq_getElem hjl
    exact ⟨_,hg,hr y j kk _ (hy y (by simp)) hj hg⟩)
   refine ⟨z::zs,by simp [e1,e3],fun w hw=>?_⟩
   rcases List.mem_cons.1 hw with rfl | hw
   ·exact e4
   ·exact e2 w hw
 obtain ⟨zs,e1,e2⟩:=key xs fun r hr=>hr
 exact ⟨zs,by rw [e1],by rw [e1] at hle;simpa using hle,e2⟩
def zh {T:Nat->List K}{k:IntKind}(r:List L)(h:eg T [.int k] r):∃x,bq x=r/\True:=by
 obtain ⟨l,r',rfl,h1,h2⟩:=h.dX
 obtain ⟨n,rfl⟩:=gk h1
 rw [h2.jK];exact ⟨n,rfl,trivial⟩
def wm {T:Nat->List K}(r:List L)(h:eg T [.str] r):∃x:aD,cG x=r/\x.size<=maxLen:=by
 obtain ⟨l,r',rfl,h1,h2⟩:=h.dX
 obtain ⟨n,rfl,h3⟩:=vS h1
 rw [h2.jK];exact ⟨n,rfl,h3⟩
def zB {T:Nat->List K}{e:Nat}{ks:List K}{α:Type}{row:α->List L}{p:α->Prop}(hc:T e=ks)(hrow:∀r,eg T ks r->∃x,row x=r/\p x)(r:List L)(h:eg T [.sl e] r):∃x,dI row x=r/\bM maxLen p x:=by
 obtain ⟨l,r',rfl,h1,h2⟩:=h.dX
 obtain ⟨xs,rfl,h3⟩:=gN hc hrow h1
 rw [h2.jK];exact ⟨xs,rfl,h3⟩
def fc {a b:Int}:(a==b)=dY a b:=by rw [Bool.eq_iff_iff,beq_iff_eq,dh]
def bool_beq {a b:Bool}:(a==b)=dY a b:=by rw [Bool.eq_iff_iff,beq_iff_eq,dh]
def eO {a b:aD}:(a==b)=dY a b:=by
 rw [Bool.eq_iff_iff,dh,beq_toListBytes,beq_iff_eq,ByteArray.toList_eq,ByteArray.toList_eq]
 constructor
 ·intro h
  obtain ⟨⟨x⟩⟩:=a
  obtain ⟨⟨y⟩⟩:=b
  simp at h
  rw [h]
 ·intro h;rw [h]
def cL {b c:Bool}{x:aJ}(h:b=true->x=ret c):(cond (!b) (ret false) x)=ret (b&&c):=by
 cases b
 ·rfl
 ·simpa using h rfl
end Go.DM
namespace Go.DM
def eo {S β:Type}(f:Nat->S->S⊕β)(tail:S->β):Nat->Nat->S->β
 | 0,_,s=>tail s
 | k+1,i,s=>match f i s with
  | .inl s'=>eo f tail k (i+1) s'
  | .inr b=>b
def B8 {S β:Type}(K:S->aJ)(out:β->aJ):S⊕β->aJ
 | .inl s=>K s
 | .inr b=>out b
def bC {S β:Type}(x:aJ)(K:S->aJ)(out:β->aJ)(P:S->Prop)(r:S⊕β):Prop:=x=B8 K out r/\∀s,r=.inl s->P s
def bC.bif {S β:Type}{K:S->aJ}{out:β->aJ}{P:S->Prop}{c:Bool}{x y:aJ}{a b:S⊕β}(h1:c=true->bC x K out P a)(h2:c=false->bC y K out P b):bC (cond c x y) K out P (cond c a b):=by
 cases c
 ·exact h2 rfl
 ·exact h1 rfl
def bC.yes {S β:Type}{K:S->aJ}{out:β->aJ}{P:S->Prop}{c:Bool}{x y:aJ}{r:S⊕β}(hc:c=true)(h:bC x K out P r):bC (cond c x y) K out P r:=by rw [hc];exact h
def bC.call {S β γ:Type}[RT γ]{K:S->aJ}{out:β->aJ}{P:S->Prop}{o:Option γ}{b:γ}(h:o=some b){k:γ->aJ}{r:S⊕β}(hk:bC (k b) K out P r):bC (call o k) K out P r:=by rw [call_eq h];exact hk
def bC.inl {S β:Type}{K:S->aJ}{out:β->aJ}{P:S->Prop}{x:aJ}{s:S}(hp:P s)(h:x=K s):bC x K out P (.inl s):=⟨h,fun s' e=>by injection e with e;rw [<-e];exact hp⟩
def bC.inr {S β:Type}{K:S->aJ}{out:β->aJ}{P:S->Prop}{x:aJ}{b:β}(h:x=out b):bC x K out P (.inr b):=⟨h,fun s' e=>by cases e⟩
def ck {Pt S β:Type}{step:(Pt->aJ)->Pt->aJ}{pt:Nat->S->Pt}{n:Nat}{f:Nat->S->S⊕β}{tail:S->β}{out:β->aJ}(Inv:Nat->S->Prop)
  (h1:∀(J:Pt->aJ) (i:Nat) (s:S),i<n->Inv i s->bC (step J (pt i s)) (fun s'=>J (pt (i+1) s')) out (Inv (i+1)) (f i s))
  (h0:∀s,Inv n s->∃m,step (iter step m) (pt n s)=out (tail s)) {s:S} (hs:Inv 0 s):∃m,iter step m (pt 0 s)=out (eo f tail n 0 s):=by
 have key:∀k i s,i+k=n->Inv i s->∃m,iter step m (pt i s)=out (eo f tail k i s):=by
  intro k
  induction k with
  | zero=>
   intro i s hi hs
   have :i=n:=by omega
   subst this
   obtain ⟨m,hm⟩:=h0 s hs
   exact ⟨m+1,hm⟩
  | succ k ih=>
   intro i s hi hs
   unfold eo
   cases hf:f i s with
   | inl s'=>
    have h:=h1 (fun _=>none) i s (by omega) hs
    obtain ⟨m,hm⟩:=ih (i+1) s' (by omega) (h.2 s' hf)
    refine ⟨m+1,?_⟩
    have h:=(h1 (iter step m) i s (by omega) hs).1
    rw [hf] at h
    exact h.trans hm
   | inr b=>
    refine ⟨1,?_⟩
    have h:=(h1 (iter step 0) i s (by omega) hs).1
    rw [hf] at h
    exact h
 exact key n 0 s (by omega) hs
def gR {β:Type}(out:β->aJ){c:Bool}{x y:Nat->aJ}{a b:β}(h1:c=true->∃n,x n=out a)(h2:c=false->∃n,y n=out b):∃n,(cond c (x n) (y n))=out (cond c a b):=by
 cases c
 ·exact h2 rfl
 ·exact h1 rfl
def dF {c:Bool}{x y:Nat->aJ}{r:aJ}(hc:c=true)(h:∃n,x n=r):∃n,(cond c (x n) (y n))=r:=by subst hc;exact h
def dx {c:Bool}{x y:Nat->aJ}{r:aJ}(hc:c=false)(h:∃n,y n=r):∃n,(cond c (x n) (y n))=r:=by subst hc;exact h
def zF {γ:Type}[RT γ]{o:Option γ}{b:γ}(h:o=some b){k:Nat->γ->aJ}{r:aJ}(hk:∃n,k n b=r):∃n,call o (k n)=r:=by
 obtain ⟨n,hn⟩:=hk
 exact ⟨n,by rw [call_eq h];exact hn⟩
def av {β:Type}(out:β->aJ){c:Bool}{x y:aJ}{a b:β}(h1:c=true->x=out a)(h2:c=false->y=out b):(cond c x y)=out (cond c a b):=by
 cases c
 ·exact h2 rfl
 ·exact h1 rfl
def ak {c:Bool}{x y r:aJ}(hc:c=true)(h:x=r):(cond c x y)=r:=by subst hc;exact h
def eJ {α:Type}{xs:List α}{i:Nat}{z:α}(h:i<xs.length):xs.getD i z=xs[i]:=by simp [List.getD,h]
def iz {α:Type}{xs:List α}{i:Nat}{z:α}(h:¬i<xs.length):xs.getD i z=z:=by simp [List.getD];rw [List.getElem?_eq_none (by omega)];rfl
def gL {xs:List Int}{i:Nat}:jt (xs.map bq) i=xs.getD i 0:=by
 unfold jt
 by_cases h:i<xs.length
 ·rw [getD_map h,eJ h];rfl
 ·rw [iz (by simpa using h),iz h];rfl
def yx {xs:List Bool}{i:Nat}:BL (xs.map wR) i=xs.getD i false:=by
 unfold BL
 by_cases h:i<xs.length
 ·rw [getD_map h,eJ h];rfl
 ·rw [iz (by simpa using h),iz h];rfl
def yz {xs:List aD}{i:Nat}:pV (xs.map cG) i=xs.getD i ⟨#[]⟩:=by
 unfold pV
 by_cases h:i<xs.length
 ·rw [getD_map h,eJ h];rfl
 ·rw [iz (by simpa using h),iz h];rfl
def qe {α:Type}{f:α->List L}{xs:List (List α)}{i:Nat}:oq (xs.map (dI f)) i=(xs.getD i []).map f:=by
 unfold oq
 by_cases h:i<xs.length
 ·rw [getD_map h,eJ h];rfl
 ·rw [iz (by simpa using h),iz h];rfl
def eX {α β:Type}{row:α->List L}{dec:List L->β}{r:α->β}{z:α}{xs:List α}{i:Nat}(h1:∀x,dec (row x)=r x)(h2:dec []=r z):dec (List.getD (xs.map row) i [])=r (xs.getD i z):=by
 by_cases h:i<xs.length
 ·rw [getD_map h,eJ h,h1]
 ·rw [iz (by simpa using h),iz h,h2]
def bM.getD {α:Type}{n:Nat}{p:α->Prop}{xs:List α}(h:bM n p xs){i:Nat}{z:α}(hi:i<xs.length):p (xs.getD i z):=by
 rw [eJ hi];exact h.get hi
def uh {S β:Type}{f g:Nat->S->S⊕β}{t u:S->β}{n:Nat}(Inv:Nat->S->Prop)(h1:∀i s,i<n->Inv i s->f i s=g i s/\∀s',f i s=.inl s'->Inv (i+1) s')(h0:∀s,Inv n s->t s=u s){s:S}(hs:Inv 0 s):eo f t n 0 s=eo g u n 0 s:=by
 have key:∀k i s,i+k=n->Inv i s->eo f t k i s=eo g u k i s:=by
  intro k
  induction k with
  | zero=>
   intro i s hi hs
   have :i=n:=by omega
   subst this
   exact h0 s hs
  | succ k ih=>
   intro i s hi hs
   obtain ⟨e,p⟩:=h1 i s (by omega) hs
   unfold eo
   rw [<-e]
   cases hf:f i s with
   | inl s'=>exact ih (i+1) s' (by omega) (p s' hf)
   | inr b=>rfl
 exact key n 0 s (by omega) hs
def ke {α:Type}{xs ys:List α}(z:α){f:Nat->Unit->Unit⊕Bool}{tail:Unit->Bool}(hf:∀i s,i<xs.length->i<ys.length->f i s=bif dY (xs.getD i z) (ys.getD i z) then .inl s else .inr false)(ht:∀s,tail s=true) :
  (cond ((xs.length:Int) != (ys.length:Int)) false (eo f tail xs.length 0 ()))=dY xs ys:=by
 by_cases hl:xs.length=ys.length
 ·rw [hl,bne_self_eq_false,bu,<-hl]
  have key:∀k i,i+k=xs.length->eo f tail k i ()=dY (xs.drop i) (ys.drop i):=by
   intro k
   induction k with
   | zero=>
    intro i hi
    have :i=xs.length:=by omega
    subst this
    unfold eo
    rw [ht,List.drop_eq_nil_of_le (Nat.le_refl _),List.drop_eq_nil_of_le (by omega),eP]
   | succ k ih=>
    intro i hi
    have h1:i<xs.length:=by omega
    have h2:i<ys.length:=by omega
    unfold eo
    rw [hf i () h1 h2,eJ h1,eJ h2,List.drop_eq_getElem_cons h1,List.drop_eq_getElem_cons h2]
    cases hc:dY xs[i] ys[i]
    ·have :dY (xs[i]::xs.drop (i+1)) (ys[i]::ys.drop (i+1))=false:=by
      rw [lV] at hc ⊢
      intro h;injection h with h;exact hc h
     rw [this];rfl
    ·show eo f tail k (i+1) ()=_
     rw [ih (i+1) (by omega)]
     rw [dh] at hc
     rw [Bool.eq_iff_iff,dh,dh,hc]
     constructor
     ·intro h;rw [h]
     ·intro h;injection h
  simpa using key xs.length 0 (by omega)
 ·have h2:((xs.length:Int) != (ys.length:Int))=true:=by simpa using fun h=>hl (by omega)
  have h3:dY xs ys=false:=lV.2 fun h=>hl (by rw [h])
  rw [h2,h3];rfl
end Go.DM
namespace Go.DM
def cH {c:Bool}{x y r:aJ}(hc:c=false)(h:y=r):(cond c x y)=r:=by subst hc;exact h
def lH {a:aJ}:either a a=a:=by simp [either]
def ex_eq {β:Type}{out:β->aJ}{x:Nat->aJ}{a b:β}(h:a=b)(k:∃n,x n=out a):∃n,x n=out b:=h ▸ k
def aZ {γ:Type}[RT γ]{o:Option γ}{k:γ->aJ}{r:aJ}(b:γ)(h:o=some b)(hk:k b=r):call o k=r:=(call_eq h k).trans hk
def eV {γ:Type}[RT γ]{o:Option γ}{k:Nat->γ->aJ}{r:aJ}(b:γ)(h:o=some b)(hk:∃n,k n b=r):∃n,call o (k n)=r:=zF h hk
def bC.aZ {S β γ:Type}[RT γ]{K:S->aJ}{out:β->aJ}{P:S->Prop}{o:Option γ}{k:γ->aJ}{r:S⊕β}(b:γ)(h:o=some b)(hk:bC (k b) K out P r):bC (DM.call o k) K out P r:=bC.call h hk
def dD {α S β:Type}(f:Nat->α->S->S⊕β)(t:S->β):Nat->List α->S->β
 | _,[],s=>t s
 | i,x::xs,s=>match f i x s with
  | .inl s'=>dD f t (i+1) xs s'
  | .inr b=>b
def dQ {α S β:Type}(f:α->S->S⊕β)(t:S->β):List α->S->β
 | [],s=>t s
 | x::xs,s=>match f x s with
  | .inl s'=>dQ f t xs s'
  | .inr b=>b
def cV {α S β:Type}{f:Nat->α->S->S⊕β}{t:S->β}{xs:List α}{z:α}{s:S}:eo (fun i s=>f i (xs.getD i z) s) t xs.length 0 s=dD f t 0 xs s:=by
 have key:∀(k i:Nat) (s:S),i+k=xs.length->eo (fun i s=>f i (xs.getD i z) s) t k i s=dD f t i (xs.drop i) s:=by
  intro k
  induction k with
  | zero=>
   intro i s hi
   have :i=xs.length:=by omega
   subst this
   rw [List.drop_eq_nil_of_le (Nat.le_refl _)];rfl
  | succ k ih=>
   intro i s hi
   have hlt:i<xs.length:=by omega
   rw [List.drop_eq_getElem_cons hlt]
   unfold eo dD
   rw [eJ hlt]
   cases f i xs[i] s with
   | inl s'=>exact ih (i+1) s' (by omega)
   | inr b=>rfl
 simpa using key xs.length 0 s (by omega)
def oU {α S β:Type}{f:α->S->S⊕β}{t:S->β}:∀{xs:List α} {i:Nat} {s:S},dD (fun _ x s=>f x s) t i xs s=dQ f t xs s
 | [],_,_=>rfl
 | x::xs,i,s=>by
  unfold dD dQ
  cases f x s with
  | inl s'=>exact oU
  | inr b=>rfl
def ep {α S β:Type}{f:α->S->S⊕β}{t:S->β}{xs:List α}{z:α}{s:S}:eo (fun i s=>f (xs.getD i z) s) t xs.length 0 s=dQ f t xs s:=
 (cV (f:=fun _ x s=>f x s)).trans oU
def rH {α γ β:Type}{g:α->γ}{t:List γ->β}:∀{xs:List α} {s:List γ},dQ (fun x s=>.inl (s++[g x])) t xs s=t (s++xs.map g)
 | [],s=>by simp [dQ]
 | x::xs,s=>by
  show dQ (fun x s=>Sum.inl (s++[g x])) t xs (s++[g x])=_
  rw [rH];simp
def lS {α γ β:Type}{xs:List α}{g:α->γ}{z:α}{t:List γ->β}{s:List γ}:eo (fun i s=>.inl (s++[g (xs.getD i z)])) t xs.length 0 s=t (s++xs.map g):=
 (ep (f:=fun x s=>.inl (s++[g x]))).trans rH
def qO {α γ β:Type}{g:α->List γ}{t:List γ->β}:∀{xs:List α} {s:List γ},dQ (fun x s=>.inl (s++g x)) t xs s=t (s++xs.flatMap g)
 | [],s=>by simp [dQ]
 | x::xs,s=>by
  show dQ (fun x s=>Sum.inl (s++g x)) t xs (s++g x)=_
  rw [qO];simp
def qR {α γ β:Type}{xs:List α}{g:α->List γ}{z:α}{t:List γ->β}{s:List γ}:eo (fun i s=>.inl (s++g (xs.getD i z))) t xs.length 0 s=t (s++xs.flatMap g):=
 (ep (f:=fun x s=>.inl (s++g x))).trans qO
def lJ {α γ:Type}{g:α->List γ}{n:Nat}:∀{xs:List α},(∀x∈xs,(g x).length<=n)->(xs.flatMap g).length<=xs.length*n
 | [],_=>by simp
 | x::xs,h=>by
  have h1:=h x (by simp)
  have h2:=lJ (xs:=xs) fun y hy=>h y (by simp [hy])
  simp only [List.flatMap_cons,List.length_append,List.length_cons,Nat.succ_mul]
  omega
def mE {α γ β:Type}{xs:List α}{g:α->γ}{z:α}{t:List γ->β}:eo (fun i s=>.inl (s++[g (xs.getD i z)])) t xs.length 0 []=t (xs.map g):=by
 have:=lS (xs:=xs) (g:=g) (z:=z) (t:=t) (s:=[])
 simpa using this
def ir {α β:Type}{xs:List α}{z:α}{t:List α->β}:eo (fun i s=>.inl (s++[xs.getD i z])) t xs.length 0 []=t xs:=by
 have:=lS (xs:=xs) (g:=fun x=>x) (z:=z) (t:=t) (s:=[])
 simpa using this
def oZ {α S β:Type}{f g:α->S->S⊕β}{t u:S->β}{xs:List α}{s:S}(h:∀x∈xs,∀s,f x s=g x s)(h0:∀s,t s=u s):dQ f t xs s=dQ g u xs s:=by
 induction xs generalizing s with
 | nil=>exact h0 s
 | cons x xs ih=>
  unfold dQ
  rw [h x (by simp)]
  cases g x s with
  | inl s'=>exact ih fun y hy=>h y (by simp [hy])
  | inr b=>rfl
def lM {α β:Type}{p:α->Bool}{b c:β}:∀{xs:List α} {s:Unit},dQ (fun x s=>bif p x then .inr b else .inl s) (fun _=>c) xs s=bif xs.any p then b else c
 | [],_=>rfl
 | x::xs,s=>by
  unfold dQ
  rw [List.any_cons]
  cases p x
  ·exact lM
  ·rfl
def iT {α:Type}(p:α->Bool):Nat->List α->Int
 | _,[]=>-1
 | i,x::xs=>bif p x then (i:Int) else iT p (i+1) xs
def gO {α:Type}{p:α->Bool}:∀{xs:List α} {i:Nat} {s:Unit},dD (fun i x s=>bif p x then .inr (i:Int) else .inl s) (fun _=>(-1:Int)) i xs s=iT p i xs
 | [],_,_=>rfl
 | x::xs,i,s=>by
  unfold dD iT
  cases p x
  ·exact gO
  ·rfl
def sr {α:Type}{p:α->Bool}:∀{xs:List α} {i:Nat},decide (iT p i xs<0)=!(xs.any p)
 | [],i=>rfl
 | x::xs,i=>by
  unfold iT
  rw [List.any_cons]
  cases p x
  ·exact sr
  ·simp
end Go.DM
namespace Go.DM
def iO (s:aD):List Int:=s.data.toList.map fun b=>(b.toNat:Int)
def vp (s:aD):ia s=(iO s).map bq:=by simp [ia,iO,bq]
def gK (s:aD):(iO s).length=s.size:=by simp [iO]
def ry (s:aD):(ia s).length=s.size:=by simp [ia]
def jh {f:Nat->Unit->Unit⊕Bool}{t:Unit->Bool}{n:Nat}(P:Nat->Prop)(h1:∀i,i<n->P i->f i ()=.inl ())(h2:∀i,i<n->¬P i->f i ()=.inr false):eo f t n 0 ()=true↔(∀i,i<n->P i)/\t ()=true:=by
 have key:∀k i,i+k=n->(eo f t k i ()=true↔(∀j,i<=j->j<n->P j)/\t ()=true):=by
  intro k
  induction k with
  | zero=>
   intro i hi
   constructor
   ·intro h;exact ⟨fun j h1 h2=>by omega,h⟩
   ·intro h;exact h.2
  | succ k ih=>
   intro i hi
   unfold eo
   by_cases hp:P i
   ·rw [h1 i (by omega) hp]
    show eo f t k (i+1) ()=true↔_
    rw [ih (i+1) (by omega)]
    constructor
    ·intro ⟨h,ht⟩
     refine ⟨fun j h1 h2=>?_,ht⟩
     by_cases hj:j=i
     ·subst hj;exact hp
     ·exact h j (by omega) h2
    ·intro ⟨h,ht⟩;exact ⟨fun j h1 h2=>h j (by omega) h2,ht⟩
   ·rw [h2 i (by omega) hp]
    constructor
    ·intro h;cases h
    ·intro ⟨h,_⟩;exact (hp (h i (Nat.le_refl _) (by omega))).elim
 rw [key n 0 (by omega)]
 simp
end Go.DM
namespace Go.DM
def qT {S β:Type}{f:Nat->S->S⊕β}{t:S->β}{k i:Nat}{s:S}:eo f t (k+1) i s=match f i s with | .inl s'=>eo f t k (i+1) s' | .inr b=>b:=rfl
def dM {Pt:Type}{step:(Pt->aJ)->Pt->aJ}{p q:Pt}{r:aJ}(h:q=p)(k:∃n,iter step n p=r):∃n,iter step n q=r:=h ▸ k
def uw {Pt S β:Type}{step:(Pt->aJ)->Pt->aJ}{pt:Nat->S->Pt}{n:Nat}{f:Nat->S->S⊕β}{tail:S->β}{out:β->aJ}(Inv:Nat->S->Prop)
  (h1:∀(i:Nat) (s:S),i<n->Inv i s->∀K:S⊕β->aJ,(∀s',Inv (i+1) s'->∃m,iter step m (pt (i+1) s')=K (.inl s'))->(∀b,K (.inr b)=out b)->∃m,step (iter step m) (pt i s)=K (f i s))
  (h0:∀s,Inv n s->∃m,step (iter step m) (pt n s)=out (tail s)) {s:S} (hs:Inv 0 s):∃m,iter step m (pt 0 s)=out (eo f tail n 0 s):=by
 have key:∀k i s,i+k=n->Inv i s->∃m,iter step m (pt i s)=out (eo f tail k i s):=by
  intro k
  induction k with
  | zero=>
   intro i s hi hs
   have :i=n:=by omega
   subst this
   obtain ⟨m,hm⟩:=h0 s hs
   exact ⟨m+1,hm⟩
  | succ k ih=>
   intro i s hi hs
   obtain ⟨m,hm⟩:=h1 i s (by omega) hs (fun r=>out (match r with | .inl s'=>eo f tail k (i+1) s' | .inr b=>b)) (fun s' hs'=>ih (i+1) s' (by omega) hs') (fun b=>rfl)
   refine ⟨m+1,hm.trans ?_⟩
   rw [qT]
 exact key n 0 s (by omega) hs
def uN {α:Type}{f:Nat->α->Unit->Unit⊕Int}(h:∀i x s b,f i x s=.inr b->b=(i:Int)):∀(xs:List α) (i:Nat) (s:Unit),-1<=dD f (fun _=>(-1:Int)) i xs s/\dD f (fun _=>(-1:Int)) i xs s<(i:Int)+xs.length
 | [],i,s=>by simp only [dD,List.length_nil];omega
 | x::xs,i,s=>by
  unfold dD
  cases hf:f i x s with
  | inl s'=>
   have:=uN h xs (i+1) s'
   simp only [List.length_cons]
   omega
  | inr b=>
   have:=h i x s b hf
   simp only [List.length_cons]
   omega
end Go.DM
namespace Go.DM
def gi {α:Type}{f:Nat->α->Unit->Unit⊕Int}(h:∀i x s b,f i x s=.inr b->b=(i:Int))(xs:List α)(s:Unit):-1<=dD f (fun _=>(-1:Int)) 0 xs s/\dD f (fun _=>(-1:Int)) 0 xs s<(xs.length:Int):=by
 have:=uN h xs 0 s
 simpa using this
def qi {α:Type}{p:α->Bool}{xs:List α}:decide (iT p 0 xs>=0)=xs.any p:=by
 have:=sr (p:=p) (xs:=xs) (i:=0)
 cases h:xs.any p<;>rw [h] at this<;>simp at this ⊢<;>omega
end Go.DM
namespace Go.DM
def lG {α S β:Type}{f:Nat->α->S->S⊕β}{c:β}(h:∀i x s b,f i x s=.inr b->b=c):∀(xs:List α) (i:Nat) (s:S),dD f (fun _=>c) i xs s=c
 | [],_,_=>rfl
 | x::xs,i,s=>by
  unfold dD
  cases hf:f i x s with
  | inl s'=>exact lG h xs _ _
  | inr b=>exact h _ _ _ _ hf
def oJ {S β:Type}{f:Nat->S->S⊕β}{c:β}(h:∀i s b,f i s=.inr b->b=c):∀(k i:Nat) (s:S),eo f (fun _=>c) k i s=c
 | 0,_,_=>rfl
 | k+1,i,s=>by
  rw [qT]
  cases hf:f i s with
  | inl s'=>exact oJ h k _ _
  | inr b=>exact h _ _ _ hf
end Go.DM
namespace Go.DM
def lg {α:Type}{f:Nat->α->Unit->Unit⊕Int}{p:α->Bool}(h:∀i x s,f i x s=bif p x then .inr (i:Int) else .inl ()):∀(xs:List α) (i:Nat) (s:Unit),dD f (fun _=>(-1:Int)) i xs s=iT p i xs
 | [],_,_=>rfl
 | x::xs,i,s=>by
  unfold dD iT
  rw [h]
  cases p x
  ·exact lg h xs _ _
  ·rfl
def Bn {b c:Bool}:(cond (!b) false c)=(b&&c):=by cases b<;>rfl
def Ad {b c:Bool}:(cond b c false)=(b&&c):=by cases b<;>rfl
end Go.DM
namespace Go.DM
def mW {α β:Type}{f:α->Unit->Unit⊕β}{p:α->Bool}{b c:β}(h:∀x s,f x s=bif p x then .inr b else .inl ()):∀(xs:List α) (s:Unit),dQ f (fun _=>c) xs s=bif xs.any p then b else c
 | [],_=>rfl
 | x::xs,s=>by
  unfold dQ
  rw [List.any_cons,h]
  cases p x
  ·exact mW h xs ()
  ·rfl
def sy {α:Type}{f:Nat->α->Unit->Unit⊕Int}{z:α}(h:∀i x s b,f i x s=.inr b->b=(i:Int)){xs:List α}(hn:dD f (fun _=>(-1:Int)) 0 xs ()<0):∀i,i<xs.length->f i (xs.getD i z) ()=.inl ():=by
 have key:∀(ys:List α) (k:Nat),dD f (fun _=>(-1:Int)) k ys ()<0->∀i,i<ys.length->f (k+i) (ys.getD i z) ()=.inl ():=by
  intro ys
  induction ys with
  | nil=>intro k _ i hi;simp at hi
  | cons y ys ih=>
   intro k hk i hi
   unfold dD at hk
   cases hf:f k y () with
   | inr b=>
    rw [hf] at hk
    have:=h k y () b hf
    simp only at hk
    omega
   | inl s'=>
    rw [hf] at hk
    cases i with
    | zero=>simpa using hf
    | succ i=>
     have:=ih (k+1) hk i (by simpa using hi)
     rw [show k+1+i=k+(i+1) by omega] at this
     simpa using this
 intro i hi
 have:=key xs 0 hn i hi
 simpa using this
end Go.DM
namespace Go.DM
end Go.DM
namespace Go.DM
class Row (α:Type) where
 row:α->List L
 AY:∀{a b:α},row a=row b->a=b
class Im (α:Type) (β:outParam Type) where
 im:α->β
 inj:∀{a b:α},im a=im b->a=b
instance :Row Int:=⟨bq,lu⟩
instance :Row Bool:=⟨wR,xD⟩
instance :Row aD:=⟨cG,uj⟩
instance {α:Type} [Row α]:Row (List α):=⟨dI Row.row,uL Row.AY⟩
instance :Im Int Int:=⟨fun x=>x,fun h=>h⟩
instance :Im Bool Bool:=⟨fun x=>x,fun h=>h⟩
instance :Im aD aD:=⟨fun x=>x,fun h=>h⟩
instance :Im Unit Unit:=⟨fun x=>x,fun h=>h⟩
instance {α:Type} [Row α]:Im (List α) (aB):=⟨fun x=>x.map Row.row,fun h=>map_inj Row.AY h⟩
instance {α α' β β':Type} [Im α α'] [Im β β']:Im (α×β) (α'×β'):=⟨fun x=>(Im.im x.1,Im.im x.2),fun h=>Prod.ext (Im.inj (congrArg (fun x=>x.1) h)) (Im.inj (congrArg (fun x=>x.2) h))⟩
def u2 {a b r:Type}(f:a->b->r)(x:a×b):r:=f x.1 x.2
def u3 {a b c r:Type}(f:a->b->c->r)(x:a×b×c):r:=f x.1 x.2.1 x.2.2
def u4 {a b c d r:Type}(f:a->b->c->d->r)(x:a×b×c×d):r:=f x.1 x.2.1 x.2.2.1 x.2.2.2
def u5 {a b c d e r:Type}(f:a->b->c->d->e->r)(x:a×b×c×d×e):r:=f x.1 x.2.1 x.2.2.1 x.2.2.2.1 x.2.2.2.2
def u7 {a b c d e g h r:Type}(f:a->b->c->d->e->g->h->r)(x:a×b×c×d×e×g×h):r:=f x.1 x.2.1 x.2.2.1 x.2.2.2.1 x.2.2.2.2.1 x.2.2.2.2.2.1 x.2.2.2.2.2.2
def p2 {a b:Type}(f:a->b->Prop)(x:a×b):Prop:=f x.1 x.2
def p3 {a b c:Type}(f:a->b->c->Prop)(x:a×b×c):Prop:=f x.1 x.2.1 x.2.2
def p4 {a b c d:Type}(f:a->b->c->d->Prop)(x:a×b×c×d):Prop:=f x.1 x.2.1 x.2.2.1 x.2.2.2
def p5 {a b c d e:Type}(f:a->b->c->d->e->Prop)(x:a×b×c×d×e):Prop:=f x.1 x.2.1 x.2.2.1 x.2.2.2.1 x.2.2.2.2
section
variable {A A' B B':Type} [Im A A'] [Im B B'] {g:A->Prop} {m:A->B}
def RR (g:A->Prop)(m:A->B)(x:A'):Option B':=ofM Im.im g (fun a=>Im.im (m a)) x
theorem aP {a:A}(h:g a):RR g m (Im.im a)=some (Im.im (m a)):=As (fun _ _ h=>Im.inj h) h
def CN [RT B'](ps:List ga)(r:RP)(acc:List L->A')(R:A'->Option B'):fR:=⟨ps,r,fun ls=>(R (acc ls)).map RT.enc⟩
theorem VP [RT B']{X:Type}{P:Program}{T:List (Nat×TI)}{G:List (Nat×fR)}{nt:Nat}{f:FuncId}{fn:Func}{ps:List ga}{r:RP}{acc:List L->A'}{accr:List L->X}{live:Nat->Live}{run:Nat->X->aJ}
  (hm:P.follows .mixedOrders=true) (hT:eM P T=true) (hG:gA P (dG T) G) (hf:P.funcs[f]?=some fn) (hb:rA fn (CN ps r acc (RR g m)) nt=true)
  (hrun:∀n ls,eG { T:=assoc T,G:=dw G,nt:=nt } live fn r n (cU ps ls)=run n (accr ls))
  (hok:∀ls a,pJ (dG T).cells ps ls->acc ls=Im.im a->g a->∃n,run n (accr ls)=ret (Im.im (m a))):Valid P (dG T) f (CN ps r acc (RR g m)):=
 valid hm hT hG hf hb live fun ls q hl h=>by
  obtain ⟨v,hv,hq⟩:=map_some h
  obtain ⟨a,hg,e,hm⟩:=jZ hv
  obtain ⟨n,hn⟩:=hok ls a hl e.symm hg
  exact ⟨n,(hrun n ls).trans (hn.trans (by rw [<-hq,<-hm];rfl))⟩
theorem VV [RT B']{P:Program}{T:List (Nat×TI)}{G:List (Nat×fR)}{nt:Nat}{f:FuncId}{fn:Func}{ps:List ga}{r:RP}{acc:List L->A'}{live:Nat->Live}{run:Nat->A'->aJ}
  (hm:P.follows .mixedOrders=true) (hT:eM P T=true) (hG:gA P (dG T) G) (hf:P.funcs[f]?=some fn) (hb:rA fn (CN ps r acc (RR g m)) nt=true)
  (hrun:∀n ls,eG { T:=assoc T,G:=dw G,nt:=nt } live fn r n (cU ps ls)=run n (acc ls))
  (hok:∀ls a,pJ (dG T).cells ps ls->acc ls=Im.im a->g a->∃n,run n (Im.im a)=ret (Im.im (m a))):Valid P (dG T) f (CN ps r acc (RR g m)):=
 VP hm hT hG hf hb hrun fun ls a hl e hg=>by rw [e];exact hok ls a hl e hg
theorem VS [RT B']{P:Program}{T:List (Nat×TI)}{G:List (Nat×fR)}{S:List (Nat×gC)}{nt:Nat}{f:FuncId}{fn:Func}{ps:List ga}{r:RP}{acc:List L->A'}{live:Nat->Live}{run:Nat->A'->aJ}
  (hm:P.follows .mixedOrders=true) (hT:eM P T=true) (hG:gA P (dG T) G) (hS:jR P (dG T) S) (hf:P.funcs[f]?=some fn) (hb:rA fn (CN ps r acc (RR g m)) nt=true)
  (hrun:∀n ls,eG { T:=assoc T,G:=dw G,nt:=nt,M:=fK S } live fn r n (cU ps ls)=run n (acc ls))
  (hok:∀ls a,pJ (dG T).cells ps ls->acc ls=Im.im a->g a->∃n,run n (Im.im a)=ret (Im.im (m a))):Valid P (dG T) f (CN ps r acc (RR g m)):=
 sU hm hT hG hS hf hb live fun ls q hl h=>by
  obtain ⟨v,hv,hq⟩:=map_some h
  obtain ⟨a,hg,e,hm⟩:=jZ hv
  obtain ⟨n,hn⟩:=hok ls a hl e.symm hg
  exact ⟨n,(hrun n ls).trans (by rw [<-e];exact hn.trans (by rw [<-hq,<-hm];rfl))⟩
theorem VI [RT B']{P:Program}{T:List (Nat×TI)}{G:List (Nat×fR)}{S:List (Nat×gC)}{I:List (Nat×kI)}{nt:Nat}{mt:Bool}{J:List Nat}{f:FuncId}{fn:Func}{ps:List ga}{r:RP}{acc:List L->A'}{live:Nat->Live}{run:Nat->A'->aJ}
  (hm:P.follows .mixedOrders=true) (hT:eM P T=true) (hG:gA P (dG T) G) (hS:jR P (dG T) S) (hI:oo P (dG T) 0 I) (hf:P.funcs[f]?=some fn) (hb:rA fn (CN ps r acc (RR g m)) nt=true)
  (hrun:∀n ls,eG { T:=assoc T,G:=dw G,nt:=nt,M:=fK S,mt:=mt,I:=nU I,J:=J } live fn r n (cU ps ls)=run n (acc ls))
  (hok:∀ls a,pJ (dG T).cells ps ls->acc ls=Im.im a->g a->∃n,run n (Im.im a)=ret (Im.im (m a))):Valid P (dG T) f (CN ps r acc (RR g m)):=
 wh hm hT hG hS hI hf hb live fun ls q hl h=>by
  obtain ⟨v,hv,hq⟩:=map_some h
  obtain ⟨a,hg,e,hm⟩:=jZ hv
  obtain ⟨n,hn⟩:=hok ls a hl e.symm hg
  exact ⟨n,(hrun n ls).trans (by rw [<-e];exact hn.trans (by rw [<-hq,<-hm];rfl))⟩
theorem VT [RT B']{P:Program}{T:List (Nat×TI)}{G:List (Nat×fR)}{S:List (Nat×gC)}{nt:Nat}{f:FuncId}{fn:Func}{ps:List ga}{r:RP}{acc:List L->A'}{live:Nat->Live}{run:Nat->A'->aJ}
  (hm:P.follows .mixedOrders=true) (hT:eM P T=true) (hG:gA P (dG T) G) (hS:jR P (dG T) S) (hf:P.funcs[f]?=some fn) (hb:rA fn (CN ps r acc (RR g m)) nt=true)
  (hrun:∀n ls,eG { T:=assoc T,G:=dw G,nt:=nt,M:=fK S,mt:=true } live fn r n (cU ps ls)=run n (acc ls))
  (hok:∀ls a,pJ (dG T).cells ps ls->acc ls=Im.im a->g a->∃n,run n (Im.im a)=ret (Im.im (m a))):Valid P (dG T) f (CN ps r acc (RR g m)):=
 sU hm hT hG hS hf hb live fun ls q hl h=>by
  obtain ⟨v,hv,hq⟩:=map_some h
  obtain ⟨a,hg,e,hm⟩:=jZ hv
  obtain ⟨n,hn⟩:=hok ls a hl e.symm hg
  exact ⟨n,(hrun n ls).trans (by rw [<-e];exact hn.trans (by rw [<-hq,<-hm];rfl))⟩
def MN [RT B'](ps:List (Bool×List K))(acc:List L->A')(R:A'->Option B'):gC:=⟨ps,fun ls=>(R (acc ls)).map RT.enc⟩
theorem MV [RT B']{P:Program}{T:List (Nat×TI)}{G:List (Nat×fR)}{S:List (Nat×gC)}{nt:Nat}{f:FuncId}{fn:Func}{ps:List (Bool×List K)}{acc:List L->A'}{live:Nat->Live}{run:Nat->A'->aJ}
  (hm:P.follows .mixedOrders=true) (hT:eM P T=true) (hG:gA P (dG T) G) (hS:jR P (dG T) S) (hf:P.funcs[f]?=some fn) (hb:AL fn (MN ps acc (RR g m)) nt=true)
  (hrun:∀n ls,eG { T:=assoc T,G:=dw G,nt:=nt,M:=fK S,np:=(kD ps).length,mt:=true } live fn (.nX (kD ps)) n (fY ps ls)=run n (acc ls))
  (hok:∀ls a,zE (dG T).cells ps ls->acc ls=Im.im a->g a->∃n,run n (Im.im a)=ret (Im.im (m a))):eT P (dG T) f (MN ps acc (RR g m)):=
 AF hm hT hG hS hf hb live fun ls q hl h=>by
  obtain ⟨v,hv,hq⟩:=map_some h
  obtain ⟨a,hg,e,hm⟩:=jZ hv
  obtain ⟨n,hn⟩:=hok ls a hl e.symm hg
  exact ⟨n,(hrun n ls).trans (by rw [<-e];exact hn.trans (by rw [<-hq,<-hm];rfl))⟩
theorem fW (n:Nat):(Nat.beq n n&&true)=true:=by rw [Nat.beq_refl];rfl
end
def S0:(∀(α β:Type) (f:α->β) (l:List α),(l.map f).length=l.length)/\(∀n:Nat,Int.toNat (n:Int)=n)/\(∀s:aD,ia s=(iO s).map bq)/\(∀(xs:List Int) i,jt (xs.map bq) i=xs.getD i 0)/\
  (∀(xs:List Bool) i,BL (xs.map wR) i=xs.getD i false)/\(∀(xs:List aD) i,pV (xs.map cG) i=xs.getD i ⟨#[]⟩)/\(∀(α:Type) (f:α->List L) (xs:List (List α)) i,oq (xs.map (dI f)) i=(xs.getD i []).map f):=
 ⟨fun _ _ _ _=>List.length_map ..,cz,vp,fun _ _=>gL,fun _ _=>yx,fun _ _=>yz,fun _ _ _ _=>qe⟩
def MP:(∀(α β:Type) (f:α->β) (a b:List α),(a++b).map f=a.map f++b.map f)/\(∀(α β:Type) (f:α->β) (a:α) (b:List α),(a::b).map f=f a::b.map f)/\(∀(α β:Type) (f:α->β),[].map f=[])/\
  (∀(α:Type) (a:α) (b c:List α),(a::b)++c=a::(b++c))/\(∀(α:Type) (c:List α),[]++c=c)/\(∀n,bq n=[.int n])/\(∀n,wR n=[.bool n])/\(∀n,cG n=[.str n])/\(∀(α:Type) (f:α->List L) (c:List α),dI f c=[.sl (c.map f)])/\
  (∀(α β:Type) (f:α->β) (l:List α) (i:Nat) (a:α),(l.set i a).map f=(l.map f).set i (f a))/\(∀(α β:Type) (f:α->β) (l:List α) (i:Nat),(l.take i).map f=(l.map f).take i)/\(∀(α β:Type) (f:α->β) (l:List α) (i:Nat),(l.drop i).map f=(l.map f).drop i):=
 ⟨fun _ _ _ _ _=>List.map_append ..,fun _ _ _ _ _=>rfl,fun _ _ _=>rfl,fun _ _ _ _=>rfl,fun _ _=>rfl,fun _=>rfl,fun _=>rfl,fun _=>rfl,fun _ _ _=>rfl,fun _ _ _ _ _ _=>List.map_set ..,fun _ _ _ _ _=>List.map_take ..,fun _ _ _ _ _=>List.map_drop ..⟩
def LN:(∀(a:Nat) (l:List Nat),(a::l).sum=a+l.sum)/\(([]:List Nat).sum=0)/\(∀(α β:Type) (f:α->β) (a:α) (b:List α),(a::b).map f=f a::b.map f)/\(∀(α β:Type) (f:α->β),[].map f=[])/\(∀s,(iO s).length=s.size)/\(∀s,(ia s).length=s.size)/\
  (∀(α:Type) (a b:List α),(a++b).length=a.length+b.length)/\(∀(α:Type) (a:α) (b:List α),(a::b).length=b.length+1)/\(∀(α:Type),([]:List α).length=0)/\(∀(α β:Type) (f:α->β) (l:List α),(l.map f).length=l.length)/\
  (∀(α:Type) (l:List α) (i:Nat) (a:α),(l.set i a).length=l.length)/\(∀(α:Type) (n:Nat) (a:α),(List.replicate n a).length=n)/\(∀(α:Type) (l:List α) (i:Nat),(l.take i).length=min i l.length)/\(∀(α:Type) (l:List α) (i:Nat),(l.drop i).length=l.length - i):=
 ⟨fun _ _=>List.sum_cons,rfl,fun _ _ _ _ _=>rfl,fun _ _ _=>rfl,gK,ry,fun _ _ _=>List.length_append ..,fun _ _ _=>rfl,fun _=>rfl,fun _ _ _ _=>List.length_map ..,fun _ _ _ _=>List.length_set ..,fun _ _ _=>List.length_replicate ..,fun _ _ _=>List.length_take ..,fun _ _ _=>List.length_drop ..⟩
def DC:(∀(α:Type) [BEq α] [LawfulBEq α] (a b:α),((a != b)=false)=(a=b))/\(∀(α:Type) [BEq α] [LawfulBEq α] (a b:α),((a != b)=true)=¬(a=b))/\(∀(α:Type) [BEq α] [LawfulBEq α] (a b:α),((a==b)=true)=(a=b))/\(∀(α:Type) [BEq α] [LawfulBEq α] (a b:α),((a==b)=false)=¬(a=b))/\
  (∀b:Bool,((!b)=true)=(b=false))/\(∀b:Bool,((!b)=false)=(b=true))/\(∀(p:Prop) [Decidable p],(decide p=true)=p)/\(∀(p:Prop) [Decidable p],(decide p=false)=¬p):=
 ⟨fun _ _ _ _ _=>by simp,fun _ _ _ _ _=>by simp,fun _ _ _ _ _=>by simp,fun _ _ _ _ _=>by simp,fun b=>by simp,fun b=>by simp,fun p _=>by simp,fun p _=>by simp⟩
def AT {b c:Bool}:(cond b false c)=(!b&&c):=by cases b<;>rfl
def wi (n:Int)(h:-9223372036854775808<=n/\n<=9223372036854775807):IntKind.i64.wrap n=n:=Go.IntWalk.i64_in n h
def kQ {α S β:Type}{f g:Nat->α->S->S⊕β}{t u:S->β}:∀{xs:List α} {i:Nat} {s:S},(∀i,∀x∈xs,∀s,f i x s=g i x s)->(∀s,t s=u s)->dD f t i xs s=dD g u i xs s
 | [],_,s,_,h0=>h0 s
 | x::xs,i,s,h,h0=>by
  unfold dD
  rw [h i x (by simp) s]
  cases g i x s with
  | inl s'=>exact kQ (fun i y hy=>h i y (by simp [hy])) h0
  | inr b=>rfl
end Go.DM
namespace Go.DM
def eD (n:Int):Prop:=-9223372036854775808<=n/\n<=9223372036854775807
def bZ (n:Int):eD (IntKind.i64.wrap n):=by rw [IntKind.wrap_i64];unfold eD;omega
end Go.DM
namespace Go.DM
def iR {α β:Type}(f:α->Int->Int×β):List α->Int->Int×List β
 | [],k=>(k,[])
 | x::xs,k=>((iR f xs (f x k).1).1,(f x k).2::(iR f xs (f x k).1).2)
def iM {α β:Type}{f:α->Int->Int×β}{I:Int->Prop}(h:∀x k,I k->I (f x k).1):∀{xs:List α} {k:Int},I k->I (iR f xs k).1
 | [],_,hk=>hk
 | x::xs,k,hk=>iM h (xs:=xs) (h x k hk)
def rj {α:Type}{c:List α}{i:Nat}{y:α}:(c.set i y).drop (i+1)=c.drop (i+1):=by
 apply List.ext_getElem?
 intro j
 rw [List.getElem?_drop,List.getElem?_drop,List.getElem?_set,if_neg (by omega)]
def fO {Pt α:Type}{step:(Pt->aJ)->Pt->aJ}{pt:Nat->Int->List α->Pt}{el:α->Int->Int×α}{out:Int×List α->aJ}{xs:List α}(z:α)(I:Int->Prop)(hI:∀x k,I k->I (el x k).1)
  (h1:∀(J:Pt->aJ) (i:Nat) (k:Int) (c:List α),i<c.length->c.length=xs.length->I k->step J (pt i k c)=J (pt (i+1) (el (c.getD i z) k).1 (c.set i (el (c.getD i z) k).2)))
  (h0:∀(J:Pt->aJ) (k:Int) (c:List α),c.length=xs.length->step J (pt c.length k c)=out (k,c)) {k:Int} (hk:I k):∃m,iter step m (pt 0 k xs)=out (iR el xs k):=by
 have key:∀(n i:Nat) (c:List α) (k:Int),i+n=c.length->c.length=xs.length->I k->∃m,iter step m (pt i k c)=out ((iR el (c.drop i) k).1,c.take i++(iR el (c.drop i) k).2):=by
  intro n
  induction n with
  | zero=>
   intro i c k hi hc hk
   have :i=c.length:=by omega
   subst this
   refine ⟨1,(h0 _ k c hc).trans ?_⟩
   rw [List.drop_eq_nil_of_le (Nat.le_refl _),List.take_of_length_le (Nat.le_refl _)]
   simp [iR]
  | succ n ih=>
   intro i c k hi hc hk
   have hlt:i<c.length:=by omega
   obtain ⟨m,hm⟩:=ih (i+1) (c.set i (el (c.getD i z) k).2) (el (c.getD i z) k).1 (by simp;omega) (by simp [hc]) (hI _ _ hk)
   refine ⟨m+1,(h1 _ i k c hlt hc hk).trans (hm.trans ?_)⟩
   rw [rj,take_set hlt,List.drop_eq_getElem_cons hlt,eJ hlt]
   simp [iR]
 have:=key xs.length 0 xs k (by omega) rfl hk
 simpa using this
def iS {α:Type}(f:α->Int->Option Int):List α->Int->Int
 | [],k=>k
 | x::xs,k=>match f x k with
  | some k'=>iS f xs k'
  | none=>-1
def yd:Option Int->(Int->aJ)->aJ
 | none,_=>ret (-1:Int)
 | some k,K=>K k
def bH {c:Bool}{x y:aJ}{r:Option Int}{K:Int->aJ}(h1:x=ret (-1:Int))(h2:y=yd r K):(cond c x y)=yd (cond c none r) K:=by
 cases c
 ·exact h2
 ·exact h1
def ij {Pt α:Type}{step:(Pt->aJ)->Pt->aJ}{pt:Nat->Int->Pt}{f:α->Int->Option Int}{xs:List α}(z:α)(I:Int->Prop)(hI:∀x k k',I k->f x k=some k'->I k')
  (h1:∀(J:Pt->aJ) (i:Nat) (k:Int),i<xs.length->I k->step J (pt i k)=yd (f (xs.getD i z) k) (fun k'=>J (pt (i+1) k')))
  (h0:∀(J:Pt->aJ) (k:Int),step J (pt xs.length k)=ret k) {k:Int} (hk:I k):∃m,iter step m (pt 0 k)=ret (iS f xs k):=by
 have key:∀(n i:Nat) (k:Int),i+n=xs.length->I k->∃m,iter step m (pt i k)=ret (iS f (xs.drop i) k):=by
  intro n
  induction n with
  | zero=>
   intro i k hi hk
   have :i=xs.length:=by omega
   subst this
   refine ⟨1,(h0 _ k).trans ?_⟩
   rw [List.drop_eq_nil_of_le (Nat.le_refl _)];rfl
  | succ n ih=>
   intro i k hi hk
   have hlt:i<xs.length:=by omega
   rw [List.drop_eq_getElem_cons hlt]
   have h:=fun J=>h1 J i k hlt hk
   rw [eJ hlt] at h
   unfold iS
   cases hf:f xs[i] k with
   | none=>refine ⟨1,(h _).trans ?_⟩;rw [hf];rfl
   | some k'=>
    obtain ⟨m,hm⟩:=ih (i+1) k' (by omega) (hI _ _ _ hk hf)
    refine ⟨m+1,(h _).trans ?_⟩
    rw [hf];exact hm
 have:=key xs.length 0 k (by omega) hk
 simpa using this
def bG {c:Bool}{r:Option Int}{k:Int}(h:(cond c none r)=some k):r=some k:=by
 cases c
 ·exact h
 ·cases h
def wz:Option Int->Int
 | none=>-1
 | some k=>k
def nI {c:Bool}{x y:aJ}{r:Option Int}(h1:x=ret (-1:Int))(h2:y=ret (wz r)):(cond c x y)=ret (wz (cond c none r)):=by
 cases c
 ·exact h2
 ·exact h1
def jL {α:Type}{f:α->Int->Option Int}{I:Int->Prop}(hI:∀x k k',I k->f x k=some k'->I k')(hn:I (-1)):∀{xs:List α} {k:Int},I k->I (iS f xs k)
 | [],_,hk=>hk
 | x::xs,k,hk=>by
  unfold iS
  cases hf:f x k with
  | none=>exact hn
  | some k'=>exact jL hI hn (hI _ _ _ hk hf)
def gb {α:Type}{el:α->Int->Int×α}{cnt:α->Nat}(h:∀x k,0<=k->k+(cnt x:Int)<=4611686018427387904->(el x k).1=k+cnt x) :
  ∀(xs:List α) (k:Int),0<=k->k+((xs.map cnt).sum:Int)<=4611686018427387904->(iR el xs k).1=k+(xs.map cnt).sum
 | [],k,_,_=>by simp [iR]
 | x::xs,k,h0,hb=>by
  simp only [List.map_cons,List.sum_cons,Int.natCast_add] at hb ⊢
  have e1:=h x k h0 (by omega)
  have e3:=gb h xs (k+cnt x) (by omega) (by omega)
  simp only [iR,e1]
  rw [e3];omega
def gU {α:Type}{el:α->Int->Int×α}{f:α->Int->Option Int}{cnt:α->Nat}(h:∀x k,0<=k->k+(cnt x:Int)<=4611686018427387904->(el x k).1=k+cnt x)
  (h2:∀x k,0<=k->k+(cnt x:Int)<=4611686018427387904->f (el x k).2 k=some (k+cnt x)) :
  ∀(xs:List α) (k:Int),0<=k->k+((xs.map cnt).sum:Int)<=4611686018427387904->iS f (iR el xs k).2 k=k+(xs.map cnt).sum
 | [],k,_,_=>by simp [iR,iS]
 | x::xs,k,h0,hb=>by
  simp only [List.map_cons,List.sum_cons,Int.natCast_add] at hb ⊢
  have e1:=h x k h0 (by omega)
  have e2:=h2 x k h0 (by omega)
  have e4:=gU h h2 xs (k+cnt x) (by omega) (by omega)
  simp only [iR,iS,e1,e2]
  rw [e4];omega
def iL {α:Type}{cnt f:α->Nat}(h:∀x,cnt x<=60+60*f x):∀xs:List α,(xs.map cnt).sum<=60*dJ f xs
 | []=>by simp
 | x::xs=>by
  have h1:=h x
  have h2:=iL h xs
  unfold dJ at h2 ⊢
  simp only [List.map_cons,List.sum_cons,List.length_cons]
  omega
def nA {α:Type}{f:α->Nat}{xs:List α}{i:Nat}{z:α}(h:i<xs.length):f (xs.getD i z)<=dJ f xs:=by
 rw [eJ h]
 have:=tD (f:=f) (List.getElem_mem h)
 unfold dJ
 omega
def nD {α:Type}{f:α->Nat}{xs:List α}{i:Nat}{z:α}(hz:f z=0):f (xs.getD i z)<=dJ f xs:=by
 by_cases h:i<xs.length
 ·exact nA h
 ·rw [List.getD_eq_getElem?_getD,List.getElem?_eq_none (by omega)]
  show f z<=_
  omega
def vY {α:Type}{f:α->Nat}:∀(xs:List α) (i:Nat) (y:α),dJ f (xs.set i y)<=dJ f xs+(f y+1)
 | [],_,_=>by simp [dJ]
 | x::xs,0,y=>by simp [dJ];omega
 | x::xs,i+1,y=>by
  have:=vY (f:=f) xs i y
  simp [dJ] at this ⊢
  omega
def vg {α:Type}{f:α->Nat}(xs:List α)(y:α):dJ f (xs++[y])<=dJ f xs+(f y+1):=by simp [dJ];omega
def qQ:∀xs:List Int,dJ (fun _:Int=>0) xs=xs.length
 | []=>rfl
 | x::xs=>by
  have:=qQ xs
  simp only [dJ,List.length_cons,List.map_cons,List.sum_cons] at this ⊢
  omega
def bM.set {α:Type}{n:Nat}{p:α->Prop}{xs:List α}{i:Nat}{y:α}(h:bM n p xs)(g:p y):bM n p (xs.set i y):=
 ⟨by rw [List.length_set];exact h.1,fun x hx=>(List.mem_or_eq_of_mem_set hx).elim (h.2 x) fun e=>e ▸ g⟩
def bM.app {α:Type}{n a b:Nat}{p:α->Prop}{xs ys:List α}(h:bM a p xs)(g:bM b p ys)(hn:a+b<=n):bM n p (xs++ys):=
 ⟨by rw [List.length_append];have:=h.1;have:=g.1;omega,fun x hx=>(List.mem_append.1 hx).elim (h.2 x) (g.2 x)⟩
def bM.vG {α:Type}{n:Nat}{p:α->Prop}{xs:List α}{i:Nat}{z:α}(h:bM n p xs)(hz:p z):p (xs.getD i z):=by
 by_cases hi:i<xs.length
 ·exact bM.getD h hi
 ·rw [List.getD_eq_getElem?_getD,List.getElem?_eq_none (by omega)];exact hz
def bM.one {α:Type}{p:α->Prop}{y:α}(h:p y):bM 1 p [y]:=⟨Nat.le_refl _,fun x hx=>by rw [List.mem_singleton.1 hx];exact h⟩
def kC:eD (-1):=⟨by decide,by decide⟩
def iw:eD 1:=⟨by decide,by decide⟩
def qE {α S β γ:Type}{f:Nat->α->S->S⊕β}{t:S->β}{g:α->S->S⊕γ}{u:S->γ}{p:β->γ}(h:∀i x s,(f i x s).map id p=g x s)(h0:∀s,p (t s)=u s) :
  ∀(xs:List α) (i:Nat) (s:S),p (dD f t i xs s)=dQ g u xs s
 | [],i,s=>h0 s
 | x::xs,i,s=>by
  have hx:=h i x s
  unfold dD dQ
  rw [<-hx]
  cases f i x s with
  | inl s'=>exact qE h h0 xs (i+1) s'
  | inr b=>rfl
def lm {n:Int}(h:n<=140737488355328:=by (try simp (disch:=omega) only [LN,wi,Bool.cond_decide]);first | omega | (simp;done) | (simp;omega)):eS n=true:=iF h
def dt {p:Prop}{_:Decidable p}(h:p:=by (try simp (disch:=omega) only [LN,wi,Bool.cond_decide]);first | omega | (simp;done) | (simp;omega)):decide p=true:=decide_eq_true h
def df {p:Prop}{_:Decidable p}(h:¬p:=by (try simp (disch:=omega) only [LN,wi,Bool.cond_decide]);first | omega | (simp;done) | (simp;omega)):decide p=false:=decide_eq_false h
def om {p:Prop}(h:p:=by (try simp (disch:=omega) only [LN,wi,Bool.cond_decide]);first | omega | (simp;done) | (simp;omega)):p:=h
def ct {γ:Type}[RT γ]{o:Option γ}{b:γ}{k:γ->aJ}{r:aJ}(h:o=some b)(hk:k b=r):call o k=r:=aZ b h hk
def cx {γ:Type}[RT γ]{o:Option γ}{b:γ}{k:Nat->γ->aJ}{r:aJ}(h:o=some b)(hk:∃n,k n b=r):∃n,call o (k n)=r:=eV b h hk
def cr {S β γ:Type}[RT γ]{K:S->aJ}{out:β->aJ}{Q:S->Prop}{o:Option γ}{b:γ}{k:γ->aJ}{r:S⊕β}(h:o=some b)(hk:bC (k b) K out Q r):bC (DM.call o k) K out Q r:=bC.aZ b h hk
def W1 {A A' Z Z':Type}[Im A A'][RT A'][Im Z Z'][RT Z']{P:Program}{T:List (Nat×TI)}{G:List (Nat×fR)}{f:FuncId}{fn:Func}{ps:List ga}{r:RP}{g:A->Prop}{m:A->Z}(nt:Nat)(F:A'->aJ)(hm:P.follows .mixedOrders=true)(hT:eM P T=true)(ok:∀a0,g a0->F (Im.im a0)=ret (Im.im (m a0)))(hG:gA P (dG T) G)(hf:P.funcs[f]?=some fn)
  (hb:rA fn (CN ps r (RT.dec:List L->A') (RR g m)) nt=true:=by kernel_rfl) (hr:∀n ls,eG { T:=assoc T,G:=dw G,nt:=nt } (fun _=>[]) fn r n (cU ps ls)=F (RT.dec ls:A'):=by intro _ _;kernel_rfl):Valid P (dG T) f (CN ps r (RT.dec:List L->A') (RR g m)):=
 VV (run:=fun _ x=>F x) hm hT hG hf hb hr fun _ a _ _ h=>⟨0,ok a h⟩
def L1 {A A' Z Z':Type}[Im A A'][RT A'][Im Z Z'][RT Z']{P:Program}{T:List (Nat×TI)}{G:List (Nat×fR)}{f:FuncId}{fn:Func}{ps:List ga}{r:RP}{g:A->Prop}{m:A->Z}{Pt:Type}(nt:Nat)(id:Pt->Nat)(vs:Pt->List V)(hs:Pt->List aV)(live:Nat->Live)(step:(Pt->aJ)->Pt->aJ)(start:(Pt->aJ)->A'->aJ)(hm:P.follows .mixedOrders=true)(hT:eM P T=true)(ok:∀a0,g a0->∃n,start (iter step n) (Im.im a0)=ret (Im.im (m a0)))(hG:gA P (dG T) G)(hf:P.funcs[f]?=some fn)
  (hb:rA fn (CN ps r (RT.dec:List L->A') (RR g m)) nt=true:=by kernel_rfl) (h1:∀(I:cB) (p:Pt),cR { T:=assoc T,G:=dw G,nt:=nt } live I (id p) (bL fn) (fm (live (id p)) (vs p) (hs p)) (cA { T:=assoc T,G:=dw G,nt:=nt } fn r)=step (fun q=>I (id q) (vs q) (hs q)) p:=by intro _ p;cases p<;>kernel_rfl)
  (h0:∀(I:cB) (ls:List L),eL { T:=assoc T,G:=dw G,nt:=nt } live I (bL fn) (cU ps ls) (cA { T:=assoc T,G:=dw G,nt:=nt } fn r)=start (fun q=>I (id q) (vs q) (hs q)) (RT.dec ls:A'):=by intro _ _;kernel_rfl):Valid P (dG T) f (CN ps r (RT.dec:List L->A') (RR g m)):=
 VV (run:=fun n x=>start (iter step n) x) hm hT hG hf hb (fun n ls=>cq (start:=fun J=>start J (RT.dec ls:A')) h1 (fun I=>h0 I ls) n) fun _ a _ _ h=>ok a h
def W2 {A A' B B' Z Z':Type}[Im A A'][RT A'][Im B B'][RT B'][Im Z Z'][RT Z']{P:Program}{T:List (Nat×TI)}{G:List (Nat×fR)}{f:FuncId}{fn:Func}{ps:List ga}{r:RP}{g:A->B->Prop}{m:A->B->Z}(nt:Nat)(F:A'->B'->aJ)(hm:P.follows .mixedOrders=true)(hT:eM P T=true)(ok:∀a0 a1,g a0 a1->F (Im.im a0) (Im.im a1)=ret (Im.im (m a0 a1)))(hG:gA P (dG T) G)(hf:P.funcs[f]?=some fn)
  (hb:rA fn (CN ps r (RT.dec:List L->A'×B') (RR (p2 g) (u2 m))) nt=true:=by kernel_rfl) (hr:∀n ls,eG { T:=assoc T,G:=dw G,nt:=nt } (fun _=>[]) fn r n (cU ps ls)=F (RT.dec ls:A'×B').1 (RT.dec ls:A'×B').2:=by intro _ _;kernel_rfl):Valid P (dG T) f (CN ps r (RT.dec:List L->A'×B') (RR (p2 g) (u2 m))):=
 VV (run:=fun _ x=>F x.1 x.2) hm hT hG hf hb hr fun _ a _ _ h=>⟨0,ok a.1 a.2 h⟩
def L2 {A A' B B' Z Z':Type}[Im A A'][RT A'][Im B B'][RT B'][Im Z Z'][RT Z']{P:Program}{T:List (Nat×TI)}{G:List (Nat×fR)}{f:FuncId}{fn:Func}{ps:List ga}{r:RP}{g:A->B->Prop}{m:A->B->Z}{Pt:Type}(nt:Nat)(id:Pt->Nat)(vs:Pt->List V)(hs:Pt->List aV)(live:Nat->Live)(step:(Pt->aJ)->Pt->aJ)(start:(Pt->aJ)->A'->B'->aJ)(hm:P.follows .mixedOrders=true)(hT:eM P T=true)(ok:∀a0 a1,g a0 a1->∃n,start (iter step n) (Im.im a0) (Im.im a1)=ret (Im.im (m a0 a1)))(hG:gA P (dG T) G)(hf:P.funcs[f]?=some fn)
  (hb:rA fn (CN ps r (RT.dec:List L->A'×B') (RR (p2 g) (u2 m))) nt=true:=by kernel_rfl) (h1:∀(I:cB) (p:Pt),cR { T:=assoc T,G:=dw G,nt:=nt } live I (id p) (bL fn) (fm (live (id p)) (vs p) (hs p)) (cA { T:=assoc T,G:=dw G,nt:=nt } fn r)=step (fun q=>I (id q) (vs q) (hs q)) p:=by intro _ p;cases p<;>kernel_rfl)
  (h0:∀(I:cB) (ls:List L),eL { T:=assoc T,G:=dw G,nt:=nt } live I (bL fn) (cU ps ls) (cA { T:=assoc T,G:=dw G,nt:=nt } fn r)=start (fun q=>I (id q) (vs q) (hs q)) (RT.dec ls:A'×B').1 (RT.dec ls:A'×B').2:=by intro _ _;kernel_rfl):Valid P (dG T) f (CN ps r (RT.dec:List L->A'×B') (RR (p2 g) (u2 m))):=
 VV (run:=fun n x=>start (iter step n) x.1 x.2) hm hT hG hf hb (fun n ls=>cq (start:=fun J=>start J (RT.dec ls:A'×B').1 (RT.dec ls:A'×B').2) h1 (fun I=>h0 I ls) n) fun _ a _ _ h=>ok a.1 a.2 h
def W3 {A A' B B' C C' Z Z':Type}[Im A A'][RT A'][Im B B'][RT B'][Im C C'][RT C'][Im Z Z'][RT Z']{P:Program}{T:List (Nat×TI)}{G:List (Nat×fR)}{f:FuncId}{fn:Func}{ps:List ga}{r:RP}{g:A->B->C->Prop}{m:A->B->C->Z}(nt:Nat)(F:A'->B'->C'->aJ)(hm:P.follows .mixedOrders=true)(hT:eM P T=true)(ok:∀a0 a1 a2,g a0 a1 a2->F (Im.im a0) (Im.im a1) (Im.im a2)=ret (Im.im (m a0 a1 a2)))(hG:gA P (dG T) G)(hf:P.funcs[f]?=some fn)
  (hb:rA fn (CN ps r (RT.dec:List L->A'×B'×C') (RR (p3 g) (u3 m))) nt=true:=by kernel_rfl) (hr:∀n ls,eG { T:=assoc T,G:=dw G,nt:=nt } (fun _=>[]) fn r n (cU ps ls)=F (RT.dec ls:A'×B'×C').1 (RT.dec ls:A'×B'×C').2.1 (RT.dec ls:A'×B'×C').2.2:=by intro _ _;kernel_rfl):Valid P (dG T) f (CN ps r (RT.dec:List L->A'×B'×C') (RR (p3 g) (u3 m))):=
 VV (run:=fun _ x=>F x.1 x.2.1 x.2.2) hm hT hG hf hb hr fun _ a _ _ h=>⟨0,ok a.1 a.2.1 a.2.2 h⟩
def L3 {A A' B B' C C' Z Z':Type}[Im A A'][RT A'][Im B B'][RT B'][Im C C'][RT C'][Im Z Z'][RT Z']{P:Program}{T:List (Nat×TI)}{G:List (Nat×fR)}{f:FuncId}{fn:Func}{ps:List ga}{r:RP}{g:A->B->C->Prop}{m:A->B->C->Z}{Pt:Type}(nt:Nat)(id:Pt->Nat)(vs:Pt->List V)(hs:Pt->List aV)(live:Nat->Live)(step:(Pt->aJ)->Pt->aJ)(start:(Pt->aJ)->A'->B'->C'->aJ)(hm:P.follows .mixedOrders=true)(hT:eM P T=true)(ok:∀a0 a1 a2,g a0 a1 a2->∃n,start (iter step n) (Im.im a0) (Im.im a1) (Im.im a2)=ret (Im.im (m a0 a1 a2)))(hG:gA P (dG T) G)(hf:P.funcs[f]?=some fn)
  (hb:rA fn (CN ps r (RT.dec:List L->A'×B'×C') (RR (p3 g) (u3 m))) nt=true:=by kernel_rfl) (h1:∀(I:cB) (p:Pt),cR { T:=assoc T,G:=dw G,nt:=nt } live I (id p) (bL fn) (fm (live (id p)) (vs p) (hs p)) (cA { T:=assoc T,G:=dw G,nt:=nt } fn r)=step (fun q=>I (id q) (vs q) (hs q)) p:=by intro _ p;cases p<;>kernel_rfl)
  (h0:∀(I:cB) (ls:List L),eL { T:=assoc T,G:=dw G,nt:=nt } live I (bL fn) (cU ps ls) (cA { T:=assoc T,G:=dw G,nt:=nt } fn r)=start (fun q=>I (id q) (vs q) (hs q)) (RT.dec ls:A'×B'×C').1 (RT.dec ls:A'×B'×C').2.1 (RT.dec ls:A'×B'×C').2.2:=by intro _ _;kernel_rfl):Valid P (dG T) f (CN ps r (RT.dec:List L->A'×B'×C') (RR (p3 g) (u3 m))):=
 VV (run:=fun n x=>start (iter step n) x.1 x.2.1 x.2.2) hm hT hG hf hb (fun n ls=>cq (start:=fun J=>start J (RT.dec ls:A'×B'×C').1 (RT.dec ls:A'×B'×C').2.1 (RT.dec ls:A'×B'×C').2.2) h1 (fun I=>h0 I ls) n) fun _ a _ _ h=>ok a.1 a.2.1 a.2.2 h
def W4 {A A' B B' C C' D D' Z Z':Type}[Im A A'][RT A'][Im B B'][RT B'][Im C C'][RT C'][Im D D'][RT D'][Im Z Z'][RT Z']{P:Program}{T:List (Nat×TI)}{G:List (Nat×fR)}{f:FuncId}{fn:Func}{ps:List ga}{r:RP}{g:A->B->C->D->Prop}{m:A->B->C->D->Z}(nt:Nat)(F:A'->B'->C'->D'->aJ)(hm:P.follows .mixedOrders=true)(hT:eM P T=true)(ok:∀a0 a1 a2 a3,g a0 a1 a2 a3->F (Im.im a0) (Im.im a1) (Im.im a2) (Im.im a3)=ret (Im.im (m a0 a1 a2 a3)))(hG:gA P (dG T) G)(hf:P.funcs[f]?=some fn)
  (hb:rA fn (CN ps r (RT.dec:List L->A'×B'×C'×D') (RR (p4 g) (u4 m))) nt=true:=by kernel_rfl) (hr:∀n ls,eG { T:=assoc T,G:=dw G,nt:=nt } (fun _=>[]) fn r n (cU ps ls)=F (RT.dec ls:A'×B'×C'×D').1 (RT.dec ls:A'×B'×C'×D').2.1 (RT.dec ls:A'×B'×C'×D').2.2.1 (RT.dec ls:A'×B'×C'×D').2.2.2:=by intro _ _;kernel_rfl):Valid P (dG T) f (CN ps r (RT.dec:List L->A'×B'×C'×D') (RR (p4 g) (u4 m))):=
 VV (run:=fun _ x=>F x.1 x.2.1 x.2.2.1 x.2.2.2) hm hT hG hf hb hr fun _ a _ _ h=>⟨0,ok a.1 a.2.1 a.2.2.1 a.2.2.2 h⟩
def L4 {A A' B B' C C' D D' Z Z':Type}[Im A A'][RT A'][Im B B'][RT B'][Im C C'][RT C'][Im D D'][RT D'][Im Z Z'][RT Z']{P:Program}{T:List (Nat×TI)}{G:List (Nat×fR)}{f:FuncId}{fn:Func}{ps:List ga}{r:RP}{g:A->B->C->D->Prop}{m:A->B->C->D->Z}{Pt:Type}(nt:Nat)(id:Pt->Nat)(vs:Pt->List V)(hs:Pt->List aV)(live:Nat->Live)(step:(Pt->aJ)->Pt->aJ)(start:(Pt->aJ)->A'->B'->C'->D'->aJ)(hm:P.follows .mixedOrders=true)(hT:eM P T=true)(ok:∀a0 a1 a2 a3,g a0 a1 a2 a3->∃n,start (iter step n) (Im.im a0) (Im.im a1) (Im.im a2) (Im.im a3)=ret (Im.im (m a0 a1 a2 a3)))(hG:gA P (dG T) G)(hf:P.funcs[f]?=some fn)
  (hb:rA fn (CN ps r (RT.dec:List L->A'×B'×C'×D') (RR (p4 g) (u4 m))) nt=true:=by kernel_rfl) (h1:∀(I:cB) (p:Pt),cR { T:=assoc T,G:=dw G,nt:=nt } live I (id p) (bL fn) (fm (live (id p)) (vs p) (hs p)) (cA { T:=assoc T,G:=dw G,nt:=nt } fn r)=step (fun q=>I (id q) (vs q) (hs q)) p:=by intro _ p;cases p<;>kernel_rfl)
  (h0:∀(I:cB) (ls:List L),eL { T:=assoc T,G:=dw G,nt:=nt } live I (bL fn) (cU ps ls) (cA { T:=assoc T,G:=dw G,nt:=nt } fn r)=start (fun q=>I (id q) (vs q) (hs q)) (RT.dec ls:A'×B'×C'×D').1 (RT.dec ls:A'×B'×C'×D').2.1 (RT.dec ls:A'×B'×C'×D').2.2.1 (RT.dec ls:A'×B'×C'×D').2.2.2:=by intro _ _;kernel_rfl):Valid P (dG T) f (CN ps r (RT.dec:List L->A'×B'×C'×D') (RR (p4 g) (u4 m))):=
 VV (run:=fun n x=>start (iter step n) x.1 x.2.1 x.2.2.1 x.2.2.2) hm hT hG hf hb (fun n ls=>cq (start:=fun J=>start J (RT.dec ls:A'×B'×C'×D').1 (RT.dec ls:A'×B'×C'×D').2.1 (RT.dec ls:A'×B'×C'×D').2.2.1 (RT.dec ls:A'×B'×C'×D').2.2.2) h1 (fun I=>h0 I ls) n) fun _ a _ _ h=>ok a.1 a.2.1 a.2.2.1 a.2.2.2 h
def W5 {A A' B B' C C' D D' X X' Z Z':Type}[Im A A'][RT A'][Im B B'][RT B'][Im C C'][RT C'][Im D D'][RT D'][Im X X'][RT X'][Im Z Z'][RT Z']{P:Program}{T:List (Nat×TI)}{G:List (Nat×fR)}{f:FuncId}{fn:Func}{ps:List ga}{r:RP}{g:A->B->C->D->X->Prop}{m:A->B->C->D->X->Z}(nt:Nat)(F:A'->B'->C'->D'->X'->aJ)(hm:P.follows .mixedOrders=true)(hT:eM P T=true)(ok:∀a0 a1 a2 a3 a4,g a0 a1 a2 a3 a4->F (Im.im a0) (Im.im a1) (Im.im a2) (Im.im a3) (Im.im a4)=ret (Im.im (m a0 a1 a2 a3 a4)))(hG:gA P (dG T) G)(hf:P.funcs[f]?=some fn)
  (hb:rA fn (CN ps r (RT.dec:List L->A'×B'×C'×D'×X') (RR (p5 g) (u5 m))) nt=true:=by kernel_rfl) (hr:∀n ls,eG { T:=assoc T,G:=dw G,nt:=nt } (fun _=>[]) fn r n (cU ps ls)=F (RT.dec ls:A'×B'×C'×D'×X').1 (RT.dec ls:A'×B'×C'×D'×X').2.1 (RT.dec ls:A'×B'×C'×D'×X').2.2.1 (RT.dec ls:A'×B'×C'×D'×X').2.2.2.1 (RT.dec ls:A'×B'×C'×D'×X').2.2.2.2:=by intro _ _;kernel_rfl):Valid P (dG T) f (CN ps r (RT.dec:List L->A'×B'×C'×D'×X') (RR (p5 g) (u5 m))):=
 VV (run:=fun _ x=>F x.1 x.2.1 x.2.2.1 x.2.2.2.1 x.2.2.2.2) hm hT hG hf hb hr fun _ a _ _ h=>⟨0,ok a.1 a.2.1 a.2.2.1 a.2.2.2.1 a.2.2.2.2 h⟩
def L5 {A A' B B' C C' D D' X X' Z Z':Type}[Im A A'][RT A'][Im B B'][RT B'][Im C C'][RT C'][Im D D'][RT D'][Im X X'][RT X'][Im Z Z'][RT Z']{P:Program}{T:List (Nat×TI)}{G:List (Nat×fR)}{f:FuncId}{fn:Func}{ps:List ga}{r:RP}{g:A->B->C->D->X->Prop}{m:A->B->C->D->X->Z}{Pt:Type}(nt:Nat)(id:Pt->Nat)(vs:Pt->List V)(hs:Pt->List aV)(live:Nat->Live)(step:(Pt->aJ)->Pt->aJ)(start:(Pt->aJ)->A'->B'->C'->D'->X'->aJ)(hm:P.follows .mixedOrders=true)(hT:eM P T=true)(ok:∀a0 a1 a2 a3 a4,g a0 a1 a2 a3 a4->∃n,start (iter step n) (Im.im a0) (Im.im a1) (Im.im a2) (Im.im a3) (Im.im a4)=ret (Im.im (m a0 a1 a2 a3 a4)))(hG:gA P (dG T) G)(hf:P.funcs[f]?=some fn)
  (hb:rA fn (CN ps r (RT.dec:List L->A'×B'×C'×D'×X') (RR (p5 g) (u5 m))) nt=true:=by kernel_rfl) (h1:∀(I:cB) (p:Pt),cR { T:=assoc T,G:=dw G,nt:=nt } live I (id p) (bL fn) (fm (live (id p)) (vs p) (hs p)) (cA { T:=assoc T,G:=dw G,nt:=nt } fn r)=step (fun q=>I (id q) (vs q) (hs q)) p:=by intro _ p;cases p<;>kernel_rfl)
  (h0:∀(I:cB) (ls:List L),eL { T:=assoc T,G:=dw G,nt:=nt } live I (bL fn) (cU ps ls) (cA { T:=assoc T,G:=dw G,nt:=nt } fn r)=start (fun q=>I (id q) (vs q) (hs q)) (RT.dec ls:A'×B'×C'×D'×X').1 (RT.dec ls:A'×B'×C'×D'×X').2.1 (RT.dec ls:A'×B'×C'×D'×X').2.2.1 (RT.dec ls:A'×B'×C'×D'×X').2.2.2.1 (RT.dec ls:A'×B'×C'×D'×X').2.2.2.2:=by intro _ _;kernel_rfl):Valid P (dG T) f (CN ps r (RT.dec:List L->A'×B'×C'×D'×X') (RR (p5 g) (u5 m))):=
 VV (run:=fun n x=>start (iter step n) x.1 x.2.1 x.2.2.1 x.2.2.2.1 x.2.2.2.2) hm hT hG hf hb (fun n ls=>cq (start:=fun J=>start J (RT.dec ls:A'×B'×C'×D'×X').1 (RT.dec ls:A'×B'×C'×D'×X').2.1 (RT.dec ls:A'×B'×C'×D'×X').2.2.1 (RT.dec ls:A'×B'×C'×D'×X').2.2.2.1 (RT.dec ls:A'×B'×C'×D'×X').2.2.2.2) h1 (fun I=>h0 I ls) n) fun _ a _ _ h=>ok a.1 a.2.1 a.2.2.1 a.2.2.2.1 a.2.2.2.2 h
def gW {α:Type}{l:List α}{x:α}{i:Nat}(h:l.length<=i):(l++[x]).length<=i+1:=by rw [List.length_append];exact Nat.add_le_add_right h 1
def cj (c:Bool)(x:aJ):aJ:=bif c then x else none
def m2 (v n:Int)(x:aJ):aJ:=bif decide (0<=v) then (cond (decide (v<n)) x none) else none
def m3 (v n:Int)(x:aJ):aJ:=bif decide (0<=v) then (cond (decide (v<n)) (cond (Nat.beq (Int.toNat v) (Int.toNat v)&&true) x none) none) else none
def MM:(∀c x,cj c x=bif c then x else none)/\(∀v n x,m2 v n x=bif decide (0<=v) then (cond (decide (v<n)) x none) else none)/\(∀v n x,m3 v n x=bif decide (0<=v) then (cond (decide (v<n)) (cond (Nat.beq (Int.toNat v) (Int.toNat v)&&true) x none) none) else none):=⟨fun _ _=>rfl,fun _ _ _=>rfl,fun _ _ _=>rfl⟩
abbrev pI:ga:=.rd (.int .i64)
abbrev pS:ga:=.rd .str
abbrev pB:ga:=.rd .bool
abbrev pL (e:Nat):ga:=.rd (.sl e)
abbrev oI:RP:=.one (.rd (.int .i64))
abbrev oB:RP:=.one (.rd .bool)
abbrev oS:RP:=.one (.rd .str)
abbrev oL (e:Nat):RP:=.one (.fr e)
abbrev fI:Lf:=.rd (.int .i64)
abbrev fS:Lf:=.rd .str
abbrev fB:Lf:=.rd .bool
end Go.DM
set_option linter.unusedSectionVars false
namespace Go.DM
section
variable {P:Program} {E:Env} {w0 w w':World} {ans:List L}
end
section
variable {T:Nat->List K} {w w' w0:World} {A A':dz} {rs:List Nat} {np:Nat} {M:Mem np} {hp:Nat->aV}
end
section
variable {E:Env} {w0 w:World} {np:Nat} {M:Mem np} {A B:dz} {hp:Nat->aV} {ans:List L} {Z:Nat->Prop} {r:Nat}
end
section
variable {P:Program} {E:Env}
end
def bM.take {α:Type}{n k:Nat}{p:α->Prop}{xs:List α}(h:bM n p xs):bM n p (xs.take k):=⟨Nat.le_trans (by simp;omega) h.1,fun x hx=>h.2 x (List.mem_of_mem_take hx)⟩
def bM.drop {α:Type}{n k:Nat}{p:α->Prop}{xs:List α}(h:bM n p xs):bM n p (xs.drop k):=⟨Nat.le_trans (by simp) h.1,fun x hx=>h.2 x (List.mem_of_mem_drop hx)⟩
def bM.map {α β:Type}{n:Nat}{p:α->Prop}{q:β->Prop}{f:α->β}{xs:List α}(h:bM n p xs)(hf:∀x,p x->q (f x)):bM n q (xs.map f):=
 ⟨by rw [List.length_map];exact h.1,fun y hy=>by obtain ⟨x,hx,rfl⟩:=List.mem_map.1 hy;exact hf x (h.2 x hx)⟩
section
variable {P:Program} {T:List (Nat×TI)} {G:List (Nat×fR)} {S:List (Nat×gC)} {I:List (Nat×kI)} {nt:Nat} {mt:Bool} {J:List Nat}
end
section
variable {A A' B B':Type} [Im A A'] [Im B B'] {g:A->Prop} {m:A->B}
theorem VJ [RT B']{X:Type}{P:Program}{T:List (Nat×TI)}{G:List (Nat×fR)}{S:List (Nat×gC)}{I:List (Nat×kI)}{nt:Nat}{mt:Bool}{J:List Nat}{f:FuncId}{fn:Func}{ps:List ga}{r:RP}{acc:List L->A'}{accr:List L->X}{live:Nat->Live}{run:Nat->X->aJ}
  (hm:P.follows .mixedOrders=true) (hT:eM P T=true) (hG:gA P (dG T) G) (hS:jR P (dG T) S) (hI:oo P (dG T) 0 I) (hf:P.funcs[f]?=some fn) (hb:rA fn (CN ps r acc (RR g m)) nt=true)
  (hrun:∀n ls,eG { T:=assoc T,G:=dw G,nt:=nt,M:=fK S,mt:=mt,I:=nU I,J:=J } live fn r n (cU ps ls)=run n (accr ls))
  (hok:∀ls a,pJ (dG T).cells ps ls->acc ls=Im.im a->g a->∃n,run n (accr ls)=ret (Im.im (m a))):Valid P (dG T) f (CN ps r acc (RR g m)):=
 wh hm hT hG hS hI hf hb live fun ls q hl h=>by
  obtain ⟨v,hv,hq⟩:=map_some h
  obtain ⟨a,hg,e,hm⟩:=jZ hv
  obtain ⟨n,hn⟩:=hok ls a hl e.symm hg
  exact ⟨n,(hrun n ls).trans (hn.trans (by rw [<-hq,<-hm];rfl))⟩
end
def bs {β:Type}[RT β]{c:Bool}{x y:aJ}{a b:β}(h1:c=true->x=ret a)(h2:c=false->y=ret b):(cond c x y)=ret (cond c a b):=av ret h1 h2
def bl {α:Type}{n:Nat}{p:α->Prop}{xs:List α}(h:bM n p xs)(hn:n<=maxLen:=by decide):xs.length<=maxLen:=Nat.le_trans h.1 hn
end Go.DM

end
