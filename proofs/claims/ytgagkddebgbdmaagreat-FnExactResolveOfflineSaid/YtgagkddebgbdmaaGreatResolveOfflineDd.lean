/- A small machine over the translated code, and the proof that what it computes the code does. Conditions: none. -/
import Derived.Test.YtgagkddebgbdmaaGreatResolveOfflineDc
import Derived.ChangeArms
import Derived.Deep.Slices
import Derived.DataReads
import Derived.Carry
import Derived.ChangeOld
import Derived.WideShapes
import Derived.ChangeShapes
import Derived.IntWalk
import Derived.Lib.SliceRun
set_option linter.all false
noncomputable section
set_option linter.unusedSectionVars false
namespace Go.DM
def assoc {α:Type}:List (Nat×α)->Nat->Option α
 | [],_=>none
 | (k,v)::l,i=>bif Nat.beq k i then some v else assoc l i
def qe {α:Type}:∀{l:List (Nat×α)} {i:Nat} {v:α},assoc l i=some v->(i,v)∈l
 | [],i,v,h=>by cases h
 | (k,u)::l,i,v,h=>by
  simp only [assoc] at h
  cases hb:Nat.beq k i<;>simp only [hb,aZ,bg] at h
  ·exact List.mem_cons_of_mem _ (qe h)
  ·injection h with h;rw [Nat.eq_of_beq_eq_true hb,h];simp
def Av:Value->K->Bool
 | .int a n,.int b=>iZ a b&&decide (n=0)
 | .bool b,.bool=>!b
 | .string ⟨⟨[]⟩⟩,.str=>true
 | .slice none 0 0,.sl _=>true
 | _,_=>false
def zH {v:Value}{k:K}(h:Av v k=true):v=jZ k:=by
 unfold Av at h
 split at h
 ·simp only [Bool.and_eq_true,decide_eq_true_eq] at h
  obtain ⟨h1,rfl⟩:=h
  rw [ig h1];rfl
 ·simp at h;subst h;rfl
 ·rfl
 ·rfl
 ·cases h
def uP:List Value->List K->Bool
 | [],[]=>true
 | v::vs,k::ks=>Av v k&&uP vs ks
 | _,_=>false
def ue:∀{vs:List Value} {ks:List K},uP vs ks=true->vs=ks.map jZ
 | [],[],_=>rfl
 | [],_::_,h=>by cases h
 | _::_,[],h=>by cases h
 | v::vs,k::ks,h=>by
  simp only [uP,Bool.and_eq_true] at h
  rw [zH h.1,ue h.2];rfl
def lG (P:Program)(T:Nat->Option TI):List Field->List (Nat×Nat)->Nat->List K->Bool
 | [],[],_,[]=>true
 | f::fs,p::ps,o,ks=>Nat.beq f.offset p.1&&(Nat.beq f.type p.2&&(Nat.beq p.1 o&&(match P.info? f.type with
  | some fi=>match T p.2 with
   | some ti=>Nat.beq fi.size ti.cells.length&&(rI (ks.take ti.cells.length) ti.cells&&lG P T fs ps (o+ti.cells.length) (ks.drop ti.cells.length))
   | none=>false
  | none=>false)))
 | _,_,_,_=>false
def ju {P:Program}{E:Env}:∀{fs:List Field} {ps:List (Nat×Nat)} {o:Nat} {ks:List K},lG P E.T fs ps o ks=true->
  ∃places,fs.mapM (fun f=>(P.info? f.type).map fun i=>(f.offset,i.size))=some places/\fs.length=ps.length/\
   ∀(j:Nat) (p:Nat×Nat),ps[j]?=some p->∃f ti,fs[j]?=some f/\f.offset=p.1/\f.type=p.2/\E.T p.2=some ti/\places[j]?=some (p.1,(E.cells p.2).length)/\o<=p.1/\P.cellsOf f.type=ti.cells.length/\(∀l kk,ti.cells[l]?=some kk->ks[p.1 - o+l]?=some kk)/\p.1 - o+ti.cells.length<=ks.length
 | [],[],o,[],_=>⟨[],by simp,rfl,fun j p hp=>by simp at hp⟩
 | [],[],o,_::_,h=>by cases h
 | [],_::_,o,ks,h=>by cases h
 | _::_,[],o,ks,h=>by cases h
 | f::fs,p::ps,o,ks,h=>by
  simp only [lG,Bool.and_eq_true] at h
  obtain ⟨h1,h2,h3,h4⟩:=h
  split at h4
  ·rename_i fi hfi
   split at h4
   ·rename_i ti hti
    simp only [Bool.and_eq_true] at h4
    obtain ⟨h5,h6,h7⟩:=h4
    obtain ⟨places,g1,g2,g3⟩:=ju h7
    have e1:=Nat.eq_of_beq_eq_true h1
    have e2:=Nat.eq_of_beq_eq_true h2
    have e3:=Nat.eq_of_beq_eq_true h3
    have e5:=Nat.eq_of_beq_eq_true h5
    have e6:=rT h6
    have hsz:fi.size=(E.cells p.2).length:=by simp [Env.cells,hti,e5]
    have hlen:ti.cells.length<=ks.length:=by rw [<-e6,List.length_take];exact Nat.min_le_right _ _
    refine ⟨(f.offset,fi.size)::places,by simp [hfi,g1],by simp [g2],fun j q hq=>?_⟩
    cases j with
    | zero=>
     simp at hq
     subst hq
     refine ⟨f,ti,rfl,e1,e2,hti,by simp [e1,hsz],by omega,by simp [Program.cellsOf,hfi,e5],fun l kk hl=>?_,by omega⟩
     have :(ks.take ti.cells.length)[l]?=some kk:=by rw [e6];exact hl
     rw [List.getElem?_take] at this
     rw [show p.1 - o+l=l by omega]
     split at this
     ·exact this
     ·cases this
    | succ j=>
     obtain ⟨f',ti',q1,q2,q3,q4,q5,q6,q7,q8,q9⟩:=g3 j q (by simpa using hq)
     refine ⟨f',ti',by simpa using q1,q2,q3,q4,by simpa using q5,by omega,q7,fun l kk hl=>?_,?_⟩
     ·have:=q8 l kk hl
      rw [List.getElem?_drop] at this
      rw [<-this];congr 1;omega
     ·rw [List.length_drop] at q9;omega
   ·cases h4
  ·cases h4
def DA (T:Nat->Option TI)(i:TI)(d:TypeDesc):Bool:=
 match i.el with
 | some e=>match d with
  | .slice e'=>Nat.beq e e'&&(T e).isSome
  | _=>false
 | none=>true
def xU (i:TI)(d:TypeDesc):Bool:=
 i.agg||(match i.cells with
  | [.int k]=>(match d with | .int k'=>iZ k k' | _=>false)
  | [.bool]=>(match d with | .bool=>true | _=>false)
  | [.str]=>(match d with | .string=>true | _=>false)
  | [.sl e]=>(match d with | .slice e'=>Nat.beq e e' | _=>false)
  | _=>false)
def By (P:Program)(k:K)(t:Nat):Bool:=
 match P.underlying t with
 | some (.int ik)=>(match k with | .int jk=>iZ jk ik | _=>false)
 | some .bool=>(match k with | .bool=>true | _=>false)
 | some .string=>(match k with | .str=>true | _=>false)
 | _=>false
def mV (P:Program):List Field->Nat->List K->Bool
 | [],_,[]=>true
 | f :: fs, o, k :: ks => !(f.name == "_") && (Nat.beq f.offset o && (By P k f.type && mV P fs (o + 1) ks))
 | _,_,_=>false
def mo {P : Program} : ∀ {fs : List Field} {o : Nat} {ks : List K}, mV P fs o ks = true -> fs.length = ks.length /\ ∀ (j : Nat) (f : Field), fs[j]? = some f -> f.name ≠ "_" /\ f.offset = o + j /\ ∃ d', P.underlying f.type = some d' /\ ((∃ ik, ks[j]? = some (.int ik) /\ d' = .int ik) ∨ (ks[j]? = some .bool /\ d' = .bool) ∨ (ks[j]? = some .str /\ d' = .string))
 | [],o,[],_=>⟨rfl,fun j f hj=>by simp at hj⟩
 | [],o,_::_,h=>by cases h
 | _::_,o,[],h=>by cases h
 | f::fs,o,k::ks,h=>by
  simp only [mV,Bool.and_eq_true,Bool.not_eq_true'] at h
  obtain ⟨h1,h2,h3,h4⟩:=h
  obtain ⟨g1,g2⟩:=mo h4
  refine ⟨by simp [g1],fun j g hj=>?_⟩
  cases j with
  | zero=>
   simp at hj
   subst hj
   refine ⟨by simpa using h1,Nat.eq_of_beq_eq_true h2,?_⟩
   unfold By at h3
   split at h3
   ·rename_i ik hu
    split at h3
    ·rename_i jk;exact ⟨_,hu,.inl ⟨ik,by simp [ig h3],rfl⟩⟩
    ·cases h3
   ·rename_i hu
    split at h3
    ·exact ⟨_,hu,.inr (.inl ⟨rfl,rfl⟩)⟩
    ·cases h3
   ·rename_i hu
    split at h3
    ·exact ⟨_,hu,.inr (.inr ⟨rfl,rfl⟩)⟩
    ·cases h3
   ·cases h3
  | succ j=>
   obtain ⟨q1,q2,q3⟩:=g2 j g (by simpa using hj)
   exact ⟨q1,by omega,by simpa using q3⟩
def Ct (P:Program)(t:Nat)(i:TI)(d:TypeDesc):Bool:=
 !i.eqv||(!i.agg||(match d with | .struct fs=>!P.stoodInHeld t&&(!P.eqGuardType P.depth t&&mV P fs.toList 0 i.cells) | _=>false))
def Bb (P:Program)(T:Nat->Option TI)(t:Nat)(i:TI):Bool:=
 match P.info? t with
 | some ii=>match P.underlying t with
  | some d=>match ii.zero with
   | some z=>Nat.beq ii.size i.cells.length&&(Nat.beq ii.bytes i.bytes&&(Nat.blt 0 i.cells.length&&(Nat.blt 0 i.bytes&&(uP z.cells.toList i.cells&&(
     (cond i.agg (match d with | .struct fs=>lG P T fs.toList i.fields 0 i.cells | _=>false) (!iS d&&(Nat.beq i.cells.length 1&&i.fields.isEmpty)))&&(DA T i d&&(xU i d&&Ct P t i d)))))))
   | none=>false
  | none=>false
 | none=>false
def rz {P:Program}{E:Env}{t:Nat}{i:TI}(h:Bb P E.T t i=true):gy P E t i:=by
 unfold Bb at h
 split at h
 case h_2=>cases h
 rename_i ii hii
 split at h
 case h_2=>cases h
 rename_i d hd
 split at h
 case h_2=>cases h
 rename_i z hz
 simp only [Bool.and_eq_true] at h
 obtain ⟨h1,h2,h3,h4,h5,h6,h7,h8,h9⟩:=h
 refine ⟨ii,d,z,hii,hd,hz,Nat.eq_of_beq_eq_true h1,Nat.eq_of_beq_eq_true h2,Nat.blt_eq.mp h3,Nat.blt_eq.mp h4,ue h5,?_,?_,?_,?_,?_,?_,?_,?_,?_⟩
 ·cases ha:i.agg<;>simp only [ha,aZ,bg] at h6
  ·simp only [Bool.and_eq_true,Bool.not_eq_true'] at h6;exact h6.1
  ·split at h6
   ·rfl
   ·cases h6
 ·intro ha
  simp only [ha,bg,Bool.and_eq_true,List.isEmpty_iff] at h6
  exact ⟨Nat.eq_of_beq_eq_true h6.2.1,h6.2.2⟩
 ·intro ha
  simp only [ha,aZ] at h6
  split at h6
  ·rename_i fs
   obtain ⟨places,g1,g2,g3⟩:=ju h6
   refine ⟨fs,rfl,fun f p hp=>?_⟩
   obtain ⟨fl,ti,q1,q2,q3,q4,_⟩:=g3 f p hp
   exact ⟨fl,by simpa using q1,q2,q3,ti,q4⟩
  ·cases h6
 ·intro fs hfs
  subst hfs
  cases ha:i.agg<;>simp only [ha,aZ,bg] at h6
  ·simp [iS] at h6
  ·obtain ⟨places,g1,g2,g3⟩:=ju h6
   refine ⟨places,g1,fun f p hp=>?_⟩
   obtain ⟨fl,ti,q1,q2,q3,q4,q5,_⟩:=g3 f p hp
   exact q5
 ·intro e he
  simp only [DA,he] at h7
  split at h7
  ·simp only [Bool.and_eq_true] at h7
   rw [Nat.eq_of_beq_eq_true h7.1]
   refine ⟨rfl,Option.isSome_iff_exists.1 ?_⟩
   rw [<-Nat.eq_of_beq_eq_true h7.1];exact h7.2
  ·cases h7
 ·intro ha k hk
  simp only [xU,ha,Bool.false_or,hk] at h8
  split at h8
  ·rw [ig h8]
  ·cases h8
 ·intro ha hk
  simp only [xU,ha,Bool.false_or,hk] at h8
  split at h8
  ·rfl
  ·cases h8
 ·intro ha hk
  simp only [xU,ha,Bool.false_or,hk] at h8
  split at h8
  ·rfl
  ·cases h8
 ·intro he ha
  simp only [Ct,he,ha,Bool.not_true,Bool.false_or] at h9
  split at h9
  ·rename_i fs
   simp only [Bool.and_eq_true,Bool.not_eq_true'] at h9
   obtain ⟨g1,g2⟩:=mo h9.2.2
   exact ⟨fs,rfl,h9.1,h9.2.1,by simpa using g1,fun j f hj=>by
    obtain ⟨q1,q2,q3⟩:=g2 j f (by simpa using hj)
    exact ⟨q1,by omega,q3⟩⟩
  ·cases h9
def eO (P:Program)(l:List (Nat×TI)):Bool:=l.all fun p=>Bb P (assoc l) p.1 p.2
def mG {P:Program}{l:List (Nat×TI)}{E:Env}(hE:E.T=assoc l)(h:eO P l=true):∀t i,E.T t=some i->gy P E t i:=by
 intro t i ht
 rw [hE] at ht
 simp only [eO,List.all_eq_true] at h
 have:=h (t,i) (qe ht)
 rw [<-hE] at this
 exact rz this
abbrev dP (T:List (Nat×TI)):Env:={ T:=assoc T,G:=fun _=>[],nt:=0 }
def dM:List (Nat×fY)->Nat->List fY
 | [],_=>[]
 | (k,c)::l,g=>bif Nat.beq k g then c::dM l g else dM l g
inductive fM (P:Program)(E:Env):List (Nat×fY)->Prop where
 | nil:fM P E []
 | cons {g c l}:Valid P E g c->fM P E l->fM P E ((g,c)::l)
def fM.get {P:Program}{E:Env}:∀{l:List (Nat×fY)},fM P E l->∀g c,c∈dM l g->Valid P E g c
 | _,.nil,g,c,h=>by cases h
 | (k,u)::l,.cons hv ht,g,c,h=>by
  simp only [dM] at h
  cases hb:Nat.beq k g<;>simp only [hb,aZ,bg] at h
  ·exact ht.get g c h
  ·rcases List.mem_cons.1 h with rfl | h
   ·rw [<-Nat.eq_of_beq_eq_true hb];exact hv
   ·exact ht.get g c h
def gV:∀{l:List Nat},ff l=true->l.Nodup
 | [],_=>List.nodup_nil
 | a::l,h=>by
  simp only [ff,Bool.and_eq_true,List.all_eq_true,Bool.not_eq_true'] at h
  refine List.nodup_cons.2 ⟨fun hm=>?_,gV h.2⟩
  have:=h.1 a hm
  simp at this
def Valid.env {P:Program}{E E':Env}(he:E.T=E'.T){g:FuncId}{c:fY}(h:Valid P E g c):Valid P E' g c:=by
 have :E.cells=E'.cells:=by funext t;simp [Env.cells,he]
 unfold Valid at *
 rw [<-this];exact h
def fM.env {P:Program}{E E':Env}(he:E.T=E'.T){l:List (Nat×fY)}(h:fM P E l):fM P E' l:=by
 induction h with
 | nil=>exact .nil
 | cons hv _ ih=>exact .cons (hv.env he) ih
def sY (fn:Func)(aU:fY)(nt:Nat):Bool:=
 !(fn.name == "runtime.NumGoroutine") && (fn.body.isSome && (aU.res.pq && (ff (cU (bP fn)) && Nat.beq (aU.args.length + (fn.ntmps - aU.args.length)) nt)))
def gj:List (Nat×ia)->Nat->List ia
 | [],_=>[]
 | (k,c)::l,g=>bif Nat.beq k g then c::gj l g else gj l g
inductive jJ (P:Program)(E:Env):List (Nat×ia)->Prop where
 | nil:jJ P E []
 | cons {g c l}:fJ P E g c->jJ P E l->jJ P E ((g,c)::l)
def jJ.get {P:Program}{E:Env}:∀{l:List (Nat×ia)},jJ P E l->∀g c,c∈gj l g->fJ P E g c
 | _,.nil,g,c,h=>by cases h
 | (k,u)::l,.cons hv ht,g,c,h=>by
  simp only [gj] at h
  cases hb:Nat.beq k g<;>simp only [hb,aZ,bg] at h
  ·exact ht.get g c h
  ·rcases List.mem_cons.1 h with rfl | h
   ·rw [<-Nat.eq_of_beq_eq_true hb];exact hv
   ·exact ht.get g c h
def fJ.env {P:Program}{E E':Env}(he:E.T=E'.T){g:FuncId}{c:ia}(h:fJ P E g c):fJ P E' g c:=by
 have :E.cells=E'.cells:=by funext t;simp [Env.cells,he]
 unfold fJ at *
 rw [<-this];exact h
def jJ.env {P:Program}{E E':Env}(he:E.T=E'.T){l:List (Nat×ia)}(h:jJ P E l):jJ P E' l:=by
 induction h with
 | nil=>exact .nil
 | cons hv _ ih=>exact .cons (hv.env he) ih
def uy {mt:Bool}{P:Program}{T:List (Nat×TI)}{G:List (Nat×fY)}{S:List (Nat×ia)}{nt:Nat}{g:FuncId}{fn:Func}{aU:fY}(hm:P.follows .mixedOrders=true)(hT:eO P T=true)(hG:fM P (dP T) G)(hS:jJ P (dP T) S)
  (hf:P.funcs[g]?=some fn) (hb:sY fn aU nt=true) (live:Nat->Live)
  (h:∀ls r,rE (dP T).cells aU.args ls->aU.sem ls=some r->∃n,fc { T:=assoc T,G:=dM G,nt:=nt,M:=gj S,mt:=mt } live fn aU.res n (dJ aU.args ls)=some r):Valid P (dP T) g aU:=by
 simp only [sY,Bool.and_eq_true,Bool.not_eq_true'] at hb
 obtain ⟨b1,b2,b3,b4,b5⟩:=hb
 obtain ⟨c,hc⟩:=Option.isSome_iff_exists.1 b2
 have hbody:bP fn=c:=by simp [bP,hc]
 have hT':∀t i,({ T:=assoc T,G:=dM G,nt:=nt,M:=gj S,mt:=mt }:Env).T t=some i->gy P { T:=assoc T,G:=dM G,nt:=nt,M:=gj S,mt:=mt } t i:=mG (E:={ T:=assoc T,G:=dM G,nt:=nt,M:=gj S,mt:=mt }) rfl hT
 have hG':∀g c,c∈({ T:=assoc T,G:=dM G,nt:=nt,M:=gj S,mt:=mt }:Env).G g->Valid P { T:=assoc T,G:=dM G,nt:=nt,M:=gj S,mt:=mt } g c:=(fM.env (E:=dP T) (E':={ T:=assoc T,G:=dM G,nt:=nt,M:=gj S,mt:=mt }) rfl hG).get
 have hS':∀g c,c∈({ T:=assoc T,G:=dM G,nt:=nt,M:=gj S,mt:=mt }:Env).M g->fJ P { T:=assoc T,G:=dM G,nt:=nt,M:=gj S,mt:=mt } g c:=(jJ.env (E:=dP T) (E':={ T:=assoc T,G:=dM G,nt:=nt,M:=gj S,mt:=mt }) rfl hS).get
 exact wm (E:={ T:=assoc T,G:=dM G,nt:=nt,M:=gj S,mt:=mt }) hT' hG' ⟨hS',fun _ _ h=>(nomatch h)⟩ (fun w0 M Z0 bN=>vL hT' hG' ⟨hS',fun _ _ h=>(nomatch h)⟩ hm) rfl rfl hf b1 hc b3 (by rw [<-hbody];exact gV b4) (Nat.eq_of_beq_eq_true b5) live h
def lS:List (Nat×jU)->Nat->List jU
 | [],_=>[]
 | (k,c)::l,g=>bif Nat.beq k g then c::lS l g else lS l g
inductive oz (P:Program)(E:Env)(n:Nat):List (Nat×jU)->Prop where
 | nil:oz P E n []
 | cons {g c l}:gC P E n g c->oz P E n l->oz P E n ((g,c)::l)
def oz.get {P:Program}{E:Env}{n:Nat}:∀{l:List (Nat×jU)},oz P E n l->∀g c,c∈lS l g->gC P E n g c
 | _,.nil,g,c,h=>by cases h
 | (k,u)::l,.cons hv ht,g,c,h=>by
  simp only [lS] at h
  cases hb:Nat.beq k g<;>simp only [hb,aZ,bg] at h
  ·exact ht.get g c h
  ·rcases List.mem_cons.1 h with rfl | h
   ·rw [<-Nat.eq_of_beq_eq_true hb];exact hv
   ·exact ht.get g c h
def gC.env {P:Program}{E E':Env}(he:E.T=E'.T){n:Nat}{g:FuncId}{c:jU}(h:gC P E n g c):gC P E' n g c:=by
 have :E.cells=E'.cells:=by funext t;simp [Env.cells,he]
 unfold gC qc at *
 rw [<-this];exact h
def oz.env {P:Program}{E E':Env}(he:E.T=E'.T){n:Nat}{l:List (Nat×jU)}(h:oz P E n l):oz P E' n l:=by
 induction h with
 | nil=>exact .nil
 | cons hv _ ih=>exact .cons (hv.env he) ih
def CD (fn : Func) : Bool := !(fn.name == "runtime.NumGoroutine") && (fn.body.isSome && ff (cU (bP fn)))
section
variable {P:Program} {T:List (Nat×TI)} {G:List (Nat×fY)} {S:List (Nat×ia)} {I:List (Nat×jU)} {nt:Nat} {mt:Bool}
theorem zq {n:Nat}{J:List Nat}{g:FuncId}{fn:Func}(hm:P.follows .mixedOrders=true)(hT:eO P T=true)(hG:fM P (dP T) G)(hS:jJ P (dP T) S)(hI:oz P (dP T) n I)
  (hf:P.funcs[g]?=some fn) (hb:CD fn=true):gC P (dP T) n g (inl { T:=assoc T,G:=dM G,nt:=nt,M:=gj S,np:=n,mt:=mt,I:=lS I,J:=J } fn):=by
 simp only [CD,Bool.and_eq_true,Bool.not_eq_true'] at hb
 obtain ⟨b1,b2,b4⟩:=hb
 obtain ⟨c,hc⟩:=Option.isSome_iff_exists.1 b2
 have hbody:bP fn=c:=by simp [bP,hc]
 generalize hE:({ T:=assoc T,G:=dM G,nt:=nt,M:=gj S,np:=n,mt:=mt,I:=lS I,J:=J }:Env)=E
 have e1:E.T=assoc T:=by rw [<-hE]
 obtain rfl:n=E.np:=by rw [<-hE]
 have hS2:nQ P E:=⟨by rw [<-hE];exact (jJ.env (E:=dP T) rfl hS).get,fun g c h=>gC.env (E:=dP T) e1.symm (hI.get g c (by rw [<-hE] at h;exact h))⟩
 have hT':∀t i,E.T t=some i->gy P E t i:=mG e1 hT
 have hG':∀g c,c∈E.G g->Valid P E g c:=by rw [<-hE];exact (fM.env (E:=dP T) rfl hG).get
 exact gC.env (E:=E) e1 (yG hT' hG' hS2 (fun w0 M Z0 bN=>vL hT' hG' hS2 hm) hf b1 hc (by rw [<-hbody];exact gV b4))
theorem AY {J:List Nat}{g:FuncId}{fn:Func}{aU:fY}(hm:P.follows .mixedOrders=true)(hT:eO P T=true)(hG:fM P (dP T) G)(hS:jJ P (dP T) S)(hI:oz P (dP T) 0 I)
  (hf:P.funcs[g]?=some fn) (hb:sY fn aU nt=true) (live:Nat->Live)
  (h:∀ls r,rE (dP T).cells aU.args ls->aU.sem ls=some r->∃n,fc { T:=assoc T,G:=dM G,nt:=nt,M:=gj S,mt:=mt,I:=lS I,J:=J } live fn aU.res n (dJ aU.args ls)=some r):Valid P (dP T) g aU:=by
 simp only [sY,Bool.and_eq_true,Bool.not_eq_true'] at hb
 obtain ⟨b1,b2,b3,b4,b5⟩:=hb
 obtain ⟨c,hc⟩:=Option.isSome_iff_exists.1 b2
 have hbody:bP fn=c:=by simp [bP,hc]
 generalize hE:({ T:=assoc T,G:=dM G,nt:=nt,M:=gj S,mt:=mt,I:=lS I,J:=J }:Env)=E at h
 have e1:E.T=assoc T:=by rw [<-hE]
 have hS2:nQ P E:=⟨by rw [<-hE];exact (jJ.env (E:=dP T) rfl hS).get,fun g c h=>by rw [<-hE] at h ⊢;exact (oz.env (E:=dP T) rfl hI).get g c h⟩
 have hT':∀t i,E.T t=some i->gy P E t i:=mG e1 hT
 have hG':∀g c,c∈E.G g->Valid P E g c:=by rw [<-hE];exact (fM.env (E:=dP T) rfl hG).get
 have hcell:(dP T).cells=E.cells:=by funext t;simp [Env.cells,e1]
 rw [hcell] at h
 exact wm (E:=E) hT' hG' hS2 (fun w0 M Z0 bN=>vL hT' hG' hS2 hm) e1 (by rw [<-hE]) hf b1 hc b3 (by rw [<-hbody];exact gV b4) (by rw [<-hE];exact Nat.eq_of_beq_eq_true b5) live h
end
def B8 (fn:Func)(aU:ia)(nt:Nat):Bool:=
 !(fn.name == "runtime.NumGoroutine") && (fn.body.isSome && (ff (cU (bP fn)) && Nat.beq (aU.args.length + (fn.ntmps - aU.args.length)) nt))
def BU {P:Program}{T:List (Nat×TI)}{G:List (Nat×fY)}{S:List (Nat×ia)}{nt:Nat}{g:FuncId}{fn:Func}{aU:ia}(hm:P.follows .mixedOrders=true)(hT:eO P T=true)(hG:fM P (dP T) G)(hS:jJ P (dP T) S)
  (hf:P.funcs[g]?=some fn) (hb:B8 fn aU nt=true) (live:Nat->Live)
  (h:∀ls r,AA (dP T).cells aU.args ls->aU.sem ls=some r->∃n,fc { T:=assoc T,G:=dM G,nt:=nt,M:=gj S,np:=(lz aU.args).length,mt:=true } live fn (.pX (lz aU.args)) n (jd aU.args ls)=some r):fJ P (dP T) g aU:=by
 simp only [B8,Bool.and_eq_true,Bool.not_eq_true'] at hb
 obtain ⟨b1,b2,b4,b5⟩:=hb
 obtain ⟨c,hc⟩:=Option.isSome_iff_exists.1 b2
 have hbody:bP fn=c:=by simp [bP,hc]
 generalize hE:({ T:=assoc T,G:=dM G,nt:=nt,M:=gj S,np:=(lz aU.args).length,mt:=true }:Env)=E at h
 have e1:E.T=assoc T:=by rw [<-hE]
 have e2:E.G=dM G:=by rw [<-hE]
 have e3:E.M=gj S:=by rw [<-hE]
 have hT':∀t i,E.T t=some i->gy P E t i:=mG e1 hT
 have hG':∀g c,c∈E.G g->Valid P E g c:=by rw [e2];exact (fM.env (E:=dP T) (E':=E) e1.symm hG).get
 have hS':∀g c,c∈E.M g->fJ P E g c:=by rw [e3];exact (jJ.env (E:=dP T) (E':=E) e1.symm hS).get
 have hcell:(dP T).cells=E.cells:=by funext t;simp [Env.cells,e1]
 rw [hcell] at h
 have hS2:nQ P E:=⟨hS',fun g c h=>by rw [<-hE] at h;exact (nomatch h)⟩
 exact yX (E:=E) hT' hG' hS2 (fun w0 M Z0 bN=>vL hT' hG' hS2 hm) e1 (by rw [<-hE]) hf b1 hc (by rw [<-hbody];exact gV b4) (by rw [<-hE];exact Nat.eq_of_beq_eq_true b5) live h
def valid {P:Program}{T:List (Nat×TI)}{G:List (Nat×fY)}{nt:Nat}{g:FuncId}{fn:Func}{aU:fY}(hm:P.follows .mixedOrders=true)(hT:eO P T=true)(hG:fM P (dP T) G)
  (hf:P.funcs[g]?=some fn) (hb:sY fn aU nt=true) (live:Nat->Live)
  (h:∀ls r,rE (dP T).cells aU.args ls->aU.sem ls=some r->∃n,fc { T:=assoc T,G:=dM G,nt:=nt } live fn aU.res n (dJ aU.args ls)=some r):Valid P (dP T) g aU:=
 uy (S:=[]) hm hT hG .nil hf hb live h
end Go.DM
set_option linter.unusedSectionVars false
namespace Go.DM
inductive Wf (T:Nat->List K):K->L->Prop where
 | int (k:IntKind) (n:Int) (h:(Lit.int k n).wf=true):Wf T (.int k) (.int n)
 | bool (b:Bool):Wf T .bool (.bool b)
 | str (s:aC) (h:s.size<=maxLen):Wf T .str (.str s)
 | sl (e:Nat) (xs:aD) (h:xs.length<=maxLen) (hl:∀r∈xs,r.length=(T e).length) (hr:∀(r:List L) (j:Nat) (kk:K) (l:L),r∈xs->(T e)[j]?=some kk->r[j]?=some l->Wf T kk l):Wf T (.sl e) (.sl xs)
def kf {α:Type}{P:Nat->α->Prop}:∀(n:Nat),(∀j,j<n->∃x,P j x)->∃xs:List α,xs.length=n/\∀j,j<n->∃x,xs[j]?=some x/\P j x
 | 0,_=>⟨[],rfl,fun j h=>by omega⟩
 | n+1,h=>by
  obtain ⟨xs,h1,h2⟩:=kf n fun j hj=>h j (by omega)
  obtain ⟨x,hx⟩:=h n (by omega)
  refine ⟨xs++[x],by simp [h1],fun j hj=>?_⟩
  by_cases hjn:j<n
  ·obtain ⟨y,h3,h4⟩:=h2 j hjn
   exact ⟨y,by rw [List.getElem?_append_left (by omega)];exact h3,h4⟩
  ·have :j=n:=by omega
   subst this
   exact ⟨x,by rw [<-h1];simp,hx⟩
def nF {P:Program}{T:Nat->Option TI}:∀{fs:List Field} {ps:List (Nat×Nat)} {o:Nat} {ks:List K},lG P T fs ps o ks=true->
  ∀l,l<ks.length->∃(j:Nat) (p:Nat×Nat) (ti:TI),ps[j]?=some p/\T p.2=some ti/\o<=p.1/\p.1 - o<=l/\l<p.1 - o+ti.cells.length
 | [],[],o,[],_,l,h=>by simp at h
 | [],[],o,_::_,h,_,_=>by cases h
 | [],_::_,o,ks,h,_,_=>by cases h
 | _::_,[],o,ks,h,_,_=>by cases h
 | f::fs,p::ps,o,ks,h,l,hl=>by
  simp only [lG,Bool.and_eq_true] at h
  obtain ⟨h1,h2,h3,h4⟩:=h
  split at h4
  ·rename_i fi hfi
   split at h4
   ·rename_i ti hti
    simp only [Bool.and_eq_true] at h4
    obtain ⟨h5,h6,h7⟩:=h4
    have e3:=Nat.eq_of_beq_eq_true h3
    by_cases hlt:l<ti.cells.length
    ·exact ⟨0,p,ti,rfl,hti,by omega,by omega,by omega⟩
    ·obtain ⟨j,q,tq,g1,g2,g3,g4,g5⟩:=nF h7 (l - ti.cells.length) (by rw [List.length_drop];omega)
     exact ⟨j+1,q,tq,by simpa using g1,g2,by omega,by omega,by omega⟩
   ·cases h4
  ·cases h4
section
variable {H:Type} {enc:TypeId×Value->H} {P:Program} {w:World} {spare:Nat->Bool} {held:Bool} {E:Env}
theorem Az (hB:∀t i,E.T t=some i->Bb P E.T t i=true):∀(n:Nat) {t:Nat} {i:TI} {cs:List Value} {x:DataW H×List MemPlace},E.T t=some i->DataW.trod enc P w 0 spare held n t cs=some x->
  cs.length=i.cells.length/\∀(j:Nat) (kk:K),i.cells[j]?=some kk->∃(l:L) (v:Value),cs[j]?=some v/\Rd E.cells w (fun b=>b<w.heap.size) kk v l/\Wf E.cells kk l:=by
 intro n
 induction n with
 | zero=>intro t i cs x _ h;simp [DataW.trod] at h
 | succ n ih=>
  intro t i cs x ht h
  have hb:=hB t i ht
  obtain ⟨ii,d,z,k1,k2,k3,k4,k5,k6,kby,k7,k8,k9,k10,kpl,k11,k12,sR,sU,k15⟩:=rz (E:=E) hb
  cases ha:i.agg with
  | false=>
   obtain ⟨hl1,_⟩:=k9 ha
   match hc:i.cells,hl1 with
   | [.int k],_=>
    obtain ⟨m,rfl,_,hw⟩:=DataW.trod_int (k12 ha k hc ▸ k2) h
    exact ⟨rfl,fun j kk hj=>by
     cases j with
     | zero=>simp at hj;subst hj;exact ⟨.int m,_,rfl,Rd.int k (.int m),Wf.int k m hw⟩
     | succ j=>simp at hj⟩
   | [.bool],_=>
    obtain ⟨b,rfl,_⟩:=DataW.trod_bool (sR ha hc ▸ k2) h
    exact ⟨rfl,fun j kk hj=>by
     cases j with
     | zero=>simp at hj;subst hj;exact ⟨.bool b,_,rfl,Rd.bool (.bool b),Wf.bool b⟩
     | succ j=>simp at hj⟩
   | [.str],_=>
    obtain ⟨s,rfl,_,hs⟩:=DataW.trod_string (sU ha hc ▸ k2) h
    exact ⟨rfl,fun j kk hj=>by
     cases j with
     | zero=>simp at hj;subst hj;exact ⟨.str s,_,rfl,Rd.str (.str s),Wf.str s hs⟩
     | succ j=>simp at hj⟩
   | [.sl e],_=>
    have hel:i.el=some e:=by simp [TI.el,ha,hc]
    obtain ⟨rfl,ie,hie⟩:=k11 e hel
    have hce:P.cellsOf e=ie.cells.length/\0<ie.cells.length:=by
     obtain ⟨ii',d',z',q1,q2,q3,q4,q5,q6,_⟩:=rz (E:=E) (hB e ie hie)
     exact ⟨by simp [Program.cellsOf,q1,q4],q6⟩
    have hEe:E.cells e=ie.cells:=ij hie
    have fin:∀(l:L) (v:Value),cs=[v]->Rd E.cells w (fun b=>b<w.heap.size) (.sl e) v l->Wf E.cells (.sl e) l->
      cs.length=[K.sl e].length/\∀(j:Nat) (kk:K),[K.sl e][j]?=some kk->∃(l:L) (v:Value),cs[j]?=some v/\Rd E.cells w (fun b=>b<w.heap.size) kk v l/\Wf E.cells kk l:=by
     intro l v hv h1 h2
     subst hv
     exact ⟨rfl,fun j kk hj=>by
      cases j with
      | zero=>simp at hj;subst hj;exact ⟨l,_,rfl,h1,h2⟩
      | succ j=>simp at hj⟩
    rcases DataW.trod_slice k2 h with ⟨hv,_⟩ | ⟨a,len,cap,elems,rest,m,hm,hv,_,hb0,hlc,hcm,hlen,hel',_,_⟩
    ·exact fin (.sl []) _ hv (.nil _ _ _ _ rfl) (.sl e [] (by simp) (fun r hr=>by cases hr) (fun r j kk l hr=>by cases hr))
    ·have hm':m=n:=by omega
     subst hm'
     have each:∀i',i'<len->∃rc:List L×List Value,rc.1.length=ie.cells.length/\(∀j,j<ie.cells.length->w.cell? (a.add (i'*ie.cells.length) |>.add j)=rc.2[j]?)/\
       ∀(j:Nat) (kk:K),ie.cells[j]?=some kk->∃(l:L) (v:Value),rc.1[j]?=some l/\rc.2[j]?=some v/\Rd E.cells w (fun b=>b<w.heap.size) kk v l/\Wf E.cells kk l:=by
      intro i' hi'
      have h1:=hel' i' hi'
      rw [List.getElem?_eq_getElem (by omega)] at h1
      obtain ⟨cs',h2,h3⟩:=Option.bind_eq_some_iff.1 h1
      obtain ⟨_,h4,h5⟩:=World.cells?_some h2
      obtain ⟨h6,h7⟩:=ih hie h3
      obtain ⟨row,r1,r2⟩:=kf (P:=fun j l=>∃v,cs'[j]?=some v/\∀kk,ie.cells[j]?=some kk->Rd E.cells w (fun b=>b<w.heap.size) kk v l/\Wf E.cells kk l) ie.cells.length (fun j hj=>by
       have hk:=List.getElem?_eq_getElem hj
       obtain ⟨l,v,e1,e2,e3⟩:=h7 j _ hk
       exact ⟨l,v,e1,fun kk hkk=>by rw [hk] at hkk;injection hkk with hkk;subst hkk;exact ⟨e2,e3⟩⟩)
      refine ⟨(row,cs'),r1,fun j hj=>?_,fun j kk hj=>?_⟩
      ·rw [hce.1] at h5;exact h5 j (by omega)
      ·obtain ⟨l,e1,v,e2,e3⟩:=r2 j (List.getElem?_eq_some_iff.1 hj).1
       exact ⟨l,v,e1,e2,e3 kk hj⟩
     obtain ⟨rows,g1,g2⟩:=kf len each
     have hwf:Wf E.cells (.sl e) (.sl (rows.map (·.1))):=by
      refine .sl e _ (by simp [g1];omega) (fun r hr=>?_) (fun r j kk l hr hj hl=>?_)
      ·obtain ⟨rc,hrc,rfl⟩:=List.mem_map.1 hr
       obtain ⟨i',hi'⟩:=List.getElem?_of_mem hrc
       obtain ⟨rc',h1,h2,_⟩:=g2 i' (by rw [<-g1];exact (List.getElem?_eq_some_iff.1 hi').1)
       rw [hi'] at h1;injection h1 with h1;subst h1
       rw [h2,hEe]
      ·obtain ⟨rc,hrc,rfl⟩:=List.mem_map.1 hr
       obtain ⟨i',hi'⟩:=List.getElem?_of_mem hrc
       obtain ⟨rc',h1,h2,_,h3⟩:=g2 i' (by rw [<-g1];exact (List.getElem?_eq_some_iff.1 hi').1)
       rw [hi'] at h1;injection h1 with h1;subst h1
       rw [hEe] at hj
       obtain ⟨l',v,e1,_,_,e3⟩:=h3 j kk hj
       rw [hl] at e1;injection e1 with e1;subst e1
       exact e3
     refine fin (.sl (rows.map (·.1))) _ hv ?_ hwf
     rcases Nat.eq_zero_or_pos len with h0 | hpos
     ·subst h0
      exact .nil _ _ _ _ (by simp only [L.aS];rw [List.eq_nil_of_length_eq_zero g1];rfl)
     ·
      obtain ⟨rc0,h1,h2,h3,h4⟩:=g2 0 hpos
      have hk0:=List.getElem?_eq_getElem hce.2
      obtain ⟨l0,v0,e1,e2,e3,_⟩:=h4 0 _ hk0
      have hc0:=h3 0 hce.2
      rw [e2] at hc0
      obtain ⟨b,o,spot⟩:=a
      have hspot:spot=none:=by simpa [Addr.add] using World.cell?_spot hc0
      subst hspot
      have hblt:b<w.heap.size:=by simpa [Addr.add] using block_lt_of_cell hc0
      refine .sl e len cap b o _ (fun i' j=>(((rows.getD i' ([],[])).2).getD j Go.undef)) (by simp [L.aS,g1]) hlc (Nat.le_trans hlc hcm) hblt (fun i' j kk hi' hj=>?_) (fun i' j kk hi' hj=>?_)
      ·rw [hEe] at hj ⊢
       obtain ⟨rc,q1,q2,q3,q4⟩:=g2 i' hi'
       obtain ⟨l,v,p1,p2,p3,p4⟩:=q4 j kk hj
       have:=q3 j (List.getElem?_eq_some_iff.1 hj).1
       rw [p2,Addr.add_lit,Addr.add_lit,Nat.add_assoc] at this
       rw [this]
       simp [List.getD_eq_getElem?_getD,q1,p2]
      ·rw [hEe] at hj
       obtain ⟨rc,q1,q2,q3,q4⟩:=g2 i' hi'
       obtain ⟨l,v,p1,p2,p3,p4⟩:=q4 j kk hj
       have e1:((rows.getD i' ([],[])).2).getD j Go.undef=v:=by simp [List.getD_eq_getElem?_getD,q1,p2]
       have e2:((L.sl (rows.map (·.1))).aS.getD i' []).getD j .hole=l:=by simp [L.aS,List.getD_eq_getElem?_getD,q1,p1]
       show Rd E.cells w _ kk (((rows.getD i' ([],[])).2).getD j Go.undef) _
       rw [e1,e2];exact p3
  | true=>
   obtain ⟨fs,rfl,_⟩:=k10 ha
   have hcells:P.cellsOf t=i.cells.length:=by simp [Program.cellsOf,k1,k4]
   have hfb:lG P E.T fs.toList i.fields 0 i.cells=true:=by
    have hb':=hb
    unfold Bb at hb'
    simp only [k1,k2,k3,ha,aZ,Bool.and_eq_true] at hb'
    exact hb'.2.2.2.2.2.1
   obtain ⟨xs,m,hm,_,hl,hxs,hf⟩:=DataW.trod_struct k2 h
   have hm':m=n:=by omega
   subst hm'
   refine ⟨by rw [hl,hcells],fun j kk hj=>?_⟩
   obtain ⟨f,p,ti,c1,c2,c3,c4,c5⟩:=nF hfb j (List.getElem?_eq_some_iff.1 hj).1
   obtain ⟨places,_,hfl,hsp⟩:=ju (E:=E) hfb
   obtain ⟨fl,ti',q1,q2,q3,q4,q5,q6,q7,q8,q9⟩:=hsp f p c1
   rw [c2] at q4;injection q4 with q4;subst q4
   have hfs:fs[f]?=some fl:=by simpa using q1
   have htrod:=hf f fl hfs
   have hxl:f<xs.length:=by
    rw [hxs];exact (Array.getElem?_eq_some_iff.1 hfs).1
   rw [List.getElem?_eq_getElem hxl,q3,q2] at htrod
   obtain ⟨_,h2⟩:=ih c2 htrod
   have hkk:ti.cells[j - p.1]?=some kk:=by
    have hlt:j - p.1<ti.cells.length:=by omega
    have hg:=List.getElem?_eq_getElem hlt
    have:=q8 _ _ hg
    rw [show p.1 - 0+(j - p.1)=j by omega,hj] at this
    rw [hg];exact this.symm
   obtain ⟨l,v,e1,e2,e3⟩:=h2 (j - p.1) kk hkk
   refine ⟨l,v,?_,e2,e3⟩
   rw [List.getElem?_take] at e1
   split at e1
   ·rw [List.getElem?_drop] at e1
    rw [<-e1];congr 1;omega
   ·cases e1
end
end Go.DM
set_option linter.unusedSectionVars false
namespace Go.DM
open Go.ChangeShapes Go.WideShapes Go.RowKit
def pM (T:Nat->Option TI)(t:Nat):gN:=match T t with
 | some i=>bif i.agg then .agg i.cells else .rd (i.cells.headD .bool)
 | none=>.rd .bool
def wZ (T:Nat->Option TI)(ts:List Nat)(sem:List L->Option (List L)):fY:=⟨ts.map (pM T),.one (.rd .bool),sem⟩
def dY (T:Nat->List K)(ks:List K)(ls:List L):Prop:=ls.length=ks.length/\∀(j:Nat) (k:K),ks[j]?=some k->∃l,ls[j]?=some l/\Wf T k l
def dY.append {T:Nat->List K}{a b:List K}{x y:List L}(h:dY T a x)(k:dY T b y):dY T (a++b) (x++y):=by
 refine ⟨by simp [h.1,k.1],fun j kk hj=>?_⟩
 by_cases hl:j<a.length
 ·rw [List.getElem?_append_left hl] at hj
  obtain ⟨l,e1,e2⟩:=h.2 j kk hj
  exact ⟨l,by rw [List.getElem?_append_left (by rw [h.1];exact hl)];exact e1,e2⟩
 ·rw [List.getElem?_append_right (by omega)] at hj
  obtain ⟨l,e1,e2⟩:=k.2 _ kk hj
  exact ⟨l,by rw [List.getElem?_append_right (by rw [h.1];omega),h.1];exact e1,e2⟩
section
variable {H:Type} {enc:TypeId×Value->H} {P:Program} {W:World} {E:Env} {r:Reach} {b0:Nat}
theorem zF (hB:∀t i,E.T t=some i->Bb P E.T t i=true){t:Nat}{i:TI}(ht:E.T t=some i){v:Value}{d:DataW H}{ps:List MemPlace}(h:DataW.Trod enc P W 0 (fun _=>true) true t v d ps)(hv:Value.okWide P W r b0 t v) :
  ∃ls,dY E.cells i.cells ls/\∀rest,V2 E.cells W (A0 (fun _=>True) W) (zv (pM E.T t) (ls++rest)) v:=by
 obtain ⟨fuel,hf⟩:=h
 obtain ⟨h1,h2⟩:=Az hB fuel ht hf
 obtain ⟨ls,g1,g2⟩:=kf (P:=fun j l=>∃x,v.cells.toList[j]?=some x/\∀kk,i.cells[j]?=some kk->Rd E.cells W (fun b=>b<W.heap.size) kk x l/\Wf E.cells kk l) i.cells.length (fun j hj=>by
  have hk:=List.getElem?_eq_getElem hj
  obtain ⟨l,x,e1,e2,e3⟩:=h2 j _ hk
  exact ⟨l,x,e1,fun kk hkk=>by rw [hk] at hkk;injection hkk with hkk;subst hkk;exact ⟨e2,e3⟩⟩)
 have hz:∀b,b<W.heap.size->eR W (A0 (fun _=>True) W) b:=fun b hb=>⟨.inl trivial,hb,fun _ h=>h⟩
 have hrd:∀(j:Nat) (kk:K),i.cells[j]?=some kk->∃(l:L) (x:Value),ls[j]?=some l/\v.cells.toList[j]?=some x/\Rd E.cells W (eR W (A0 (fun _=>True) W)) kk x l/\Wf E.cells kk l:=by
  intro j kk hj
  obtain ⟨l,e1,x,e2,e3⟩:=g2 j (List.getElem?_eq_some_iff.1 hj).1
  exact ⟨l,x,e1,e2,(e3 kk hj).1.mono hz,(e3 kk hj).2⟩
 refine ⟨ls,⟨g1,fun j k hj=>?_⟩,fun rest=>?_⟩
 ·obtain ⟨l,x,e1,_,_,e4⟩:=hrd j k hj
  exact ⟨l,e1,e4⟩
 ·obtain ⟨ii,dd,z,k1,k2,k3,k4,k5,k6,kby,k7,k8,k9,k10,kpl,k11,k12,sR,sU,k15⟩:=rz (E:=E) (hB t i ht)
  have hF:=qZ (T:=E.cells) (w:=W) (A:=A0 (fun _=>True) W) (d:=none) (fun r hr=>(nomatch hr)) i.cells ls (fun j=>v.cells.toList.getD j Go.undef) (fun j kk hj=>by
   obtain ⟨l,x,e1,e2,e3,_⟩:=hrd j kk hj
   rw [List.getD_eq_getElem?_getD,e2,List.getD_eq_getElem?_getD,e1];exact e3)
  rw [rG h1] at hF
  have hp:pM E.T t=bif i.agg then .agg i.cells else .rd (i.cells.headD .bool):=by simp [pM,ht]
  rw [hp]
  cases ha:i.agg with
  | true=>
   show V2 E.cells W _ (.agg (nS none i.cells (ls++rest))) v
   obtain ⟨fs,rfl,_⟩:=k10 ha
   obtain ⟨cs,rfl,_⟩:=okWide_struct k2 hv
   rw [lW _ _ _ _ g1]
   exact V1.v2 (v:=.agg _) ⟨cs.toList,by simp,hF⟩
  | false=>
   show V2 E.cells W _ (Ax none (i.cells.headD .bool) ((ls++rest).headD .hole)) v
   obtain ⟨hl1,_⟩:=k9 ha
   have hone:∃x,v=x/\v.cells=#[x]:=by
    match hc:i.cells,hl1 with
    | [.int k],_=>obtain ⟨n,rfl⟩:=okWide_int (k12 ha k hc ▸ k2) hv;exact ⟨_,rfl,rfl⟩
    | [.bool],_=>obtain ⟨n,rfl⟩:=okWide_bool (sR ha hc ▸ k2) hv;exact ⟨_,rfl,rfl⟩
    | [.str],_=>obtain ⟨n,rfl⟩:=okWide_string (sU ha hc ▸ k2) hv;exact ⟨_,rfl,rfl⟩
    | [.sl e],_=>
     have hel:i.el=some e:=by simp [TI.el,ha,hc]
     obtain ⟨rfl,_⟩:=k11 e hel
     obtain ⟨a,n,c,rfl⟩:=okWide_slice k2 hv;exact ⟨_,rfl,rfl⟩
   obtain ⟨x,rfl,hcx⟩:=hone
   match hc:i.cells,hl1 with
   | [k],_=>
    obtain ⟨l,y,e1,e2,e3,_⟩:=hrd 0 k (by rw [hc];rfl)
    rw [hcx] at e2
    simp at e2
    subst e2
    have :(ls++rest).headD .hole=l:=by
     rw [gR,List.getD_eq_getElem?_getD,List.getElem?_append_left (by rw [g1,hc];simp),e1];rfl
    rw [this]
    exact (uQ (fun r hr=>by cases hr) e3).v2
theorem Bf (hB:∀t i,E.T t=some i->Bb P E.T t i=true){t:Nat}{i:TI}(ht:E.T t=some i):(pM E.T t).n=i.cells.length:=by
 have hp:pM E.T t=bif i.agg then .agg i.cells else .rd (i.cells.headD .bool):=by simp [pM,ht]
 rw [hp]
 cases ha:i.agg with
 | true=>rfl
 | false=>
  obtain ⟨ii,dd,z,k1,k2,k3,k4,k5,k6,kby,k7,k8,k9,_⟩:=rz (E:=E) (hB t i ht)
  rw [(k9 ha).1];rfl
theorem tY (hB:∀t i,E.T t=some i->Bb P E.T t i=true):∀{ts:List Nat} {vs:List Value} {ds:List (DataW H)} {ps:List MemPlace},(∀t∈ts,(E.T t).isSome=true)->DataW.TrodAll enc P W 0 (fun _=>true) true ts vs ds ps->
  (∀(j:Nat) (t:TypeId) (v:Value),ts[j]?=some t->vs[j]?=some v->Value.okWide P W r b0 t v)->∃ls,dY E.cells (ts.flatMap E.cells) ls/\F2 (V2 E.cells W (A0 (fun _=>True) W)) (jW (ts.map (pM E.T)) ls) vs
 | [],[],ds,ps,_,_,_=>⟨[],⟨rfl,fun j k hj=>by simp at hj⟩,.nil⟩
 | [],_::_,[],ps,_,h,_=>h.elim
 | [],_::_,_::_,ps,_,h,_=>h.elim
 | _::_,[],[],ps,_,h,_=>h.elim
 | _::_,[],_::_,ps,_,h,_=>h.elim
 | _::_,_::_,[],ps,_,h,_=>h.elim
 | t::ts,v::vs,d::ds,ps,hs,⟨p,q,h1,h2,_⟩,hv=>by
  obtain ⟨i,hi⟩:=Option.isSome_iff_exists.1 (hs t (by simp))
  obtain ⟨a,g1,g2⟩:=zF hB hi h1 (hv 0 t v rfl rfl)
  obtain ⟨b,g3,g4⟩:=tY hB (fun t ht=>hs t (by simp [ht])) h2 (fun j t v h h'=>hv (j+1) t v (by simpa using h) (by simpa using h'))
  have hc:E.cells t=i.cells:=ij hi
  refine ⟨a++b,by rw [List.flatMap_cons,hc];exact g1.append g3,?_⟩
  refine .cons (g2 b) ?_
  rw [Bf hB hi,<-g1.1,iG,List.drop_left]
  exact g4
theorem nG (hl:laidOutB P=true){W':World}(hb:Below W.heap.size W W'):∀{ts:List Nat} {vs:List Value} {ds:List (DataW H)} {ps:List MemPlace},(ts.all fun t=>P.readableRec t&&decide (t<P.types.size))=true->
  DataW.TrodAll enc P W 0 (fun _=>true) true ts vs ds ps->DataW.TrodAll enc P W' 0 (fun b=>decide (b<W.heap.size)) true ts vs ds ps
 | [],[],[],ps,_,h=>h
 | [],_::_,[],ps,_,h=>h.elim
 | [],[],_::_,ps,_,h=>h.elim
 | [],_::_,_::_,ps,_,h=>h.elim
 | _::_,[],[],ps,_,h=>h.elim
 | _::_,[],_::_,ps,_,h=>h.elim
 | _::_,_::_,[],ps,_,h=>h.elim
 | t::ts,v::vs,d::ds,ps,hs,⟨p,q,h1,h2,h3⟩=>by
  simp only [List.all_cons,Bool.and_eq_true,decide_eq_true_eq] at hs
  refine ⟨p,q,Below.trod hl hs.1.1 hs.1.2 h1 hb ?_,nG hl hb (by simpa using hs.2) h2,h3⟩
  obtain ⟨fuel,hf⟩:=h1
  exact DataW.trod_lt fuel _ _ _ hf
theorem yC {g:FuncId}{ts:List Nat}{sem:List L->Option (List L)}(hV:Valid P E g (wZ E.T ts sem)){ls:List L}{vs:List Value}(hs:sem ls=some [.bool true])
  (hf:F2 (V2 E.cells W (A0 (fun _=>True) W)) (jW (ts.map (pM E.T)) ls) vs):Calls P g vs.toArray W fun e W'=>e=.returned (.bool true)/\Below W.heap.size W W':=by
 refine (hV.2.2 ls _ W vs (fun _=>True) hs hf).mono fun e W' ⟨rv,A',h1,h2,_,_,_,h3⟩=>?_
 have :rv=.bool true:=h3
 subst this
 exact ⟨h1,⟨h2.os,h2.tape,h2.output,h2.size,fun k hk=>h2.block k hk (fun h=>h)⟩⟩
end
end Go.DM
namespace Go.DM
def iter {Pt:Type}(step:(Pt->aI)->Pt->aI):Nat->Pt->aI
 | 0=>fun _=>none
 | n+1=>step (iter step n)
def rY {E:Env}{live:Nat->Live}{f:Func}{res:RP}{Pt:Type}{id:Pt->Nat}{vs:Pt->List V}{hs:Pt->List aW}{step:(Pt->aI)->Pt->aI}
  (h:∀(I:cR) (p:Pt),dF E live I (id p) (bP f) (gp (live (id p)) (vs p) (hs p)) (cP E f res)=step (fun q=>I (id q) (vs q) (hs q)) p) :
  ∀(n:Nat) (p:Pt),rL E live f res n (id p) (vs p) (hs p)=iter step n p
 | 0,_=>rfl
 | n+1,p=>by
  show dF E live (rL E live f res n) (id p) (bP f) (gp (live (id p)) (vs p) (hs p)) (cP E f res)=step (iter step n) p
  rw [h]
  congr 1
  funext q
  exact rY h n q
def cO {E:Env}{live:Nat->Live}{f:Func}{res:RP}{Pt:Type}{id:Pt->Nat}{vs:Pt->List V}{hs:Pt->List aW}{step:(Pt->aI)->Pt->aI}{s:St}{start:(Pt->aI)->aI}
  (h:∀(I:cR) (p:Pt),dF E live I (id p) (bP f) (gp (live (id p)) (vs p) (hs p)) (cP E f res)=step (fun q=>I (id q) (vs q) (hs q)) p)
  (h0:∀I:cR,fG E live I (bP f) s (cP E f res)=start (fun q=>I (id q) (vs q) (hs q))) (n:Nat):fc E live f res n s=start (iter step n):=by
 unfold fc
 rw [h0]
 congr 1
 funext q
 exact rY h n q
end Go.DM
namespace Go.DM
def yN {P:Program}{l:List (Nat×TI)}(h:eO P l=true):∀t i,(dP l).T t=some i->Bb P (dP l).T t i=true:=by
 intro t i ht
 simp only [eO,List.all_eq_true] at h
 exact h (t,i) (qe ht)
def qO {H:Type}{enc:TypeId×Value->H}{P:Program}{w:World}{base:Nat}{sp:Nat->Bool}{held:Bool}:∀{ts:List TypeId} {vs:List Value} {ds:List (DataW H)} {ps:List MemPlace},DataW.TrodAll enc P w base sp held ts vs ds ps->ds.length=ts.length
 | [],[],[],_,_=>rfl
 | [],[],_::_,_,h=>h.elim
 | [],_::_,[],_,h=>h.elim
 | [],_::_,_::_,_,h=>h.elim
 | _::_,[],[],_,h=>h.elim
 | _::_,[],_::_,_,h=>h.elim
 | _::_,_::_,[],_,h=>h.elim
 | _::_,_::_,_::_,_,⟨_,_,_,h,_⟩=>by simp [qO h]
def wM {P:Program}{E:Env}{g:FuncId}{aU:fY}(he:lO P g)(hok:aU.res.ok=true)(hR:∀r,aU.res.R r=[])
  (h:∀(ls r:List L) (w:World) (vs:List Value) (Z:Nat->Prop),aU.sem ls=some r->F2 (V2 E.cells w (A0 Z w)) (jW aU.args ls) vs->
   Calls P g vs.toArray w fun e w'=>∃rv,e=.returned rv/\w'=w/\V2 E.cells w (A0 Z w) (aU.res.V r 0) rv):Valid P E g aU:=by
 refine ⟨he,hok,fun ls r w vs Z hs hf=>(h ls r w vs Z hs hf).mono fun e w' ⟨rv,h1,h2,h3⟩=>?_⟩
 subst h2
 refine ⟨rv,A0 Z w',h1,Fr.refl _ _,rfl,fun i=>?_,?_,h3⟩
 ·rw [hR];simp [A0]
 ·rw [hR]
  exact ⟨fun _ _ h=>h.elim,fun _ _ _ h=>h.elim,fun _ _=>rfl,fun _ _ h=>h.elim,Fr.refl _ _,fun _ _ h=>h.elim,fun _ h=>.inr (h.resolve_left id),fun j hj=>absurd hj (Nat.not_lt_zero j)⟩
def aJ {i n:Nat}(h:i<n)(hn:n<=maxLen):IntKind.i64.wrap ((i:Int)+1)=((i+1:Nat):Int):=by
 rw [Go.IntWalk.i64_in _ (by simp only [maxLen] at hn;omega)];omega
def up {xs:aD}{Q:Nat->Prop}(h0:∀i,xs.length<=i->i=xs.length->Q i)(h1:∀i (h:i<xs.length),Q (i+1)->Q i):∀i,i<=xs.length->Q i:=by
 have key:∀k i,i+k=xs.length->Q i:=by
  intro k
  induction k with
  | zero=>intro i hi;exact h0 i (by omega) (by omega)
  | succ k ih=>intro i hi;exact h1 i (by omega) (ih (i+1) (by omega))
 exact fun i hi=>key (xs.length - i) i (by omega)
def take_set {α:Type}{c:List α}{i:Nat}{v:α}(h:i<c.length):(c.set i v).take (i+1)=c.take i++[v]:=by
 rw [List.take_succ_eq_append_getElem (by simpa using h),List.take_set_of_le (by omega)]
 simp
def dw (n:Nat):Int.toNat (n:Int)=n:=Eq.trans (Int.toNat_natCast n) rfl
@[simp] def gO (s:aC):(s==s)=true:=by rw [beq_toListBytes];simp
end Go.DM
namespace Go.DM
class RT (β:Type) where
 enc:β->List L
 dec:List L->β
 n:Nat
 de:∀b rest,dec (enc b++rest)=b
 dr:∀b rest,ay n (enc b++rest)=rest
instance :RT Int:=⟨fun n=>[.int n],fun r=>(r.headD .hole).toInt,1,fun _ _=>rfl,fun _ _=>rfl⟩
instance :RT Bool:=⟨fun n=>[.bool n],fun r=>(r.headD .hole).toBool,1,fun _ _=>rfl,fun _ _=>rfl⟩
instance :RT aC:=⟨fun n=>[.str n],fun r=>(r.headD .hole).toStr,1,fun _ _=>rfl,fun _ _=>rfl⟩
instance :RT (aD):=⟨fun n=>[.sl n],fun r=>(r.headD .hole).aS,1,fun _ _=>rfl,fun _ _=>rfl⟩
def tJ:∀(m n:Nat) (l:List L),ay (m+n) l=ay n (ay m l)
 | 0,n,l=>by rw [Nat.zero_add];rfl
 | m+1,n,l=>by rw [show m+1+n=(m+n)+1 by omega];exact tJ m n l.tail
instance {α β:Type} [RT α] [RT β]:RT (α×β):=
 ⟨fun p=>RT.enc p.1++RT.enc p.2,fun r=>(RT.dec r,RT.dec (ay (RT.n α) r)),RT.n α+RT.n β,
  fun b rest=>by simp only [List.append_assoc,RT.de,RT.dr],
  fun b rest=>by simp only [List.append_assoc,tJ,RT.dr]⟩
def ret {β:Type}[RT β](b:β):aI:=some (RT.enc b)
def call {β:Type}[RT β](o:Option β)(k:β->aI):aI:=(o.map RT.enc).bind fun r=>k (RT.dec r)
def yD {β:Type}[RT β](b:β)(k:β->aI):call (some b) k=k b:=by
 have:=RT.de b []
 rw [List.append_nil] at this
 simp [call,this]
def call_eq {β:Type}[RT β]{o:Option β}{b:β}(h:o=some b)(k:β->aI):call o k=k b:=by rw [h,yD]
def fU (r:List L):Int:=(r.headD .hole).toInt
def Dg (r:List L):Bool:=(r.headD .hole).toBool
def sDec (r:List L):aC:=(r.headD .hole).toStr
def nC (r:List L):aD:=(r.headD .hole).aS
def jG (xs:aD)(i:Nat):Int:=fU (List.getD xs i [])
def C6 (xs:aD)(i:Nat):Bool:=Dg (List.getD xs i [])
def qA (xs:aD)(i:Nat):aC:=sDec (List.getD xs i [])
def qd (xs:aD)(i:Nat):aD:=nC (List.getD xs i [])
def eK (s:aC)(i:Nat):Int:=((List.getD s.data.toList i 0).toNat:Int)
def bk (n:Int):List L:=[.int n]
def yu (n:Bool):List L:=[.bool n]
def cK (n:aC):List L:=[.str n]
def eg {α:Type}(f:α->List L)(c:List α):List L:=[.sl (c.map f)]
def mO {a b:Int}(h:bk a=bk b):a=b:=by injection h with h;injection h
def zc {a b:Bool}(h:yu a=yu b):a=b:=by injection h with h;injection h
def wB {a b:aC}(h:cK a=cK b):a=b:=by injection h with h;injection h
def map_inj {α β:Type}{f:α->β}(hf:∀{a b:α},f a=f b->a=b):∀{a b:List α},a.map f=b.map f->a=b
 | [],[],_=>rfl
 | [],_::_,h=>by cases h
 | _::_,[],h=>by cases h
 | a::as,b::bs,h=>by
  simp only [List.map_cons,List.cons.injEq] at h
  rw [hf h.1,map_inj hf h.2]
def vk {α:Type}{f:α->List L}(hf:∀{a b:α},f a=f b->a=b){a b:List α}(h:eg f a=eg f b):a=b:=by
 injection h with h;injection h with h;exact map_inj hf h
def getD_map {α:Type}{f:α->List L}{xs:List α}{i:Nat}(h:i<xs.length):List.getD (xs.map f) i []=f xs[i]:=by
 simp [List.getD_eq_getElem?_getD,h]
def uB {xs:List Int}{i:Nat}(h:i<xs.length):jG (xs.map bk) i=xs[i]:=by unfold jG;rw [getD_map h];rfl
def qW {xs:List aC}{i:Nat}(h:i<xs.length):qA (xs.map cK) i=xs[i]:=by unfold qA;rw [getD_map h];rfl
def qR {α:Type}{f:α->List L}{xs:List (List α)}{i:Nat}(h:i<xs.length):qd (xs.map (eg f)) i=xs[i].map f:=by unfold qd;rw [getD_map h];rfl
def ofM {A A' B:Type}(r:A->A')(g:A->Prop)(m:A->B)(x:A'):Option B:=
 open Classical in if h:∃a,r a=x/\g a then some (m (Classical.choose h)) else none
def Cf {A A' B:Type}{r:A->A'}{g:A->Prop}{m:A->B}{a:A}(hr:∀a b,r a=r b->a=b)(h:g a):ofM r g m (r a)=some (m a):=by
 have hx:∃b,r b=r a/\g b:=⟨a,rfl,h⟩
 unfold ofM
 rw [dif_pos hx,hr _ _ (Classical.choose_spec hx).1]
def lp {A A' B:Type}{r:A->A'}{g:A->Prop}{m:A->B}{x:A'}{v:B}(h:ofM r g m x=some v):∃a,g a/\r a=x/\m a=v:=by
 unfold ofM at h
 split at h
 ·rename_i hx
  injection h with h
  exact ⟨_,(Classical.choose_spec hx).2,(Classical.choose_spec hx).1,h⟩
 ·cases h
def map_some {α β:Type}{f:α->β}{o:Option α}{b:β}(h:o.map f=some b):∃a,o=some a/\f a=b:=by
 cases o with
 | none=>cases h
 | some a=>injection h with h;exact ⟨a,rfl,h⟩
def eD {α:Type}(a b:α):Bool:=open Classical in decide (a=b)
def dz {α:Type}{a b:α}:eD a b=true↔a=b:=by simp [eD]
def gv {α:Type}(a:α):eD a a=true:=dz.2 rfl
def mX {α:Type}{a b:α}:eD a b=false↔a≠b:=by simp [eD]
def bO {α:Type}(n:Nat)(p:α->Prop)(xs:List α):Prop:=xs.length<=n/\∀x∈xs,p x
def bO.get {α:Type}{n:Nat}{p:α->Prop}{xs:List α}(h:bO n p xs){i:Nat}(hi:i<xs.length):p xs[i]:=h.2 _ (List.getElem_mem hi)
def bO.mono {α:Type}{n m:Nat}{p q:α->Prop}{xs:List α}(h:bO n p xs)(hn:n<=m)(hpq:∀x,p x->q x):bO m q xs:=⟨Nat.le_trans h.1 hn,fun x hx=>hpq x (h.2 x hx)⟩
def bO.nil {α:Type}{n:Nat}{p:α->Prop}:bO n p ([]:List α):=⟨Nat.zero_le _,fun x hx=>(nomatch hx)⟩
def eC {α:Type}(f:α->Nat)(xs:List α):Nat:=xs.length+(xs.map f).sum
def uO {α:Type}{f:α->Nat}:∀{xs:List α} {x:α},x∈xs->f x<=(xs.map f).sum
 | y::ys,x,h=>by
  simp only [List.map_cons,List.sum_cons]
  rcases List.mem_cons.1 h with rfl | h
  ·omega
  ·have:=uO (f:=f) h;omega
def kL {α:Type}{f:α->Nat}{p:α->Prop}{n:Nat}{xs:List α}(h:eC f xs<=n)(hp:∀x,f x<=n->p x):bO n p xs:=by
 unfold eC at h
 exact ⟨by omega,fun x hx=>hp x (by have:=uO (f:=f) hx;omega)⟩
def yV {P:Program}{E:Env}{g:FuncId}{aU:fY}{el:Nat}(he:lO P g)(hr:aU.res=.one (.fr el))
  (h:∀(ls r:List L) (w:World) (vs:List Value) (Z:Nat->Prop),aU.sem ls=some r->F2 (V2 E.cells w (A0 Z w)) (jW aU.args ls) vs->
   Calls P g vs.toArray w fun e w'=>∃(rv:Value) (S:Nat->Prop),e=.returned rv/\Fr w w' (fun _=>False)/\(∀b,S b->w.heap.size<=b/\b<w'.heap.size)/\fT E.cells w' S (.sl el) rv (.sl (r.headD .hole).aS)):Valid P E g aU:=by
 refine ⟨he,by rw [hr];rfl,fun ls r w vs Z hs hf=>(h ls r w vs Z hs hf).mono fun e w' ⟨rv,S,h1,h2,h3,h4⟩=>?_⟩
 have hR:aU.res.R r=[.row el (r.headD .hole).aS]:=by rw [hr];rfl
 have hV:aU.res.V r 0=.own 0:=by rw [hr];rfl
 obtain ⟨a,n,c,hsl,_⟩:=h4.vO
 refine ⟨rv,{ v:=fun _=>rv,N:=fun i=>if i=0 then S else fun _=>False,al:=fun i=>i<1,Z:=(A0 Z w).Z },h1,h2,rfl,fun i=>by rw [hR];rfl,?_,?_⟩
 ·rw [hR]
  refine ⟨fun i b hb=>?_,fun i j b hb hb'=>?_,fun i hi=>?_,fun i=>?_,h2,fun i b hb=>?_,fun b hb=>.inr (hb.resolve_left id),fun j hj=>absurd hj (Nat.not_lt_zero j)⟩
  ·by_cases hi:i=0
   ·simp only [hi,if_true] at hb;exact (h3 b hb).2
   ·simp only [hi,if_false] at hb
  ·by_cases hi:i=0<;>by_cases hj:j=0
   ·rw [hi,hj]
   ·simp only [hj,if_false] at hb'
   ·simp only [hi,if_false] at hb
   ·simp only [hi,if_false] at hb
  ·have :i≠0:=fun e=>hi (by show i<1;omega)
   simp [dX,bA _ _ this]
  ·by_cases hi:i=0
   ·subst hi
    simp only [dX,bG]
    exact ⟨Nat.lt_one_iff.2 rfl,by simpa using h4⟩
   ·simp only [dX,bA _ _ hi]
    intro b hb
    simp only [hi,if_false] at hb
  ·by_cases hi:i=0
   ·simp only [hi,if_true] at hb;exact .inr (h3 b hb).1
   ·simp only [hi,if_false] at hb
 ·rw [hV]
  exact V0.v2 (v:=.own 0) ⟨Nat.lt_one_iff.2 rfl,rfl,a,n,c,hsl⟩
def aP {i n:Nat}(h:i<n):decide ((i:Int)<(n:Int))=true:=by simp [h]
def fH {n:Nat}:decide ((n:Int)<(n:Int))=false:=by simp
def aK {i:Nat}:decide ((0:Int)<=(i:Int))=true:=by simp
end Go.DM
namespace Go.DM
def iD (s:Nat)(left:Int):Int:=if left<(s:Int) then -1 else left - s
def cw {s:Nat}{left:Int}(h:left<(s:Int)):iD s left=-1:=if_pos h
def cV {s:Nat}{left:Int}(h:¬left<(s:Int)):iD s left=left - s:=if_neg h
def dx {x:Int}(h:0<=x):decide (x<0)=false:=decide_eq_false (by omega)
def ng {s:Nat}{left:Int}(h0:0<=left)(h1:left<=1048576)(hs:s<=maxLen):IntKind.i64.wrap (left - (s:Int))=left - s:=
 Go.IntWalk.i64_in _ (by simp only [maxLen] at hs;omega)
def sF {α:Type}{f:α->Nat}(h:∀x,f x=0):∀xs:List α,(xs.map f).sum=0
 | []=>rfl
 | x::xs=>by simp [h x,sF h xs]
def Ba {Pt α:Type}{step:(Pt->aI)->Pt->aI}{pt:Int->Nat->Pt}{xs:List α}{f:α->Nat}
  (h1:∀(J:Pt->aI) (i:Nat) (h:i<xs.length) (left:Int),0<=left->left<=1048576->step J (pt left i)=if left<(f xs[i]:Int) then ret (-1:Int) else J (pt (left - f xs[i]) (i+1)))
  (h0:∀(J:Pt->aI) (left:Int),step J (pt left xs.length)=ret left):∀(left:Int),0<=left->left<=1048576->∃m,iter step m (pt left 0)=ret (iD (xs.map f).sum left):=by
 have key:∀k i,i+k=xs.length->∀left:Int,0<=left->left<=1048576->∃m,iter step m (pt left i)=ret (iD ((xs.drop i).map f).sum left):=by
  intro k
  induction k with
  | zero=>
   intro i hi left g0 g1
   have :i=xs.length:=by omega
   subst this
   refine ⟨1,(h0 _ left).trans ?_⟩
   have e:iD ((xs.drop xs.length).map f).sum left=left:=by
    rw [List.drop_eq_nil_of_le (Nat.le_refl _)]
    rw [cV (by simp;omega)];simp
   rw [e]
  | succ k ih=>
   intro i hi left g0 g1
   have hlt:i<xs.length:=by omega
   rw [List.drop_eq_getElem_cons hlt,List.map_cons,List.sum_cons]
   by_cases hc:left<(f xs[i]:Int)
   ·refine ⟨1,(h1 _ i hlt left g0 g1).trans ?_⟩
    rw [if_pos hc,cw (by omega)]
   ·obtain ⟨m,hm⟩:=ih (i+1) (by omega) (left - f xs[i]) (by omega) (by omega)
    refine ⟨m+1,(h1 _ i hlt left g0 g1).trans ?_⟩
    rw [if_neg hc,hm]
    congr 1
    unfold iD
    split<;>split<;>omega
 intro left g0 g1
 have:=key xs.length 0 (by omega) left g0 g1
 simpa using this
def oU {Pt α:Type}{step:(Pt->aI)->Pt->aI}{pt:Int->Nat->Pt}{xs:List α}{f:α->Nat}(hx:xs.length<=maxLen)
  (h1:∀(J:Pt->aI) (i:Nat) (h:i<xs.length) (left:Int),0<=left->left<=1048576->step J (pt left i)=if left<(f xs[i]:Int) then ret (-1:Int) else J (pt (left - f xs[i]) (i+1)))
  (h0:∀(J:Pt->aI) (left:Int),step J (pt left xs.length)=ret left) {left:Int} (g0:0<=left) (g1:left<=1048576) :
  ∃m,(cond (decide (IntKind.i64.wrap (left - (xs.length:Int))<0)) (ret (-1:Int)) (iter step m (pt (IntKind.i64.wrap (left - (xs.length:Int))) 0)))=ret (iD (eC f xs) left):=by
 rw [ng g0 g1 hx]
 by_cases hc:left - (xs.length:Int)<0
 ·refine ⟨0,?_⟩
  rw [decide_eq_true hc,cw (by unfold eC;omega)];rfl
 ·obtain ⟨m,hm⟩:=Ba h1 h0 (left - (xs.length:Int)) (by omega) (by omega)
  refine ⟨m,?_⟩
  rw [decide_eq_false hc,bg,hm]
  congr 1
  unfold iD eC
  split<;>split<;>omega
def AG {Pt:Type}{step:(Pt->aI)->Pt->aI}{pt:Nat->aD->Pt}{xs:aD}
  (h1:∀(J:Pt->aI) (i:Nat) (h:i<xs.length) (c:aD),c.length=xs.length->step J (pt i c)=J (pt (i+1) (c.set i xs[i])))
  (h0:∀(J:Pt->aI) (c:aD),step J (pt xs.length c)=ret c) (c:aD) (hc:c.length=xs.length):∃m,iter step m (pt 0 c)=ret xs:=by
 have key:∀k i,i+k=xs.length->∀c:aD,c.length=xs.length->c.take i=xs.take i->∃m,iter step m (pt i c)=ret xs:=by
  intro k
  induction k with
  | zero=>
   intro i hi c hc ht
   have :i=xs.length:=by omega
   subst this
   rw [List.take_of_length_le (by omega),List.take_of_length_le (Nat.le_refl _)] at ht
   exact ⟨1,by rw [<-ht] at h0 ⊢;exact h0 _ _⟩
  | succ k ih=>
   intro i hi c hc ht
   have hlt:i<xs.length:=by omega
   obtain ⟨m,hm⟩:=ih (i+1) (by omega) (c.set i xs[i]) (by simpa using hc) (by rw [take_set (by omega),ht,List.take_succ_eq_append_getElem hlt])
   exact ⟨m+1,(h1 _ i hlt c hc).trans hm⟩
 exact key xs.length 0 (by omega) c hc rfl
def lH {Pt α:Type}{step:(Pt->aI)->Pt->aI}{pt:Nat->aD->Pt}{xs:List α}{f:α->List L}{z:List L}{b:Nat}(hx:(xs.length:Int)*(b:Int)<=140737488355328)
  (h1:∀(J:Pt->aI) (i:Nat) (h:i<xs.length) (c:aD),c.length=xs.length->step J (pt i c)=J (pt (i+1) (c.set i (f xs[i]))))
  (h0:∀(J:Pt->aI) (c:aD),step J (pt xs.length c)=ret c) :
  ∃m,(cond (decide ((0:Int)<=(xs.length:Int))) (cond (decide ((xs.length:Int)<=(xs.length:Int))) (cond (decide ((xs.length:Int)*(b:Int)<=140737488355328)) (iter step m (pt 0 (List.replicate (Int.toNat (xs.length:Int)) z))) none) none) none)=ret (xs.map f):=by
 obtain ⟨m,hm⟩:=AG (step:=step) (pt:=pt) (xs:=xs.map f) (fun J i h c hc=>by
  rw [List.getElem_map];exact h1 J i (by simpa using h) c (by simpa using hc)) (fun J c=>by rw [List.length_map];exact h0 J c) (List.replicate (Int.toNat (xs.length:Int)) z) (by simp)
 refine ⟨m,?_⟩
 rw [aK,decide_eq_true (Int.le_refl _),decide_eq_true hx]
 exact hm
def Bh {Pt α:Type}{step:(Pt->aI)->Pt->aI}{pt:Nat->Pt}{xs ys:List α}(hl:xs.length=ys.length)
  (h1:∀(J:Pt->aI) (i:Nat) (h:i<xs.length) (h':i<ys.length),step J (pt i)=bif eD xs[i] ys[i] then J (pt (i+1)) else ret false) (h0:∀J:Pt->aI,step J (pt xs.length)=ret true):∃m,iter step m (pt 0)=ret (eD xs ys):=by
 have key:∀k i,i+k=xs.length->∃m,iter step m (pt i)=ret (eD (xs.drop i) (ys.drop i)):=by
  intro k
  induction k with
  | zero=>
   intro i hi
   have :i=xs.length:=by omega
   subst this
   refine ⟨1,(h0 _).trans ?_⟩
   rw [List.drop_eq_nil_of_le (Nat.le_refl _),List.drop_eq_nil_of_le (by omega),gv]
  | succ k ih=>
   intro i hi
   have hlt:i<xs.length:=by omega
   have hlt':i<ys.length:=by omega
   rw [List.drop_eq_getElem_cons hlt,List.drop_eq_getElem_cons hlt']
   obtain ⟨m,hm⟩:=ih (i+1) (by omega)
   cases hc:eD xs[i] ys[i]
   ·refine ⟨1,(h1 _ i hlt hlt').trans ?_⟩
    rw [hc]
    have :eD (xs[i]::xs.drop (i+1)) (ys[i]::ys.drop (i+1))=false:=by
     rw [mX] at hc ⊢
     intro h;injection h with h;exact hc h
    rw [this];rfl
   ·refine ⟨m+1,(h1 _ i hlt hlt').trans ?_⟩
    rw [hc,aZ,hm]
    congr 1
    rw [dz] at hc
    rw [Bool.eq_iff_iff,dz,dz,hc]
    constructor
    ·intro h;rw [h]
    ·intro h;injection h
 have:=key xs.length 0 (by omega)
 simpa using this
def lq {Pt α:Type}{step:(Pt->aI)->Pt->aI}{pt:Nat->Pt}{xs ys:List α}
  (h1:xs.length=ys.length->∀(J:Pt->aI) (i:Nat) (h:i<xs.length) (h':i<ys.length),step J (pt i)=bif eD xs[i] ys[i] then J (pt (i+1)) else ret false) (h0:∀J:Pt->aI,step J (pt xs.length)=ret true) :
  ∃m,(cond ((xs.length:Int) != (ys.length:Int)) (ret false) (iter step m (pt 0)))=ret (eD xs ys):=by
 by_cases hl:xs.length=ys.length
 ·obtain ⟨m,hm⟩:=Bh hl (h1 hl) h0
  refine ⟨m,?_⟩
  rw [hl,bne_self_eq_false,bg,hm]
 ·refine ⟨0,?_⟩
  have h2:((xs.length:Int) != (ys.length:Int))=true:=by simpa using fun h=>hl (by omega)
  have h3:eD xs ys=false:=mX.2 fun h=>hl (by rw [h])
  rw [h2,h3];rfl
def dY.eB {T:Nat->List K}{k:K}{ks:List K}{r:List L}(h:dY T (k::ks) r):∃l r',r=l::r'/\Wf T k l/\dY T ks r':=by
 match r,h with
 | [],h=>have:=h.1;simp at this
 | l::r',h=>
  obtain ⟨l',e1,e2⟩:=h.2 0 k rfl
  simp at e1
  subst e1
  exact ⟨l,r',rfl,e2,by simpa using h.1,fun j kk hj=>by simpa using h.2 (j+1) kk (by simpa using hj)⟩
def dY.iN {T:Nat->List K}:∀{a b:List K} {r:List L},dY T (a++b) r->∃r1 r2,r=r1++r2/\dY T a r1/\dY T b r2
 | [],b,r,h=>⟨[],r,rfl,⟨rfl,fun j k hj=>by simp at hj⟩,h⟩
 | k::a,b,r,h=>by
  obtain ⟨l,r',rfl,h1,h2⟩:=dY.eB (ks:=a++b) h
  obtain ⟨r1,r2,rfl,h3,h4⟩:=dY.iN h2
  exact ⟨l::r1,r2,rfl,dY.append (a:=[k]) (x:=[l]) ⟨rfl,fun j kk hj=>by
   cases j with
   | zero=>simp at hj;subst hj;exact ⟨l,rfl,h1⟩
   | succ j=>simp at hj⟩ h3,h4⟩
def dY.jo {T:Nat->List K}{r:List L}(h:dY T [] r):r=[]:=List.eq_nil_of_length_eq_zero h.1
def gn {T:Nat->List K}{k:IntKind}{l:L}(h:Wf T (.int k) l):∃n,l=.int n:=by cases h;exact ⟨_,rfl⟩
def yd {T:Nat->List K}{l:L}(h:Wf T .bool l):∃n,l=.bool n:=by cases h;exact ⟨_,rfl⟩
def xd {T:Nat->List K}{l:L}(h:Wf T .str l):∃s:aC,l=.str s/\s.size<=maxLen:=by cases h;exact ⟨_,rfl,by assumption⟩
def iT {T:Nat->List K}{e:Nat}{ks:List K}{α:Type}{row:α->List L}{p:α->Prop}(hc:T e=ks)(hrow:∀r,dY T ks r->∃x,row x=r/\p x){l:L}(h:Wf T (.sl e) l) :
  ∃xs:List α,l=.sl (xs.map row)/\bO maxLen p xs:=by
 cases h
 rename_i xs hle hl hr
 have key:∀ys:aD,(∀r∈ys,r∈xs)->∃zs:List α,ys=zs.map row/\∀z∈zs,p z:=by
  intro ys
  induction ys with
  | nil=>intro _;exact ⟨[],rfl,fun z hz=>(nomatch hz)⟩
  | cons y ys ih=>
   intro hy
   obtain ⟨zs,e1,e2⟩:=ih fun r hr=>hy r (by simp [hr])
   obtain ⟨z,e3,e4⟩:=hrow y (by
    refine ⟨by rw [<-hc];exact hl y (hy y (by simp)),fun j kk hj=>?_⟩
    rw [<-hc] at hj
    have hjl:j<y.length:=by rw [hl y (hy y (by simp))];exact (List.getElem?_eq_some_iff.1 hj).1
    have hg:=List.getElem?_eq_getElem hjl
    exact ⟨_,hg,hr y j kk _ (hy y (by simp)) hj hg⟩)
   refine ⟨z::zs,by simp [e1,e3],fun w hw=>?_⟩
   rcases List.mem_cons.1 hw with rfl | hw
   ·exact e4
   ·exact e2 w hw
 obtain ⟨zs,e1,e2⟩:=key xs fun r hr=>hr
 exact ⟨zs,by rw [e1],by rw [e1] at hle;simpa using hle,e2⟩
def xO {T:Nat->List K}{k:IntKind}(r:List L)(h:dY T [.int k] r):∃x,bk x=r/\True:=by
 obtain ⟨l,r',rfl,h1,h2⟩:=h.eB
 obtain ⟨n,rfl⟩:=gn h1
 rw [h2.jo];exact ⟨n,rfl,trivial⟩
def xN {T:Nat->List K}(r:List L)(h:dY T [.str] r):∃x:aC,cK x=r/\x.size<=maxLen:=by
 obtain ⟨l,r',rfl,h1,h2⟩:=h.eB
 obtain ⟨n,rfl,h3⟩:=xd h1
 rw [h2.jo];exact ⟨n,rfl,h3⟩
def AM {T:Nat->List K}{e:Nat}{ks:List K}{α:Type}{row:α->List L}{p:α->Prop}(hc:T e=ks)(hrow:∀r,dY T ks r->∃x,row x=r/\p x)(r:List L)(h:dY T [.sl e] r):∃x,eg row x=r/\bO maxLen p x:=by
 obtain ⟨l,r',rfl,h1,h2⟩:=h.eB
 obtain ⟨xs,rfl,h3⟩:=iT hc hrow h1
 rw [h2.jo];exact ⟨xs,rfl,h3⟩
def fV {a b:Int}:(a==b)=eD a b:=by rw [Bool.eq_iff_iff,beq_iff_eq,dz]
def bool_beq {a b:Bool}:(a==b)=eD a b:=by rw [Bool.eq_iff_iff,beq_iff_eq,dz]
def fD {a b:aC}:(a==b)=eD a b:=by
 rw [Bool.eq_iff_iff,dz,beq_toListBytes,beq_iff_eq,ByteArray.toList_eq,ByteArray.toList_eq]
 constructor
 ·intro h
  obtain ⟨⟨x⟩⟩:=a
  obtain ⟨⟨y⟩⟩:=b
  simp at h
  rw [h]
 ·intro h;rw [h]
def cy {b c:Bool}{x:aI}(h:b=true->x=ret c):(cond (!b) (ret false) x)=ret (b&&c):=by
 cases b
 ·rfl
 ·simpa using h rfl
end Go.DM
namespace Go.DM
def eL {S β:Type}(f:Nat->S->S⊕β)(tail:S->β):Nat->Nat->S->β
 | 0,_,s=>tail s
 | k+1,i,s=>match f i s with
  | .inl s'=>eL f tail k (i+1) s'
  | .inr b=>b
def DJ {S β:Type}(K:S->aI)(out:β->aI):S⊕β->aI
 | .inl s=>K s
 | .inr b=>out b
def bq {S β:Type}(x:aI)(K:S->aI)(out:β->aI)(P:S->Prop)(r:S⊕β):Prop:=x=DJ K out r/\∀s,r=.inl s->P s
def bq.bif {S β:Type}{K:S->aI}{out:β->aI}{P:S->Prop}{c:Bool}{x y:aI}{a b:S⊕β}(h1:c=true->bq x K out P a)(h2:c=false->bq y K out P b):bq (cond c x y) K out P (cond c a b):=by
 cases c
 ·exact h2 rfl
 ·exact h1 rfl
def bq.yes {S β:Type}{K:S->aI}{out:β->aI}{P:S->Prop}{c:Bool}{x y:aI}{r:S⊕β}(hc:c=true)(h:bq x K out P r):bq (cond c x y) K out P r:=by rw [hc];exact h
def bq.call {S β γ:Type}[RT γ]{K:S->aI}{out:β->aI}{P:S->Prop}{o:Option γ}{b:γ}(h:o=some b){k:γ->aI}{r:S⊕β}(hk:bq (k b) K out P r):bq (call o k) K out P r:=by rw [call_eq h];exact hk
def bq.inl {S β:Type}{K:S->aI}{out:β->aI}{P:S->Prop}{x:aI}{s:S}(hp:P s)(h:x=K s):bq x K out P (.inl s):=⟨h,fun s' e=>by injection e with e;rw [<-e];exact hp⟩
def bq.inr {S β:Type}{K:S->aI}{out:β->aI}{P:S->Prop}{x:aI}{b:β}(h:x=out b):bq x K out P (.inr b):=⟨h,fun s' e=>by cases e⟩
def cq {Pt S β:Type}{step:(Pt->aI)->Pt->aI}{pt:Nat->S->Pt}{n:Nat}{f:Nat->S->S⊕β}{tail:S->β}{out:β->aI}(Inv:Nat->S->Prop)
  (h1:∀(J:Pt->aI) (i:Nat) (s:S),i<n->Inv i s->bq (step J (pt i s)) (fun s'=>J (pt (i+1) s')) out (Inv (i+1)) (f i s))
  (h0:∀s,Inv n s->∃m,step (iter step m) (pt n s)=out (tail s)) {s:S} (hs:Inv 0 s):∃m,iter step m (pt 0 s)=out (eL f tail n 0 s):=by
 have key:∀k i s,i+k=n->Inv i s->∃m,iter step m (pt i s)=out (eL f tail k i s):=by
  intro k
  induction k with
  | zero=>
   intro i s hi hs
   have :i=n:=by omega
   subst this
   obtain ⟨m,hm⟩:=h0 s hs
   exact ⟨m+1,hm⟩
  | succ k ih=>
   intro i s hi hs
   unfold eL
   cases hf:f i s with
   | inl s'=>
    have h:=h1 (fun _=>none) i s (by omega) hs
    obtain ⟨m,hm⟩:=ih (i+1) s' (by omega) (h.2 s' hf)
    refine ⟨m+1,?_⟩
    have h:=(h1 (iter step m) i s (by omega) hs).1
    rw [hf] at h
    exact h.trans hm
   | inr b=>
    refine ⟨1,?_⟩
    have h:=(h1 (iter step 0) i s (by omega) hs).1
    rw [hf] at h
    exact h
 exact key n 0 s (by omega) hs
def iy {β:Type}(out:β->aI){c:Bool}{x y:Nat->aI}{a b:β}(h1:c=true->∃n,x n=out a)(h2:c=false->∃n,y n=out b):∃n,(cond c (x n) (y n))=out (cond c a b):=by
 cases c
 ·exact h2 rfl
 ·exact h1 rfl
def dQ {c:Bool}{x y:Nat->aI}{r:aI}(hc:c=true)(h:∃n,x n=r):∃n,(cond c (x n) (y n))=r:=by subst hc;exact h
def dH {c:Bool}{x y:Nat->aI}{r:aI}(hc:c=false)(h:∃n,y n=r):∃n,(cond c (x n) (y n))=r:=by subst hc;exact h
def A3 {γ:Type}[RT γ]{o:Option γ}{b:γ}(h:o=some b){k:Nat->γ->aI}{r:aI}(hk:∃n,k n b=r):∃n,call o (k n)=r:=by
 obtain ⟨n,hn⟩:=hk
 exact ⟨n,by rw [call_eq h];exact hn⟩
def bt {β:Type}(out:β->aI){c:Bool}{x y:aI}{a b:β}(h1:c=true->x=out a)(h2:c=false->y=out b):(cond c x y)=out (cond c a b):=by
 cases c
 ·exact h2 rfl
 ·exact h1 rfl
def ak {c:Bool}{x y r:aI}(hc:c=true)(h:x=r):(cond c x y)=r:=by subst hc;exact h
def eV {α:Type}{xs:List α}{i:Nat}{z:α}(h:i<xs.length):xs.getD i z=xs[i]:=by simp [List.getD,h]
def iV {α:Type}{xs:List α}{i:Nat}{z:α}(h:¬i<xs.length):xs.getD i z=z:=by simp [List.getD];rw [List.getElem?_eq_none (by omega)];rfl
def iw {xs:List Int}{i:Nat}:jG (xs.map bk) i=xs.getD i 0:=by
 unfold jG
 by_cases h:i<xs.length
 ·rw [getD_map h,eV h];rfl
 ·rw [iV (by simpa using h),iV h];rfl
def zU {xs:List Bool}{i:Nat}:C6 (xs.map yu) i=xs.getD i false:=by
 unfold C6
 by_cases h:i<xs.length
 ·rw [getD_map h,eV h];rfl
 ·rw [iV (by simpa using h),iV h];rfl
def zx {xs:List aC}{i:Nat}:qA (xs.map cK) i=xs.getD i ⟨#[]⟩:=by
 unfold qA
 by_cases h:i<xs.length
 ·rw [getD_map h,eV h];rfl
 ·rw [iV (by simpa using h),iV h];rfl
def sx {α:Type}{f:α->List L}{xs:List (List α)}{i:Nat}:qd (xs.map (eg f)) i=(xs.getD i []).map f:=by
 unfold qd
 by_cases h:i<xs.length
 ·rw [getD_map h,eV h];rfl
 ·rw [iV (by simpa using h),iV h];rfl
def eW {α β:Type}{row:α->List L}{dec:List L->β}{r:α->β}{z:α}{xs:List α}{i:Nat}(h1:∀x,dec (row x)=r x)(h2:dec []=r z):dec (List.getD (xs.map row) i [])=r (xs.getD i z):=by
 by_cases h:i<xs.length
 ·rw [getD_map h,eV h,h1]
 ·rw [iV (by simpa using h),iV h,h2]
def bO.getD {α:Type}{n:Nat}{p:α->Prop}{xs:List α}(h:bO n p xs){i:Nat}{z:α}(hi:i<xs.length):p (xs.getD i z):=by
 rw [eV hi];exact h.get hi
def vw {S β:Type}{f g:Nat->S->S⊕β}{t u:S->β}{n:Nat}(Inv:Nat->S->Prop)(h1:∀i s,i<n->Inv i s->f i s=g i s/\∀s',f i s=.inl s'->Inv (i+1) s')(h0:∀s,Inv n s->t s=u s){s:S}(hs:Inv 0 s):eL f t n 0 s=eL g u n 0 s:=by
 have key:∀k i s,i+k=n->Inv i s->eL f t k i s=eL g u k i s:=by
  intro k
  induction k with
  | zero=>
   intro i s hi hs
   have :i=n:=by omega
   subst this
   exact h0 s hs
  | succ k ih=>
   intro i s hi hs
   obtain ⟨e,p⟩:=h1 i s (by omega) hs
   unfold eL
   rw [<-e]
   cases hf:f i s with
   | inl s'=>exact ih (i+1) s' (by omega) (p s' hf)
   | inr b=>rfl
 exact key n 0 s (by omega) hs
def kX {α:Type}{xs ys:List α}(z:α){f:Nat->Unit->Unit⊕Bool}{tail:Unit->Bool}(hf:∀i s,i<xs.length->i<ys.length->f i s=bif eD (xs.getD i z) (ys.getD i z) then .inl s else .inr false)(ht:∀s,tail s=true) :
  (cond ((xs.length:Int) != (ys.length:Int)) false (eL f tail xs.length 0 ()))=eD xs ys:=by
 by_cases hl:xs.length=ys.length
 ·rw [hl,bne_self_eq_false,bg,<-hl]
  have key:∀k i,i+k=xs.length->eL f tail k i ()=eD (xs.drop i) (ys.drop i):=by
   intro k
   induction k with
   | zero=>
    intro i hi
    have :i=xs.length:=by omega
    subst this
    unfold eL
    rw [ht,List.drop_eq_nil_of_le (Nat.le_refl _),List.drop_eq_nil_of_le (by omega),gv]
   | succ k ih=>
    intro i hi
    have h1:i<xs.length:=by omega
    have h2:i<ys.length:=by omega
    unfold eL
    rw [hf i () h1 h2,eV h1,eV h2,List.drop_eq_getElem_cons h1,List.drop_eq_getElem_cons h2]
    cases hc:eD xs[i] ys[i]
    ·have :eD (xs[i]::xs.drop (i+1)) (ys[i]::ys.drop (i+1))=false:=by
      rw [mX] at hc ⊢
      intro h;injection h with h;exact hc h
     rw [this];rfl
    ·show eL f tail k (i+1) ()=_
     rw [ih (i+1) (by omega)]
     rw [dz] at hc
     rw [Bool.eq_iff_iff,dz,dz,hc]
     constructor
     ·intro h;rw [h]
     ·intro h;injection h
  simpa using key xs.length 0 (by omega)
 ·have h2:((xs.length:Int) != (ys.length:Int))=true:=by simpa using fun h=>hl (by omega)
  have h3:eD xs ys=false:=mX.2 fun h=>hl (by rw [h])
  rw [h2,h3];rfl
end Go.DM
namespace Go.DM
def cY {c:Bool}{x y r:aI}(hc:c=false)(h:y=r):(cond c x y)=r:=by subst hc;exact h
def mC {a:aI}:either a a=a:=by simp [either]
def ex_eq {β:Type}{out:β->aI}{x:Nat->aI}{a b:β}(h:a=b)(k:∃n,x n=out a):∃n,x n=out b:=h ▸ k
def aX {γ:Type}[RT γ]{o:Option γ}{k:γ->aI}{r:aI}(b:γ)(h:o=some b)(hk:k b=r):call o k=r:=(call_eq h k).trans hk
def fC {γ:Type}[RT γ]{o:Option γ}{k:Nat->γ->aI}{r:aI}(b:γ)(h:o=some b)(hk:∃n,k n b=r):∃n,call o (k n)=r:=A3 h hk
def bq.aX {S β γ:Type}[RT γ]{K:S->aI}{out:β->aI}{P:S->Prop}{o:Option γ}{k:γ->aI}{r:S⊕β}(b:γ)(h:o=some b)(hk:bq (k b) K out P r):bq (DM.call o k) K out P r:=bq.call h hk
def dV {α S β:Type}(f:Nat->α->S->S⊕β)(t:S->β):Nat->List α->S->β
 | _,[],s=>t s
 | i,x::xs,s=>match f i x s with
  | .inl s'=>dV f t (i+1) xs s'
  | .inr b=>b
def eo {α S β:Type}(f:α->S->S⊕β)(t:S->β):List α->S->β
 | [],s=>t s
 | x::xs,s=>match f x s with
  | .inl s'=>eo f t xs s'
  | .inr b=>b
def cW {α S β:Type}{f:Nat->α->S->S⊕β}{t:S->β}{xs:List α}{z:α}{s:S}:eL (fun i s=>f i (xs.getD i z) s) t xs.length 0 s=dV f t 0 xs s:=by
 have key:∀(k i:Nat) (s:S),i+k=xs.length->eL (fun i s=>f i (xs.getD i z) s) t k i s=dV f t i (xs.drop i) s:=by
  intro k
  induction k with
  | zero=>
   intro i s hi
   have :i=xs.length:=by omega
   subst this
   rw [List.drop_eq_nil_of_le (Nat.le_refl _)];rfl
  | succ k ih=>
   intro i s hi
   have hlt:i<xs.length:=by omega
   rw [List.drop_eq_getElem_cons hlt]
   unfold eL dV
   rw [eV hlt]
   cases f i xs[i] s with
   | inl s'=>exact ih (i+1) s' (by omega)
   | inr b=>rfl
 simpa using key xs.length 0 s (by omega)
def qy {α S β:Type}{f:α->S->S⊕β}{t:S->β}:∀{xs:List α} {i:Nat} {s:S},dV (fun _ x s=>f x s) t i xs s=eo f t xs s
 | [],_,_=>rfl
 | x::xs,i,s=>by
  unfold dV eo
  cases f x s with
  | inl s'=>exact qy
  | inr b=>rfl
def eS {α S β:Type}{f:α->S->S⊕β}{t:S->β}{xs:List α}{z:α}{s:S}:eL (fun i s=>f (xs.getD i z) s) t xs.length 0 s=eo f t xs s:=
 (cW (f:=fun _ x s=>f x s)).trans qy
def tE {α γ β:Type}{g:α->γ}{t:List γ->β}:∀{xs:List α} {s:List γ},eo (fun x s=>.inl (s++[g x])) t xs s=t (s++xs.map g)
 | [],s=>by simp [eo]
 | x::xs,s=>by
  show eo (fun x s=>Sum.inl (s++[g x])) t xs (s++[g x])=_
  rw [tE];simp
def nw {α γ β:Type}{xs:List α}{g:α->γ}{z:α}{t:List γ->β}{s:List γ}:eL (fun i s=>.inl (s++[g (xs.getD i z)])) t xs.length 0 s=t (s++xs.map g):=
 (eS (f:=fun x s=>.inl (s++[g x]))).trans tE
def sr {α γ β:Type}{g:α->List γ}{t:List γ->β}:∀{xs:List α} {s:List γ},eo (fun x s=>.inl (s++g x)) t xs s=t (s++xs.flatMap g)
 | [],s=>by simp [eo]
 | x::xs,s=>by
  show eo (fun x s=>Sum.inl (s++g x)) t xs (s++g x)=_
  rw [sr];simp
def rK {α γ β:Type}{xs:List α}{g:α->List γ}{z:α}{t:List γ->β}{s:List γ}:eL (fun i s=>.inl (s++g (xs.getD i z))) t xs.length 0 s=t (s++xs.flatMap g):=
 (eS (f:=fun x s=>.inl (s++g x))).trans sr
def mL {α γ:Type}{g:α->List γ}{n:Nat}:∀{xs:List α},(∀x∈xs,(g x).length<=n)->(xs.flatMap g).length<=xs.length*n
 | [],_=>by simp
 | x::xs,h=>by
  have h1:=h x (by simp)
  have h2:=mL (xs:=xs) fun y hy=>h y (by simp [hy])
  simp only [List.flatMap_cons,List.length_append,List.length_cons,Nat.succ_mul]
  omega
def oE {α γ β:Type}{xs:List α}{g:α->γ}{z:α}{t:List γ->β}:eL (fun i s=>.inl (s++[g (xs.getD i z)])) t xs.length 0 []=t (xs.map g):=by
 have:=nw (xs:=xs) (g:=g) (z:=z) (t:=t) (s:=[])
 simpa using this
def gQ {α β:Type}{xs:List α}{z:α}{t:List α->β}:eL (fun i s=>.inl (s++[xs.getD i z])) t xs.length 0 []=t xs:=by
 have:=nw (xs:=xs) (g:=fun x=>x) (z:=z) (t:=t) (s:=[])
 simpa using this
def qz {α S β:Type}{f g:α->S->S⊕β}{t u:S->β}{xs:List α}{s:S}(h:∀x∈xs,∀s,f x s=g x s)(h0:∀s,t s=u s):eo f t xs s=eo g u xs s:=by
 induction xs generalizing s with
 | nil=>exact h0 s
 | cons x xs ih=>
  unfold eo
  rw [h x (by simp)]
  cases g x s with
  | inl s'=>exact ih fun y hy=>h y (by simp [hy])
  | inr b=>rfl
def nB {α β:Type}{p:α->Bool}{b c:β}:∀{xs:List α} {s:Unit},eo (fun x s=>bif p x then .inr b else .inl s) (fun _=>c) xs s=bif xs.any p then b else c
 | [],_=>rfl
 | x::xs,s=>by
  unfold eo
  rw [List.any_cons]
  cases p x
  ·exact nB
  ·rfl
def jl {α:Type}(p:α->Bool):Nat->List α->Int
 | _,[]=>-1
 | i,x::xs=>bif p x then (i:Int) else jl p (i+1) xs
def iB {α:Type}{p:α->Bool}:∀{xs:List α} {i:Nat} {s:Unit},dV (fun i x s=>bif p x then .inr (i:Int) else .inl s) (fun _=>(-1:Int)) i xs s=jl p i xs
 | [],_,_=>rfl
 | x::xs,i,s=>by
  unfold dV jl
  cases p x
  ·exact iB
  ·rfl
def tS {α:Type}{p:α->Bool}:∀{xs:List α} {i:Nat},decide (jl p i xs<0)=!(xs.any p)
 | [],i=>rfl
 | x::xs,i=>by
  unfold jl
  rw [List.any_cons]
  cases p x
  ·exact tS
  ·simp
end Go.DM
namespace Go.DM
def kR (s:aC):List Int:=s.data.toList.map fun b=>(b.toNat:Int)
def xJ (s:aC):iR s=(kR s).map bk:=by simp [iR,kR,bk]
def ir (s:aC):(kR s).length=s.size:=by simp [kR]
def sM (s:aC):(iR s).length=s.size:=by simp [iR]
def jP {f:Nat->Unit->Unit⊕Bool}{t:Unit->Bool}{n:Nat}(P:Nat->Prop)(h1:∀i,i<n->P i->f i ()=.inl ())(h2:∀i,i<n->¬P i->f i ()=.inr false):eL f t n 0 ()=true↔(∀i,i<n->P i)/\t ()=true:=by
 have key:∀k i,i+k=n->(eL f t k i ()=true↔(∀j,i<=j->j<n->P j)/\t ()=true):=by
  intro k
  induction k with
  | zero=>
   intro i hi
   constructor
   ·intro h;exact ⟨fun j h1 h2=>by omega,h⟩
   ·intro h;exact h.2
  | succ k ih=>
   intro i hi
   unfold eL
   by_cases hp:P i
   ·rw [h1 i (by omega) hp]
    show eL f t k (i+1) ()=true↔_
    rw [ih (i+1) (by omega)]
    constructor
    ·intro ⟨h,ht⟩
     refine ⟨fun j h1 h2=>?_,ht⟩
     by_cases hj:j=i
     ·subst hj;exact hp
     ·exact h j (by omega) h2
    ·intro ⟨h,ht⟩;exact ⟨fun j h1 h2=>h j (by omega) h2,ht⟩
   ·rw [h2 i (by omega) hp]
    constructor
    ·intro h;cases h
    ·intro ⟨h,_⟩;exact (hp (h i (Nat.le_refl _) (by omega))).elim
 rw [key n 0 (by omega)]
 simp
end Go.DM
namespace Go.DM
def rV {S β:Type}{f:Nat->S->S⊕β}{t:S->β}{k i:Nat}{s:S}:eL f t (k+1) i s=match f i s with | .inl s'=>eL f t k (i+1) s' | .inr b=>b:=rfl
def dW {Pt:Type}{step:(Pt->aI)->Pt->aI}{p q:Pt}{r:aI}(h:q=p)(k:∃n,iter step n p=r):∃n,iter step n q=r:=h ▸ k
def wQ {Pt S β:Type}{step:(Pt->aI)->Pt->aI}{pt:Nat->S->Pt}{n:Nat}{f:Nat->S->S⊕β}{tail:S->β}{out:β->aI}(Inv:Nat->S->Prop)
  (h1:∀(i:Nat) (s:S),i<n->Inv i s->∀K:S⊕β->aI,(∀s',Inv (i+1) s'->∃m,iter step m (pt (i+1) s')=K (.inl s'))->(∀b,K (.inr b)=out b)->∃m,step (iter step m) (pt i s)=K (f i s))
  (h0:∀s,Inv n s->∃m,step (iter step m) (pt n s)=out (tail s)) {s:S} (hs:Inv 0 s):∃m,iter step m (pt 0 s)=out (eL f tail n 0 s):=by
 have key:∀k i s,i+k=n->Inv i s->∃m,iter step m (pt i s)=out (eL f tail k i s):=by
  intro k
  induction k with
  | zero=>
   intro i s hi hs
   have :i=n:=by omega
   subst this
   obtain ⟨m,hm⟩:=h0 s hs
   exact ⟨m+1,hm⟩
  | succ k ih=>
   intro i s hi hs
   obtain ⟨m,hm⟩:=h1 i s (by omega) hs (fun r=>out (match r with | .inl s'=>eL f tail k (i+1) s' | .inr b=>b)) (fun s' hs'=>ih (i+1) s' (by omega) hs') (fun b=>rfl)
   refine ⟨m+1,hm.trans ?_⟩
   rw [rV]
 exact key n 0 s (by omega) hs
def vS {α:Type}{f:Nat->α->Unit->Unit⊕Int}(h:∀i x s b,f i x s=.inr b->b=(i:Int)):∀(xs:List α) (i:Nat) (s:Unit),-1<=dV f (fun _=>(-1:Int)) i xs s/\dV f (fun _=>(-1:Int)) i xs s<(i:Int)+xs.length
 | [],i,s=>by simp only [dV,List.length_nil];omega
 | x::xs,i,s=>by
  unfold dV
  cases hf:f i x s with
  | inl s'=>
   have:=vS h xs (i+1) s'
   simp only [List.length_cons]
   omega
  | inr b=>
   have:=h i x s b hf
   simp only [List.length_cons]
   omega
end Go.DM
namespace Go.DM
def gG {α:Type}{f:Nat->α->Unit->Unit⊕Int}(h:∀i x s b,f i x s=.inr b->b=(i:Int))(xs:List α)(s:Unit):-1<=dV f (fun _=>(-1:Int)) 0 xs s/\dV f (fun _=>(-1:Int)) 0 xs s<(xs.length:Int):=by
 have:=vS h xs 0 s
 simpa using this
def rD {α:Type}{p:α->Bool}{xs:List α}:decide (jl p 0 xs>=0)=xs.any p:=by
 have:=tS (p:=p) (xs:=xs) (i:=0)
 cases h:xs.any p<;>rw [h] at this<;>simp at this ⊢<;>omega
end Go.DM
namespace Go.DM
def lY {α S β:Type}{f:Nat->α->S->S⊕β}{c:β}(h:∀i x s b,f i x s=.inr b->b=c):∀(xs:List α) (i:Nat) (s:S),dV f (fun _=>c) i xs s=c
 | [],_,_=>rfl
 | x::xs,i,s=>by
  unfold dV
  cases hf:f i x s with
  | inl s'=>exact lY h xs _ _
  | inr b=>exact h _ _ _ _ hf
def qP {S β:Type}{f:Nat->S->S⊕β}{c:β}(h:∀i s b,f i s=.inr b->b=c):∀(k i:Nat) (s:S),eL f (fun _=>c) k i s=c
 | 0,_,_=>rfl
 | k+1,i,s=>by
  rw [rV]
  cases hf:f i s with
  | inl s'=>exact qP h k _ _
  | inr b=>exact h _ _ _ hf
end Go.DM
namespace Go.DM
def kB {α:Type}{f:Nat->α->Unit->Unit⊕Int}{p:α->Bool}(h:∀i x s,f i x s=bif p x then .inr (i:Int) else .inl ()):∀(xs:List α) (i:Nat) (s:Unit),dV f (fun _=>(-1:Int)) i xs s=jl p i xs
 | [],_,_=>rfl
 | x::xs,i,s=>by
  unfold dV jl
  rw [h]
  cases p x
  ·exact kB h xs _ _
  ·rfl
def Co {b c:Bool}:(cond (!b) false c)=(b&&c):=by cases b<;>rfl
def Bm {b c:Bool}:(cond b c false)=(b&&c):=by cases b<;>rfl
end Go.DM
namespace Go.DM
def nX {α β:Type}{f:α->Unit->Unit⊕β}{p:α->Bool}{b c:β}(h:∀x s,f x s=bif p x then .inr b else .inl ()):∀(xs:List α) (s:Unit),eo f (fun _=>c) xs s=bif xs.any p then b else c
 | [],_=>rfl
 | x::xs,s=>by
  unfold eo
  rw [List.any_cons,h]
  cases p x
  ·exact nX h xs ()
  ·rfl
def tT {α:Type}{f:Nat->α->Unit->Unit⊕Int}{z:α}(h:∀i x s b,f i x s=.inr b->b=(i:Int)){xs:List α}(hn:dV f (fun _=>(-1:Int)) 0 xs ()<0):∀i,i<xs.length->f i (xs.getD i z) ()=.inl ():=by
 have key:∀(ys:List α) (k:Nat),dV f (fun _=>(-1:Int)) k ys ()<0->∀i,i<ys.length->f (k+i) (ys.getD i z) ()=.inl ():=by
  intro ys
  induction ys with
  | nil=>intro k _ i hi;simp at hi
  | cons y ys ih=>
   intro k hk i hi
   unfold dV at hk
   cases hf:f k y () with
   | inr b=>
    rw [hf] at hk
    have:=h k y () b hf
    simp only at hk
    omega
   | inl s'=>
    rw [hf] at hk
    cases i with
    | zero=>simpa using hf
    | succ i=>
     have:=ih (k+1) hk i (by simpa using hi)
     rw [show k+1+i=k+(i+1) by omega] at this
     simpa using this
 intro i hi
 have:=key xs 0 hn i hi
 simpa using this
end Go.DM
namespace Go.DM
end Go.DM
namespace Go.DM
class Row (α:Type) where
 row:α->List L
 CG:∀{a b:α},row a=row b->a=b
class Im (α:Type) (β:outParam Type) where
 im:α->β
 inj:∀{a b:α},im a=im b->a=b
instance :Row Int:=⟨bk,mO⟩
instance :Row Bool:=⟨yu,zc⟩
instance :Row aC:=⟨cK,wB⟩
instance {α:Type} [Row α]:Row (List α):=⟨eg Row.row,vk Row.CG⟩
instance :Im Int Int:=⟨fun x=>x,fun h=>h⟩
instance :Im Bool Bool:=⟨fun x=>x,fun h=>h⟩
instance :Im aC aC:=⟨fun x=>x,fun h=>h⟩
instance :Im Unit Unit:=⟨fun x=>x,fun h=>h⟩
instance {α:Type} [Row α]:Im (List α) (aD):=⟨fun x=>x.map Row.row,fun h=>map_inj Row.CG h⟩
instance {α α' β β':Type} [Im α α'] [Im β β']:Im (α×β) (α'×β'):=⟨fun x=>(Im.im x.1,Im.im x.2),fun h=>Prod.ext (Im.inj (congrArg (fun x=>x.1) h)) (Im.inj (congrArg (fun x=>x.2) h))⟩
def u2 {a b r:Type}(f:a->b->r)(x:a×b):r:=f x.1 x.2
def u3 {a b c r:Type}(f:a->b->c->r)(x:a×b×c):r:=f x.1 x.2.1 x.2.2
def u4 {a b c d r:Type}(f:a->b->c->d->r)(x:a×b×c×d):r:=f x.1 x.2.1 x.2.2.1 x.2.2.2
def u5 {a b c d e r:Type}(f:a->b->c->d->e->r)(x:a×b×c×d×e):r:=f x.1 x.2.1 x.2.2.1 x.2.2.2.1 x.2.2.2.2
def u6 {a b c d e g r:Type}(f:a->b->c->d->e->g->r)(x:a×b×c×d×e×g):r:=f x.1 x.2.1 x.2.2.1 x.2.2.2.1 x.2.2.2.2.1 x.2.2.2.2.2
def u7 {a b c d e g h r:Type}(f:a->b->c->d->e->g->h->r)(x:a×b×c×d×e×g×h):r:=f x.1 x.2.1 x.2.2.1 x.2.2.2.1 x.2.2.2.2.1 x.2.2.2.2.2.1 x.2.2.2.2.2.2
def p2 {a b:Type}(f:a->b->Prop)(x:a×b):Prop:=f x.1 x.2
def p3 {a b c:Type}(f:a->b->c->Prop)(x:a×b×c):Prop:=f x.1 x.2.1 x.2.2
def p4 {a b c d:Type}(f:a->b->c->d->Prop)(x:a×b×c×d):Prop:=f x.1 x.2.1 x.2.2.1 x.2.2.2
def p5 {a b c d e:Type}(f:a->b->c->d->e->Prop)(x:a×b×c×d×e):Prop:=f x.1 x.2.1 x.2.2.1 x.2.2.2.1 x.2.2.2.2
def p6 {a b c d e g:Type}(f:a->b->c->d->e->g->Prop)(x:a×b×c×d×e×g):Prop:=f x.1 x.2.1 x.2.2.1 x.2.2.2.1 x.2.2.2.2.1 x.2.2.2.2.2
section
variable {A A' B B':Type} [Im A A'] [Im B B'] {g:A->Prop} {m:A->B}
def RR (g:A->Prop)(m:A->B)(x:A'):Option B':=ofM Im.im g (fun a=>Im.im (m a)) x
theorem tv {a:A}(h:g a):RR g m (Im.im a)=some (Im.im (m a)):=Cf (fun _ _ h=>Im.inj h) h
def CN [RT B'](ps:List gN)(r:RP)(acc:List L->A')(R:A'->Option B'):fY:=⟨ps,r,fun ls=>(R (acc ls)).map RT.enc⟩
theorem VP [RT B']{X:Type}{P:Program}{T:List (Nat×TI)}{G:List (Nat×fY)}{nt:Nat}{f:FuncId}{fn:Func}{ps:List gN}{r:RP}{acc:List L->A'}{accr:List L->X}{live:Nat->Live}{run:Nat->X->aI}
  (hm:P.follows .mixedOrders=true) (hT:eO P T=true) (hG:fM P (dP T) G) (hf:P.funcs[f]?=some fn) (hb:sY fn (CN ps r acc (RR g m)) nt=true)
  (hrun:∀n ls,fc { T:=assoc T,G:=dM G,nt:=nt } live fn r n (dJ ps ls)=run n (accr ls))
  (hok:∀ls a,rE (dP T).cells ps ls->acc ls=Im.im a->g a->∃n,run n (accr ls)=ret (Im.im (m a))):Valid P (dP T) f (CN ps r acc (RR g m)):=
 valid hm hT hG hf hb live fun ls q hl h=>by
  obtain ⟨v,hv,hq⟩:=map_some h
  obtain ⟨a,hg,e,hm⟩:=lp hv
  obtain ⟨n,hn⟩:=hok ls a hl e.symm hg
  exact ⟨n,(hrun n ls).trans (hn.trans (by rw [<-hq,<-hm];rfl))⟩
theorem VV [RT B']{P:Program}{T:List (Nat×TI)}{G:List (Nat×fY)}{nt:Nat}{f:FuncId}{fn:Func}{ps:List gN}{r:RP}{acc:List L->A'}{live:Nat->Live}{run:Nat->A'->aI}
  (hm:P.follows .mixedOrders=true) (hT:eO P T=true) (hG:fM P (dP T) G) (hf:P.funcs[f]?=some fn) (hb:sY fn (CN ps r acc (RR g m)) nt=true)
  (hrun:∀n ls,fc { T:=assoc T,G:=dM G,nt:=nt } live fn r n (dJ ps ls)=run n (acc ls))
  (hok:∀ls a,rE (dP T).cells ps ls->acc ls=Im.im a->g a->∃n,run n (Im.im a)=ret (Im.im (m a))):Valid P (dP T) f (CN ps r acc (RR g m)):=
 VP hm hT hG hf hb hrun fun ls a hl e hg=>by rw [e];exact hok ls a hl e hg
theorem VS [RT B']{P:Program}{T:List (Nat×TI)}{G:List (Nat×fY)}{S:List (Nat×ia)}{nt:Nat}{f:FuncId}{fn:Func}{ps:List gN}{r:RP}{acc:List L->A'}{live:Nat->Live}{run:Nat->A'->aI}
  (hm:P.follows .mixedOrders=true) (hT:eO P T=true) (hG:fM P (dP T) G) (hS:jJ P (dP T) S) (hf:P.funcs[f]?=some fn) (hb:sY fn (CN ps r acc (RR g m)) nt=true)
  (hrun:∀n ls,fc { T:=assoc T,G:=dM G,nt:=nt,M:=gj S } live fn r n (dJ ps ls)=run n (acc ls))
  (hok:∀ls a,rE (dP T).cells ps ls->acc ls=Im.im a->g a->∃n,run n (Im.im a)=ret (Im.im (m a))):Valid P (dP T) f (CN ps r acc (RR g m)):=
 uy hm hT hG hS hf hb live fun ls q hl h=>by
  obtain ⟨v,hv,hq⟩:=map_some h
  obtain ⟨a,hg,e,hm⟩:=lp hv
  obtain ⟨n,hn⟩:=hok ls a hl e.symm hg
  exact ⟨n,(hrun n ls).trans (by rw [<-e];exact hn.trans (by rw [<-hq,<-hm];rfl))⟩
theorem VI [RT B']{P:Program}{T:List (Nat×TI)}{G:List (Nat×fY)}{S:List (Nat×ia)}{I:List (Nat×jU)}{nt:Nat}{mt:Bool}{J:List Nat}{f:FuncId}{fn:Func}{ps:List gN}{r:RP}{acc:List L->A'}{live:Nat->Live}{run:Nat->A'->aI}
  (hm:P.follows .mixedOrders=true) (hT:eO P T=true) (hG:fM P (dP T) G) (hS:jJ P (dP T) S) (hI:oz P (dP T) 0 I) (hf:P.funcs[f]?=some fn) (hb:sY fn (CN ps r acc (RR g m)) nt=true)
  (hrun:∀n ls,fc { T:=assoc T,G:=dM G,nt:=nt,M:=gj S,mt:=mt,I:=lS I,J:=J } live fn r n (dJ ps ls)=run n (acc ls))
  (hok:∀ls a,rE (dP T).cells ps ls->acc ls=Im.im a->g a->∃n,run n (Im.im a)=ret (Im.im (m a))):Valid P (dP T) f (CN ps r acc (RR g m)):=
 AY hm hT hG hS hI hf hb live fun ls q hl h=>by
  obtain ⟨v,hv,hq⟩:=map_some h
  obtain ⟨a,hg,e,hm⟩:=lp hv
  obtain ⟨n,hn⟩:=hok ls a hl e.symm hg
  exact ⟨n,(hrun n ls).trans (by rw [<-e];exact hn.trans (by rw [<-hq,<-hm];rfl))⟩
theorem VT [RT B']{P:Program}{T:List (Nat×TI)}{G:List (Nat×fY)}{S:List (Nat×ia)}{nt:Nat}{f:FuncId}{fn:Func}{ps:List gN}{r:RP}{acc:List L->A'}{live:Nat->Live}{run:Nat->A'->aI}
  (hm:P.follows .mixedOrders=true) (hT:eO P T=true) (hG:fM P (dP T) G) (hS:jJ P (dP T) S) (hf:P.funcs[f]?=some fn) (hb:sY fn (CN ps r acc (RR g m)) nt=true)
  (hrun:∀n ls,fc { T:=assoc T,G:=dM G,nt:=nt,M:=gj S,mt:=true } live fn r n (dJ ps ls)=run n (acc ls))
  (hok:∀ls a,rE (dP T).cells ps ls->acc ls=Im.im a->g a->∃n,run n (Im.im a)=ret (Im.im (m a))):Valid P (dP T) f (CN ps r acc (RR g m)):=
 uy hm hT hG hS hf hb live fun ls q hl h=>by
  obtain ⟨v,hv,hq⟩:=map_some h
  obtain ⟨a,hg,e,hm⟩:=lp hv
  obtain ⟨n,hn⟩:=hok ls a hl e.symm hg
  exact ⟨n,(hrun n ls).trans (by rw [<-e];exact hn.trans (by rw [<-hq,<-hm];rfl))⟩
def MN [RT B'](ps:List (Bool×List K))(acc:List L->A')(R:A'->Option B'):ia:=⟨ps,fun ls=>(R (acc ls)).map RT.enc⟩
theorem MV [RT B']{P:Program}{T:List (Nat×TI)}{G:List (Nat×fY)}{S:List (Nat×ia)}{nt:Nat}{f:FuncId}{fn:Func}{ps:List (Bool×List K)}{acc:List L->A'}{live:Nat->Live}{run:Nat->A'->aI}
  (hm:P.follows .mixedOrders=true) (hT:eO P T=true) (hG:fM P (dP T) G) (hS:jJ P (dP T) S) (hf:P.funcs[f]?=some fn) (hb:B8 fn (MN ps acc (RR g m)) nt=true)
  (hrun:∀n ls,fc { T:=assoc T,G:=dM G,nt:=nt,M:=gj S,np:=(lz ps).length,mt:=true } live fn (.pX (lz ps)) n (jd ps ls)=run n (acc ls))
  (hok:∀ls a,AA (dP T).cells ps ls->acc ls=Im.im a->g a->∃n,run n (Im.im a)=ret (Im.im (m a))):fJ P (dP T) f (MN ps acc (RR g m)):=
 BU hm hT hG hS hf hb live fun ls q hl h=>by
  obtain ⟨v,hv,hq⟩:=map_some h
  obtain ⟨a,hg,e,hm⟩:=lp hv
  obtain ⟨n,hn⟩:=hok ls a hl e.symm hg
  exact ⟨n,(hrun n ls).trans (by rw [<-e];exact hn.trans (by rw [<-hq,<-hm];rfl))⟩
theorem gx (n:Nat):(Nat.beq n n&&true)=true:=by rw [Nat.beq_refl];rfl
end
def S0:(∀(α β:Type) (f:α->β) (l:List α),(l.map f).length=l.length)/\(∀n:Nat,Int.toNat (n:Int)=n)/\(∀s:aC,iR s=(kR s).map bk)/\(∀(xs:List Int) i,jG (xs.map bk) i=xs.getD i 0)/\
  (∀(xs:List Bool) i,C6 (xs.map yu) i=xs.getD i false)/\(∀(xs:List aC) i,qA (xs.map cK) i=xs.getD i ⟨#[]⟩)/\(∀(α:Type) (f:α->List L) (xs:List (List α)) i,qd (xs.map (eg f)) i=(xs.getD i []).map f):=
 ⟨fun _ _ _ _=>List.length_map ..,dw,xJ,fun _ _=>iw,fun _ _=>zU,fun _ _=>zx,fun _ _ _ _=>sx⟩
def MP:(∀(α β:Type) (f:α->β) (a b:List α),(a++b).map f=a.map f++b.map f)/\(∀(α β:Type) (f:α->β) (a:α) (b:List α),(a::b).map f=f a::b.map f)/\(∀(α β:Type) (f:α->β),[].map f=[])/\
  (∀(α:Type) (a:α) (b c:List α),(a::b)++c=a::(b++c))/\(∀(α:Type) (c:List α),[]++c=c)/\(∀n,bk n=[.int n])/\(∀n,yu n=[.bool n])/\(∀n,cK n=[.str n])/\(∀(α:Type) (f:α->List L) (c:List α),eg f c=[.sl (c.map f)])/\
  (∀(α β:Type) (f:α->β) (l:List α) (i:Nat) (a:α),(l.set i a).map f=(l.map f).set i (f a))/\(∀(α β:Type) (f:α->β) (l:List α) (i:Nat),(l.take i).map f=(l.map f).take i)/\(∀(α β:Type) (f:α->β) (l:List α) (i:Nat),(l.drop i).map f=(l.map f).drop i):=
 ⟨fun _ _ _ _ _=>List.map_append ..,fun _ _ _ _ _=>rfl,fun _ _ _=>rfl,fun _ _ _ _=>rfl,fun _ _=>rfl,fun _=>rfl,fun _=>rfl,fun _=>rfl,fun _ _ _=>rfl,fun _ _ _ _ _ _=>List.map_set ..,fun _ _ _ _ _=>List.map_take ..,fun _ _ _ _ _=>List.map_drop ..⟩
def LN:(∀(a:Nat) (l:List Nat),(a::l).sum=a+l.sum)/\(([]:List Nat).sum=0)/\(∀(α β:Type) (f:α->β) (a:α) (b:List α),(a::b).map f=f a::b.map f)/\(∀(α β:Type) (f:α->β),[].map f=[])/\(∀s,(kR s).length=s.size)/\(∀s,(iR s).length=s.size)/\
  (∀(α:Type) (a b:List α),(a++b).length=a.length+b.length)/\(∀(α:Type) (a:α) (b:List α),(a::b).length=b.length+1)/\(∀(α:Type),([]:List α).length=0)/\(∀(α β:Type) (f:α->β) (l:List α),(l.map f).length=l.length)/\
  (∀(α:Type) (l:List α) (i:Nat) (a:α),(l.set i a).length=l.length)/\(∀(α:Type) (n:Nat) (a:α),(List.replicate n a).length=n)/\(∀(α:Type) (l:List α) (i:Nat),(l.take i).length=min i l.length)/\(∀(α:Type) (l:List α) (i:Nat),(l.drop i).length=l.length - i):=
 ⟨fun _ _=>List.sum_cons,rfl,fun _ _ _ _ _=>rfl,fun _ _ _=>rfl,ir,sM,fun _ _ _=>List.length_append ..,fun _ _ _=>rfl,fun _=>rfl,fun _ _ _ _=>List.length_map ..,fun _ _ _ _=>List.length_set ..,fun _ _ _=>List.length_replicate ..,fun _ _ _=>List.length_take ..,fun _ _ _=>List.length_drop ..⟩
def DC:(∀(α:Type) [BEq α] [LawfulBEq α] (a b:α),((a != b)=false)=(a=b))/\(∀(α:Type) [BEq α] [LawfulBEq α] (a b:α),((a != b)=true)=¬(a=b))/\(∀(α:Type) [BEq α] [LawfulBEq α] (a b:α),((a==b)=true)=(a=b))/\(∀(α:Type) [BEq α] [LawfulBEq α] (a b:α),((a==b)=false)=¬(a=b))/\
  (∀b:Bool,((!b)=true)=(b=false))/\(∀b:Bool,((!b)=false)=(b=true))/\(∀(p:Prop) [Decidable p],(decide p=true)=p)/\(∀(p:Prop) [Decidable p],(decide p=false)=¬p):=
 ⟨fun _ _ _ _ _=>by simp,fun _ _ _ _ _=>by simp,fun _ _ _ _ _=>by simp,fun _ _ _ _ _=>by simp,fun b=>by simp,fun b=>by simp,fun p _=>by simp,fun p _=>by simp⟩
def Cu {b c:Bool}:(cond b false c)=(!b&&c):=by cases b<;>rfl
def wi (n:Int)(h:-9223372036854775808<=n/\n<=9223372036854775807):IntKind.i64.wrap n=n:=Go.IntWalk.i64_in n h
def mH {α S β:Type}{f g:Nat->α->S->S⊕β}{t u:S->β}:∀{xs:List α} {i:Nat} {s:S},(∀i,∀x∈xs,∀s,f i x s=g i x s)->(∀s,t s=u s)->dV f t i xs s=dV g u i xs s
 | [],_,s,_,h0=>h0 s
 | x::xs,i,s,h,h0=>by
  unfold dV
  rw [h i x (by simp) s]
  cases g i x s with
  | inl s'=>exact mH (fun i y hy=>h i y (by simp [hy])) h0
  | inr b=>rfl
end Go.DM
namespace Go.DM
def fo (n:Int):Prop:=-9223372036854775808<=n/\n<=9223372036854775807
def cj (n:Int):fo (IntKind.i64.wrap n):=by rw [IntKind.wrap_i64];unfold fo;omega
end Go.DM
namespace Go.DM
def kI {α β:Type}(f:α->Int->Int×β):List α->Int->Int×List β
 | [],k=>(k,[])
 | x::xs,k=>((kI f xs (f x k).1).1,(f x k).2::(kI f xs (f x k).1).2)
def mQ {α β:Type}{f:α->Int->Int×β}{I:Int->Prop}(h:∀x k,I k->I (f x k).1):∀{xs:List α} {k:Int},I k->I (kI f xs k).1
 | [],_,hk=>hk
 | x::xs,k,hk=>mQ h (xs:=xs) (h x k hk)
def sS {α:Type}{c:List α}{i:Nat}{y:α}:(c.set i y).drop (i+1)=c.drop (i+1):=by
 apply List.ext_getElem?
 intro j
 rw [List.getElem?_drop,List.getElem?_drop,List.getElem?_set,if_neg (by omega)]
def iO {Pt α:Type}{step:(Pt->aI)->Pt->aI}{pt:Nat->Int->List α->Pt}{el:α->Int->Int×α}{out:Int×List α->aI}{xs:List α}(z:α)(I:Int->Prop)(hI:∀x k,I k->I (el x k).1)
  (h1:∀(J:Pt->aI) (i:Nat) (k:Int) (c:List α),i<c.length->c.length=xs.length->I k->step J (pt i k c)=J (pt (i+1) (el (c.getD i z) k).1 (c.set i (el (c.getD i z) k).2)))
  (h0:∀(J:Pt->aI) (k:Int) (c:List α),c.length=xs.length->step J (pt c.length k c)=out (k,c)) {k:Int} (hk:I k):∃m,iter step m (pt 0 k xs)=out (kI el xs k):=by
 have key:∀(n i:Nat) (c:List α) (k:Int),i+n=c.length->c.length=xs.length->I k->∃m,iter step m (pt i k c)=out ((kI el (c.drop i) k).1,c.take i++(kI el (c.drop i) k).2):=by
  intro n
  induction n with
  | zero=>
   intro i c k hi hc hk
   have :i=c.length:=by omega
   subst this
   refine ⟨1,(h0 _ k c hc).trans ?_⟩
   rw [List.drop_eq_nil_of_le (Nat.le_refl _),List.take_of_length_le (Nat.le_refl _)]
   simp [kI]
  | succ n ih=>
   intro i c k hi hc hk
   have hlt:i<c.length:=by omega
   obtain ⟨m,hm⟩:=ih (i+1) (c.set i (el (c.getD i z) k).2) (el (c.getD i z) k).1 (by simp;omega) (by simp [hc]) (hI _ _ hk)
   refine ⟨m+1,(h1 _ i k c hlt hc hk).trans (hm.trans ?_)⟩
   rw [sS,take_set hlt,List.drop_eq_getElem_cons hlt,eV hlt]
   simp [kI]
 have:=key xs.length 0 xs k (by omega) rfl hk
 simpa using this
def jQ {α:Type}(f:α->Int->Option Int):List α->Int->Int
 | [],k=>k
 | x::xs,k=>match f x k with
  | some k'=>jQ f xs k'
  | none=>-1
def Ak:Option Int->(Int->aI)->aI
 | none,_=>ret (-1:Int)
 | some k,K=>K k
def bL {c:Bool}{x y:aI}{r:Option Int}{K:Int->aI}(h1:x=ret (-1:Int))(h2:y=Ak r K):(cond c x y)=Ak (cond c none r) K:=by
 cases c
 ·exact h2
 ·exact h1
def jD {Pt α:Type}{step:(Pt->aI)->Pt->aI}{pt:Nat->Int->Pt}{f:α->Int->Option Int}{xs:List α}(z:α)(I:Int->Prop)(hI:∀x k k',I k->f x k=some k'->I k')
  (h1:∀(J:Pt->aI) (i:Nat) (k:Int),i<xs.length->I k->step J (pt i k)=Ak (f (xs.getD i z) k) (fun k'=>J (pt (i+1) k')))
  (h0:∀(J:Pt->aI) (k:Int),step J (pt xs.length k)=ret k) {k:Int} (hk:I k):∃m,iter step m (pt 0 k)=ret (jQ f xs k):=by
 have key:∀(n i:Nat) (k:Int),i+n=xs.length->I k->∃m,iter step m (pt i k)=ret (jQ f (xs.drop i) k):=by
  intro n
  induction n with
  | zero=>
   intro i k hi hk
   have :i=xs.length:=by omega
   subst this
   refine ⟨1,(h0 _ k).trans ?_⟩
   rw [List.drop_eq_nil_of_le (Nat.le_refl _)];rfl
  | succ n ih=>
   intro i k hi hk
   have hlt:i<xs.length:=by omega
   rw [List.drop_eq_getElem_cons hlt]
   have h:=fun J=>h1 J i k hlt hk
   rw [eV hlt] at h
   unfold jQ
   cases hf:f xs[i] k with
   | none=>refine ⟨1,(h _).trans ?_⟩;rw [hf];rfl
   | some k'=>
    obtain ⟨m,hm⟩:=ih (i+1) k' (by omega) (hI _ _ _ hk hf)
    refine ⟨m+1,(h _).trans ?_⟩
    rw [hf];exact hm
 have:=key xs.length 0 k (by omega) hk
 simpa using this
def bJ {c:Bool}{r:Option Int}{k:Int}(h:(cond c none r)=some k):r=some k:=by
 cases c
 ·exact h
 ·cases h
def qx:Option Int->Int
 | none=>-1
 | some k=>k
def gY {c:Bool}{x y:aI}{r:Option Int}(h1:x=ret (-1:Int))(h2:y=ret (qx r)):(cond c x y)=ret (qx (cond c none r)):=by
 cases c
 ·exact h2
 ·exact h1
def lK {α:Type}{f:α->Int->Option Int}{I:Int->Prop}(hI:∀x k k',I k->f x k=some k'->I k')(hn:I (-1)):∀{xs:List α} {k:Int},I k->I (jQ f xs k)
 | [],_,hk=>hk
 | x::xs,k,hk=>by
  unfold jQ
  cases hf:f x k with
  | none=>exact hn
  | some k'=>exact lK hI hn (hI _ _ _ hk hf)
def iX {α:Type}{el:α->Int->Int×α}{cnt:α->Nat}(h:∀x k,0<=k->k+(cnt x:Int)<=4611686018427387904->(el x k).1=k+cnt x) :
  ∀(xs:List α) (k:Int),0<=k->k+((xs.map cnt).sum:Int)<=4611686018427387904->(kI el xs k).1=k+(xs.map cnt).sum
 | [],k,_,_=>by simp [kI]
 | x::xs,k,h0,hb=>by
  simp only [List.map_cons,List.sum_cons,Int.natCast_add] at hb ⊢
  have e1:=h x k h0 (by omega)
  have e3:=iX h xs (k+cnt x) (by omega) (by omega)
  simp only [kI,e1]
  rw [e3];omega
def iP {α:Type}{el:α->Int->Int×α}{f:α->Int->Option Int}{cnt:α->Nat}(h:∀x k,0<=k->k+(cnt x:Int)<=4611686018427387904->(el x k).1=k+cnt x)
  (h2:∀x k,0<=k->k+(cnt x:Int)<=4611686018427387904->f (el x k).2 k=some (k+cnt x)) :
  ∀(xs:List α) (k:Int),0<=k->k+((xs.map cnt).sum:Int)<=4611686018427387904->jQ f (kI el xs k).2 k=k+(xs.map cnt).sum
 | [],k,_,_=>by simp [kI,jQ]
 | x::xs,k,h0,hb=>by
  simp only [List.map_cons,List.sum_cons,Int.natCast_add] at hb ⊢
  have e1:=h x k h0 (by omega)
  have e2:=h2 x k h0 (by omega)
  have e4:=iP h h2 xs (k+cnt x) (by omega) (by omega)
  simp only [kI,jQ,e1,e2]
  rw [e4];omega
def lV {α:Type}{cnt f:α->Nat}(h:∀x,cnt x<=60+60*f x):∀xs:List α,(xs.map cnt).sum<=60*eC f xs
 | []=>by simp
 | x::xs=>by
  have h1:=h x
  have h2:=lV h xs
  unfold eC at h2 ⊢
  simp only [List.map_cons,List.sum_cons,List.length_cons]
  omega
def oH {α:Type}{f:α->Nat}{xs:List α}{i:Nat}{z:α}(h:i<xs.length):f (xs.getD i z)<=eC f xs:=by
 rw [eV h]
 have:=uO (f:=f) (List.getElem_mem h)
 unfold eC
 omega
def kU {α:Type}{f:α->Nat}{xs:List α}{i:Nat}{z:α}(hz:f z=0):f (xs.getD i z)<=eC f xs:=by
 by_cases h:i<xs.length
 ·exact oH h
 ·rw [List.getD_eq_getElem?_getD,List.getElem?_eq_none (by omega)]
  show f z<=_
  omega
def uN {α:Type}{f:α->Nat}:∀(xs:List α) (i:Nat) (y:α),eC f (xs.set i y)<=eC f xs+(f y+1)
 | [],_,_=>by simp [eC]
 | x::xs,0,y=>by simp [eC];omega
 | x::xs,i+1,y=>by
  have:=uN (f:=f) xs i y
  simp [eC] at this ⊢
  omega
def sE {α:Type}{f:α->Nat}(xs:List α)(y:α):eC f (xs++[y])<=eC f xs+(f y+1):=by simp [eC];omega
def rS:∀xs:List Int,eC (fun _:Int=>0) xs=xs.length
 | []=>rfl
 | x::xs=>by
  have:=rS xs
  simp only [eC,List.length_cons,List.map_cons,List.sum_cons] at this ⊢
  omega
def bO.set {α:Type}{n:Nat}{p:α->Prop}{xs:List α}{i:Nat}{y:α}(h:bO n p xs)(g:p y):bO n p (xs.set i y):=
 ⟨by rw [List.length_set];exact h.1,fun x hx=>(List.mem_or_eq_of_mem_set hx).elim (h.2 x) fun e=>e ▸ g⟩
def bO.app {α:Type}{n a b:Nat}{p:α->Prop}{xs ys:List α}(h:bO a p xs)(g:bO b p ys)(hn:a+b<=n):bO n p (xs++ys):=
 ⟨by rw [List.length_append];have:=h.1;have:=g.1;omega,fun x hx=>(List.mem_append.1 hx).elim (h.2 x) (g.2 x)⟩
def bO.sZ {α:Type}{n:Nat}{p:α->Prop}{xs:List α}{i:Nat}{z:α}(h:bO n p xs)(hz:p z):p (xs.getD i z):=by
 by_cases hi:i<xs.length
 ·exact bO.getD h hi
 ·rw [List.getD_eq_getElem?_getD,List.getElem?_eq_none (by omega)];exact hz
def bO.one {α:Type}{p:α->Prop}{y:α}(h:p y):bO 1 p [y]:=⟨Nat.le_refl _,fun x hx=>by rw [List.mem_singleton.1 hx];exact h⟩
def ke:fo (-1):=⟨by decide,by decide⟩
def nu:fo 1:=⟨by decide,by decide⟩
def rJ {α S β γ:Type}{f:Nat->α->S->S⊕β}{t:S->β}{g:α->S->S⊕γ}{u:S->γ}{p:β->γ}(h:∀i x s,(f i x s).map id p=g x s)(h0:∀s,p (t s)=u s) :
  ∀(xs:List α) (i:Nat) (s:S),p (dV f t i xs s)=eo g u xs s
 | [],i,s=>h0 s
 | x::xs,i,s=>by
  have hx:=h i x s
  unfold dV eo
  rw [<-hx]
  cases f i x s with
  | inl s'=>exact rJ h h0 xs (i+1) s'
  | inr b=>rfl
def lm {n:Int}(h:n<=140737488355328:=by (try simp (disch:=omega) only [LN,wi,Bool.cond_decide]);first | omega | (simp;done) | (simp;omega)):eX n=true:=iJ h
def dt {p:Prop}{_:Decidable p}(h:p:=by (try simp (disch:=omega) only [LN,wi,Bool.cond_decide]);first | omega | (simp;done) | (simp;omega)):decide p=true:=decide_eq_true h
def df {p:Prop}{_:Decidable p}(h:¬p:=by (try simp (disch:=omega) only [LN,wi,Bool.cond_decide]);first | omega | (simp;done) | (simp;omega)):decide p=false:=decide_eq_false h
def om {p:Prop}(h:p:=by (try simp (disch:=omega) only [LN,wi,Bool.cond_decide]);first | omega | (simp;done) | (simp;omega)):p:=h
def ct {γ:Type}[RT γ]{o:Option γ}{b:γ}{k:γ->aI}{r:aI}(h:o=some b)(hk:k b=r):call o k=r:=aX b h hk
def cx {γ:Type}[RT γ]{o:Option γ}{b:γ}{k:Nat->γ->aI}{r:aI}(h:o=some b)(hk:∃n,k n b=r):∃n,call o (k n)=r:=fC b h hk
def cr {S β γ:Type}[RT γ]{K:S->aI}{out:β->aI}{Q:S->Prop}{o:Option γ}{b:γ}{k:γ->aI}{r:S⊕β}(h:o=some b)(hk:bq (k b) K out Q r):bq (DM.call o k) K out Q r:=bq.aX b h hk
def W1 {A A' Z Z':Type}[Im A A'][RT A'][Im Z Z'][RT Z']{P:Program}{T:List (Nat×TI)}{G:List (Nat×fY)}{f:FuncId}{fn:Func}{ps:List gN}{r:RP}{g:A->Prop}{m:A->Z}(nt:Nat)(F:A'->aI)(hm:P.follows .mixedOrders=true)(hT:eO P T=true)(ok:∀a0,g a0->F (Im.im a0)=ret (Im.im (m a0)))(hG:fM P (dP T) G)(hf:P.funcs[f]?=some fn)
  (hb:sY fn (CN ps r (RT.dec:List L->A') (RR g m)) nt=true:=by kernel_rfl) (hr:∀n ls,fc { T:=assoc T,G:=dM G,nt:=nt } (fun _=>[]) fn r n (dJ ps ls)=F (RT.dec ls:A'):=by intro _ _;kernel_rfl):Valid P (dP T) f (CN ps r (RT.dec:List L->A') (RR g m)):=
 VV (run:=fun _ x=>F x) hm hT hG hf hb hr fun _ a _ _ h=>⟨0,ok a h⟩
def L1 {A A' Z Z':Type}[Im A A'][RT A'][Im Z Z'][RT Z']{P:Program}{T:List (Nat×TI)}{G:List (Nat×fY)}{f:FuncId}{fn:Func}{ps:List gN}{r:RP}{g:A->Prop}{m:A->Z}{Pt:Type}(nt:Nat)(id:Pt->Nat)(vs:Pt->List V)(hs:Pt->List aW)(live:Nat->Live)(step:(Pt->aI)->Pt->aI)(start:(Pt->aI)->A'->aI)(hm:P.follows .mixedOrders=true)(hT:eO P T=true)(ok:∀a0,g a0->∃n,start (iter step n) (Im.im a0)=ret (Im.im (m a0)))(hG:fM P (dP T) G)(hf:P.funcs[f]?=some fn)
  (hb:sY fn (CN ps r (RT.dec:List L->A') (RR g m)) nt=true:=by kernel_rfl) (h1:∀(I:cR) (p:Pt),dF { T:=assoc T,G:=dM G,nt:=nt } live I (id p) (bP fn) (gp (live (id p)) (vs p) (hs p)) (cP { T:=assoc T,G:=dM G,nt:=nt } fn r)=step (fun q=>I (id q) (vs q) (hs q)) p:=by intro _ p;cases p<;>kernel_rfl)
  (h0:∀(I:cR) (ls:List L),fG { T:=assoc T,G:=dM G,nt:=nt } live I (bP fn) (dJ ps ls) (cP { T:=assoc T,G:=dM G,nt:=nt } fn r)=start (fun q=>I (id q) (vs q) (hs q)) (RT.dec ls:A'):=by intro _ _;kernel_rfl):Valid P (dP T) f (CN ps r (RT.dec:List L->A') (RR g m)):=
 VV (run:=fun n x=>start (iter step n) x) hm hT hG hf hb (fun n ls=>cO (start:=fun J=>start J (RT.dec ls:A')) h1 (fun I=>h0 I ls) n) fun _ a _ _ h=>ok a h
def W2 {A A' B B' Z Z':Type}[Im A A'][RT A'][Im B B'][RT B'][Im Z Z'][RT Z']{P:Program}{T:List (Nat×TI)}{G:List (Nat×fY)}{f:FuncId}{fn:Func}{ps:List gN}{r:RP}{g:A->B->Prop}{m:A->B->Z}(nt:Nat)(F:A'->B'->aI)(hm:P.follows .mixedOrders=true)(hT:eO P T=true)(ok:∀a0 a1,g a0 a1->F (Im.im a0) (Im.im a1)=ret (Im.im (m a0 a1)))(hG:fM P (dP T) G)(hf:P.funcs[f]?=some fn)
  (hb:sY fn (CN ps r (RT.dec:List L->A'×B') (RR (p2 g) (u2 m))) nt=true:=by kernel_rfl) (hr:∀n ls,fc { T:=assoc T,G:=dM G,nt:=nt } (fun _=>[]) fn r n (dJ ps ls)=F (RT.dec ls:A'×B').1 (RT.dec ls:A'×B').2:=by intro _ _;kernel_rfl):Valid P (dP T) f (CN ps r (RT.dec:List L->A'×B') (RR (p2 g) (u2 m))):=
 VV (run:=fun _ x=>F x.1 x.2) hm hT hG hf hb hr fun _ a _ _ h=>⟨0,ok a.1 a.2 h⟩
def L2 {A A' B B' Z Z':Type}[Im A A'][RT A'][Im B B'][RT B'][Im Z Z'][RT Z']{P:Program}{T:List (Nat×TI)}{G:List (Nat×fY)}{f:FuncId}{fn:Func}{ps:List gN}{r:RP}{g:A->B->Prop}{m:A->B->Z}{Pt:Type}(nt:Nat)(id:Pt->Nat)(vs:Pt->List V)(hs:Pt->List aW)(live:Nat->Live)(step:(Pt->aI)->Pt->aI)(start:(Pt->aI)->A'->B'->aI)(hm:P.follows .mixedOrders=true)(hT:eO P T=true)(ok:∀a0 a1,g a0 a1->∃n,start (iter step n) (Im.im a0) (Im.im a1)=ret (Im.im (m a0 a1)))(hG:fM P (dP T) G)(hf:P.funcs[f]?=some fn)
  (hb:sY fn (CN ps r (RT.dec:List L->A'×B') (RR (p2 g) (u2 m))) nt=true:=by kernel_rfl) (h1:∀(I:cR) (p:Pt),dF { T:=assoc T,G:=dM G,nt:=nt } live I (id p) (bP fn) (gp (live (id p)) (vs p) (hs p)) (cP { T:=assoc T,G:=dM G,nt:=nt } fn r)=step (fun q=>I (id q) (vs q) (hs q)) p:=by intro _ p;cases p<;>kernel_rfl)
  (h0:∀(I:cR) (ls:List L),fG { T:=assoc T,G:=dM G,nt:=nt } live I (bP fn) (dJ ps ls) (cP { T:=assoc T,G:=dM G,nt:=nt } fn r)=start (fun q=>I (id q) (vs q) (hs q)) (RT.dec ls:A'×B').1 (RT.dec ls:A'×B').2:=by intro _ _;kernel_rfl):Valid P (dP T) f (CN ps r (RT.dec:List L->A'×B') (RR (p2 g) (u2 m))):=
 VV (run:=fun n x=>start (iter step n) x.1 x.2) hm hT hG hf hb (fun n ls=>cO (start:=fun J=>start J (RT.dec ls:A'×B').1 (RT.dec ls:A'×B').2) h1 (fun I=>h0 I ls) n) fun _ a _ _ h=>ok a.1 a.2 h
def W3 {A A' B B' C C' Z Z':Type}[Im A A'][RT A'][Im B B'][RT B'][Im C C'][RT C'][Im Z Z'][RT Z']{P:Program}{T:List (Nat×TI)}{G:List (Nat×fY)}{f:FuncId}{fn:Func}{ps:List gN}{r:RP}{g:A->B->C->Prop}{m:A->B->C->Z}(nt:Nat)(F:A'->B'->C'->aI)(hm:P.follows .mixedOrders=true)(hT:eO P T=true)(ok:∀a0 a1 a2,g a0 a1 a2->F (Im.im a0) (Im.im a1) (Im.im a2)=ret (Im.im (m a0 a1 a2)))(hG:fM P (dP T) G)(hf:P.funcs[f]?=some fn)
  (hb:sY fn (CN ps r (RT.dec:List L->A'×B'×C') (RR (p3 g) (u3 m))) nt=true:=by kernel_rfl) (hr:∀n ls,fc { T:=assoc T,G:=dM G,nt:=nt } (fun _=>[]) fn r n (dJ ps ls)=F (RT.dec ls:A'×B'×C').1 (RT.dec ls:A'×B'×C').2.1 (RT.dec ls:A'×B'×C').2.2:=by intro _ _;kernel_rfl):Valid P (dP T) f (CN ps r (RT.dec:List L->A'×B'×C') (RR (p3 g) (u3 m))):=
 VV (run:=fun _ x=>F x.1 x.2.1 x.2.2) hm hT hG hf hb hr fun _ a _ _ h=>⟨0,ok a.1 a.2.1 a.2.2 h⟩
def L3 {A A' B B' C C' Z Z':Type}[Im A A'][RT A'][Im B B'][RT B'][Im C C'][RT C'][Im Z Z'][RT Z']{P:Program}{T:List (Nat×TI)}{G:List (Nat×fY)}{f:FuncId}{fn:Func}{ps:List gN}{r:RP}{g:A->B->C->Prop}{m:A->B->C->Z}{Pt:Type}(nt:Nat)(id:Pt->Nat)(vs:Pt->List V)(hs:Pt->List aW)(live:Nat->Live)(step:(Pt->aI)->Pt->aI)(start:(Pt->aI)->A'->B'->C'->aI)(hm:P.follows .mixedOrders=true)(hT:eO P T=true)(ok:∀a0 a1 a2,g a0 a1 a2->∃n,start (iter step n) (Im.im a0) (Im.im a1) (Im.im a2)=ret (Im.im (m a0 a1 a2)))(hG:fM P (dP T) G)(hf:P.funcs[f]?=some fn)
  (hb:sY fn (CN ps r (RT.dec:List L->A'×B'×C') (RR (p3 g) (u3 m))) nt=true:=by kernel_rfl) (h1:∀(I:cR) (p:Pt),dF { T:=assoc T,G:=dM G,nt:=nt } live I (id p) (bP fn) (gp (live (id p)) (vs p) (hs p)) (cP { T:=assoc T,G:=dM G,nt:=nt } fn r)=step (fun q=>I (id q) (vs q) (hs q)) p:=by intro _ p;cases p<;>kernel_rfl)
  (h0:∀(I:cR) (ls:List L),fG { T:=assoc T,G:=dM G,nt:=nt } live I (bP fn) (dJ ps ls) (cP { T:=assoc T,G:=dM G,nt:=nt } fn r)=start (fun q=>I (id q) (vs q) (hs q)) (RT.dec ls:A'×B'×C').1 (RT.dec ls:A'×B'×C').2.1 (RT.dec ls:A'×B'×C').2.2:=by intro _ _;kernel_rfl):Valid P (dP T) f (CN ps r (RT.dec:List L->A'×B'×C') (RR (p3 g) (u3 m))):=
 VV (run:=fun n x=>start (iter step n) x.1 x.2.1 x.2.2) hm hT hG hf hb (fun n ls=>cO (start:=fun J=>start J (RT.dec ls:A'×B'×C').1 (RT.dec ls:A'×B'×C').2.1 (RT.dec ls:A'×B'×C').2.2) h1 (fun I=>h0 I ls) n) fun _ a _ _ h=>ok a.1 a.2.1 a.2.2 h
def W4 {A A' B B' C C' D D' Z Z':Type}[Im A A'][RT A'][Im B B'][RT B'][Im C C'][RT C'][Im D D'][RT D'][Im Z Z'][RT Z']{P:Program}{T:List (Nat×TI)}{G:List (Nat×fY)}{f:FuncId}{fn:Func}{ps:List gN}{r:RP}{g:A->B->C->D->Prop}{m:A->B->C->D->Z}(nt:Nat)(F:A'->B'->C'->D'->aI)(hm:P.follows .mixedOrders=true)(hT:eO P T=true)(ok:∀a0 a1 a2 a3,g a0 a1 a2 a3->F (Im.im a0) (Im.im a1) (Im.im a2) (Im.im a3)=ret (Im.im (m a0 a1 a2 a3)))(hG:fM P (dP T) G)(hf:P.funcs[f]?=some fn)
  (hb:sY fn (CN ps r (RT.dec:List L->A'×B'×C'×D') (RR (p4 g) (u4 m))) nt=true:=by kernel_rfl) (hr:∀n ls,fc { T:=assoc T,G:=dM G,nt:=nt } (fun _=>[]) fn r n (dJ ps ls)=F (RT.dec ls:A'×B'×C'×D').1 (RT.dec ls:A'×B'×C'×D').2.1 (RT.dec ls:A'×B'×C'×D').2.2.1 (RT.dec ls:A'×B'×C'×D').2.2.2:=by intro _ _;kernel_rfl):Valid P (dP T) f (CN ps r (RT.dec:List L->A'×B'×C'×D') (RR (p4 g) (u4 m))):=
 VV (run:=fun _ x=>F x.1 x.2.1 x.2.2.1 x.2.2.2) hm hT hG hf hb hr fun _ a _ _ h=>⟨0,ok a.1 a.2.1 a.2.2.1 a.2.2.2 h⟩
def L4 {A A' B B' C C' D D' Z Z':Type}[Im A A'][RT A'][Im B B'][RT B'][Im C C'][RT C'][Im D D'][RT D'][Im Z Z'][RT Z']{P:Program}{T:List (Nat×TI)}{G:List (Nat×fY)}{f:FuncId}{fn:Func}{ps:List gN}{r:RP}{g:A->B->C->D->Prop}{m:A->B->C->D->Z}{Pt:Type}(nt:Nat)(id:Pt->Nat)(vs:Pt->List V)(hs:Pt->List aW)(live:Nat->Live)(step:(Pt->aI)->Pt->aI)(start:(Pt->aI)->A'->B'->C'->D'->aI)(hm:P.follows .mixedOrders=true)(hT:eO P T=true)(ok:∀a0 a1 a2 a3,g a0 a1 a2 a3->∃n,start (iter step n) (Im.im a0) (Im.im a1) (Im.im a2) (Im.im a3)=ret (Im.im (m a0 a1 a2 a3)))(hG:fM P (dP T) G)(hf:P.funcs[f]?=some fn)
  (hb:sY fn (CN ps r (RT.dec:List L->A'×B'×C'×D') (RR (p4 g) (u4 m))) nt=true:=by kernel_rfl) (h1:∀(I:cR) (p:Pt),dF { T:=assoc T,G:=dM G,nt:=nt } live I (id p) (bP fn) (gp (live (id p)) (vs p) (hs p)) (cP { T:=assoc T,G:=dM G,nt:=nt } fn r)=step (fun q=>I (id q) (vs q) (hs q)) p:=by intro _ p;cases p<;>kernel_rfl)
  (h0:∀(I:cR) (ls:List L),fG { T:=assoc T,G:=dM G,nt:=nt } live I (bP fn) (dJ ps ls) (cP { T:=assoc T,G:=dM G,nt:=nt } fn r)=start (fun q=>I (id q) (vs q) (hs q)) (RT.dec ls:A'×B'×C'×D').1 (RT.dec ls:A'×B'×C'×D').2.1 (RT.dec ls:A'×B'×C'×D').2.2.1 (RT.dec ls:A'×B'×C'×D').2.2.2:=by intro _ _;kernel_rfl):Valid P (dP T) f (CN ps r (RT.dec:List L->A'×B'×C'×D') (RR (p4 g) (u4 m))):=
 VV (run:=fun n x=>start (iter step n) x.1 x.2.1 x.2.2.1 x.2.2.2) hm hT hG hf hb (fun n ls=>cO (start:=fun J=>start J (RT.dec ls:A'×B'×C'×D').1 (RT.dec ls:A'×B'×C'×D').2.1 (RT.dec ls:A'×B'×C'×D').2.2.1 (RT.dec ls:A'×B'×C'×D').2.2.2) h1 (fun I=>h0 I ls) n) fun _ a _ _ h=>ok a.1 a.2.1 a.2.2.1 a.2.2.2 h
def W5 {A A' B B' C C' D D' X X' Z Z':Type}[Im A A'][RT A'][Im B B'][RT B'][Im C C'][RT C'][Im D D'][RT D'][Im X X'][RT X'][Im Z Z'][RT Z']{P:Program}{T:List (Nat×TI)}{G:List (Nat×fY)}{f:FuncId}{fn:Func}{ps:List gN}{r:RP}{g:A->B->C->D->X->Prop}{m:A->B->C->D->X->Z}(nt:Nat)(F:A'->B'->C'->D'->X'->aI)(hm:P.follows .mixedOrders=true)(hT:eO P T=true)(ok:∀a0 a1 a2 a3 a4,g a0 a1 a2 a3 a4->F (Im.im a0) (Im.im a1) (Im.im a2) (Im.im a3) (Im.im a4)=ret (Im.im (m a0 a1 a2 a3 a4)))(hG:fM P (dP T) G)(hf:P.funcs[f]?=some fn)
  (hb:sY fn (CN ps r (RT.dec:List L->A'×B'×C'×D'×X') (RR (p5 g) (u5 m))) nt=true:=by kernel_rfl) (hr:∀n ls,fc { T:=assoc T,G:=dM G,nt:=nt } (fun _=>[]) fn r n (dJ ps ls)=F (RT.dec ls:A'×B'×C'×D'×X').1 (RT.dec ls:A'×B'×C'×D'×X').2.1 (RT.dec ls:A'×B'×C'×D'×X').2.2.1 (RT.dec ls:A'×B'×C'×D'×X').2.2.2.1 (RT.dec ls:A'×B'×C'×D'×X').2.2.2.2:=by intro _ _;kernel_rfl):Valid P (dP T) f (CN ps r (RT.dec:List L->A'×B'×C'×D'×X') (RR (p5 g) (u5 m))):=
 VV (run:=fun _ x=>F x.1 x.2.1 x.2.2.1 x.2.2.2.1 x.2.2.2.2) hm hT hG hf hb hr fun _ a _ _ h=>⟨0,ok a.1 a.2.1 a.2.2.1 a.2.2.2.1 a.2.2.2.2 h⟩
def L5 {A A' B B' C C' D D' X X' Z Z':Type}[Im A A'][RT A'][Im B B'][RT B'][Im C C'][RT C'][Im D D'][RT D'][Im X X'][RT X'][Im Z Z'][RT Z']{P:Program}{T:List (Nat×TI)}{G:List (Nat×fY)}{f:FuncId}{fn:Func}{ps:List gN}{r:RP}{g:A->B->C->D->X->Prop}{m:A->B->C->D->X->Z}{Pt:Type}(nt:Nat)(id:Pt->Nat)(vs:Pt->List V)(hs:Pt->List aW)(live:Nat->Live)(step:(Pt->aI)->Pt->aI)(start:(Pt->aI)->A'->B'->C'->D'->X'->aI)(hm:P.follows .mixedOrders=true)(hT:eO P T=true)(ok:∀a0 a1 a2 a3 a4,g a0 a1 a2 a3 a4->∃n,start (iter step n) (Im.im a0) (Im.im a1) (Im.im a2) (Im.im a3) (Im.im a4)=ret (Im.im (m a0 a1 a2 a3 a4)))(hG:fM P (dP T) G)(hf:P.funcs[f]?=some fn)
  (hb:sY fn (CN ps r (RT.dec:List L->A'×B'×C'×D'×X') (RR (p5 g) (u5 m))) nt=true:=by kernel_rfl) (h1:∀(I:cR) (p:Pt),dF { T:=assoc T,G:=dM G,nt:=nt } live I (id p) (bP fn) (gp (live (id p)) (vs p) (hs p)) (cP { T:=assoc T,G:=dM G,nt:=nt } fn r)=step (fun q=>I (id q) (vs q) (hs q)) p:=by intro _ p;cases p<;>kernel_rfl)
  (h0:∀(I:cR) (ls:List L),fG { T:=assoc T,G:=dM G,nt:=nt } live I (bP fn) (dJ ps ls) (cP { T:=assoc T,G:=dM G,nt:=nt } fn r)=start (fun q=>I (id q) (vs q) (hs q)) (RT.dec ls:A'×B'×C'×D'×X').1 (RT.dec ls:A'×B'×C'×D'×X').2.1 (RT.dec ls:A'×B'×C'×D'×X').2.2.1 (RT.dec ls:A'×B'×C'×D'×X').2.2.2.1 (RT.dec ls:A'×B'×C'×D'×X').2.2.2.2:=by intro _ _;kernel_rfl):Valid P (dP T) f (CN ps r (RT.dec:List L->A'×B'×C'×D'×X') (RR (p5 g) (u5 m))):=
 VV (run:=fun n x=>start (iter step n) x.1 x.2.1 x.2.2.1 x.2.2.2.1 x.2.2.2.2) hm hT hG hf hb (fun n ls=>cO (start:=fun J=>start J (RT.dec ls:A'×B'×C'×D'×X').1 (RT.dec ls:A'×B'×C'×D'×X').2.1 (RT.dec ls:A'×B'×C'×D'×X').2.2.1 (RT.dec ls:A'×B'×C'×D'×X').2.2.2.1 (RT.dec ls:A'×B'×C'×D'×X').2.2.2.2) h1 (fun I=>h0 I ls) n) fun _ a _ _ h=>ok a.1 a.2.1 a.2.2.1 a.2.2.2.1 a.2.2.2.2 h
def L6 {A A' B B' C C' D D' X X' Y Y' Z Z':Type}[Im A A'][RT A'][Im B B'][RT B'][Im C C'][RT C'][Im D D'][RT D'][Im X X'][RT X'][Im Y Y'][RT Y'][Im Z Z'][RT Z']{P:Program}{T:List (Nat×TI)}{G:List (Nat×fY)}{f:FuncId}{fn:Func}{ps:List gN}{r:RP}{g:A->B->C->D->X->Y->Prop}{m:A->B->C->D->X->Y->Z}{Pt:Type}(nt:Nat)(id:Pt->Nat)(vs:Pt->List V)(hs:Pt->List aW)(live:Nat->Live)(step:(Pt->aI)->Pt->aI)(start:(Pt->aI)->A'->B'->C'->D'->X'->Y'->aI)(hm:P.follows .mixedOrders=true)(hT:eO P T=true)(ok:∀a0 a1 a2 a3 a4 a5,g a0 a1 a2 a3 a4 a5->∃n,start (iter step n) (Im.im a0) (Im.im a1) (Im.im a2) (Im.im a3) (Im.im a4) (Im.im a5)=ret (Im.im (m a0 a1 a2 a3 a4 a5)))(hG:fM P (dP T) G)(hf:P.funcs[f]?=some fn)
  (hb:sY fn (CN ps r (RT.dec:List L->A'×B'×C'×D'×X'×Y') (RR (p6 g) (u6 m))) nt=true:=by kernel_rfl) (h1:∀(I:cR) (p:Pt),dF { T:=assoc T,G:=dM G,nt:=nt } live I (id p) (bP fn) (gp (live (id p)) (vs p) (hs p)) (cP { T:=assoc T,G:=dM G,nt:=nt } fn r)=step (fun q=>I (id q) (vs q) (hs q)) p:=by intro _ p;cases p<;>kernel_rfl)
  (h0:∀(I:cR) (ls:List L),fG { T:=assoc T,G:=dM G,nt:=nt } live I (bP fn) (dJ ps ls) (cP { T:=assoc T,G:=dM G,nt:=nt } fn r)=start (fun q=>I (id q) (vs q) (hs q)) (RT.dec ls:A'×B'×C'×D'×X'×Y').1 (RT.dec ls:A'×B'×C'×D'×X'×Y').2.1 (RT.dec ls:A'×B'×C'×D'×X'×Y').2.2.1 (RT.dec ls:A'×B'×C'×D'×X'×Y').2.2.2.1 (RT.dec ls:A'×B'×C'×D'×X'×Y').2.2.2.2.1 (RT.dec ls:A'×B'×C'×D'×X'×Y').2.2.2.2.2:=by intro _ _;kernel_rfl):Valid P (dP T) f (CN ps r (RT.dec:List L->A'×B'×C'×D'×X'×Y') (RR (p6 g) (u6 m))):=
 VV (run:=fun n x=>start (iter step n) x.1 x.2.1 x.2.2.1 x.2.2.2.1 x.2.2.2.2.1 x.2.2.2.2.2) hm hT hG hf hb (fun n ls=>cO (start:=fun J=>start J (RT.dec ls:A'×B'×C'×D'×X'×Y').1 (RT.dec ls:A'×B'×C'×D'×X'×Y').2.1 (RT.dec ls:A'×B'×C'×D'×X'×Y').2.2.1 (RT.dec ls:A'×B'×C'×D'×X'×Y').2.2.2.1 (RT.dec ls:A'×B'×C'×D'×X'×Y').2.2.2.2.1 (RT.dec ls:A'×B'×C'×D'×X'×Y').2.2.2.2.2) h1 (fun I=>h0 I ls) n) fun _ a _ _ h=>ok a.1 a.2.1 a.2.2.1 a.2.2.2.1 a.2.2.2.2.1 a.2.2.2.2.2 h
def oM {α:Type}{l:List α}{x:α}{i:Nat}(h:l.length<=i):(l++[x]).length<=i+1:=by rw [List.length_append];exact Nat.add_le_add_right h 1
def cg (c:Bool)(x:aI):aI:=bif c then x else none
def m2 (v n:Int)(x:aI):aI:=bif decide (0<=v) then (cond (decide (v<n)) x none) else none
def m3 (v n:Int)(x:aI):aI:=bif decide (0<=v) then (cond (decide (v<n)) (cond (Nat.beq (Int.toNat v) (Int.toNat v)&&true) x none) none) else none
def MM:(∀c x,cg c x=bif c then x else none)/\(∀v n x,m2 v n x=bif decide (0<=v) then (cond (decide (v<n)) x none) else none)/\(∀v n x,m3 v n x=bif decide (0<=v) then (cond (decide (v<n)) (cond (Nat.beq (Int.toNat v) (Int.toNat v)&&true) x none) none) else none):=⟨fun _ _=>rfl,fun _ _ _=>rfl,fun _ _ _=>rfl⟩
abbrev pI:gN:=.rd (.int .i64)
abbrev pS:gN:=.rd .str
abbrev pB:gN:=.rd .bool
abbrev pL (e:Nat):gN:=.rd (.sl e)
abbrev oI:RP:=.one (.rd (.int .i64))
abbrev oB:RP:=.one (.rd .bool)
abbrev oS:RP:=.one (.rd .str)
abbrev oL (e:Nat):RP:=.one (.fr e)
abbrev fI:Lf:=.rd (.int .i64)
abbrev fS:Lf:=.rd .str
abbrev fB:Lf:=.rd .bool
end Go.DM
set_option linter.unusedSectionVars false
namespace Go.DM
def tc (E:Env)(w:World)(B:dO)(Z0:Nat->Prop)(el:Nat)(p:RP)(r:List L)(e:Ending)(w':World):Prop:=
 ∃rv A',e=.returned rv/\Fr w w' (fun b=>∃j,B.N j b)/\A'.Z=Z0/\(∀i,A'.al i↔i<(p.R r.tail).length+1)/\
  Hp (np:=0) E.cells w ⟨fun b=>∃j,B.N j b,fun _=>Go.undef,[]⟩ A' (dX (fun _=>.dead) 0 (.row el (r.headD .hole).aS::p.R r.tail)) w'/\
  (∃g te,B.v 0=.pointer (some ⟨g,0,none⟩)/\w'.heap[g]?=some (.cells #[A'.v 0] te (0,0))/\∀i,¬A'.N i g)/\V2 E.cells w' A' (p.V r.tail 1) rv
def ot (P:Program)(E:Env)(g:FuncId)(c:pY):Prop:=
 lO P g/\c.res.pq=true/\c.res.view=false/\∀(ls r:List L) (w:World) (vs:List Value) (B:dO),c.sem ls=some r->
  Hp (np:=1) E.cells w ⟨fun b=>∃j,B.N j b,B.v,[]⟩ B (jf [.box [.own 1],.row c.e (ls.headD .hole).aS]) w->(∀q,2<=q->¬B.al q)->F2 (V2 E.cells w B) (mT c.args ls.tail) vs->
  Calls P g vs.toArray w (tc E w B B.Z c.e c.res r)
section
variable {P:Program} {E:Env} {w0 w w':World} {bN:List L}
theorem xK (hT:∀t i,E.T t=some i->gy P E t i){f:Func}{el:Nat}{p:RP}{B:dO}{Z0:Nat->Prop}(hf:p.pq=true)(hnp:0<E.np) :
  Fits E w0 ⟨fun b=>∃j,B.N j b,B.v,[]⟩ Z0 bN (cP E f (.sQ el p.parts)) (bodyPost P f (tc E w0 B Z0 el p bN)):=by
 intro e s a w h ⟨A,sm,hz⟩
 have key0:∀{A:dO} {s:St},gI E w0 (⟨fun b=>∃j,B.N j b,B.v,[]⟩:Mem E.np) A s a w->A.Z=Z0->(slotsOf E s f.results.toList fun vs=>match s.hp 0 with
   | .box [cell]=>bif cell.leaf then lJ false ((false,[.fr el])::p.parts) (upd s.hp 0 .dead) (cell::vs) fun ls _=>some ls else none
   | _=>none)=some bN->a.defers=[]/\∃v,(results f a.tmps).run P w=.ok v w/\tc E w0 B Z0 el p bN (.returned v) w:=by
  intro A s sm hz h
  refine ⟨sm.df,?_⟩
  have hh:=sm.hp
  obtain ⟨vs,xs,h1,h2,h3⟩:=gF hT sm h
  split at h1
  case h_2=>cases h1
  rename_i cell hr
  cases hl:cell.leaf<;>simp only [hl,aZ,bg] at h1
  ·cases h1
  obtain ⟨ls,hp',rs,g1,g2,g3,g4,g5,g6⟩:=mN h1
  injection g1 with g1
  subst g1
  have hroot:=hh.rt 0
  rw [hr] at hroot
  obtain ⟨al0,g,te,cur,v0,N0,hg,hc⟩:=hroot
  have hcur:∃y,cur=#[y]/\Vc E.cells w A cell y:=by
   obtain ⟨cl⟩:=cur
   cases hc with
   | cons h1 ht=>cases ht;exact ⟨_,rfl,h1⟩
  obtain ⟨y,rfl,hy⟩:=hcur
  obtain ⟨vals,e1,e2⟩:=g6 hh (Sub.one s.hp 0) (.cons (V0.v2 hy.1) h2)
  have hZ:yq false w A (A.out rs vals):=⟨fun h=>(nomatch h),fun b hb=>⟨hb.1,hb.2.1,fun i ⟨q,_,hn⟩=>hb.2.2 q hn⟩⟩
  obtain ⟨c1,c2⟩:=e2 rs vals 0 (fun i x h=>by simpa using h) (fun i x h=>by simpa using h) hZ
  have hR:kM ((false,[Lf.fr el])::p.parts) ls=.row el (ls.headD .hole).aS::p.R ls.tail:=by
   simp only [kM,iH,uW,List.append_nil,List.length_cons,List.length_nil,List.singleton_append,List.cons_append,List.nil_append,Nat.zero_add,List.drop_one]
   rw [pR]
  have hV:jT ((false,[Lf.fr el])::p.parts) ls 0=.own 0::jT p.parts ls.tail 1:=by
   simp only [jT,kG,xZ,iH,uW,mkVar,bg,List.headD_cons,List.append_nil,List.length_cons,List.length_nil,Nat.zero_add,List.drop_one]
  rw [hR] at g3 c2
  rw [hV] at c1
  cases c1 with
  | cons d1 d2=>
   have d1':V0 E.cells w (A.out rs vals) (.own 0) y:=d1
   have hpin:=hh.pn 0 hnp
   have h0rs:some 0∉rs:=fun hm=>g4.was 0 hm (bG _ _ _)
   refine ⟨_,kg h3,_,A.out rs vals,rfl,hh.fr,hz,fun i=>?_,⟨fun r b hb=>?_,fun r q b hb hb'=>?_,fun r hr=>?_,fun r=>?_,hh.fr,fun r b hb=>?_,hh.zf,fun j hj=>absurd hj (Nat.not_lt_zero j)⟩,⟨g,te,?_,?_,fun i hi=>?_⟩,xX hf d2⟩
   ·show i<rs.length↔_
    rw [g3];simp
   ·obtain ⟨q,_,hn⟩:=hb;exact hh.lt q b hn
   ·obtain ⟨p1,hp1,hn⟩:=hb
    obtain ⟨p2,hp2,hn'⟩:=hb'
    have:=hh.dj p1 p2 b hn hn'
    subst this
    exact g5 r q p1 hp1 hp2
   ·have hr':¬r<rs.length:=hr
    rw [eH _ _ _ _ (.inr (by rw [Nat.zero_add,<-g3];omega))]
   ·by_cases hr:r<rs.length
    ·have hlt:r<(aW.row el (ls.headD .hole).aS::p.R ls.tail).length:=by rw [<-g3];exact hr
     have ho:=List.getElem?_eq_getElem hlt
     have:=c2 r _ ho
     rw [Nat.zero_add] at this
     have ha:=fX _ (fun _=>.dead) 0 r _ ho
     rw [Nat.zero_add] at ha
     rw [ha];exact this
    ·rw [eH _ _ _ _ (.inr (by rw [Nat.zero_add,<-g3];omega))]
     rintro b ⟨q,hq,_⟩
     rw [List.getElem?_eq_none (by omega)] at hq;cases hq
   ·obtain ⟨q,_,hn⟩:=hb;exact hh.nm q b hn
   ·have hp2:A.v 0=B.v 0:=hpin.2
    rw [<-hp2];exact v0
   ·rw [hg,d1'.2.1]
   ·obtain ⟨q,hq,hn⟩:=hi
    have:=hh.dj q 0 g hn ((N0 g).2 rfl)
    subst this
    exact h0rs (List.mem_of_getElem? hq)
 have key:gW E (tD f.results.toList p.parts) s (fun s=>slotsOf E s f.results.toList fun vs=>match s.hp 0 with
   | .box [cell]=>bif cell.leaf then lJ false ((false,[.fr el])::p.parts) (upd s.hp 0 .dead) (cell::vs) fun ls _=>some ls else none
   | _=>none)=some bN->a.defers=[]/\∃v,(results f a.tmps).run P w=.ok v w/\tc E w0 B Z0 el p bN (.returned v) w:=by
  intro h
  obtain ⟨s',A',h1,h2,h3⟩:=sm.gW h
  exact key0 h2 (h3.trans hz) h1
 cases e with
 | exit j=>cases h
 | normal=>exact key h
 | ret=>exact key h
theorem nN:∀(ps:List lT) (ls:List L),(mT ps ls).length=ps.length
 | [],_=>rfl
 | p::ps,ls=>by simp [mT,nN ps]
theorem yF {E0:Env}{g:FuncId}{fn:Func}{c:Code}{aU:pY}(hT:∀t i,E.T t=some i->gy P E t i)(hG:∀g c,c∈E.G g->Valid P E g c)(hM:nQ P E)(hD:∀w0 M Z0 bN,ni P E w0 M Z0 bN)
  (he : E.T = E0.T) (hnp : E.np = 1) (hf : P.funcs[g]? = some fn) (hname : (fn.name == "runtime.NumGoroutine") = false) (hb : fn.body = some c) (hfine : aU.res.pq = true) (hview : aU.res.view = false) (hn : (cU c).Nodup)
  (hnt:aU.args.length+(fn.ntmps - aU.args.length)=E.nt) (live:Nat->Live) (h:∀ls r,aU.sem ls=some r->∃n,fc E live fn (.sQ aU.e aU.res.parts) n (tC aU.e aU.args ls)=some r):ot P E0 g aU:=by
 have hbody:bP fn=c:=by simp [bP,hb]
 have hc:E0.cells=E.cells:=by funext t;simp [Env.cells,he]
 refine ⟨⟨fn,hf,hname,by rw [hb];rfl⟩,hfine,hview,fun ls r w vs B hs hp hal hv=>?_⟩
 rw [hc] at hv hp
 obtain ⟨n,hrun⟩:=h ls r hs
 have hvl:vs.length=aU.args.length:=by rw [<-hv.length,nN]
 have key:=nV (live:=live) (P:=P) (w0:=w) (M:=⟨fun b=>∃j,B.N j b,B.v,[]⟩) (Z0:=B.Z) (Q:=bodyPost P fn (tc E w B B.Z aU.e aU.res r)) hT hG hM (hD _ _ _ _) (by rw [hbody];exact hn) (xK hT hfine (by rw [hnp];exact Nat.zero_lt_one)) hrun
  (a:={ tmps:=vs.toArray++Array.replicate (fn.ntmps - vs.toArray.size) undef,defers:=[] }) (w:=w) ⟨B,⟨⟨hp.lt,hp.dj,hp.al,hp.rt,hp.fr,hp.nm,hp.zf,fun j hj=>hp.pn j (hnp ▸ hj)⟩,fun i x hx=>?_,hal,rfl,?_,.nil⟩,rfl⟩
 ·rw [hbody] at key
  refine (calls_of_wp hf hb key).mono fun e w' hR=>?_
  unfold tc at hR ⊢
  rw [hc];exact hR
 ·show V2 E.cells w B (jr (mT aU.args ls.tail) i) x
  by_cases hi:i<vs.length
  ·have hx':vs[i]?=some x:=by simpa [Array.getElem?_append,hi] using hx
   have hl:=hv.length
   have hg:=List.getElem?_eq_getElem (show i<(mT aU.args ls.tail).length by omega)
   obtain ⟨y,hy,hr⟩:=hv.get hg
   rw [hx'] at hy;injection hy with hy;subst hy
   rw [oO hg];exact hr
  ·rw [kY (by rw [hv.length];omega)]
   have :x=undef:=by
    have h2:¬i<vs.toArray.size:=by simpa using hi
    rw [Array.getElem?_append,if_neg h2] at hx
    have:=(Array.getElem?_eq_some_iff.1 hx).2
    rw [<-this];simp
   exact this
 ·simp only [Array.size_append,List.size_toArray,Array.size_replicate];rw [hvl];exact hnt
end
def dO.gS (A:dO)(rs:List Nat):dO:={ v:=A.v,N:=fun p b=>p∉rs/\A.N p b,al:=A.al,Z:=fun b=>A.Z b/\∀p,p∈rs->¬A.N p b }
section
variable {T:Nat->List K} {w w' w0:World} {A A':dO} {rs:List Nat} {np:Nat} {M:Mem np} {hp:Nat->aW}
theorem qj {b:Nat}(h:eR w A b):eR w (A.gS rs) b:=⟨⟨h.1,fun p _=>h.2.2 p⟩,h.2.1,fun p hp=>h.2.2 p hp.2⟩
theorem mw {d : Option Nat} (hd : ∀ r, d = some r -> r ∉ rs) {b : Nat} (h : fN w A d b) : fN w (A.gS rs) d b := by
  cases d with
  | none => exact qj h
  | some r => rcases h with h | h
              · exact .inl ⟨hd r rfl, h⟩
              · exact .inr (qj h)
theorem nW {q:Nat}(h:kJ rs q=false):q∉rs:=fun hm=>by rw [iK.2 hm] at h;cases h
theorem V0.gS {v:V}{x:Value}(hv:V0 T w A v x):V0 T w (A.gS rs) (jL rs v) x:=by
 cases v with
 | sl d e xs=>
  cases d with
  | none=>exact ⟨(fun r hr=>nomatch hr),hv.2.mono fun b hb=>qj hb⟩
  | some q=>
   rw [wK]
   cases hq:kJ rs q with
   | true=>exact trivial
   | false=>exact ⟨hv.1,hv.2.mono fun b hb=>mw (fun r hr=>by injection hr with hr;subst hr;exact nW hq) hb⟩
 | dL d es cs o=>
  have go:∀d:Option Nat,(∀r,d=some r->r∉rs)->V0 T w A (.dL d es cs o) x->V0 T w (A.gS rs) (.dL d es cs o) x:=by
   intro d hd ⟨ha,b,q,v,h1,h2,h3⟩
   exact ⟨ha,b,q,v,h1,mw hd h2,fun j k hj=>⟨(h3 j k hj).1,(h3 j k hj).2.mono fun b hb=>mw hd hb⟩⟩
  cases d with
  | none=>exact go none (fun r hr=>nomatch hr) hv
  | some q=>
   rw [rN]
   cases hq:kJ rs q with
   | true=>exact trivial
   | false=>exact go (some q) (fun r hr=>by injection hr with hr;subst hr;exact nW hq) hv
 | gw q a b c d=>
  rw [tB]
  cases hq:kJ rs q with
  | true=>exact trivial
  | false=>
   obtain ⟨ha,g,n,c',h1,h2,h3,h4⟩:=hv
   exact ⟨ha,g,n,c',h1,h2,⟨nW hq,h3⟩,h4⟩
 | own q=>exact hv
 | lit q n e=>exact hv
 | cD q o=>exact hv
 | fR q sz i o=>exact hv
 | undef=>exact hv
 | dead=>exact hv
 | int=>exact hv
 | bool=>exact hv
 | str=>exact hv
 | nil=>exact hv
 | fn=>exact hv.elim
 | agg=>exact hv.elim
 | iL=>exact hv.elim
theorem sn {cs:List V}{xs:List Value}(hf:F2 (Vc T w A) cs xs):F2 (Vc T w (A.gS rs)) (cs.map (jL rs)) xs:=by
 induction hf with
 | nil=>exact .nil
 | cons h _ ih=>exact .cons ⟨h.1.gS,h.2⟩ ih
theorem V2.gS {v:V}{x:Value}(hv:V2 T w A v x):V2 T w (A.gS rs) (hJ rs v) x:=by
 cases v with
 | iL vs=>exact trivial
 | fn f cs=>
  obtain ⟨l,rfl,hl⟩:=(show V1 T w A (.fn f cs) x from hv)
  refine V1.v2 (v:=.fn f _) ⟨l,rfl,?_⟩
  clear hv
  induction hl with
  | nil=>exact .nil
  | cons hc _ ih=>exact .cons (V0.gS hc) ih
 | agg cs=>obtain ⟨l,rfl,hl⟩:=hv;exact V1.v2 (v:=.agg _) ⟨l,rfl,sn hl⟩
 | undef=>exact V0.v2 (V0.gS (v:=.undef) hv)
 | dead=>exact trivial
 | int k n=>exact V0.v2 (V0.gS (v:=.int k n) hv)
 | bool b=>exact V0.v2 (V0.gS (v:=.bool b) hv)
 | str s=>exact V0.v2 (V0.gS (v:=.str s) hv)
 | nil=>exact V0.v2 (V0.gS (v:=.nil) hv)
 | sl d e xs=>exact V0.v2 (V0.gS (v:=.sl d e xs) hv)
 | own q=>exact V0.v2 (V0.gS (v:=.own q) hv)
 | lit q n e=>exact V0.v2 (V0.gS (v:=.lit q n e) hv)
 | cD q o=>exact V0.v2 (V0.gS (v:=.cD q o) hv)
 | fR q sz i o=>exact V0.v2 (V0.gS (v:=.fR q sz i o) hv)
 | gw q a b c d=>exact V0.v2 (V0.gS (v:=.gw q a b c d) hv)
 | dL d es cs o=>exact V0.v2 (V0.gS (v:=.dL d es cs o) hv)
theorem pg {p:Nat}(h:p∈rs):kD rs hp p=.dead:=by simp [kD,iK.2 h]
theorem jE {p:Nat}(h:p∉rs):kD rs hp p=kV rs (hp p):=by
 unfold kD
 cases hq:kJ rs p with
 | true=>exact (h (iK.1 hq)).elim
 | false=>rfl
theorem eI.gS {p:Nat}(hr:p∉rs){o:aW}(h:eI T w A p o):eI T w (A.gS rs) p (kV rs o):=by
 cases o with
 | dead=>exact fun b hb=>h b hb.2
 | box cs=>
  obtain ⟨ha,g,te,cur,h1,h2,h3,h4⟩:=h
  exact ⟨ha,g,te,cur,h1,fun b=>⟨fun hb=>(h2 b).1 hb.2,fun hb=>⟨hr,(h2 b).2 hb⟩⟩,h3,sn h4⟩
 | row e xs=>exact ⟨h.1,h.2.mono fun b hb=>⟨hr,hb⟩⟩
 | qh e xs j cs=>exact ⟨h.1,h.2.1,h.2.2.mono fun b hb=>⟨hr,hb⟩⟩
 | wR e xs i o=>exact ⟨h.1,h.2.1,h.2.2.move (fun _ _=>rfl) fun b hb=>⟨hr,hb⟩⟩
theorem Hp.gS (hh:Hp T w0 M A hp w):Hp (np:=0) T w ⟨fun b=>∃p,(A.gS rs).N p b,fun _=>Go.undef,[]⟩ (A.gS rs) (kD rs hp) w:=by
 refine ⟨fun r b h=>hh.lt r b h.2,fun r q b h h'=>hh.dj r q b h.2 h'.2,fun r h=>?_,fun r=>?_,Fr.refl _ _,fun r b h=>.inl ⟨r,h⟩,fun b hb=>⟨hh.zf b (hb.elim (fun ⟨p,h⟩=>hh.nm p b h.2) fun h=>.inr (Nat.le_trans hh.fr.size h)),fun p hp hn=>hb.elim (fun ⟨q,h⟩=>h.1 (hh.dj p q b hn h.2 ▸ hp)) fun h=>by have:=hh.lt p b hn;omega⟩,fun j hj=>absurd hj (Nat.not_lt_zero j)⟩
 ·by_cases hr:r∈rs
  ·exact pg hr
  ·rw [jE hr,hh.al r h];rfl
 ·by_cases hr:r∈rs
  ·rw [pg hr];exact fun b hb=>hb.1 hr
  ·rw [jE hr];exact (hh.rt r).gS hr
theorem V0.up (hal:∀r,¬A.al r)(hz:∀b,eR w A b->eR w A' b){v:V}{x:Value}(hv:V0 T w A v x):V0 T w A' v x:=by
 cases v with
 | sl d e xs=>
  cases d with
  | none=>exact ⟨(fun r hr=>nomatch hr),hv.2.mono hz⟩
  | some r=>exact (hal r (hv.1 r rfl)).elim
 | dL d es cs o=>
  cases d with
  | none=>
   obtain ⟨ha,b,q,v,h1,h2,h3⟩:=hv
   exact ⟨(fun r hr=>nomatch hr),b,q,v,h1,hz b h2,fun j k hj=>⟨(h3 j k hj).1,(h3 j k hj).2.mono hz⟩⟩
  | some r=>exact (hal r (hv.1 r rfl)).elim
 | own q=>exact (hal q hv.1).elim
 | lit q n e=>exact (hal q hv.1).elim
 | cD q o=>exact (hal q hv.1).elim
 | fR q sz i o=>exact (hal q hv.1).elim
 | gw q a b c d=>exact (hal q hv.1).elim
 | undef=>exact hv
 | dead=>exact hv
 | int=>exact hv
 | bool=>exact hv
 | str=>exact hv
 | nil=>exact hv
 | fn=>exact hv.elim
 | agg=>exact hv.elim
 | iL=>exact hv.elim
theorem V1.up (hal:∀r,¬A.al r)(hz:∀b,eR w A b->eR w A' b){v:V}{x:Value}(hv:V1 T w A v x):V1 T w A' v x:=by
 cases v with
 | agg cs=>obtain ⟨l,h1,h2⟩:=hv;exact ⟨l,h1,h2.mono fun v x h=>⟨h.1.up hal hz,h.2⟩⟩
 | fn f cs=>obtain ⟨l,h1,h2⟩:=hv;exact ⟨l,h1,h2.mono fun v x h=>h.up hal hz⟩
 | iL=>exact (show False from hv).elim
 | undef=>exact V0.v1 (V0.up (v:=.undef) hal hz hv)
 | dead=>exact trivial
 | int k n=>exact V0.v1 (V0.up (v:=.int k n) hal hz hv)
 | bool b=>exact V0.v1 (V0.up (v:=.bool b) hal hz hv)
 | str s=>exact V0.v1 (V0.up (v:=.str s) hal hz hv)
 | nil=>exact V0.v1 (V0.up (v:=.nil) hal hz hv)
 | sl d e xs=>exact V0.v1 (V0.up (v:=.sl d e xs) hal hz hv)
 | own q=>exact V0.v1 (V0.up (v:=.own q) hal hz hv)
 | lit q n e=>exact V0.v1 (V0.up (v:=.lit q n e) hal hz hv)
 | cD q o=>exact V0.v1 (V0.up (v:=.cD q o) hal hz hv)
 | fR q sz i o=>exact V0.v1 (V0.up (v:=.fR q sz i o) hal hz hv)
 | gw q a b c d=>exact V0.v1 (V0.up (v:=.gw q a b c d) hal hz hv)
 | dL d es cs o=>exact V0.v1 (V0.up (v:=.dL d es cs o) hal hz hv)
theorem V2.up (hal:∀r,¬A.al r)(hz:∀b,eR w A b->eR w A' b){v:V}{x:Value}(hv:V2 T w A v x):V2 T w A' v x:=by
 by_cases ht:∃vs,v=.iL vs
 ·obtain ⟨vs,rfl⟩:=ht
  obtain ⟨l,h1,h2⟩:=hv;exact ⟨l,h1,h2.mono fun v x h=>h.up hal hz⟩
 ·have h1:∀{A:dO},V2 T w A v x↔V1 T w A v x:=by
   intro A
   cases v<;>first | exact Iff.rfl | exact (ht ⟨_,rfl⟩).elim
  exact h1.2 ((h1.1 hv).up hal hz)
end
section
variable {E:Env} {w0 w:World} {np:Nat} {M:Mem np} {A B:dO} {hp:Nat->aW} {bN:List L} {Z:Nat->Prop} {r:Nat}
theorem AZ (hh:Hp E.cells w0 M A hp w)(hm:∀b,mE w A b->Z b)(hz:∀b,eR w (A0 Z w) b->eR w B b)(hB:∀x,V0 E.cells w A (.cD r 0) x->V0 E.cells w B (.cD 0 0) x) :
  ∀{qs:List (Option (List K))} {vs:List V} {k:List L->aI},iA hp r qs vs k=some bN->
  ∃ls,k ls=some bN/\ls.length=vf qs/\∀{xs} (rest:List L),F2 (V0 E.cells w A) vs xs->F2 (V0 E.cells w B) (uE qs (ls++rest)) xs:=by
 intro qs
 induction qs with
 | nil=>
  intro vs k h
  cases vs with
  | nil=>exact ⟨[],h,rfl,fun {xs} rest hf=>by cases hf;exact .nil⟩
  | cons=>simp only [iA] at h;cases h
 | cons q qs ih=>
  intro vs k h
  cases vs with
  | nil=>cases q<;>(simp only [iA] at h;cases h)
  | cons v vs=>
   cases q with
   | none=>
    simp only [iA] at h
    split at h
    ·rename_i r' o
     cases hc:(Nat.beq r' r&&Nat.beq o 0)<;>simp only [hc,aZ,bg] at h
     ·cases h
     simp only [Bool.and_eq_true] at hc
     obtain rfl:=Nat.eq_of_beq_eq_true hc.1
     obtain rfl:=Nat.eq_of_beq_eq_true hc.2
     obtain ⟨b,h4,h5,h6⟩:=ih h
     refine ⟨b,h4,h5,fun {xs} rest hf=>?_⟩
     cases hf with
     | cons hv ht=>exact .cons (hB _ hv) (h6 rest ht)
    ·cases h
   | some q=>
    simp only [iA] at h
    obtain ⟨a,h1,h2,h3⟩:=zZ hh (.inl hm) h
    obtain ⟨b,h4,h5,h6⟩:=ih h1
    refine ⟨a++b,h4,by simp [h2,h5,vf],fun {xs} rest hf=>?_⟩
    cases hf with
    | cons hv ht=>
     refine .cons ?_ ?_
     ·rw [List.append_assoc];exact (h3 _ hv).up (fun _ h=>h) hz
     ·have :ay q.length (a++b++rest)=b++rest:=by rw [iG,<-h2,List.append_assoc,List.drop_left]
      rw [this]
      exact h6 rest ht
theorem BI (hh:Hp E.cells w0 M A hp w)(hm:∀b,mE w A b->Z b)(hz:∀b,eR w (A0 Z w) b->eR w B b)(hB:∀x,V0 E.cells w A (.cD r 0) x->V0 E.cells w B (.cD 0 0) x){p:lT}{v:V}{k:List L->aI}(h:lR E hp r p v k=some bN) :
  ∃ls,k ls=some bN/\ls.length=p.n/\∀{x} (rest:List L),V2 E.cells w A v x->V2 E.cells w B (Bq p (ls++rest)) x:=by
 cases p with
 | rd p=>
  obtain ⟨ls,h1,h2,h3⟩:=Bn hh (.inl hm) (show lU E hp p v k=some bN from h)
  exact ⟨ls,h1,h2,fun {x} rest hv=>(h3 rest hv).up (fun _ h=>h) hz⟩
 | box=>
  simp only [lR] at h
  split at h
  ·rename_i r' o
   cases hc:(Nat.beq r' r&&Nat.beq o 0)<;>simp only [hc,aZ,bg] at h
   ·cases h
   simp only [Bool.and_eq_true] at hc
   obtain rfl:=Nat.eq_of_beq_eq_true hc.1
   obtain rfl:=Nat.eq_of_beq_eq_true hc.2
   exact ⟨[],h,rfl,fun {x} rest hv=>V0.v2 (v:=.cD 0 0) (hB x hv)⟩
  ·cases h
 | fn f qs=>
  simp only [lR] at h
  split at h
  ·rename_i g cs
   cases hf:Nat.beq f g<;>simp only [hf,aZ,bg] at h
   ·cases h
   obtain rfl:=Nat.eq_of_beq_eq_true hf
   obtain ⟨ls,h1,h2,h3⟩:=AZ hh hm hz hB h
   refine ⟨ls,h1,h2,fun {x} rest hv=>?_⟩
   obtain ⟨l,rfl,hl⟩:=(show V1 E.cells w A (.fn f cs) x from hv)
   exact V1.v2 (v:=.fn f _) ⟨l,rfl,h3 rest hl⟩
  ·cases h
theorem A7 (hh:Hp E.cells w0 M A hp w)(hm:∀b,mE w A b->Z b)(hz:∀b,eR w (A0 Z w) b->eR w B b)(hB:∀x,V0 E.cells w A (.cD r 0) x->V0 E.cells w B (.cD 0 0) x) :
  ∀{ps:List lT} {vs:List V} {k:List L->aI},kE E hp r ps vs k=some bN->
  ∃ls,k ls=some bN/\∀{xs},F2 (V2 E.cells w A) vs xs->F2 (V2 E.cells w B) (mT ps ls) xs:=by
 intro ps
 induction ps with
 | nil=>
  intro vs k h
  cases vs with
  | nil=>exact ⟨[],h,fun {xs} hf=>by cases hf;exact .nil⟩
  | cons=>simp only [kE] at h;cases h
 | cons p ps ih=>
  intro vs k h
  cases vs with
  | nil=>simp only [kE] at h;cases h
  | cons v vs=>
   simp only [kE] at h
   obtain ⟨a,h1,h2,h3⟩:=BI hh hm hz hB h
   obtain ⟨b,h4,h5⟩:=ih h1
   refine ⟨a++b,h4,fun {xs} hf=>?_⟩
   cases hf with
   | cons hv ht=>
    refine .cons (h3 b hv) ?_
    have :ay p.n (a++b)=b:=by rw [iG,<-h2,List.drop_left]
    rw [this]
    exact h5 ht
end
def yT {T:Nat->List K}{w':World}{A A':dO}{nx n j:Nat}{rs:List aW}(hn:rs.length=n)(hal:∀i,A'.al i↔i<rs.length){p:RP}{ls:List L}{y:Value}(hok:p.ok=true)(hz:p.view=true->∀b,eR w' A' b->eR w' (A.join A' nx rs.length) b)
  (h:V2 T w' A' (p.V ls j) y):V2 T w' (A.join A' nx n) (p.V ls (nx+j)) y:=by
 subst hn
 cases p with
 | one l=>
  have hv0:∀{A':dO} {y:Value} {i:Nat},V2 T w' A' (xZ l (ls.headD .hole) i) y->V0 T w' A' (xZ l (ls.headD .hole) i) y:=by
   intro A' y i h
   cases l with
   | fr e=>exact h
   | rd k=>cases k<;>exact h
  exact V0.v2 (qX hal hz (hv0 h))
 | agg q=>
  obtain ⟨l,e1,e2⟩:=(show V1 T w' A' (.agg (kG q ls j)) y from h)
  exact V1.v2 (v:=.agg _) ⟨l,e1,oN hal hz e2⟩
 | iL ps=>
  obtain ⟨l,e1,e2⟩:=(show V2 T w' A' (.iL (jT ps ls j)) y from h)
  exact (show V2 T w' _ (.iL (jT ps ls (nx+j))) y from ⟨l,e1,sH hal (fun p hp hf=>by
   have:=List.all_eq_true.1 hok p hp
   simpa [hf] using this) hz e2⟩)
 | pX _=>cases hok
 | sQ _ _=>cases hok
section
variable {P:Program} {E:Env}
theorem oR {c:pY}{g:FuncId}(hO:ot P E g c){n:Nat}{w0:World}{M:Mem n}{A:dO}{s:St}{w:World}{vs:List V}{xs:List Value}{k:V->St->aI}{bN:List L}{r:Nat}{rs:List Nat}{row:aD}{cell:V}
  (h:mI E c r rs row vs s k=some bN) (hh:Hp E.cells w0 M A s.hp w) (hnx:∀r,s.nx<=r->¬A.al r) (hfr:F2 (V2 E.cells w A) s.fr M.sv) (hv:F2 (V2 E.cells w A) vs xs)
  (hr:s.hp r=.box [cell]) (hrs:r∈rs) (hal:∀p,p∈rs->A.al p)
  (hrow:∀y,Vc E.cells w A cell y->fT E.cells w (fun b=>∃p,p∈rs/\p≠r/\A.N p b) (.sl c.e) y (.sl row))
  (K:Value->World->Prop) (hK:∀v s' cv w' A',k v s'=some bN->Hp E.cells w0 M A' s'.hp w'->(∀r,s'.nx<=r->¬A'.al r)->F2 (V2 E.cells w' A') s'.fr M.sv->V2 E.cells w' A' v cv->A'.Z=A.Z->Bl A A' s.nx s'.nx->K cv w') :
  Calls P g xs.toArray w fun e w'=>∃cv,e=.returned cv/\K cv w':=by
 obtain ⟨hent,hfine,hview,hcall⟩:=hO
 unfold mI at h
 have hroot:=hh.rt r
 rw [hr] at hroot
 obtain ⟨alr,gb,te,cur,v0,N0,hg,hc⟩:=hroot
 have hcur:∃y,cur=#[y]/\Vc E.cells w A cell y:=by
  obtain ⟨cl⟩:=cur
  cases hc with
  | cons h1 ht=>cases ht;exact ⟨_,rfl,h1⟩
 obtain ⟨y,rfl,hy⟩:=hcur
 have hown:=hrow y hy
 obtain ⟨ya,yn,yc,hyv,_⟩:=hown.vO
 let F:Nat->Prop:=fun b=>∃p,p∈rs/\p≠r/\A.N p b
 let B:dO:={ v:=fun j=>match j with | 0=>A.v r | _=>y,N:=fun j b=>match j with | 0=>b=gb | 1=>F b | _=>False,al:=fun j=>j<2,Z:=fun b=>(mE w (A.gS rs) b∨w.heap.size<=b)∨∃p,p∈rs/\A.N p b }
 have hBN:∀b,(∃j,B.N j b)↔∃p,p∈rs/\A.N p b:=by
  intro b
  constructor
  ·rintro ⟨j,hj⟩
   match j,hj with
   | 0,hj=>exact ⟨r,hrs,(N0 b).2 hj⟩
   | 1,⟨p,hp,_,hn⟩=>exact ⟨p,hp,hn⟩
  ·rintro ⟨p,hp,hn⟩
   by_cases hpr:p=r
   ·subst hpr;exact ⟨0,(N0 b).1 hn⟩
   ·exact ⟨1,p,hp,hpr,hn⟩
 have hhid:∀b,mE w (A.gS rs) b->¬∃j,B.N j b:=by
  intro b hb hj
  obtain ⟨p,hp,hn⟩:=(hBN b).1 hj
  rcases hb with ⟨q,hq⟩ | hb
  ·have:=hh.dj q p b hq.2 hn
   subst this;exact hq.1 hp
  ·exact hb.1.2 p hp hn
 have hB:Hp (np:=1) E.cells w ⟨fun b=>∃j,B.N j b,B.v,[]⟩ B (jf [.box [.own 1],.row c.e row]) w:=by
  refine ⟨fun j b hb=>?_,fun j q b hb hb'=>?_,fun j hj=>?_,fun j=>?_,Fr.refl _ _,fun j b hb=>.inl ⟨j,hb⟩,fun b hb=>hb.elim (fun h=>.inr ((hBN b).1 h)) (fun h=>.inl (.inr h)),fun j hj=>⟨?_,rfl⟩⟩
  ·obtain ⟨p,_,hn⟩:=(hBN b).1 ⟨j,hb⟩
   exact hh.lt p b hn
  ·match j,q,hb,hb' with
   | 0,0,_,_=>rfl
   | 1,1,_,_=>rfl
   | 0,1,h1,⟨p,_,h2,h3⟩=>exact (h2 (hh.dj p r b h3 ((N0 b).2 h1))).elim
   | 1,0,⟨p,_,h2,h3⟩,h1=>exact (h2 (hh.dj p r b h3 ((N0 b).2 h1))).elim
  ·match j,hj with
   | 0,hj=>exact (hj (show 0<2 by omega)).elim
   | 1,hj=>exact (hj (show 1<2 by omega)).elim
   | j+2,_=>rfl
  ·match j with
   | 0=>
    refine ⟨show 0<2 by omega,gb,te,#[y],v0,fun b=>Iff.rfl,hg,.cons ⟨⟨show 1<2 by omega,rfl,ya,yn,yc,hyv⟩,hy.2⟩ .nil⟩
   | 1=>exact ⟨show 1<2 by omega,hown⟩
   | j+2=>exact fun b hb=>hb
  ·show j<2
   omega
 have hz:∀b,eR w (A0 (mE w (A.gS rs)) w) b->eR w B b:=by
  rintro b ⟨h1,h2,_⟩
  refine ⟨.inl h1,h2,fun j hj=>?_⟩
  rcases h1 with h1 | h1
  ·exact hhid b h1 ⟨j,hj⟩
  ·omega
 have hbp:∀x,V0 E.cells w (A.gS rs) (.cD r 0) x->V0 E.cells w B (.cD 0 0) x:=fun x ⟨_,g',h1,h2⟩=>⟨show 0<2 by omega,g',h1,h2⟩
 obtain ⟨ls,h3,h4⟩:=A7 (Hp.gS (rs:=rs) hh) (Z:=mE w (A.gS rs)) (fun b hb=>hb) hz hbp h
 have hargs:=h4 (hv.map' (f:=hJ rs) fun v x h=>h.gS)
 cases hs:c.sem (.sl row::ls) with
 | none=>rw [hs] at h3;cases h3
 | some out=>
  rw [hs] at h3
  simp only [Option.bind_some] at h3
  rw [ny] at h3
  refine (hcall (.sl row::ls) out w xs B hs hB (fun q hq h=>?_) hargs).mono fun e w' hpost=>?_
  ·have :q<2:=h
   omega
  obtain ⟨rv,A',rfl,hF,hZ',hal',hh',⟨g',te',p1,p2,p3⟩,hres⟩:=hpost
  have hgb:g'=gb:=by
   have :A.v r=.pointer (some ⟨g',0,none⟩):=p1
   rw [v0] at this;injection this with this;injection this with this;injection this with this;exact this.symm
  subst hgb
  refine ⟨rv,rfl,?_⟩
  let rows:List aW:=.row c.e (out.headD .hole).aS::c.res.R out.tail
  have hrl:rows.length=(c.res.R out.tail).length+1:=rfl
  let A1:dO:={ v:=A.v,N:=fun p b=>(p=r/\b=g')∨(p∉rs/\A.N p b),al:=A.al,Z:=A.Z }
  have hfresh:∀j b,A'.N j b->(∃p,p∈rs/\A.N p b)∨w.heap.size<=b:=fun j b h=>(hh'.nm j b h).imp (fun h=>(hBN b).1 h) id
  have hgN:A.N r g':=(N0 g').2 rfl
  have hgw:g'<w'.heap.size:=Nat.lt_of_lt_of_le (hh.lt r g' hgN) hF.size
  have hout:∀i,A.al i->¬(s.nx<=i/\i<s.nx+rows.length):=fun i ha h=>hnx i h.1 ha
  have hjN:∀i,¬(s.nx<=i/\i<s.nx+rows.length)->(A1.join A' s.nx rows.length).N i=A1.N i:=fun i hi=>if_neg hi
  have hjI:∀i,(s.nx<=i/\i<s.nx+rows.length)->(A1.join A' s.nx rows.length).N i=A'.N (i - s.nx):=fun i hi=>if_pos hi
  have st:Step A (A1.join A' s.nx rows.length) w w' (fun p=>p∈rs):=by
   refine ⟨rfl,fun i h=>.inl h,fun i h=>if_neg (hout i h),hF.size,fun b hb hn=>hF.block b hb fun hj=>?_,fun i h1 h2 b=>?_,fun i b h1 h2=>?_⟩
   ·obtain ⟨p,hp,hpn⟩:=(hBN b).1 hj
    exact hn p hp hpn
   ·rw [hjN i (hout i h1)]
    exact ⟨fun h=>h.elim (fun h=>absurd (h.1 ▸ hrs) h2) fun h=>h.2,fun h=>.inr ⟨h2,h⟩⟩
   ·by_cases hi:s.nx<=i/\i<s.nx+rows.length
    ·rw [hjI i hi] at h2
     exact hfresh _ _ h2
    ·rw [hjN i hi] at h2
     rcases h2 with ⟨rfl,rfl⟩ | ⟨h3,h4⟩
     ·exact .inl ⟨i,hrs,hgN⟩
     ·rcases h1 with h1 | h1
      ·exact absurd h1 h3
      ·exact (h1 (hh.xL h4)).elim
  have hHp:Hp E.cells w0 M (A1.join A' s.nx rows.length) (dX (upd (kD rs s.hp) r (.box [.own s.nx])) s.nx rows) w':=by
   have hlen:s.nx+rows.length=s.nx+rows.length:=rfl
   have hrn:¬(s.nx<=r/\r<s.nx+rows.length):=hout r alr
   refine ⟨fun i b hb=>?_,fun i q b hb hb'=>?_,fun i hi=>?_,fun i=>?_,hh.fr.trans hF fun b hb=>?_,fun i b hb=>?_,hh.zf,fun j hj=>⟨.inl (hh.pn j hj).1,(st.v j (hh.pn j hj).1).trans (hh.pn j hj).2⟩⟩
   ·by_cases hi:s.nx<=i/\i<s.nx+rows.length
    ·rw [hjI i hi] at hb;exact hh'.lt _ _ hb
    ·rw [hjN i hi] at hb
     rcases hb with ⟨_,rfl⟩ | ⟨_,hb⟩
     ·exact hgw
     ·exact Nat.lt_of_lt_of_le (hh.lt i b hb) hF.size
   ·have key:∀{j p:Nat},A'.N j b->A1.N p b->False:=by
     intro j p h1 h2
     rcases h2 with ⟨_,rfl⟩ | ⟨h3,h4⟩
     ·exact p3 j h1
     ·rcases hfresh j b h1 with ⟨q,hq,hqn⟩ | hsz
      ·rw [hh.dj p q b h4 hqn] at h3;exact h3 hq
      ·have:=hh.lt p b h4;omega
    by_cases hi:s.nx<=i/\i<s.nx+rows.length<;>by_cases hq:s.nx<=q/\q<s.nx+rows.length
    ·rw [hjI i hi] at hb;rw [hjI q hq] at hb'
     have:=hh'.dj _ _ _ hb hb'
     omega
    ·rw [hjI i hi] at hb;rw [hjN q hq] at hb';exact (key hb hb').elim
    ·rw [hjN i hi] at hb;rw [hjI q hq] at hb';exact (key hb' hb).elim
    ·rw [hjN i hi] at hb;rw [hjN q hq] at hb'
     rcases hb with ⟨rfl,rfl⟩ | ⟨h1,h2⟩<;>rcases hb' with ⟨k1,k2⟩ | ⟨k1,k2⟩
     ·exact k1.symm
     ·exact hh.dj _ _ _ hgN k2
     ·subst k2;subst k1;exact hh.dj _ _ _ h2 hgN
     ·exact hh.dj _ _ _ h2 k2
   ·have h1:¬A.al i:=fun h=>hi (.inl h)
    have h2:¬(s.nx<=i/\i<s.nx+rows.length):=fun h=>hi (.inr h)
    rw [eH _ _ _ _ (by omega),bA _ _ (by rintro rfl;exact h1 alr)]
    by_cases hm:i∈rs
    ·exact pg hm
    ·rw [jE hm,hh.al i h1];rfl
   ·by_cases hi:s.nx<=i/\i<s.nx+rows.length
    ·obtain ⟨o,ho⟩:∃o,rows[i - s.nx]?=some o:=⟨rows[i - s.nx]'(by omega),List.getElem?_eq_getElem (by omega)⟩
     have e1:=fX rows (upd (kD rs s.hp) r (.box [.own s.nx])) s.nx _ _ ho
     rw [show s.nx+(i - s.nx)=i by omega] at e1
     rw [e1]
     have hrowo:∃e xs,o=.row e xs:=by
      rcases List.mem_cons.1 (List.mem_of_getElem? ho) with rfl | hm
      ·exact ⟨_,_,rfl⟩
      ·exact RP.Bo hm
     obtain ⟨e,xs',rfl⟩:=hrowo
     have e2:=hh'.rt (i - s.nx)
     have e3:=fX rows (fun _=>.dead) 0 _ _ ho
     rw [Nat.zero_add] at e3
     rw [show (dX (fun _=>aW.dead) 0 (.row c.e (out.headD .hole).aS::c.res.R out.tail) (i - s.nx))=.row e xs' from e3] at e2
     refine ⟨.inr hi,?_⟩
     simp only [dO.join,if_pos hi]
     exact e2.2
    ·rw [eH _ _ _ _ (by omega)]
     by_cases hir:i=r
     ·subst hir
      rw [bG]
      have h0:s.nx<=s.nx/\s.nx<s.nx+rows.length:=⟨Nat.le_refl _,by rw [hrl];omega⟩
      have hv0':(A1.join A' s.nx rows.length).v s.nx=A'.v 0:=by simp only [dO.join,if_pos h0,Nat.sub_self]
      have hrt0:=hh'.rt 0
      have e3:=fX rows (fun _=>.dead) 0 0 (.row c.e (out.headD .hole).aS) rfl
      rw [show (dX (fun _=>aW.dead) 0 (.row c.e (out.headD .hole).aS::c.res.R out.tail) 0)=.row c.e (out.headD .hole).aS from e3] at hrt0
      obtain ⟨a1,n1,c1,q1,_⟩:=hrt0.2.vO
      refine ⟨.inl alr,g',te',#[A'.v 0],?_,fun b=>?_,p2,.cons ⟨⟨.inr h0,hv0'.symm,a1,n1,c1,q1⟩,hrt0.2.one⟩ .nil⟩
      ·rw [st.v i alr];exact v0
      ·rw [hjN i hi]
       exact ⟨fun h=>h.elim (fun h=>h.2) fun h=>absurd hrs h.1,fun h=>.inl ⟨rfl,h⟩⟩
     ·rw [bA _ _ hir]
      by_cases hm:i∈rs
      ·rw [pg hm]
       intro b hb
       rw [hjN i hi] at hb
       exact hb.elim (fun h=>hir h.1) fun h=>h.1 hm
      ·rw [jE hm]
       have ho:=hh.rt i
       cases hq:s.hp i with
       | dead=>
        intro b hb
        rw [hjN i hi] at hb
        rw [hq] at ho
        exact hb.elim (fun h=>hir h.1) fun h=>ho b h.2
       | box cs=>
        rw [hq] at ho
        obtain ⟨ha,g2,te2,cur2,h1,h2,h3,h4⟩:=ho
        refine ⟨.inl ha,g2,te2,cur2,by rw [st.v i ha];exact h1,fun b=>(st.N i ha hm b).trans (h2 b),?_,lM st hh h4⟩
        rw [(st.root hh hm ((h2 g2).2 rfl)).2];exact h3
       | row e xs'=>
        rw [hq] at ho
        refine ⟨.inl ho.1,?_⟩
        rw [st.v i ho.1]
        exact (ho.2.frame (w':=w') fun b hb=>(st.root hh hm hb).2).mono fun b hb=>(st.root hh hm hb).1
       | qh e xs' j cs=>
        rw [hq] at ho
        refine ⟨.inl ho.1,ho.2.1,?_⟩
        rw [st.v i ho.1]
        exact (ho.2.2.frame (w':=w') fun b hb=>(st.root hh hm hb).2).mono fun b hb=>(st.root hh hm hb).1
       | wR e xs' j p=>
        rw [hq] at ho
        refine ⟨.inl ho.1,ho.2.1,?_⟩
        rw [st.v i ho.1]
        exact ho.2.2.move (fun b hb=>(st.root hh hm hb).2) fun b hb=>(st.root hh hm hb).1
   ·obtain ⟨p,_,hn⟩:=(hBN b).1 hb
    exact hh.nm p b hn
   ·by_cases hi:s.nx<=i/\i<s.nx+rows.length
    ·rw [hjI i hi] at hb
     rcases hfresh _ _ hb with ⟨p,_,hn⟩ | h
     ·exact hh.nm p b hn
     ·exact .inr (Nat.le_trans hh.fr.size h)
    ·rw [hjN i hi] at hb
     rcases hb with ⟨_,rfl⟩ | ⟨_,hb⟩
     ·exact hh.nm r _ hgN
     ·exact hh.nm i b hb
  refine hK _ _ rv w' (A1.join A' s.nx rows.length) h3 hHp (fun i hi ha=>?_) (hfr.map' (f:=hJ rs) fun v x h=>h.kill st hh) ?_ rfl ⟨Nat.le_add_right _ _,fun i ha=>ha.imp id fun h=>h.1⟩
  ·have hi':s.nx+((c.res.R out.tail).length+1)<=i:=hi
   rcases ha with ha | ha
   ·exact hnx i (by omega) ha
   ·have:=ha.2;rw [hrl] at this;omega
  ·have hok:c.res.ok=true:=by simp only [RP.pq,Bool.and_eq_true] at hfine;exact hfine.1
   exact yT (rs:=rows) rfl (fun i=>by rw [hal' i,hrl]) hok (fun hv=>by rw [hview] at hv;cases hv) hres
theorem oC {bN:List L}{hp:Nat->aW}{r:Nat}:∀{qs:List (Option (List K))} {vs:List V} {k:List L->aI},iA hp r qs vs k=some bN->∃ls,k ls=some bN/\∀hp0,Sub hp hp0->∀k':List L->aI,iA hp0 r qs vs k'=k' ls
 | [],[],k,h=>⟨[],h,fun _ _ _=>rfl⟩
 | [],_::_,k,h=>by cases h
 | none::_,[],k,h=>by cases h
 | some _::_,[],k,h=>by cases h
 | none::qs,v::vs,k,h=>by
  cases v<;>first | (simp only [iA] at h;cases h;done) | skip
  simp only [iA] at h
  obtain ⟨b0,h0⟩:=ep h
  obtain ⟨b,h3,h4⟩:=oC h0
  exact ⟨_,h3,fun hp0 hs k'=>by simp only [iA,b0,aZ,h4 hp0 hs]⟩
 | some q::qs,v::vs,k,h=>by
  simp only [iA] at h
  obtain ⟨a,h1,h2⟩:=rH h
  obtain ⟨b,h3,h4⟩:=oC h1
  exact ⟨_,h3,fun hp0 hs k'=>by simp only [iA,h2 hp0 hs,h4 hp0 hs]⟩
theorem yR {bN:List L}{hp:Nat->aW}{r:Nat}{p:lT}{v:V}{k:List L->aI}(h:lR E hp r p v k=some bN):∃ls,k ls=some bN/\∀hp0,Sub hp hp0->∀k':List L->aI,lR E hp0 r p v k'=k' ls:=by
 cases p with
 | rd p=>
  obtain ⟨a,h1,h2⟩:=wD (show lU E hp p v k=some bN from h)
  exact ⟨a,h1,fun hp0 hs k'=>h2 hp0 hs k'⟩
 | box=>
  cases v<;>first | (simp only [lR] at h;cases h;done) | skip
  simp only [lR] at h
  obtain ⟨b0,h0⟩:=ep h
  exact ⟨_,h0,fun hp0 hs k'=>by simp only [lR,b0,aZ]⟩
 | fn f qs=>
  cases v<;>first | (simp only [lR] at h;cases h;done) | skip
  simp only [lR] at h
  obtain ⟨b0,h0⟩:=ep h
  obtain ⟨b,h3,h4⟩:=oC h0
  exact ⟨_,h3,fun hp0 hs k'=>by simp only [lR,b0,aZ,h4 hp0 hs]⟩
theorem ry {bN:List L}{hp:Nat->aW}{r:Nat}:∀{ps:List lT} {vs:List V} {k:List L->aI},kE E hp r ps vs k=some bN->∃ls,k ls=some bN/\∀hp0,Sub hp hp0->∀k':List L->aI,kE E hp0 r ps vs k'=k' ls
 | [],[],k,h=>⟨[],h,fun _ _ _=>rfl⟩
 | [],_::_,k,h=>by cases h
 | _::_,[],k,h=>by cases h
 | q::qs,v::vs,k,h=>by
  simp only [kE] at h
  obtain ⟨a,h1,h2⟩:=yR h
  obtain ⟨b,h3,h4⟩:=ry h1
  exact ⟨_,h3,fun hp0 hs k'=>by simp only [kE,h2 hp0 hs,h4 hp0 hs]⟩
theorem pU {bN:List L}{c:pY}{s:St}{vs:List V}{k:V->St->aI}{r:Nat}{rs:List Nat}{row:aD}(h:mI E c r rs row vs s k=some bN) :
  ∃v hp2 nx2,k v ⟨fun i=>hJ rs (s.sl i),hp2,nx2,s.fr.map (hJ rs)⟩=some bN/\
   ∀(R:Nat) (zs:List V),s.hp R=.dead->R<s.nx->R≠r->R∉rs->(∀z∈zs,∀rs,jL rs z=z)->∀sl' fr' (k':V->St->aI),
    mI E c r rs row vs ⟨sl',upd s.hp R (.box zs),s.nx,fr'⟩ k'=k' v ⟨fun i=>hJ rs (sl' i),upd hp2 R (.box zs),nx2,fr'.map (hJ rs)⟩:=by
 unfold mI at h
 obtain ⟨ls,h1,h2⟩:=ry h
 cases hr:c.sem (.sl row::ls) with
 | none=>rw [hr] at h1;cases h1
 | some out=>
  rw [hr] at h1
  simp only [Option.bind_some,ny] at h1
  refine ⟨_,_,_,h1,fun R zs hR hRn hRr hRs hz sl' fr' k'=>?_⟩
  have hhide:kD rs (upd s.hp R (.box zs))=upd (kD rs s.hp) R (.box zs):=by
   funext p
   by_cases hp:p=R
   ·subst hp
    rw [jE hRs,bG,bG]
    simp only [kV]
    rw [List.map_congr_left (g:=id) fun z hzm=>hz z hzm rs,List.map_id]
   ·rw [bA _ _ hp]
    unfold kD
    rw [bA _ _ hp]
  have hsub:Sub (kD rs s.hp) (kD rs (upd s.hp R (.box zs))):=fun p=>by
   rw [hhide]
   by_cases hp:p=R
   ·subst hp;refine .inr ?_;rw [jE hRs,hR];rfl
   ·rw [bA _ _ hp];exact .inl rfl
  unfold mI
  simp only [h2 _ hsub,hr,Option.bind_some,ny]
  congr 1
  rw [hhide]
  congr 1
  funext p
  have hcomm:∀(rts:List aW) (n:Nat) (hp:Nat->aW),R<n->dX (upd hp R (.box zs)) n rts=upd (dX hp n rts) R (.box zs):=by
   intro rts
   induction rts with
   | nil=>intro n hp _;rfl
   | cons x xs ih=>
    intro n hp hn
    simp only [dX]
    rw [<-ih (n+1) (upd hp n x) (by omega)]
    congr 1
    funext q
    by_cases h1:q=n
    ·subst h1;rw [bG,bA _ _ (by omega),bG]
    ·by_cases h2:q=R
     ·subst h2;rw [bA _ _ h1,bG,bG]
     ·rw [bA _ _ h1,bA _ _ h2,bA _ _ h2,bA _ _ h1]
  rw [<-hcomm _ _ _ hRn]
  congr 1
  funext q
  by_cases h1:q=r
  ·subst h1;rw [bG,bA _ _ (Ne.symm hRr),bG]
  ·by_cases h2:q=R
   ·subst h2;rw [bA _ _ h1,bG,bG]
   ·rw [bA _ _ h1,bA _ _ h2,bA _ _ h2,bA _ _ h1]
theorem xH {c:pY}:Ao (uI E c):=by
 intro vs s k bN h
 simp only [uI] at h
 split at h
 ·cases h
 rename_i r hroot
 split at h
 ·rename_i hr
  obtain ⟨v,hp2,nx2,h1,h2⟩:=pU h
  refine ⟨[r],v,hp2,nx2,h1,fun R zs hR hRn hz sl' fr' k'=>?_⟩
  have hne:R≠r:=by rintro rfl;rw [hr] at hR;cases hR
  simp only [uI,hroot,bA _ _ (Ne.symm hne),hr]
  exact h2 R zs hR hRn hne (by simpa using hne) hz sl' fr' k'
 ·rename_i q hr
  split at h
  ·rename_i e row hq
   obtain ⟨b0,h⟩:=ep h
   obtain ⟨v,hp2,nx2,h1,h2⟩:=pU h
   refine ⟨[r,q],v,hp2,nx2,h1,fun R zs hR hRn hz sl' fr' k'=>?_⟩
   have hne:R≠r:=by rintro rfl;rw [hr] at hR;cases hR
   have hne2:R≠q:=by rintro rfl;rw [hq] at hR;cases hR
   simp only [uI,hroot,bA _ _ (Ne.symm hne),hr,bA _ _ (Ne.symm hne2),hq,b0,aZ]
   exact h2 R zs hR hRn hne (by simp [hne,hne2]) hz sl' fr' k'
  ·cases h
 ·cases h
theorem rZ {c:pY}{g:FuncId}{n:Nat}(hO:ot P E g c):gC P E n g (uI E c):=by
 have key:qc P E n g (uI E c) Bl:=by
  intro w0 M A s w vs xs k bN h hh hnx hfr hv K hK
  simp only [uI] at h
  split at h
  ·cases h
  rename_i r hroot
  split at h
  ·rename_i hr
   refine oR hO h hh hnx hfr hv hr (by simp) (fun p hp=>?_) (fun y hy=>?_) K hK
   ·simp at hp;subst hp
    have:=hh.rt p;rw [hr] at this;exact this.1
   ·obtain ⟨a,rfl⟩:=hy.1
    exact .nil _ _ _ _ rfl
  ·rename_i q hr
   split at h
   ·rename_i e row hq
    cases hc:(Nat.beq e c.e&&!Nat.beq q r)<;>simp only [hc,aZ,bg] at h
    ·cases h
    simp only [Bool.and_eq_true,Bool.not_eq_true'] at hc
    obtain rfl:=Nat.eq_of_beq_eq_true hc.1
    have hne:q≠r:=fun e=>by have h2:=hc.2;rw [e,Nat.beq_refl] at h2;exact Bool.noConfusion h2
    have hrq:=hh.rt q
    rw [hq] at hrq
    refine oR hO h hh hnx hfr hv hr (by simp) (fun p hp=>?_) (fun y hy=>?_) K hK
    ·simp at hp
     rcases hp with rfl | rfl
     ·have:=hh.rt p;rw [hr] at this;exact this.1
     ·exact hrq.1
    ·rw [hy.1.2.1]
     exact hrq.2.mono fun b hb=>⟨q,by simp,hne,hb⟩
   ·cases h
  ·cases h
 exact ⟨hO.1,fun w0 M A s w vs xs k bN h hh hnx hfr hv K hK=>key w0 M A s w vs xs k bN h hh hnx hfr hv K fun v s' cv w' A' h1 h2 h3 h4 h5 h6 _=>hK v s' cv w' A' h1 h2 h3 h4 h5 h6 trivial,fun _=>⟨xH,key⟩⟩
end
def bO.take {α:Type}{n k:Nat}{p:α->Prop}{xs:List α}(h:bO n p xs):bO n p (xs.take k):=⟨Nat.le_trans (by simp;omega) h.1,fun x hx=>h.2 x (List.mem_of_mem_take hx)⟩
def bO.drop {α:Type}{n k:Nat}{p:α->Prop}{xs:List α}(h:bO n p xs):bO n p (xs.drop k):=⟨Nat.le_trans (by simp) h.1,fun x hx=>h.2 x (List.mem_of_mem_drop hx)⟩
def bO.map {α β:Type}{n:Nat}{p:α->Prop}{q:β->Prop}{f:α->β}{xs:List α}(h:bO n p xs)(hf:∀x,p x->q (f x)):bO n q (xs.map f):=
 ⟨by rw [List.length_map];exact h.1,fun y hy=>by obtain ⟨x,hx,rfl⟩:=List.mem_map.1 hy;exact hf x (h.2 x hx)⟩
section
variable {P:Program} {T:List (Nat×TI)} {G:List (Nat×fY)} {S:List (Nat×ia)} {I:List (Nat×jU)} {nt:Nat} {mt:Bool} {J:List Nat}
def BA (fn:Func)(aU:pY)(nt:Nat):Bool:=
 !(fn.name == "runtime.NumGoroutine") && (fn.body.isSome && (aU.res.pq && (!aU.res.view && (ff (cU (bP fn)) && Nat.beq (aU.args.length + (fn.ntmps - aU.args.length)) nt))))
theorem B6 {g:FuncId}{fn:Func}{aU:pY}(hm:P.follows .mixedOrders=true)(hT:eO P T=true)(hG:fM P (dP T) G)(hS:jJ P (dP T) S)(hI:oz P (dP T) 1 I)
  (hf:P.funcs[g]?=some fn) (hb:BA fn aU nt=true) (live:Nat->Live)
  (h:∀ls r,aU.sem ls=some r->∃n,fc { T:=assoc T,G:=dM G,nt:=nt,M:=gj S,np:=1,mt:=mt,I:=lS I,J:=J } live fn (.sQ aU.e aU.res.parts) n (tC aU.e aU.args ls)=some r):ot P (dP T) g aU:=by
 simp only [BA,Bool.and_eq_true,Bool.not_eq_true'] at hb
 obtain ⟨b1,b2,b3,b3',b4,b5⟩:=hb
 obtain ⟨c,hc⟩:=Option.isSome_iff_exists.1 b2
 have hbody:bP fn=c:=by simp [bP,hc]
 generalize hE:({ T:=assoc T,G:=dM G,nt:=nt,M:=gj S,np:=1,mt:=mt,I:=lS I,J:=J }:Env)=E at h
 have e1:E.T=assoc T:=by rw [<-hE]
 have hI':oz P (dP T) E.np I:=by rw [<-hE];exact hI
 have hS2:nQ P E:=⟨by rw [<-hE];exact (jJ.env (E:=dP T) rfl hS).get,fun g c h=>gC.env (E:=dP T) e1.symm (hI'.get g c (by rw [<-hE] at h;exact h))⟩
 have hT':∀t i,E.T t=some i->gy P E t i:=mG e1 hT
 have hG':∀g c,c∈E.G g->Valid P E g c:=by rw [<-hE];exact (fM.env (E:=dP T) rfl hG).get
 exact yF (E:=E) hT' hG' hS2 (fun w0 M Z0 bN=>vL hT' hG' hS2 hm) e1 (by rw [<-hE]) hf b1 hc b3 b3' (by rw [<-hbody];exact gV b4) (by rw [<-hE];exact Nat.eq_of_beq_eq_true b5) live h
end
section
variable {A A' B B':Type} [Im A A'] [Im B B'] {g:A->Prop} {m:A->B}
def ON [RT B'](ps:List lT)(e:Nat)(r:RP)(acc:List L->A')(R:A'->Option B'):pY:=⟨ps,e,r,fun ls=>(R (acc ls)).map RT.enc⟩
theorem VO [RT B']{P:Program}{T:List (Nat×TI)}{G:List (Nat×fY)}{S:List (Nat×ia)}{I:List (Nat×jU)}{nt:Nat}{mt:Bool}{J:List Nat}{f:FuncId}{fn:Func}{ps:List lT}{e:Nat}{r:RP}{acc:List L->A'}{X:Type}{accr:List L->X}{live:Nat->Live}{run:Nat->X->aI}
  (hm:P.follows .mixedOrders=true) (hT:eO P T=true) (hG:fM P (dP T) G) (hS:jJ P (dP T) S) (hI:oz P (dP T) 1 I) (hf:P.funcs[f]?=some fn) (hb:BA fn (ON ps e r acc (RR g m)) nt=true)
  (hrun:∀n ls,fc { T:=assoc T,G:=dM G,nt:=nt,M:=gj S,np:=1,mt:=mt,I:=lS I,J:=J } live fn (.sQ e r.parts) n (tC e ps ls)=run n (accr ls))
  (hok:∀ls a,acc ls=Im.im a->g a->∃n,run n (accr ls)=ret (Im.im (m a))):ot P (dP T) f (ON ps e r acc (RR g m)):=
 B6 hm hT hG hS hI hf hb live fun ls q h=>by
  obtain ⟨v,hv,hq⟩:=map_some h
  obtain ⟨a,hg,e,hm⟩:=lp hv
  obtain ⟨n,hn⟩:=hok ls a e.symm hg
  exact ⟨n,(hrun n ls).trans (hn.trans (by rw [<-hq,<-hm];rfl))⟩
end
def bo {β β':Type}[RT β']{r:β->β'}{c:Bool}{x y:aI}{a b:β}(h1:c=true->x=ret (r a))(h2:c=false->y=ret (r b)):(cond c x y)=ret (r (cond c a b)):=bt (fun b=>ret (r b)) h1 h2
def bs {β:Type}[RT β]{c:Bool}{x y:aI}{a b:β}(h1:c=true->x=ret a)(h2:c=false->y=ret b):(cond c x y)=ret (cond c a b):=bt ret h1 h2
def dn {p:Prop}{_:Decidable p}(h:¬p:=by (try simp (disch:=omega) only [LN,wi,Bool.cond_decide]);first | omega | (simp;done) | (simp;omega)):decide p=false:=decide_eq_false h
def bl {α:Type}{n:Nat}{p:α->Prop}{xs:List α}(h:bO n p xs)(hn:n<=maxLen:=by decide):xs.length<=maxLen:=Nat.le_trans h.1 hn
end Go.DM
set_option linter.unusedSectionVars false
namespace Go.DM
section
variable {P:Program} {E:Env}
end
end Go.DM
namespace Go.DM
end Go.DM

end
