/- A small machine over the translated code, and the proof that what it computes the code does. Conditions: none. -/
import Derived.Test.YtcepeleohipibaaGreatLResolvedDc
import Derived.ChangeArms
import Derived.Deep.Slices
import Derived.DataReads
import Derived.Carry
import Derived.ChangeOld
import Derived.WideShapes
import Derived.ChangeShapes
import Derived.IntWalk
import Derived.Lib.SliceRun
set_option linter.all false
noncomputable section
set_option linter.unusedSectionVars false
namespace Go.DM
def assoc {α:Type}:List (Nat×α)->Nat->Option α
 | [],_=>none
 | (k,v)::l,i=>bif Nat.beq k i then some v else assoc l i
def qx {α:Type}:∀{l:List (Nat×α)} {i:Nat} {v:α},assoc l i=some v->(i,v)∈l
 | [],i,v,h=>by cases h
 | (k,u)::l,i,v,h=>by
  simp only [assoc] at h
  cases hb:Nat.beq k i<;>simp only [hb,aO,aR] at h
  ·exact List.mem_cons_of_mem _ (qx h)
  ·injection h with h;rw [Nat.eq_of_beq_eq_true hb,h];simp
def AG:Value->K->Bool
 | .int a n,.int b=>iW a b&&decide (n=0)
 | .bool b,.bool=>!b
 | .string ⟨⟨[]⟩⟩,.str=>true
 | .slice none 0 0,.sl _=>true
 | _,_=>false
def Bb {v:Value}{k:K}(h:AG v k=true):v=kD k:=by
 unfold AG at h
 split at h
 ·simp only [Bool.and_eq_true,decide_eq_true_eq] at h
  obtain ⟨h1,rfl⟩:=h
  rw [gu h1];rfl
 ·simp at h;subst h;rfl
 ·rfl
 ·rfl
 ·cases h
def vH:List Value->List K->Bool
 | [],[]=>true
 | v::vs,k::ks=>AG v k&&vH vs ks
 | _,_=>false
def uU:∀{vs:List Value} {ks:List K},vH vs ks=true->vs=ks.map kD
 | [],[],_=>rfl
 | [],_::_,h=>by cases h
 | _::_,[],h=>by cases h
 | v::vs,k::ks,h=>by
  simp only [vH,Bool.and_eq_true] at h
  rw [Bb h.1,uU h.2];rfl
def mj (P:Program)(T:Nat->Option TI):List Field->List (Nat×Nat)->Nat->List K->Bool
 | [],[],_,[]=>true
 | f::fs,p::ps,o,ks=>Nat.beq f.offset p.1&&(Nat.beq f.type p.2&&(Nat.beq p.1 o&&(match P.info? f.type with
  | some fi=>match T p.2 with
   | some ti=>Nat.beq fi.size ti.cells.length&&(rZ (ks.take ti.cells.length) ti.cells&&mj P T fs ps (o+ti.cells.length) (ks.drop ti.cells.length))
   | none=>false
  | none=>false)))
 | _,_,_,_=>false
def jK {P:Program}{E:Env}:∀{fs:List Field} {ps:List (Nat×Nat)} {o:Nat} {ks:List K},mj P E.T fs ps o ks=true->
  ∃places,fs.mapM (fun f=>(P.info? f.type).map fun i=>(f.offset,i.size))=some places/\fs.length=ps.length/\
   ∀(j:Nat) (p:Nat×Nat),ps[j]?=some p->∃f ti,fs[j]?=some f/\f.offset=p.1/\f.type=p.2/\E.T p.2=some ti/\places[j]?=some (p.1,(E.cells p.2).length)/\o<=p.1/\P.cellsOf f.type=ti.cells.length/\(∀l kk,ti.cells[l]?=some kk->ks[p.1 - o+l]?=some kk)/\p.1 - o+ti.cells.length<=ks.length
 | [],[],o,[],_=>⟨[],by simp,rfl,fun j p hp=>by simp at hp⟩
 | [],[],o,_::_,h=>by cases h
 | [],_::_,o,ks,h=>by cases h
 | _::_,[],o,ks,h=>by cases h
 | f::fs,p::ps,o,ks,h=>by
  simp only [mj,Bool.and_eq_true] at h
  obtain ⟨h1,h2,h3,h4⟩:=h
  split at h4
  ·rename_i fi hfi
   split at h4
   ·rename_i ti hti
    simp only [Bool.and_eq_true] at h4
    obtain ⟨h5,h6,h7⟩:=h4
    obtain ⟨places,g1,g2,g3⟩:=jK h7
    have e1:=Nat.eq_of_beq_eq_true h1
    have e2:=Nat.eq_of_beq_eq_true h2
    have e3:=Nat.eq_of_beq_eq_true h3
    have e5:=Nat.eq_of_beq_eq_true h5
    have e6:=sj h6
    have hsz:fi.size=(E.cells p.2).length:=by simp [Env.cells,hti,e5]
    have hlen:ti.cells.length<=ks.length:=by rw [<-e6,List.length_take];exact Nat.min_le_right _ _
    refine ⟨(f.offset,fi.size)::places,by simp [hfi,g1],by simp [g2],fun j q hq=>?_⟩
    cases j with
    | zero=>
     simp at hq
     subst hq
     refine ⟨f,ti,rfl,e1,e2,hti,by simp [e1,hsz],by omega,by simp [Program.cellsOf,hfi,e5],fun l kk hl=>?_,by omega⟩
     have :(ks.take ti.cells.length)[l]?=some kk:=by rw [e6];exact hl
     rw [List.getElem?_take] at this
     rw [show p.1 - o+l=l by omega]
     split at this
     ·exact this
     ·cases this
    | succ j=>
     obtain ⟨f',ti',q1,q2,q3,q4,q5,q6,q7,q8,q9⟩:=g3 j q (by simpa using hq)
     refine ⟨f',ti',by simpa using q1,q2,q3,q4,by simpa using q5,by omega,q7,fun l kk hl=>?_,?_⟩
     ·have:=q8 l kk hl
      rw [List.getElem?_drop] at this
      rw [<-this];congr 1;omega
     ·rw [List.length_drop] at q9;omega
   ·cases h4
  ·cases h4
def Fh (T:Nat->Option TI)(i:TI)(d:TypeDesc):Bool:=
 match i.el with
 | some e=>match d with
  | .slice e'=>Nat.beq e e'&&(T e).isSome
  | _=>false
 | none=>true
def zo (i:TI)(d:TypeDesc):Bool:=
 i.agg||(match i.cells with
  | [.int k]=>(match d with | .int k'=>iW k k' | _=>false)
  | [.bool]=>(match d with | .bool=>true | _=>false)
  | [.str]=>(match d with | .string=>true | _=>false)
  | [.sl e]=>(match d with | .slice e'=>Nat.beq e e' | _=>false)
  | _=>false)
def CY (P:Program)(k:K)(t:Nat):Bool:=
 match P.underlying t with
 | some (.int ik)=>(match k with | .int jk=>iW jk ik | _=>false)
 | some .bool=>(match k with | .bool=>true | _=>false)
 | some .string=>(match k with | .str=>true | _=>false)
 | _=>false
def nH (P:Program):List Field->Nat->List K->Bool
 | [],_,[]=>true
 | f :: fs, o, k :: ks => !(f.name == "_") && (Nat.beq f.offset o && (CY P k f.type && nH P fs (o + 1) ks))
 | _,_,_=>false
def mR {P : Program} : ∀ {fs : List Field} {o : Nat} {ks : List K}, nH P fs o ks = true -> fs.length = ks.length /\ ∀ (j : Nat) (f : Field), fs[j]? = some f -> f.name ≠ "_" /\ f.offset = o + j /\ ∃ d', P.underlying f.type = some d' /\ ((∃ ik, ks[j]? = some (.int ik) /\ d' = .int ik) ∨ (ks[j]? = some .bool /\ d' = .bool) ∨ (ks[j]? = some .str /\ d' = .string))
 | [],o,[],_=>⟨rfl,fun j f hj=>by simp at hj⟩
 | [],o,_::_,h=>by cases h
 | _::_,o,[],h=>by cases h
 | f::fs,o,k::ks,h=>by
  simp only [nH,Bool.and_eq_true,Bool.not_eq_true'] at h
  obtain ⟨h1,h2,h3,h4⟩:=h
  obtain ⟨g1,g2⟩:=mR h4
  refine ⟨by simp [g1],fun j g hj=>?_⟩
  cases j with
  | zero=>
   simp at hj
   subst hj
   refine ⟨by simpa using h1,Nat.eq_of_beq_eq_true h2,?_⟩
   unfold CY at h3
   split at h3
   ·rename_i ik hu
    split at h3
    ·rename_i jk;exact ⟨_,hu,.inl ⟨ik,by simp [gu h3],rfl⟩⟩
    ·cases h3
   ·rename_i hu
    split at h3
    ·exact ⟨_,hu,.inr (.inl ⟨rfl,rfl⟩)⟩
    ·cases h3
   ·rename_i hu
    split at h3
    ·exact ⟨_,hu,.inr (.inr ⟨rfl,rfl⟩)⟩
    ·cases h3
   ·cases h3
  | succ j=>
   obtain ⟨q1,q2,q3⟩:=g2 j g (by simpa using hj)
   exact ⟨q1,by omega,by simpa using q3⟩
def DW (P:Program)(t:Nat)(i:TI)(d:TypeDesc):Bool:=
 !i.eqv||(!i.agg||(match d with | .struct fs=>!P.stoodInHeld t&&(!P.eqGuardType P.depth t&&nH P fs.toList 0 i.cells) | _=>false))
def CA (P:Program)(T:Nat->Option TI)(t:Nat)(i:TI):Bool:=
 match P.info? t with
 | some ii=>match P.underlying t with
  | some d=>match ii.zero with
   | some z=>Nat.beq ii.size i.cells.length&&(Nat.beq ii.bytes i.bytes&&(Nat.blt 0 i.cells.length&&(Nat.blt 0 i.bytes&&(vH z.cells.toList i.cells&&(
     (cond i.agg (match d with | .struct fs=>mj P T fs.toList i.fields 0 i.cells | _=>false) (!jh d&&(Nat.beq i.cells.length 1&&i.fields.isEmpty)))&&(Fh T i d&&(zo i d&&DW P t i d)))))))
   | none=>false
  | none=>false
 | none=>false
def tL {P:Program}{E:Env}{t:Nat}{i:TI}(h:CA P E.T t i=true):fX P E t i:=by
 unfold CA at h
 split at h
 case h_2=>cases h
 rename_i ii hii
 split at h
 case h_2=>cases h
 rename_i d hd
 split at h
 case h_2=>cases h
 rename_i z hz
 simp only [Bool.and_eq_true] at h
 obtain ⟨h1,h2,h3,h4,h5,h6,h7,h8,h9⟩:=h
 refine ⟨ii,d,z,hii,hd,hz,Nat.eq_of_beq_eq_true h1,Nat.eq_of_beq_eq_true h2,Nat.blt_eq.mp h3,Nat.blt_eq.mp h4,uU h5,?_,?_,?_,?_,?_,?_,?_,?_,?_⟩
 ·cases ha:i.agg<;>simp only [ha,aO,aR] at h6
  ·simp only [Bool.and_eq_true,Bool.not_eq_true'] at h6;exact h6.1
  ·split at h6
   ·rfl
   ·cases h6
 ·intro ha
  simp only [ha,aR,Bool.and_eq_true,List.isEmpty_iff] at h6
  exact ⟨Nat.eq_of_beq_eq_true h6.2.1,h6.2.2⟩
 ·intro ha
  simp only [ha,aO] at h6
  split at h6
  ·rename_i fs
   obtain ⟨places,g1,g2,g3⟩:=jK h6
   refine ⟨fs,rfl,fun f p hp=>?_⟩
   obtain ⟨fl,ti,q1,q2,q3,q4,_⟩:=g3 f p hp
   exact ⟨fl,by simpa using q1,q2,q3,ti,q4⟩
  ·cases h6
 ·intro fs hfs
  subst hfs
  cases ha:i.agg<;>simp only [ha,aO,aR] at h6
  ·simp [jh] at h6
  ·obtain ⟨places,g1,g2,g3⟩:=jK h6
   refine ⟨places,g1,fun f p hp=>?_⟩
   obtain ⟨fl,ti,q1,q2,q3,q4,q5,_⟩:=g3 f p hp
   exact q5
 ·intro e he
  simp only [Fh,he] at h7
  split at h7
  ·simp only [Bool.and_eq_true] at h7
   rw [Nat.eq_of_beq_eq_true h7.1]
   refine ⟨rfl,Option.isSome_iff_exists.1 ?_⟩
   rw [<-Nat.eq_of_beq_eq_true h7.1];exact h7.2
  ·cases h7
 ·intro ha k hk
  simp only [zo,ha,Bool.false_or,hk] at h8
  split at h8
  ·rw [gu h8]
  ·cases h8
 ·intro ha hk
  simp only [zo,ha,Bool.false_or,hk] at h8
  split at h8
  ·rfl
  ·cases h8
 ·intro ha hk
  simp only [zo,ha,Bool.false_or,hk] at h8
  split at h8
  ·rfl
  ·cases h8
 ·intro he ha
  simp only [DW,he,ha,Bool.not_true,Bool.false_or] at h9
  split at h9
  ·rename_i fs
   simp only [Bool.and_eq_true,Bool.not_eq_true'] at h9
   obtain ⟨g1,g2⟩:=mR h9.2.2
   exact ⟨fs,rfl,h9.1,h9.2.1,by simpa using g1,fun j f hj=>by
    obtain ⟨q1,q2,q3⟩:=g2 j f (by simpa using hj)
    exact ⟨q1,by omega,q3⟩⟩
  ·cases h9
def eO (P:Program)(l:List (Nat×TI)):Bool:=l.all fun p=>CA P (assoc l) p.1 p.2
def ni {P:Program}{l:List (Nat×TI)}{E:Env}(hE:E.T=assoc l)(h:eO P l=true):∀t i,E.T t=some i->fX P E t i:=by
 intro t i ht
 rw [hE] at ht
 simp only [eO,List.all_eq_true] at h
 have:=h (t,i) (qx ht)
 rw [<-hE] at this
 exact tL this
abbrev cR (T:List (Nat×TI)):Env:={ T:=assoc T,G:=fun _=>[],nt:=0 }
def cZ:List (Nat×gj)->Nat->List gj
 | [],_=>[]
 | (k,c)::l,g=>bif Nat.beq k g then c::cZ l g else cZ l g
inductive fD (P:Program)(E:Env):List (Nat×gj)->Prop where
 | nil:fD P E []
 | cons {g c l}:Valid P E g c->fD P E l->fD P E ((g,c)::l)
def fD.get {P:Program}{E:Env}:∀{l:List (Nat×gj)},fD P E l->∀g c,c∈cZ l g->Valid P E g c
 | _,.nil,g,c,h=>by cases h
 | (k,u)::l,.cons hv ht,g,c,h=>by
  simp only [cZ] at h
  cases hb:Nat.beq k g<;>simp only [hb,aO,aR] at h
  ·exact ht.get g c h
  ·rcases List.mem_cons.1 h with rfl | h
   ·rw [<-Nat.eq_of_beq_eq_true hb];exact hv
   ·exact ht.get g c h
def ij:∀{l:List Nat},eE l=true->l.Nodup
 | [],_=>List.nodup_nil
 | a::l,h=>by
  simp only [eE,Bool.and_eq_true,List.all_eq_true,Bool.not_eq_true'] at h
  refine List.nodup_cons.2 ⟨fun hm=>?_,ij h.2⟩
  have:=h.1 a hm
  simp at this
def Valid.env {P:Program}{E E':Env}(he:E.T=E'.T){g:FuncId}{c:gj}(h:Valid P E g c):Valid P E' g c:=by
 have :E.cells=E'.cells:=by funext t;simp [Env.cells,he]
 unfold Valid at *
 rw [<-this];exact h
def fD.env {P:Program}{E E':Env}(he:E.T=E'.T){l:List (Nat×gj)}(h:fD P E l):fD P E' l:=by
 induction h with
 | nil=>exact .nil
 | cons hv _ ih=>exact .cons (hv.env he) ih
def tR (fn:Func)(aM:gj)(nt:Nat):Bool:=
 !(fn.name == "runtime.NumGoroutine") && (fn.body.isSome && (aM.res.nQ && (eE (cq (bL fn)) && Nat.beq (aM.args.length + (fn.ntmps - aM.args.length)) nt)))
def ff:List (Nat×mB)->Nat->List mB
 | [],_=>[]
 | (k,c)::l,g=>bif Nat.beq k g then c::ff l g else ff l g
inductive jH (P:Program)(E:Env):List (Nat×mB)->Prop where
 | nil:jH P E []
 | cons {g c l}:lW P E g c->jH P E l->jH P E ((g,c)::l)
def jH.get {P:Program}{E:Env}:∀{l:List (Nat×mB)},jH P E l->∀g c,c∈ff l g->lW P E g c
 | _,.nil,g,c,h=>by cases h
 | (k,u)::l,.cons hv ht,g,c,h=>by
  simp only [ff] at h
  cases hb:Nat.beq k g<;>simp only [hb,aO,aR] at h
  ·exact ht.get g c h
  ·rcases List.mem_cons.1 h with rfl | h
   ·rw [<-Nat.eq_of_beq_eq_true hb];exact hv
   ·exact ht.get g c h
def lW.env {P:Program}{E E':Env}(he:E.T=E'.T){g:FuncId}{c:mB}(h:lW P E g c):lW P E' g c:=by
 have :E.cells=E'.cells:=by funext t;simp [Env.cells,he]
 unfold lW at *
 rw [<-this];exact h
def jH.env {P:Program}{E E':Env}(he:E.T=E'.T){l:List (Nat×mB)}(h:jH P E l):jH P E' l:=by
 induction h with
 | nil=>exact .nil
 | cons hv _ ih=>exact .cons (hv.env he) ih
def vu {mt:Bool}{P:Program}{T:List (Nat×TI)}{G:List (Nat×gj)}{S:List (Nat×mB)}{nt:Nat}{g:FuncId}{fn:Func}{aM:gj}(hm:P.follows .mixedOrders=true)(hT:eO P T=true)(hG:fD P (cR T) G)(hS:jH P (cR T) S)
  (hf:P.funcs[g]?=some fn) (hb:tR fn aM nt=true) (live:Nat->Live)
  (h:∀ls r,rN (cR T).cells aM.args ls->aM.sem ls=some r->∃n,eY { T:=assoc T,G:=cZ G,nt:=nt,M:=ff S,mt:=mt } live fn aM.res n (dJ aM.args ls)=some r):Valid P (cR T) g aM:=by
 simp only [tR,Bool.and_eq_true,Bool.not_eq_true'] at hb
 obtain ⟨b1,b2,b3,b4,b5⟩:=hb
 obtain ⟨c,hc⟩:=Option.isSome_iff_exists.1 b2
 have hbody:bL fn=c:=by simp [bL,hc]
 have hT':∀t i,({ T:=assoc T,G:=cZ G,nt:=nt,M:=ff S,mt:=mt }:Env).T t=some i->fX P { T:=assoc T,G:=cZ G,nt:=nt,M:=ff S,mt:=mt } t i:=ni (E:={ T:=assoc T,G:=cZ G,nt:=nt,M:=ff S,mt:=mt }) rfl hT
 have hG':∀g c,c∈({ T:=assoc T,G:=cZ G,nt:=nt,M:=ff S,mt:=mt }:Env).G g->Valid P { T:=assoc T,G:=cZ G,nt:=nt,M:=ff S,mt:=mt } g c:=(fD.env (E:=cR T) (E':={ T:=assoc T,G:=cZ G,nt:=nt,M:=ff S,mt:=mt }) rfl hG).get
 have hS':∀g c,c∈({ T:=assoc T,G:=cZ G,nt:=nt,M:=ff S,mt:=mt }:Env).M g->lW P { T:=assoc T,G:=cZ G,nt:=nt,M:=ff S,mt:=mt } g c:=(jH.env (E:=cR T) (E':={ T:=assoc T,G:=cZ G,nt:=nt,M:=ff S,mt:=mt }) rfl hS).get
 exact wT (E:={ T:=assoc T,G:=cZ G,nt:=nt,M:=ff S,mt:=mt }) hT' hG' ⟨hS',fun _ _ h=>(nomatch h)⟩ (fun w0 M Z0 ans=>xI hT' hG' ⟨hS',fun _ _ h=>(nomatch h)⟩ hm) rfl rfl hf b1 hc b3 (by rw [<-hbody];exact ij b4) (Nat.eq_of_beq_eq_true b5) live h
def gy:List (Nat×gA)->Nat->List gA
 | [],_=>[]
 | (k,c)::l,g=>bif Nat.beq k g then c::gy l g else gy l g
inductive lU (P:Program)(E:Env)(n:Nat):List (Nat×gA)->Prop where
 | nil:lU P E n []
 | cons {g c l}:dX P E n g c->lU P E n l->lU P E n ((g,c)::l)
def lU.get {P:Program}{E:Env}{n:Nat}:∀{l:List (Nat×gA)},lU P E n l->∀g c,c∈gy l g->dX P E n g c
 | _,.nil,g,c,h=>by cases h
 | (k,u)::l,.cons hv ht,g,c,h=>by
  simp only [gy] at h
  cases hb:Nat.beq k g<;>simp only [hb,aO,aR] at h
  ·exact ht.get g c h
  ·rcases List.mem_cons.1 h with rfl | h
   ·rw [<-Nat.eq_of_beq_eq_true hb];exact hv
   ·exact ht.get g c h
def dX.env {P:Program}{E E':Env}(he:E.T=E'.T){n:Nat}{g:FuncId}{c:gA}(h:dX P E n g c):dX P E' n g c:=by
 have :E.cells=E'.cells:=by funext t;simp [Env.cells,he]
 unfold dX oH at *
 rw [<-this];exact h
def lU.env {P:Program}{E E':Env}(he:E.T=E'.T){n:Nat}{l:List (Nat×gA)}(h:lU P E n l):lU P E' n l:=by
 induction h with
 | nil=>exact .nil
 | cons hv _ ih=>exact .cons (hv.env he) ih
def Eg (fn : Func) : Bool := !(fn.name == "runtime.NumGoroutine") && (fn.body.isSome && eE (cq (bL fn)))
section
variable {P:Program} {T:List (Nat×TI)} {G:List (Nat×gj)} {S:List (Nat×mB)} {I:List (Nat×gA)} {nt:Nat} {mt:Bool}
theorem yO {n:Nat}{J:List Nat}{g:FuncId}{fn:Func}(hm:P.follows .mixedOrders=true)(hT:eO P T=true)(hG:fD P (cR T) G)(hS:jH P (cR T) S)(hI:lU P (cR T) n I)
  (hf:P.funcs[g]?=some fn) (hb:Eg fn=true):dX P (cR T) n g (inl { T:=assoc T,G:=cZ G,nt:=nt,M:=ff S,np:=n,mt:=mt,I:=gy I,J:=J } fn):=by
 simp only [Eg,Bool.and_eq_true,Bool.not_eq_true'] at hb
 obtain ⟨b1,b2,b4⟩:=hb
 obtain ⟨c,hc⟩:=Option.isSome_iff_exists.1 b2
 have hbody:bL fn=c:=by simp [bL,hc]
 generalize hE:({ T:=assoc T,G:=cZ G,nt:=nt,M:=ff S,np:=n,mt:=mt,I:=gy I,J:=J }:Env)=E
 have e1:E.T=assoc T:=by rw [<-hE]
 obtain rfl:n=E.np:=by rw [<-hE]
 have hS2:mG P E:=⟨by rw [<-hE];exact (jH.env (E:=cR T) rfl hS).get,fun g c h=>dX.env (E:=cR T) e1.symm (hI.get g c (by rw [<-hE] at h;exact h))⟩
 have hT':∀t i,E.T t=some i->fX P E t i:=ni e1 hT
 have hG':∀g c,c∈E.G g->Valid P E g c:=by rw [<-hE];exact (fD.env (E:=cR T) rfl hG).get
 exact dX.env (E:=E) e1 (Aj hT' hG' hS2 (fun w0 M Z0 ans=>xI hT' hG' hS2 hm) hf b1 hc (by rw [<-hbody];exact ij b4))
theorem vT {J:List Nat}{g:FuncId}{fn:Func}{aM:gj}(hm:P.follows .mixedOrders=true)(hT:eO P T=true)(hG:fD P (cR T) G)(hS:jH P (cR T) S)(hI:lU P (cR T) 0 I)
  (hf:P.funcs[g]?=some fn) (hb:tR fn aM nt=true) (live:Nat->Live)
  (h:∀ls r,rN (cR T).cells aM.args ls->aM.sem ls=some r->∃n,eY { T:=assoc T,G:=cZ G,nt:=nt,M:=ff S,mt:=mt,I:=gy I,J:=J } live fn aM.res n (dJ aM.args ls)=some r):Valid P (cR T) g aM:=by
 simp only [tR,Bool.and_eq_true,Bool.not_eq_true'] at hb
 obtain ⟨b1,b2,b3,b4,b5⟩:=hb
 obtain ⟨c,hc⟩:=Option.isSome_iff_exists.1 b2
 have hbody:bL fn=c:=by simp [bL,hc]
 generalize hE:({ T:=assoc T,G:=cZ G,nt:=nt,M:=ff S,mt:=mt,I:=gy I,J:=J }:Env)=E at h
 have e1:E.T=assoc T:=by rw [<-hE]
 have hS2:mG P E:=⟨by rw [<-hE];exact (jH.env (E:=cR T) rfl hS).get,fun g c h=>by rw [<-hE] at h ⊢;exact (lU.env (E:=cR T) rfl hI).get g c h⟩
 have hT':∀t i,E.T t=some i->fX P E t i:=ni e1 hT
 have hG':∀g c,c∈E.G g->Valid P E g c:=by rw [<-hE];exact (fD.env (E:=cR T) rfl hG).get
 have hcell:(cR T).cells=E.cells:=by funext t;simp [Env.cells,e1]
 rw [hcell] at h
 exact wT (E:=E) hT' hG' hS2 (fun w0 M Z0 ans=>xI hT' hG' hS2 hm) e1 (by rw [<-hE]) hf b1 hc b3 (by rw [<-hbody];exact ij b4) (by rw [<-hE];exact Nat.eq_of_beq_eq_true b5) live h
end
def valid {P:Program}{T:List (Nat×TI)}{G:List (Nat×gj)}{nt:Nat}{g:FuncId}{fn:Func}{aM:gj}(hm:P.follows .mixedOrders=true)(hT:eO P T=true)(hG:fD P (cR T) G)
  (hf:P.funcs[g]?=some fn) (hb:tR fn aM nt=true) (live:Nat->Live)
  (h:∀ls r,rN (cR T).cells aM.args ls->aM.sem ls=some r->∃n,eY { T:=assoc T,G:=cZ G,nt:=nt } live fn aM.res n (dJ aM.args ls)=some r):Valid P (cR T) g aM:=
 vu (S:=[]) hm hT hG .nil hf hb live h
end Go.DM
set_option linter.unusedSectionVars false
namespace Go.DM
inductive Wf (T:Nat->List K):K->L->Prop where
 | int (k:IntKind) (n:Int) (h:(Lit.int k n).wf=true):Wf T (.int k) (.int n)
 | bool (b:Bool):Wf T .bool (.bool b)
 | str (s:av) (h:s.size<=maxLen):Wf T .str (.str s)
 | sl (e:Nat) (xs:aq) (h:xs.length<=maxLen) (hl:∀r∈xs,r.length=(T e).length) (hr:∀(r:List L) (j:Nat) (kk:K) (l:L),r∈xs->(T e)[j]?=some kk->r[j]?=some l->Wf T kk l):Wf T (.sl e) (.sl xs)
def kE {α:Type}{P:Nat->α->Prop}:∀(n:Nat),(∀j,j<n->∃x,P j x)->∃xs:List α,xs.length=n/\∀j,j<n->∃x,xs[j]?=some x/\P j x
 | 0,_=>⟨[],rfl,fun j h=>by omega⟩
 | n+1,h=>by
  obtain ⟨xs,h1,h2⟩:=kE n fun j hj=>h j (by omega)
  obtain ⟨x,hx⟩:=h n (by omega)
  refine ⟨xs++[x],by simp [h1],fun j hj=>?_⟩
  by_cases hjn:j<n
  ·obtain ⟨y,h3,h4⟩:=h2 j hjn
   exact ⟨y,by rw [List.getElem?_append_left (by omega)];exact h3,h4⟩
  ·have :j=n:=by omega
   subst this
   exact ⟨x,by rw [<-h1];simp,hx⟩
def nX {P:Program}{T:Nat->Option TI}:∀{fs:List Field} {ps:List (Nat×Nat)} {o:Nat} {ks:List K},mj P T fs ps o ks=true->
  ∀l,l<ks.length->∃(j:Nat) (p:Nat×Nat) (ti:TI),ps[j]?=some p/\T p.2=some ti/\o<=p.1/\p.1 - o<=l/\l<p.1 - o+ti.cells.length
 | [],[],o,[],_,l,h=>by simp at h
 | [],[],o,_::_,h,_,_=>by cases h
 | [],_::_,o,ks,h,_,_=>by cases h
 | _::_,[],o,ks,h,_,_=>by cases h
 | f::fs,p::ps,o,ks,h,l,hl=>by
  simp only [mj,Bool.and_eq_true] at h
  obtain ⟨h1,h2,h3,h4⟩:=h
  split at h4
  ·rename_i fi hfi
   split at h4
   ·rename_i ti hti
    simp only [Bool.and_eq_true] at h4
    obtain ⟨h5,h6,h7⟩:=h4
    have e3:=Nat.eq_of_beq_eq_true h3
    by_cases hlt:l<ti.cells.length
    ·exact ⟨0,p,ti,rfl,hti,by omega,by omega,by omega⟩
    ·obtain ⟨j,q,tq,g1,g2,g3,g4,g5⟩:=nX h7 (l - ti.cells.length) (by rw [List.length_drop];omega)
     exact ⟨j+1,q,tq,by simpa using g1,g2,by omega,by omega,by omega⟩
   ·cases h4
  ·cases h4
section
variable {H:Type} {enc:TypeId×Value->H} {P:Program} {w:World} {spare:Nat->Bool} {held:Bool} {E:Env}
theorem B4 (hB:∀t i,E.T t=some i->CA P E.T t i=true):∀(n:Nat) {t:Nat} {i:TI} {cs:List Value} {x:DataW H×List MemPlace},E.T t=some i->DataW.trod enc P w 0 spare held n t cs=some x->
  cs.length=i.cells.length/\∀(j:Nat) (kk:K),i.cells[j]?=some kk->∃(l:L) (v:Value),cs[j]?=some v/\Rd E.cells w (fun b=>b<w.heap.size) kk v l/\Wf E.cells kk l:=by
 intro n
 induction n with
 | zero=>intro t i cs x _ h;simp [DataW.trod] at h
 | succ n ih=>
  intro t i cs x ht h
  have hb:=hB t i ht
  obtain ⟨ii,d,z,k1,k2,k3,k4,k5,k6,kby,k7,k8,k9,k10,kpl,k11,k12,tX,tU,k15⟩:=tL (E:=E) hb
  cases ha:i.agg with
  | false=>
   obtain ⟨hl1,_⟩:=k9 ha
   match hc:i.cells,hl1 with
   | [.int k],_=>
    obtain ⟨m,rfl,_,hw⟩:=DataW.trod_int (k12 ha k hc ▸ k2) h
    exact ⟨rfl,fun j kk hj=>by
     cases j with
     | zero=>simp at hj;subst hj;exact ⟨.int m,_,rfl,Rd.int k (.int m),Wf.int k m hw⟩
     | succ j=>simp at hj⟩
   | [.bool],_=>
    obtain ⟨b,rfl,_⟩:=DataW.trod_bool (tX ha hc ▸ k2) h
    exact ⟨rfl,fun j kk hj=>by
     cases j with
     | zero=>simp at hj;subst hj;exact ⟨.bool b,_,rfl,Rd.bool (.bool b),Wf.bool b⟩
     | succ j=>simp at hj⟩
   | [.str],_=>
    obtain ⟨s,rfl,_,hs⟩:=DataW.trod_string (tU ha hc ▸ k2) h
    exact ⟨rfl,fun j kk hj=>by
     cases j with
     | zero=>simp at hj;subst hj;exact ⟨.str s,_,rfl,Rd.str (.str s),Wf.str s hs⟩
     | succ j=>simp at hj⟩
   | [.sl e],_=>
    have hel:i.el=some e:=by simp [TI.el,ha,hc]
    obtain ⟨rfl,ie,hie⟩:=k11 e hel
    have hce:P.cellsOf e=ie.cells.length/\0<ie.cells.length:=by
     obtain ⟨ii',d',z',q1,q2,q3,q4,q5,q6,_⟩:=tL (E:=E) (hB e ie hie)
     exact ⟨by simp [Program.cellsOf,q1,q4],q6⟩
    have hEe:E.cells e=ie.cells:=iy hie
    have fin:∀(l:L) (v:Value),cs=[v]->Rd E.cells w (fun b=>b<w.heap.size) (.sl e) v l->Wf E.cells (.sl e) l->
      cs.length=[K.sl e].length/\∀(j:Nat) (kk:K),[K.sl e][j]?=some kk->∃(l:L) (v:Value),cs[j]?=some v/\Rd E.cells w (fun b=>b<w.heap.size) kk v l/\Wf E.cells kk l:=by
     intro l v hv h1 h2
     subst hv
     exact ⟨rfl,fun j kk hj=>by
      cases j with
      | zero=>simp at hj;subst hj;exact ⟨l,_,rfl,h1,h2⟩
      | succ j=>simp at hj⟩
    rcases DataW.trod_slice k2 h with ⟨hv,_⟩ | ⟨a,len,cap,elems,rest,m,hm,hv,_,hb0,hlc,hcm,hlen,hel',_,_⟩
    ·exact fin (.sl []) _ hv (.nil _ _ _ _ rfl) (.sl e [] (by simp) (fun r hr=>by cases hr) (fun r j kk l hr=>by cases hr))
    ·have hm':m=n:=by omega
     subst hm'
     have each:∀i',i'<len->∃rc:List L×List Value,rc.1.length=ie.cells.length/\(∀j,j<ie.cells.length->w.cell? (a.add (i'*ie.cells.length) |>.add j)=rc.2[j]?)/\
       ∀(j:Nat) (kk:K),ie.cells[j]?=some kk->∃(l:L) (v:Value),rc.1[j]?=some l/\rc.2[j]?=some v/\Rd E.cells w (fun b=>b<w.heap.size) kk v l/\Wf E.cells kk l:=by
      intro i' hi'
      have h1:=hel' i' hi'
      rw [List.getElem?_eq_getElem (by omega)] at h1
      obtain ⟨cs',h2,h3⟩:=Option.bind_eq_some_iff.1 h1
      obtain ⟨_,h4,h5⟩:=World.cells?_some h2
      obtain ⟨h6,h7⟩:=ih hie h3
      obtain ⟨row,r1,r2⟩:=kE (P:=fun j l=>∃v,cs'[j]?=some v/\∀kk,ie.cells[j]?=some kk->Rd E.cells w (fun b=>b<w.heap.size) kk v l/\Wf E.cells kk l) ie.cells.length (fun j hj=>by
       have hk:=List.getElem?_eq_getElem hj
       obtain ⟨l,v,e1,e2,e3⟩:=h7 j _ hk
       exact ⟨l,v,e1,fun kk hkk=>by rw [hk] at hkk;injection hkk with hkk;subst hkk;exact ⟨e2,e3⟩⟩)
      refine ⟨(row,cs'),r1,fun j hj=>?_,fun j kk hj=>?_⟩
      ·rw [hce.1] at h5;exact h5 j (by omega)
      ·obtain ⟨l,e1,v,e2,e3⟩:=r2 j (List.getElem?_eq_some_iff.1 hj).1
       exact ⟨l,v,e1,e2,e3 kk hj⟩
     obtain ⟨rows,g1,g2⟩:=kE len each
     have hwf:Wf E.cells (.sl e) (.sl (rows.map (·.1))):=by
      refine .sl e _ (by simp [g1];omega) (fun r hr=>?_) (fun r j kk l hr hj hl=>?_)
      ·obtain ⟨rc,hrc,rfl⟩:=List.mem_map.1 hr
       obtain ⟨i',hi'⟩:=List.getElem?_of_mem hrc
       obtain ⟨rc',h1,h2,_⟩:=g2 i' (by rw [<-g1];exact (List.getElem?_eq_some_iff.1 hi').1)
       rw [hi'] at h1;injection h1 with h1;subst h1
       rw [h2,hEe]
      ·obtain ⟨rc,hrc,rfl⟩:=List.mem_map.1 hr
       obtain ⟨i',hi'⟩:=List.getElem?_of_mem hrc
       obtain ⟨rc',h1,h2,_,h3⟩:=g2 i' (by rw [<-g1];exact (List.getElem?_eq_some_iff.1 hi').1)
       rw [hi'] at h1;injection h1 with h1;subst h1
       rw [hEe] at hj
       obtain ⟨l',v,e1,_,_,e3⟩:=h3 j kk hj
       rw [hl] at e1;injection e1 with e1;subst e1
       exact e3
     refine fin (.sl (rows.map (·.1))) _ hv ?_ hwf
     rcases Nat.eq_zero_or_pos len with h0 | hpos
     ·subst h0
      exact .nil _ _ _ _ (by simp only [L.dz];rw [List.eq_nil_of_length_eq_zero g1];rfl)
     ·
      obtain ⟨rc0,h1,h2,h3,h4⟩:=g2 0 hpos
      have hk0:=List.getElem?_eq_getElem hce.2
      obtain ⟨l0,v0,e1,e2,e3,_⟩:=h4 0 _ hk0
      have hc0:=h3 0 hce.2
      rw [e2] at hc0
      obtain ⟨b,o,spot⟩:=a
      have hspot:spot=none:=by simpa [Addr.add] using World.cell?_spot hc0
      subst hspot
      have hblt:b<w.heap.size:=by simpa [Addr.add] using block_lt_of_cell hc0
      refine .sl e len cap b o _ (fun i' j=>(((rows.getD i' ([],[])).2).getD j Go.undef)) (by simp [L.dz,g1]) hlc (Nat.le_trans hlc hcm) hblt (fun i' j kk hi' hj=>?_) (fun i' j kk hi' hj=>?_)
      ·rw [hEe] at hj ⊢
       obtain ⟨rc,q1,q2,q3,q4⟩:=g2 i' hi'
       obtain ⟨l,v,p1,p2,p3,p4⟩:=q4 j kk hj
       have:=q3 j (List.getElem?_eq_some_iff.1 hj).1
       rw [p2,Addr.add_lit,Addr.add_lit,Nat.add_assoc] at this
       rw [this]
       simp [List.getD_eq_getElem?_getD,q1,p2]
      ·rw [hEe] at hj
       obtain ⟨rc,q1,q2,q3,q4⟩:=g2 i' hi'
       obtain ⟨l,v,p1,p2,p3,p4⟩:=q4 j kk hj
       have e1:((rows.getD i' ([],[])).2).getD j Go.undef=v:=by simp [List.getD_eq_getElem?_getD,q1,p2]
       have e2:((L.sl (rows.map (·.1))).dz.getD i' []).getD j .hole=l:=by simp [L.dz,List.getD_eq_getElem?_getD,q1,p1]
       show Rd E.cells w _ kk (((rows.getD i' ([],[])).2).getD j Go.undef) _
       rw [e1,e2];exact p3
  | true=>
   obtain ⟨fs,rfl,_⟩:=k10 ha
   have hcells:P.cellsOf t=i.cells.length:=by simp [Program.cellsOf,k1,k4]
   have hfb:mj P E.T fs.toList i.fields 0 i.cells=true:=by
    have hb':=hb
    unfold CA at hb'
    simp only [k1,k2,k3,ha,aO,Bool.and_eq_true] at hb'
    exact hb'.2.2.2.2.2.1
   obtain ⟨xs,m,hm,_,hl,hxs,hf⟩:=DataW.trod_struct k2 h
   have hm':m=n:=by omega
   subst hm'
   refine ⟨by rw [hl,hcells],fun j kk hj=>?_⟩
   obtain ⟨f,p,ti,c1,c2,c3,c4,c5⟩:=nX hfb j (List.getElem?_eq_some_iff.1 hj).1
   obtain ⟨places,_,hfl,hsp⟩:=jK (E:=E) hfb
   obtain ⟨fl,ti',q1,q2,q3,q4,q5,q6,q7,q8,q9⟩:=hsp f p c1
   rw [c2] at q4;injection q4 with q4;subst q4
   have hfs:fs[f]?=some fl:=by simpa using q1
   have htrod:=hf f fl hfs
   have hxl:f<xs.length:=by
    rw [hxs];exact (Array.getElem?_eq_some_iff.1 hfs).1
   rw [List.getElem?_eq_getElem hxl,q3,q2] at htrod
   obtain ⟨_,h2⟩:=ih c2 htrod
   have hkk:ti.cells[j - p.1]?=some kk:=by
    have hlt:j - p.1<ti.cells.length:=by omega
    have hg:=List.getElem?_eq_getElem hlt
    have:=q8 _ _ hg
    rw [show p.1 - 0+(j - p.1)=j by omega,hj] at this
    rw [hg];exact this.symm
   obtain ⟨l,v,e1,e2,e3⟩:=h2 (j - p.1) kk hkk
   refine ⟨l,v,?_,e2,e3⟩
   rw [List.getElem?_take] at e1
   split at e1
   ·rw [List.getElem?_drop] at e1
    rw [<-e1];congr 1;omega
   ·cases e1
end
end Go.DM
set_option linter.unusedSectionVars false
namespace Go.DM
open Go.ChangeShapes Go.WideShapes Go.RowKit
def pW (T:Nat->Option TI)(t:Nat):fF:=match T t with
 | some i=>bif i.agg then .agg i.cells else .rd (i.cells.headD .bool)
 | none=>.rd .bool
def yG (T:Nat->Option TI)(ts:List Nat)(sem:List L->Option (List L)):gj:=⟨ts.map (pW T),.one (.rd .bool),sem⟩
def kP (T:Nat->List K)(ks:List K)(ls:List L):Prop:=ls.length=ks.length/\∀(j:Nat) (k:K),ks[j]?=some k->∃l,ls[j]?=some l/\Wf T k l
def kP.append {T:Nat->List K}{a b:List K}{x y:List L}(h:kP T a x)(k:kP T b y):kP T (a++b) (x++y):=by
 refine ⟨by simp [h.1,k.1],fun j kk hj=>?_⟩
 by_cases hl:j<a.length
 ·rw [List.getElem?_append_left hl] at hj
  obtain ⟨l,e1,e2⟩:=h.2 j kk hj
  exact ⟨l,by rw [List.getElem?_append_left (by rw [h.1];exact hl)];exact e1,e2⟩
 ·rw [List.getElem?_append_right (by omega)] at hj
  obtain ⟨l,e1,e2⟩:=k.2 _ kk hj
  exact ⟨l,by rw [List.getElem?_append_right (by rw [h.1];omega),h.1];exact e1,e2⟩
section
variable {H:Type} {enc:TypeId×Value->H} {P:Program} {W:World} {E:Env} {r:Reach} {b0:Nat}
theorem Bz (hB:∀t i,E.T t=some i->CA P E.T t i=true){t:Nat}{i:TI}(ht:E.T t=some i){v:Value}{d:DataW H}{ps:List MemPlace}(h:DataW.Trod enc P W 0 (fun _=>true) true t v d ps)(hv:Value.okWide P W r b0 t v) :
  ∃ls,kP E.cells i.cells ls/\∀rest,V2 E.cells W (A0 (fun _=>True) W) (Bu (pW E.T t) (ls++rest)) v:=by
 obtain ⟨fuel,hf⟩:=h
 obtain ⟨h1,h2⟩:=B4 hB fuel ht hf
 obtain ⟨ls,g1,g2⟩:=kE (P:=fun j l=>∃x,v.cells.toList[j]?=some x/\∀kk,i.cells[j]?=some kk->Rd E.cells W (fun b=>b<W.heap.size) kk x l/\Wf E.cells kk l) i.cells.length (fun j hj=>by
  have hk:=List.getElem?_eq_getElem hj
  obtain ⟨l,x,e1,e2,e3⟩:=h2 j _ hk
  exact ⟨l,x,e1,fun kk hkk=>by rw [hk] at hkk;injection hkk with hkk;subst hkk;exact ⟨e2,e3⟩⟩)
 have hz:∀b,b<W.heap.size->eo W (A0 (fun _=>True) W) b:=fun b hb=>⟨.inl trivial,hb,fun _ h=>h⟩
 have hrd:∀(j:Nat) (kk:K),i.cells[j]?=some kk->∃(l:L) (x:Value),ls[j]?=some l/\v.cells.toList[j]?=some x/\Rd E.cells W (eo W (A0 (fun _=>True) W)) kk x l/\Wf E.cells kk l:=by
  intro j kk hj
  obtain ⟨l,e1,x,e2,e3⟩:=g2 j (List.getElem?_eq_some_iff.1 hj).1
  exact ⟨l,x,e1,e2,(e3 kk hj).1.mono hz,(e3 kk hj).2⟩
 refine ⟨ls,⟨g1,fun j k hj=>?_⟩,fun rest=>?_⟩
 ·obtain ⟨l,x,e1,_,_,e4⟩:=hrd j k hj
  exact ⟨l,e1,e4⟩
 ·obtain ⟨ii,dd,z,k1,k2,k3,k4,k5,k6,kby,k7,k8,k9,k10,kpl,k11,k12,tX,tU,k15⟩:=tL (E:=E) (hB t i ht)
  have hF:=rS (T:=E.cells) (w:=W) (A:=A0 (fun _=>True) W) (d:=none) (fun r hr=>(nomatch hr)) i.cells ls (fun j=>v.cells.toList.getD j Go.undef) (fun j kk hj=>by
   obtain ⟨l,x,e1,e2,e3,_⟩:=hrd j kk hj
   rw [List.getD_eq_getElem?_getD,e2,List.getD_eq_getElem?_getD,e1];exact e3)
  rw [tA h1] at hF
  have hp:pW E.T t=bif i.agg then .agg i.cells else .rd (i.cells.headD .bool):=by simp [pW,ht]
  rw [hp]
  cases ha:i.agg with
  | true=>
   show V2 E.cells W _ (.agg (kr none i.cells (ls++rest))) v
   obtain ⟨fs,rfl,_⟩:=k10 ha
   obtain ⟨cs,rfl,_⟩:=okWide_struct k2 hv
   rw [mP _ _ _ _ g1]
   exact V1.v2 (v:=.agg _) ⟨cs.toList,by simp,hF⟩
  | false=>
   show V2 E.cells W _ (xZ none (i.cells.headD .bool) ((ls++rest).headD .hole)) v
   obtain ⟨hl1,_⟩:=k9 ha
   have hone:∃x,v=x/\v.cells=#[x]:=by
    match hc:i.cells,hl1 with
    | [.int k],_=>obtain ⟨n,rfl⟩:=okWide_int (k12 ha k hc ▸ k2) hv;exact ⟨_,rfl,rfl⟩
    | [.bool],_=>obtain ⟨n,rfl⟩:=okWide_bool (tX ha hc ▸ k2) hv;exact ⟨_,rfl,rfl⟩
    | [.str],_=>obtain ⟨n,rfl⟩:=okWide_string (tU ha hc ▸ k2) hv;exact ⟨_,rfl,rfl⟩
    | [.sl e],_=>
     have hel:i.el=some e:=by simp [TI.el,ha,hc]
     obtain ⟨rfl,_⟩:=k11 e hel
     obtain ⟨a,n,c,rfl⟩:=okWide_slice k2 hv;exact ⟨_,rfl,rfl⟩
   obtain ⟨x,rfl,hcx⟩:=hone
   match hc:i.cells,hl1 with
   | [k],_=>
    obtain ⟨l,y,e1,e2,e3,_⟩:=hrd 0 k (by rw [hc];rfl)
    rw [hcx] at e2
    simp at e2
    subst e2
    have :(ls++rest).headD .hole=l:=by
     rw [gY,List.getD_eq_getElem?_getD,List.getElem?_append_left (by rw [g1,hc];simp),e1];rfl
    rw [this]
    exact (sK (fun r hr=>by cases hr) e3).v2
theorem Cc (hB:∀t i,E.T t=some i->CA P E.T t i=true){t:Nat}{i:TI}(ht:E.T t=some i):(pW E.T t).n=i.cells.length:=by
 have hp:pW E.T t=bif i.agg then .agg i.cells else .rd (i.cells.headD .bool):=by simp [pW,ht]
 rw [hp]
 cases ha:i.agg with
 | true=>rfl
 | false=>
  obtain ⟨ii,dd,z,k1,k2,k3,k4,k5,k6,kby,k7,k8,k9,_⟩:=tL (E:=E) (hB t i ht)
  rw [(k9 ha).1];rfl
theorem uu (hB:∀t i,E.T t=some i->CA P E.T t i=true):∀{ts:List Nat} {vs:List Value} {ds:List (DataW H)} {ps:List MemPlace},(∀t∈ts,(E.T t).isSome=true)->DataW.TrodAll enc P W 0 (fun _=>true) true ts vs ds ps->
  (∀(j:Nat) (t:TypeId) (v:Value),ts[j]?=some t->vs[j]?=some v->Value.okWide P W r b0 t v)->∃ls,kP E.cells (ts.flatMap E.cells) ls/\F2 (V2 E.cells W (A0 (fun _=>True) W)) (iP (ts.map (pW E.T)) ls) vs
 | [],[],ds,ps,_,_,_=>⟨[],⟨rfl,fun j k hj=>by simp at hj⟩,.nil⟩
 | [],_::_,[],ps,_,h,_=>h.elim
 | [],_::_,_::_,ps,_,h,_=>h.elim
 | _::_,[],[],ps,_,h,_=>h.elim
 | _::_,[],_::_,ps,_,h,_=>h.elim
 | _::_,_::_,[],ps,_,h,_=>h.elim
 | t::ts,v::vs,d::ds,ps,hs,⟨p,q,h1,h2,_⟩,hv=>by
  obtain ⟨i,hi⟩:=Option.isSome_iff_exists.1 (hs t (by simp))
  obtain ⟨a,g1,g2⟩:=Bz hB hi h1 (hv 0 t v rfl rfl)
  obtain ⟨b,g3,g4⟩:=uu hB (fun t ht=>hs t (by simp [ht])) h2 (fun j t v h h'=>hv (j+1) t v (by simpa using h) (by simpa using h'))
  have hc:E.cells t=i.cells:=iy hi
  refine ⟨a++b,by rw [List.flatMap_cons,hc];exact g1.append g3,?_⟩
  refine .cons (g2 b) ?_
  rw [Cc hB hi,<-g1.1,iw,List.drop_left]
  exact g4
theorem ot (hl:laidOutB P=true){W':World}(hb:Below W.heap.size W W'):∀{ts:List Nat} {vs:List Value} {ds:List (DataW H)} {ps:List MemPlace},(ts.all fun t=>P.readableRec t&&decide (t<P.types.size))=true->
  DataW.TrodAll enc P W 0 (fun _=>true) true ts vs ds ps->DataW.TrodAll enc P W' 0 (fun b=>decide (b<W.heap.size)) true ts vs ds ps
 | [],[],[],ps,_,h=>h
 | [],_::_,[],ps,_,h=>h.elim
 | [],[],_::_,ps,_,h=>h.elim
 | [],_::_,_::_,ps,_,h=>h.elim
 | _::_,[],[],ps,_,h=>h.elim
 | _::_,[],_::_,ps,_,h=>h.elim
 | _::_,_::_,[],ps,_,h=>h.elim
 | t::ts,v::vs,d::ds,ps,hs,⟨p,q,h1,h2,h3⟩=>by
  simp only [List.all_cons,Bool.and_eq_true,decide_eq_true_eq] at hs
  refine ⟨p,q,Below.trod hl hs.1.1 hs.1.2 h1 hb ?_,ot hl hb (by simpa using hs.2) h2,h3⟩
  obtain ⟨fuel,hf⟩:=h1
  exact DataW.trod_lt fuel _ _ _ hf
theorem Ag {g:FuncId}{ts:List Nat}{sem:List L->Option (List L)}(hV:Valid P E g (yG E.T ts sem)){ls:List L}{vs:List Value}(hs:sem ls=some [.bool true])
  (hf:F2 (V2 E.cells W (A0 (fun _=>True) W)) (iP (ts.map (pW E.T)) ls) vs):Calls P g vs.toArray W fun e W'=>e=.returned (.bool true)/\Below W.heap.size W W':=by
 refine (hV.2.2 ls _ W vs (fun _=>True) hs hf).mono fun e W' ⟨rv,A',h1,h2,_,_,_,h3⟩=>?_
 have :rv=.bool true:=h3
 subst this
 exact ⟨h1,⟨h2.os,h2.tape,h2.output,h2.size,fun k hk=>h2.block k hk (fun h=>h)⟩⟩
end
end Go.DM
namespace Go.DM
def iter {Pt:Type}(step:(Pt->aD)->Pt->aD):Nat->Pt->aD
 | 0=>fun _=>none
 | n+1=>step (iter step n)
def sY {E:Env}{live:Nat->Live}{f:Func}{res:RP}{Pt:Type}{id:Pt->Nat}{vs:Pt->List V}{hs:Pt->List aK}{step:(Pt->aD)->Pt->aD}
  (h:∀(I:dD) (p:Pt),dU E live I (id p) (bL f) (iT (live (id p)) (vs p) (hs p)) (dA E f res)=step (fun q=>I (id q) (vs q) (hs q)) p) :
  ∀(n:Nat) (p:Pt),tK E live f res n (id p) (vs p) (hs p)=iter step n p
 | 0,_=>rfl
 | n+1,p=>by
  show dU E live (tK E live f res n) (id p) (bL f) (iT (live (id p)) (vs p) (hs p)) (dA E f res)=step (iter step n) p
  rw [h]
  congr 1
  funext q
  exact sY h n q
def dI {E:Env}{live:Nat->Live}{f:Func}{res:RP}{Pt:Type}{id:Pt->Nat}{vs:Pt->List V}{hs:Pt->List aK}{step:(Pt->aD)->Pt->aD}{s:St}{start:(Pt->aD)->aD}
  (h:∀(I:dD) (p:Pt),dU E live I (id p) (bL f) (iT (live (id p)) (vs p) (hs p)) (dA E f res)=step (fun q=>I (id q) (vs q) (hs q)) p)
  (h0:∀I:dD,gO E live I (bL f) s (dA E f res)=start (fun q=>I (id q) (vs q) (hs q))) (n:Nat):eY E live f res n s=start (iter step n):=by
 unfold eY
 rw [h0]
 congr 1
 funext q
 exact sY h n q
end Go.DM
namespace Go.DM
def zC {P:Program}{l:List (Nat×TI)}(h:eO P l=true):∀t i,(cR l).T t=some i->CA P (cR l).T t i=true:=by
 intro t i ht
 simp only [eO,List.all_eq_true] at h
 exact h (t,i) (qx ht)
def rz {H:Type}{enc:TypeId×Value->H}{P:Program}{w:World}{base:Nat}{sp:Nat->Bool}{held:Bool}:∀{ts:List TypeId} {vs:List Value} {ds:List (DataW H)} {ps:List MemPlace},DataW.TrodAll enc P w base sp held ts vs ds ps->ds.length=ts.length
 | [],[],[],_,_=>rfl
 | [],[],_::_,_,h=>h.elim
 | [],_::_,[],_,h=>h.elim
 | [],_::_,_::_,_,h=>h.elim
 | _::_,[],[],_,h=>h.elim
 | _::_,[],_::_,_,h=>h.elim
 | _::_,_::_,[],_,h=>h.elim
 | _::_,_::_,_::_,_,⟨_,_,_,h,_⟩=>by simp [rz h]
def wL {P:Program}{E:Env}{g:FuncId}{aM:gj}(he:kR P g)(hok:aM.res.ok=true)(hR:∀r,aM.res.R r=[])
  (h:∀(ls r:List L) (w:World) (vs:List Value) (Z:Nat->Prop),aM.sem ls=some r->F2 (V2 E.cells w (A0 Z w)) (iP aM.args ls) vs->
   Calls P g vs.toArray w fun e w'=>∃rv,e=.returned rv/\w'=w/\V2 E.cells w (A0 Z w) (aM.res.V r 0) rv):Valid P E g aM:=by
 refine ⟨he,hok,fun ls r w vs Z hs hf=>(h ls r w vs Z hs hf).mono fun e w' ⟨rv,h1,h2,h3⟩=>?_⟩
 subst h2
 refine ⟨rv,A0 Z w',h1,Fr.refl _ _,rfl,fun i=>?_,?_,h3⟩
 ·rw [hR];simp [A0]
 ·rw [hR]
  exact ⟨fun _ _ h=>h.elim,fun _ _ _ h=>h.elim,fun _ _=>rfl,fun _ _ h=>h.elim,Fr.refl _ _,fun _ _ h=>h.elim,fun _ h=>.inr (h.resolve_left id),fun j hj=>absurd hj (Nat.not_lt_zero j)⟩
def aF {i n:Nat}(h:i<n)(hn:n<=maxLen):IntKind.i64.wrap ((i:Int)+1)=((i+1:Nat):Int):=by
 rw [Go.IntWalk.i64_in _ (by simp only [maxLen] at hn;omega)];omega
def up {xs:aq}{Q:Nat->Prop}(h0:∀i,xs.length<=i->i=xs.length->Q i)(h1:∀i (h:i<xs.length),Q (i+1)->Q i):∀i,i<=xs.length->Q i:=by
 have key:∀k i,i+k=xs.length->Q i:=by
  intro k
  induction k with
  | zero=>intro i hi;exact h0 i (by omega) (by omega)
  | succ k ih=>intro i hi;exact h1 i (by omega) (ih (i+1) (by omega))
 exact fun i hi=>key (xs.length - i) i (by omega)
def gv (n:Nat):Int.toNat (n:Int)=n:=Eq.trans (Int.toNat_natCast n) rfl
end Go.DM
namespace Go.DM
class RT (β:Type) where
 enc:β->List L
 dec:List L->β
 n:Nat
 de:∀b rest,dec (enc b++rest)=b
 dr:∀b rest,bA n (enc b++rest)=rest
instance :RT Int:=⟨fun n=>[.int n],fun r=>(r.headD .hole).toInt,1,fun _ _=>rfl,fun _ _=>rfl⟩
instance :RT Bool:=⟨fun n=>[.bool n],fun r=>(r.headD .hole).toBool,1,fun _ _=>rfl,fun _ _=>rfl⟩
instance :RT av:=⟨fun n=>[.str n],fun r=>(r.headD .hole).toStr,1,fun _ _=>rfl,fun _ _=>rfl⟩
instance :RT (aq):=⟨fun n=>[.sl n],fun r=>(r.headD .hole).dz,1,fun _ _=>rfl,fun _ _=>rfl⟩
def uS:∀(m n:Nat) (l:List L),bA (m+n) l=bA n (bA m l)
 | 0,n,l=>by rw [Nat.zero_add];rfl
 | m+1,n,l=>by rw [show m+1+n=(m+n)+1 by omega];exact uS m n l.tail
instance {α β:Type} [RT α] [RT β]:RT (α×β):=
 ⟨fun p=>RT.enc p.1++RT.enc p.2,fun r=>(RT.dec r,RT.dec (bA (RT.n α) r)),RT.n α+RT.n β,
  fun b rest=>by simp only [List.append_assoc,RT.de,RT.dr],
  fun b rest=>by simp only [List.append_assoc,uS,RT.dr]⟩
def ret {β:Type}[RT β](b:β):aD:=some (RT.enc b)
def call {β:Type}[RT β](o:Option β)(k:β->aD):aD:=(o.map RT.enc).bind fun r=>k (RT.dec r)
def uf {β:Type}[RT β](b:β)(k:β->aD):call (some b) k=k b:=by
 have:=RT.de b []
 rw [List.append_nil] at this
 simp [call,this]
def call_eq {β:Type}[RT β]{o:Option β}{b:β}(h:o=some b)(k:β->aD):call o k=k b:=by rw [h,uf]
def gN (r:List L):Int:=(r.headD .hole).toInt
def Es (r:List L):Bool:=(r.headD .hole).toBool
def sDec (r:List L):av:=(r.headD .hole).toStr
def nR (r:List L):aq:=(r.headD .hole).dz
def jz (xs:aq)(i:Nat):Int:=gN (List.getD xs i [])
def Er (xs:aq)(i:Nat):Bool:=Es (List.getD xs i [])
def tS (xs:aq)(i:Nat):av:=sDec (List.getD xs i [])
def rK (xs:aq)(i:Nat):aq:=nR (List.getD xs i [])
def eF (s:av)(i:Nat):Int:=((List.getD s.data.toList i 0).toNat:Int)
def aV (n:Int):List L:=[.int n]
def Ad (n:Bool):List L:=[.bool n]
def dL (n:av):List L:=[.str n]
def fR {α:Type}(f:α->List L)(c:List α):List L:=[.sl (c.map f)]
def nv {a b:Int}(h:aV a=aV b):a=b:=by injection h with h;injection h
def A3 {a b:Bool}(h:Ad a=Ad b):a=b:=by injection h with h;injection h
def wJ {a b:av}(h:dL a=dL b):a=b:=by injection h with h;injection h
def map_inj {α β:Type}{f:α->β}(hf:∀{a b:α},f a=f b->a=b):∀{a b:List α},a.map f=b.map f->a=b
 | [],[],_=>rfl
 | [],_::_,h=>by cases h
 | _::_,[],h=>by cases h
 | a::as,b::bs,h=>by
  simp only [List.map_cons,List.cons.injEq] at h
  rw [hf h.1,map_inj hf h.2]
def wK {α:Type}{f:α->List L}(hf:∀{a b:α},f a=f b->a=b){a b:List α}(h:fR f a=fR f b):a=b:=by
 injection h with h;injection h with h;exact map_inj hf h
def getD_map {α:Type}{f:α->List L}{xs:List α}{i:Nat}(h:i<xs.length):List.getD (xs.map f) i []=f xs[i]:=by
 simp [List.getD_eq_getElem?_getD,h]
def ofM {A A' B:Type}(r:A->A')(g:A->Prop)(m:A->B)(x:A'):Option B:=
 open Classical in if h:∃a,r a=x/\g a then some (m (Classical.choose h)) else none
def Dc {A A' B:Type}{r:A->A'}{g:A->Prop}{m:A->B}{a:A}(hr:∀a b,r a=r b->a=b)(h:g a):ofM r g m (r a)=some (m a):=by
 have hx:∃b,r b=r a/\g b:=⟨a,rfl,h⟩
 unfold ofM
 rw [dif_pos hx,hr _ _ (Classical.choose_spec hx).1]
def mZ {A A' B:Type}{r:A->A'}{g:A->Prop}{m:A->B}{x:A'}{v:B}(h:ofM r g m x=some v):∃a,g a/\r a=x/\m a=v:=by
 unfold ofM at h
 split at h
 ·rename_i hx
  injection h with h
  exact ⟨_,(Classical.choose_spec hx).2,(Classical.choose_spec hx).1,h⟩
 ·cases h
def map_some {α β:Type}{f:α->β}{o:Option α}{b:β}(h:o.map f=some b):∃a,o=some a/\f a=b:=by
 cases o with
 | none=>cases h
 | some a=>injection h with h;exact ⟨a,rfl,h⟩
def iV {α:Type}(a b:α):Bool:=open Classical in decide (a=b)
def dO {α:Type}{a b:α}:iV a b=true↔a=b:=by simp [iV]
def pN {α:Type}(a:α):iV a a=true:=dO.2 rfl
def uw {α:Type}{a b:α}:iV a b=false↔a≠b:=by simp [iV]
def bg {α:Type}(n:Nat)(p:α->Prop)(xs:List α):Prop:=xs.length<=n/\∀x∈xs,p x
def bg.get {α:Type}{n:Nat}{p:α->Prop}{xs:List α}(h:bg n p xs){i:Nat}(hi:i<xs.length):p xs[i]:=h.2 _ (List.getElem_mem hi)
def bg.mono {α:Type}{n m:Nat}{p q:α->Prop}{xs:List α}(h:bg n p xs)(hn:n<=m)(hpq:∀x,p x->q x):bg m q xs:=⟨Nat.le_trans h.1 hn,fun x hx=>hpq x (h.2 x hx)⟩
def bg.nil {α:Type}{n:Nat}{p:α->Prop}:bg n p ([]:List α):=⟨Nat.zero_le _,fun x hx=>(nomatch hx)⟩
def zH {P:Program}{E:Env}{g:FuncId}{aM:gj}{el:Nat}(he:kR P g)(hr:aM.res=.one (.fr el))
  (h:∀(ls r:List L) (w:World) (vs:List Value) (Z:Nat->Prop),aM.sem ls=some r->F2 (V2 E.cells w (A0 Z w)) (iP aM.args ls) vs->
   Calls P g vs.toArray w fun e w'=>∃(rv:Value) (S:Nat->Prop),e=.returned rv/\Fr w w' (fun _=>False)/\(∀b,S b->w.heap.size<=b/\b<w'.heap.size)/\fQ E.cells w' S (.sl el) rv (.sl (r.headD .hole).dz)):Valid P E g aM:=by
 refine ⟨he,by rw [hr];rfl,fun ls r w vs Z hs hf=>(h ls r w vs Z hs hf).mono fun e w' ⟨rv,S,h1,h2,h3,h4⟩=>?_⟩
 have hR:aM.res.R r=[.row el (r.headD .hole).dz]:=by rw [hr];rfl
 have hV:aM.res.V r 0=.own 0:=by rw [hr];rfl
 obtain ⟨a,n,c,hsl,_⟩:=h4.Aa
 refine ⟨rv,{ v:=fun _=>rv,N:=fun i=>if i=0 then S else fun _=>False,al:=fun i=>i<1,Z:=(A0 Z w).Z },h1,h2,rfl,fun i=>by rw [hR];rfl,?_,?_⟩
 ·rw [hR]
  refine ⟨fun i b hb=>?_,fun i j b hb hb'=>?_,fun i hi=>?_,fun i=>?_,h2,fun i b hb=>?_,fun b hb=>.inr (hb.resolve_left id),fun j hj=>absurd hj (Nat.not_lt_zero j)⟩
  ·by_cases hi:i=0
   ·simp only [hi,if_true] at hb;exact (h3 b hb).2
   ·simp only [hi,if_false] at hb
  ·by_cases hi:i=0<;>by_cases hj:j=0
   ·rw [hi,hj]
   ·simp only [hj,if_false] at hb'
   ·simp only [hi,if_false] at hb
   ·simp only [hi,if_false] at hb
  ·have :i≠0:=fun e=>hi (by show i<1;omega)
   simp [dH,aI _ _ this]
  ·by_cases hi:i=0
   ·subst hi
    simp only [dH,aQ]
    exact ⟨Nat.lt_one_iff.2 rfl,by simpa using h4⟩
   ·simp only [dH,aI _ _ hi]
    intro b hb
    simp only [hi,if_false] at hb
  ·by_cases hi:i=0
   ·simp only [hi,if_true] at hb;exact .inr (h3 b hb).1
   ·simp only [hi,if_false] at hb
 ·rw [hV]
  exact V0.v2 (v:=.own 0) ⟨Nat.lt_one_iff.2 rfl,rfl,a,n,c,hsl⟩
def bQ {i n:Nat}(h:i<n):decide ((i:Int)<(n:Int))=true:=by simp [h]
def bB {i:Nat}:decide ((0:Int)<=(i:Int))=true:=by simp
end Go.DM
namespace Go.DM
def kP.BM {T:Nat->List K}{k:K}{ks:List K}{r:List L}(h:kP T (k::ks) r):∃l r',r=l::r'/\Wf T k l/\kP T ks r':=by
 match r,h with
 | [],h=>have:=h.1;simp at this
 | l::r',h=>
  obtain ⟨l',e1,e2⟩:=h.2 0 k rfl
  simp at e1
  subst e1
  exact ⟨l,r',rfl,e2,by simpa using h.1,fun j kk hj=>by simpa using h.2 (j+1) kk (by simpa using hj)⟩
def kP.CU {T:Nat->List K}{r:List L}(h:kP T [] r):r=[]:=List.eq_nil_of_length_eq_zero h.1
def Dm {T:Nat->List K}{k:IntKind}{l:L}(h:Wf T (.int k) l):∃n,l=.int n:=by cases h;exact ⟨_,rfl⟩
def Co {T:Nat->List K}{e:Nat}{ks:List K}{α:Type}{row:α->List L}{p:α->Prop}(hc:T e=ks)(hrow:∀r,kP T ks r->∃x,row x=r/\p x){l:L}(h:Wf T (.sl e) l) :
  ∃xs:List α,l=.sl (xs.map row)/\bg maxLen p xs:=by
 cases h
 rename_i xs hle hl hr
 have key:∀ys:aq,(∀r∈ys,r∈xs)->∃zs:List α,ys=zs.map row/\∀z∈zs,p z:=by
  intro ys
  induction ys with
  | nil=>intro _;exact ⟨[],rfl,fun z hz=>(nomatch hz)⟩
  | cons y ys ih=>
   intro hy
   obtain ⟨zs,e1,e2⟩:=ih fun r hr=>hy r (by simp [hr])
   obtain ⟨z,e3,e4⟩:=hrow y (by
    refine ⟨by rw [<-hc];exact hl y (hy y (by simp)),fun j kk hj=>?_⟩
    rw [<-hc] at hj
    have hjl:j<y.length:=by rw [hl y (hy y (by simp))];exact (List.getElem?_eq_some_iff.1 hj).1
    have hg:=List.getElem?_eq_getElem hjl
    exact ⟨_,hg,hr y j kk _ (hy y (by simp)) hj hg⟩)
   refine ⟨z::zs,by simp [e1,e3],fun w hw=>?_⟩
   rcases List.mem_cons.1 hw with rfl | hw
   ·exact e4
   ·exact e2 w hw
 obtain ⟨zs,e1,e2⟩:=key xs fun r hr=>hr
 exact ⟨zs,by rw [e1],by rw [e1] at hle;simpa using hle,e2⟩
def B7 {T:Nat->List K}{k:IntKind}(r:List L)(h:kP T [.int k] r):∃x,aV x=r/\True:=by
 obtain ⟨l,r',rfl,h1,h2⟩:=h.BM
 obtain ⟨n,rfl⟩:=Dm h1
 rw [h2.CU];exact ⟨n,rfl,trivial⟩
def jQ {a b:Int}:(a==b)=iV a b:=by rw [Bool.eq_iff_iff,beq_iff_eq,dO]
def bool_beq {a b:Bool}:(a==b)=iV a b:=by rw [Bool.eq_iff_iff,beq_iff_eq,dO]
def gp {a b:av}:(a==b)=iV a b:=by
 rw [Bool.eq_iff_iff,dO,beq_toListBytes,beq_iff_eq,ByteArray.toList_eq,ByteArray.toList_eq]
 constructor
 ·intro h
  obtain ⟨⟨x⟩⟩:=a
  obtain ⟨⟨y⟩⟩:=b
  simp at h
  rw [h]
 ·intro h;rw [h]
end Go.DM
namespace Go.DM
def eB {S β:Type}(f:Nat->S->S⊕β)(tail:S->β):Nat->Nat->S->β
 | 0,_,s=>tail s
 | k+1,i,s=>match f i s with
  | .inl s'=>eB f tail k (i+1) s'
  | .inr b=>b
def FF {S β:Type}(K:S->aD)(out:β->aD):S⊕β->aD
 | .inl s=>K s
 | .inr b=>out b
def aP {S β:Type}(x:aD)(K:S->aD)(out:β->aD)(P:S->Prop)(r:S⊕β):Prop:=x=FF K out r/\∀s,r=.inl s->P s
def aP.bif {S β:Type}{K:S->aD}{out:β->aD}{P:S->Prop}{c:Bool}{x y:aD}{a b:S⊕β}(h1:c=true->aP x K out P a)(h2:c=false->aP y K out P b):aP (cond c x y) K out P (cond c a b):=by
 cases c
 ·exact h2 rfl
 ·exact h1 rfl
def aP.yes {S β:Type}{K:S->aD}{out:β->aD}{P:S->Prop}{c:Bool}{x y:aD}{r:S⊕β}(hc:c=true)(h:aP x K out P r):aP (cond c x y) K out P r:=by rw [hc];exact h
def aP.call {S β γ:Type}[RT γ]{K:S->aD}{out:β->aD}{P:S->Prop}{o:Option γ}{b:γ}(h:o=some b){k:γ->aD}{r:S⊕β}(hk:aP (k b) K out P r):aP (call o k) K out P r:=by rw [call_eq h];exact hk
def aP.inl {S β:Type}{K:S->aD}{out:β->aD}{P:S->Prop}{x:aD}{s:S}(hp:P s)(h:x=K s):aP x K out P (.inl s):=⟨h,fun s' e=>by injection e with e;rw [<-e];exact hp⟩
def aP.inr {S β:Type}{K:S->aD}{out:β->aD}{P:S->Prop}{x:aD}{b:β}(h:x=out b):aP x K out P (.inr b):=⟨h,fun s' e=>by cases e⟩
def bH {Pt S β:Type}{step:(Pt->aD)->Pt->aD}{pt:Nat->S->Pt}{n:Nat}{f:Nat->S->S⊕β}{tail:S->β}{out:β->aD}(Inv:Nat->S->Prop)
  (h1:∀(J:Pt->aD) (i:Nat) (s:S),i<n->Inv i s->aP (step J (pt i s)) (fun s'=>J (pt (i+1) s')) out (Inv (i+1)) (f i s))
  (h0:∀s,Inv n s->∃m,step (iter step m) (pt n s)=out (tail s)) {s:S} (hs:Inv 0 s):∃m,iter step m (pt 0 s)=out (eB f tail n 0 s):=by
 have key:∀k i s,i+k=n->Inv i s->∃m,iter step m (pt i s)=out (eB f tail k i s):=by
  intro k
  induction k with
  | zero=>
   intro i s hi hs
   have :i=n:=by omega
   subst this
   obtain ⟨m,hm⟩:=h0 s hs
   exact ⟨m+1,hm⟩
  | succ k ih=>
   intro i s hi hs
   unfold eB
   cases hf:f i s with
   | inl s'=>
    have h:=h1 (fun _=>none) i s (by omega) hs
    obtain ⟨m,hm⟩:=ih (i+1) s' (by omega) (h.2 s' hf)
    refine ⟨m+1,?_⟩
    have h:=(h1 (iter step m) i s (by omega) hs).1
    rw [hf] at h
    exact h.trans hm
   | inr b=>
    refine ⟨1,?_⟩
    have h:=(h1 (iter step 0) i s (by omega) hs).1
    rw [hf] at h
    exact h
 exact key n 0 s (by omega) hs
def gE {β:Type}(out:β->aD){c:Bool}{x y:Nat->aD}{a b:β}(h1:c=true->∃n,x n=out a)(h2:c=false->∃n,y n=out b):∃n,(cond c (x n) (y n))=out (cond c a b):=by
 cases c
 ·exact h2 rfl
 ·exact h1 rfl
def dP {c:Bool}{x y:Nat->aD}{r:aD}(hc:c=true)(h:∃n,x n=r):∃n,(cond c (x n) (y n))=r:=by subst hc;exact h
def cL {c:Bool}{x y:Nat->aD}{r:aD}(hc:c=false)(h:∃n,y n=r):∃n,(cond c (x n) (y n))=r:=by subst hc;exact h
def Ch {γ:Type}[RT γ]{o:Option γ}{b:γ}(h:o=some b){k:Nat->γ->aD}{r:aD}(hk:∃n,k n b=r):∃n,call o (k n)=r:=by
 obtain ⟨n,hn⟩:=hk
 exact ⟨n,by rw [call_eq h];exact hn⟩
def bM {β:Type}(out:β->aD){c:Bool}{x y:aD}{a b:β}(h1:c=true->x=out a)(h2:c=false->y=out b):(cond c x y)=out (cond c a b):=by
 cases c
 ·exact h2 rfl
 ·exact h1 rfl
def aG {c:Bool}{x y r:aD}(hc:c=true)(h:x=r):(cond c x y)=r:=by subst hc;exact h
def fH {α:Type}{xs:List α}{i:Nat}{z:α}(h:i<xs.length):xs.getD i z=xs[i]:=by simp [List.getD,h]
def jm {α:Type}{xs:List α}{i:Nat}{z:α}(h:¬i<xs.length):xs.getD i z=z:=by simp [List.getD];rw [List.getElem?_eq_none (by omega)];rfl
def iu {xs:List Int}{i:Nat}:jz (xs.map aV) i=xs.getD i 0:=by
 unfold jz
 by_cases h:i<xs.length
 ·rw [getD_map h,fH h];rfl
 ·rw [jm (by simpa using h),jm h];rfl
def Bp {xs:List Bool}{i:Nat}:Er (xs.map Ad) i=xs.getD i false:=by
 unfold Er
 by_cases h:i<xs.length
 ·rw [getD_map h,fH h];rfl
 ·rw [jm (by simpa using h),jm h];rfl
def BN {xs:List av}{i:Nat}:tS (xs.map dL) i=xs.getD i ⟨#[]⟩:=by
 unfold tS
 by_cases h:i<xs.length
 ·rw [getD_map h,fH h];rfl
 ·rw [jm (by simpa using h),jm h];rfl
def sJ {α:Type}{f:α->List L}{xs:List (List α)}{i:Nat}:rK (xs.map (fR f)) i=(xs.getD i []).map f:=by
 unfold rK
 by_cases h:i<xs.length
 ·rw [getD_map h,fH h];rfl
 ·rw [jm (by simpa using h),jm h];rfl
def eP {α β:Type}{row:α->List L}{dec:List L->β}{r:α->β}{z:α}{xs:List α}{i:Nat}(h1:∀x,dec (row x)=r x)(h2:dec []=r z):dec (List.getD (xs.map row) i [])=r (xs.getD i z):=by
 by_cases h:i<xs.length
 ·rw [getD_map h,fH h,h1]
 ·rw [jm (by simpa using h),jm h,h2]
def bg.getD {α:Type}{n:Nat}{p:α->Prop}{xs:List α}(h:bg n p xs){i:Nat}{z:α}(hi:i<xs.length):p (xs.getD i z):=by
 rw [fH hi];exact h.get hi
def wD {S β:Type}{f g:Nat->S->S⊕β}{t u:S->β}{n:Nat}(Inv:Nat->S->Prop)(h1:∀i s,i<n->Inv i s->f i s=g i s/\∀s',f i s=.inl s'->Inv (i+1) s')(h0:∀s,Inv n s->t s=u s){s:S}(hs:Inv 0 s):eB f t n 0 s=eB g u n 0 s:=by
 have key:∀k i s,i+k=n->Inv i s->eB f t k i s=eB g u k i s:=by
  intro k
  induction k with
  | zero=>
   intro i s hi hs
   have :i=n:=by omega
   subst this
   exact h0 s hs
  | succ k ih=>
   intro i s hi hs
   obtain ⟨e,p⟩:=h1 i s (by omega) hs
   unfold eB
   rw [<-e]
   cases hf:f i s with
   | inl s'=>exact ih (i+1) s' (by omega) (p s' hf)
   | inr b=>rfl
 exact key n 0 s (by omega) hs
def iR {α:Type}{xs ys:List α}(z:α){f:Nat->Unit->Unit⊕Bool}{tail:Unit->Bool}(hf:∀i s,i<xs.length->i<ys.length->f i s=bif iV (xs.getD i z) (ys.getD i z) then .inl s else .inr false)(ht:∀s,tail s=true) :
  (cond ((xs.length:Int) != (ys.length:Int)) false (eB f tail xs.length 0 ()))=iV xs ys:=by
 by_cases hl:xs.length=ys.length
 ·rw [hl,bne_self_eq_false,aR,<-hl]
  have key:∀k i,i+k=xs.length->eB f tail k i ()=iV (xs.drop i) (ys.drop i):=by
   intro k
   induction k with
   | zero=>
    intro i hi
    have :i=xs.length:=by omega
    subst this
    unfold eB
    rw [ht,List.drop_eq_nil_of_le (Nat.le_refl _),List.drop_eq_nil_of_le (by omega),pN]
   | succ k ih=>
    intro i hi
    have h1:i<xs.length:=by omega
    have h2:i<ys.length:=by omega
    unfold eB
    rw [hf i () h1 h2,fH h1,fH h2,List.drop_eq_getElem_cons h1,List.drop_eq_getElem_cons h2]
    cases hc:iV xs[i] ys[i]
    ·have :iV (xs[i]::xs.drop (i+1)) (ys[i]::ys.drop (i+1))=false:=by
      rw [uw] at hc ⊢
      intro h;injection h with h;exact hc h
     rw [this];rfl
    ·show eB f tail k (i+1) ()=_
     rw [ih (i+1) (by omega)]
     rw [dO] at hc
     rw [Bool.eq_iff_iff,dO,dO,hc]
     constructor
     ·intro h;rw [h]
     ·intro h;injection h
  simpa using key xs.length 0 (by omega)
 ·have h2:((xs.length:Int) != (ys.length:Int))=true:=by simpa using fun h=>hl (by omega)
  have h3:iV xs ys=false:=uw.2 fun h=>hl (by rw [h])
  rw [h2,h3];rfl
end Go.DM
namespace Go.DM
def eH {c:Bool}{x y r:aD}(hc:c=false)(h:y=r):(cond c x y)=r:=by subst hc;exact h
def mO {a:aD}:either a a=a:=by simp [either]
def ex_eq {β:Type}{out:β->aD}{x:Nat->aD}{a b:β}(h:a=b)(k:∃n,x n=out a):∃n,x n=out b:=h ▸ k
def cG {γ:Type}[RT γ]{o:Option γ}{k:γ->aD}{r:aD}(b:γ)(h:o=some b)(hk:k b=r):call o k=r:=(call_eq h k).trans hk
def fu {γ:Type}[RT γ]{o:Option γ}{k:Nat->γ->aD}{r:aD}(b:γ)(h:o=some b)(hk:∃n,k n b=r):∃n,call o (k n)=r:=Ch h hk
def aP.cG {S β γ:Type}[RT γ]{K:S->aD}{out:β->aD}{P:S->Prop}{o:Option γ}{k:γ->aD}{r:S⊕β}(b:γ)(h:o=some b)(hk:aP (k b) K out P r):aP (DM.call o k) K out P r:=aP.call h hk
def dY {α S β:Type}(f:Nat->α->S->S⊕β)(t:S->β):Nat->List α->S->β
 | _,[],s=>t s
 | i,x::xs,s=>match f i x s with
  | .inl s'=>dY f t (i+1) xs s'
  | .inr b=>b
def dM {α S β:Type}(f:α->S->S⊕β)(t:S->β):List α->S->β
 | [],s=>t s
 | x::xs,s=>match f x s with
  | .inl s'=>dM f t xs s'
  | .inr b=>b
def cK {α S β:Type}{f:Nat->α->S->S⊕β}{t:S->β}{xs:List α}{z:α}{s:S}:eB (fun i s=>f i (xs.getD i z) s) t xs.length 0 s=dY f t 0 xs s:=by
 have key:∀(k i:Nat) (s:S),i+k=xs.length->eB (fun i s=>f i (xs.getD i z) s) t k i s=dY f t i (xs.drop i) s:=by
  intro k
  induction k with
  | zero=>
   intro i s hi
   have :i=xs.length:=by omega
   subst this
   rw [List.drop_eq_nil_of_le (Nat.le_refl _)];rfl
  | succ k ih=>
   intro i s hi
   have hlt:i<xs.length:=by omega
   rw [List.drop_eq_getElem_cons hlt]
   unfold eB dY
   rw [fH hlt]
   cases f i xs[i] s with
   | inl s'=>exact ih (i+1) s' (by omega)
   | inr b=>rfl
 simpa using key xs.length 0 s (by omega)
def rF {α S β:Type}{f:α->S->S⊕β}{t:S->β}:∀{xs:List α} {i:Nat} {s:S},dY (fun _ x s=>f x s) t i xs s=dM f t xs s
 | [],_,_=>rfl
 | x::xs,i,s=>by
  unfold dY dM
  cases f x s with
  | inl s'=>exact rF
  | inr b=>rfl
def dZ {α S β:Type}{f:α->S->S⊕β}{t:S->β}{xs:List α}{z:α}{s:S}:eB (fun i s=>f (xs.getD i z) s) t xs.length 0 s=dM f t xs s:=
 (cK (f:=fun _ x s=>f x s)).trans rF
def uI {α γ β:Type}{g:α->γ}{t:List γ->β}:∀{xs:List α} {s:List γ},dM (fun x s=>.inl (s++[g x])) t xs s=t (s++xs.map g)
 | [],s=>by simp [dM]
 | x::xs,s=>by
  show dM (fun x s=>Sum.inl (s++[g x])) t xs (s++[g x])=_
  rw [uI];simp
def nI {α γ β:Type}{xs:List α}{g:α->γ}{z:α}{t:List γ->β}{s:List γ}:eB (fun i s=>.inl (s++[g (xs.getD i z)])) t xs.length 0 s=t (s++xs.map g):=
 (dZ (f:=fun x s=>.inl (s++[g x]))).trans uI
def sP {α γ β:Type}{g:α->List γ}{t:List γ->β}:∀{xs:List α} {s:List γ},dM (fun x s=>.inl (s++g x)) t xs s=t (s++xs.flatMap g)
 | [],s=>by simp [dM]
 | x::xs,s=>by
  show dM (fun x s=>Sum.inl (s++g x)) t xs (s++g x)=_
  rw [sP];simp
def sB {α γ β:Type}{xs:List α}{g:α->List γ}{z:α}{t:List γ->β}{s:List γ}:eB (fun i s=>.inl (s++g (xs.getD i z))) t xs.length 0 s=t (s++xs.flatMap g):=
 (dZ (f:=fun x s=>.inl (s++g x))).trans sP
def mD {α γ:Type}{g:α->List γ}{n:Nat}:∀{xs:List α},(∀x∈xs,(g x).length<=n)->(xs.flatMap g).length<=xs.length*n
 | [],_=>by simp
 | x::xs,h=>by
  have h1:=h x (by simp)
  have h2:=mD (xs:=xs) fun y hy=>h y (by simp [hy])
  simp only [List.flatMap_cons,List.length_append,List.length_cons,Nat.succ_mul]
  omega
def ox {α γ β:Type}{xs:List α}{g:α->γ}{z:α}{t:List γ->β}:eB (fun i s=>.inl (s++[g (xs.getD i z)])) t xs.length 0 []=t (xs.map g):=by
 have:=nI (xs:=xs) (g:=g) (z:=z) (t:=t) (s:=[])
 simpa using this
def gZ {α β:Type}{xs:List α}{z:α}{t:List α->β}:eB (fun i s=>.inl (s++[xs.getD i z])) t xs.length 0 []=t xs:=by
 have:=nI (xs:=xs) (g:=fun x=>x) (z:=z) (t:=t) (s:=[])
 simpa using this
def rD {α S β:Type}{f g:α->S->S⊕β}{t u:S->β}{xs:List α}{s:S}(h:∀x∈xs,∀s,f x s=g x s)(h0:∀s,t s=u s):dM f t xs s=dM g u xs s:=by
 induction xs generalizing s with
 | nil=>exact h0 s
 | cons x xs ih=>
  unfold dM
  rw [h x (by simp)]
  cases g x s with
  | inl s'=>exact ih fun y hy=>h y (by simp [hy])
  | inr b=>rfl
def nF {α β:Type}{p:α->Bool}{b c:β}:∀{xs:List α} {s:Unit},dM (fun x s=>bif p x then .inr b else .inl s) (fun _=>c) xs s=bif xs.any p then b else c
 | [],_=>rfl
 | x::xs,s=>by
  unfold dM
  rw [List.any_cons]
  cases p x
  ·exact nF
  ·rfl
def iD {α:Type}(p:α->Bool):Nat->List α->Int
 | _,[]=>-1
 | i,x::xs=>bif p x then (i:Int) else iD p (i+1) xs
def jg {α:Type}{p:α->Bool}:∀{xs:List α} {i:Nat} {s:Unit},dY (fun i x s=>bif p x then .inr (i:Int) else .inl s) (fun _=>(-1:Int)) i xs s=iD p i xs
 | [],_,_=>rfl
 | x::xs,i,s=>by
  unfold dY iD
  cases p x
  ·exact jg
  ·rfl
def uF {α:Type}{p:α->Bool}:∀{xs:List α} {i:Nat},decide (iD p i xs<0)=!(xs.any p)
 | [],i=>rfl
 | x::xs,i=>by
  unfold iD
  rw [List.any_cons]
  cases p x
  ·exact uF
  ·simp
end Go.DM
namespace Go.DM
def lg (s:av):List Int:=s.data.toList.map fun b=>(b.toNat:Int)
def yt (s:av):iY s=(lg s).map aV:=by simp [iY,lg,aV]
def ir (s:av):(lg s).length=s.size:=by simp [lg]
def tT (s:av):(iY s).length=s.size:=by simp [iY]
def iZ {f:Nat->Unit->Unit⊕Bool}{t:Unit->Bool}{n:Nat}(P:Nat->Prop)(h1:∀i,i<n->P i->f i ()=.inl ())(h2:∀i,i<n->¬P i->f i ()=.inr false):eB f t n 0 ()=true↔(∀i,i<n->P i)/\t ()=true:=by
 have key:∀k i,i+k=n->(eB f t k i ()=true↔(∀j,i<=j->j<n->P j)/\t ()=true):=by
  intro k
  induction k with
  | zero=>
   intro i hi
   constructor
   ·intro h;exact ⟨fun j h1 h2=>by omega,h⟩
   ·intro h;exact h.2
  | succ k ih=>
   intro i hi
   unfold eB
   by_cases hp:P i
   ·rw [h1 i (by omega) hp]
    show eB f t k (i+1) ()=true↔_
    rw [ih (i+1) (by omega)]
    constructor
    ·intro ⟨h,ht⟩
     refine ⟨fun j h1 h2=>?_,ht⟩
     by_cases hj:j=i
     ·subst hj;exact hp
     ·exact h j (by omega) h2
    ·intro ⟨h,ht⟩;exact ⟨fun j h1 h2=>h j (by omega) h2,ht⟩
   ·rw [h2 i (by omega) hp]
    constructor
    ·intro h;cases h
    ·intro ⟨h,_⟩;exact (hp (h i (Nat.le_refl _) (by omega))).elim
 rw [key n 0 (by omega)]
 simp
end Go.DM
namespace Go.DM
def tj {S β:Type}{f:Nat->S->S⊕β}{t:S->β}{k i:Nat}{s:S}:eB f t (k+1) i s=match f i s with | .inl s'=>eB f t k (i+1) s' | .inr b=>b:=rfl
def dy {Pt:Type}{step:(Pt->aD)->Pt->aD}{p q:Pt}{r:aD}(h:q=p)(k:∃n,iter step n p=r):∃n,iter step n q=r:=h ▸ k
def xQ {Pt S β:Type}{step:(Pt->aD)->Pt->aD}{pt:Nat->S->Pt}{n:Nat}{f:Nat->S->S⊕β}{tail:S->β}{out:β->aD}(Inv:Nat->S->Prop)
  (h1:∀(i:Nat) (s:S),i<n->Inv i s->∀K:S⊕β->aD,(∀s',Inv (i+1) s'->∃m,iter step m (pt (i+1) s')=K (.inl s'))->(∀b,K (.inr b)=out b)->∃m,step (iter step m) (pt i s)=K (f i s))
  (h0:∀s,Inv n s->∃m,step (iter step m) (pt n s)=out (tail s)) {s:S} (hs:Inv 0 s):∃m,iter step m (pt 0 s)=out (eB f tail n 0 s):=by
 have key:∀k i s,i+k=n->Inv i s->∃m,iter step m (pt i s)=out (eB f tail k i s):=by
  intro k
  induction k with
  | zero=>
   intro i s hi hs
   have :i=n:=by omega
   subst this
   obtain ⟨m,hm⟩:=h0 s hs
   exact ⟨m+1,hm⟩
  | succ k ih=>
   intro i s hi hs
   obtain ⟨m,hm⟩:=h1 i s (by omega) hs (fun r=>out (match r with | .inl s'=>eB f tail k (i+1) s' | .inr b=>b)) (fun s' hs'=>ih (i+1) s' (by omega) hs') (fun b=>rfl)
   refine ⟨m+1,hm.trans ?_⟩
   rw [tj]
 exact key n 0 s (by omega) hs
def wm {α:Type}{f:Nat->α->Unit->Unit⊕Int}(h:∀i x s b,f i x s=.inr b->b=(i:Int)):∀(xs:List α) (i:Nat) (s:Unit),-1<=dY f (fun _=>(-1:Int)) i xs s/\dY f (fun _=>(-1:Int)) i xs s<(i:Int)+xs.length
 | [],i,s=>by simp only [dY,List.length_nil];omega
 | x::xs,i,s=>by
  unfold dY
  cases hf:f i x s with
  | inl s'=>
   have:=wm h xs (i+1) s'
   simp only [List.length_cons]
   omega
  | inr b=>
   have:=h i x s b hf
   simp only [List.length_cons]
   omega
end Go.DM
namespace Go.DM
def jV {α:Type}{f:Nat->α->Unit->Unit⊕Int}(h:∀i x s b,f i x s=.inr b->b=(i:Int))(xs:List α)(s:Unit):-1<=dY f (fun _=>(-1:Int)) 0 xs s/\dY f (fun _=>(-1:Int)) 0 xs s<(xs.length:Int):=by
 have:=wm h xs 0 s
 simpa using this
def rX {α:Type}{p:α->Bool}{xs:List α}:decide (iD p 0 xs>=0)=xs.any p:=by
 have:=uF (p:=p) (xs:=xs) (i:=0)
 cases h:xs.any p<;>rw [h] at this<;>simp at this ⊢<;>omega
end Go.DM
namespace Go.DM
def kL {α S β:Type}{f:Nat->α->S->S⊕β}{c:β}(h:∀i x s b,f i x s=.inr b->b=c):∀(xs:List α) (i:Nat) (s:S),dY f (fun _=>c) i xs s=c
 | [],_,_=>rfl
 | x::xs,i,s=>by
  unfold dY
  cases hf:f i x s with
  | inl s'=>exact kL h xs _ _
  | inr b=>exact h _ _ _ _ hf
def qZ {S β:Type}{f:Nat->S->S⊕β}{c:β}(h:∀i s b,f i s=.inr b->b=c):∀(k i:Nat) (s:S),eB f (fun _=>c) k i s=c
 | 0,_,_=>rfl
 | k+1,i,s=>by
  rw [tj]
  cases hf:f i s with
  | inl s'=>exact qZ h k _ _
  | inr b=>exact h _ _ _ hf
end Go.DM
namespace Go.DM
def kJ {α:Type}{f:Nat->α->Unit->Unit⊕Int}{p:α->Bool}(h:∀i x s,f i x s=bif p x then .inr (i:Int) else .inl ()):∀(xs:List α) (i:Nat) (s:Unit),dY f (fun _=>(-1:Int)) i xs s=iD p i xs
 | [],_,_=>rfl
 | x::xs,i,s=>by
  unfold dY iD
  rw [h]
  cases p x
  ·exact kJ h xs _ _
  ·rfl
def Ec {b c:Bool}:(cond (!b) false c)=(b&&c):=by cases b<;>rfl
def CR {b c:Bool}:(cond b c false)=(b&&c):=by cases b<;>rfl
end Go.DM
namespace Go.DM
def oK {α β:Type}{f:α->Unit->Unit⊕β}{p:α->Bool}{b c:β}(h:∀x s,f x s=bif p x then .inr b else .inl ()):∀(xs:List α) (s:Unit),dM f (fun _=>c) xs s=bif xs.any p then b else c
 | [],_=>rfl
 | x::xs,s=>by
  unfold dM
  rw [List.any_cons,h]
  cases p x
  ·exact oK h xs ()
  ·rfl
def uW {α:Type}{f:Nat->α->Unit->Unit⊕Int}{z:α}(h:∀i x s b,f i x s=.inr b->b=(i:Int)){xs:List α}(hn:dY f (fun _=>(-1:Int)) 0 xs ()<0):∀i,i<xs.length->f i (xs.getD i z) ()=.inl ():=by
 have key:∀(ys:List α) (k:Nat),dY f (fun _=>(-1:Int)) k ys ()<0->∀i,i<ys.length->f (k+i) (ys.getD i z) ()=.inl ():=by
  intro ys
  induction ys with
  | nil=>intro k _ i hi;simp at hi
  | cons y ys ih=>
   intro k hk i hi
   unfold dY at hk
   cases hf:f k y () with
   | inr b=>
    rw [hf] at hk
    have:=h k y () b hf
    simp only at hk
    omega
   | inl s'=>
    rw [hf] at hk
    cases i with
    | zero=>simpa using hf
    | succ i=>
     have:=ih (k+1) hk i (by simpa using hi)
     rw [show k+1+i=k+(i+1) by omega] at this
     simpa using this
 intro i hi
 have:=key xs 0 hn i hi
 simpa using this
end Go.DM
namespace Go.DM
end Go.DM
namespace Go.DM
class Row (α:Type) where
 row:α->List L
 DU:∀{a b:α},row a=row b->a=b
class Im (α:Type) (β:outParam Type) where
 im:α->β
 inj:∀{a b:α},im a=im b->a=b
instance :Row Int:=⟨aV,nv⟩
instance :Row Bool:=⟨Ad,A3⟩
instance :Row av:=⟨dL,wJ⟩
instance {α:Type} [Row α]:Row (List α):=⟨fR Row.row,wK Row.DU⟩
instance :Im Int Int:=⟨fun x=>x,fun h=>h⟩
instance :Im Bool Bool:=⟨fun x=>x,fun h=>h⟩
instance :Im av av:=⟨fun x=>x,fun h=>h⟩
instance :Im Unit Unit:=⟨fun x=>x,fun h=>h⟩
instance {α:Type} [Row α]:Im (List α) (aq):=⟨fun x=>x.map Row.row,fun h=>map_inj Row.DU h⟩
instance {α α' β β':Type} [Im α α'] [Im β β']:Im (α×β) (α'×β'):=⟨fun x=>(Im.im x.1,Im.im x.2),fun h=>Prod.ext (Im.inj (congrArg (fun x=>x.1) h)) (Im.inj (congrArg (fun x=>x.2) h))⟩
def u2 {a b r:Type}(f:a->b->r)(x:a×b):r:=f x.1 x.2
def u3 {a b c r:Type}(f:a->b->c->r)(x:a×b×c):r:=f x.1 x.2.1 x.2.2
def u4 {a b c d r:Type}(f:a->b->c->d->r)(x:a×b×c×d):r:=f x.1 x.2.1 x.2.2.1 x.2.2.2
def u5 {a b c d e r:Type}(f:a->b->c->d->e->r)(x:a×b×c×d×e):r:=f x.1 x.2.1 x.2.2.1 x.2.2.2.1 x.2.2.2.2
def p2 {a b:Type}(f:a->b->Prop)(x:a×b):Prop:=f x.1 x.2
def p3 {a b c:Type}(f:a->b->c->Prop)(x:a×b×c):Prop:=f x.1 x.2.1 x.2.2
def p4 {a b c d:Type}(f:a->b->c->d->Prop)(x:a×b×c×d):Prop:=f x.1 x.2.1 x.2.2.1 x.2.2.2
def p5 {a b c d e:Type}(f:a->b->c->d->e->Prop)(x:a×b×c×d×e):Prop:=f x.1 x.2.1 x.2.2.1 x.2.2.2.1 x.2.2.2.2
def p6 {a b c d e g:Type}(f:a->b->c->d->e->g->Prop)(x:a×b×c×d×e×g):Prop:=f x.1 x.2.1 x.2.2.1 x.2.2.2.1 x.2.2.2.2.1 x.2.2.2.2.2
def p7 {a b c d e g h:Type}(f:a->b->c->d->e->g->h->Prop)(x:a×b×c×d×e×g×h):Prop:=f x.1 x.2.1 x.2.2.1 x.2.2.2.1 x.2.2.2.2.1 x.2.2.2.2.2.1 x.2.2.2.2.2.2
section
variable {A A' B B':Type} [Im A A'] [Im B B'] {g:A->Prop} {m:A->B}
def RR (g:A->Prop)(m:A->B)(x:A'):Option B':=ofM Im.im g (fun a=>Im.im (m a)) x
theorem xB {a:A}(h:g a):RR g m (Im.im a)=some (Im.im (m a)):=Dc (fun _ _ h=>Im.inj h) h
def CN [RT B'](ps:List fF)(r:RP)(acc:List L->A')(R:A'->Option B'):gj:=⟨ps,r,fun ls=>(R (acc ls)).map RT.enc⟩
theorem VP [RT B']{X:Type}{P:Program}{T:List (Nat×TI)}{G:List (Nat×gj)}{nt:Nat}{f:FuncId}{fn:Func}{ps:List fF}{r:RP}{acc:List L->A'}{accr:List L->X}{live:Nat->Live}{run:Nat->X->aD}
  (hm:P.follows .mixedOrders=true) (hT:eO P T=true) (hG:fD P (cR T) G) (hf:P.funcs[f]?=some fn) (hb:tR fn (CN ps r acc (RR g m)) nt=true)
  (hrun:∀n ls,eY { T:=assoc T,G:=cZ G,nt:=nt } live fn r n (dJ ps ls)=run n (accr ls))
  (hok:∀ls a,rN (cR T).cells ps ls->acc ls=Im.im a->g a->∃n,run n (accr ls)=ret (Im.im (m a))):Valid P (cR T) f (CN ps r acc (RR g m)):=
 valid hm hT hG hf hb live fun ls q hl h=>by
  obtain ⟨v,hv,hq⟩:=map_some h
  obtain ⟨a,hg,e,hm⟩:=mZ hv
  obtain ⟨n,hn⟩:=hok ls a hl e.symm hg
  exact ⟨n,(hrun n ls).trans (hn.trans (by rw [<-hq,<-hm];rfl))⟩
theorem VV [RT B']{P:Program}{T:List (Nat×TI)}{G:List (Nat×gj)}{nt:Nat}{f:FuncId}{fn:Func}{ps:List fF}{r:RP}{acc:List L->A'}{live:Nat->Live}{run:Nat->A'->aD}
  (hm:P.follows .mixedOrders=true) (hT:eO P T=true) (hG:fD P (cR T) G) (hf:P.funcs[f]?=some fn) (hb:tR fn (CN ps r acc (RR g m)) nt=true)
  (hrun:∀n ls,eY { T:=assoc T,G:=cZ G,nt:=nt } live fn r n (dJ ps ls)=run n (acc ls))
  (hok:∀ls a,rN (cR T).cells ps ls->acc ls=Im.im a->g a->∃n,run n (Im.im a)=ret (Im.im (m a))):Valid P (cR T) f (CN ps r acc (RR g m)):=
 VP hm hT hG hf hb hrun fun ls a hl e hg=>by rw [e];exact hok ls a hl e hg
theorem VS [RT B']{P:Program}{T:List (Nat×TI)}{G:List (Nat×gj)}{S:List (Nat×mB)}{nt:Nat}{f:FuncId}{fn:Func}{ps:List fF}{r:RP}{acc:List L->A'}{live:Nat->Live}{run:Nat->A'->aD}
  (hm:P.follows .mixedOrders=true) (hT:eO P T=true) (hG:fD P (cR T) G) (hS:jH P (cR T) S) (hf:P.funcs[f]?=some fn) (hb:tR fn (CN ps r acc (RR g m)) nt=true)
  (hrun:∀n ls,eY { T:=assoc T,G:=cZ G,nt:=nt,M:=ff S } live fn r n (dJ ps ls)=run n (acc ls))
  (hok:∀ls a,rN (cR T).cells ps ls->acc ls=Im.im a->g a->∃n,run n (Im.im a)=ret (Im.im (m a))):Valid P (cR T) f (CN ps r acc (RR g m)):=
 vu hm hT hG hS hf hb live fun ls q hl h=>by
  obtain ⟨v,hv,hq⟩:=map_some h
  obtain ⟨a,hg,e,hm⟩:=mZ hv
  obtain ⟨n,hn⟩:=hok ls a hl e.symm hg
  exact ⟨n,(hrun n ls).trans (by rw [<-e];exact hn.trans (by rw [<-hq,<-hm];rfl))⟩
theorem VI [RT B']{P:Program}{T:List (Nat×TI)}{G:List (Nat×gj)}{S:List (Nat×mB)}{I:List (Nat×gA)}{nt:Nat}{mt:Bool}{J:List Nat}{f:FuncId}{fn:Func}{ps:List fF}{r:RP}{acc:List L->A'}{live:Nat->Live}{run:Nat->A'->aD}
  (hm:P.follows .mixedOrders=true) (hT:eO P T=true) (hG:fD P (cR T) G) (hS:jH P (cR T) S) (hI:lU P (cR T) 0 I) (hf:P.funcs[f]?=some fn) (hb:tR fn (CN ps r acc (RR g m)) nt=true)
  (hrun:∀n ls,eY { T:=assoc T,G:=cZ G,nt:=nt,M:=ff S,mt:=mt,I:=gy I,J:=J } live fn r n (dJ ps ls)=run n (acc ls))
  (hok:∀ls a,rN (cR T).cells ps ls->acc ls=Im.im a->g a->∃n,run n (Im.im a)=ret (Im.im (m a))):Valid P (cR T) f (CN ps r acc (RR g m)):=
 vT hm hT hG hS hI hf hb live fun ls q hl h=>by
  obtain ⟨v,hv,hq⟩:=map_some h
  obtain ⟨a,hg,e,hm⟩:=mZ hv
  obtain ⟨n,hn⟩:=hok ls a hl e.symm hg
  exact ⟨n,(hrun n ls).trans (by rw [<-e];exact hn.trans (by rw [<-hq,<-hm];rfl))⟩
theorem VT [RT B']{P:Program}{T:List (Nat×TI)}{G:List (Nat×gj)}{S:List (Nat×mB)}{nt:Nat}{f:FuncId}{fn:Func}{ps:List fF}{r:RP}{acc:List L->A'}{live:Nat->Live}{run:Nat->A'->aD}
  (hm:P.follows .mixedOrders=true) (hT:eO P T=true) (hG:fD P (cR T) G) (hS:jH P (cR T) S) (hf:P.funcs[f]?=some fn) (hb:tR fn (CN ps r acc (RR g m)) nt=true)
  (hrun:∀n ls,eY { T:=assoc T,G:=cZ G,nt:=nt,M:=ff S,mt:=true } live fn r n (dJ ps ls)=run n (acc ls))
  (hok:∀ls a,rN (cR T).cells ps ls->acc ls=Im.im a->g a->∃n,run n (Im.im a)=ret (Im.im (m a))):Valid P (cR T) f (CN ps r acc (RR g m)):=
 vu hm hT hG hS hf hb live fun ls q hl h=>by
  obtain ⟨v,hv,hq⟩:=map_some h
  obtain ⟨a,hg,e,hm⟩:=mZ hv
  obtain ⟨n,hn⟩:=hok ls a hl e.symm hg
  exact ⟨n,(hrun n ls).trans (by rw [<-e];exact hn.trans (by rw [<-hq,<-hm];rfl))⟩
end
def S0:(∀(α β:Type) (f:α->β) (l:List α),(l.map f).length=l.length)/\(∀n:Nat,Int.toNat (n:Int)=n)/\(∀s:av,iY s=(lg s).map aV)/\(∀(xs:List Int) i,jz (xs.map aV) i=xs.getD i 0)/\
  (∀(xs:List Bool) i,Er (xs.map Ad) i=xs.getD i false)/\(∀(xs:List av) i,tS (xs.map dL) i=xs.getD i ⟨#[]⟩)/\(∀(α:Type) (f:α->List L) (xs:List (List α)) i,rK (xs.map (fR f)) i=(xs.getD i []).map f):=
 ⟨fun _ _ _ _=>List.length_map ..,gv,yt,fun _ _=>iu,fun _ _=>Bp,fun _ _=>BN,fun _ _ _ _=>sJ⟩
def MP:(∀(α β:Type) (f:α->β) (a b:List α),(a++b).map f=a.map f++b.map f)/\(∀(α β:Type) (f:α->β) (a:α) (b:List α),(a::b).map f=f a::b.map f)/\(∀(α β:Type) (f:α->β),[].map f=[])/\
  (∀(α:Type) (a:α) (b c:List α),(a::b)++c=a::(b++c))/\(∀(α:Type) (c:List α),[]++c=c)/\(∀n,aV n=[.int n])/\(∀n,Ad n=[.bool n])/\(∀n,dL n=[.str n])/\(∀(α:Type) (f:α->List L) (c:List α),fR f c=[.sl (c.map f)])/\
  (∀(α β:Type) (f:α->β) (l:List α) (i:Nat) (a:α),(l.set i a).map f=(l.map f).set i (f a))/\(∀(α β:Type) (f:α->β) (l:List α) (i:Nat),(l.take i).map f=(l.map f).take i)/\(∀(α β:Type) (f:α->β) (l:List α) (i:Nat),(l.drop i).map f=(l.map f).drop i):=
 ⟨fun _ _ _ _ _=>List.map_append ..,fun _ _ _ _ _=>rfl,fun _ _ _=>rfl,fun _ _ _ _=>rfl,fun _ _=>rfl,fun _=>rfl,fun _=>rfl,fun _=>rfl,fun _ _ _=>rfl,fun _ _ _ _ _ _=>List.map_set ..,fun _ _ _ _ _=>List.map_take ..,fun _ _ _ _ _=>List.map_drop ..⟩
def LN:(∀(a:Nat) (l:List Nat),(a::l).sum=a+l.sum)/\(([]:List Nat).sum=0)/\(∀(α β:Type) (f:α->β) (a:α) (b:List α),(a::b).map f=f a::b.map f)/\(∀(α β:Type) (f:α->β),[].map f=[])/\(∀s,(lg s).length=s.size)/\(∀s,(iY s).length=s.size)/\
  (∀(α:Type) (a b:List α),(a++b).length=a.length+b.length)/\(∀(α:Type) (a:α) (b:List α),(a::b).length=b.length+1)/\(∀(α:Type),([]:List α).length=0)/\(∀(α β:Type) (f:α->β) (l:List α),(l.map f).length=l.length)/\
  (∀(α:Type) (l:List α) (i:Nat) (a:α),(l.set i a).length=l.length)/\(∀(α:Type) (n:Nat) (a:α),(List.replicate n a).length=n)/\(∀(α:Type) (l:List α) (i:Nat),(l.take i).length=min i l.length)/\(∀(α:Type) (l:List α) (i:Nat),(l.drop i).length=l.length - i):=
 ⟨fun _ _=>List.sum_cons,rfl,fun _ _ _ _ _=>rfl,fun _ _ _=>rfl,ir,tT,fun _ _ _=>List.length_append ..,fun _ _ _=>rfl,fun _=>rfl,fun _ _ _ _=>List.length_map ..,fun _ _ _ _=>List.length_set ..,fun _ _ _=>List.length_replicate ..,fun _ _ _=>List.length_take ..,fun _ _ _=>List.length_drop ..⟩
def DC:(∀(α:Type) [BEq α] [LawfulBEq α] (a b:α),((a != b)=false)=(a=b))/\(∀(α:Type) [BEq α] [LawfulBEq α] (a b:α),((a != b)=true)=¬(a=b))/\(∀(α:Type) [BEq α] [LawfulBEq α] (a b:α),((a==b)=true)=(a=b))/\(∀(α:Type) [BEq α] [LawfulBEq α] (a b:α),((a==b)=false)=¬(a=b))/\
  (∀b:Bool,((!b)=true)=(b=false))/\(∀b:Bool,((!b)=false)=(b=true))/\(∀(p:Prop) [Decidable p],(decide p=true)=p)/\(∀(p:Prop) [Decidable p],(decide p=false)=¬p):=
 ⟨fun _ _ _ _ _=>by simp,fun _ _ _ _ _=>by simp,fun _ _ _ _ _=>by simp,fun _ _ _ _ _=>by simp,fun b=>by simp,fun b=>by simp,fun p _=>by simp,fun p _=>by simp⟩
def DQ {b c:Bool}:(cond b false c)=(!b&&c):=by cases b<;>rfl
def wi (n:Int)(h:-9223372036854775808<=n/\n<=9223372036854775807):IntKind.i64.wrap n=n:=Go.IntWalk.i64_in n h
def mY {α S β:Type}{f g:Nat->α->S->S⊕β}{t u:S->β}:∀{xs:List α} {i:Nat} {s:S},(∀i,∀x∈xs,∀s,f i x s=g i x s)->(∀s,t s=u s)->dY f t i xs s=dY g u i xs s
 | [],_,s,_,h0=>h0 s
 | x::xs,i,s,h,h0=>by
  unfold dY
  rw [h i x (by simp) s]
  cases g i x s with
  | inl s'=>exact mY (fun i y hy=>h i y (by simp [hy])) h0
  | inr b=>rfl
end Go.DM
namespace Go.DM
end Go.DM
namespace Go.DM
def bg.set {α:Type}{n:Nat}{p:α->Prop}{xs:List α}{i:Nat}{y:α}(h:bg n p xs)(g:p y):bg n p (xs.set i y):=
 ⟨by rw [List.length_set];exact h.1,fun x hx=>(List.mem_or_eq_of_mem_set hx).elim (h.2 x) fun e=>e ▸ g⟩
def bg.app {α:Type}{n a b:Nat}{p:α->Prop}{xs ys:List α}(h:bg a p xs)(g:bg b p ys)(hn:a+b<=n):bg n p (xs++ys):=
 ⟨by rw [List.length_append];have:=h.1;have:=g.1;omega,fun x hx=>(List.mem_append.1 hx).elim (h.2 x) (g.2 x)⟩
def bg.yg {α:Type}{n:Nat}{p:α->Prop}{xs:List α}{i:Nat}{z:α}(h:bg n p xs)(hz:p z):p (xs.getD i z):=by
 by_cases hi:i<xs.length
 ·exact bg.getD h hi
 ·rw [List.getD_eq_getElem?_getD,List.getElem?_eq_none (by omega)];exact hz
def bg.one {α:Type}{p:α->Prop}{y:α}(h:p y):bg 1 p [y]:=⟨Nat.le_refl _,fun x hx=>by rw [List.mem_singleton.1 hx];exact h⟩
def tC {α S β γ:Type}{f:Nat->α->S->S⊕β}{t:S->β}{g:α->S->S⊕γ}{u:S->γ}{p:β->γ}(h:∀i x s,(f i x s).map id p=g x s)(h0:∀s,p (t s)=u s) :
  ∀(xs:List α) (i:Nat) (s:S),p (dY f t i xs s)=dM g u xs s
 | [],i,s=>h0 s
 | x::xs,i,s=>by
  have hx:=h i x s
  unfold dY dM
  rw [<-hx]
  cases f i x s with
  | inl s'=>exact tC h h0 xs (i+1) s'
  | inr b=>rfl
def lm {n:Int}(h:n<=140737488355328:=by (try simp (disch:=omega) only [LN,wi,Bool.cond_decide]);first | omega | (simp;done) | (simp;omega)):eK n=true:=gC h
def dt {p:Prop}{_:Decidable p}(h:p:=by (try simp (disch:=omega) only [LN,wi,Bool.cond_decide]);first | omega | (simp;done) | (simp;omega)):decide p=true:=decide_eq_true h
def df {p:Prop}{_:Decidable p}(h:¬p:=by (try simp (disch:=omega) only [LN,wi,Bool.cond_decide]);first | omega | (simp;done) | (simp;omega)):decide p=false:=decide_eq_false h
def om {p:Prop}(h:p:=by (try simp (disch:=omega) only [LN,wi,Bool.cond_decide]);first | omega | (simp;done) | (simp;omega)):p:=h
def ct {γ:Type}[RT γ]{o:Option γ}{b:γ}{k:γ->aD}{r:aD}(h:o=some b)(hk:k b=r):call o k=r:=cG b h hk
def cx {γ:Type}[RT γ]{o:Option γ}{b:γ}{k:Nat->γ->aD}{r:aD}(h:o=some b)(hk:∃n,k n b=r):∃n,call o (k n)=r:=fu b h hk
def cr {S β γ:Type}[RT γ]{K:S->aD}{out:β->aD}{Q:S->Prop}{o:Option γ}{b:γ}{k:γ->aD}{r:S⊕β}(h:o=some b)(hk:aP (k b) K out Q r):aP (DM.call o k) K out Q r:=aP.cG b h hk
def W1 {A A' Z Z':Type}[Im A A'][RT A'][Im Z Z'][RT Z']{P:Program}{T:List (Nat×TI)}{G:List (Nat×gj)}{f:FuncId}{fn:Func}{ps:List fF}{r:RP}{g:A->Prop}{m:A->Z}(nt:Nat)(F:A'->aD)(hm:P.follows .mixedOrders=true)(hT:eO P T=true)(ok:∀a0,g a0->F (Im.im a0)=ret (Im.im (m a0)))(hG:fD P (cR T) G)(hf:P.funcs[f]?=some fn)
  (hb:tR fn (CN ps r (RT.dec:List L->A') (RR g m)) nt=true:=by kernel_rfl) (hr:∀n ls,eY { T:=assoc T,G:=cZ G,nt:=nt } (fun _=>[]) fn r n (dJ ps ls)=F (RT.dec ls:A'):=by intro _ _;kernel_rfl):Valid P (cR T) f (CN ps r (RT.dec:List L->A') (RR g m)):=
 VV (run:=fun _ x=>F x) hm hT hG hf hb hr fun _ a _ _ h=>⟨0,ok a h⟩
def L1 {A A' Z Z':Type}[Im A A'][RT A'][Im Z Z'][RT Z']{P:Program}{T:List (Nat×TI)}{G:List (Nat×gj)}{f:FuncId}{fn:Func}{ps:List fF}{r:RP}{g:A->Prop}{m:A->Z}{Pt:Type}(nt:Nat)(id:Pt->Nat)(vs:Pt->List V)(hs:Pt->List aK)(live:Nat->Live)(step:(Pt->aD)->Pt->aD)(start:(Pt->aD)->A'->aD)(hm:P.follows .mixedOrders=true)(hT:eO P T=true)(ok:∀a0,g a0->∃n,start (iter step n) (Im.im a0)=ret (Im.im (m a0)))(hG:fD P (cR T) G)(hf:P.funcs[f]?=some fn)
  (hb:tR fn (CN ps r (RT.dec:List L->A') (RR g m)) nt=true:=by kernel_rfl) (h1:∀(I:dD) (p:Pt),dU { T:=assoc T,G:=cZ G,nt:=nt } live I (id p) (bL fn) (iT (live (id p)) (vs p) (hs p)) (dA { T:=assoc T,G:=cZ G,nt:=nt } fn r)=step (fun q=>I (id q) (vs q) (hs q)) p:=by intro _ p;cases p<;>kernel_rfl)
  (h0:∀(I:dD) (ls:List L),gO { T:=assoc T,G:=cZ G,nt:=nt } live I (bL fn) (dJ ps ls) (dA { T:=assoc T,G:=cZ G,nt:=nt } fn r)=start (fun q=>I (id q) (vs q) (hs q)) (RT.dec ls:A'):=by intro _ _;kernel_rfl):Valid P (cR T) f (CN ps r (RT.dec:List L->A') (RR g m)):=
 VV (run:=fun n x=>start (iter step n) x) hm hT hG hf hb (fun n ls=>dI (start:=fun J=>start J (RT.dec ls:A')) h1 (fun I=>h0 I ls) n) fun _ a _ _ h=>ok a h
def W2 {A A' B B' Z Z':Type}[Im A A'][RT A'][Im B B'][RT B'][Im Z Z'][RT Z']{P:Program}{T:List (Nat×TI)}{G:List (Nat×gj)}{f:FuncId}{fn:Func}{ps:List fF}{r:RP}{g:A->B->Prop}{m:A->B->Z}(nt:Nat)(F:A'->B'->aD)(hm:P.follows .mixedOrders=true)(hT:eO P T=true)(ok:∀a0 a1,g a0 a1->F (Im.im a0) (Im.im a1)=ret (Im.im (m a0 a1)))(hG:fD P (cR T) G)(hf:P.funcs[f]?=some fn)
  (hb:tR fn (CN ps r (RT.dec:List L->A'×B') (RR (p2 g) (u2 m))) nt=true:=by kernel_rfl) (hr:∀n ls,eY { T:=assoc T,G:=cZ G,nt:=nt } (fun _=>[]) fn r n (dJ ps ls)=F (RT.dec ls:A'×B').1 (RT.dec ls:A'×B').2:=by intro _ _;kernel_rfl):Valid P (cR T) f (CN ps r (RT.dec:List L->A'×B') (RR (p2 g) (u2 m))):=
 VV (run:=fun _ x=>F x.1 x.2) hm hT hG hf hb hr fun _ a _ _ h=>⟨0,ok a.1 a.2 h⟩
def L2 {A A' B B' Z Z':Type}[Im A A'][RT A'][Im B B'][RT B'][Im Z Z'][RT Z']{P:Program}{T:List (Nat×TI)}{G:List (Nat×gj)}{f:FuncId}{fn:Func}{ps:List fF}{r:RP}{g:A->B->Prop}{m:A->B->Z}{Pt:Type}(nt:Nat)(id:Pt->Nat)(vs:Pt->List V)(hs:Pt->List aK)(live:Nat->Live)(step:(Pt->aD)->Pt->aD)(start:(Pt->aD)->A'->B'->aD)(hm:P.follows .mixedOrders=true)(hT:eO P T=true)(ok:∀a0 a1,g a0 a1->∃n,start (iter step n) (Im.im a0) (Im.im a1)=ret (Im.im (m a0 a1)))(hG:fD P (cR T) G)(hf:P.funcs[f]?=some fn)
  (hb:tR fn (CN ps r (RT.dec:List L->A'×B') (RR (p2 g) (u2 m))) nt=true:=by kernel_rfl) (h1:∀(I:dD) (p:Pt),dU { T:=assoc T,G:=cZ G,nt:=nt } live I (id p) (bL fn) (iT (live (id p)) (vs p) (hs p)) (dA { T:=assoc T,G:=cZ G,nt:=nt } fn r)=step (fun q=>I (id q) (vs q) (hs q)) p:=by intro _ p;cases p<;>kernel_rfl)
  (h0:∀(I:dD) (ls:List L),gO { T:=assoc T,G:=cZ G,nt:=nt } live I (bL fn) (dJ ps ls) (dA { T:=assoc T,G:=cZ G,nt:=nt } fn r)=start (fun q=>I (id q) (vs q) (hs q)) (RT.dec ls:A'×B').1 (RT.dec ls:A'×B').2:=by intro _ _;kernel_rfl):Valid P (cR T) f (CN ps r (RT.dec:List L->A'×B') (RR (p2 g) (u2 m))):=
 VV (run:=fun n x=>start (iter step n) x.1 x.2) hm hT hG hf hb (fun n ls=>dI (start:=fun J=>start J (RT.dec ls:A'×B').1 (RT.dec ls:A'×B').2) h1 (fun I=>h0 I ls) n) fun _ a _ _ h=>ok a.1 a.2 h
def W3 {A A' B B' C C' Z Z':Type}[Im A A'][RT A'][Im B B'][RT B'][Im C C'][RT C'][Im Z Z'][RT Z']{P:Program}{T:List (Nat×TI)}{G:List (Nat×gj)}{f:FuncId}{fn:Func}{ps:List fF}{r:RP}{g:A->B->C->Prop}{m:A->B->C->Z}(nt:Nat)(F:A'->B'->C'->aD)(hm:P.follows .mixedOrders=true)(hT:eO P T=true)(ok:∀a0 a1 a2,g a0 a1 a2->F (Im.im a0) (Im.im a1) (Im.im a2)=ret (Im.im (m a0 a1 a2)))(hG:fD P (cR T) G)(hf:P.funcs[f]?=some fn)
  (hb:tR fn (CN ps r (RT.dec:List L->A'×B'×C') (RR (p3 g) (u3 m))) nt=true:=by kernel_rfl) (hr:∀n ls,eY { T:=assoc T,G:=cZ G,nt:=nt } (fun _=>[]) fn r n (dJ ps ls)=F (RT.dec ls:A'×B'×C').1 (RT.dec ls:A'×B'×C').2.1 (RT.dec ls:A'×B'×C').2.2:=by intro _ _;kernel_rfl):Valid P (cR T) f (CN ps r (RT.dec:List L->A'×B'×C') (RR (p3 g) (u3 m))):=
 VV (run:=fun _ x=>F x.1 x.2.1 x.2.2) hm hT hG hf hb hr fun _ a _ _ h=>⟨0,ok a.1 a.2.1 a.2.2 h⟩
def L3 {A A' B B' C C' Z Z':Type}[Im A A'][RT A'][Im B B'][RT B'][Im C C'][RT C'][Im Z Z'][RT Z']{P:Program}{T:List (Nat×TI)}{G:List (Nat×gj)}{f:FuncId}{fn:Func}{ps:List fF}{r:RP}{g:A->B->C->Prop}{m:A->B->C->Z}{Pt:Type}(nt:Nat)(id:Pt->Nat)(vs:Pt->List V)(hs:Pt->List aK)(live:Nat->Live)(step:(Pt->aD)->Pt->aD)(start:(Pt->aD)->A'->B'->C'->aD)(hm:P.follows .mixedOrders=true)(hT:eO P T=true)(ok:∀a0 a1 a2,g a0 a1 a2->∃n,start (iter step n) (Im.im a0) (Im.im a1) (Im.im a2)=ret (Im.im (m a0 a1 a2)))(hG:fD P (cR T) G)(hf:P.funcs[f]?=some fn)
  (hb:tR fn (CN ps r (RT.dec:List L->A'×B'×C') (RR (p3 g) (u3 m))) nt=true:=by kernel_rfl) (h1:∀(I:dD) (p:Pt),dU { T:=assoc T,G:=cZ G,nt:=nt } live I (id p) (bL fn) (iT (live (id p)) (vs p) (hs p)) (dA { T:=assoc T,G:=cZ G,nt:=nt } fn r)=step (fun q=>I (id q) (vs q) (hs q)) p:=by intro _ p;cases p<;>kernel_rfl)
  (h0:∀(I:dD) (ls:List L),gO { T:=assoc T,G:=cZ G,nt:=nt } live I (bL fn) (dJ ps ls) (dA { T:=assoc T,G:=cZ G,nt:=nt } fn r)=start (fun q=>I (id q) (vs q) (hs q)) (RT.dec ls:A'×B'×C').1 (RT.dec ls:A'×B'×C').2.1 (RT.dec ls:A'×B'×C').2.2:=by intro _ _;kernel_rfl):Valid P (cR T) f (CN ps r (RT.dec:List L->A'×B'×C') (RR (p3 g) (u3 m))):=
 VV (run:=fun n x=>start (iter step n) x.1 x.2.1 x.2.2) hm hT hG hf hb (fun n ls=>dI (start:=fun J=>start J (RT.dec ls:A'×B'×C').1 (RT.dec ls:A'×B'×C').2.1 (RT.dec ls:A'×B'×C').2.2) h1 (fun I=>h0 I ls) n) fun _ a _ _ h=>ok a.1 a.2.1 a.2.2 h
def W4 {A A' B B' C C' D D' Z Z':Type}[Im A A'][RT A'][Im B B'][RT B'][Im C C'][RT C'][Im D D'][RT D'][Im Z Z'][RT Z']{P:Program}{T:List (Nat×TI)}{G:List (Nat×gj)}{f:FuncId}{fn:Func}{ps:List fF}{r:RP}{g:A->B->C->D->Prop}{m:A->B->C->D->Z}(nt:Nat)(F:A'->B'->C'->D'->aD)(hm:P.follows .mixedOrders=true)(hT:eO P T=true)(ok:∀a0 a1 a2 a3,g a0 a1 a2 a3->F (Im.im a0) (Im.im a1) (Im.im a2) (Im.im a3)=ret (Im.im (m a0 a1 a2 a3)))(hG:fD P (cR T) G)(hf:P.funcs[f]?=some fn)
  (hb:tR fn (CN ps r (RT.dec:List L->A'×B'×C'×D') (RR (p4 g) (u4 m))) nt=true:=by kernel_rfl) (hr:∀n ls,eY { T:=assoc T,G:=cZ G,nt:=nt } (fun _=>[]) fn r n (dJ ps ls)=F (RT.dec ls:A'×B'×C'×D').1 (RT.dec ls:A'×B'×C'×D').2.1 (RT.dec ls:A'×B'×C'×D').2.2.1 (RT.dec ls:A'×B'×C'×D').2.2.2:=by intro _ _;kernel_rfl):Valid P (cR T) f (CN ps r (RT.dec:List L->A'×B'×C'×D') (RR (p4 g) (u4 m))):=
 VV (run:=fun _ x=>F x.1 x.2.1 x.2.2.1 x.2.2.2) hm hT hG hf hb hr fun _ a _ _ h=>⟨0,ok a.1 a.2.1 a.2.2.1 a.2.2.2 h⟩
def L4 {A A' B B' C C' D D' Z Z':Type}[Im A A'][RT A'][Im B B'][RT B'][Im C C'][RT C'][Im D D'][RT D'][Im Z Z'][RT Z']{P:Program}{T:List (Nat×TI)}{G:List (Nat×gj)}{f:FuncId}{fn:Func}{ps:List fF}{r:RP}{g:A->B->C->D->Prop}{m:A->B->C->D->Z}{Pt:Type}(nt:Nat)(id:Pt->Nat)(vs:Pt->List V)(hs:Pt->List aK)(live:Nat->Live)(step:(Pt->aD)->Pt->aD)(start:(Pt->aD)->A'->B'->C'->D'->aD)(hm:P.follows .mixedOrders=true)(hT:eO P T=true)(ok:∀a0 a1 a2 a3,g a0 a1 a2 a3->∃n,start (iter step n) (Im.im a0) (Im.im a1) (Im.im a2) (Im.im a3)=ret (Im.im (m a0 a1 a2 a3)))(hG:fD P (cR T) G)(hf:P.funcs[f]?=some fn)
  (hb:tR fn (CN ps r (RT.dec:List L->A'×B'×C'×D') (RR (p4 g) (u4 m))) nt=true:=by kernel_rfl) (h1:∀(I:dD) (p:Pt),dU { T:=assoc T,G:=cZ G,nt:=nt } live I (id p) (bL fn) (iT (live (id p)) (vs p) (hs p)) (dA { T:=assoc T,G:=cZ G,nt:=nt } fn r)=step (fun q=>I (id q) (vs q) (hs q)) p:=by intro _ p;cases p<;>kernel_rfl)
  (h0:∀(I:dD) (ls:List L),gO { T:=assoc T,G:=cZ G,nt:=nt } live I (bL fn) (dJ ps ls) (dA { T:=assoc T,G:=cZ G,nt:=nt } fn r)=start (fun q=>I (id q) (vs q) (hs q)) (RT.dec ls:A'×B'×C'×D').1 (RT.dec ls:A'×B'×C'×D').2.1 (RT.dec ls:A'×B'×C'×D').2.2.1 (RT.dec ls:A'×B'×C'×D').2.2.2:=by intro _ _;kernel_rfl):Valid P (cR T) f (CN ps r (RT.dec:List L->A'×B'×C'×D') (RR (p4 g) (u4 m))):=
 VV (run:=fun n x=>start (iter step n) x.1 x.2.1 x.2.2.1 x.2.2.2) hm hT hG hf hb (fun n ls=>dI (start:=fun J=>start J (RT.dec ls:A'×B'×C'×D').1 (RT.dec ls:A'×B'×C'×D').2.1 (RT.dec ls:A'×B'×C'×D').2.2.1 (RT.dec ls:A'×B'×C'×D').2.2.2) h1 (fun I=>h0 I ls) n) fun _ a _ _ h=>ok a.1 a.2.1 a.2.2.1 a.2.2.2 h
def W5 {A A' B B' C C' D D' X X' Z Z':Type}[Im A A'][RT A'][Im B B'][RT B'][Im C C'][RT C'][Im D D'][RT D'][Im X X'][RT X'][Im Z Z'][RT Z']{P:Program}{T:List (Nat×TI)}{G:List (Nat×gj)}{f:FuncId}{fn:Func}{ps:List fF}{r:RP}{g:A->B->C->D->X->Prop}{m:A->B->C->D->X->Z}(nt:Nat)(F:A'->B'->C'->D'->X'->aD)(hm:P.follows .mixedOrders=true)(hT:eO P T=true)(ok:∀a0 a1 a2 a3 a4,g a0 a1 a2 a3 a4->F (Im.im a0) (Im.im a1) (Im.im a2) (Im.im a3) (Im.im a4)=ret (Im.im (m a0 a1 a2 a3 a4)))(hG:fD P (cR T) G)(hf:P.funcs[f]?=some fn)
  (hb:tR fn (CN ps r (RT.dec:List L->A'×B'×C'×D'×X') (RR (p5 g) (u5 m))) nt=true:=by kernel_rfl) (hr:∀n ls,eY { T:=assoc T,G:=cZ G,nt:=nt } (fun _=>[]) fn r n (dJ ps ls)=F (RT.dec ls:A'×B'×C'×D'×X').1 (RT.dec ls:A'×B'×C'×D'×X').2.1 (RT.dec ls:A'×B'×C'×D'×X').2.2.1 (RT.dec ls:A'×B'×C'×D'×X').2.2.2.1 (RT.dec ls:A'×B'×C'×D'×X').2.2.2.2:=by intro _ _;kernel_rfl):Valid P (cR T) f (CN ps r (RT.dec:List L->A'×B'×C'×D'×X') (RR (p5 g) (u5 m))):=
 VV (run:=fun _ x=>F x.1 x.2.1 x.2.2.1 x.2.2.2.1 x.2.2.2.2) hm hT hG hf hb hr fun _ a _ _ h=>⟨0,ok a.1 a.2.1 a.2.2.1 a.2.2.2.1 a.2.2.2.2 h⟩
def L5 {A A' B B' C C' D D' X X' Z Z':Type}[Im A A'][RT A'][Im B B'][RT B'][Im C C'][RT C'][Im D D'][RT D'][Im X X'][RT X'][Im Z Z'][RT Z']{P:Program}{T:List (Nat×TI)}{G:List (Nat×gj)}{f:FuncId}{fn:Func}{ps:List fF}{r:RP}{g:A->B->C->D->X->Prop}{m:A->B->C->D->X->Z}{Pt:Type}(nt:Nat)(id:Pt->Nat)(vs:Pt->List V)(hs:Pt->List aK)(live:Nat->Live)(step:(Pt->aD)->Pt->aD)(start:(Pt->aD)->A'->B'->C'->D'->X'->aD)(hm:P.follows .mixedOrders=true)(hT:eO P T=true)(ok:∀a0 a1 a2 a3 a4,g a0 a1 a2 a3 a4->∃n,start (iter step n) (Im.im a0) (Im.im a1) (Im.im a2) (Im.im a3) (Im.im a4)=ret (Im.im (m a0 a1 a2 a3 a4)))(hG:fD P (cR T) G)(hf:P.funcs[f]?=some fn)
  (hb:tR fn (CN ps r (RT.dec:List L->A'×B'×C'×D'×X') (RR (p5 g) (u5 m))) nt=true:=by kernel_rfl) (h1:∀(I:dD) (p:Pt),dU { T:=assoc T,G:=cZ G,nt:=nt } live I (id p) (bL fn) (iT (live (id p)) (vs p) (hs p)) (dA { T:=assoc T,G:=cZ G,nt:=nt } fn r)=step (fun q=>I (id q) (vs q) (hs q)) p:=by intro _ p;cases p<;>kernel_rfl)
  (h0:∀(I:dD) (ls:List L),gO { T:=assoc T,G:=cZ G,nt:=nt } live I (bL fn) (dJ ps ls) (dA { T:=assoc T,G:=cZ G,nt:=nt } fn r)=start (fun q=>I (id q) (vs q) (hs q)) (RT.dec ls:A'×B'×C'×D'×X').1 (RT.dec ls:A'×B'×C'×D'×X').2.1 (RT.dec ls:A'×B'×C'×D'×X').2.2.1 (RT.dec ls:A'×B'×C'×D'×X').2.2.2.1 (RT.dec ls:A'×B'×C'×D'×X').2.2.2.2:=by intro _ _;kernel_rfl):Valid P (cR T) f (CN ps r (RT.dec:List L->A'×B'×C'×D'×X') (RR (p5 g) (u5 m))):=
 VV (run:=fun n x=>start (iter step n) x.1 x.2.1 x.2.2.1 x.2.2.2.1 x.2.2.2.2) hm hT hG hf hb (fun n ls=>dI (start:=fun J=>start J (RT.dec ls:A'×B'×C'×D'×X').1 (RT.dec ls:A'×B'×C'×D'×X').2.1 (RT.dec ls:A'×B'×C'×D'×X').2.2.1 (RT.dec ls:A'×B'×C'×D'×X').2.2.2.1 (RT.dec ls:A'×B'×C'×D'×X').2.2.2.2) h1 (fun I=>h0 I ls) n) fun _ a _ _ h=>ok a.1 a.2.1 a.2.2.1 a.2.2.2.1 a.2.2.2.2 h
def kX {α:Type}{l:List α}{x:α}{i:Nat}(h:l.length<=i):(l++[x]).length<=i+1:=by rw [List.length_append];exact Nat.add_le_add_right h 1
def cA (c:Bool)(x:aD):aD:=bif c then x else none
def m2 (v n:Int)(x:aD):aD:=bif decide (0<=v) then (cond (decide (v<n)) x none) else none
def m3 (v n:Int)(x:aD):aD:=bif decide (0<=v) then (cond (decide (v<n)) (cond (Nat.beq (Int.toNat v) (Int.toNat v)&&true) x none) none) else none
def MM:(∀c x,cA c x=bif c then x else none)/\(∀v n x,m2 v n x=bif decide (0<=v) then (cond (decide (v<n)) x none) else none)/\(∀v n x,m3 v n x=bif decide (0<=v) then (cond (decide (v<n)) (cond (Nat.beq (Int.toNat v) (Int.toNat v)&&true) x none) none) else none):=⟨fun _ _=>rfl,fun _ _ _=>rfl,fun _ _ _=>rfl⟩
abbrev pI:fF:=.rd (.int .i64)
abbrev pS:fF:=.rd .str
abbrev pB:fF:=.rd .bool
abbrev pL (e:Nat):fF:=.rd (.sl e)
abbrev oI:RP:=.one (.rd (.int .i64))
abbrev oB:RP:=.one (.rd .bool)
abbrev oS:RP:=.one (.rd .str)
abbrev oL (e:Nat):RP:=.one (.fr e)
abbrev fI:Lf:=.rd (.int .i64)
abbrev fS:Lf:=.rd .str
abbrev fB:Lf:=.rd .bool
end Go.DM
set_option linter.unusedSectionVars false
namespace Go.DM
section
variable {P:Program} {E:Env} {w0 w w':World} {ans:List L}
end
def cD.gX (A:cD)(rs:List Nat):cD:={ v:=A.v,N:=fun p b=>p∉rs/\A.N p b,al:=A.al,Z:=fun b=>A.Z b/\∀p,p∈rs->¬A.N p b }
section
variable {T:Nat->List K} {w w' w0:World} {A A':cD} {rs:List Nat} {np:Nat} {M:Mem np} {hp:Nat->aK}
theorem qM {b:Nat}(h:eo w A b):eo w (A.gX rs) b:=⟨⟨h.1,fun p _=>h.2.2 p⟩,h.2.1,fun p hp=>h.2.2 p hp.2⟩
theorem mU {d : Option Nat} (hd : ∀ r, d = some r -> r ∉ rs) {b : Nat} (h : fG w A d b) : fG w (A.gX rs) d b := by
  cases d with
  | none => exact qM h
  | some r => rcases h with h | h
              · exact .inl ⟨hd r rfl, h⟩
              · exact .inr (qM h)
theorem oT {q:Nat}(h:kA rs q=false):q∉rs:=fun hm=>by rw [iO.2 hm] at h;cases h
theorem V0.gX {v:V}{x:Value}(hv:V0 T w A v x):V0 T w (A.gX rs) (iU rs v) x:=by
 cases v with
 | sl d e xs=>
  cases d with
  | none=>exact ⟨(fun r hr=>nomatch hr),hv.2.mono fun b hb=>qM hb⟩
  | some q=>
   rw [wH]
   cases hq:kA rs q with
   | true=>exact trivial
   | false=>exact ⟨hv.1,hv.2.mono fun b hb=>mU (fun r hr=>by injection hr with hr;subst hr;exact oT hq) hb⟩
 | cS d es cs o=>
  have go:∀d:Option Nat,(∀r,d=some r->r∉rs)->V0 T w A (.cS d es cs o) x->V0 T w (A.gX rs) (.cS d es cs o) x:=by
   intro d hd ⟨ha,b,q,v,h1,h2,h3⟩
   exact ⟨ha,b,q,v,h1,mU hd h2,fun j k hj=>⟨(h3 j k hj).1,(h3 j k hj).2.mono fun b hb=>mU hd hb⟩⟩
  cases d with
  | none=>exact go none (fun r hr=>nomatch hr) hv
  | some q=>
   rw [tE]
   cases hq:kA rs q with
   | true=>exact trivial
   | false=>exact go (some q) (fun r hr=>by injection hr with hr;subst hr;exact oT hq) hv
 | gm q a b c d=>
  rw [uP]
  cases hq:kA rs q with
  | true=>exact trivial
  | false=>
   obtain ⟨ha,g,n,c',h1,h2,h3,h4⟩:=hv
   exact ⟨ha,g,n,c',h1,h2,⟨oT hq,h3⟩,h4⟩
 | own q=>exact hv
 | lit q n e=>exact hv
 | bP q o=>exact hv
 | fM q sz i o=>exact hv
 | undef=>exact hv
 | dead=>exact hv
 | int=>exact hv
 | bool=>exact hv
 | str=>exact hv
 | nil=>exact hv
 | fn=>exact hv.elim
 | agg=>exact hv.elim
 | gW=>exact hv.elim
theorem tD {cs:List V}{xs:List Value}(hf:F2 (Vc T w A) cs xs):F2 (Vc T w (A.gX rs)) (cs.map (iU rs)) xs:=by
 induction hf with
 | nil=>exact .nil
 | cons h _ ih=>exact .cons ⟨h.1.gX,h.2⟩ ih
theorem V2.gX {v:V}{x:Value}(hv:V2 T w A v x):V2 T w (A.gX rs) (eN rs v) x:=by
 cases v with
 | gW vs=>exact trivial
 | fn f cs=>
  obtain ⟨l,rfl,hl⟩:=(show V1 T w A (.fn f cs) x from hv)
  refine V1.v2 (v:=.fn f _) ⟨l,rfl,?_⟩
  clear hv
  induction hl with
  | nil=>exact .nil
  | cons hc _ ih=>exact .cons (V0.gX hc) ih
 | agg cs=>obtain ⟨l,rfl,hl⟩:=hv;exact V1.v2 (v:=.agg _) ⟨l,rfl,tD hl⟩
 | undef=>exact V0.v2 (V0.gX (v:=.undef) hv)
 | dead=>exact trivial
 | int k n=>exact V0.v2 (V0.gX (v:=.int k n) hv)
 | bool b=>exact V0.v2 (V0.gX (v:=.bool b) hv)
 | str s=>exact V0.v2 (V0.gX (v:=.str s) hv)
 | nil=>exact V0.v2 (V0.gX (v:=.nil) hv)
 | sl d e xs=>exact V0.v2 (V0.gX (v:=.sl d e xs) hv)
 | own q=>exact V0.v2 (V0.gX (v:=.own q) hv)
 | lit q n e=>exact V0.v2 (V0.gX (v:=.lit q n e) hv)
 | bP q o=>exact V0.v2 (V0.gX (v:=.bP q o) hv)
 | fM q sz i o=>exact V0.v2 (V0.gX (v:=.fM q sz i o) hv)
 | gm q a b c d=>exact V0.v2 (V0.gX (v:=.gm q a b c d) hv)
 | cS d es cs o=>exact V0.v2 (V0.gX (v:=.cS d es cs o) hv)
theorem sr {p:Nat}(h:p∈rs):jW rs hp p=.dead:=by simp [jW,iO.2 h]
theorem iJ {p:Nat}(h:p∉rs):jW rs hp p=jF rs (hp p):=by
 unfold jW
 cases hq:kA rs p with
 | true=>exact (h (iO.1 hq)).elim
 | false=>rfl
theorem dB.gX {p:Nat}(hr:p∉rs){o:aK}(h:dB T w A p o):dB T w (A.gX rs) p (jF rs o):=by
 cases o with
 | dead=>exact fun b hb=>h b hb.2
 | box cs=>
  obtain ⟨ha,g,te,cur,h1,h2,h3,h4⟩:=h
  exact ⟨ha,g,te,cur,h1,fun b=>⟨fun hb=>(h2 b).1 hb.2,fun hb=>⟨hr,(h2 b).2 hb⟩⟩,h3,tD h4⟩
 | row e xs=>exact ⟨h.1,h.2.mono fun b hb=>⟨hr,hb⟩⟩
 | qt e xs j cs=>exact ⟨h.1,h.2.1,h.2.2.mono fun b hb=>⟨hr,hb⟩⟩
 | xW e xs i o=>exact ⟨h.1,h.2.1,h.2.2.move (fun _ _=>rfl) fun b hb=>⟨hr,hb⟩⟩
 | vw e xs=>exact ⟨h.1,fun b hb=>h.2.1 b hb.2,h.2.2.1,h.2.2.2.mono fun b hb=>⟨⟨hb.1,fun p _=>hb.2.2 p⟩,hb.2.1,fun p hp=>hb.2.2 p hp.2⟩⟩
theorem Hp.gX (hh:Hp T w0 M A hp w):Hp (np:=0) T w ⟨fun b=>∃p,(A.gX rs).N p b,fun _=>Go.undef,[]⟩ (A.gX rs) (jW rs hp) w:=by
 refine ⟨fun r b h=>hh.lt r b h.2,fun r q b h h'=>hh.dj r q b h.2 h'.2,fun r h=>?_,fun r=>?_,Fr.refl _ _,fun r b h=>.inl ⟨r,h⟩,fun b hb=>⟨hh.zf b (hb.elim (fun ⟨p,h⟩=>hh.nm p b h.2) fun h=>.inr (Nat.le_trans hh.fr.size h)),fun p hp hn=>hb.elim (fun ⟨q,h⟩=>h.1 (hh.dj p q b hn h.2 ▸ hp)) fun h=>by have:=hh.lt p b hn;omega⟩,fun j hj=>absurd hj (Nat.not_lt_zero j)⟩
 ·by_cases hr:r∈rs
  ·exact sr hr
  ·rw [iJ hr,hh.al r h];rfl
 ·by_cases hr:r∈rs
  ·rw [sr hr];exact fun b hb=>hb.1 hr
  ·rw [iJ hr];exact (hh.rt r).gX hr
theorem V0.up (hal:∀r,¬A.al r)(hz:∀b,eo w A b->eo w A' b){v:V}{x:Value}(hv:V0 T w A v x):V0 T w A' v x:=by
 cases v with
 | sl d e xs=>
  cases d with
  | none=>exact ⟨(fun r hr=>nomatch hr),hv.2.mono hz⟩
  | some r=>exact (hal r (hv.1 r rfl)).elim
 | cS d es cs o=>
  cases d with
  | none=>
   obtain ⟨ha,b,q,v,h1,h2,h3⟩:=hv
   exact ⟨(fun r hr=>nomatch hr),b,q,v,h1,hz b h2,fun j k hj=>⟨(h3 j k hj).1,(h3 j k hj).2.mono hz⟩⟩
  | some r=>exact (hal r (hv.1 r rfl)).elim
 | own q=>exact (hal q hv.1).elim
 | lit q n e=>exact (hal q hv.1).elim
 | bP q o=>exact (hal q hv.1).elim
 | fM q sz i o=>exact (hal q hv.1).elim
 | gm q a b c d=>exact (hal q hv.1).elim
 | undef=>exact hv
 | dead=>exact hv
 | int=>exact hv
 | bool=>exact hv
 | str=>exact hv
 | nil=>exact hv
 | fn=>exact hv.elim
 | agg=>exact hv.elim
 | gW=>exact hv.elim
theorem V1.up (hal:∀r,¬A.al r)(hz:∀b,eo w A b->eo w A' b){v:V}{x:Value}(hv:V1 T w A v x):V1 T w A' v x:=by
 cases v with
 | agg cs=>obtain ⟨l,h1,h2⟩:=hv;exact ⟨l,h1,h2.mono fun v x h=>⟨h.1.up hal hz,h.2⟩⟩
 | fn f cs=>obtain ⟨l,h1,h2⟩:=hv;exact ⟨l,h1,h2.mono fun v x h=>h.up hal hz⟩
 | gW=>exact (show False from hv).elim
 | undef=>exact V0.v1 (V0.up (v:=.undef) hal hz hv)
 | dead=>exact trivial
 | int k n=>exact V0.v1 (V0.up (v:=.int k n) hal hz hv)
 | bool b=>exact V0.v1 (V0.up (v:=.bool b) hal hz hv)
 | str s=>exact V0.v1 (V0.up (v:=.str s) hal hz hv)
 | nil=>exact V0.v1 (V0.up (v:=.nil) hal hz hv)
 | sl d e xs=>exact V0.v1 (V0.up (v:=.sl d e xs) hal hz hv)
 | own q=>exact V0.v1 (V0.up (v:=.own q) hal hz hv)
 | lit q n e=>exact V0.v1 (V0.up (v:=.lit q n e) hal hz hv)
 | bP q o=>exact V0.v1 (V0.up (v:=.bP q o) hal hz hv)
 | fM q sz i o=>exact V0.v1 (V0.up (v:=.fM q sz i o) hal hz hv)
 | gm q a b c d=>exact V0.v1 (V0.up (v:=.gm q a b c d) hal hz hv)
 | cS d es cs o=>exact V0.v1 (V0.up (v:=.cS d es cs o) hal hz hv)
theorem V2.up (hal:∀r,¬A.al r)(hz:∀b,eo w A b->eo w A' b){v:V}{x:Value}(hv:V2 T w A v x):V2 T w A' v x:=by
 by_cases ht:∃vs,v=.gW vs
 ·obtain ⟨vs,rfl⟩:=ht
  obtain ⟨l,h1,h2⟩:=hv;exact ⟨l,h1,h2.mono fun v x h=>h.up hal hz⟩
 ·have h1:∀{A:cD},V2 T w A v x↔V1 T w A v x:=by
   intro A
   cases v<;>first | exact Iff.rfl | exact (ht ⟨_,rfl⟩).elim
  exact h1.2 ((h1.1 hv).up hal hz)
end
section
variable {E:Env} {w0 w:World} {np:Nat} {M:Mem np} {A B:cD} {hp:Nat->aK} {ans:List L} {Z:Nat->Prop} {r:Nat}
end
def Aq {T:Nat->List K}{w':World}{A A':cD}{nx n j:Nat}{rs:List aK}(hn:rs.length=n)(hal:∀i,A'.al i↔i<rs.length){p:RP}{ls:List L}{y:Value}(hok:p.ok=true)(hz:p.view=true->∀b,eo w' A' b->eo w' (A.join A' nx rs.length) b)
  (h:V2 T w' A' (p.V ls j) y):V2 T w' (A.join A' nx n) (p.V ls (nx+j)) y:=by
 subst hn
 cases p with
 | one l=>
  have hv0:∀{A':cD} {y:Value} {i:Nat},V2 T w' A' (vA l (ls.headD .hole) i) y->V0 T w' A' (vA l (ls.headD .hole) i) y:=by
   intro A' y i h
   cases l with
   | fr e=>exact h
   | rd k=>cases k<;>exact h
  exact V0.v2 (rR hal hz (hv0 h))
 | agg q=>
  obtain ⟨l,e1,e2⟩:=(show V1 T w' A' (.agg (jN q ls j)) y from h)
  exact V1.v2 (v:=.agg _) ⟨l,e1,pV hal hz e2⟩
 | gW ps=>
  obtain ⟨l,e1,e2⟩:=(show V2 T w' A' (.gW (jI ps ls j)) y from h)
  exact (show V2 T w' _ (.gW (jI ps ls (nx+j))) y from ⟨l,e1,sq hal (fun p hp hf=>by
   have:=List.all_eq_true.1 hok p hp
   simpa [hf] using this) hz e2⟩)
 | zj _=>cases hok
 | zc _ _=>cases hok
 | cur _ _=>cases hok
 | uq _=>cases hok
section
variable {P:Program} {E:Env}
end
def bg.take {α:Type}{n k:Nat}{p:α->Prop}{xs:List α}(h:bg n p xs):bg n p (xs.take k):=⟨Nat.le_trans (by simp;omega) h.1,fun x hx=>h.2 x (List.mem_of_mem_take hx)⟩
def bg.drop {α:Type}{n k:Nat}{p:α->Prop}{xs:List α}(h:bg n p xs):bg n p (xs.drop k):=⟨Nat.le_trans (by simp) h.1,fun x hx=>h.2 x (List.mem_of_mem_drop hx)⟩
def bg.map {α β:Type}{n:Nat}{p:α->Prop}{q:β->Prop}{f:α->β}{xs:List α}(h:bg n p xs)(hf:∀x,p x->q (f x)):bg n q (xs.map f):=
 ⟨by rw [List.length_map];exact h.1,fun y hy=>by obtain ⟨x,hx,rfl⟩:=List.mem_map.1 hy;exact hf x (h.2 x hx)⟩
section
variable {P:Program} {T:List (Nat×TI)} {G:List (Nat×gj)} {S:List (Nat×mB)} {I:List (Nat×gA)} {nt:Nat} {mt:Bool} {J:List Nat}
end
section
variable {A A' B B':Type} [Im A A'] [Im B B'] {g:A->Prop} {m:A->B}
theorem VJ [RT B']{X:Type}{P:Program}{T:List (Nat×TI)}{G:List (Nat×gj)}{S:List (Nat×mB)}{I:List (Nat×gA)}{nt:Nat}{mt:Bool}{J:List Nat}{f:FuncId}{fn:Func}{ps:List fF}{r:RP}{acc:List L->A'}{accr:List L->X}{live:Nat->Live}{run:Nat->X->aD}
  (hm:P.follows .mixedOrders=true) (hT:eO P T=true) (hG:fD P (cR T) G) (hS:jH P (cR T) S) (hI:lU P (cR T) 0 I) (hf:P.funcs[f]?=some fn) (hb:tR fn (CN ps r acc (RR g m)) nt=true)
  (hrun:∀n ls,eY { T:=assoc T,G:=cZ G,nt:=nt,M:=ff S,mt:=mt,I:=gy I,J:=J } live fn r n (dJ ps ls)=run n (accr ls))
  (hok:∀ls a,rN (cR T).cells ps ls->acc ls=Im.im a->g a->∃n,run n (accr ls)=ret (Im.im (m a))):Valid P (cR T) f (CN ps r acc (RR g m)):=
 vT hm hT hG hS hI hf hb live fun ls q hl h=>by
  obtain ⟨v,hv,hq⟩:=map_some h
  obtain ⟨a,hg,e,hm⟩:=mZ hv
  obtain ⟨n,hn⟩:=hok ls a hl e.symm hg
  exact ⟨n,(hrun n ls).trans (hn.trans (by rw [<-hq,<-hm];rfl))⟩
end
def bo {β β':Type}[RT β']{r:β->β'}{c:Bool}{x y:aD}{a b:β}(h1:c=true->x=ret (r a))(h2:c=false->y=ret (r b)):(cond c x y)=ret (r (cond c a b)):=bM (fun b=>ret (r b)) h1 h2
def bs {β:Type}[RT β]{c:Bool}{x y:aD}{a b:β}(h1:c=true->x=ret a)(h2:c=false->y=ret b):(cond c x y)=ret (cond c a b):=bM ret h1 h2
def dn {p:Prop}{_:Decidable p}(h:¬p:=by (try simp (disch:=omega) only [LN,wi,Bool.cond_decide]);first | omega | (simp;done) | (simp;omega)):decide p=false:=decide_eq_false h
def bl {α:Type}{n:Nat}{p:α->Prop}{xs:List α}(h:bg n p xs)(hn:n<=maxLen:=by decide):xs.length<=maxLen:=Nat.le_trans h.1 hn
end Go.DM
set_option linter.unusedSectionVars false
namespace Go.DM
section
variable {P:Program} {E:Env}
end
end Go.DM
namespace Go.DM
end Go.DM
set_option linter.unusedSectionVars false
namespace Go.DM
structure jO where
 args:List (Option fF)
 ks:List K
 res:RP
 sem:List L->Option (List L)
def xE:List (Option fF)->List V->Option Nat
 | none::_,.bP r _::_=>some r
 | _::ps,_::vs=>xE ps vs
 | _,_=>none
def fO (E:Env)(hp:Nat->aK)(r:Nat):List (Option fF)->List V->(List L->aD)->aD
 | [],[],k=>k []
 | none::ps,v::vs,k=>match v with
  | .bP r' o=>bif Nat.beq r' r&&Nat.beq o 0 then fO E hp r ps vs k else none
  | _=>none
 | some p::ps,v::vs,k=>nT E hp p v fun a=>fO E hp r ps vs fun b=>k (a++b)
 | _,_,_=>none
def kW:List (Option fF)->List L->List V
 | [],_=>[]
 | none::ps,ls=>.bP 0 0::kW ps ls
 | some p::ps,ls=>Bu p ls::kW ps (bA p.n ls)
def jY:List (Option fF)->List V->Bool
 | none::ps,_::vs=>jY ps vs
 | some _::ps,v::vs=>gR v&&jY ps vs
 | _,_=>true
def jf (hp:Nat->aK):List K->List V->(List L->aD)->aD
 | [],[],k=>k []
 | kk::ks,v::vs,k=>bif fits hp kk v&&(cN v||(match v with
   | .own q=>(match hp q with | .vw _ _=>true | _=>false)
   | _=>false)) then jw hp v fun l=>jf hp ks vs fun ls=>k (l::ls) else none
 | _,_,_=>none
def wU:List K->List V->List L->List V
 | .sl _::ks,v::cs,out=>v::wU ks cs out.tail
 | k::ks,_::cs,out=>xZ none k (out.headD .hole)::wU ks cs out.tail
 | _,_,_=>[]
def kg (E:Env)(c:jO):gA:={ late:=true,keep:=true,run:=fun vs s k=>match xE c.args vs with
 | none=>none
 | some r=>match s.hp r with
  | .box cs=>jf s.hp c.ks cs fun cl=>bif c.res.view&&!jY c.args (vs.map (eN [r])) then none else
    fO E (jW [r] s.hp) r c.args (vs.map (eN [r])) fun ls=>(c.sem (cl++ls)).bind fun out=>
     Ap c.res (bA c.ks.length out) s.nx fun v rts=>
      k v { sl:=fun i=>eN [r] (s.sl i),hp:=dH (upd (jW [r] s.hp) r (.box (wU c.ks cs out))) s.nx rts,nx:=s.nx+rts.length,fr:=s.fr.map (eN [r]) }
  | _=>none }
def iI:List K->List L->List aK
 | [],_=>[]
 | .sl e::ks,ls=>.vw e (ls.headD .hole).dz::iI ks ls.tail
 | _::ks,ls=>iI ks ls.tail
def nC (ks:List K):Nat:=(mz ks).length+1
def iG (ks:List K)(ps:List (Option fF))(ls:List L):St:={ sl:=iQ (kW ps (bA ks.length ls)),hp:=iq (.box (gf ks ls 1)::iI ks ls),nx:=nC ks }
def uR:List K->List L->(Nat->Value)->Nat->List Value->Prop
 | [],_,_,_,ys=>ys=[]
 | .sl _::ks,cl,v,j,ys=>∃ys',ys=v j::ys'/\uR ks cl.tail v (j+1) ys'
 | k::ks,cl,v,j,ys=>∃y ys',ys=y::ys'/\(∀T w A,Vc T w A (xZ none k (cl.headD .hole)) y)/\uR ks cl.tail v j ys'
def uE (E:Env)(w:World)(B:cD)(ks:List K)(p:RP)(r:List L)(e:Ending)(w':World):Prop:=
 ∃rv A' g te cur,e=.returned rv/\Fr w w' (fun b=>b=g)/\A'.Z=B.Z/\B.v 0=.pointer (some ⟨g,0,none⟩)/\w'.heap[g]?=some (.cells cur te (0,0))/\uR ks r B.v 1 cur.toList/\
  A'.N (p.R (r.drop ks.length)).length g/\(∀i b,A'.N i b->b<w'.heap.size/\(i<(p.R (r.drop ks.length)).length->w.heap.size<=b))/\(∀i q b,A'.N i b->A'.N q b->i=q)/\
  (∀i o,(p.R (r.drop ks.length))[i]?=some o->dB E.cells w' A' i o)/\V2 E.cells w' A' (p.V (r.drop ks.length) 0) rv
def gD (P:Program)(E:Env)(g:FuncId)(c:jO):Prop:=
 kR P g/\c.res.nQ=true/\∀(ls r:List L) (w:World) (vs:List Value) (B:cD),c.sem ls=some r->
  Hp (np:=nC c.ks) E.cells w ⟨fun b=>∃j,B.N j b,B.v,[]⟩ B (iq (.box (gf c.ks ls 1)::iI c.ks ls)) w->(∀q,nC c.ks<=q->¬B.al q)->F2 (V2 E.cells w B) (kW c.args (ls.drop c.ks.length)) vs->
  Calls P g vs.toArray w (uE E w B c.ks c.res r)
section
variable {P:Program} {E:Env} {w0 w w':World} {ans:List L}
theorem lE:∀{ks:List K} {cs:List V} {j:Nat} {k:List L->aD},qv ks cs j k=some ans->
  ∃cl,k cl=some ans/\cl.length=ks.length/\∀{T:Nat->List K} {w:World} {A:cD} {v:Nat->Value} {ys:List Value},(∀i,j<=i->i<j+(mz ks).length->A.v i=v i)->F2 (Vc T w A) cs ys->∀rest,uR ks (cl++rest) v j ys
 | [],[],j,k,h=>⟨[],h,rfl,fun {T w A v ys} _ hf rest=>by cases hf;rfl⟩
 | [],_::_,j,k,h=>by cases h
 | kk::ks,[],j,k,h=>by cases kk<;>cases h
 | .sl e::ks,v0::cs,j,k,h=>by
  simp only [qv] at h
  split at h
  ·rename_i q
   cases hq:Nat.beq q j<;>simp only [hq,aO,aR] at h
   ·cases h
   obtain rfl:=Nat.eq_of_beq_eq_true hq
   obtain ⟨cl,h1,h2,h3⟩:=lE h
   refine ⟨_,h1,by simp [h2],fun {T w A v ys} hv hf rest=>?_⟩
   cases hf with
   | cons hx ht=>
    rename_i y ys'
    refine ⟨ys',?_,h3 (fun i h1 h2=>hv i (by omega) (by simp only [mz,List.length_cons];omega)) ht rest⟩
    rw [hx.1.2.1,hv q (Nat.le_refl _) (by simp only [mz,List.length_cons];omega)]
  ·cases h
 | .int ik::ks,v0::cs,j,k,h=>by
  simp only [qv] at h
  cases hf0:fits (fun _=>.dead) (.int ik) v0<;>simp only [hf0,aO,aR] at h
  ·cases h
  cases v0<;>first | (simp only [fits] at hf0;cases hf0;done) | skip
  rename_i jk n
  obtain rfl:=gu hf0
  obtain ⟨cl,h1,h2,h3⟩:=lE (show qv ks cs j (fun ls=>k (.int n::ls))=some ans from h)
  refine ⟨_,h1,by simp [h2],fun {T w A v ys} hv hf rest=>?_⟩
  cases hf with
  | cons hx ht=>exact ⟨_,_,rfl,fun T w A=>⟨hx.1,hx.2⟩,h3 hv ht rest⟩
 | .bool::ks,v0::cs,j,k,h=>by
  simp only [qv] at h
  cases hf0:fits (fun _=>.dead) .bool v0<;>simp only [hf0,aO,aR] at h
  ·cases h
  cases v0<;>first | (simp only [fits] at hf0;cases hf0;done) | skip
  rename_i n
  obtain ⟨cl,h1,h2,h3⟩:=lE (show qv ks cs j (fun ls=>k (.bool n::ls))=some ans from h)
  refine ⟨_,h1,by simp [h2],fun {T w A v ys} hv hf rest=>?_⟩
  cases hf with
  | cons hx ht=>exact ⟨_,_,rfl,fun T w A=>⟨hx.1,hx.2⟩,h3 hv ht rest⟩
 | .str::ks,v0::cs,j,k,h=>by
  simp only [qv] at h
  cases hf0:fits (fun _=>.dead) .str v0<;>simp only [hf0,aO,aR] at h
  ·cases h
  cases v0<;>first | (simp only [fits] at hf0;cases hf0;done) | skip
  rename_i n
  obtain ⟨cl,h1,h2,h3⟩:=lE (show qv ks cs j (fun ls=>k (.str n::ls))=some ans from h)
  refine ⟨_,h1,by simp [h2],fun {T w A v ys} hv hf rest=>?_⟩
  cases hf with
  | cons hx ht=>exact ⟨_,_,rfl,fun T w A=>⟨hx.1,hx.2⟩,h3 hv ht rest⟩
theorem yP (hT:∀t i,E.T t=some i->fX P E t i){f:Func}{ks:List K}{p:RP}{B:cD}(hf:p.nQ=true)(hnp:nC ks=E.np)(hBN:∀j b,B.N j b->B.v 0=.pointer (some ⟨b,0,none⟩)) :
  Fits E w0 ⟨fun b=>∃j,B.N j b,B.v,[]⟩ B.Z ans (dA E f (.cur ks p.parts)) (bodyPost P f (uE E w0 B ks p ans)):=by
 intro e s a w h ⟨A,sm,hz⟩
 have key0:∀{A:cD} {s:St},fL E w0 (⟨fun b=>∃j,B.N j b,B.v,[]⟩:Mem E.np) A s a w->A.Z=B.Z->(slotsOf E s f.results.toList fun vs=>match s.hp 0 with
   | .box cs=>qv ks cs 1 fun cl=>kZ false p.parts (upd s.hp 0 .dead) vs fun ls _=>some (cl++ls)
   | _=>none)=some ans->a.defers=[]/\∃v,(results f a.tmps).run P w=.ok v w/\uE E w0 B ks p ans (.returned v) w:=by
  intro A s sm hz h
  refine ⟨sm.df,?_⟩
  have hh:=sm.hp
  obtain ⟨vs,xs,h1,h2,h3⟩:=gK hT sm h
  split at h1
  case h_2=>cases h1
  rename_i cs hr
  obtain ⟨cl,k1,k2,k3⟩:=lE h1
  obtain ⟨ls,hp',rs,g1,g2,g3,g4,g5,g6⟩:=mJ k1
  injection g1 with g1
  subst g1
  have hroot:=hh.rt 0
  rw [hr] at hroot
  obtain ⟨al0,g,te,cur,v0,N0,hg,hc⟩:=hroot
  obtain ⟨vals,e1,e2⟩:=g6 hh (Sub.one s.hp 0) h2
  have hdrop:(cl++ls).drop ks.length=ls:=by rw [<-k2,List.drop_left]
  have hgN:A.N 0 g:=(N0 g).2 rfl
  have h0rs:some 0∉rs:=fun hm=>g4.was 0 hm (aQ _ _ _)
  have hlR:rs.length=(p.R ls).length:=by rw [g3,nL]
  have hpin:∀j,j<nC ks->A.v j=B.v j:=fun j hj=>(hh.pn j (hnp ▸ hj)).2
  have hN:∀i b,(A.out (rs++[some 0]) (vals++[A.v 0])).N i b↔(∃q,rs[i]?=some (some q)/\A.N q b)∨(i=rs.length/\A.N 0 b):=by
   intro i b
   show (∃q,(rs++[some 0])[i]?=some (some q)/\A.N q b)↔_
   by_cases hi:i<rs.length
   ·rw [List.getElem?_append_left hi]
    exact ⟨.inl,fun h=>h.elim id fun h=>by omega⟩
   ·by_cases hi2:i=rs.length
    ·subst hi2
     rw [List.getElem?_append_right (Nat.le_refl _)]
     simp
    ·rw [List.getElem?_eq_none (by simp;omega),List.getElem?_eq_none (by omega)]
     simp [hi2]
  have hZ:zI false w A (A.out (rs++[some 0]) (vals++[A.v 0])):=⟨fun h=>(nomatch h),fun b hb=>⟨hb.1,hb.2.1,fun i hn=>((hN i b).1 hn).elim (fun ⟨q,_,h⟩=>hb.2.2 q h) fun h=>hb.2.2 0 h.2⟩⟩
  have lies:∀{α:Type} (l:List α) (x:α),oX (l++[x]) l 0:=fun l x i y h=>by
   rw [Nat.zero_add,List.getElem?_append_left (List.getElem?_eq_some_iff.1 h).1];exact h
  obtain ⟨c1,c2⟩:=e2 (rs++[some 0]) (vals++[A.v 0]) 0 (lies _ _) (lies _ _) hZ
  rw [nL] at c2
  refine ⟨_,kQ h3,_,A.out (rs++[some 0]) (vals++[A.v 0]),g,te,cur,rfl,?_,hz,?_,hg,?_,?_,fun i b hb=>?_,fun i q b hb hb'=>?_,fun i o ho=>?_,?_⟩
  ·exact ⟨hh.fr.os,hh.fr.tape,hh.fr.output,hh.fr.size,fun b hb hn=>hh.fr.block b hb fun ⟨j,hj⟩=>hn (by
    have h4:=hBN j b hj
    rw [<-hpin 0 (Nat.succ_pos _),v0] at h4
    injection h4 with h4;injection h4 with h4;injection h4 with h4;exact h4.symm)⟩
  ·rw [<-hpin 0 (Nat.succ_pos _)];exact v0
  ·exact k3 (fun i _ h2=>hpin i (by unfold nC;omega)) hc ls
  ·rw [hdrop,<-hlR];exact (hN _ _).2 (.inr ⟨rfl,hgN⟩)
  ·rw [hdrop,<-hlR]
   rcases (hN i b).1 hb with ⟨q,hq,hn⟩ | ⟨hi,hn⟩
   ·refine ⟨hh.lt q b hn,fun _=>?_⟩
    rcases hh.nm q b hn with ⟨j,hj⟩ | h
    ·have h4:=hBN j b hj
     rw [<-hpin 0 (Nat.succ_pos _),v0] at h4
     injection h4 with h4;injection h4 with h4;injection h4 with h4
     subst h4
     have:=hh.dj q 0 g hn hgN
     subst this
     exact (h0rs (List.mem_of_getElem? hq)).elim
    ·exact h
   ·exact ⟨hh.lt 0 b hn,fun h=>by omega⟩
  ·rcases (hN i b).1 hb with ⟨p1,hp1,hn⟩ | ⟨hi,hn⟩<;>rcases (hN q b).1 hb' with ⟨p2,hp2,hn'⟩ | ⟨hi',hn'⟩
   ·have:=hh.dj p1 p2 b hn hn'
    subst this
    exact g5 i q p1 hp1 hp2
   ·have:=hh.dj p1 0 b hn hn'
    subst this
    exact (h0rs (List.mem_of_getElem? hp1)).elim
   ·have:=hh.dj p2 0 b hn' hn
    subst this
    exact (h0rs (List.mem_of_getElem? hp2)).elim
   ·omega
  ·rw [hdrop] at ho
   have:=c2 i o ho
   rwa [Nat.zero_add] at this
  ·rw [hdrop];exact zB hf c1
 have key:gU E (nq f.results.toList p.parts) s (fun s=>slotsOf E s f.results.toList fun vs=>match s.hp 0 with
   | .box cs=>qv ks cs 1 fun cl=>kZ false p.parts (upd s.hp 0 .dead) vs fun ls _=>some (cl++ls)
   | _=>none)=some ans->a.defers=[]/\∃v,(results f a.tmps).run P w=.ok v w/\uE E w0 B ks p ans (.returned v) w:=by
  intro h
  obtain ⟨s',A',h1,h2,h3⟩:=sm.gU h
  exact key0 h2 (h3.trans hz) h1
 cases e with
 | exit j=>cases h
 | normal=>exact key h
 | ret=>exact key h
theorem kV:∀(ps:List (Option fF)) (ls:List L),(kW ps ls).length=ps.length
 | [],_=>rfl
 | none::ps,ls=>by simp [kW,kV ps]
 | some p::ps,ls=>by simp [kW,kV ps]
theorem B9 {T:Nat->List K}{np:Nat}{M:Mem np}{B:cD}{ks:List K}{ls:List L}(hp:Hp T w0 M B (iq (.box (gf ks ls 1)::iI ks ls)) w):∀j b,B.N j b->B.v 0=.pointer (some ⟨b,0,none⟩):=by
 intro j b hb
 have hv:∀{ks:List K} {ls:List L} {i:Nat},(∃e xs,iq (iI ks ls) i=.vw e xs)∨iq (iI ks ls) i=.dead:=by
  intro ks
  induction ks with
  | nil=>intro ls i;exact .inr rfl
  | cons k ks ih=>
   intro ls i
   cases k<;>first | exact ih | skip
   cases i with
   | zero=>exact .inl ⟨_,_,rfl⟩
   | succ i=>exact ih (i:=i)
 have hr:=hp.rt j
 cases j with
 | zero=>
  obtain ⟨_,g,te,cur,v0,N0,_⟩:=hr
  rw [(N0 b).1 hb];exact v0
 | succ j=>
  have hr':dB T w B (j+1) (iq (iI ks ls) j):=hr
  rcases hv (ks:=ks) (ls:=ls) (i:=j) with ⟨e,xs,h⟩ | h
  ·rw [h] at hr';exact (hr'.2.1 b hb).elim
  ·rw [h] at hr';exact (hr' b hb).elim
theorem zM {E0:Env}{g:FuncId}{fn:Func}{c:Code}{aM:jO}(hT:∀t i,E.T t=some i->fX P E t i)(hG:∀g c,c∈E.G g->Valid P E g c)(hM:mG P E)(hD:∀w0 M Z0 ans,nJ P E w0 M Z0 ans)
  (he : E.T = E0.T) (hnp : E.np = nC aM.ks) (hf : P.funcs[g]? = some fn) (hname : (fn.name == "runtime.NumGoroutine") = false) (hb : fn.body = some c) (hfine : aM.res.nQ = true) (hn : (cq c).Nodup)
  (hnt:aM.args.length+(fn.ntmps - aM.args.length)=E.nt) (live:Nat->Live) (h:∀ls r,aM.sem ls=some r->∃n,eY E live fn (.cur aM.ks aM.res.parts) n (iG aM.ks aM.args ls)=some r):gD P E0 g aM:=by
 have hbody:bL fn=c:=by simp [bL,hb]
 have hc:E0.cells=E.cells:=by funext t;simp [Env.cells,he]
 refine ⟨⟨fn,hf,hname,by rw [hb];rfl⟩,hfine,fun ls r w vs B hs hp hal hv=>?_⟩
 rw [hc] at hv hp
 obtain ⟨n,hrun⟩:=h ls r hs
 have hvl:vs.length=aM.args.length:=by rw [<-hv.length,kV]
 have key:=oQ (live:=live) (P:=P) (w0:=w) (M:=⟨fun b=>∃j,B.N j b,B.v,[]⟩) (Z0:=B.Z) (Q:=bodyPost P fn (uE E w B aM.ks aM.res r)) hT hG hM (hD _ _ _ _) (by rw [hbody];exact hn) (yP hT hfine hnp.symm (B9 hp)) hrun
  (a:={ tmps:=vs.toArray++Array.replicate (fn.ntmps - vs.toArray.size) undef,defers:=[] }) (w:=w) ⟨B,⟨⟨hp.lt,hp.dj,hp.al,hp.rt,hp.fr,hp.nm,hp.zf,fun j hj=>hp.pn j (hnp ▸ hj)⟩,fun i x hx=>?_,hal,rfl,?_,.nil⟩,rfl⟩
 ·rw [hbody] at key
  refine (calls_of_wp hf hb key).mono fun e w' hR=>?_
  unfold uE at hR ⊢
  rw [hc];exact hR
 ·show V2 E.cells w B (iQ (kW aM.args (bA aM.ks.length ls)) i) x
  rw [iw]
  by_cases hi:i<vs.length
  ·have hx':vs[i]?=some x:=by simpa [Array.getElem?_append,hi] using hx
   have hl:=hv.length
   have hg:=List.getElem?_eq_getElem (show i<(kW aM.args (ls.drop aM.ks.length)).length by omega)
   obtain ⟨y,hy,hr⟩:=hv.get hg
   rw [hx'] at hy;injection hy with hy;subst hy
   rw [qi hg];exact hr
  ·rw [lM (by rw [hv.length];omega)]
   have :x=undef:=by
    have h2:¬i<vs.toArray.size:=by simpa using hi
    rw [Array.getElem?_append,if_neg h2] at hx
    have:=(Array.getElem?_eq_some_iff.1 hx).2
    rw [<-this];simp
   subst this
   rfl
 ·have hvs:vs.toArray.size=aM.args.length:=by simpa using hvl
  show (vs.toArray++Array.replicate (fn.ntmps - vs.toArray.size) undef).size=E.nt
  rw [Array.size_append,Array.size_replicate,hvs]
  exact hnt
def sQ:List K->List Value->List Value
 | .sl _::ks,y::ys=>y::sQ ks ys
 | _::ks,_::ys=>sQ ks ys
 | _,_=>[]
def lR (hp:Nat->aK)(v:V):Bool:=cN v||(match v with
 | .own q=>(match hp q with | .vw _ _=>true | _=>false)
 | _=>false)
theorem xS {hp:Nat->aK}{v:V}(h:lR hp v=true)(rs:List Nat):iU rs v=v:=by
 cases v<;>first | rfl | skip
 case sl d e xs=>
  cases d with
  | none=>rfl
  | some q=>simp [lR,cN] at h
 all_goals simp [lR,cN] at h
theorem wk {T:Nat->List K}{np:Nat}{M:Mem np}{A:cD}{hp:Nat->aK}(hh:Hp T w0 M A hp w){e:Nat}{v:V}{k:List L->aD}{kk:L->aD}(hf:fits hp (.sl e) v=true)(hs:lR hp v=true)(h:jw hp v kk=some ans) :
  ∃l,kk l=some ans/\∀{y},V0 T w A v y->Rd T w (eo w A) (.sl e) y (.sl l.dz)/\∃a n c,y=.slice a n c:=by
 cases v<;>first | (simp only [fits] at hf;cases hf;done) | skip
 case nil=>
  refine ⟨_,h,fun {y} hv=>?_⟩
  obtain ⟨a,rfl⟩:=hv
  exact ⟨.nil _ _ _ _ rfl,_,_,_,rfl⟩
 case sl d e' xs=>
  simp only [fits] at hf
  obtain rfl:=Nat.eq_of_beq_eq_true hf
  refine ⟨_,h,fun {y} hv=>?_⟩
  cases d with
  | none=>
   obtain ⟨A1,m,c,p1,_⟩:=hv.2.inv
   exact ⟨hv.2,_,_,_,p1⟩
  | some q=>simp [lR,cN] at hs
 case own q=>
  simp only [lR,cN,Bool.false_or] at hs
  split at hs
  ·rename_i e' xs hq
   simp only [fits,hq] at hf
   obtain rfl:=Nat.eq_of_beq_eq_true hf
   simp only [jw,hq] at h
   refine ⟨_,h,fun {y} hv=>?_⟩
   have hr:=hh.rt q
   rw [hq] at hr
   rw [hv.2.1]
   exact ⟨hr.2.2.2,hr.2.2.1⟩
  ·cases hs
theorem wP {hp:Nat->aK}{kk:K}(hk:∀e,kk≠.sl e){v:V}{k:L->aD}(hf:fits hp kk v=true)(h:jw hp v k=some ans) :
  ∃l,k l=some ans/\∀{T:Nat->List K} {w:World} {A:cD} {y:Value},Vc T w A v y->∀(T':Nat->List K) (w':World) (A':cD),Vc T' w' A' (xZ none kk l) y:=by
 cases kk with
 | sl e=>exact (hk e rfl).elim
 | int ik=>
  cases v<;>first | (simp only [fits] at hf;cases hf;done) | skip
  rename_i jk n
  obtain rfl:=gu hf
  exact ⟨_,h,fun {T w A y} hv T' w' A'=>⟨hv.1,hv.2⟩⟩
 | bool=>
  cases v<;>first | (simp only [fits] at hf;cases hf;done) | skip
  exact ⟨_,h,fun {T w A y} hv T' w' A'=>⟨hv.1,hv.2⟩⟩
 | str=>
  cases v<;>first | (simp only [fits] at hf;cases hf;done) | skip
  exact ⟨_,h,fun {T w A y} hv T' w' A'=>⟨hv.1,hv.2⟩⟩
theorem mW {hp:Nat->aK}:∀{ks:List K} {cs:List V} {k:List L->aD},jf hp ks cs k=some ans->
  ∃cl,k cl=some ans/\cl.length=ks.length/\∀{T:Nat->List K} {w0:World} {np:Nat} {M:Mem np} {A:cD} {w:World} {ys:List Value},Hp T w0 M A hp w->F2 (Vc T w A) cs ys->∀(rest:List L),
   (∀(B:cD) (j:Nat),(∀i y,(sQ ks ys)[i]?=some y->B.al (j+i)/\B.v (j+i)=y/\∀b,¬B.N (j+i) b)->(∀b,eo w A b->eo w B b)->
    F2 (Vc T w B) (gf ks (cl++rest) j) ys/\∀i o,(iI ks (cl++rest))[i]?=some o->dB T w B (j+i) o)/\
   (∀(v:Nat->Value) (j:Nat) (out:List L) (ys':List Value) (w':World) (A':cD) (rs:List Nat),(∀i y,(sQ ks ys)[i]?=some y->v (j+i)=y)->(∀v x,Vc T w A v x->Vc T w' A' (iU rs v) x)->uR ks out v j ys'->F2 (Vc T w' A') (wU ks cs out) ys')
 | [],[],k,h=>⟨[],h,rfl,fun {T w0 np M A w ys} hh hf rest=>by
   cases hf
   exact ⟨fun B j _ _=>⟨.nil,fun i o ho=>by simp [iI] at ho⟩,fun v j out ys' w' A' rs _ _ hc=>by cases hc;exact .nil⟩⟩
 | [],_::_,k,h=>by cases h
 | _::_,[],k,h=>by cases h
 | kk::ks,v0::cs,k,h=>by
  simp only [jf] at h
  cases hc:(fits hp kk v0&&lR hp v0) with
  | false=>
   have hc':=hc
   unfold lR at hc'
   rw [hc'] at h;cases h
  | true=>
  have hc':=hc
  unfold lR at hc'
  rw [hc'] at h
  simp only [aO] at h
  simp only [Bool.and_eq_true] at hc
  by_cases hk:∃e,kk=.sl e
  ·obtain ⟨e,rfl⟩:=hk
   obtain ⟨l0,h1,hl0⟩:=jT h
   obtain ⟨cl,g1,g2,g3⟩:=mW h1
   refine ⟨_,g1,by simp [g2],fun {T w0 np M A w ys} hh hf rest=>?_⟩
   obtain ⟨l1,q1,q2⟩:=wk hh (k:=fun _=>none) hc.1 hc.2 (kk:=fun x=>some [x]) (hl0 hp (fun _=>.inl rfl) _)
   injection q1 with q1;injection q1 with q1
   subst q1
   cases hf with
   | cons hx ht=>
    rename_i y ys'
    obtain ⟨r1,r2⟩:=g3 hh ht rest
    obtain ⟨d1,d2⟩:=q2 hx.1
    constructor
    ·intro B j hB hz
     obtain ⟨b1,b2,b3⟩:=hB 0 y rfl
     obtain ⟨c1,c2⟩:=r1 B (j+1) (fun i y h=>by have:=hB (i+1) y h;rwa [show j+(i+1)=j+1+i by omega] at this) hz
     refine ⟨?_,fun i o ho=>?_⟩
     ·show F2 (Vc T w B) (.own j::gf ks (cl++rest) (j+1)) (y::ys')
      exact .cons ⟨⟨b1,b2.symm,d2⟩,hx.2⟩ c1
     ·cases i with
      | zero=>
       have :o=.vw e l1.dz:=by
        have h2:(iI (.sl e::ks) (l1::cl++rest))[0]?=some (.vw e l1.dz):=rfl
        rw [h2] at ho;injection ho with ho;exact ho.symm
       subst this
       refine ⟨b1,b3,?_,?_⟩
       ·rw [b2];exact d2
       ·rw [b2];exact d1.mono hz
      | succ i=>
       have:=c2 i o ho
       rwa [show j+1+i=j+(i+1) by omega] at this
    ·intro v j out zs w' A' rs hv hkk hcur
     obtain ⟨zs',rfl,hcur'⟩:=hcur
     have hv0:=hv 0 y rfl
     refine .cons ?_ (r2 v (j+1) out.tail zs' w' A' rs (fun i y h=>by have:=hv (i+1) y h;rwa [show j+(i+1)=j+1+i by omega] at this) hkk hcur')
     rw [<-xS hc.2 rs]
     have:=hkk v0 y hx
     rw [Nat.add_zero] at hv0
     rw [hv0];exact this
  ·have hk':∀e,kk≠.sl e:=fun e he=>hk ⟨e,he⟩
   obtain ⟨l0,h1,q⟩:=wP hk' hc.1 h
   obtain ⟨cl,g1,g2,g3⟩:=mW h1
   refine ⟨_,g1,by simp [g2],fun {T w0 np M A w ys} hh hf rest=>?_⟩
   cases hf with
   | cons hx ht=>
    rename_i y ys'
    obtain ⟨r1,r2⟩:=g3 hh ht rest
    have hs:sQ (kk::ks) (y::ys')=sQ ks ys':=by cases kk<;>first | rfl | exact (hk' _ rfl).elim
    rw [hs]
    constructor
    ·intro B j hB hz
     obtain ⟨c1,c2⟩:=r1 B j hB hz
     have e1:gf (kk::ks) (l0::cl++rest) j=xZ none kk l0::gf ks (cl++rest) j:=by cases kk<;>first | rfl | exact (hk' _ rfl).elim
     have e2:iI (kk::ks) (l0::cl++rest)=iI ks (cl++rest):=by cases kk<;>first | rfl | exact (hk' _ rfl).elim
     rw [e1,e2]
     exact ⟨.cons (q hx _ _ _) c1,c2⟩
    ·intro v j out zs w' A' rs hv hkk hcur
     have e3:∃y zs',zs=y::zs'/\(∀T w A,Vc T w A (xZ none kk (out.headD .hole)) y)/\uR ks out.tail v j zs':=by cases kk<;>first | exact hcur | exact (hk' _ rfl).elim
     obtain ⟨z,zs',rfl,hz1,hz2⟩:=e3
     have e4:wU (kk::ks) (v0::cs) out=xZ none kk (out.headD .hole)::wU ks cs out.tail:=by cases kk<;>first | rfl | exact (hk' _ rfl).elim
     rw [e4]
     exact .cons (hz1 _ _ _) (r2 v j out.tail zs' w' A' rs hv hkk hz2)
end
section
variable {E:Env} {w0 w:World} {np:Nat} {M:Mem np} {A B:cD} {hp:Nat->aK} {ans:List L} {Z:Nat->Prop} {r:Nat}
theorem Cf (hh:Hp E.cells w0 M A hp w)(hz:∀b,eo w (A0 Z w) b->eo w B b)(hB:∀x,V0 E.cells w A (.bP r 0) x->V0 E.cells w B (.bP 0 0) x) :
  ∀{ps:List (Option fF)} {vs:List V} {k:List L->aD},eV w A Z (jY ps vs=true)->fO E hp r ps vs k=some ans->
  ∃ls,k ls=some ans/\∀{xs},F2 (V2 E.cells w A) vs xs->F2 (V2 E.cells w B) (kW ps ls) xs:=by
 intro ps
 induction ps with
 | nil=>
  intro vs k hm h
  cases vs with
  | nil=>exact ⟨[],h,fun {xs} hf=>by cases hf;exact .nil⟩
  | cons=>simp only [fO] at h;cases h
 | cons p ps ih=>
  intro vs k hm h
  cases vs with
  | nil=>cases p<;>(simp only [fO] at h;cases h)
  | cons v vs=>
   cases p with
   | none=>
    simp only [fO] at h
    split at h
    ·rename_i r' o
     cases hc:(Nat.beq r' r&&Nat.beq o 0)<;>simp only [hc,aO,aR] at h
     ·cases h
     simp only [Bool.and_eq_true] at hc
     obtain rfl:=Nat.eq_of_beq_eq_true hc.1
     obtain rfl:=Nat.eq_of_beq_eq_true hc.2
     obtain ⟨b,h4,h5⟩:=ih (hm.imp id fun ⟨a,b⟩=>⟨a,b⟩) h
     refine ⟨b,h4,fun {xs} hf=>?_⟩
     cases hf with
     | cons hv ht=>exact .cons (V0.v2 (v:=.bP 0 0) (hB _ hv)) (h5 ht)
    ·cases h
   | some p=>
    simp only [fO] at h
    have hm1:eV w A Z (gR v=true):=hm.imp id fun ⟨a,b⟩=>⟨by simp only [jY,Bool.and_eq_true] at a;exact a.1,b⟩
    have hm2:eV w A Z (jY ps vs=true):=hm.imp id fun ⟨a,b⟩=>⟨by simp only [jY,Bool.and_eq_true] at a;exact a.2,b⟩
    obtain ⟨a,h1,h2,h3⟩:=CT hh hm1 h
    obtain ⟨b,h4,h5⟩:=ih hm2 h1
    refine ⟨a++b,h4,fun {xs} hf=>?_⟩
    cases hf with
    | cons hv ht=>
     refine .cons ((h3 b hv).up (fun _ h=>h) hz) ?_
     have :bA p.n (a++b)=b:=by rw [iw,<-h2,List.drop_left]
     rw [this]
     exact h5 ht
end
section
variable {P:Program} {E:Env}
theorem BF {T:Nat->List K}{w:World}{A:cD}{al':Nat->Prop}{l:Lf}{x:L}{j:Nat}{y:Value}(ha:∀i,j<=i->i<j+(wj l x).length->al' i)(h:V0 T w A (vA l x j) y):V0 T w { A with al:=al' } (vA l x j) y:=by
 cases l with
 | fr e=>exact ⟨ha j (Nat.le_refl _) (by simp [wj]),h.2⟩
 | rd k=>cases k<;>first | exact h | exact ⟨fun _ h=>(nomatch h),h.2⟩
theorem yq {T:Nat->List K}{w:World}{A:cD}{al':Nat->Prop}:∀{q:List Lf} {ls:List L} {j:Nat} {ys:List Value},(∀i,j<=i->i<j+(iK q ls).length->al' i)->F2 (Vc T w A) (jN q ls j) ys->F2 (Vc T w { A with al:=al' }) (jN q ls j) ys
 | [],ls,j,ys,_,h=>by cases h;exact .nil
 | l::q,ls,j,ys,ha,h=>by
  simp only [iK,List.length_append] at ha
  simp only [jN] at h ⊢
  cases h with
  | cons h1 h2=>exact .cons ⟨BF (fun i h3 h4=>ha i h3 (by omega)) h1.1,h1.2⟩ (yq (fun i h3 h4=>ha i (by omega) (by omega)) h2)
theorem Db {T:Nat->List K}{w:World}{A:cD}{l:Lf}{x:L}{i:Nat}{y:Value}(h:V2 T w A (vA l x i) y):V0 T w A (vA l x i) y:=by
 cases l with
 | fr e=>exact h
 | rd k=>cases k<;>exact h
theorem Ba {T:Nat->List K}{w:World}{A:cD}{l:Lf}{x:L}{i:Nat}{y:Value}:V1 T w A (vA l x i) y↔V0 T w A (vA l x i) y:=by
 cases l with
 | fr e=>exact Iff.rfl
 | rd k=>cases k<;>exact Iff.rfl
theorem BB {T:Nat->List K}{w:World}{A:cD}{al':Nat->Prop}:∀{ps:List (Bool×List Lf)} {ls:List L} {j:Nat} {ys:List Value},(∀i,j<=i->i<j+(kU ps ls).length->al' i)->F2 (V1 T w A) (jI ps ls j) ys->F2 (V1 T w { A with al:=al' }) (jI ps ls j) ys
 | [],ls,j,ys,_,h=>by cases h;exact .nil
 | (a,q)::ps,ls,j,ys,ha,h=>by
  simp only [kU,List.length_append] at ha
  simp only [jI] at h ⊢
  cases h with
  | cons h1 h2=>
   refine .cons ?_ (BB (fun i h3 h4=>ha i (by omega) (by omega)) h2)
   cases a with
   | true=>obtain ⟨l,e1,e2⟩:=h1;exact ⟨l,e1,yq (fun i h3 h4=>ha i h3 (by omega)) e2⟩
   | false=>
    cases q with
    | nil=>exact h1
    | cons l q=>
     simp only [iK,List.length_append] at ha
     exact Ba.2 (BF (fun i h3 h4=>ha i h3 (by omega)) (Ba.1 h1))
theorem C2 {T:Nat->List K}{w:World}{A:cD}{al':Nat->Prop}{p:RP}{ls:List L}{j:Nat}{y:Value}(ha:∀i,j<=i->i<j+(p.R ls).length->al' i)(hok:p.ok=true)(h:V2 T w A (p.V ls j) y):V2 T w { A with al:=al' } (p.V ls j) y:=by
 cases p with
 | one l=>exact V0.v2 (BF ha (Db h))
 | agg q=>
  obtain ⟨l,e1,e2⟩:=(show V1 T w A (.agg (jN q ls j)) y from h)
  exact V1.v2 (v:=.agg _) ⟨l,e1,yq ha e2⟩
 | gW ps=>
  obtain ⟨l,e1,e2⟩:=(show V2 T w A (.gW (jI ps ls j)) y from h)
  exact (show V2 T w _ (.gW (jI ps ls j)) y from ⟨l,e1,BB ha e2⟩)
 | zj _=>cases hok
 | zc _ _=>cases hok
 | cur _ _=>cases hok
 | uq _=>cases hok
theorem zd {c:jO}{g:FuncId}{n:Nat}(hO:gD P E g c):oH P E n g (kg E c) zQ:=by
 intro w0 M A s w vs xs k ans h hh hnx hfr hv KK hK
 obtain ⟨hent,hfine,hcall⟩:=hO
 simp only [kg] at h
 split at h
 ·cases h
 rename_i r hroot
 split at h
 case h_2=>cases h
 rename_i cs hr
 have hrt:=hh.rt r
 rw [hr] at hrt
 obtain ⟨alr,gb,te,cur,v0,N0,hg,hc⟩:=hrt
 obtain ⟨cl,h1,hcl,hcells⟩:=mW h
 cases hvw:(c.res.view&&!jY c.args (vs.map (eN [r])))<;>simp only [hvw,aO,aR] at h1
 case true=>cases h1
 have hgN:A.N r gb:=(N0 gb).2 rfl
 let Z:Nat->Prop:=fun b=>(c.res.view=true->eo w (A.gX [r]) b)/\(c.res.view=false->rI w (A.gX [r]) b)
 let B:cD:={ v:=fun j=>match j with | 0=>A.v r | j+1=>(sQ c.ks cur.toList).getD j Go.undef,N:=fun j b=>j=0/\b=gb,al:=fun j=>j<nC c.ks,Z:=fun b=>(Z b∨w.heap.size<=b)∨A.N r b }
 have hZall:∀b,Z b->rI w (A.gX [r]) b:=by
  intro b hb
  cases hv:c.res.view with
  | true=>exact .inr (hb.1 hv)
  | false=>exact hb.2 hv
 have hZg:∀b,Z b->b≠gb:=by
  rintro b hb rfl
  rcases hZall b hb with ⟨q,hq⟩ | hb
  ·exact hq.1 (by rw [hh.dj q r b hq.2 hgN];simp)
  ·exact hb.1.2 r (by simp) hgN
 have hmay:eV w (A.gX [r]) Z (jY c.args (vs.map (eN [r]))=true):=by
  cases hv:c.res.view with
  | true=>
   rw [hv] at hvw
   refine .inr ⟨by simpa using hvw,fun b hb=>⟨fun _=>hb,fun h=>(by rw [hv] at h;cases h)⟩⟩
  | false=>exact .inl fun b hb=>⟨fun h=>(by rw [hv] at h;cases h),fun _=>hb⟩
 have hzB:∀b,eo w (A0 Z w) b->eo w B b:=by
  rintro b ⟨h1,h2,_⟩
  refine ⟨.inl h1,h2,fun j hj=>?_⟩
  rcases h1 with h1 | h1
  ·exact hZg b h1 hj.2
  ·omega
 have hide_zone:∀b,eo w A b->eo w (A.gX [r]) b:=fun b hb=>⟨⟨hb.1,fun p _=>hb.2.2 p⟩,hb.2.1,fun p hp=>hb.2.2 p hp.2⟩
 have hzA:∀b,eo w A b->eo w B b:=fun b hb=>hzB b ⟨.inl ⟨fun _=>hide_zone b hb,fun _=>.inr (hide_zone b hb)⟩,hb.2.1,fun _ h=>h⟩
 have hbp:∀x,V0 E.cells w (A.gX [r]) (.bP r 0) x->V0 E.cells w B (.bP 0 0) x:=fun x ⟨_,g',h1,h2⟩=>⟨Nat.succ_pos _,g',h1,h2⟩
 obtain ⟨ls,h3,h4⟩:=Cf (Hp.gX (rs:=[r]) hh) hzB hbp hmay h1
 have hargs:=h4 (hv.map' (f:=eN [r]) fun v x h=>h.gX)
 cases hs:c.sem (cl++ls) with
 | none=>rw [hs] at h3;cases h3
 | some out=>
  rw [hs] at h3
  simp only [Option.bind_some] at h3
  rw [kI] at h3
  obtain ⟨hin,hout⟩:=hcells hh hc ls
  have hslv:∀i y,(sQ c.ks cur.toList)[i]?=some y->B.v (1+i)=y:=fun i y h=>by
   show (match 1+i with | 0=>A.v r | j+1=>(sQ c.ks cur.toList).getD j Go.undef)=y
   rw [Nat.add_comm]
   simp [List.getD_eq_getElem?_getD,h]
  have hsl:∀{ks:List K} {ys:List Value},(sQ ks ys).length<=(mz ks).length:=by
   intro ks
   induction ks with
   | nil=>intro ys;cases ys<;>exact Nat.le_refl _
   | cons k ks ih=>intro ys;cases ys<;>cases k<;>simp only [sQ,mz,List.length_cons,List.length_nil]<;>first | exact ih | exact Nat.zero_le _ | exact Nat.succ_le_succ ih
  obtain ⟨i1,i2⟩:=hin B 1 (fun i y h=>⟨show 1+i<nC c.ks by
    have:=(List.getElem?_eq_some_iff.1 h).1
    have:=hsl (ks:=c.ks) (ys:=cur.toList)
    unfold nC;omega,hslv i y h,fun b hb=>by have:=hb.1;omega⟩) hzA
  have hcl':(cl++ls).drop c.ks.length=ls:=by rw [<-hcl,List.drop_left]
  have hlen:(iI c.ks (cl++ls)).length+1=nC c.ks:=by
   have :∀{ks:List K} {l:List L},(iI ks l).length=(mz ks).length:=by
    intro ks
    induction ks with
    | nil=>intro l;rfl
    | cons k ks ih=>intro l;cases k<;>simp only [iI,mz,List.length_cons,ih]
   unfold nC;rw [this]
  have hBh:Hp (np:=nC c.ks) E.cells w ⟨fun b=>∃j,B.N j b,B.v,[]⟩ B (iq (.box (gf c.ks (cl++ls) 1)::iI c.ks (cl++ls))) w:=by
   have hge:∀{h:List aK} {i:Nat},h.length<=i->iq h i=.dead:=by
    intro h
    induction h with
    | nil=>intro i _;rfl
    | cons o h ih=>intro i hi;cases i with
     | zero=>simp at hi
     | succ i=>exact ih (by simpa using hi)
   refine ⟨fun j b hb=>?_,fun j q b hb hb'=>by rw [hb.1,hb'.1],fun j hj=>hge (by simp only [List.length_cons];rw [hlen];exact Nat.le_of_not_lt hj),fun j=>?_,Fr.refl _ _,fun j b hb=>.inl ⟨j,hb⟩,fun b hb=>hb.elim (fun ⟨j,hj⟩=>.inr (by rw [hj.2];exact hgN)) (fun h=>.inl (.inr h)),fun j hj=>⟨hj,rfl⟩⟩
   ·rw [hb.2];exact hh.lt r gb hgN
   ·cases j with
    | zero=>exact ⟨Nat.succ_pos _,gb,te,cur,v0,fun b=>⟨fun h=>h.2,fun h=>⟨rfl,h⟩⟩,hg,i1⟩
    | succ j=>
     by_cases hj:j<(iI c.ks (cl++ls)).length
     ·have ho:=List.getElem?_eq_getElem hj
      have:=i2 j _ ho
      rw [Nat.add_comm] at this
      show dB E.cells w B (j+1) (iq (iI c.ks (cl++ls)) j)
      rw [lD ho];exact this
     ·show dB E.cells w B (j+1) (iq (iI c.ks (cl++ls)) j)
      rw [hge (by omega)]
      exact fun b hb=>by have:=hb.1;omega
  refine (hcall (cl++ls) out w xs B hs hBh (fun q hq h=>?_) (by rw [hcl'];exact hargs)).mono fun e w' hpost=>?_
  ·have :q<nC c.ks:=h
   omega
  obtain ⟨rv,A',g',te',cur',rfl,hF,hZ',p1,p2,p3,p4,p5,p6,p7,hres⟩:=hpost
  have hgb:g'=gb:=by
   have :A.v r=.pointer (some ⟨g',0,none⟩):=p1
   rw [v0] at this;injection this with this;injection this with this;injection this with this;exact this.symm
  subst hgb
  rw [iw] at h3
  refine ⟨rv,rfl,?_⟩
  let rows:List aK:=c.res.R (out.drop c.ks.length)
  let A1:cD:={ v:=A.v,N:=A.N,al:=A.al,Z:=A.Z }
  have hout':∀i,A.al i->¬(s.nx<=i/\i<s.nx+rows.length):=fun i ha h=>hnx i h.1 ha
  have hjN:∀i,¬(s.nx<=i/\i<s.nx+rows.length)->(A1.join A' s.nx rows.length).N i=A.N i:=fun i hi=>if_neg hi
  have hjI:∀i,(s.nx<=i/\i<s.nx+rows.length)->(A1.join A' s.nx rows.length).N i=A'.N (i - s.nx):=fun i hi=>if_pos hi
  have hnew:∀i,i<rows.length->∀b,A'.N i b->w.heap.size<=b/\b<w'.heap.size:=fun i hi b hb=>⟨(p5 i b hb).2 hi,(p5 i b hb).1⟩
  have st:Step A (A1.join A' s.nx rows.length) w w' (fun p=>p∈[r]):=by
   refine ⟨rfl,fun i h=>.inl h,fun i h=>if_neg (hout' i h),hF.size,fun b hb hn=>hF.block b hb fun hj=>hn r (by simp) (hj ▸ hgN),fun i h1 h2 b=>by rw [hjN i (hout' i h1)],fun i b h1 h2=>?_⟩
   by_cases hi:s.nx<=i/\i<s.nx+rows.length
   ·rw [hjI i hi] at h2
    exact .inr (hnew _ (by omega) b h2).1
   ·rw [hjN i hi] at h2
    rcases h1 with h1 | h1
    ·have :i=r:=by simpa using h1
     subst this
     exact .inl ⟨i,by simp,h2⟩
    ·exact (h1 (hh.xd h2)).elim
  have hjz:∀b,eo w' A' b->c.res.view=true->eo w' (A1.join A' s.nx rows.length) b:=by
   rintro b ⟨z1,z2,z3⟩ hvt
   have hbg:b≠g':=by rintro rfl;exact z3 _ p4
   rw [hZ'] at z1
   have hnN:∀i,¬A.N i b:=by
    intro i hi
    rcases z1 with (z1 | z1) | z1
    ·have:=z1.1 hvt
     by_cases hir:i=r
     ·subst hir;exact this.1.2 i (by simp) hi
     ·exact this.2.2 i ⟨by simpa using hir,hi⟩
    ·have:=hh.lt i b hi;omega
    ·exact hbg ((N0 b).1 z1)
   refine ⟨?_,z2,fun i hi=>?_⟩
   ·rcases z1 with (z1 | z1) | z1
    ·exact (z1.1 hvt).1.1
    ·exact hh.zf b (.inr (Nat.le_trans hh.fr.size z1))
    ·exact (hbg ((N0 b).1 z1)).elim
   ·by_cases hin:s.nx<=i/\i<s.nx+rows.length
    ·rw [hjI i hin] at hi;exact z3 _ hi
    ·rw [hjN i hin] at hi;exact hnN i hi
  have hHp:Hp E.cells w0 M (A1.join A' s.nx rows.length) (dH (upd (jW [r] s.hp) r (.box (wU c.ks cs out))) s.nx rows) w':=by
   have hrn:¬(s.nx<=r/\r<s.nx+rows.length):=hout' r alr
   refine ⟨fun i b hb=>?_,fun i q b hb hb'=>?_,fun i hi=>?_,fun i=>?_,hh.fr.trans hF fun b hb=>by rw [hb];exact hh.nm r g' hgN,fun i b hb=>?_,hh.zf,fun j hj=>⟨.inl (hh.pn j hj).1,(st.v j (hh.pn j hj).1).trans (hh.pn j hj).2⟩⟩
   ·by_cases hi:s.nx<=i/\i<s.nx+rows.length
    ·rw [hjI i hi] at hb;exact (hnew _ (by omega) b hb).2
    ·rw [hjN i hi] at hb;exact Nat.lt_of_lt_of_le (hh.lt i b hb) hF.size
   ·have key:∀{j p:Nat},j<rows.length->A'.N j b->A.N p b->False:=by
     intro j p hj h1 h2
     have:=(hnew j hj b h1).1
     have:=hh.lt p b h2;omega
    by_cases hi:s.nx<=i/\i<s.nx+rows.length<;>by_cases hq:s.nx<=q/\q<s.nx+rows.length
    ·rw [hjI i hi] at hb;rw [hjI q hq] at hb'
     have:=p6 _ _ _ hb hb'
     omega
    ·rw [hjI i hi] at hb;rw [hjN q hq] at hb';exact (key (by omega) hb hb').elim
    ·rw [hjN i hi] at hb;rw [hjI q hq] at hb';exact (key (by omega) hb' hb).elim
    ·rw [hjN i hi] at hb;rw [hjN q hq] at hb';exact hh.dj _ _ _ hb hb'
   ·have h1:¬A.al i:=fun h=>hi (.inl h)
    have h2:¬(s.nx<=i/\i<s.nx+rows.length):=fun h=>hi (.inr h)
    rw [dN _ _ _ _ (by omega),aI _ _ (fun e=>h1 (by rw [e];exact alr))]
    by_cases hm:i∈[r]
    ·exact sr hm
    ·rw [iJ hm,hh.al i h1];rfl
   ·by_cases hi:s.nx<=i/\i<s.nx+rows.length
    ·obtain ⟨o,ho⟩:∃o,rows[i - s.nx]?=some o:=⟨rows[i - s.nx]'(by omega),List.getElem?_eq_getElem (by omega)⟩
     have e1:=iH rows (upd (jW [r] s.hp) r (.box (wU c.ks cs out))) s.nx _ _ ho
     rw [show s.nx+(i - s.nx)=i by omega] at e1
     rw [e1]
     obtain ⟨e,xs',rfl⟩:=RP.CP (List.mem_of_getElem? ho)
     have e2:=p7 (i - s.nx) _ ho
     refine ⟨.inr hi,?_⟩
     simp only [cD.join,if_pos hi]
     exact e2.2
    ·rw [dN _ _ _ _ (by omega)]
     by_cases hir:i=r
     ·subst hir
      rw [aQ]
      refine ⟨.inl alr,g',te',cur',by rw [st.v i alr];exact v0,fun b=>by rw [hjN i hi];exact N0 b,p2,?_⟩
      exact hout B.v 1 out cur'.toList w' _ [i] hslv (fun v x hx=>⟨hx.1.kill st hh,hx.2⟩) p3
     ·rw [aI _ _ hir]
      have hm:i∉[r]:=by simpa using hir
      rw [iJ hm]
      have ho:=hh.rt i
      cases hq:s.hp i with
      | dead=>
       intro b hb
       rw [hjN i hi] at hb
       rw [hq] at ho
       exact ho b hb
      | box cs2=>
       rw [hq] at ho
       obtain ⟨ha,g2,te2,cur2,h1,h2,h3,h4⟩:=ho
       refine ⟨.inl ha,g2,te2,cur2,by rw [st.v i ha];exact h1,fun b=>(st.N i ha hm b).trans (h2 b),?_,lQ st hh h4⟩
       rw [(st.root hh hm ((h2 g2).2 rfl)).2];exact h3
      | row e xs'=>
       rw [hq] at ho
       refine ⟨.inl ho.1,?_⟩
       rw [st.v i ho.1]
       exact (ho.2.frame (w':=w') fun b hb=>(st.root hh hm hb).2).mono fun b hb=>(st.root hh hm hb).1
      | qt e xs' j cs=>
       rw [hq] at ho
       refine ⟨.inl ho.1,ho.2.1,?_⟩
       rw [st.v i ho.1]
       exact (ho.2.2.frame (w':=w') fun b hb=>(st.root hh hm hb).2).mono fun b hb=>(st.root hh hm hb).1
      | xW e xs' j p=>
       rw [hq] at ho
       refine ⟨.inl ho.1,ho.2.1,?_⟩
       rw [st.v i ho.1]
       exact ho.2.2.move (fun b hb=>(st.root hh hm hb).2) fun b hb=>(st.root hh hm hb).1
      | vw e xs'=>
       rw [hq] at ho
       exact ho.vw st hh hm
   ·by_cases hi:s.nx<=i/\i<s.nx+rows.length
    ·rw [hjI i hi] at hb
     exact .inr (Nat.le_trans hh.fr.size (hnew _ (by omega) b hb).1)
    ·rw [hjN i hi] at hb;exact hh.nm i b hb
  refine hK _ _ rv w' (A1.join A' s.nx rows.length) h3 hHp (fun i hi ha=>?_) (hfr.map' (f:=eN [r]) fun v x h=>h.kill st hh) ?_ rfl ⟨Nat.le_add_right _ _,fun i ha=>ha.imp id fun h=>h.1⟩
  ·have hi':s.nx+rows.length<=i:=hi
   rcases ha with ha | ha
   ·exact hnx i (by omega) ha
   ·have:=ha.2;omega
  ·have hok:c.res.ok=true:=by simp only [RP.nQ,Bool.and_eq_true] at hfine;exact hfine.1
   have h2:=C2 (al':=fun i=>i<rows.length) (fun i _ hi=>by rwa [Nat.zero_add] at hi) hok hres
   exact Aq (A':={ A' with al:=fun i=>i<rows.length }) (rs:=rows) (j:=0) rfl (fun i=>Iff.rfl) hok (fun hv b hb=>hjz b hb hv) h2
theorem mo {ans:List L}{hp:Nat->aK}{r:Nat}:∀{ps:List (Option fF)} {vs:List V} {k:List L->aD},fO E hp r ps vs k=some ans->∃ls,k ls=some ans/\∀k':List L->aD,fO E hp r ps vs k'=k' ls
 | [],[],k,h=>⟨[],h,fun _=>rfl⟩
 | [],_::_,k,h=>by cases h
 | none::_,[],k,h=>by cases h
 | some _::_,[],k,h=>by cases h
 | none::ps,v::vs,k,h=>by
  cases v<;>first | (simp only [fO] at h;cases h;done) | skip
  simp only [fO] at h
  obtain ⟨b0,h0⟩:=dG h
  obtain ⟨b,h3,h4⟩:=mo h0
  exact ⟨_,h3,fun k'=>by simp only [fO,b0,aO,h4]⟩
 | some p::ps,v::vs,k,h=>by
  simp only [fO] at h
  obtain ⟨a,h1,h2⟩:=tP h
  obtain ⟨b,h3,h4⟩:=mo h1
  exact ⟨_,h3,fun k'=>by simp only [fO,h2 hp (fun _=>.inl rfl),h4]⟩
theorem oZ {ans:List L}{hp:Nat->aK}:∀{ks:List K} {cs:List V} {k:List L->aD},jf hp ks cs k=some ans->∃cl,k cl=some ans/\∀k':List L->aD,jf hp ks cs k'=k' cl
 | [],[],k,h=>⟨[],h,fun _=>rfl⟩
 | [],_::_,k,h=>by cases h
 | _::_,[],k,h=>by cases h
 | kk::ks,v::vs,k,h=>by
  simp only [jf] at h
  obtain ⟨b0,h0⟩:=dG h
  obtain ⟨l,h1,h2⟩:=jT h0
  obtain ⟨b,h3,h4⟩:=oZ h1
  exact ⟨_,h3,fun k'=>by simp only [jf,b0,aO,h2 hp (fun _=>.inl rfl),h4]⟩
theorem qO {r:Nat}:∀{ps:List (Option fF)} {vs:List V},xE ps vs=some r->∃o,V.bP r o∈vs
 | [],vs,h=>by cases h
 | none::ps,[],h=>by cases h
 | some _::ps,[],h=>by cases h
 | none::ps,v::vs,h=>by
  cases v with
  | bP q o=>
   injection h with h
   subst h
   exact ⟨o,by simp⟩
  | _=>
   obtain ⟨o,ho⟩:=qO (show xE ps vs=some r from h)
   exact ⟨o,List.mem_cons_of_mem _ ho⟩
 | some p::ps,v::vs,h=>by
  obtain ⟨o,ho⟩:=qO (show xE ps vs=some r from h)
  exact ⟨o,List.mem_cons_of_mem _ ho⟩
theorem zF {c:jO}:D9 (kg E c):=by
 intro vs s k ans h
 simp only [kg] at h
 split at h
 ·cases h
 rename_i r hroot
 split at h
 case h_2=>cases h
 rename_i cs hcs
 obtain ⟨cl,h1,h2⟩:=oZ h
 cases hv:(c.res.view&&!jY c.args (vs.map (eN [r])))<;>simp only [hv,aO,aR] at h1
 case true=>cases h1
 obtain ⟨ls,h3,h4⟩:=mo h1
 cases hs:c.sem (cl++ls) with
 | none=>rw [hs] at h3;cases h3
 | some out=>
  rw [hs] at h3
  simp only [Option.bind_some,kI] at h3
  refine ⟨[r],_,_,h3,fun k'=>?_,rfl,fun q zs hq hn hnr=>?_⟩
  ·simp only [kg,hroot,hcs,h2,hv,aR,h4,hs,Option.bind_some,kI]
  ·have hqr:q≠r:=by
    rintro rfl
    obtain ⟨o,ho⟩:=qO hroot
    have:=hnr _ ho
    simp [sA] at this
   show dH _ _ _ q=_
   rw [dN _ _ _ _ (.inl hn),aI _ _ hqr,iJ (by simpa using hqr),hq];rfl
theorem tF {hp hp0:Nat->aK}{ans:List L}(hs:Sub hp hp0):∀{ks:List K} {cs:List V} {k:List L->aD},jf hp ks cs k=some ans->∃cl,k cl=some ans/\∀k':List L->aD,jf hp0 ks cs k'=k' cl
 | [],[],k,h=>⟨[],h,fun _=>rfl⟩
 | [],_::_,k,h=>by cases h
 | _::_,[],k,h=>by cases h
 | kk::ks,v::vs,k,h=>by
  simp only [jf] at h
  obtain ⟨b0,h0⟩:=dG h
  obtain ⟨l,h1,h2⟩:=jT h0
  obtain ⟨b,h3,h4⟩:=tF hs h1
  have b1:(fits hp0 kk v&&(cN v||(match (generalizing:=false) v with
   | .own q=>(match hp0 q with | .vw _ _=>true | _=>false)
   | _=>false)))=true:=by
   rw [Bool.and_eq_true] at b0 ⊢
   refine ⟨pQ b0.1 h0 hs,?_⟩
   rw [Bool.or_eq_true] at b0 ⊢
   refine b0.2.imp id fun hv=>?_
   split at hv
   ·rename_i q
    split at hv
    ·rename_i e xs hq
     have:=hs.row hq (by simp)
     simp only [this]
    ·cases hv
   ·cases hv
  exact ⟨_,h3,fun k'=>by simp only [jf,b1,aO,h2 hp0 hs,h4]⟩
theorem oO {ans:List L}{hp hp0:Nat->aK}{r:Nat}(hs:Sub hp hp0):∀{ps:List (Option fF)} {vs:List V} {k:List L->aD},fO E hp r ps vs k=some ans->∃ls,k ls=some ans/\∀k':List L->aD,fO E hp0 r ps vs k'=k' ls
 | [],[],k,h=>⟨[],h,fun _=>rfl⟩
 | [],_::_,k,h=>by cases h
 | none::_,[],k,h=>by cases h
 | some _::_,[],k,h=>by cases h
 | none::ps,v::vs,k,h=>by
  cases v<;>first | (simp only [fO] at h;cases h;done) | skip
  simp only [fO] at h
  obtain ⟨b0,h0⟩:=dG h
  obtain ⟨b,h3,h4⟩:=oO hs h0
  exact ⟨_,h3,fun k'=>by simp only [fO,b0,aO,h4]⟩
 | some p::ps,v::vs,k,h=>by
  simp only [fO] at h
  obtain ⟨a,h1,h2⟩:=tP h
  obtain ⟨b,h3,h4⟩:=oO hs h1
  exact ⟨_,h3,fun k'=>by simp only [fO,h2 hp0 hs,h4]⟩
theorem pE {R:Nat}{o:aK}:∀(rts:List aK) (n:Nat) (hp:Nat->aK),R<n->dH (upd hp R o) n rts=upd (dH hp n rts) R o
 | [],n,hp,_=>rfl
 | x::xs,n,hp,hn=>by
  simp only [dH]
  rw [<-pE xs (n+1) (upd hp n x) (by omega)]
  congr 1
  funext q
  by_cases h1:q=n
  ·subst h1;rw [aQ,aI _ _ (by omega),aQ]
  ·by_cases h2:q=R
   ·subst h2;rw [aI _ _ h1,aQ,aQ]
   ·rw [aI _ _ h1,aI _ _ h2,aI _ _ h2,aI _ _ h1]
theorem yS {c:jO}:CX (kg E c):=by
 intro vs s k ans h
 simp only [kg] at h
 split at h
 ·cases h
 rename_i r hroot
 split at h
 case h_2=>cases h
 rename_i cs hcs
 obtain ⟨cl,h1,h2⟩:=oZ h
 have h1':=h1
 cases hv:(c.res.view&&!jY c.args (vs.map (eN [r])))<;>simp only [hv,aO,aR] at h1
 case true=>cases h1
 obtain ⟨ls,h3,h4⟩:=mo h1
 cases hs:c.sem (cl++ls) with
 | none=>rw [hs] at h3;cases h3
 | some out=>
  rw [hs] at h3
  simp only [Option.bind_some,kI] at h3
  refine ⟨[r],_,_,_,h3,Nat.le_add_right _ _,fun R o hR hRn hz=>?_⟩
  have hne:R≠r:=by rintro rfl;rw [hcs] at hR;cases hR
  have hRs:R∉[r]:=by simpa using hne
  refine ⟨?_,fun sl' fr' k'=>?_⟩
  ·rw [dN _ _ _ _ (.inl hRn),aI _ _ hne,iJ hRs,hR];rfl
  ·have hhide:jW [r] (upd s.hp R o)=upd (jW [r] s.hp) R o:=by
    funext p
    by_cases hp:p=R
    ·subst hp
     rw [iJ hRs,aQ,aQ]
     exact hz [r]
    ·rw [aI _ _ hp]
     unfold jW
     rw [aI _ _ hp]
   have hsub0:Sub s.hp (upd s.hp R o):=fun p=>by
    by_cases hp:p=R
    ·subst hp;exact .inr hR
    ·rw [aI _ _ hp];exact .inl rfl
   have hsub:Sub (jW [r] s.hp) (jW [r] (upd s.hp R o)):=fun p=>by
    rw [hhide]
    by_cases hp:p=R
    ·subst hp;refine .inr ?_;rw [iJ hRs,hR];rfl
    ·rw [aI _ _ hp];exact .inl rfl
   open Classical in
   obtain ⟨cl',g1,g2⟩:=tF hsub0 (k:=fun x=>if x=cl then some ans else none) (show jf s.hp c.ks cs _=some ans by rw [h2];simp)
   have hcl:cl'=cl:=Classical.byContradiction fun hn=>by simp only [if_neg hn] at g1;cases g1
   subst hcl
   open Classical in
   obtain ⟨ls',g3,g4⟩:=oO (E:=E) hsub (k:=fun x=>if x=ls then some ans else none) (show fO E (jW [r] s.hp) r c.args (vs.map (eN [r])) _=some ans by rw [h4];simp)
   have hls:ls'=ls:=Classical.byContradiction fun hn=>by simp only [if_neg hn] at g3;cases g3
   subst hls
   simp only [kg,hroot,aI _ _ (Ne.symm hne),hcs,g2,hv,aR,g4,hs,Option.bind_some,kI]
   congr 1
   rw [hhide]
   congr 1
   rw [<-pE _ _ _ hRn]
   congr 1
   funext q
   by_cases h1:q=r
   ·subst h1;rw [aQ,aI _ _ (Ne.symm hne),aQ]
   ·by_cases h2:q=R
    ·subst h2;rw [aI _ _ h1,aQ,aQ]
    ·rw [aI _ _ h1,aI _ _ h2,aI _ _ h2,aI _ _ h1]
theorem eR {c:jO}{g:FuncId}{n:Nat}(hO:gD P E g c):dX P E n g (kg E c):=
 ⟨hO.1,fun w0 M A s w vs xs k ans h hh hnx hfr hv K hK=>zd hO w0 M A s w vs xs k ans h hh hnx hfr hv K fun v s' cv w' A' h1 h2 h3 h4 h5 h6 _=>hK v s' cv w' A' h1 h2 h3 h4 h5 h6 trivial,fun _=>⟨yS,zd hO⟩,fun _=>zF⟩
end
end Go.DM
set_option linter.unusedSectionVars false
namespace Go.DM
structure Hl where
instance :RT Hl:=⟨fun _=>[.hole],fun _=>{},1,fun _ _=>rfl,fun _ _=>rfl⟩
section
variable {P:Program} {T:List (Nat×TI)} {G:List (Nat×gj)} {S:List (Nat×mB)} {I:List (Nat×gA)} {nt:Nat} {mt:Bool} {J:List Nat}
def Dz (fn:Func)(aM:jO)(nt:Nat):Bool:=
 !(fn.name == "runtime.NumGoroutine") && (fn.body.isSome && (aM.res.nQ && (eE (cq (bL fn)) && Nat.beq (aM.args.length + (fn.ntmps - aM.args.length)) nt)))
theorem Dv {g:FuncId}{fn:Func}{aM:jO}(hm:P.follows .mixedOrders=true)(hT:eO P T=true)(hG:fD P (cR T) G)(hS:jH P (cR T) S)(hI:lU P (cR T) (nC aM.ks) I)
  (hf:P.funcs[g]?=some fn) (hb:Dz fn aM nt=true) (live:Nat->Live)
  (h:∀ls r,aM.sem ls=some r->∃n,eY { T:=assoc T,G:=cZ G,nt:=nt,M:=ff S,np:=nC aM.ks,mt:=mt,I:=gy I,J:=J } live fn (.cur aM.ks aM.res.parts) n (iG aM.ks aM.args ls)=some r):gD P (cR T) g aM:=by
 simp only [Dz,Bool.and_eq_true,Bool.not_eq_true'] at hb
 obtain ⟨b1,b2,b3,b4,b5⟩:=hb
 obtain ⟨c,hc⟩:=Option.isSome_iff_exists.1 b2
 have hbody:bL fn=c:=by simp [bL,hc]
 generalize hE:({ T:=assoc T,G:=cZ G,nt:=nt,M:=ff S,np:=nC aM.ks,mt:=mt,I:=gy I,J:=J }:Env)=E at h
 have e1:E.T=assoc T:=by rw [<-hE]
 have hI':lU P (cR T) E.np I:=by rw [<-hE];exact hI
 have hS2:mG P E:=⟨by rw [<-hE];exact (jH.env (E:=cR T) rfl hS).get,fun g c h=>dX.env (E:=cR T) e1.symm (hI'.get g c (by rw [<-hE] at h;exact h))⟩
 have hT':∀t i,E.T t=some i->fX P E t i:=ni e1 hT
 have hG':∀g c,c∈E.G g->Valid P E g c:=by rw [<-hE];exact (fD.env (E:=cR T) rfl hG).get
 exact zM (E:=E) hT' hG' hS2 (fun w0 M Z0 ans=>xI hT' hG' hS2 hm) e1 (by rw [<-hE]) hf b1 hc b3 (by rw [<-hbody];exact ij b4) (by rw [<-hE];exact Nat.eq_of_beq_eq_true b5) live h
end
def Wp {β:Type}[RT β](a:aD)(Q:β->Prop):Prop:=∃b,a=ret b/\Q b
section
variable {β γ:Type} [RT β] [RT γ] {Q:β->Prop} {c:Bool} {x y:aD}
theorem wp_ret {b:β}(h:Q b):Wp (ret b) Q:=⟨b,rfl,h⟩
theorem bX {o:Option γ}{b:γ}{k:γ->aD}(h:o=some b)(hk:Wp (k b) Q):Wp (call o k) Q:=by rw [h,uf];exact hk
theorem wp_cond (h1:c=true->Wp x Q)(h2:c=false->Wp y Q):Wp (cond c x y) Q:=by
 cases c with
 | true=>exact h1 rfl
 | false=>exact h2 rfl
theorem fE (h:c=true)(hx:Wp x Q):Wp (cA c x) Q:=by subst h;exact hx
theorem tN {v n:Int}(h0:0<=v)(h1:v<n)(hx:Wp x Q):Wp (m2 v n x) Q:=by
 unfold m2
 rw [decide_eq_true h0,decide_eq_true h1];exact hx
def RQ {X:Type}(run:Nat->X->aD)(post:X->β->Prop)(x:X):Option β:=
 open Classical in if h:∃b,(∃n,run n x=ret b)/\post x b then some (Classical.choose h) else none
theorem mh {X:Type}{run:Nat->X->aD}{post:X->β->Prop}{x:X}(h:∃n,Wp (run n x) (post x)):∃b,RQ run post x=some b/\post x b:=by
 have h':∃b,(∃n,run n x=ret b)/\post x b:=by obtain ⟨n,b,h1,h2⟩:=h;exact ⟨b,⟨n,h1⟩,h2⟩
 exact ⟨Classical.choose h',by unfold RQ;rw [dif_pos h'],(Classical.choose_spec h').2⟩
theorem yR {X:Type}{run:Nat->X->aD}{post:X->β->Prop}{x:X}{b:β}(h:RQ run post x=some b):∃n,run n x=ret b:=by
 unfold RQ at h
 split at h
 ·rename_i h'
  injection h with h
  subst h
  exact (Classical.choose_spec h').1
 ·cases h
theorem gq {X:Type}{run:Nat->X->aD}{post:X->γ->Prop}{x0:X}{k:γ->aD}(h:∃n,Wp (run n x0) (post x0))(hk:∀b,post x0 b->Wp (k b) Q):Wp (call (RQ run post x0) k) Q:=by
 obtain ⟨b,h1,h2⟩:=mh h
 exact bX h1 (hk b h2)
theorem kH {Pt:Type}{step:(Pt->aD)->Pt->aD}(I:Pt->Prop)(μ:Pt->Nat)(h:∀(J:Pt->aD) p,I p->(∀q,I q->μ q<μ p->Wp (J q) Q)->Wp (step J p) Q):∀n p,I p->μ p<n->Wp (iter step n p) Q
 | 0,p,_,hm=>absurd hm (Nat.not_lt_zero _)
 | n+1,p,hi,hm=>h (iter step n) p hi fun q hq hl=>kH I μ h n q hq (by omega)
end
section
variable {X β:Type} [RT β] {P:Program} {T:List (Nat×TI)} {G:List (Nat×gj)} {S:List (Nat×mB)} {I:List (Nat×gA)} {nt:Nat} {mt:Bool} {J:List Nat}
def CC (ks:List K)(ps:List (Option fF))(r:RP)(acc:List L->X)(R:X->Option β):jO:=⟨ps,ks,r,fun ls=>(R (acc ls)).map RT.enc⟩
theorem VC {f:FuncId}{fn:Func}{ks:List K}{ps:List (Option fF)}{r:RP}{acc:List L->X}{live:Nat->Live}{run:Nat->X->aD}{post:X->β->Prop}
  (hm:P.follows .mixedOrders=true) (hT:eO P T=true) (hG:fD P (cR T) G) (hS:jH P (cR T) S) (hI:lU P (cR T) (nC ks) I) (hf:P.funcs[f]?=some fn) (hb:Dz fn (CC ks ps r acc (RQ run post)) nt=true)
  (hrun:∀n ls,eY { T:=assoc T,G:=cZ G,nt:=nt,M:=ff S,np:=nC ks,mt:=mt,I:=gy I,J:=J } live fn (.cur ks r.parts) n (iG ks ps ls)=run n (acc ls)):gD P (cR T) f (CC ks ps r acc (RQ run post)):=
 Dv hm hT hG hS hI hf hb live fun ls q h=>by
  obtain ⟨v,hv,hq⟩:=map_some h
  obtain ⟨n,hn⟩:=yR hv
  exact ⟨n,(hrun n ls).trans (hn.trans (by rw [<-hq];rfl))⟩
end
end Go.DM
set_option linter.unusedSectionVars false
namespace Go.DM
structure yI where
 args:List fF
 ks:List K
 sem:List L->Option (List L)
def BZ (E:Env)(c:yI):gA:={ run:=fun vs s k=>bif vs.all gR then nW E s.hp c.args vs fun ls=>(c.sem ls).bind fun out=>k (.bP s.nx 0) { s with hp:=upd s.hp s.nx (.box (kr none c.ks out)),nx:=s.nx+1 } else none }
def xl (E:Env)(w:World)(Z0:Nat->Prop)(ks:List K)(r:List L)(e:Ending)(w':World):Prop:=
 ∃g te cur A',e=.returned (.pointer (some ⟨g,0,none⟩))/\Fr w w' (fun _=>False)/\w.heap.size<=g/\g<w'.heap.size/\w'.heap[g]?=some (.cells cur te (0,0))/\A'.Z=Z0/\(∃q,A'.N q g)/\F2 (Vc E.cells w' A') (kr none ks r) cur.toList
def sV (P:Program)(E:Env)(g:FuncId)(c:yI):Prop:=
 kR P g/\∀(ls r:List L) (w:World) (vs:List Value) (Z:Nat->Prop),c.sem ls=some r->F2 (V2 E.cells w (A0 Z w)) (iP c.args ls) vs->
  Calls P g vs.toArray w (xl E w (A0 Z w).Z c.ks r)
section
variable {P:Program} {E:Env} {w0 w w':World} {ans:List L}
theorem rB:∀{ks:List K} {cs:List V} {k:List L->aD},sn ks cs k=some ans->
  ∃cl,k cl=some ans/\∀{T:Nat->List K} {w0:World} {np:Nat} {M:Mem np} {hp:Nat->aK} {A:cD} {w:World} {ys:List Value},Hp T w0 M A hp w->F2 (Vc T w A) cs ys->F2 (Vc T w A) (kr none ks cl) ys
 | [],[],k,h=>⟨[],h,fun {T w0 np M hp A w ys} _ hf=>by cases hf;exact .nil⟩
 | [],_::_,k,h=>by cases h
 | _::_,[],k,h=>by cases h
 | kk::ks,v::cs,k,h=>by
  simp only [sn] at h
  cases hc:(fits (fun _=>.dead) kk v&&cN v)<;>simp only [hc,aO,aR] at h
  ·cases h
  simp only [Bool.and_eq_true] at hc
  obtain ⟨l,h1,hl⟩:=jT h
  obtain ⟨cl,g1,g2⟩:=rB h1
  refine ⟨_,g1,fun {T w0 np M hp A w ys} hh hf=>?_⟩
  have hsub:Sub (fun _=>aK.dead) hp:=fun q=>.inr rfl
  cases hf with
  | cons hx ht=>
   obtain ⟨l',q1,q2⟩:=qo hh (pQ hc.1 h hsub) (k:=fun x=>some [x]) (hl hp hsub _)
   injection q1 with q1;injection q1 with q1
   subst q1
   exact .cons ⟨sK (d:=none) (fun _ h=>(nomatch h)) ((q2 hx.1).2 hc.2),hx.2⟩ (g2 hh ht)
theorem yV (hT:∀t i,E.T t=some i->fX P E t i){f:Func}{ks:List K}{Z0:Nat->Prop} :
  Fits E w0 (AJ E.np) Z0 ans (dA E f (.uq ks)) (bodyPost P f (xl E w0 Z0 ks ans)):=by
 intro e s a w h ⟨A,sm,hz⟩
 have key:(slotsOf E s f.results.toList fun vs=>match vs with
  | [.bP r o]=>bif Nat.beq o 0 then (match s.hp r with
   | .box cs=>sn ks cs fun cl=>some cl
   | _=>none) else none
  | _=>none)=some ans->a.defers=[]/\∃v,(results f a.tmps).run P w=.ok v w/\xl E w0 Z0 ks ans (.returned v) w:=by
  intro h
  refine ⟨sm.df,?_⟩
  have hh:=sm.hp
  obtain ⟨vs,xs,h1,h2,h3⟩:=gK hT sm h
  split at h1
  case h_2=>cases h1
  rename_i r o
  cases ho:Nat.beq o 0<;>simp only [ho,aO,aR] at h1
  ·cases h1
  obtain rfl:=Nat.eq_of_beq_eq_true ho
  split at h1
  case h_2=>cases h1
  rename_i cs hr
  obtain ⟨cl,g1,g2⟩:=rB h1
  injection g1 with g1
  subst g1
  have hroot:=hh.rt r
  rw [hr] at hroot
  obtain ⟨alr,g,te,cur,v0,N0,hg,hc⟩:=hroot
  cases h2 with
  | cons hv ht=>
   cases ht
   rename_i y
   obtain ⟨_,g',e1,e2⟩:=(show V0 E.cells w A (.bP r 0) y from hv)
   rw [v0] at e1;injection e1 with e1;injection e1 with e1;injection e1 with e1
   subst e1
   have hgN:A.N r g:=(N0 g).2 rfl
   refine ⟨_,kQ h3,g,te,cur,A,?_,hh.fr,?_,hh.lt r g hgN,hg,hz,⟨r,hgN⟩,g2 hh hc⟩
   ·rw [e2];rfl
   ·rcases hh.nm r g hgN with h | h
    ·exact h.elim
    ·exact h
 cases e with
 | exit j=>cases h
 | normal=>exact key h
 | ret=>exact key h
theorem Ai {E0:Env}{g:FuncId}{fn:Func}{c:Code}{aM:yI}(hT:∀t i,E.T t=some i->fX P E t i)(hG:∀g c,c∈E.G g->Valid P E g c)(hM:mG P E)(hD:∀w0 M Z0 ans,nJ P E w0 M Z0 ans)
  (he : E.T = E0.T) (hnp : E.np = 0) (hf : P.funcs[g]? = some fn) (hname : (fn.name == "runtime.NumGoroutine") = false) (hb : fn.body = some c) (hn : (cq c).Nodup)
  (hnt:aM.args.length+(fn.ntmps - aM.args.length)=E.nt) (live:Nat->Live) (h:∀ls r,aM.sem ls=some r->∃n,eY E live fn (.uq aM.ks) n (dJ aM.args ls)=some r):sV P E0 g aM:=by
 have hbody:bL fn=c:=by simp [bL,hb]
 have hc:E0.cells=E.cells:=by funext t;simp [Env.cells,he]
 refine ⟨⟨fn,hf,hname,by rw [hb];rfl⟩,fun ls r w vs Z hs hv=>?_⟩
 rw [hc] at hv
 obtain ⟨n,hrun⟩:=h ls r hs
 have hlen:∀(ps:List fF) (ls:List L),(iP ps ls).length=ps.length:=by
  intro ps
  induction ps with
  | nil=>intro _;rfl
  | cons p ps ih=>intro ls;simp [iP,ih]
 have hvl:vs.length=aM.args.length:=by rw [<-hv.length];exact hlen _ _
 have key:=oQ (live:=live) (P:=P) (w0:=w) (M:=AJ E.np) (Z0:=(A0 Z w).Z) (Q:=bodyPost P fn (xl E w (A0 Z w).Z aM.ks r)) hT hG hM (hD _ _ _ _) (by rw [hbody];exact hn) (yV hT) hrun
  (a:={ tmps:=vs.toArray++Array.replicate (fn.ntmps - vs.toArray.size) undef,defers:=[] }) (w:=w) ⟨A0 Z w,⟨⟨fun _ _ h=>h.elim,fun _ _ _ h=>h.elim,fun _ _=>rfl,fun _ _ h=>h.elim,Fr.refl _ _,fun _ _ h=>h.elim,fun _ h=>.inr (h.resolve_left id),fun j hj=>absurd hj (by rw [hnp];exact Nat.not_lt_zero j)⟩,fun i x hx=>?_,fun _ _ h=>h.elim,rfl,?_,.nil⟩,rfl⟩
 ·rw [hbody] at key
  refine (calls_of_wp hf hb key).mono fun e w' hR=>?_
  unfold xl at hR ⊢
  rw [hc];exact hR
 ·show V2 E.cells w (A0 Z w) (iQ (iP aM.args ls) i) x
  by_cases hi:i<vs.length
  ·have hx':vs[i]?=some x:=by simpa [Array.getElem?_append,hi] using hx
   have hl:=hv.length
   have hg:=List.getElem?_eq_getElem (show i<(iP aM.args ls).length by omega)
   obtain ⟨y,hy,hr⟩:=hv.get hg
   rw [hx'] at hy;injection hy with hy;subst hy
   rw [qi hg];exact hr
  ·rw [lM (by rw [hv.length];omega)]
   have :x=undef:=by
    have h2:¬i<vs.toArray.size:=by simpa using hi
    rw [Array.getElem?_append,if_neg h2] at hx
    have:=(Array.getElem?_eq_some_iff.1 hx).2
    rw [<-this];simp
   subst this
   rfl
 ·have hvs:vs.toArray.size=aM.args.length:=by simpa using hvl
  show (vs.toArray++Array.replicate (fn.ntmps - vs.toArray.size) undef).size=E.nt
  rw [Array.size_append,Array.size_replicate,hvs]
  exact hnt
theorem Ci {c:yI}{g:FuncId}{n:Nat}(hO:sV P E g c):oH P E n g (BZ E c) Du:=by
 intro w0 M A s w vs xs k ans h hh hnx hfr hv KK hK
 obtain ⟨hent,hcall⟩:=hO
 simp only [BZ] at h
 cases hpl:vs.all gR<;>simp only [hpl,aO,aR] at h
 ·cases h
 obtain ⟨ls,h3,h4⟩:=AV (Z:=eo w A) hh (.inr ⟨hpl,fun b hb=>hb⟩) h
 have hargs:=h4 hv
 cases hs:c.sem ls with
 | none=>rw [hs] at h3;cases h3
 | some out=>
  rw [hs] at h3
  simp only [Option.bind_some] at h3
  refine (hcall ls out w xs (eo w A) hs hargs).mono fun e w' hpost=>?_
  obtain ⟨gb,te,cur,A',rfl,hF,g1,g2,g3,hZ',⟨q,hq⟩,hcs⟩:=hpost
  refine ⟨_,rfl,?_⟩
  let A2:cD:={ v:=upd A.v s.nx (.pointer (some ⟨gb,0,none⟩)),N:=fun p b=>(p=s.nx/\b=gb)∨(p≠s.nx/\A.N p b),al:=fun p=>A.al p∨p=s.nx,Z:=A.Z }
  have hnr:¬A.al s.nx:=hnx _ (Nat.le_refl _)
  have hne:∀q,A.al q->q≠s.nx:=by rintro q ha rfl;exact hnr ha
  have hNne:∀{q b},A.N q b->q≠s.nx:=fun h=>hne _ (hh.xd h)
  have st:Step A A2 w w' (fun _=>False):=by
   refine ⟨rfl,fun i h=>.inl h,fun i h=>aI _ _ (hne i h),hF.size,fun b hb _=>hF.block b hb id,fun i h1 _ b=>⟨fun h=>h.elim (fun h=>absurd h.1 (hne i h1)) fun h=>h.2,fun h=>.inr ⟨hne i h1,h⟩⟩,fun i b h1 h2=>?_⟩
   rcases h2 with ⟨_,rfl⟩ | ⟨_,h4⟩
   ·exact .inr g1
   ·rcases h1 with h1 | h1
    ·exact h1.elim
    ·exact (h1 (hh.xd h4)).elim
  have hz2:∀b,eo w' A' b->eo w' A2 b:=by
   rintro b ⟨z1,z2,z3⟩
   rw [hZ'] at z1
   have hbg:b≠gb:=by rintro rfl;exact z3 q hq
   refine ⟨?_,z2,?_⟩
   ·rcases z1 with z1 | z1
    ·exact z1.1
    ·exact hh.zf b (.inr (Nat.le_trans hh.fr.size z1))
   ·rintro i (⟨_,h⟩ | ⟨_,h⟩)
    ·exact hbg h
    ·rcases z1 with z1 | z1
     ·exact z1.2.2 i h
     ·have:=hh.lt i b h;omega
  have hcs2:F2 (Vc E.cells w' A2) (kr none c.ks out) cur.toList:=by
   have :∀{ks:List K} {out:List L} {ys:List Value},F2 (Vc E.cells w' A') (kr none ks out) ys->F2 (Vc E.cells w' A2) (kr none ks out) ys:=by
    intro ks
    induction ks with
    | nil=>intro out ys h;cases h;exact .nil
    | cons k ks ih=>
     intro out ys h
     simp only [kr] at h ⊢
     cases h with
     | cons h1 h2=>
      refine .cons ⟨?_,h1.2⟩ (ih h2)
      have h1:=h1.1
      cases k<;>first | exact h1 | exact ⟨fun _ h=>(nomatch h),h1.2.mono hz2⟩
   exact this hcs
  have hHp:Hp E.cells w0 M A2 (upd s.hp s.nx (.box (kr none c.ks out))) w':=by
   refine ⟨fun i b hb=>?_,fun i q b hb hb'=>?_,fun i hi=>?_,fun i=>?_,hh.fr.trans hF fun b hb=>hb.elim,fun i b hb=>?_,hh.zf,fun j hj=>⟨.inl (hh.pn j hj).1,(st.v j (hh.pn j hj).1).trans (hh.pn j hj).2⟩⟩
   ·rcases hb with ⟨_,rfl⟩ | ⟨_,h⟩
    ·exact g2
    ·exact Nat.lt_of_lt_of_le (hh.lt i b h) hF.size
   ·rcases hb with ⟨h1,h2⟩ | ⟨_,h2⟩<;>rcases hb' with ⟨k1,k2⟩ | ⟨_,k2⟩
    ·rw [h1,k1]
    ·subst h2;have:=hh.lt q _ k2;omega
    ·subst k2;have:=hh.lt i _ h2;omega
    ·exact hh.dj _ _ _ h2 k2
   ·have h1:¬A.al i:=fun h=>hi (.inl h)
    rw [aI _ _ (fun e=>hi (.inr e)),hh.al i h1]
   ·by_cases hi:i=s.nx
    ·subst hi
     rw [aQ]
     exact ⟨.inr rfl,gb,te,cur,aQ _ _ _,fun b=>⟨fun h=>h.elim (fun h=>h.2) fun h=>absurd rfl h.1,fun h=>.inl ⟨rfl,h⟩⟩,g3,hcs2⟩
    ·rw [aI _ _ hi]
     refine (hh.rt i).step st hh id (fun _=>?_) (fun cs hc v hv=>?_)
     ·by_cases ha:A.al i
      ·exact .inl ha
      ·exact .inr fun b hb=>hb.elim (fun h=>hi h.1) fun h=>ha (hh.xd h.2)
     ·cases v with
      | sl d=>cases d<;>simp [indep]
      | cS d=>cases d<;>simp [indep]
      | gm=>exact id
      | _=>trivial
   ·rcases hb with ⟨_,rfl⟩ | ⟨_,h⟩
    ·exact .inr (Nat.le_trans hh.fr.size g1)
    ·exact hh.nm i b h
  refine hK _ _ _ w' A2 h3 hHp (fun i hi ha=>?_) (hfr.mono fun v x h=>h.step st hh (fun _=>id)) (V0.v2 (v:=.bP s.nx 0) ⟨.inr rfl,gb,aQ _ _ _,rfl⟩) rfl trivial
  have hi':s.nx+1<=i:=hi
  rcases ha with ha | ha
  ·exact hnx i (by omega) ha
  ·omega
theorem yE {c:yI}{g:FuncId}{n:Nat}(hO:sV P E g c):dX P E n g (BZ E c):=⟨hO.1,Ci hO,fun h=>(by cases h),fun h=>by cases h⟩
end
section
variable {X β:Type} [RT β] {P:Program} {T:List (Nat×TI)} {G:List (Nat×gj)} {S:List (Nat×mB)} {I:List (Nat×gA)} {nt:Nat} {mt:Bool} {J:List Nat}
def DY (fn:Func)(n nt:Nat):Bool:=
 !(fn.name == "runtime.NumGoroutine") && (fn.body.isSome && (eE (cq (bL fn)) && Nat.beq (n + (fn.ntmps - n)) nt))
def NC (ks:List K)(ps:List fF)(acc:List L->X)(R:X->Option β):yI:=⟨ps,ks,fun ls=>(R (acc ls)).map RT.enc⟩
theorem VN {f:FuncId}{fn:Func}{ks:List K}{ps:List fF}{acc:List L->X}{live:Nat->Live}{run:Nat->X->aD}{post:X->β->Prop}
  (hm:P.follows .mixedOrders=true) (hT:eO P T=true) (hG:fD P (cR T) G) (hS:jH P (cR T) S) (hI:lU P (cR T) 0 I) (hf:P.funcs[f]?=some fn) (hb:DY fn ps.length nt=true)
  (hrun:∀n ls,eY { T:=assoc T,G:=cZ G,nt:=nt,M:=ff S,mt:=mt,I:=gy I,J:=J } live fn (.uq ks) n (dJ ps ls)=run n (acc ls)):sV P (cR T) f (NC ks ps acc (RQ run post)):=by
 simp only [DY,Bool.and_eq_true,Bool.not_eq_true'] at hb
 obtain ⟨b1,b2,b4,b5⟩:=hb
 obtain ⟨c,hc⟩:=Option.isSome_iff_exists.1 b2
 have hbody:bL fn=c:=by simp [bL,hc]
 generalize hE:({ T:=assoc T,G:=cZ G,nt:=nt,M:=ff S,mt:=mt,I:=gy I,J:=J }:Env)=E at hrun
 have e1:E.T=assoc T:=by rw [<-hE]
 have hI':lU P (cR T) E.np I:=by rw [<-hE];exact hI
 have hS2:mG P E:=⟨by rw [<-hE];exact (jH.env (E:=cR T) rfl hS).get,fun g c h=>dX.env (E:=cR T) e1.symm (hI'.get g c (by rw [<-hE] at h;exact h))⟩
 have hT':∀t i,E.T t=some i->fX P E t i:=ni e1 hT
 have hG':∀g c,c∈E.G g->Valid P E g c:=by rw [<-hE];exact (fD.env (E:=cR T) rfl hG).get
 exact Ai (E:=E) hT' hG' hS2 (fun w0 M Z0 ans=>xI hT' hG' hS2 hm) e1 (by rw [<-hE]) hf b1 hc (by rw [<-hbody];exact ij b4) (by rw [<-hE];exact Nat.eq_of_beq_eq_true b5) live fun ls q h=>by
  obtain ⟨v,hv,hq⟩:=map_some h
  obtain ⟨n,hn⟩:=yR hv
  exact ⟨n,(hrun n ls).trans (hn.trans (by rw [<-hq];rfl))⟩
theorem VQ {f:FuncId}{fn:Func}{ps:List fF}{r:RP}{acc:List L->X}{live:Nat->Live}{run:Nat->X->aD}{post:X->β->Prop}
  (hm:P.follows .mixedOrders=true) (hT:eO P T=true) (hG:fD P (cR T) G) (hS:jH P (cR T) S) (hI:lU P (cR T) 0 I) (hf:P.funcs[f]?=some fn) (hb:tR fn (CN ps r acc (RQ run post)) nt=true)
  (hrun:∀n ls,eY { T:=assoc T,G:=cZ G,nt:=nt,M:=ff S,mt:=mt,I:=gy I,J:=J } live fn r n (dJ ps ls)=run n (acc ls)):Valid P (cR T) f (CN ps r acc (RQ run post)):=
 vT hm hT hG hS hI hf hb live fun ls q _ h=>by
  obtain ⟨v,hv,hq⟩:=map_some h
  obtain ⟨n,hn⟩:=yR hv
  exact ⟨n,(hrun n ls).trans (hn.trans (by rw [<-hq];rfl))⟩
end
end Go.DM
namespace Go.DM
def CI (b:aq)(i:Int):Prop:=b.length<=1048576/\0<=i/\i<=b.length
def uv (a:Int):0<=vQ .i64 a 255/\vQ .i64 a 255<=255:=by
 unfold vQ
 have h:(BitVec.ofInt IntKind.i64.bits a&&& BitVec.ofInt IntKind.i64.bits 255).toNat<=255:=by
  rw [BitVec.toNat_and]
  exact Nat.le_trans Nat.and_le_right (by decide)
 rw [wi _ (by omega)]
 omega
def rU {a b:Int}(ha:0<=a)(hb:0<b):0<=Int.tmod a b/\Int.tmod a b<b:=by
 rw [Int.tmod_eq_emod_of_nonneg ha]
 exact ⟨Int.emod_nonneg _ (by omega),Int.emod_lt_of_pos _ hb⟩
def CZ (n:Nat)(xs:aq):Bool:=xs.all fun r=>Nat.ble ((r.headD .hole).toStr).size n
def qg {n:Nat}{xs:aq}(h:CZ n xs=true){i:Nat}(hi:i<xs.length):(tS xs i).size<=n:=by
 have h1:=List.all_eq_true.1 h xs[i] (List.getElem_mem hi)
 have h2:tS xs i=(xs[i].headD .hole).toStr:=by
  unfold tS
  rw [List.getD_eq_getElem?_getD,List.getElem?_eq_getElem hi];rfl
 rw [h2];exact Nat.le_of_ble_eq_true h1
def uz {α β:Type}{f:α->List β->List β⊕List β}(hf:∀y s,∃s':List β,(f y s=.inl s'∨f y s=.inr s')/\s'.length<=s.length+1):∀(xs:List α) (s:List β),(dM (S:=List β) (β:=List β) f (fun s=>s) xs s).length<=s.length+xs.length
 | [],s=>Nat.le_refl _
 | x::xs,s=>by
  obtain ⟨s',h1,h2⟩:=hf x s
  unfold dM
  rcases h1 with h1 | h1<;>rw [h1]
  ·have:=uz hf xs s'
   simp only [List.length_cons]
   exact Nat.le_trans this (by omega)
  ·simp only [List.length_cons];omega
end Go.DM

end
