/- A small machine over the translated code, and the proof that what it computes the code does. Conditions: none. -/
import Derived.Test.YtgagkddebgbdmaaAreRootsDc
import Derived.ChangeArms
import Derived.Deep.Slices
import Derived.DataReads
import Derived.Carry
import Derived.ChangeOld
import Derived.WideShapes
import Derived.ChangeShapes
import Derived.IntWalk
import Derived.Lib.SliceRun
set_option linter.all false
noncomputable section
set_option linter.unusedSectionVars false
namespace Go.DM
def assoc {α:Type}:List (Nat×α)->Nat->Option α
 | [],_=>none
 | (k,v)::l,i=>bif Nat.beq k i then some v else assoc l i
def ij {α:Type}:∀{l:List (Nat×α)} {i:Nat} {v:α},assoc l i=some v->(i,v)∈l
 | [],i,v,h=>by cases h
 | (k,u)::l,i,v,h=>by
  simp only [assoc] at h
  cases hb:Nat.beq k i<;>simp only [hb,ah,ak] at h
  ·exact List.mem_cons_of_mem _ (ij h)
  ·injection h with h;rw [Nat.eq_of_beq_eq_true hb,h];simp
def qM:Value->K->Bool
 | .int a n,.int b=>cO a b&&decide (n=0)
 | .bool b,.bool=>!b
 | .string ⟨⟨[]⟩⟩,.str=>true
 | .slice none 0 0,.sl _=>true
 | _,_=>false
def rB {v:Value}{k:K}(h:qM v k=true):v=dQ k:=by
 unfold qM at h
 split at h
 ·simp only [Bool.and_eq_true,decide_eq_true_eq] at h
  obtain ⟨h1,rfl⟩:=h
  rw [bY h1];rfl
 ·simp at h;subst h;rfl
 ·rfl
 ·rfl
 ·cases h
def lY:List Value->List K->Bool
 | [],[]=>true
 | v::vs,k::ks=>qM v k&&lY vs ks
 | _,_=>false
def lG:∀{vs:List Value} {ks:List K},lY vs ks=true->vs=ks.map dQ
 | [],[],_=>rfl
 | [],_::_,h=>by cases h
 | _::_,[],h=>by cases h
 | v::vs,k::ks,h=>by
  simp only [lY,Bool.and_eq_true] at h
  rw [rB h.1,lG h.2];rfl
def eG (P:Program)(T:Nat->Option TI):List Field->List (Nat×Nat)->Nat->List K->Bool
 | [],[],_,[]=>true
 | f::fs,p::ps,o,ks=>Nat.beq f.offset p.1&&(Nat.beq f.type p.2&&(Nat.beq p.1 o&&(match P.info? f.type with
  | some fi=>match T p.2 with
   | some ti=>Nat.beq fi.size ti.cells.length&&(jL (ks.take ti.cells.length) ti.cells&&eG P T fs ps (o+ti.cells.length) (ks.drop ti.cells.length))
   | none=>false
  | none=>false)))
 | _,_,_,_=>false
def dc {P:Program}{E:Env}:∀{fs:List Field} {ps:List (Nat×Nat)} {o:Nat} {ks:List K},eG P E.T fs ps o ks=true->
  ∃places,fs.mapM (fun f=>(P.info? f.type).map fun i=>(f.offset,i.size))=some places/\fs.length=ps.length/\
   ∀(j:Nat) (p:Nat×Nat),ps[j]?=some p->∃f ti,fs[j]?=some f/\f.offset=p.1/\f.type=p.2/\E.T p.2=some ti/\places[j]?=some (p.1,(E.cells p.2).length)/\o<=p.1/\P.cellsOf f.type=ti.cells.length/\(∀l kk,ti.cells[l]?=some kk->ks[p.1 - o+l]?=some kk)/\p.1 - o+ti.cells.length<=ks.length
 | [],[],o,[],_=>⟨[],by simp,rfl,fun j p hp=>by simp at hp⟩
 | [],[],o,_::_,h=>by cases h
 | [],_::_,o,ks,h=>by cases h
 | _::_,[],o,ks,h=>by cases h
 | f::fs,p::ps,o,ks,h=>by
  simp only [eG,Bool.and_eq_true] at h
  obtain ⟨h1,h2,h3,h4⟩:=h
  split at h4
  ·rename_i fi hfi
   split at h4
   ·rename_i ti hti
    simp only [Bool.and_eq_true] at h4
    obtain ⟨h5,h6,h7⟩:=h4
    obtain ⟨places,g1,g2,g3⟩:=dc h7
    have e1:=Nat.eq_of_beq_eq_true h1
    have e2:=Nat.eq_of_beq_eq_true h2
    have e3:=Nat.eq_of_beq_eq_true h3
    have e5:=Nat.eq_of_beq_eq_true h5
    have e6:=jx h6
    have hsz:fi.size=(E.cells p.2).length:=by simp [Env.cells,hti,e5]
    have hlen:ti.cells.length<=ks.length:=by rw [<-e6,List.length_take];exact Nat.min_le_right _ _
    refine ⟨(f.offset,fi.size)::places,by simp [hfi,g1],by simp [g2],fun j q hq=>?_⟩
    cases j with
    | zero=>
     simp at hq
     subst hq
     refine ⟨f,ti,rfl,e1,e2,hti,by simp [e1,hsz],by omega,by simp [Program.cellsOf,hfi,e5],fun l kk hl=>?_,by omega⟩
     have :(ks.take ti.cells.length)[l]?=some kk:=by rw [e6];exact hl
     rw [List.getElem?_take] at this
     rw [show p.1 - o+l=l by omega]
     split at this
     ·exact this
     ·cases this
    | succ j=>
     obtain ⟨f',ti',q1,q2,q3,q4,q5,q6,q7,q8,q9⟩:=g3 j q (by simpa using hq)
     refine ⟨f',ti',by simpa using q1,q2,q3,q4,by simpa using q5,by omega,q7,fun l kk hl=>?_,?_⟩
     ·have:=q8 l kk hl
      rw [List.getElem?_drop] at this
      rw [<-this];congr 1;omega
     ·rw [List.length_drop] at q9;omega
   ·cases h4
  ·cases h4
def vp (T:Nat->Option TI)(i:TI)(d:TypeDesc):Bool:=
 match i.el with
 | some e=>match d with
  | .slice e'=>Nat.beq e e'&&(T e).isSome
  | _=>false
 | none=>true
def pV (i:TI)(d:TypeDesc):Bool:=
 i.agg||(match i.cells with
  | [.int k]=>(match d with | .int k'=>cO k k' | _=>false)
  | [.bool]=>(match d with | .bool=>true | _=>false)
  | [.str]=>(match d with | .string=>true | _=>false)
  | [.sl e]=>(match d with | .slice e'=>Nat.beq e e' | _=>false)
  | _=>false)
def tC (P:Program)(k:K)(t:Nat):Bool:=
 match P.underlying t with
 | some (.int ik)=>(match k with | .int jk=>cO jk ik | _=>false)
 | some .bool=>(match k with | .bool=>true | _=>false)
 | some .string=>(match k with | .str=>true | _=>false)
 | _=>false
def fP (P:Program):List Field->Nat->List K->Bool
 | [],_,[]=>true
 | f :: fs, o, k :: ks => !(f.name == "_") && (Nat.beq f.offset o && (tC P k f.type && fP P fs (o + 1) ks))
 | _,_,_=>false
def eT {P : Program} : ∀ {fs : List Field} {o : Nat} {ks : List K}, fP P fs o ks = true -> fs.length = ks.length /\ ∀ (j : Nat) (f : Field), fs[j]? = some f -> f.name ≠ "_" /\ f.offset = o + j /\ ∃ d', P.underlying f.type = some d' /\ ((∃ ik, ks[j]? = some (.int ik) /\ d' = .int ik) ∨ (ks[j]? = some .bool /\ d' = .bool) ∨ (ks[j]? = some .str /\ d' = .string))
 | [],o,[],_=>⟨rfl,fun j f hj=>by simp at hj⟩
 | [],o,_::_,h=>by cases h
 | _::_,o,[],h=>by cases h
 | f::fs,o,k::ks,h=>by
  simp only [fP,Bool.and_eq_true,Bool.not_eq_true'] at h
  obtain ⟨h1,h2,h3,h4⟩:=h
  obtain ⟨g1,g2⟩:=eT h4
  refine ⟨by simp [g1],fun j g hj=>?_⟩
  cases j with
  | zero=>
   simp at hj
   subst hj
   refine ⟨by simpa using h1,Nat.eq_of_beq_eq_true h2,?_⟩
   unfold tC at h3
   split at h3
   ·rename_i ik hu
    split at h3
    ·rename_i jk;exact ⟨_,hu,.inl ⟨ik,by simp [bY h3],rfl⟩⟩
    ·cases h3
   ·rename_i hu
    split at h3
    ·exact ⟨_,hu,.inr (.inl ⟨rfl,rfl⟩)⟩
    ·cases h3
   ·rename_i hu
    split at h3
    ·exact ⟨_,hu,.inr (.inr ⟨rfl,rfl⟩)⟩
    ·cases h3
   ·cases h3
  | succ j=>
   obtain ⟨q1,q2,q3⟩:=g2 j g (by simpa using hj)
   exact ⟨q1,by omega,by simpa using q3⟩
def uC (P:Program)(t:Nat)(i:TI)(d:TypeDesc):Bool:=
 !i.eqv||(!i.agg||(match d with | .struct fs=>!P.stoodInHeld t&&(!P.eqGuardType P.depth t&&fP P fs.toList 0 i.cells) | _=>false))
def sB (P:Program)(T:Nat->Option TI)(t:Nat)(i:TI):Bool:=
 match P.info? t with
 | some ii=>match P.underlying t with
  | some d=>match ii.zero with
   | some z=>Nat.beq ii.size i.cells.length&&(Nat.beq ii.bytes i.bytes&&(Nat.blt 0 i.cells.length&&(Nat.blt 0 i.bytes&&(lY z.cells.toList i.cells&&(
     (cond i.agg (match d with | .struct fs=>eG P T fs.toList i.fields 0 i.cells | _=>false) (!cE d&&(Nat.beq i.cells.length 1&&i.fields.isEmpty)))&&(vp T i d&&(pV i d&&uC P t i d)))))))
   | none=>false
  | none=>false
 | none=>false
def jy {P:Program}{E:Env}{t:Nat}{i:TI}(h:sB P E.T t i=true):cy P E t i:=by
 unfold sB at h
 split at h
 case h_2=>cases h
 rename_i ii hii
 split at h
 case h_2=>cases h
 rename_i d hd
 split at h
 case h_2=>cases h
 rename_i z hz
 simp only [Bool.and_eq_true] at h
 obtain ⟨h1,h2,h3,h4,h5,h6,h7,h8,h9⟩:=h
 refine ⟨ii,d,z,hii,hd,hz,Nat.eq_of_beq_eq_true h1,Nat.eq_of_beq_eq_true h2,Nat.blt_eq.mp h3,Nat.blt_eq.mp h4,lG h5,?_,?_,?_,?_,?_,?_,?_,?_,?_⟩
 ·cases ha:i.agg<;>simp only [ha,ah,ak] at h6
  ·simp only [Bool.and_eq_true,Bool.not_eq_true'] at h6;exact h6.1
  ·split at h6
   ·rfl
   ·cases h6
 ·intro ha
  simp only [ha,ak,Bool.and_eq_true,List.isEmpty_iff] at h6
  exact ⟨Nat.eq_of_beq_eq_true h6.2.1,h6.2.2⟩
 ·intro ha
  simp only [ha,ah] at h6
  split at h6
  ·rename_i fs
   obtain ⟨places,g1,g2,g3⟩:=dc h6
   refine ⟨fs,rfl,fun f p hp=>?_⟩
   obtain ⟨fl,ti,q1,q2,q3,q4,_⟩:=g3 f p hp
   exact ⟨fl,by simpa using q1,q2,q3,ti,q4⟩
  ·cases h6
 ·intro fs hfs
  subst hfs
  cases ha:i.agg<;>simp only [ha,ah,ak] at h6
  ·simp [cE] at h6
  ·obtain ⟨places,g1,g2,g3⟩:=dc h6
   refine ⟨places,g1,fun f p hp=>?_⟩
   obtain ⟨fl,ti,q1,q2,q3,q4,q5,_⟩:=g3 f p hp
   exact q5
 ·intro e he
  simp only [vp,he] at h7
  split at h7
  ·simp only [Bool.and_eq_true] at h7
   rw [Nat.eq_of_beq_eq_true h7.1]
   refine ⟨rfl,Option.isSome_iff_exists.1 ?_⟩
   rw [<-Nat.eq_of_beq_eq_true h7.1];exact h7.2
  ·cases h7
 ·intro ha k hk
  simp only [pV,ha,Bool.false_or,hk] at h8
  split at h8
  ·rw [bY h8]
  ·cases h8
 ·intro ha hk
  simp only [pV,ha,Bool.false_or,hk] at h8
  split at h8
  ·rfl
  ·cases h8
 ·intro ha hk
  simp only [pV,ha,Bool.false_or,hk] at h8
  split at h8
  ·rfl
  ·cases h8
 ·intro he ha
  simp only [uC,he,ha,Bool.not_true,Bool.false_or] at h9
  split at h9
  ·rename_i fs
   simp only [Bool.and_eq_true,Bool.not_eq_true'] at h9
   obtain ⟨g1,g2⟩:=eT h9.2.2
   exact ⟨fs,rfl,h9.1,h9.2.1,by simpa using g1,fun j f hj=>by
    obtain ⟨q1,q2,q3⟩:=g2 j f (by simpa using hj)
    exact ⟨q1,by omega,q3⟩⟩
  ·cases h9
def ck (P:Program)(l:List (Nat×TI)):Bool:=l.all fun p=>sB P (assoc l) p.1 p.2
def qQ {P:Program}{l:List (Nat×TI)}{E:Env}(hE:E.T=assoc l)(h:ck P l=true):∀t i,E.T t=some i->cy P E t i:=by
 intro t i ht
 rw [hE] at ht
 simp only [ck,List.all_eq_true] at h
 have:=h (t,i) (ij ht)
 rw [<-hE] at this
 exact jy this
abbrev bZ (T:List (Nat×TI)):Env:={ T:=assoc T,G:=fun _=>[],nt:=0 }
def cq:List (Nat×gv)->Nat->List gv
 | [],_=>[]
 | (k,c)::l,g=>bif Nat.beq k g then c::cq l g else cq l g
inductive eD (P:Program)(E:Env):List (Nat×gv)->Prop where
 | nil:eD P E []
 | cons {g c l}:Valid P E g c->eD P E l->eD P E ((g,c)::l)
def eD.get {P:Program}{E:Env}:∀{l:List (Nat×gv)},eD P E l->∀g c,c∈cq l g->Valid P E g c
 | _,.nil,g,c,h=>by cases h
 | (k,u)::l,.cons hv ht,g,c,h=>by
  simp only [cq] at h
  cases hb:Nat.beq k g<;>simp only [hb,ah,ak] at h
  ·exact ht.get g c h
  ·rcases List.mem_cons.1 h with rfl | h
   ·rw [<-Nat.eq_of_beq_eq_true hb];exact hv
   ·exact ht.get g c h
def gL:∀{l:List Nat},aY l=true->l.Nodup
 | [],_=>List.nodup_nil
 | a::l,h=>by
  simp only [aY,Bool.and_eq_true,List.all_eq_true,Bool.not_eq_true'] at h
  refine List.nodup_cons.2 ⟨fun hm=>?_,gL h.2⟩
  have:=h.1 a hm
  simp at this
def Valid.env {P:Program}{E E':Env}(he:E.T=E'.T){g:FuncId}{c:gv}(h:Valid P E g c):Valid P E' g c:=by
 have :E.cells=E'.cells:=by funext t;simp [Env.cells,he]
 unfold Valid at *
 rw [<-this];exact h
def eD.env {P:Program}{E E':Env}(he:E.T=E'.T){l:List (Nat×gv)}(h:eD P E l):eD P E' l:=by
 induction h with
 | nil=>exact .nil
 | cons hv _ ih=>exact .cons (hv.env he) ih
def sq (fn:Func)(cj:gv)(nt:Nat):Bool:=
 !(fn.name == "runtime.NumGoroutine") && (fn.body.isSome && (cj.res.lU && (aY (ay (bn fn)) && Nat.beq (cj.args.length + (fn.ntmps - cj.args.length)) nt)))
def fQ:List (Nat×jc)->Nat->List jc
 | [],_=>[]
 | (k,c)::l,g=>bif Nat.beq k g then c::fQ l g else fQ l g
inductive jB (P:Program)(E:Env):List (Nat×jc)->Prop where
 | nil:jB P E []
 | cons {g c l}:eM P E g c->jB P E l->jB P E ((g,c)::l)
def jB.get {P:Program}{E:Env}:∀{l:List (Nat×jc)},jB P E l->∀g c,c∈fQ l g->eM P E g c
 | _,.nil,g,c,h=>by cases h
 | (k,u)::l,.cons hv ht,g,c,h=>by
  simp only [fQ] at h
  cases hb:Nat.beq k g<;>simp only [hb,ah,ak] at h
  ·exact ht.get g c h
  ·rcases List.mem_cons.1 h with rfl | h
   ·rw [<-Nat.eq_of_beq_eq_true hb];exact hv
   ·exact ht.get g c h
def eM.env {P:Program}{E E':Env}(he:E.T=E'.T){g:FuncId}{c:jc}(h:eM P E g c):eM P E' g c:=by
 have :E.cells=E'.cells:=by funext t;simp [Env.cells,he]
 unfold eM at *
 rw [<-this];exact h
def jB.env {P:Program}{E E':Env}(he:E.T=E'.T){l:List (Nat×jc)}(h:jB P E l):jB P E' l:=by
 induction h with
 | nil=>exact .nil
 | cons hv _ ih=>exact .cons (hv.env he) ih
def pE {mt:Bool}{P:Program}{T:List (Nat×TI)}{G:List (Nat×gv)}{S:List (Nat×jc)}{nt:Nat}{g:FuncId}{fn:Func}{cj:gv}(hm:P.follows .mixedOrders=true)(hT:ck P T=true)(hG:eD P (bZ T) G)(hS:jB P (bZ T) S)
  (hf:P.funcs[g]?=some fn) (hb:sq fn cj nt=true) (live:Nat->Live)
  (h:∀ls r,nM (bZ T).cells cj.args ls->cj.sem ls=some r->∃n,iH { T:=assoc T,G:=cq G,nt:=nt,M:=fQ S,mt:=mt } live fn cj.res n (eu cj.args ls)=some r):Valid P (bZ T) g cj:=by
 simp only [sq,Bool.and_eq_true,Bool.not_eq_true'] at hb
 obtain ⟨b1,b2,b3,b4,b5⟩:=hb
 obtain ⟨c,hc⟩:=Option.isSome_iff_exists.1 b2
 have hbody:bn fn=c:=by simp [bn,hc]
 have hT':∀t i,({ T:=assoc T,G:=cq G,nt:=nt,M:=fQ S,mt:=mt }:Env).T t=some i->cy P { T:=assoc T,G:=cq G,nt:=nt,M:=fQ S,mt:=mt } t i:=qQ (E:={ T:=assoc T,G:=cq G,nt:=nt,M:=fQ S,mt:=mt }) rfl hT
 have hG':∀g c,c∈({ T:=assoc T,G:=cq G,nt:=nt,M:=fQ S,mt:=mt }:Env).G g->Valid P { T:=assoc T,G:=cq G,nt:=nt,M:=fQ S,mt:=mt } g c:=(eD.env (E:=bZ T) (E':={ T:=assoc T,G:=cq G,nt:=nt,M:=fQ S,mt:=mt }) rfl hG).get
 have hS':∀g c,c∈({ T:=assoc T,G:=cq G,nt:=nt,M:=fQ S,mt:=mt }:Env).M g->eM P { T:=assoc T,G:=cq G,nt:=nt,M:=fQ S,mt:=mt } g c:=(jB.env (E:=bZ T) (E':={ T:=assoc T,G:=cq G,nt:=nt,M:=fQ S,mt:=mt }) rfl hS).get
 exact qS (E:={ T:=assoc T,G:=cq G,nt:=nt,M:=fQ S,mt:=mt }) hT' hG' ⟨hS',fun _ _ h=>(nomatch h)⟩ (fun w0 M Z0 ans=>uR hT' hG' ⟨hS',fun _ _ h=>(nomatch h)⟩ hm) rfl rfl hf b1 hc b3 (by rw [<-hbody];exact gL b4) (Nat.eq_of_beq_eq_true b5) live h
section
variable {P:Program} {T:List (Nat×TI)} {G:List (Nat×gv)} {S:List (Nat×jc)} {I:List (Nat×mu)} {nt:Nat} {mt:Bool}
end
def valid {P:Program}{T:List (Nat×TI)}{G:List (Nat×gv)}{nt:Nat}{g:FuncId}{fn:Func}{cj:gv}(hm:P.follows .mixedOrders=true)(hT:ck P T=true)(hG:eD P (bZ T) G)
  (hf:P.funcs[g]?=some fn) (hb:sq fn cj nt=true) (live:Nat->Live)
  (h:∀ls r,nM (bZ T).cells cj.args ls->cj.sem ls=some r->∃n,iH { T:=assoc T,G:=cq G,nt:=nt } live fn cj.res n (eu cj.args ls)=some r):Valid P (bZ T) g cj:=
 pE (S:=[]) hm hT hG .nil hf hb live h
end Go.DM
set_option linter.unusedSectionVars false
namespace Go.DM
inductive Wf (T:Nat->List K):K->L->Prop where
 | int (k:IntKind) (n:Int) (h:(Lit.int k n).wf=true):Wf T (.int k) (.int n)
 | bool (b:Bool):Wf T .bool (.bool b)
 | str (s:bE) (h:s.size<=maxLen):Wf T .str (.str s)
 | sl (e:Nat) (xs:aA) (h:xs.length<=maxLen) (hl:∀r∈xs,r.length=(T e).length) (hr:∀(r:List L) (j:Nat) (kk:K) (l:L),r∈xs->(T e)[j]?=some kk->r[j]?=some l->Wf T kk l):Wf T (.sl e) (.sl xs)
def dO {α:Type}{P:Nat->α->Prop}:∀(n:Nat),(∀j,j<n->∃x,P j x)->∃xs:List α,xs.length=n/\∀j,j<n->∃x,xs[j]?=some x/\P j x
 | 0,_=>⟨[],rfl,fun j h=>by omega⟩
 | n+1,h=>by
  obtain ⟨xs,h1,h2⟩:=dO n fun j hj=>h j (by omega)
  obtain ⟨x,hx⟩:=h n (by omega)
  refine ⟨xs++[x],by simp [h1],fun j hj=>?_⟩
  by_cases hjn:j<n
  ·obtain ⟨y,h3,h4⟩:=h2 j hjn
   exact ⟨y,by rw [List.getElem?_append_left (by omega)];exact h3,h4⟩
  ·have :j=n:=by omega
   subst this
   exact ⟨x,by rw [<-h1];simp,hx⟩
def fY {P:Program}{T:Nat->Option TI}:∀{fs:List Field} {ps:List (Nat×Nat)} {o:Nat} {ks:List K},eG P T fs ps o ks=true->
  ∀l,l<ks.length->∃(j:Nat) (p:Nat×Nat) (ti:TI),ps[j]?=some p/\T p.2=some ti/\o<=p.1/\p.1 - o<=l/\l<p.1 - o+ti.cells.length
 | [],[],o,[],_,l,h=>by simp at h
 | [],[],o,_::_,h,_,_=>by cases h
 | [],_::_,o,ks,h,_,_=>by cases h
 | _::_,[],o,ks,h,_,_=>by cases h
 | f::fs,p::ps,o,ks,h,l,hl=>by
  simp only [eG,Bool.and_eq_true] at h
  obtain ⟨h1,h2,h3,h4⟩:=h
  split at h4
  ·rename_i fi hfi
   split at h4
   ·rename_i ti hti
    simp only [Bool.and_eq_true] at h4
    obtain ⟨h5,h6,h7⟩:=h4
    have e3:=Nat.eq_of_beq_eq_true h3
    by_cases hlt:l<ti.cells.length
    ·exact ⟨0,p,ti,rfl,hti,by omega,by omega,by omega⟩
    ·obtain ⟨j,q,tq,g1,g2,g3,g4,g5⟩:=fY h7 (l - ti.cells.length) (by rw [List.length_drop];omega)
     exact ⟨j+1,q,tq,by simpa using g1,g2,by omega,by omega,by omega⟩
   ·cases h4
  ·cases h4
section
variable {H:Type} {enc:TypeId×Value->H} {P:Program} {w:World} {spare:Nat->Bool} {held:Bool} {E:Env}
theorem sU (hB:∀t i,E.T t=some i->sB P E.T t i=true):∀(n:Nat) {t:Nat} {i:TI} {cs:List Value} {x:DataW H×List MemPlace},E.T t=some i->DataW.trod enc P w 0 spare held n t cs=some x->
  cs.length=i.cells.length/\∀(j:Nat) (kk:K),i.cells[j]?=some kk->∃(l:L) (v:Value),cs[j]?=some v/\Rd E.cells w (fun b=>b<w.heap.size) kk v l/\Wf E.cells kk l:=by
 intro n
 induction n with
 | zero=>intro t i cs x _ h;simp [DataW.trod] at h
 | succ n ih=>
  intro t i cs x ht h
  have hb:=hB t i ht
  obtain ⟨ii,d,z,k1,k2,k3,k4,k5,k6,kby,k7,k8,k9,k10,kpl,k11,k12,kA,kf,k15⟩:=jy (E:=E) hb
  cases ha:i.agg with
  | false=>
   obtain ⟨hl1,_⟩:=k9 ha
   match hc:i.cells,hl1 with
   | [.int k],_=>
    obtain ⟨m,rfl,_,hw⟩:=DataW.trod_int (k12 ha k hc ▸ k2) h
    exact ⟨rfl,fun j kk hj=>by
     cases j with
     | zero=>simp at hj;subst hj;exact ⟨.int m,_,rfl,Rd.int k (.int m),Wf.int k m hw⟩
     | succ j=>simp at hj⟩
   | [.bool],_=>
    obtain ⟨b,rfl,_⟩:=DataW.trod_bool (kA ha hc ▸ k2) h
    exact ⟨rfl,fun j kk hj=>by
     cases j with
     | zero=>simp at hj;subst hj;exact ⟨.bool b,_,rfl,Rd.bool (.bool b),Wf.bool b⟩
     | succ j=>simp at hj⟩
   | [.str],_=>
    obtain ⟨s,rfl,_,hs⟩:=DataW.trod_string (kf ha hc ▸ k2) h
    exact ⟨rfl,fun j kk hj=>by
     cases j with
     | zero=>simp at hj;subst hj;exact ⟨.str s,_,rfl,Rd.str (.str s),Wf.str s hs⟩
     | succ j=>simp at hj⟩
   | [.sl e],_=>
    have hel:i.el=some e:=by simp [TI.el,ha,hc]
    obtain ⟨rfl,ie,hie⟩:=k11 e hel
    have hce:P.cellsOf e=ie.cells.length/\0<ie.cells.length:=by
     obtain ⟨ii',d',z',q1,q2,q3,q4,q5,q6,_⟩:=jy (E:=E) (hB e ie hie)
     exact ⟨by simp [Program.cellsOf,q1,q4],q6⟩
    have hEe:E.cells e=ie.cells:=cg hie
    have fin:∀(l:L) (v:Value),cs=[v]->Rd E.cells w (fun b=>b<w.heap.size) (.sl e) v l->Wf E.cells (.sl e) l->
      cs.length=[K.sl e].length/\∀(j:Nat) (kk:K),[K.sl e][j]?=some kk->∃(l:L) (v:Value),cs[j]?=some v/\Rd E.cells w (fun b=>b<w.heap.size) kk v l/\Wf E.cells kk l:=by
     intro l v hv h1 h2
     subst hv
     exact ⟨rfl,fun j kk hj=>by
      cases j with
      | zero=>simp at hj;subst hj;exact ⟨l,_,rfl,h1,h2⟩
      | succ j=>simp at hj⟩
    rcases DataW.trod_slice k2 h with ⟨hv,_⟩ | ⟨a,len,cap,elems,rest,m,hm,hv,_,hb0,hlc,hcm,hlen,hel',_,_⟩
    ·exact fin (.sl []) _ hv (.nil _ _ _ _ rfl) (.sl e [] (by simp) (fun r hr=>by cases hr) (fun r j kk l hr=>by cases hr))
    ·have hm':m=n:=by omega
     subst hm'
     have each:∀i',i'<len->∃rc:List L×List Value,rc.1.length=ie.cells.length/\(∀j,j<ie.cells.length->w.cell? (a.add (i'*ie.cells.length) |>.add j)=rc.2[j]?)/\
       ∀(j:Nat) (kk:K),ie.cells[j]?=some kk->∃(l:L) (v:Value),rc.1[j]?=some l/\rc.2[j]?=some v/\Rd E.cells w (fun b=>b<w.heap.size) kk v l/\Wf E.cells kk l:=by
      intro i' hi'
      have h1:=hel' i' hi'
      rw [List.getElem?_eq_getElem (by omega)] at h1
      obtain ⟨cs',h2,h3⟩:=Option.bind_eq_some_iff.1 h1
      obtain ⟨_,h4,h5⟩:=World.cells?_some h2
      obtain ⟨h6,h7⟩:=ih hie h3
      obtain ⟨row,r1,r2⟩:=dO (P:=fun j l=>∃v,cs'[j]?=some v/\∀kk,ie.cells[j]?=some kk->Rd E.cells w (fun b=>b<w.heap.size) kk v l/\Wf E.cells kk l) ie.cells.length (fun j hj=>by
       have hk:=List.getElem?_eq_getElem hj
       obtain ⟨l,v,e1,e2,e3⟩:=h7 j _ hk
       exact ⟨l,v,e1,fun kk hkk=>by rw [hk] at hkk;injection hkk with hkk;subst hkk;exact ⟨e2,e3⟩⟩)
      refine ⟨(row,cs'),r1,fun j hj=>?_,fun j kk hj=>?_⟩
      ·rw [hce.1] at h5;exact h5 j (by omega)
      ·obtain ⟨l,e1,v,e2,e3⟩:=r2 j (List.getElem?_eq_some_iff.1 hj).1
       exact ⟨l,v,e1,e2,e3 kk hj⟩
     obtain ⟨rows,g1,g2⟩:=dO len each
     have hwf:Wf E.cells (.sl e) (.sl (rows.map (·.1))):=by
      refine .sl e _ (by simp [g1];omega) (fun r hr=>?_) (fun r j kk l hr hj hl=>?_)
      ·obtain ⟨rc,hrc,rfl⟩:=List.mem_map.1 hr
       obtain ⟨i',hi'⟩:=List.getElem?_of_mem hrc
       obtain ⟨rc',h1,h2,_⟩:=g2 i' (by rw [<-g1];exact (List.getElem?_eq_some_iff.1 hi').1)
       rw [hi'] at h1;injection h1 with h1;subst h1
       rw [h2,hEe]
      ·obtain ⟨rc,hrc,rfl⟩:=List.mem_map.1 hr
       obtain ⟨i',hi'⟩:=List.getElem?_of_mem hrc
       obtain ⟨rc',h1,h2,_,h3⟩:=g2 i' (by rw [<-g1];exact (List.getElem?_eq_some_iff.1 hi').1)
       rw [hi'] at h1;injection h1 with h1;subst h1
       rw [hEe] at hj
       obtain ⟨l',v,e1,_,_,e3⟩:=h3 j kk hj
       rw [hl] at e1;injection e1 with e1;subst e1
       exact e3
     refine fin (.sl (rows.map (·.1))) _ hv ?_ hwf
     rcases Nat.eq_zero_or_pos len with h0 | hpos
     ·subst h0
      exact .nil _ _ _ _ (by simp only [L.az];rw [List.eq_nil_of_length_eq_zero g1];rfl)
     ·
      obtain ⟨rc0,h1,h2,h3,h4⟩:=g2 0 hpos
      have hk0:=List.getElem?_eq_getElem hce.2
      obtain ⟨l0,v0,e1,e2,e3,_⟩:=h4 0 _ hk0
      have hc0:=h3 0 hce.2
      rw [e2] at hc0
      obtain ⟨b,o,spot⟩:=a
      have hspot:spot=none:=by simpa [Addr.add] using World.cell?_spot hc0
      subst hspot
      have hblt:b<w.heap.size:=by simpa [Addr.add] using block_lt_of_cell hc0
      refine .sl e len cap b o _ (fun i' j=>(((rows.getD i' ([],[])).2).getD j Go.undef)) (by simp [L.az,g1]) hlc (Nat.le_trans hlc hcm) hblt (fun i' j kk hi' hj=>?_) (fun i' j kk hi' hj=>?_)
      ·rw [hEe] at hj ⊢
       obtain ⟨rc,q1,q2,q3,q4⟩:=g2 i' hi'
       obtain ⟨l,v,p1,p2,p3,p4⟩:=q4 j kk hj
       have:=q3 j (List.getElem?_eq_some_iff.1 hj).1
       rw [p2,Addr.add_lit,Addr.add_lit,Nat.add_assoc] at this
       rw [this]
       simp [List.getD_eq_getElem?_getD,q1,p2]
      ·rw [hEe] at hj
       obtain ⟨rc,q1,q2,q3,q4⟩:=g2 i' hi'
       obtain ⟨l,v,p1,p2,p3,p4⟩:=q4 j kk hj
       have e1:((rows.getD i' ([],[])).2).getD j Go.undef=v:=by simp [List.getD_eq_getElem?_getD,q1,p2]
       have e2:((L.sl (rows.map (·.1))).az.getD i' []).getD j .hole=l:=by simp [L.az,List.getD_eq_getElem?_getD,q1,p1]
       show Rd E.cells w _ kk (((rows.getD i' ([],[])).2).getD j Go.undef) _
       rw [e1,e2];exact p3
  | true=>
   obtain ⟨fs,rfl,_⟩:=k10 ha
   have hcells:P.cellsOf t=i.cells.length:=by simp [Program.cellsOf,k1,k4]
   have hfb:eG P E.T fs.toList i.fields 0 i.cells=true:=by
    have hb':=hb
    unfold sB at hb'
    simp only [k1,k2,k3,ha,ah,Bool.and_eq_true] at hb'
    exact hb'.2.2.2.2.2.1
   obtain ⟨xs,m,hm,_,hl,hxs,hf⟩:=DataW.trod_struct k2 h
   have hm':m=n:=by omega
   subst hm'
   refine ⟨by rw [hl,hcells],fun j kk hj=>?_⟩
   obtain ⟨f,p,ti,c1,c2,c3,c4,c5⟩:=fY hfb j (List.getElem?_eq_some_iff.1 hj).1
   obtain ⟨places,_,hfl,hsp⟩:=dc (E:=E) hfb
   obtain ⟨fl,ti',q1,q2,q3,q4,q5,q6,q7,q8,q9⟩:=hsp f p c1
   rw [c2] at q4;injection q4 with q4;subst q4
   have hfs:fs[f]?=some fl:=by simpa using q1
   have htrod:=hf f fl hfs
   have hxl:f<xs.length:=by
    rw [hxs];exact (Array.getElem?_eq_some_iff.1 hfs).1
   rw [List.getElem?_eq_getElem hxl,q3,q2] at htrod
   obtain ⟨_,h2⟩:=ih c2 htrod
   have hkk:ti.cells[j - p.1]?=some kk:=by
    have hlt:j - p.1<ti.cells.length:=by omega
    have hg:=List.getElem?_eq_getElem hlt
    have:=q8 _ _ hg
    rw [show p.1 - 0+(j - p.1)=j by omega,hj] at this
    rw [hg];exact this.symm
   obtain ⟨l,v,e1,e2,e3⟩:=h2 (j - p.1) kk hkk
   refine ⟨l,v,?_,e2,e3⟩
   rw [List.getElem?_take] at e1
   split at e1
   ·rw [List.getElem?_drop] at e1
    rw [<-e1];congr 1;omega
   ·cases e1
end
end Go.DM
set_option linter.unusedSectionVars false
namespace Go.DM
open Go.ChangeShapes Go.WideShapes Go.RowKit
def hJ (T:Nat->Option TI)(t:Nat):gq:=match T t with
 | some i=>bif i.agg then .agg i.cells else .rd (i.cells.headD .bool)
 | none=>.rd .bool
def oK (T:Nat->Option TI)(ts:List Nat)(sem:List L->Option (List L)):gv:=⟨ts.map (hJ T),.one (.rd .bool),sem⟩
def dL (T:Nat->List K)(ks:List K)(ls:List L):Prop:=ls.length=ks.length/\∀(j:Nat) (k:K),ks[j]?=some k->∃l,ls[j]?=some l/\Wf T k l
def dL.append {T:Nat->List K}{a b:List K}{x y:List L}(h:dL T a x)(k:dL T b y):dL T (a++b) (x++y):=by
 refine ⟨by simp [h.1,k.1],fun j kk hj=>?_⟩
 by_cases hl:j<a.length
 ·rw [List.getElem?_append_left hl] at hj
  obtain ⟨l,e1,e2⟩:=h.2 j kk hj
  exact ⟨l,by rw [List.getElem?_append_left (by rw [h.1];exact hl)];exact e1,e2⟩
 ·rw [List.getElem?_append_right (by omega)] at hj
  obtain ⟨l,e1,e2⟩:=k.2 _ kk hj
  exact ⟨l,by rw [List.getElem?_append_right (by rw [h.1];omega),h.1];exact e1,e2⟩
section
variable {H:Type} {enc:TypeId×Value->H} {P:Program} {W:World} {E:Env} {r:Reach} {b0:Nat}
theorem qN (hB:∀t i,E.T t=some i->sB P E.T t i=true){t:Nat}{i:TI}(ht:E.T t=some i){v:Value}{d:DataW H}{ps:List MemPlace}(h:DataW.Trod enc P W 0 (fun _=>true) true t v d ps)(hv:Value.okWide P W r b0 t v) :
  ∃ls,dL E.cells i.cells ls/\∀rest,V2 E.cells W (A0 (fun _=>True) W) (sE (hJ E.T t) (ls++rest)) v:=by
 obtain ⟨fuel,hf⟩:=h
 obtain ⟨h1,h2⟩:=sU hB fuel ht hf
 obtain ⟨ls,g1,g2⟩:=dO (P:=fun j l=>∃x,v.cells.toList[j]?=some x/\∀kk,i.cells[j]?=some kk->Rd E.cells W (fun b=>b<W.heap.size) kk x l/\Wf E.cells kk l) i.cells.length (fun j hj=>by
  have hk:=List.getElem?_eq_getElem hj
  obtain ⟨l,x,e1,e2,e3⟩:=h2 j _ hk
  exact ⟨l,x,e1,fun kk hkk=>by rw [hk] at hkk;injection hkk with hkk;subst hkk;exact ⟨e2,e3⟩⟩)
 have hz:∀b,b<W.heap.size->bD W (A0 (fun _=>True) W) b:=fun b hb=>⟨.inl trivial,hb,fun _ h=>h⟩
 have hrd:∀(j:Nat) (kk:K),i.cells[j]?=some kk->∃(l:L) (x:Value),ls[j]?=some l/\v.cells.toList[j]?=some x/\Rd E.cells W (bD W (A0 (fun _=>True) W)) kk x l/\Wf E.cells kk l:=by
  intro j kk hj
  obtain ⟨l,e1,x,e2,e3⟩:=g2 j (List.getElem?_eq_some_iff.1 hj).1
  exact ⟨l,x,e1,e2,(e3 kk hj).1.mono hz,(e3 kk hj).2⟩
 refine ⟨ls,⟨g1,fun j k hj=>?_⟩,fun rest=>?_⟩
 ·obtain ⟨l,x,e1,_,_,e4⟩:=hrd j k hj
  exact ⟨l,e1,e4⟩
 ·obtain ⟨ii,dd,z,k1,k2,k3,k4,k5,k6,kby,k7,k8,k9,k10,kpl,k11,k12,kA,kf,k15⟩:=jy (E:=E) (hB t i ht)
  have hF:=jl (T:=E.cells) (w:=W) (A:=A0 (fun _=>True) W) (d:=none) (fun r hr=>(nomatch hr)) i.cells ls (fun j=>v.cells.toList.getD j Go.undef) (fun j kk hj=>by
   obtain ⟨l,x,e1,e2,e3,_⟩:=hrd j kk hj
   rw [List.getD_eq_getElem?_getD,e2,List.getD_eq_getElem?_getD,e1];exact e3)
  rw [jJ h1] at hF
  have hp:hJ E.T t=bif i.agg then .agg i.cells else .rd (i.cells.headD .bool):=by simp [hJ,ht]
  rw [hp]
  cases ha:i.agg with
  | true=>
   show V2 E.cells W _ (.agg (gb none i.cells (ls++rest))) v
   obtain ⟨fs,rfl,_⟩:=k10 ha
   obtain ⟨cs,rfl,_⟩:=okWide_struct k2 hv
   rw [fF _ _ _ _ g1]
   exact V1.v2 (v:=.agg _) ⟨cs.toList,by simp,hF⟩
  | false=>
   show V2 E.cells W _ (su none (i.cells.headD .bool) ((ls++rest).headD .hole)) v
   obtain ⟨hl1,_⟩:=k9 ha
   have hone:∃x,v=x/\v.cells=#[x]:=by
    match hc:i.cells,hl1 with
    | [.int k],_=>obtain ⟨n,rfl⟩:=okWide_int (k12 ha k hc ▸ k2) hv;exact ⟨_,rfl,rfl⟩
    | [.bool],_=>obtain ⟨n,rfl⟩:=okWide_bool (kA ha hc ▸ k2) hv;exact ⟨_,rfl,rfl⟩
    | [.str],_=>obtain ⟨n,rfl⟩:=okWide_string (kf ha hc ▸ k2) hv;exact ⟨_,rfl,rfl⟩
    | [.sl e],_=>
     have hel:i.el=some e:=by simp [TI.el,ha,hc]
     obtain ⟨rfl,_⟩:=k11 e hel
     obtain ⟨a,n,c,rfl⟩:=okWide_slice k2 hv;exact ⟨_,rfl,rfl⟩
   obtain ⟨x,rfl,hcx⟩:=hone
   match hc:i.cells,hl1 with
   | [k],_=>
    obtain ⟨l,y,e1,e2,e3,_⟩:=hrd 0 k (by rw [hc];rfl)
    rw [hcx] at e2
    simp at e2
    subst e2
    have :(ls++rest).headD .hole=l:=by
     rw [bQ,List.getD_eq_getElem?_getD,List.getElem?_append_left (by rw [g1,hc];simp),e1];rfl
    rw [this]
    exact (lK (fun r hr=>by cases hr) e3).v2
theorem sF (hB:∀t i,E.T t=some i->sB P E.T t i=true){t:Nat}{i:TI}(ht:E.T t=some i):(hJ E.T t).n=i.cells.length:=by
 have hp:hJ E.T t=bif i.agg then .agg i.cells else .rd (i.cells.headD .bool):=by simp [hJ,ht]
 rw [hp]
 cases ha:i.agg with
 | true=>rfl
 | false=>
  obtain ⟨ii,dd,z,k1,k2,k3,k4,k5,k6,kby,k7,k8,k9,_⟩:=jy (E:=E) (hB t i ht)
  rw [(k9 ha).1];rfl
theorem kW (hB:∀t i,E.T t=some i->sB P E.T t i=true):∀{ts:List Nat} {vs:List Value} {ds:List (DataW H)} {ps:List MemPlace},(∀t∈ts,(E.T t).isSome=true)->DataW.TrodAll enc P W 0 (fun _=>true) true ts vs ds ps->
  (∀(j:Nat) (t:TypeId) (v:Value),ts[j]?=some t->vs[j]?=some v->Value.okWide P W r b0 t v)->∃ls,dL E.cells (ts.flatMap E.cells) ls/\F2 (V2 E.cells W (A0 (fun _=>True) W)) (eN (ts.map (hJ E.T)) ls) vs
 | [],[],ds,ps,_,_,_=>⟨[],⟨rfl,fun j k hj=>by simp at hj⟩,.nil⟩
 | [],_::_,[],ps,_,h,_=>h.elim
 | [],_::_,_::_,ps,_,h,_=>h.elim
 | _::_,[],[],ps,_,h,_=>h.elim
 | _::_,[],_::_,ps,_,h,_=>h.elim
 | _::_,_::_,[],ps,_,h,_=>h.elim
 | t::ts,v::vs,d::ds,ps,hs,⟨p,q,h1,h2,_⟩,hv=>by
  obtain ⟨i,hi⟩:=Option.isSome_iff_exists.1 (hs t (by simp))
  obtain ⟨a,g1,g2⟩:=qN hB hi h1 (hv 0 t v rfl rfl)
  obtain ⟨b,g3,g4⟩:=kW hB (fun t ht=>hs t (by simp [ht])) h2 (fun j t v h h'=>hv (j+1) t v (by simpa using h) (by simpa using h'))
  have hc:E.cells t=i.cells:=cg hi
  refine ⟨a++b,by rw [List.flatMap_cons,hc];exact g1.append g3,?_⟩
  refine .cons (g2 b) ?_
  rw [sF hB hi,<-g1.1,dz,List.drop_left]
  exact g4
theorem fZ (hl:laidOutB P=true){W':World}(hb:Below W.heap.size W W'):∀{ts:List Nat} {vs:List Value} {ds:List (DataW H)} {ps:List MemPlace},(ts.all fun t=>P.readableRec t&&decide (t<P.types.size))=true->
  DataW.TrodAll enc P W 0 (fun _=>true) true ts vs ds ps->DataW.TrodAll enc P W' 0 (fun b=>decide (b<W.heap.size)) true ts vs ds ps
 | [],[],[],ps,_,h=>h
 | [],_::_,[],ps,_,h=>h.elim
 | [],[],_::_,ps,_,h=>h.elim
 | [],_::_,_::_,ps,_,h=>h.elim
 | _::_,[],[],ps,_,h=>h.elim
 | _::_,[],_::_,ps,_,h=>h.elim
 | _::_,_::_,[],ps,_,h=>h.elim
 | t::ts,v::vs,d::ds,ps,hs,⟨p,q,h1,h2,h3⟩=>by
  simp only [List.all_cons,Bool.and_eq_true,decide_eq_true_eq] at hs
  refine ⟨p,q,Below.trod hl hs.1.1 hs.1.2 h1 hb ?_,fZ hl hb (by simpa using hs.2) h2,h3⟩
  obtain ⟨fuel,hf⟩:=h1
  exact DataW.trod_lt fuel _ _ _ hf
theorem qn {g:FuncId}{ts:List Nat}{sem:List L->Option (List L)}(hV:Valid P E g (oK E.T ts sem)){ls:List L}{vs:List Value}(hs:sem ls=some [.bool true])
  (hf:F2 (V2 E.cells W (A0 (fun _=>True) W)) (eN (ts.map (hJ E.T)) ls) vs):Calls P g vs.toArray W fun e W'=>e=.returned (.bool true)/\Below W.heap.size W W':=by
 refine (hV.2.2 ls _ W vs (fun _=>True) hs hf).mono fun e W' ⟨rv,A',h1,h2,_,_,_,h3⟩=>?_
 have :rv=.bool true:=h3
 subst this
 exact ⟨h1,⟨h2.os,h2.tape,h2.output,h2.size,fun k hk=>h2.block k hk (fun h=>h)⟩⟩
end
end Go.DM
namespace Go.DM
def iter {Pt:Type}(step:(Pt->aq)->Pt->aq):Nat->Pt->aq
 | 0=>fun _=>none
 | n+1=>step (iter step n)
def jV {E:Env}{live:Nat->Live}{f:Func}{res:RP}{Pt:Type}{id:Pt->Nat}{vs:Pt->List V}{hs:Pt->List af}{step:(Pt->aq)->Pt->aq}
  (h:∀(I:cS) (p:Pt),bM E live I (id p) (bn f) (mA (live (id p)) (vs p) (hs p)) (dw E f res)=step (fun q=>I (id q) (vs q) (hs q)) p) :
  ∀(n:Nat) (p:Pt),nW E live f res n (id p) (vs p) (hs p)=iter step n p
 | 0,_=>rfl
 | n+1,p=>by
  show bM E live (nW E live f res n) (id p) (bn f) (mA (live (id p)) (vs p) (hs p)) (dw E f res)=step (iter step n) p
  rw [h]
  congr 1
  funext q
  exact jV h n q
def iw {E:Env}{live:Nat->Live}{f:Func}{res:RP}{Pt:Type}{id:Pt->Nat}{vs:Pt->List V}{hs:Pt->List af}{step:(Pt->aq)->Pt->aq}{s:St}{start:(Pt->aq)->aq}
  (h:∀(I:cS) (p:Pt),bM E live I (id p) (bn f) (mA (live (id p)) (vs p) (hs p)) (dw E f res)=step (fun q=>I (id q) (vs q) (hs q)) p)
  (h0:∀I:cS,eY E live I (bn f) s (dw E f res)=start (fun q=>I (id q) (vs q) (hs q))) (n:Nat):iH E live f res n s=start (iter step n):=by
 unfold iH
 rw [h0]
 congr 1
 funext q
 exact jV h n q
end Go.DM
namespace Go.DM
def qg {P:Program}{l:List (Nat×TI)}(h:ck P l=true):∀t i,(bZ l).T t=some i->sB P (bZ l).T t i=true:=by
 intro t i ht
 simp only [ck,List.all_eq_true] at h
 exact h (t,i) (ij ht)
def iT {H:Type}{enc:TypeId×Value->H}{P:Program}{w:World}{base:Nat}{sp:Nat->Bool}{held:Bool}:∀{ts:List TypeId} {vs:List Value} {ds:List (DataW H)} {ps:List MemPlace},DataW.TrodAll enc P w base sp held ts vs ds ps->ds.length=ts.length
 | [],[],[],_,_=>rfl
 | [],[],_::_,_,h=>h.elim
 | [],_::_,[],_,h=>h.elim
 | [],_::_,_::_,_,h=>h.elim
 | _::_,[],[],_,h=>h.elim
 | _::_,[],_::_,_,h=>h.elim
 | _::_,_::_,[],_,h=>h.elim
 | _::_,_::_,_::_,_,⟨_,_,_,h,_⟩=>by simp [iT h]
def aN {i n:Nat}(h:i<n)(hn:n<=maxLen):IntKind.i64.wrap ((i:Int)+1)=((i+1:Nat):Int):=by
 rw [Go.IntWalk.i64_in _ (by simp only [maxLen] at hn;omega)];omega
def take_set {α:Type}{c:List α}{i:Nat}{v:α}(h:i<c.length):(c.set i v).take (i+1)=c.take i++[v]:=by
 rw [List.take_succ_eq_append_getElem (by simpa using h),List.take_set_of_le (by omega)]
 simp
def eo (n:Nat):Int.toNat (n:Int)=n:=Eq.trans (Int.toNat_natCast n) rfl
@[simp] def sV (s:bE):(s==s)=true:=by rw [beq_toListBytes];simp
end Go.DM
namespace Go.DM
class RT (β:Type) where
 enc:β->List L
 dec:List L->β
 n:Nat
 de:∀b rest,dec (enc b++rest)=b
 dr:∀b rest,aU n (enc b++rest)=rest
instance :RT Int:=⟨fun n=>[.int n],fun r=>(r.headD .hole).toInt,1,fun _ _=>rfl,fun _ _=>rfl⟩
instance :RT Bool:=⟨fun n=>[.bool n],fun r=>(r.headD .hole).toBool,1,fun _ _=>rfl,fun _ _=>rfl⟩
instance :RT bE:=⟨fun n=>[.str n],fun r=>(r.headD .hole).toStr,1,fun _ _=>rfl,fun _ _=>rfl⟩
instance :RT (aA):=⟨fun n=>[.sl n],fun r=>(r.headD .hole).az,1,fun _ _=>rfl,fun _ _=>rfl⟩
def lg:∀(m n:Nat) (l:List L),aU (m+n) l=aU n (aU m l)
 | 0,n,l=>by rw [Nat.zero_add];rfl
 | m+1,n,l=>by rw [show m+1+n=(m+n)+1 by omega];exact lg m n l.tail
instance {α β:Type} [RT α] [RT β]:RT (α×β):=
 ⟨fun p=>RT.enc p.1++RT.enc p.2,fun r=>(RT.dec r,RT.dec (aU (RT.n α) r)),RT.n α+RT.n β,
  fun b rest=>by simp only [List.append_assoc,RT.de,RT.dr],
  fun b rest=>by simp only [List.append_assoc,lg,RT.dr]⟩
def ret {β:Type}[RT β](b:β):aq:=some (RT.enc b)
def call {β:Type}[RT β](o:Option β)(k:β->aq):aq:=(o.map RT.enc).bind fun r=>k (RT.dec r)
def qp {β:Type}[RT β](b:β)(k:β->aq):call (some b) k=k b:=by
 have:=RT.de b []
 rw [List.append_nil] at this
 simp [call,this]
def call_eq {β:Type}[RT β]{o:Option β}{b:β}(h:o=some b)(k:β->aq):call o k=k b:=by rw [h,qp]
def vk (r:List L):Int:=(r.headD .hole).toInt
def uZ (r:List L):Bool:=(r.headD .hole).toBool
def sDec (r:List L):bE:=(r.headD .hole).toStr
def vl (r:List L):aA:=(r.headD .hole).az
def uX (xs:aA)(i:Nat):Int:=vk (List.getD xs i [])
def vi (xs:aA)(i:Nat):Bool:=uZ (List.getD xs i [])
def vf (xs:aA)(i:Nat):bE:=sDec (List.getD xs i [])
def vm (xs:aA)(i:Nat):aA:=vl (List.getD xs i [])
def aM (s:bE)(i:Nat):Int:=((List.getD s.data.toList i 0).toNat:Int)
def lW (n:Int):List L:=[.int n]
def qj (n:Bool):List L:=[.bool n]
def pY (n:bE):List L:=[.str n]
def qC {α:Type}(f:α->List L)(c:List α):List L:=[.sl (c.map f)]
def rm {a b:Int}(h:lW a=lW b):a=b:=by injection h with h;injection h
def qI {a b:Bool}(h:qj a=qj b):a=b:=by injection h with h;injection h
def qW {a b:bE}(h:pY a=pY b):a=b:=by injection h with h;injection h
def map_inj {α β:Type}{f:α->β}(hf:∀{a b:α},f a=f b->a=b):∀{a b:List α},a.map f=b.map f->a=b
 | [],[],_=>rfl
 | [],_::_,h=>by cases h
 | _::_,[],h=>by cases h
 | a::as,b::bs,h=>by
  simp only [List.map_cons,List.cons.injEq] at h
  rw [hf h.1,map_inj hf h.2]
def rz {α:Type}{f:α->List L}(hf:∀{a b:α},f a=f b->a=b){a b:List α}(h:qC f a=qC f b):a=b:=by
 injection h with h;injection h with h;exact map_inj hf h
def getD_map {α:Type}{f:α->List L}{xs:List α}{i:Nat}(h:i<xs.length):List.getD (xs.map f) i []=f xs[i]:=by
 simp [List.getD_eq_getElem?_getD,h]
def ofM {A A' B:Type}(r:A->A')(g:A->Prop)(m:A->B)(x:A'):Option B:=
 open Classical in if h:∃a,r a=x/\g a then some (m (Classical.choose h)) else none
def tS {A A' B:Type}{r:A->A'}{g:A->Prop}{m:A->B}{a:A}(hr:∀a b,r a=r b->a=b)(h:g a):ofM r g m (r a)=some (m a):=by
 have hx:∃b,r b=r a/\g b:=⟨a,rfl,h⟩
 unfold ofM
 rw [dif_pos hx,hr _ _ (Classical.choose_spec hx).1]
def jD {A A' B:Type}{r:A->A'}{g:A->Prop}{m:A->B}{x:A'}{v:B}(h:ofM r g m x=some v):∃a,g a/\r a=x/\m a=v:=by
 unfold ofM at h
 split at h
 ·rename_i hx
  injection h with h
  exact ⟨_,(Classical.choose_spec hx).2,(Classical.choose_spec hx).1,h⟩
 ·cases h
def map_some {α β:Type}{f:α->β}{o:Option α}{b:β}(h:o.map f=some b):∃a,o=some a/\f a=b:=by
 cases o with
 | none=>cases h
 | some a=>injection h with h;exact ⟨a,rfl,h⟩
def jZ {α:Type}(a b:α):Bool:=open Classical in decide (a=b)
def cV {α:Type}{a b:α}:jZ a b=true↔a=b:=by simp [jZ]
def nA {α:Type}(a:α):jZ a a=true:=cV.2 rfl
def ld {α:Type}{a b:α}:jZ a b=false↔a≠b:=by simp [jZ]
def mG {α:Type}(n:Nat)(p:α->Prop)(xs:List α):Prop:=xs.length<=n/\∀x∈xs,p x
def mG.get {α:Type}{n:Nat}{p:α->Prop}{xs:List α}(h:mG n p xs){i:Nat}(hi:i<xs.length):p xs[i]:=h.2 _ (List.getElem_mem hi)
def mG.mono {α:Type}{n m:Nat}{p q:α->Prop}{xs:List α}(h:mG n p xs)(hn:n<=m)(hpq:∀x,p x->q x):mG m q xs:=⟨Nat.le_trans h.1 hn,fun x hx=>hpq x (h.2 x hx)⟩
def uk {α:Type}(f:α->Nat)(xs:List α):Nat:=xs.length+(xs.map f).sum
def pM {α:Type}{f:α->Nat}:∀{xs:List α} {x:α},x∈xs->f x<=(xs.map f).sum
 | y::ys,x,h=>by
  simp only [List.map_cons,List.sum_cons]
  rcases List.mem_cons.1 h with rfl | h
  ·omega
  ·have:=pM (f:=f) h;omega
def tR {α:Type}{f:α->Nat}{p:α->Prop}{n:Nat}{xs:List α}(h:uk f xs<=n)(hp:∀x,f x<=n->p x):mG n p xs:=by
 unfold uk at h
 exact ⟨by omega,fun x hx=>hp x (by have:=pM (f:=f) hx;omega)⟩
def bX {i n:Nat}(h:i<n):decide ((i:Int)<(n:Int))=true:=by simp [h]
def me {n:Nat}:decide ((n:Int)<(n:Int))=false:=by simp
def bH {i:Nat}:decide ((0:Int)<=(i:Int))=true:=by simp
end Go.DM
namespace Go.DM
def qG (s:Nat)(left:Int):Int:=if left<(s:Int) then -1 else left - s
def ia {s:Nat}{left:Int}(h:left<(s:Int)):qG s left=-1:=if_pos h
def jo {s:Nat}{left:Int}(h:¬left<(s:Int)):qG s left=left - s:=if_neg h
def pR {x:Int}(h:0<=x):decide (x<0)=false:=decide_eq_false (by omega)
def pJ {s:Nat}{left:Int}(h0:0<=left)(h1:left<=1048576)(hs:s<=maxLen):IntKind.i64.wrap (left - (s:Int))=left - s:=
 Go.IntWalk.i64_in _ (by simp only [maxLen] at hs;omega)
def sX {Pt α:Type}{step:(Pt->aq)->Pt->aq}{pt:Int->Nat->Pt}{xs:List α}{f:α->Nat}
  (h1:∀(J:Pt->aq) (i:Nat) (h:i<xs.length) (left:Int),0<=left->left<=1048576->step J (pt left i)=if left<(f xs[i]:Int) then ret (-1:Int) else J (pt (left - f xs[i]) (i+1)))
  (h0:∀(J:Pt->aq) (left:Int),step J (pt left xs.length)=ret left):∀(left:Int),0<=left->left<=1048576->∃m,iter step m (pt left 0)=ret (qG (xs.map f).sum left):=by
 have key:∀k i,i+k=xs.length->∀left:Int,0<=left->left<=1048576->∃m,iter step m (pt left i)=ret (qG ((xs.drop i).map f).sum left):=by
  intro k
  induction k with
  | zero=>
   intro i hi left g0 g1
   have :i=xs.length:=by omega
   subst this
   refine ⟨1,(h0 _ left).trans ?_⟩
   have e:qG ((xs.drop xs.length).map f).sum left=left:=by
    rw [List.drop_eq_nil_of_le (Nat.le_refl _)]
    rw [jo (by simp;omega)];simp
   rw [e]
  | succ k ih=>
   intro i hi left g0 g1
   have hlt:i<xs.length:=by omega
   rw [List.drop_eq_getElem_cons hlt,List.map_cons,List.sum_cons]
   by_cases hc:left<(f xs[i]:Int)
   ·refine ⟨1,(h1 _ i hlt left g0 g1).trans ?_⟩
    rw [if_pos hc,ia (by omega)]
   ·obtain ⟨m,hm⟩:=ih (i+1) (by omega) (left - f xs[i]) (by omega) (by omega)
    refine ⟨m+1,(h1 _ i hlt left g0 g1).trans ?_⟩
    rw [if_neg hc,hm]
    congr 1
    unfold qG
    split<;>split<;>omega
 intro left g0 g1
 have:=key xs.length 0 (by omega) left g0 g1
 simpa using this
def tj {Pt α:Type}{step:(Pt->aq)->Pt->aq}{pt:Int->Nat->Pt}{xs:List α}{f:α->Nat}(hx:xs.length<=maxLen)
  (h1:∀(J:Pt->aq) (i:Nat) (h:i<xs.length) (left:Int),0<=left->left<=1048576->step J (pt left i)=if left<(f xs[i]:Int) then ret (-1:Int) else J (pt (left - f xs[i]) (i+1)))
  (h0:∀(J:Pt->aq) (left:Int),step J (pt left xs.length)=ret left) {left:Int} (g0:0<=left) (g1:left<=1048576) :
  ∃m,(cond (decide (IntKind.i64.wrap (left - (xs.length:Int))<0)) (ret (-1:Int)) (iter step m (pt (IntKind.i64.wrap (left - (xs.length:Int))) 0)))=ret (qG (uk f xs) left):=by
 rw [pJ g0 g1 hx]
 by_cases hc:left - (xs.length:Int)<0
 ·refine ⟨0,?_⟩
  rw [decide_eq_true hc,ia (by unfold uk;omega)];rfl
 ·obtain ⟨m,hm⟩:=sX h1 h0 (left - (xs.length:Int)) (by omega) (by omega)
  refine ⟨m,?_⟩
  rw [decide_eq_false hc,ak,hm]
  congr 1
  unfold qG uk
  split<;>split<;>omega
def sw {Pt:Type}{step:(Pt->aq)->Pt->aq}{pt:Nat->aA->Pt}{xs:aA}
  (h1:∀(J:Pt->aq) (i:Nat) (h:i<xs.length) (c:aA),c.length=xs.length->step J (pt i c)=J (pt (i+1) (c.set i xs[i])))
  (h0:∀(J:Pt->aq) (c:aA),step J (pt xs.length c)=ret c) (c:aA) (hc:c.length=xs.length):∃m,iter step m (pt 0 c)=ret xs:=by
 have key:∀k i,i+k=xs.length->∀c:aA,c.length=xs.length->c.take i=xs.take i->∃m,iter step m (pt i c)=ret xs:=by
  intro k
  induction k with
  | zero=>
   intro i hi c hc ht
   have :i=xs.length:=by omega
   subst this
   rw [List.take_of_length_le (by omega),List.take_of_length_le (Nat.le_refl _)] at ht
   exact ⟨1,by rw [<-ht] at h0 ⊢;exact h0 _ _⟩
  | succ k ih=>
   intro i hi c hc ht
   have hlt:i<xs.length:=by omega
   obtain ⟨m,hm⟩:=ih (i+1) (by omega) (c.set i xs[i]) (by simpa using hc) (by rw [take_set (by omega),ht,List.take_succ_eq_append_getElem hlt])
   exact ⟨m+1,(h1 _ i hlt c hc).trans hm⟩
 exact key xs.length 0 (by omega) c hc rfl
def sQ {Pt α:Type}{step:(Pt->aq)->Pt->aq}{pt:Nat->aA->Pt}{xs:List α}{f:α->List L}{z:List L}{b:Nat}(hx:(xs.length:Int)*(b:Int)<=140737488355328)
  (h1:∀(J:Pt->aq) (i:Nat) (h:i<xs.length) (c:aA),c.length=xs.length->step J (pt i c)=J (pt (i+1) (c.set i (f xs[i]))))
  (h0:∀(J:Pt->aq) (c:aA),step J (pt xs.length c)=ret c) :
  ∃m,(cond (decide ((0:Int)<=(xs.length:Int))) (cond (decide ((xs.length:Int)<=(xs.length:Int))) (cond (decide ((xs.length:Int)*(b:Int)<=140737488355328)) (iter step m (pt 0 (List.replicate (Int.toNat (xs.length:Int)) z))) none) none) none)=ret (xs.map f):=by
 obtain ⟨m,hm⟩:=sw (step:=step) (pt:=pt) (xs:=xs.map f) (fun J i h c hc=>by
  rw [List.getElem_map];exact h1 J i (by simpa using h) c (by simpa using hc)) (fun J c=>by rw [List.length_map];exact h0 J c) (List.replicate (Int.toNat (xs.length:Int)) z) (by simp)
 refine ⟨m,?_⟩
 rw [bH,decide_eq_true (Int.le_refl _),decide_eq_true hx]
 exact hm
def sN {Pt α:Type}{step:(Pt->aq)->Pt->aq}{pt:Nat->Pt}{xs ys:List α}(hl:xs.length=ys.length)
  (h1:∀(J:Pt->aq) (i:Nat) (h:i<xs.length) (h':i<ys.length),step J (pt i)=bif jZ xs[i] ys[i] then J (pt (i+1)) else ret false) (h0:∀J:Pt->aq,step J (pt xs.length)=ret true):∃m,iter step m (pt 0)=ret (jZ xs ys):=by
 have key:∀k i,i+k=xs.length->∃m,iter step m (pt i)=ret (jZ (xs.drop i) (ys.drop i)):=by
  intro k
  induction k with
  | zero=>
   intro i hi
   have :i=xs.length:=by omega
   subst this
   refine ⟨1,(h0 _).trans ?_⟩
   rw [List.drop_eq_nil_of_le (Nat.le_refl _),List.drop_eq_nil_of_le (by omega),nA]
  | succ k ih=>
   intro i hi
   have hlt:i<xs.length:=by omega
   have hlt':i<ys.length:=by omega
   rw [List.drop_eq_getElem_cons hlt,List.drop_eq_getElem_cons hlt']
   obtain ⟨m,hm⟩:=ih (i+1) (by omega)
   cases hc:jZ xs[i] ys[i]
   ·refine ⟨1,(h1 _ i hlt hlt').trans ?_⟩
    rw [hc]
    have :jZ (xs[i]::xs.drop (i+1)) (ys[i]::ys.drop (i+1))=false:=by
     rw [ld] at hc ⊢
     intro h;injection h with h;exact hc h
    rw [this];rfl
   ·refine ⟨m+1,(h1 _ i hlt hlt').trans ?_⟩
    rw [hc,ah,hm]
    congr 1
    rw [cV] at hc
    rw [Bool.eq_iff_iff,cV,cV,hc]
    constructor
    ·intro h;rw [h]
    ·intro h;injection h
 have:=key xs.length 0 (by omega)
 simpa using this
def sM {Pt α:Type}{step:(Pt->aq)->Pt->aq}{pt:Nat->Pt}{xs ys:List α}
  (h1:xs.length=ys.length->∀(J:Pt->aq) (i:Nat) (h:i<xs.length) (h':i<ys.length),step J (pt i)=bif jZ xs[i] ys[i] then J (pt (i+1)) else ret false) (h0:∀J:Pt->aq,step J (pt xs.length)=ret true) :
  ∃m,(cond ((xs.length:Int) != (ys.length:Int)) (ret false) (iter step m (pt 0)))=ret (jZ xs ys):=by
 by_cases hl:xs.length=ys.length
 ·obtain ⟨m,hm⟩:=sN hl (h1 hl) h0
  refine ⟨m,?_⟩
  rw [hl,bne_self_eq_false,ak,hm]
 ·refine ⟨0,?_⟩
  have h2:((xs.length:Int) != (ys.length:Int))=true:=by simpa using fun h=>hl (by omega)
  have h3:jZ xs ys=false:=ld.2 fun h=>hl (by rw [h])
  rw [h2,h3];rfl
def dL.ox {T:Nat->List K}{k:K}{ks:List K}{r:List L}(h:dL T (k::ks) r):∃l r',r=l::r'/\Wf T k l/\dL T ks r':=by
 match r,h with
 | [],h=>have:=h.1;simp at this
 | l::r',h=>
  obtain ⟨l',e1,e2⟩:=h.2 0 k rfl
  simp at e1
  subst e1
  exact ⟨l,r',rfl,e2,by simpa using h.1,fun j kk hj=>by simpa using h.2 (j+1) kk (by simpa using hj)⟩
def dL.tB {T:Nat->List K}{r:List L}(h:dL T [] r):r=[]:=List.eq_nil_of_length_eq_zero h.1
def tI {T:Nat->List K}{k:IntKind}{l:L}(h:Wf T (.int k) l):∃n,l=.int n:=by cases h;exact ⟨_,rfl⟩
def tQ {T:Nat->List K}{l:L}(h:Wf T .str l):∃s:bE,l=.str s/\s.size<=maxLen:=by cases h;exact ⟨_,rfl,by assumption⟩
def td {T:Nat->List K}{e:Nat}{ks:List K}{α:Type}{row:α->List L}{p:α->Prop}(hc:T e=ks)(hrow:∀r,dL T ks r->∃x,row x=r/\p x){l:L}(h:Wf T (.sl e) l) :
  ∃xs:List α,l=.sl (xs.map row)/\mG maxLen p xs:=by
 cases h
 rename_i xs hle hl hr
 have key:∀ys:aA,(∀r∈ys,r∈xs)->∃zs:List α,ys=zs.map row/\∀z∈zs,p z:=by
  intro ys
  induction ys with
  | nil=>intro _;exact ⟨[],rfl,fun z hz=>(nomatch hz)⟩
  | cons y ys ih=>
   intro hy
   obtain ⟨zs,e1,e2⟩:=ih fun r hr=>hy r (by simp [hr])
   obtain ⟨z,e3,e4⟩:=hrow y (by
    refine ⟨by rw [<-hc];exact hl y (hy y (by simp)),fun j kk hj=>?_⟩
    rw [<-hc] at hj
    have hjl:j<y.length:=by rw [hl y (hy y (by simp))];exact (List.getElem?_eq_some_iff.1 hj).1
    have hg:=List.getElem?_eq_getElem hjl
    exact ⟨_,hg,hr y j kk _ (hy y (by simp)) hj hg⟩)
   refine ⟨z::zs,by simp [e1,e3],fun w hw=>?_⟩
   rcases List.mem_cons.1 hw with rfl | hw
   ·exact e4
   ·exact e2 w hw
 obtain ⟨zs,e1,e2⟩:=key xs fun r hr=>hr
 exact ⟨zs,by rw [e1],by rw [e1] at hle;simpa using hle,e2⟩
def tc {a b:Int}:(a==b)=jZ a b:=by rw [Bool.eq_iff_iff,beq_iff_eq,cV]
def bool_beq {a b:Bool}:(a==b)=jZ a b:=by rw [Bool.eq_iff_iff,beq_iff_eq,cV]
def rq {a b:bE}:(a==b)=jZ a b:=by
 rw [Bool.eq_iff_iff,cV,beq_toListBytes,beq_iff_eq,ByteArray.toList_eq,ByteArray.toList_eq]
 constructor
 ·intro h
  obtain ⟨⟨x⟩⟩:=a
  obtain ⟨⟨y⟩⟩:=b
  simp at h
  rw [h]
 ·intro h;rw [h]
def nh {b c:Bool}{x:aq}(h:b=true->x=ret c):(cond (!b) (ret false) x)=ret (b&&c):=by
 cases b
 ·rfl
 ·simpa using h rfl
end Go.DM
namespace Go.DM
def eg {S β:Type}(f:Nat->S->S⊕β)(tail:S->β):Nat->Nat->S->β
 | 0,_,s=>tail s
 | k+1,i,s=>match f i s with
  | .inl s'=>eg f tail k (i+1) s'
  | .inr b=>b
def vB {S β:Type}(K:S->aq)(out:β->aq):S⊕β->aq
 | .inl s=>K s
 | .inr b=>out b
def bh {S β:Type}(x:aq)(K:S->aq)(out:β->aq)(P:S->Prop)(r:S⊕β):Prop:=x=vB K out r/\∀s,r=.inl s->P s
def bh.bif {S β:Type}{K:S->aq}{out:β->aq}{P:S->Prop}{c:Bool}{x y:aq}{a b:S⊕β}(h1:c=true->bh x K out P a)(h2:c=false->bh y K out P b):bh (cond c x y) K out P (cond c a b):=by
 cases c
 ·exact h2 rfl
 ·exact h1 rfl
def bh.yes {S β:Type}{K:S->aq}{out:β->aq}{P:S->Prop}{c:Bool}{x y:aq}{r:S⊕β}(hc:c=true)(h:bh x K out P r):bh (cond c x y) K out P r:=by rw [hc];exact h
def bh.inl {S β:Type}{K:S->aq}{out:β->aq}{P:S->Prop}{x:aq}{s:S}(hp:P s)(h:x=K s):bh x K out P (.inl s):=⟨h,fun s' e=>by injection e with e;rw [<-e];exact hp⟩
def bh.inr {S β:Type}{K:S->aq}{out:β->aq}{P:S->Prop}{x:aq}{b:β}(h:x=out b):bh x K out P (.inr b):=⟨h,fun s' e=>by cases e⟩
def ng {Pt S β:Type}{step:(Pt->aq)->Pt->aq}{pt:Nat->S->Pt}{n:Nat}{f:Nat->S->S⊕β}{tail:S->β}{out:β->aq}(Inv:Nat->S->Prop)
  (h1:∀(J:Pt->aq) (i:Nat) (s:S),i<n->Inv i s->bh (step J (pt i s)) (fun s'=>J (pt (i+1) s')) out (Inv (i+1)) (f i s))
  (h0:∀s,Inv n s->∃m,step (iter step m) (pt n s)=out (tail s)) {s:S} (hs:Inv 0 s):∃m,iter step m (pt 0 s)=out (eg f tail n 0 s):=by
 have key:∀k i s,i+k=n->Inv i s->∃m,iter step m (pt i s)=out (eg f tail k i s):=by
  intro k
  induction k with
  | zero=>
   intro i s hi hs
   have :i=n:=by omega
   subst this
   obtain ⟨m,hm⟩:=h0 s hs
   exact ⟨m+1,hm⟩
  | succ k ih=>
   intro i s hi hs
   unfold eg
   cases hf:f i s with
   | inl s'=>
    have h:=h1 (fun _=>none) i s (by omega) hs
    obtain ⟨m,hm⟩:=ih (i+1) s' (by omega) (h.2 s' hf)
    refine ⟨m+1,?_⟩
    have h:=(h1 (iter step m) i s (by omega) hs).1
    rw [hf] at h
    exact h.trans hm
   | inr b=>
    refine ⟨1,?_⟩
    have h:=(h1 (iter step 0) i s (by omega) hs).1
    rw [hf] at h
    exact h
 exact key n 0 s (by omega) hs
def oO {β:Type}(out:β->aq){c:Bool}{x y:Nat->aq}{a b:β}(h1:c=true->∃n,x n=out a)(h2:c=false->∃n,y n=out b):∃n,(cond c (x n) (y n))=out (cond c a b):=by
 cases c
 ·exact h2 rfl
 ·exact h1 rfl
def oX {c:Bool}{x y:Nat->aq}{r:aq}(hc:c=true)(h:∃n,x n=r):∃n,(cond c (x n) (y n))=r:=by subst hc;exact h
def tG {c:Bool}{x y:Nat->aq}{r:aq}(hc:c=false)(h:∃n,y n=r):∃n,(cond c (x n) (y n))=r:=by subst hc;exact h
def sR {γ:Type}[RT γ]{o:Option γ}{b:γ}(h:o=some b){k:Nat->γ->aq}{r:aq}(hk:∃n,k n b=r):∃n,call o (k n)=r:=by
 obtain ⟨n,hn⟩:=hk
 exact ⟨n,by rw [call_eq h];exact hn⟩
def lH {β:Type}(out:β->aq){c:Bool}{x y:aq}{a b:β}(h1:c=true->x=out a)(h2:c=false->y=out b):(cond c x y)=out (cond c a b):=by
 cases c
 ·exact h2 rfl
 ·exact h1 rfl
def cG {c:Bool}{x y r:aq}(hc:c=true)(h:x=r):(cond c x y)=r:=by subst hc;exact h
def fO {α:Type}{xs:List α}{i:Nat}{z:α}(h:i<xs.length):xs.getD i z=xs[i]:=by simp [List.getD,h]
def cH {α:Type}{xs:List α}{i:Nat}{z:α}(h:¬i<xs.length):xs.getD i z=z:=by simp [List.getD];rw [List.getElem?_eq_none (by omega)];rfl
def rK {xs:List Int}{i:Nat}:uX (xs.map lW) i=xs.getD i 0:=by
 unfold uX
 by_cases h:i<xs.length
 ·rw [getD_map h,fO h];rfl
 ·rw [cH (by simpa using h),cH h];rfl
def rY {xs:List Bool}{i:Nat}:vi (xs.map qj) i=xs.getD i false:=by
 unfold vi
 by_cases h:i<xs.length
 ·rw [getD_map h,fO h];rfl
 ·rw [cH (by simpa using h),cH h];rfl
def rF {xs:List bE}{i:Nat}:vf (xs.map pY) i=xs.getD i ⟨#[]⟩:=by
 unfold vf
 by_cases h:i<xs.length
 ·rw [getD_map h,fO h];rfl
 ·rw [cH (by simpa using h),cH h];rfl
def rN {α:Type}{f:α->List L}{xs:List (List α)}{i:Nat}:vm (xs.map (qC f)) i=(xs.getD i []).map f:=by
 unfold vm
 by_cases h:i<xs.length
 ·rw [getD_map h,fO h];rfl
 ·rw [cH (by simpa using h),cH h];rfl
def mL {α β:Type}{row:α->List L}{dec:List L->β}{r:α->β}{z:α}{xs:List α}{i:Nat}(h1:∀x,dec (row x)=r x)(h2:dec []=r z):dec (List.getD (xs.map row) i [])=r (xs.getD i z):=by
 by_cases h:i<xs.length
 ·rw [getD_map h,fO h,h1]
 ·rw [cH (by simpa using h),cH h,h2]
def mG.getD {α:Type}{n:Nat}{p:α->Prop}{xs:List α}(h:mG n p xs){i:Nat}{z:α}(hi:i<xs.length):p (xs.getD i z):=by
 rw [fO hi];exact h.get hi
end Go.DM
namespace Go.DM
def qV {c:Bool}{x y r:aq}(hc:c=false)(h:y=r):(cond c x y)=r:=by subst hc;exact h
def sy {γ:Type}[RT γ]{o:Option γ}{k:γ->aq}{r:aq}(b:γ)(h:o=some b)(hk:k b=r):call o k=r:=(call_eq h k).trans hk
def oQ {γ:Type}[RT γ]{o:Option γ}{k:Nat->γ->aq}{r:aq}(b:γ)(h:o=some b)(hk:∃n,k n b=r):∃n,call o (k n)=r:=sR h hk
end Go.DM
namespace Go.DM
def iC (s:bE):List Int:=s.data.toList.map fun b=>(b.toNat:Int)
def pe (s:bE):dy s=(iC s).map lW:=by simp [dy,iC,lW]
def ku (s:bE):(iC s).length=s.size:=by simp [iC]
def kr (s:bE):(dy s).length=s.size:=by simp [dy]
def jU {f:Nat->Unit->Unit⊕Bool}{t:Unit->Bool}{n:Nat}(P:Nat->Prop)(h1:∀i,i<n->P i->f i ()=.inl ())(h2:∀i,i<n->¬P i->f i ()=.inr false):eg f t n 0 ()=true↔(∀i,i<n->P i)/\t ()=true:=by
 have key:∀k i,i+k=n->(eg f t k i ()=true↔(∀j,i<=j->j<n->P j)/\t ()=true):=by
  intro k
  induction k with
  | zero=>
   intro i hi
   constructor
   ·intro h;exact ⟨fun j h1 h2=>by omega,h⟩
   ·intro h;exact h.2
  | succ k ih=>
   intro i hi
   unfold eg
   by_cases hp:P i
   ·rw [h1 i (by omega) hp]
    show eg f t k (i+1) ()=true↔_
    rw [ih (i+1) (by omega)]
    constructor
    ·intro ⟨h,ht⟩
     refine ⟨fun j h1 h2=>?_,ht⟩
     by_cases hj:j=i
     ·subst hj;exact hp
     ·exact h j (by omega) h2
    ·intro ⟨h,ht⟩;exact ⟨fun j h1 h2=>h j (by omega) h2,ht⟩
   ·rw [h2 i (by omega) hp]
    constructor
    ·intro h;cases h
    ·intro ⟨h,_⟩;exact (hp (h i (Nat.le_refl _) (by omega))).elim
 rw [key n 0 (by omega)]
 simp
end Go.DM
namespace Go.DM
def oV {S β:Type}{f:Nat->S->S⊕β}{t:S->β}{k i:Nat}{s:S}:eg f t (k+1) i s=match f i s with | .inl s'=>eg f t k (i+1) s' | .inr b=>b:=rfl
def tD {Pt:Type}{step:(Pt->aq)->Pt->aq}{p q:Pt}{r:aq}(h:q=p)(k:∃n,iter step n p=r):∃n,iter step n q=r:=h ▸ k
end Go.DM
namespace Go.DM
end Go.DM
namespace Go.DM
def iJ {S β:Type}{f:Nat->S->S⊕β}{c:β}(h:∀i s b,f i s=.inr b->b=c):∀(k i:Nat) (s:S),eg f (fun _=>c) k i s=c
 | 0,_,_=>rfl
 | k+1,i,s=>by
  rw [oV]
  cases hf:f i s with
  | inl s'=>exact iJ h k _ _
  | inr b=>exact h _ _ _ hf
end Go.DM
namespace Go.DM
end Go.DM
namespace Go.DM
end Go.DM
namespace Go.DM
end Go.DM
namespace Go.DM
class Row (α:Type) where
 row:α->List L
 uF:∀{a b:α},row a=row b->a=b
class Im (α:Type) (β:outParam Type) where
 im:α->β
 inj:∀{a b:α},im a=im b->a=b
instance :Row Int:=⟨lW,rm⟩
instance :Row Bool:=⟨qj,qI⟩
instance :Row bE:=⟨pY,qW⟩
instance {α:Type} [Row α]:Row (List α):=⟨qC Row.row,rz Row.uF⟩
instance :Im Int Int:=⟨fun x=>x,fun h=>h⟩
instance :Im Bool Bool:=⟨fun x=>x,fun h=>h⟩
instance :Im bE bE:=⟨fun x=>x,fun h=>h⟩
instance :Im Unit Unit:=⟨fun x=>x,fun h=>h⟩
instance {α:Type} [Row α]:Im (List α) (aA):=⟨fun x=>x.map Row.row,fun h=>map_inj Row.uF h⟩
instance {α α' β β':Type} [Im α α'] [Im β β']:Im (α×β) (α'×β'):=⟨fun x=>(Im.im x.1,Im.im x.2),fun h=>Prod.ext (Im.inj (congrArg (fun x=>x.1) h)) (Im.inj (congrArg (fun x=>x.2) h))⟩
def u2 {a b r:Type}(f:a->b->r)(x:a×b):r:=f x.1 x.2
def u3 {a b c r:Type}(f:a->b->c->r)(x:a×b×c):r:=f x.1 x.2.1 x.2.2
def u4 {a b c d r:Type}(f:a->b->c->d->r)(x:a×b×c×d):r:=f x.1 x.2.1 x.2.2.1 x.2.2.2
def p2 {a b:Type}(f:a->b->Prop)(x:a×b):Prop:=f x.1 x.2
def p3 {a b c:Type}(f:a->b->c->Prop)(x:a×b×c):Prop:=f x.1 x.2.1 x.2.2
def p4 {a b c d:Type}(f:a->b->c->d->Prop)(x:a×b×c×d):Prop:=f x.1 x.2.1 x.2.2.1 x.2.2.2
def p5 {a b c d e:Type}(f:a->b->c->d->e->Prop)(x:a×b×c×d×e):Prop:=f x.1 x.2.1 x.2.2.1 x.2.2.2.1 x.2.2.2.2
section
variable {A A' B B':Type} [Im A A'] [Im B B'] {g:A->Prop} {m:A->B}
def RR (g:A->Prop)(m:A->B)(x:A'):Option B':=ofM Im.im g (fun a=>Im.im (m a)) x
theorem dM {a:A}(h:g a):RR g m (Im.im a)=some (Im.im (m a)):=tS (fun _ _ h=>Im.inj h) h
def CN [RT B'](ps:List gq)(r:RP)(acc:List L->A')(R:A'->Option B'):gv:=⟨ps,r,fun ls=>(R (acc ls)).map RT.enc⟩
theorem VP [RT B']{X:Type}{P:Program}{T:List (Nat×TI)}{G:List (Nat×gv)}{nt:Nat}{f:FuncId}{fn:Func}{ps:List gq}{r:RP}{acc:List L->A'}{accr:List L->X}{live:Nat->Live}{run:Nat->X->aq}
  (hm:P.follows .mixedOrders=true) (hT:ck P T=true) (hG:eD P (bZ T) G) (hf:P.funcs[f]?=some fn) (hb:sq fn (CN ps r acc (RR g m)) nt=true)
  (hrun:∀n ls,iH { T:=assoc T,G:=cq G,nt:=nt } live fn r n (eu ps ls)=run n (accr ls))
  (hok:∀ls a,nM (bZ T).cells ps ls->acc ls=Im.im a->g a->∃n,run n (accr ls)=ret (Im.im (m a))):Valid P (bZ T) f (CN ps r acc (RR g m)):=
 valid hm hT hG hf hb live fun ls q hl h=>by
  obtain ⟨v,hv,hq⟩:=map_some h
  obtain ⟨a,hg,e,hm⟩:=jD hv
  obtain ⟨n,hn⟩:=hok ls a hl e.symm hg
  exact ⟨n,(hrun n ls).trans (hn.trans (by rw [<-hq,<-hm];rfl))⟩
theorem VV [RT B']{P:Program}{T:List (Nat×TI)}{G:List (Nat×gv)}{nt:Nat}{f:FuncId}{fn:Func}{ps:List gq}{r:RP}{acc:List L->A'}{live:Nat->Live}{run:Nat->A'->aq}
  (hm:P.follows .mixedOrders=true) (hT:ck P T=true) (hG:eD P (bZ T) G) (hf:P.funcs[f]?=some fn) (hb:sq fn (CN ps r acc (RR g m)) nt=true)
  (hrun:∀n ls,iH { T:=assoc T,G:=cq G,nt:=nt } live fn r n (eu ps ls)=run n (acc ls))
  (hok:∀ls a,nM (bZ T).cells ps ls->acc ls=Im.im a->g a->∃n,run n (Im.im a)=ret (Im.im (m a))):Valid P (bZ T) f (CN ps r acc (RR g m)):=
 VP hm hT hG hf hb hrun fun ls a hl e hg=>by rw [e];exact hok ls a hl e hg
theorem VS [RT B']{P:Program}{T:List (Nat×TI)}{G:List (Nat×gv)}{S:List (Nat×jc)}{nt:Nat}{f:FuncId}{fn:Func}{ps:List gq}{r:RP}{acc:List L->A'}{live:Nat->Live}{run:Nat->A'->aq}
  (hm:P.follows .mixedOrders=true) (hT:ck P T=true) (hG:eD P (bZ T) G) (hS:jB P (bZ T) S) (hf:P.funcs[f]?=some fn) (hb:sq fn (CN ps r acc (RR g m)) nt=true)
  (hrun:∀n ls,iH { T:=assoc T,G:=cq G,nt:=nt,M:=fQ S } live fn r n (eu ps ls)=run n (acc ls))
  (hok:∀ls a,nM (bZ T).cells ps ls->acc ls=Im.im a->g a->∃n,run n (Im.im a)=ret (Im.im (m a))):Valid P (bZ T) f (CN ps r acc (RR g m)):=
 pE hm hT hG hS hf hb live fun ls q hl h=>by
  obtain ⟨v,hv,hq⟩:=map_some h
  obtain ⟨a,hg,e,hm⟩:=jD hv
  obtain ⟨n,hn⟩:=hok ls a hl e.symm hg
  exact ⟨n,(hrun n ls).trans (by rw [<-e];exact hn.trans (by rw [<-hq,<-hm];rfl))⟩
end
def S0:(∀(α β:Type) (f:α->β) (l:List α),(l.map f).length=l.length)/\(∀n:Nat,Int.toNat (n:Int)=n)/\(∀s:bE,dy s=(iC s).map lW)/\(∀(xs:List Int) i,uX (xs.map lW) i=xs.getD i 0)/\
  (∀(xs:List Bool) i,vi (xs.map qj) i=xs.getD i false)/\(∀(xs:List bE) i,vf (xs.map pY) i=xs.getD i ⟨#[]⟩)/\(∀(α:Type) (f:α->List L) (xs:List (List α)) i,vm (xs.map (qC f)) i=(xs.getD i []).map f):=
 ⟨fun _ _ _ _=>List.length_map ..,eo,pe,fun _ _=>rK,fun _ _=>rY,fun _ _=>rF,fun _ _ _ _=>rN⟩
def MP:(∀(α β:Type) (f:α->β) (a b:List α),(a++b).map f=a.map f++b.map f)/\(∀(α β:Type) (f:α->β) (a:α) (b:List α),(a::b).map f=f a::b.map f)/\(∀(α β:Type) (f:α->β),[].map f=[])/\
  (∀(α:Type) (a:α) (b c:List α),(a::b)++c=a::(b++c))/\(∀(α:Type) (c:List α),[]++c=c)/\(∀n,lW n=[.int n])/\(∀n,qj n=[.bool n])/\(∀n,pY n=[.str n])/\(∀(α:Type) (f:α->List L) (c:List α),qC f c=[.sl (c.map f)])/\
  (∀(α β:Type) (f:α->β) (l:List α) (i:Nat) (a:α),(l.set i a).map f=(l.map f).set i (f a))/\(∀(α β:Type) (f:α->β) (l:List α) (i:Nat),(l.take i).map f=(l.map f).take i)/\(∀(α β:Type) (f:α->β) (l:List α) (i:Nat),(l.drop i).map f=(l.map f).drop i):=
 ⟨fun _ _ _ _ _=>List.map_append ..,fun _ _ _ _ _=>rfl,fun _ _ _=>rfl,fun _ _ _ _=>rfl,fun _ _=>rfl,fun _=>rfl,fun _=>rfl,fun _=>rfl,fun _ _ _=>rfl,fun _ _ _ _ _ _=>List.map_set ..,fun _ _ _ _ _=>List.map_take ..,fun _ _ _ _ _=>List.map_drop ..⟩
def LN:(∀(a:Nat) (l:List Nat),(a::l).sum=a+l.sum)/\(([]:List Nat).sum=0)/\(∀(α β:Type) (f:α->β) (a:α) (b:List α),(a::b).map f=f a::b.map f)/\(∀(α β:Type) (f:α->β),[].map f=[])/\(∀s,(iC s).length=s.size)/\(∀s,(dy s).length=s.size)/\
  (∀(α:Type) (a b:List α),(a++b).length=a.length+b.length)/\(∀(α:Type) (a:α) (b:List α),(a::b).length=b.length+1)/\(∀(α:Type),([]:List α).length=0)/\(∀(α β:Type) (f:α->β) (l:List α),(l.map f).length=l.length)/\
  (∀(α:Type) (l:List α) (i:Nat) (a:α),(l.set i a).length=l.length)/\(∀(α:Type) (n:Nat) (a:α),(List.replicate n a).length=n)/\(∀(α:Type) (l:List α) (i:Nat),(l.take i).length=min i l.length)/\(∀(α:Type) (l:List α) (i:Nat),(l.drop i).length=l.length - i):=
 ⟨fun _ _=>List.sum_cons,rfl,fun _ _ _ _ _=>rfl,fun _ _ _=>rfl,ku,kr,fun _ _ _=>List.length_append ..,fun _ _ _=>rfl,fun _=>rfl,fun _ _ _ _=>List.length_map ..,fun _ _ _ _=>List.length_set ..,fun _ _ _=>List.length_replicate ..,fun _ _ _=>List.length_take ..,fun _ _ _=>List.length_drop ..⟩
def DC:(∀(α:Type) [BEq α] [LawfulBEq α] (a b:α),((a != b)=false)=(a=b))/\(∀(α:Type) [BEq α] [LawfulBEq α] (a b:α),((a != b)=true)=¬(a=b))/\(∀(α:Type) [BEq α] [LawfulBEq α] (a b:α),((a==b)=true)=(a=b))/\(∀(α:Type) [BEq α] [LawfulBEq α] (a b:α),((a==b)=false)=¬(a=b))/\
  (∀b:Bool,((!b)=true)=(b=false))/\(∀b:Bool,((!b)=false)=(b=true))/\(∀(p:Prop) [Decidable p],(decide p=true)=p)/\(∀(p:Prop) [Decidable p],(decide p=false)=¬p):=
 ⟨fun _ _ _ _ _=>by simp,fun _ _ _ _ _=>by simp,fun _ _ _ _ _=>by simp,fun _ _ _ _ _=>by simp,fun b=>by simp,fun b=>by simp,fun p _=>by simp,fun p _=>by simp⟩
def wi (n:Int)(h:-9223372036854775808<=n/\n<=9223372036854775807):IntKind.i64.wrap n=n:=Go.IntWalk.i64_in n h
end Go.DM
namespace Go.DM
end Go.DM
namespace Go.DM
def dt {p:Prop}{_:Decidable p}(h:p:=by (try simp (disch:=omega) only [LN,wi,Bool.cond_decide]);first | omega | (simp;done) | (simp;omega)):decide p=true:=decide_eq_true h
def df {p:Prop}{_:Decidable p}(h:¬p:=by (try simp (disch:=omega) only [LN,wi,Bool.cond_decide]);first | omega | (simp;done) | (simp;omega)):decide p=false:=decide_eq_false h
def ct {γ:Type}[RT γ]{o:Option γ}{b:γ}{k:γ->aq}{r:aq}(h:o=some b)(hk:k b=r):call o k=r:=sy b h hk
def cx {γ:Type}[RT γ]{o:Option γ}{b:γ}{k:Nat->γ->aq}{r:aq}(h:o=some b)(hk:∃n,k n b=r):∃n,call o (k n)=r:=oQ b h hk
def W1 {A A' Z Z':Type}[Im A A'][RT A'][Im Z Z'][RT Z']{P:Program}{T:List (Nat×TI)}{G:List (Nat×gv)}{f:FuncId}{fn:Func}{ps:List gq}{r:RP}{g:A->Prop}{m:A->Z}(nt:Nat)(F:A'->aq)(hm:P.follows .mixedOrders=true)(hT:ck P T=true)(ok:∀a0,g a0->F (Im.im a0)=ret (Im.im (m a0)))(hG:eD P (bZ T) G)(hf:P.funcs[f]?=some fn)
  (hb:sq fn (CN ps r (RT.dec:List L->A') (RR g m)) nt=true:=by kernel_rfl) (hr:∀n ls,iH { T:=assoc T,G:=cq G,nt:=nt } (fun _=>[]) fn r n (eu ps ls)=F (RT.dec ls:A'):=by intro _ _;kernel_rfl):Valid P (bZ T) f (CN ps r (RT.dec:List L->A') (RR g m)):=
 VV (run:=fun _ x=>F x) hm hT hG hf hb hr fun _ a _ _ h=>⟨0,ok a h⟩
def L1 {A A' Z Z':Type}[Im A A'][RT A'][Im Z Z'][RT Z']{P:Program}{T:List (Nat×TI)}{G:List (Nat×gv)}{f:FuncId}{fn:Func}{ps:List gq}{r:RP}{g:A->Prop}{m:A->Z}{Pt:Type}(nt:Nat)(id:Pt->Nat)(vs:Pt->List V)(hs:Pt->List af)(live:Nat->Live)(step:(Pt->aq)->Pt->aq)(start:(Pt->aq)->A'->aq)(hm:P.follows .mixedOrders=true)(hT:ck P T=true)(ok:∀a0,g a0->∃n,start (iter step n) (Im.im a0)=ret (Im.im (m a0)))(hG:eD P (bZ T) G)(hf:P.funcs[f]?=some fn)
  (hb:sq fn (CN ps r (RT.dec:List L->A') (RR g m)) nt=true:=by kernel_rfl) (h1:∀(I:cS) (p:Pt),bM { T:=assoc T,G:=cq G,nt:=nt } live I (id p) (bn fn) (mA (live (id p)) (vs p) (hs p)) (dw { T:=assoc T,G:=cq G,nt:=nt } fn r)=step (fun q=>I (id q) (vs q) (hs q)) p:=by intro _ p;cases p<;>kernel_rfl)
  (h0:∀(I:cS) (ls:List L),eY { T:=assoc T,G:=cq G,nt:=nt } live I (bn fn) (eu ps ls) (dw { T:=assoc T,G:=cq G,nt:=nt } fn r)=start (fun q=>I (id q) (vs q) (hs q)) (RT.dec ls:A'):=by intro _ _;kernel_rfl):Valid P (bZ T) f (CN ps r (RT.dec:List L->A') (RR g m)):=
 VV (run:=fun n x=>start (iter step n) x) hm hT hG hf hb (fun n ls=>iw (start:=fun J=>start J (RT.dec ls:A')) h1 (fun I=>h0 I ls) n) fun _ a _ _ h=>ok a h
def W2 {A A' B B' Z Z':Type}[Im A A'][RT A'][Im B B'][RT B'][Im Z Z'][RT Z']{P:Program}{T:List (Nat×TI)}{G:List (Nat×gv)}{f:FuncId}{fn:Func}{ps:List gq}{r:RP}{g:A->B->Prop}{m:A->B->Z}(nt:Nat)(F:A'->B'->aq)(hm:P.follows .mixedOrders=true)(hT:ck P T=true)(ok:∀a0 a1,g a0 a1->F (Im.im a0) (Im.im a1)=ret (Im.im (m a0 a1)))(hG:eD P (bZ T) G)(hf:P.funcs[f]?=some fn)
  (hb:sq fn (CN ps r (RT.dec:List L->A'×B') (RR (p2 g) (u2 m))) nt=true:=by kernel_rfl) (hr:∀n ls,iH { T:=assoc T,G:=cq G,nt:=nt } (fun _=>[]) fn r n (eu ps ls)=F (RT.dec ls:A'×B').1 (RT.dec ls:A'×B').2:=by intro _ _;kernel_rfl):Valid P (bZ T) f (CN ps r (RT.dec:List L->A'×B') (RR (p2 g) (u2 m))):=
 VV (run:=fun _ x=>F x.1 x.2) hm hT hG hf hb hr fun _ a _ _ h=>⟨0,ok a.1 a.2 h⟩
def L2 {A A' B B' Z Z':Type}[Im A A'][RT A'][Im B B'][RT B'][Im Z Z'][RT Z']{P:Program}{T:List (Nat×TI)}{G:List (Nat×gv)}{f:FuncId}{fn:Func}{ps:List gq}{r:RP}{g:A->B->Prop}{m:A->B->Z}{Pt:Type}(nt:Nat)(id:Pt->Nat)(vs:Pt->List V)(hs:Pt->List af)(live:Nat->Live)(step:(Pt->aq)->Pt->aq)(start:(Pt->aq)->A'->B'->aq)(hm:P.follows .mixedOrders=true)(hT:ck P T=true)(ok:∀a0 a1,g a0 a1->∃n,start (iter step n) (Im.im a0) (Im.im a1)=ret (Im.im (m a0 a1)))(hG:eD P (bZ T) G)(hf:P.funcs[f]?=some fn)
  (hb:sq fn (CN ps r (RT.dec:List L->A'×B') (RR (p2 g) (u2 m))) nt=true:=by kernel_rfl) (h1:∀(I:cS) (p:Pt),bM { T:=assoc T,G:=cq G,nt:=nt } live I (id p) (bn fn) (mA (live (id p)) (vs p) (hs p)) (dw { T:=assoc T,G:=cq G,nt:=nt } fn r)=step (fun q=>I (id q) (vs q) (hs q)) p:=by intro _ p;cases p<;>kernel_rfl)
  (h0:∀(I:cS) (ls:List L),eY { T:=assoc T,G:=cq G,nt:=nt } live I (bn fn) (eu ps ls) (dw { T:=assoc T,G:=cq G,nt:=nt } fn r)=start (fun q=>I (id q) (vs q) (hs q)) (RT.dec ls:A'×B').1 (RT.dec ls:A'×B').2:=by intro _ _;kernel_rfl):Valid P (bZ T) f (CN ps r (RT.dec:List L->A'×B') (RR (p2 g) (u2 m))):=
 VV (run:=fun n x=>start (iter step n) x.1 x.2) hm hT hG hf hb (fun n ls=>iw (start:=fun J=>start J (RT.dec ls:A'×B').1 (RT.dec ls:A'×B').2) h1 (fun I=>h0 I ls) n) fun _ a _ _ h=>ok a.1 a.2 h
def W3 {A A' B B' C C' Z Z':Type}[Im A A'][RT A'][Im B B'][RT B'][Im C C'][RT C'][Im Z Z'][RT Z']{P:Program}{T:List (Nat×TI)}{G:List (Nat×gv)}{f:FuncId}{fn:Func}{ps:List gq}{r:RP}{g:A->B->C->Prop}{m:A->B->C->Z}(nt:Nat)(F:A'->B'->C'->aq)(hm:P.follows .mixedOrders=true)(hT:ck P T=true)(ok:∀a0 a1 a2,g a0 a1 a2->F (Im.im a0) (Im.im a1) (Im.im a2)=ret (Im.im (m a0 a1 a2)))(hG:eD P (bZ T) G)(hf:P.funcs[f]?=some fn)
  (hb:sq fn (CN ps r (RT.dec:List L->A'×B'×C') (RR (p3 g) (u3 m))) nt=true:=by kernel_rfl) (hr:∀n ls,iH { T:=assoc T,G:=cq G,nt:=nt } (fun _=>[]) fn r n (eu ps ls)=F (RT.dec ls:A'×B'×C').1 (RT.dec ls:A'×B'×C').2.1 (RT.dec ls:A'×B'×C').2.2:=by intro _ _;kernel_rfl):Valid P (bZ T) f (CN ps r (RT.dec:List L->A'×B'×C') (RR (p3 g) (u3 m))):=
 VV (run:=fun _ x=>F x.1 x.2.1 x.2.2) hm hT hG hf hb hr fun _ a _ _ h=>⟨0,ok a.1 a.2.1 a.2.2 h⟩
def uh (c:Bool)(x:aq):aq:=bif c then x else none
def m2 (v n:Int)(x:aq):aq:=bif decide (0<=v) then (cond (decide (v<n)) x none) else none
def m3 (v n:Int)(x:aq):aq:=bif decide (0<=v) then (cond (decide (v<n)) (cond (Nat.beq (Int.toNat v) (Int.toNat v)&&true) x none) none) else none
def MM:(∀c x,uh c x=bif c then x else none)/\(∀v n x,m2 v n x=bif decide (0<=v) then (cond (decide (v<n)) x none) else none)/\(∀v n x,m3 v n x=bif decide (0<=v) then (cond (decide (v<n)) (cond (Nat.beq (Int.toNat v) (Int.toNat v)&&true) x none) none) else none):=⟨fun _ _=>rfl,fun _ _ _=>rfl,fun _ _ _=>rfl⟩
abbrev pI:gq:=.rd (.int .i64)
abbrev pS:gq:=.rd .str
abbrev pL (e:Nat):gq:=.rd (.sl e)
abbrev oI:RP:=.one (.rd (.int .i64))
abbrev oB:RP:=.one (.rd .bool)
abbrev oL (e:Nat):RP:=.one (.fr e)
abbrev fI:Lf:=.rd (.int .i64)
abbrev fS:Lf:=.rd .str
abbrev fB:Lf:=.rd .bool
end Go.DM
set_option linter.unusedSectionVars false
namespace Go.DM
section
variable {P:Program} {E:Env} {w0 w w':World} {ans:List L}
end
section
variable {T:Nat->List K} {w w' w0:World} {A A':aC} {rs:List Nat} {np:Nat} {M:Mem np} {hp:Nat->af}
end
section
variable {E:Env} {w0 w:World} {np:Nat} {M:Mem np} {A B:aC} {hp:Nat->af} {ans:List L} {Z:Nat->Prop} {r:Nat}
end
section
variable {P:Program} {E:Env}
end
section
variable {P:Program} {T:List (Nat×TI)} {G:List (Nat×gv)} {S:List (Nat×jc)} {I:List (Nat×mu)} {nt:Nat} {mt:Bool} {J:List Nat}
end
section
variable {A A' B B':Type} [Im A A'] [Im B B'] {g:A->Prop} {m:A->B}
end
def bs {β:Type}[RT β]{c:Bool}{x y:aq}{a b:β}(h1:c=true->x=ret a)(h2:c=false->y=ret b):(cond c x y)=ret (cond c a b):=lH ret h1 h2
end Go.DM
set_option linter.unusedSectionVars false
namespace Go.DM
section
variable {P:Program} {E:Env}
end
end Go.DM
namespace Go.DM
end Go.DM

end
