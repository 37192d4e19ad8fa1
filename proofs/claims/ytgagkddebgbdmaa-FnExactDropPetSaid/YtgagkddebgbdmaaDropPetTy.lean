/- The structures of the program, as mathematical records. Conditions: none. -/
import Derived.Test.YtgagkddebgbdmaaDropPetDd
set_option linter.all false
noncomputable section
namespace Go.DM
structure bk where
 fName:aA
 eu:Int
def bk.enc (x:bk):List L:=[.str x.fName,.int x.eu]
def bk.dec (r:List L):bk:=⟨((aD 0 r).headD .hole).toStr,((aD 1 r).headD .hole).toInt⟩
instance :RT bk:=⟨bk.enc,bk.dec,2,fun _ _=>rfl,fun _ _=>rfl⟩
def bk.at (xs:av)(i:Nat):bk:=bk.dec (List.getD xs i [])
def bk.row (x:bk):List L:=bk.enc x
def bk.zero:bk:=⟨⟨#[]⟩,0⟩
def bk.nT {a b:bk}(h:bk.row a=bk.row b):a=b:=congrArg bk.dec h
def bk.nq {xs:List bk}{i:Nat}:bk.at (xs.map bk.row) i=xs.getD i bk.zero:=qg (r:=fun x=>x) (fun _=>rfl) rfl
instance :Row bk:=⟨bk.row,bk.nT⟩
instance :Im bk bk:=⟨fun x=>x,fun h=>h⟩
def bk.rs:(∀(xs:List bk) (i:Nat),bk.at (xs.map bk.row) i=xs.getD i bk.zero):=fun _ _=>bk.nq
structure aa where
 fName:aA
 eu:Int
def aa.enc (x:aa):List L:=[.str x.fName,.int x.eu]
def aa.dec (r:List L):aa:=⟨((aD 0 r).headD .hole).toStr,((aD 1 r).headD .hole).toInt⟩
instance :RT aa:=⟨aa.enc,aa.dec,2,fun _ _=>rfl,fun _ _=>rfl⟩
def aa.at (xs:av)(i:Nat):aa:=aa.dec (List.getD xs i [])
def aa.row (x:aa):List L:=aa.enc x
def aa.zero:aa:=⟨⟨#[]⟩,0⟩
def aa.nT {a b:aa}(h:aa.row a=aa.row b):a=b:=congrArg aa.dec h
def aa.nA {xs:List aa}{i:Nat}(h:i<xs.length):aa.at (xs.map aa.row) i=xs[i]:=by unfold aa.at;rw [getD_map h];rfl
def aa.nq {xs:List aa}{i:Nat}:aa.at (xs.map aa.row) i=xs.getD i aa.zero:=qg (r:=fun x=>x) (fun _=>rfl) rfl
instance :Row aa:=⟨aa.row,aa.nT⟩
instance :Im aa aa:=⟨fun x=>x,fun h=>h⟩
def aa.rs:(∀(xs:List aa) (i:Nat),aa.at (xs.map aa.row) i=xs.getD i aa.zero):=fun _ _=>aa.nq
def aa.Sm (n:Nat)(x:aa):Prop:=(x.fName).size<=n
def aa.size (x:aa):Nat:=(x.fName).size
def aa.cY {n m:Nat}(hn:n<=m){x:aa}(h:aa.Sm n x):aa.Sm m x:=Nat.le_trans h hn
def aa.vL {n:Nat}{x:aa}(h:x.size<=n):aa.Sm n x:=by
 unfold aa.size at h
 have g0:(x.fName).size<=n:=by omega
 exact g0
def SS:=And.intro (And.intro S0 MM) (And.intro bk.rs (And.intro aa.rs trivial))
def fz {p:Prop}(h:p:=by first | rfl | (simp only [SS];done) | (simp only [MP];rfl) | (simp only [SS,MP];first | done | rfl) | (simp only [SS,MP];first | done | rfl) | (simp only [SS,MP,List.length_take,List.length_drop];first | done | rfl)):p:=h
def rq {p q:Prop}(h:p)(k:p->q:=by intro R_;first | exact R_ | (simp only [MP,SS] at R_ ⊢;first | exact R_ | (rw [<-R_];rfl))):q:=k h
end Go.DM

end
