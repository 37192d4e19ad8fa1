/- The structures of the program, as mathematical records. Conditions: none. -/
import Derived.Test.YtgagkddebgbdmaaAreRootsDd
set_option linter.all false
noncomputable section
namespace Go.DM
structure aa where
 fName:bE
 bG:Int
def aa.enc (x:aa):List L:=[.str x.fName,.int x.bG]
def aa.dec (r:List L):aa:=⟨((aU 0 r).headD .hole).toStr,((aU 1 r).headD .hole).toInt⟩
instance :RT aa:=⟨aa.enc,aa.dec,2,fun _ _=>rfl,fun _ _=>rfl⟩
def aa.at (xs:aA)(i:Nat):aa:=aa.dec (List.getD xs i [])
def aa.row (x:aa):List L:=aa.enc x
def aa.zero:aa:=⟨⟨#[]⟩,0⟩
def aa.lR {a b:aa}(h:aa.row a=aa.row b):a=b:=congrArg aa.dec h
def aa.mD {xs:List aa}{i:Nat}(h:i<xs.length):aa.at (xs.map aa.row) i=xs[i]:=by unfold aa.at;rw [getD_map h];rfl
def aa.lP {xs:List aa}{i:Nat}:aa.at (xs.map aa.row) i=xs.getD i aa.zero:=mL (r:=fun x=>x) (fun _=>rfl) rfl
instance :Row aa:=⟨aa.row,aa.lR⟩
instance :Im aa aa:=⟨fun x=>x,fun h=>h⟩
def aa.rs:(∀(xs:List aa) (i:Nat),aa.at (xs.map aa.row) i=xs.getD i aa.zero):=fun _ _=>aa.lP
def aa.Sm (n:Nat)(x:aa):Prop:=(x.fName).size<=n
def aa.size (x:aa):Nat:=(x.fName).size
def aa.eI {n m:Nat}(hn:n<=m){x:aa}(h:aa.Sm n x):aa.Sm m x:=Nat.le_trans h hn
def aa.uq {n:Nat}{x:aa}(h:x.size<=n):aa.Sm n x:=by
 unfold aa.size at h
 have g0:(x.fName).size<=n:=by omega
 exact g0
structure bN where
 fName:bE
 bG:Int
def bN.enc (x:bN):List L:=[.str x.fName,.int x.bG]
def bN.dec (r:List L):bN:=⟨((aU 0 r).headD .hole).toStr,((aU 1 r).headD .hole).toInt⟩
instance :RT bN:=⟨bN.enc,bN.dec,2,fun _ _=>rfl,fun _ _=>rfl⟩
def bN.at (xs:aA)(i:Nat):bN:=bN.dec (List.getD xs i [])
def bN.row (x:bN):List L:=bN.enc x
def bN.zero:bN:=⟨⟨#[]⟩,0⟩
def bN.lR {a b:bN}(h:bN.row a=bN.row b):a=b:=congrArg bN.dec h
def bN.lP {xs:List bN}{i:Nat}:bN.at (xs.map bN.row) i=xs.getD i bN.zero:=mL (r:=fun x=>x) (fun _=>rfl) rfl
instance :Row bN:=⟨bN.row,bN.lR⟩
instance :Im bN bN:=⟨fun x=>x,fun h=>h⟩
def bN.rs:(∀(xs:List bN) (i:Nat),bN.at (xs.map bN.row) i=xs.getD i bN.zero):=fun _ _=>bN.lP
def SS:=And.intro (And.intro S0 MM) (And.intro aa.rs (And.intro bN.rs trivial))
def fz {p:Prop}(h:p:=by first | rfl | (simp only [SS];done) | (simp only [MP];rfl) | (simp only [SS,MP];first | done | rfl) | (simp only [SS,MP];first | done | rfl) | (simp only [SS,MP,List.length_take,List.length_drop];first | done | rfl)):p:=h
end Go.DM

end
